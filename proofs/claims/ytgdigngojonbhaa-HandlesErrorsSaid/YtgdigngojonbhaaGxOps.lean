/- The engine's rules for single operations. -/
import Derived.Test.YtgdigngojonbhaaGxMem
namespace Gx
open Go Go.RowKit

/-- A string of these bytes. -/
def bs (l : List UInt8) : ByteArray := ⟨⟨l⟩⟩
@[simp] theorem bs_size (l : List UInt8) : (bs l).size = l.length := rfl
@[simp] theorem bs_data (l : List UInt8) : (bs l).data.toList = l := rfl
theorem bs_of (s : ByteArray) : s = bs s.data.toList := rfl
theorem bs_inj {l m : List UInt8} (h : bs l = bs m) : l = m := congrArg (fun s : ByteArray => s.data.toList) h

/-- ρ agrees with what is known of the slots. -/
def Agr (L : Slots) (ρ : Operand → Value) : Prop := ∀ x v, ev L x = some v → ρ x = v
/-- What an operation came to. -/
def Res (P : Program) (Post : Value → World → Prop) : Result Next → Prop
  | .ok (.value v) w' => Post v w'
  | .ok .skip w' => Post undef w'
  | .ok (.enter f args) w' => Calls P f args w' fun e w'' => ∃ v, e = .returned v ∧ Post v w''
  | _ => False
theorem wp_of_res {P : Program} {o : Oper} {a : Act} {w : World} {K : Act → World → Prop} {Q : Exit → Act → World → Prop} {Post : Value → World → Prop}
    (h : Res P Post ((execOp a.eval o).run P w)) (hk : ∀ v w', Post v w' → K (a.put o.dst v) w') : o.wp P a w K Q := by
  unfold Oper.wp
  generalize (execOp a.eval o).run P w = r at *
  cases r with
  | halt x w' => cases h
  | ok x w' =>
    cases x <;> first | exact hk _ _ h | exact hk _ _ (show Post undef _ from h) | cases h | skip
    exact Calls.mono h fun e w'' he => by obtain ⟨v, rfl, hp⟩ := he; exact hk _ _ hp
/-- The operation yields v in every world of the class, and writes to nothing old. -/
def OpQ (P : Program) (o : Oper) (L : Slots) (C : World → Prop) (v : Value) : Prop :=
  ∀ ρ w, Agr L ρ → C w → Res P (fun u w' => u = v ∧ Below w.heap.size w w') ((execOp ρ o).run P w)
/-- The operation yields V g, for some g, and leads to the class C' g. -/
def OpH (P : Program) (o : Oper) (L : Slots) (C : World → Prop) {G : Type} (V : G → Value) (F : G → Prop) (C' : G → World → Prop) : Prop :=
  ∀ ρ w, Agr L ρ → C w → Res P (fun u w' => ∃ g, u = V g ∧ F g ∧ C' g w') ((execOp ρ o).run P w)
/-- .. without looking into memory. -/
def OpP (P : Program) (o : Oper) (L : Slots) (v : Value) : Prop := ∀ ρ w, Agr L ρ → (execOp ρ o).run P w = .ok (.value v) w
theorem OpP.q {P : Program} {o : Oper} {L : Slots} {v : Value} (h : OpP P o L v) (C : World → Prop) : OpQ P o L C v := fun ρ w hρ _ => by rw [h ρ w hρ]; exact ⟨rfl, Below.refl _ _⟩
def Stable (C : World → Prop) : Prop := ∀ w w', C w → Below w.heap.size w w' → C w'
theorem HS.stab (w0 : World) (M : List Nat) (As : List HA) : Stable (HS w0 M As) := fun _ _ h hb => h.stable hb
theorem Res.mono {P : Program} {Post Post' : Value → World → Prop} {r : Result Next} (h : Res P Post r) (hp : ∀ v w, Post v w → Post' v w) : Res P Post' r := by
  cases r with
  | halt x w' => cases h
  | ok x w' => cases x <;> first | exact hp _ _ h | exact hp _ _ (show Post undef _ from h) | cases h | exact Calls.mono h fun e w'' ⟨v, he, hp'⟩ => ⟨v, he, hp _ _ hp'⟩
theorem OpQ.h {P : Program} {o : Oper} {L : Slots} {C : World → Prop} {v : Value} (h : OpQ P o L C v) (hs : Stable C) : OpH P o L C (fun _ : Unit => v) (fun _ => True) (fun _ => C) :=
  fun ρ w hρ hc => (h ρ w hρ hc).mono fun _ w' ⟨h1, h2⟩ => ⟨(), h1, trivial, hs w w' hc h2⟩
theorem FR.agr {n : Nat} {L : Slots} {a : Act} (h : FR n L a) : Agr L a.eval := fun _ _ hx => h.evl hx

section
variable {X : Ctx} {ops : Array Oper} {rest : List Oper} {k : List KI} {L : Slots} {C : World → Prop} {d ty : Nat} {op : Op} {pos : String} {aft : Array Edge}
theorem o_h {G : Type} {V : G → Value} {F : G → Prop} {C' : G → World → Prop} (h : OpH X.P ⟨some d, op, ty, pos, aft, none⟩ L C V F C') (hd : Nat.blt d X.n = true) (next : ∀ g, F g → O X ops rest k ((d, V g) :: L) (C' g)) :
    O X ops (⟨some d, op, ty, pos, aft, none⟩ :: rest) k L C := by
  intro a w ha hw
  refine wpList_plain rfl fun K hK => ?_
  exact wp_of_res (h a.eval w ha.agr hw) fun v w' ⟨g, hv, hf, hc⟩ => by subst hv; exact hK _ _ (next g hf _ _ (ha.put d _ hd) hc)
theorem o_h0 {G : Type} {V : G → Value} {F : G → Prop} {C' : G → World → Prop} (h : OpH X.P ⟨none, op, ty, pos, aft, none⟩ L C V F C') (next : ∀ g, F g → O X ops rest k L (C' g)) :
    O X ops (⟨none, op, ty, pos, aft, none⟩ :: rest) k L C := by
  intro a w ha hw
  refine wpList_plain rfl fun K hK => ?_
  exact wp_of_res (h a.eval w ha.agr hw) fun v w' ⟨g, hv, hf, hc⟩ => by subst hv; exact hK _ _ (next g hf _ _ ha hc)
theorem o_q {w0 : World} {M : List Nat} {As : List HA} {v : Value} (h : OpQ X.P ⟨some d, op, ty, pos, aft, none⟩ L (HS w0 M As) v) (hd : Nat.blt d X.n = true) (next : O X ops rest k ((d, v) :: L) (HS w0 M As)) :
    O X ops (⟨some d, op, ty, pos, aft, none⟩ :: rest) k L (HS w0 M As) := o_h (h.h (HS.stab _ _ _)) hd fun _ _ => next
theorem o_q0 {w0 : World} {M : List Nat} {As : List HA} {v : Value} (h : OpQ X.P ⟨none, op, ty, pos, aft, none⟩ L (HS w0 M As) v) (next : O X ops rest k L (HS w0 M As)) :
    O X ops (⟨none, op, ty, pos, aft, none⟩ :: rest) k L (HS w0 M As) := o_h0 (h.h (HS.stab _ _ _)) fun _ _ => next
/-! ### Guards -/
theorem o_on {j : Nat} {want : Bool} {dst : Option Nat} (dj : Nat) (b : Bool) (hj : (ops[j]?).bind (·.dst) = some dj) (hb : Slots.get L dj = some (.bool b)) (hw : b = want)
    (h : O X ops (⟨dst, op, ty, pos, aft, none⟩ :: rest) k L C) : O X ops (⟨dst, op, ty, pos, aft, some (j, want)⟩ :: rest) k L C := by
  intro a w ha hw'
  have h1 := h a w ha hw'
  have hy : yielded ops a.tmps j = some b := by simp [yielded, hj, ha.slot _ _ hb]
  unfold wpList at h1 ⊢
  have hwant : Region.wanted ⟨dst, op, ty, pos, aft, some (j, want)⟩ (yielded ops a.tmps) = true := by simp [Region.wanted, hy, hw]
  rw [if_pos hwant]
  rw [if_pos (by simp [Region.wanted])] at h1
  exact h1
theorem o_off {j : Nat} {want : Bool} (dj : Nat) (b : Bool) (hj : (ops[j]?).bind (·.dst) = some dj) (hb : Slots.get L dj = some (.bool b)) (hw : b = !want) (hd : Nat.blt d X.n = true)
    (h : O X ops rest k ((d, undef) :: L) C) : O X ops (⟨some d, op, ty, pos, aft, some (j, want)⟩ :: rest) k L C := by
  intro a w ha hw'
  have hy : yielded ops a.tmps j = some b := by simp [yielded, hj, ha.slot _ _ hb]
  unfold wpList
  rw [if_neg (by simp [Region.wanted, hy, hw])]
  exact h _ _ (ha.put d _ hd) hw'
theorem o_off' {j : Nat} {want : Bool} (dj : Nat) (hj : (ops[j]?).bind (·.dst) = some dj) (hb : Slots.get L dj = some undef) (hd : Nat.blt d X.n = true)
    (h : O X ops rest k ((d, undef) :: L) C) : O X ops (⟨some d, op, ty, pos, aft, some (j, want)⟩ :: rest) k L C := by
  intro a w ha hw'
  have hy : yielded ops a.tmps j = none := by simp [yielded, hj, ha.slot _ _ hb, undef]
  unfold wpList
  rw [if_neg (by simp [Region.wanted, hy])]
  exact h _ _ (ha.put d _ hd) hw'
theorem o_off0 {j : Nat} {want : Bool} (dj : Nat) (b : Bool) (hj : (ops[j]?).bind (·.dst) = some dj) (hb : Slots.get L dj = some (.bool b)) (hw : b = !want)
    (h : O X ops rest k L C) : O X ops (⟨none, op, ty, pos, aft, some (j, want)⟩ :: rest) k L C := by
  intro a w ha hw'
  have hy : yielded ops a.tmps j = some b := by simp [yielded, hj, ha.slot _ _ hb]
  unfold wpList
  rw [if_neg (by simp [Region.wanted, hy, hw])]
  exact h _ _ ha hw'
/-- A place in a region where ways meet. -/
theorem wpList_append {P : Program} {ops : Array Oper} {Q Q' : Exit → Act → World → Prop} : ∀ (l r : List Oper) (a : Act) (w : World), wpList P ops Q' l a w → (∀ a w, Q' .normal a w → wpList P ops Q r a w) → (∀ e a w, e ≠ .normal → Q' e a w → Q e a w) →
    wpList P ops Q (l ++ r) a w
  | [], r, a, w, h, h1, _ => h1 a w h
  | o :: l, r, a, w, h, h1, h2 => by
    rw [List.cons_append]
    unfold wpList at h ⊢
    split
    · rename_i hw
      rw [if_pos hw] at h
      rcases h with h | ⟨h3, h4⟩
      · refine .inl ?_
        have hm := Oper.wp_mono (fun a w h => wpList_append l r a w h h1 h2) h
        unfold Oper.wp at hm ⊢
        generalize (execOp a.eval o).run P w = res at hm ⊢
        cases res with
        | ok x w' =>
          cases x <;> simp only [Oper.upon] at hm ⊢ <;> first | exact hm | skip
          exact Calls.mono hm fun e w'' he => by
            cases e with
            | returned v => exact he
            | panicked ch => exact h2 _ _ _ (by simp) he
            | outgrown => obtain ⟨a', w3, hq⟩ := he; exact ⟨a', w3, h2 _ _ _ (by simp) hq⟩
        | halt x w' =>
          cases x <;> simp only [Oper.upon] at hm ⊢ <;> first | exact hm | exact h2 _ _ _ (by simp) hm
      · obtain ⟨a', w', hq⟩ := h4
        exact .inr ⟨h3, a', w', h2 _ _ _ (by simp) hq⟩
    · rename_i hw
      rw [if_neg hw] at h
      exact wpList_append l r _ _ h h1 h2
theorem post_join_past {J : Act → World → Prop} (e : Exit) (a : Act) (w : World) (he : e ≠ .normal) (h : post X (.join J :: k) e a w) : post X k e a w := by
  cases e <;> first | exact absurd rfl he | exact h
theorem o_cut {α : Type} (m : Nat) (LJ : α → Slots) (CJ : α → World → Prop) {l : List Oper} (h1 : O X ops (l.take m) (.join (At X.n LJ CJ) :: k) L C) (h2 : ∀ x, O X ops (l.drop m) k (LJ x) (CJ x)) : O X ops l k L C := by
  intro a w ha hw
  have := wpList_append (Q := post X k) _ (l.drop m) a w (h1 a w ha hw) (fun a w ⟨x, hx, hc⟩ => h2 x a w hx hc) (fun e a w he h => post_join_past e a w he h)
  rwa [List.take_append_drop] at this
/-- 'a && b': the operations of b are carried out only where a holds; both ways meet behind the pick. -/
theorem o_and (m dj dp : Nat) (b c : Bool) {l : List Oper} (hb : Slots.get L dj = some (.bool b))
    (h1 : b = true → O X ops (l.take m) (.join (At X.n (fun _ : Unit => (dp, .bool c) :: L) (fun _ => C)) :: k) L C)
    (h0 : b = false → O X ops (l.take m) (.join (At X.n (fun _ : Unit => (dp, .bool false) :: L) (fun _ => C)) :: k) L C)
    (h2 : O X ops (l.drop m) k ((dp, .bool (b && c)) :: L) C) : O X ops l k L C := by
  refine o_cut (α := Unit) m (fun _ => (dp, .bool (b && c)) :: L) (fun _ => C) ?_ (fun _ => h2)
  cases b with
  | true => simpa using h1 rfl
  | false => simpa using h0 rfl
theorem o_or (m dj dp : Nat) (b c : Bool) {l : List Oper} (hb : Slots.get L dj = some (.bool b))
    (h1 : b = false → O X ops (l.take m) (.join (At X.n (fun _ : Unit => (dp, .bool c) :: L) (fun _ => C)) :: k) L C)
    (h0 : b = true → O X ops (l.take m) (.join (At X.n (fun _ : Unit => (dp, .bool true) :: L) (fun _ => C)) :: k) L C)
    (h2 : O X ops (l.drop m) k ((dp, .bool (b || c)) :: L) C) : O X ops l k L C := by
  refine o_cut (α := Unit) m (fun _ => (dp, .bool (b || c)) :: L) (fun _ => C) ?_ (fun _ => h2)
  cases b with
  | true => simpa using h0 rfl
  | false => simpa using h1 rfl
end

/-! ## Operations that only reckon -/
def kEq : IntKind → IntKind → Bool
  | .i8, .i8 | .i16, .i16 | .i32, .i32 | .i64, .i64 | .u8, .u8 | .u16, .u16 | .u32, .u32 | .u64, .u64 => true
  | _, _ => false
theorem kEq_eq {a b : IntKind} (h : kEq a b = true) : a = b := by cases a <;> cases b <;> first | rfl | cases h
def bits (op : BinOp) (k : IntKind) (x y : Int) : Int :=
  match op with
  | .and => k.wrap (BitVec.ofInt k.bits x &&& BitVec.ofInt k.bits y).toNat
  | .or => k.wrap (BitVec.ofInt k.bits x ||| BitVec.ofInt k.bits y).toNat
  | .xor => k.wrap (BitVec.ofInt k.bits x ^^^ BitVec.ofInt k.bits y).toNat
  | _ => k.wrap (BitVec.ofInt k.bits x &&& ~~~ BitVec.ofInt k.bits y).toNat
def pureInt (op : BinOp) (k : IntKind) (a b : Int) : Option Value :=
  match op with
  | .add => some (.int k (k.wrap (a + b)))
  | .sub => some (.int k (k.wrap (a - b)))
  | .mul => some (.int k (k.wrap (a * b)))
  | .eql => some (.bool (decide (a = b)))
  | .neq => some (.bool (!decide (a = b)))
  | .lss => some (.bool (decide (a < b)))
  | .leq => some (.bool (decide (a ≤ b)))
  | .gtr => some (.bool (decide (b < a)))
  | .geq => some (.bool (decide (b ≤ a)))
  | .and => some (.int k (bits .and k a b))
  | .or => some (.int k (bits .or k a b))
  | .xor => some (.int k (bits .xor k a b))
  | .andNot => some (.int k (bits .andNot k a b))
  | _ => none
def pureStr (op : BinOp) (l m : List UInt8) : Option Value :=
  match op with
  | .eql => some (.bool (decide (l = m)))
  | .neq => some (.bool (!decide (l = m)))
  | .lss => some (.bool (Op.bytesLess l m))
  | .leq => some (.bool (Op.bytesLess l m || decide (l = m)))
  | .gtr => some (.bool (!(Op.bytesLess l m || decide (l = m))))
  | .geq => some (.bool (!Op.bytesLess l m))
  | _ => none
def pureBin (op : BinOp) (x y : Value) : Option Value :=
  match x, y with
  | .int k a, .int k' b => bif kEq k k' then pureInt op k a b else none
  | .string ⟨⟨l⟩⟩, .string ⟨⟨m⟩⟩ => pureStr op l m
  | _, _ => none
def pureUn (op : UnOp) (x : Value) : Option Value :=
  match op, x with
  | .not, .bool b => some (.bool (!b))
  | .neg, .int k n => some (.int k (k.wrap (0 - n)))
  | .xor, .int k n => some (.int k (bits .xor k (if k.signed then -1 else k.max) n))
  | _, _ => none
def pickV (b : Bool) (x y : Value) : Value :=
  match x, y with
  | .bool p, .bool q => .bool (cond b p q)
  | x, y => cond b x y
def evs (L : Slots) : List Operand → Option (List Value)
  | [] => some []
  | x :: xs => match ev L x, evs L xs with
    | some v, some vs => some (v :: vs)
    | _, _ => none
def pureOp (L : Slots) : Op → Option Value
  | .move x | .assign x => ev L x
  | .pick c a b => match ev L c, ev L a, ev L b with
    | some (.bool t), some x, some y => some (pickV t x y)
    | _, _, _ => none
  | .binOp op _ x y _ => match ev L x, ev L y with
    | some a, some b => pureBin op a b
    | _, _ => none
  | .unOp op _ x => match ev L x with
    | some a => pureUn op a
    | _ => none
  | .extract x i => match ev L x with
    | some (.tuple vs) => vs.toList[i]?
    | _ => none
  | .makeFunc fn first cap => match evs L first.toList, evs L cap.toList with
    | some f, some c => some (.func fn f.toArray c.toArray)
    | _, _ => none
  | .nilCheck x => match ev L x with
    | some (.pointer (some a)) => some (.pointer (some a))
    | some (.func (.func f) first cap) => some (.func (.func f) first cap)
    | _ => none
  | _ => none
theorem pickV_eq (b : Bool) (x y : Value) : pickV b x y = if b then x else y := by
  cases b <;> unfold pickV <;> split <;> rfl
theorem evs_map {L : Slots} {ρ : Operand → Value} (hρ : Agr L ρ) : ∀ {xs : List Operand} {vs : List Value}, evs L xs = some vs → xs.map ρ = vs
  | [], vs, h => by cases h; rfl
  | x :: xs, vs, h => by
    simp only [evs] at h
    split at h
    · rename_i v vs' h1 h2
      injection h with h
      subst h
      simp [hρ x v h1, evs_map hρ h2]
    · cases h
theorem decide_beq_int (a b : Int) : (a == b) = decide (a = b) := by
  rw [Bool.eq_iff_iff]; simp
theorem bs_toList (l : List UInt8) : (bs l).toList = l := ByteArray.toList_eq _
theorem pureBin_run {P : Program} {op : BinOp} {t : TypeId} {x y v : Value} (h : pureBin op x y = some v) (w : World) : (binOp op t x y).run P w = .ok v w := by
  unfold pureBin at h
  split at h
  · rename_i k a k' b
    cases hk : kEq k k' with
    | false => rw [hk] at h; cases h
    | true =>
      rw [hk] at h
      obtain rfl := kEq_eq hk
      simp only [cond_true] at h
      cases op <;> simp only [pureInt, Option.some.injEq, reduceCtorEq] at h <;> first | (subst h; simp [binOp, Op.intArith, Op.intBits, Op.intCmp, bits, decide_beq_int, bne]; done) | cases h
  · rename_i l m
    have hl : (ByteArray.mk ⟨l⟩).toList = l := ByteArray.toList_eq _
    have hm : (ByteArray.mk ⟨m⟩).toList = m := ByteArray.toList_eq _
    have hb : (l == m) = decide (l = m) := by rw [Bool.eq_iff_iff]; simp
    cases op <;> simp only [pureStr, Option.some.injEq, reduceCtorEq] at h <;> first | (subst h; simp [binOp, Op.stringOp, hl, hm, hb]; done) | cases h
  · cases h
theorem eqGuard_run {P : Program} {op : BinOp} {t : TypeId} {x y : Operand} {a b v : Value} (h : pureBin op a b = some v) (w : World) : (eqGuard op t x y a b).run P w = .ok () w := by
  unfold pureBin at h
  unfold eqGuard
  split at h
  · split <;> simp
  · split <;> simp
  · cases h
theorem pureUn_run {P : Program} {op : UnOp} {x v : Value} (h : pureUn op x = some v) (w : World) : (Op.unary op x).run P w = .ok v w := by
  unfold pureUn at h
  split at h
  · injection h with h; subst h; simp [Op.unary]
  · injection h with h; subst h; simp [Op.unary, Op.intArith]
  · injection h with h; subst h; simp [Op.unary, Op.intBits, bits]
  · cases h
/-- Operations that only reckon: by evaluation. -/
theorem p_pure {P : Program} {o : Oper} {L : Slots} {v : Value} (h : pureOp L o.op = some v) : OpP P o L v := by
  intro ρ w hρ
  unfold execOp
  unfold pureOp at h
  generalize o.op = op at *
  cases op with
  | move x => simp [hρ _ _ h]
  | assign x => simp [hρ _ _ h]
  | pick c a b =>
    dsimp only at h
    split at h
    · rename_i t x y h1 h2 h3
      injection h with h
      simp [hρ _ _ h1, hρ _ _ h2, hρ _ _ h3, asBool, ← h, pickV_eq]
    · cases h
  | binOp op t x y t' =>
    dsimp only at h
    split at h
    · rename_i a b h1 h2
      simp [hρ _ _ h1, hρ _ _ h2, eqGuard_run h, pureBin_run h]
    · cases h
  | unOp op t x =>
    dsimp only at h
    split at h
    · rename_i a h1
      simp [hρ _ _ h1, pureUn_run h]
    · cases h
  | extract x i =>
    dsimp only at h
    split at h
    · rename_i vs h1
      have h' : vs[i]? = some v := by rw [← Array.getElem?_toList]; exact h
      simp [hρ _ _ h1, Instr.extract, h']
    · cases h
  | makeFunc fn first cap =>
    dsimp only at h
    split at h
    · rename_i f c h1 h2
      injection h with h
      have e1 : first.map ρ = f.toArray := by rw [← evs_map hρ h1, ← List.map_toArray]
      have e2 : cap.map ρ = c.toArray := by rw [← evs_map hρ h2, ← List.map_toArray]
      simp [Instr.makeFunc, e1, e2, h]
    · cases h
  | nilCheck x =>
    dsimp only at h
    split at h
    · rename_i a h1
      injection h with h
      subst h
      simp [hρ _ _ h1]
    · rename_i f first cap h1
      injection h with h
      subst h
      simp [hρ _ _ h1]
    · cases h
  | _ => cases h
theorem q_pure {P : Program} {o : Oper} {L : Slots} {v : Value} {C : World → Prop} (h : pureOp L o.op = some v) : OpQ P o L C v := (p_pure h).q C
end Gx
