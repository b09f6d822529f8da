/- The engine's rules, continued: empty slices, structs and arrays held against each other. -/
import Derived.Test.YtgdigngojonbhaaGxOps4
import Derived.Laws.StructEq
import Derived.ChangeKeysEq
namespace Gx
set_option linter.unusedSimpArgs false
set_option linter.unusedVariables false
open Go Go.RowKit

section
variable {P : Program} {o : Oper} {L : Slots} {w0 : World} {M : List Nat} {As As' : List HA}
/-! ## Empty slices, make -/
theorem h_buildSlice0 {t e sz by' : Nat} (ho : o.op = .buildSlice t 0 #[]) (ht : tsl P t = some (e, sz, by')) :
    OpH P o L (HS w0 M As) (fun b : Nat => .slice (some ⟨b, 0, none⟩) 0 0) (fun _ => True) (fun b => HS w0 M (.own (.slice (some ⟨b, 0, none⟩) 0 0) e sz 0 [] :: As)) := by
  intro ρ w hρ hw
  obtain ⟨hu, inf, h1, h2, _⟩ := tsl_slice ht
  have hsz : (Go.sizeOf e).run P w = .ok sz w := by simp [Go.sizeOf, typeInfo, h1, h2]
  have hb : (Instr.buildSlice t 0 #[]).run P w = .ok (.slice (some ⟨w.heap.size, 0, none⟩) 0 0) (w.alloc (.cells #[] e)) := by
    unfold Instr.buildSlice
    simp only [Sem.run_bind, run_underlying hu, Result.andThen_ok, hsz, Nat.zero_mul, Nat.not_lt_zero, if_false, if_true, Sem.run_pure, Instr.fill, newRow, run_newObj, World.alloc_eq]
    simp only [Instr.fill, newRow, run_newObj, World.alloc_eq, Sem.run_bind, Sem.run_pure, Result.andThen_ok, show (Array.map (fun x => (#[] : Array Value)[x % (#[] : Array Value).size]!) (Array.range 0)) = #[] from Array.eq_empty_of_size_eq_zero (by simp)]
  simp only [execOp, ho, Sem.run_bind]
  rw [show ((#[] : Array (Nat × Operand)).map fun x => (x.fst, ρ x.snd)) = #[] from by simp, hb]
  have h3 := hw.blk_new e #[]
  exact ⟨w.heap.size, rfl, trivial, HS.own_shut (cap := 0) (by simpa using h3) (by simp) (Nat.le_refl _) (by simp [maxLen])⟩
/-- The cells of a new row. -/
def zrow (z : List Value) (n : Nat) : List Value := (List.range n).map fun i => z.toArray[i % z.length]!
theorem zrow_length (z : List Value) (n : Nat) : (zrow z n).length = n := by simp [zrow]
theorem zrow_one (v : Value) (n : Nat) : zrow [v] n = List.replicate n v := by
  unfold zrow
  rw [List.eq_replicate_iff]
  refine ⟨by simp, fun u hu => ?_⟩
  simp only [List.mem_map, List.mem_range] at hu
  obtain ⟨i, _, rfl⟩ := hu
  have : i % [v].length = 0 := Nat.mod_one i
  rw [this]
  rfl
theorem h_make {t e sz by' n : Nat} {x y : Operand} {z : List Value} (ho : o.op = .makeSlice t x y) (hx : ev L x = some (.int .i64 (n : Int))) (hy : ev L y = some (.int .i64 (n : Int))) (ht : tsl P t = some (e, sz, by')) (hz : tzero P e = some z) (hlen : n * by' ≤ 281474976710656) (hn : n ≤ 16777216) :
    OpH P o L (HS w0 M As) (fun b : Nat => .slice (some ⟨b, 0, none⟩) n n) (fun _ => True) (fun b => HS w0 M (.blk b e (n * sz) (zrow z (n * sz)) :: As)) := by
  intro ρ w hρ hw
  obtain ⟨hu, inf, h1, h2, h3⟩ := tsl_slice ht
  have hsz : ∀ w, (Go.sizeOf e).run P w = .ok sz w := fun w => by simp [Go.sizeOf, typeInfo, h1, h2]
  have hti : (typeInfo e).run P w = .ok inf w := by simp [typeInfo, h1]
  obtain ⟨zv, hz', hzr⟩ : ∃ zv : Value, zv.cells.toList = z ∧ ∀ w, (zeroValue e).run P w = .ok zv w := by
    unfold tzero at hz
    rw [h1] at hz
    simp only [Option.bind_some] at hz
    cases hzz : inf.zero with
    | none => rw [hzz] at hz; cases hz
    | some v => rw [hzz] at hz; simp only [Option.map_some, Option.some.injEq] at hz; exact ⟨v, hz, fun w => by simp [zeroValue, typeInfo, h1, hzz]⟩
  have hwr : IntKind.i64.wrap (n : Int) = n := IntWalk.i64_in _ ⟨by omega, by omega⟩
  have hz'' : zv.cells = z.toArray := by rw [← hz']
  have hpr : ((inf.bytes : Nat) : Int) * (n : Int) ≤ 281474976710656 := by
    rw [h3, ← Int.natCast_mul, Nat.mul_comm]; omega
  have e2 : (2 : Int) ^ 48 = 281474976710656 := by decide
  have d1 : ¬ ((inf.bytes : Nat) : Int) * (n : Int) > 2 ^ 48 := by rw [e2]; omega
  have d2 : ¬ (n : Int) < 0 := by omega
  have d3 : ¬ (n : Int) > n := by omega
  have hai : ∀ w, (asInt (.int .i64 (n : Int))).run P w = .ok (n : Int) w := fun w => by simp [asInt, asIntOf]
  have hb : (Instr.makeSlice t (.int .i64 n) (.int .i64 n)).run P w = .ok (.slice (some ⟨w.heap.size, 0, none⟩) n n) (w.alloc (.cells (zrow z (n * sz)).toArray e)) := by
    unfold Instr.makeSlice
    simp only [Sem.run_bind, run_underlying hu, Result.andThen_ok, hsz, hai, Sem.run_pure, hti, hwr, d1, d2, d3, decide_false, Bool.or_false, Bool.false_eq_true, if_false, run_askRoom, Int.toNat_natCast]
    by_cases h0 : n * sz = 0
    · have e1 : ∀ q : Array Value, (Array.map (fun x => q[x % q.size]!) (Array.range 0)) = #[] := fun q => Array.eq_empty_of_size_eq_zero (by simp)
      have e3 : (zrow z (n * sz)).toArray = #[] := by rw [h0]; rfl
      simp only [h0, if_true, Sem.run_bind, Sem.run_pure, Result.andThen_ok, newRow, run_newObj, World.alloc_eq, e1, e3]
      simp only [h0] at e3
      rw [e3]
    · simp only [if_neg h0, Sem.run_bind, hzr, Sem.run_pure, Result.andThen_ok, newRow, run_newObj, World.alloc_eq, hz'']
      congr 2
      simp [zrow, ← List.toArray_range]
  simp only [execOp, ho, Sem.run_bind, hρ _ _ hx, hρ _ _ hy, hb, Result.andThen_ok, Sem.run_pure]
  have h4 := hw.blk_new e (zrow z (n * sz)).toArray
  refine ⟨w.heap.size, rfl, trivial, ?_⟩
  simpa [zrow_length] using h4
/-- append, the new slice by its address and capacity. -/
theorem h_appendS {t xt e e' sz by' n m c : Nat} {s x : Operand} {v : Value} {a : Option Addr} {z xs : List Value} (news : List Value) (ho : o.op = .call { callee := .builtin .append, args := #[s, x], argTypes := #[t, xt] }) (hs : ev L s = some v) (hx : ev L x = some (.slice a m c)) (ht : tsl P t = some (e, sz, by')) (hxt : P.underlying xt = some (.slice e')) (hz : tzero P e = some z) (hzs : z.length = sz)
    (hp : Pick As (.own v e sz n xs) As') (hsrc : ∀ w, HS w0 M As w → Src a news w) (hl : news.length = m * sz) (h1 : ∀ u ∈ news, u.oneCell' = true) (hroom : (n + m) * by' ≤ 140737488355328) (hmax : n + m ≤ maxLen) :
    OpH P o L (HS w0 M As) (fun g : Option Addr × Nat => .slice g.1 (n + m) g.2) (fun _ => True) (fun g => HS w0 M (.own (.slice g.1 (n + m) g.2) e sz (n + m) (xs ++ news) :: As')) := by
  intro ρ w hρ hw
  refine (h_append news ho hs hx ht hxt hz hzs hp hsrc hl h1 hroom hmax ρ w hρ hw).mono fun u w' hh => ?_
  obtain ⟨v', rfl, _, h⟩ := hh
  obtain ⟨a', cap', rfl, _⟩ := h.head.form
  exact ⟨(a', cap'), rfl, trivial, h⟩
/-! ## Held against each other -/
def eq1 : Value → Value → Option Bool
  | .int k a, .int k' b => if k = k' then some (decide (a = b)) else none
  | .string a, .string b => some (decide (a.data.toList = b.data.toList))
  | .bool a, .bool b => some (a == b)
  | _, _ => none
def eqC : List Value → List Value → Option Bool
  | [], [] => some true
  | x :: xs, y :: ys => match eq1 x y, eqC xs ys with
    | some a, some b => some (a && b)
    | _, _ => none
  | _, _ => none
def lfT (P : Program) (t : TypeId) : Bool := match P.underlying t with
  | some (.int _) | some .string | some .bool => true
  | _ => false
end
section
variable {P : Program} {w : World}
theorem lfT_cases {t : TypeId} (h : lfT P t = true) : (∃ k, P.underlying t = some (.int k)) ∨ P.underlying t = some .string ∨ P.underlying t = some .bool := by
  unfold lfT at h
  split at h
  · exact .inl ⟨_, by assumption⟩
  · exact .inr (.inl (by assumption))
  · exact .inr (.inr (by assumption))
  · cases h
/-- Values of leaf types: what '==' says of them, where the type fits. -/
def fits1 (P : Program) (t : TypeId) (x : Value) : Bool := match P.underlying t, x with
  | some (.int _), .int _ _ | some .string, .string _ | some .bool, .bool _ => true
  | _, _ => false
theorem part_leaf {t : TypeId} (h : lfT P t = true) {cs : Array Value} {off : Nat} {v : Value} (hv : cs[off]? = some v) : (part t cs off).run P w = .ok v w := by
  have ha : (isAgg t).run P w = .ok false w := by
    rcases lfT_cases h with ⟨k, h⟩ | h | h <;> simp [isAgg, run_underlying h]
  simp [part, ha, hv]
theorem eq1_run {t : TypeId} {x y : Value} {b : Bool} (d : Nat) (hx : fits1 P t x = true) (hy : fits1 P t y = true) (h : eq1 x y = some b) : (Op.equalIn (d + 1) t x y).run P w = .ok b w := by
  unfold fits1 at hx hy
  split at hx
  · rename_i k a m hu
    simp only [hu] at hy
    cases y <;> first | cases hy | skip
    simp only [eq1] at h
    split at h
    · rename_i hk
      subst hk
      cases h
      simp [Op.equalIn, run_underlying hu, decide_beq_int]
    · cases h
  · rename_i a hu
    simp only [hu] at hy
    cases y <;> first | cases hy | skip
    simp only [eq1, Option.some.injEq] at h
    subst h
    rename_i b
    have : (a == b) = decide (a.data.toList = b.data.toList) := by
      rw [beq_toListBytes, ByteArray.toList_eq, ByteArray.toList_eq]
      by_cases e : a.data.toList = b.data.toList
      · simp [e]
      · rw [decide_eq_false e]
        exact beq_eq_false_iff_ne.2 e
    simp [Op.equalIn, run_underlying hu, this]
  · rename_i a hu
    simp only [hu] at hy
    cases y <;> first | cases hy | skip
    simp only [eq1, Option.some.injEq] at h
    subst h
    simp [Op.equalIn, run_underlying hu]
  · cases hx
theorem drop_head {α : Type} {l xs : List α} {k : Nat} {x : α} (h : l.drop k = x :: xs) : l[k]? = some x := by
  have := congrArg (fun m : List α => m[0]?) h
  simpa using this
/-- Fields in their cells' order, each of a leaf type. -/
def flF (P : Program) : List Field → Nat → Bool
  | [], _ => true
  | f :: fs, k => !(f.name == "_") && Nat.beq f.offset k && lfT P f.type && flF P fs (k + 1)
def fitsF (P : Program) : List TypeId → List Value → Bool
  | [], [] => true
  | t :: ts, x :: xs => fits1 P t x && fitsF P ts xs
  | _, _ => false
theorem eqF_run (d : Nat) (X Y : Array Value) : ∀ (fs : List Field) (k : Nat) (xs ys : List Value) (b : Bool), flF P fs k = true → X.toList.drop k = xs → Y.toList.drop k = ys → fitsF P (fs.map (·.type)) xs = true → fitsF P (fs.map (·.type)) ys = true → eqC xs ys = some b → (Op.eqFields (d + 1) X Y fs).run P w = .ok b w
  | [], k, xs, ys, b, _, _, _, h1, h2, h => by
    cases xs with
    | cons => simp [fitsF] at h1
    | nil =>
      cases ys with
      | cons => simp [fitsF] at h2
      | nil => cases h; simp [Op.eqFields]
  | f :: fs, k, xs, ys, b, hf, hX, hY, h1, h2, h => by
    cases xs with
    | nil => cases h1
    | cons x xs =>
      cases ys with
      | nil => cases h2
      | cons y ys =>
        simp only [flF, Bool.and_eq_true, Bool.not_eq_true', beq_eq_false_iff_ne] at hf
        obtain ⟨⟨⟨hn, ho⟩, hl⟩, hr⟩ := hf
        have ho := Nat.eq_of_beq_eq_true ho
        simp only [List.map_cons, fitsF, Bool.and_eq_true] at h1 h2
        have hx : X[k]? = some x := by rw [← Array.getElem?_toList]; exact drop_head hX
        have hy : Y[k]? = some y := by rw [← Array.getElem?_toList]; exact drop_head hY
        simp only [eqC] at h
        split at h
        · rename_i a c e1 e2
          cases h
          have hX' : X.toList.drop (k + 1) = xs := by rw [← List.drop_drop, hX]; rfl
          have hY' : Y.toList.drop (k + 1) = ys := by rw [← List.drop_drop, hY]; rfl
          have ih := eqF_run d X Y fs (k + 1) xs ys c hr hX' hY' h1.2 h2.2 e2
          simp only [Op.eqFields, ne_eq, hn, not_false_eq_true, if_true, Sem.run_bind, ho, part_leaf hl hx, part_leaf hl hy, Result.andThen_ok, eq1_run d h1.1 h2.1 e1]
          cases a
          · simp
          · simpa using ih
        · cases h
/-- What a flat struct's or array's cells are, where '==' holds them one by one. -/
def teq (P : Program) (t : TypeId) : Option (List TypeId) := match P.underlying t with
  | some (.struct fs) => if flF P fs.toList 0 && !P.stoodInHeld t && !P.eqGuardType P.depth t then some (fs.toList.map (·.type)) else none
  | some (.array n e) => if lfT P e && Nat.beq (P.cellsOf e) 1 && (P.info? e).isSome && !P.eqGuardType P.depth t then some (List.replicate n e) else none
  | _ => none
theorem eqI_run (d : Nat) {e : TypeId} (hl : lfT P e = true) (h1 : P.cellsOf e = 1) (X Y : Array Value) : ∀ (n k : Nat) (xs ys : List Value) (b : Bool), X.toList.drop k = xs → Y.toList.drop k = ys → fitsF P (List.replicate n e) xs = true → fitsF P (List.replicate n e) ys = true → eqC xs ys = some b → (Op.eqItems (d + 1) e (P.cellsOf e) X Y (List.range' k n)).run P w = .ok b w
  | 0, k, xs, ys, b, _, _, g1, g2, h => by
    cases xs with
    | cons => simp [fitsF] at g1
    | nil =>
      cases ys with
      | cons => simp [fitsF] at g2
      | nil => cases h; simp [Op.eqItems]
  | n + 1, k, xs, ys, b, hX, hY, g1, g2, h => by
    cases xs with
    | nil => cases g1
    | cons x xs =>
      cases ys with
      | nil => cases g2
      | cons y ys =>
        simp only [List.replicate_succ, fitsF, Bool.and_eq_true] at g1 g2
        have hx : X[k]? = some x := by rw [← Array.getElem?_toList]; exact drop_head hX
        have hy : Y[k]? = some y := by rw [← Array.getElem?_toList]; exact drop_head hY
        simp only [eqC] at h
        split at h
        · rename_i a c e1 e2
          cases h
          have hX' : X.toList.drop (k + 1) = xs := by rw [← List.drop_drop, hX]; rfl
          have hY' : Y.toList.drop (k + 1) = ys := by rw [← List.drop_drop, hY]; rfl
          have ih := eqI_run d hl h1 X Y n (k + 1) xs ys c hX' hY' g1.2 g2.2 e2
          have hk : k * P.cellsOf e = k := by rw [h1, Nat.mul_one]
          simp only [List.range'_succ, Op.eqItems, Sem.run_bind, hk, part_leaf hl hx, part_leaf hl hy, Result.andThen_ok, eq1_run d g1.1 g2.1 e1]
          cases a
          · simp
          · simpa using ih
        · cases h
theorem teq_run {t : TypeId} {ts : List TypeId} {xs ys : List Value} {b : Bool} (ht : teq P t = some ts) (h1 : fitsF P ts xs = true) (h2 : fitsF P ts ys = true) (h : eqC xs ys = some b) (d : Nat) :
    (Op.equalIn (d + 2) t (.agg xs.toArray) (.agg ys.toArray)).run P w = .ok b w ∧ P.eqGuardType P.depth t = false := by
  unfold teq at ht
  split at ht
  · rename_i fs hu
    split at ht
    · rename_i hc
      cases ht
      simp only [Bool.and_eq_true, Bool.not_eq_true'] at hc
      have hfo : P.fieldsOf t = fs := by unfold Program.fieldsOf; rw [hu]
      refine ⟨?_, hc.2⟩
      rw [run_equalIn_struct w (d + 1) t _ _ (by rw [hfo]; exact hu) hc.1.2, hfo]
      exact eqF_run d _ _ _ 0 xs ys b hc.1.1 (by simp) (by simp) h1 h2 h
    · cases ht
  · rename_i n e hu
    split at ht
    · rename_i hc
      cases ht
      simp only [Bool.and_eq_true, Bool.not_eq_true'] at hc
      obtain ⟨i, hi⟩ := Option.isSome_iff_exists.1 hc.1.2
      refine ⟨?_, hc.2⟩
      rw [run_equalIn_array (w := w) (d + 1) _ _ hu hi, List.range_eq_range']
      exact eqI_run d hc.1.1.1 (Nat.eq_of_beq_eq_true hc.1.1.2) _ _ n 0 xs ys b (by simp) (by simp) h1 h2 h
    · cases ht
  · cases ht
/-- The test of leaf kinds by a list of the kinds. -/
def tlk (P : Program) (t : TypeId) : Option Nat := match P.underlying t with
  | some (.int _) => some 0
  | some .string => some 1
  | some .bool => some 2
  | _ => none
def teqk (P : Program) (t : TypeId) : Option (List Nat) := (teq P t).bind fun ts => ts.mapM (tlk P)
def kindV : Value → Nat
  | .int _ _ => 0
  | .string _ => 1
  | .bool _ => 2
  | _ => 3
theorem fits_kind : ∀ {ts : List TypeId} {ks : List Nat} {xs : List Value}, ts.mapM (tlk P) = some ks → xs.map kindV = ks → fitsF P ts xs = true
  | [], ks, xs, h, hx => by
    simp at h; subst h
    cases xs <;> first | rfl | cases hx
  | t :: ts, ks, xs, h, hx => by
    rw [List.mapM_cons] at h
    simp only [bind, Option.bind_eq_some_iff, pure, Option.some.injEq] at h
    obtain ⟨k, h1, ks', h2, rfl⟩ := h
    cases xs with
    | nil => cases hx
    | cons x xs =>
      simp only [List.map_cons, List.cons.injEq] at hx
      simp only [fitsF, Bool.and_eq_true]
      refine ⟨?_, fits_kind h2 hx.2⟩
      have h3 := hx.1
      unfold tlk at h1
      unfold fits1
      split at h1 <;> first | (cases h1; done) | skip
      all_goals
        rename_i hu
        cases h1
        rw [hu]
        cases x <;> first | rfl | cases h3
variable {o : Oper} {L : Slots}
theorem p_eql_agg {t t' : TypeId} {x y : Operand} {xs ys : List Value} {ks : List Nat} {b : Bool} (ho : o.op = .binOp .eql t x y t') (hx : ev L x = some (.agg xs.toArray)) (hy : ev L y = some (.agg ys.toArray)) (ht : teqk P t = some ks) (h1 : xs.map kindV = ks) (h2 : ys.map kindV = ks) (h : eqC xs ys = some b) : OpP P o L (.bool b) := by
  intro ρ w hρ
  unfold teqk at ht
  obtain ⟨ts, e1, e2⟩ := Option.bind_eq_some_iff.1 ht
  obtain ⟨g1, g2⟩ := teq_run (w := w) e1 (fits_kind e2 h1) (fits_kind e2 h2) h 9998
  simp only [execOp, ho, hρ _ _ hx, hρ _ _ hy, Sem.run_bind, run_eqGuard_agg w _ _ _ _ _ _ g2, run_eql_struct, g1, Result.andThen_ok, Sem.run_pure]
theorem p_neq_agg {t t' : TypeId} {x y : Operand} {xs ys : List Value} {ks : List Nat} {b : Bool} (ho : o.op = .binOp .neq t x y t') (hx : ev L x = some (.agg xs.toArray)) (hy : ev L y = some (.agg ys.toArray)) (ht : teqk P t = some ks) (h1 : xs.map kindV = ks) (h2 : ys.map kindV = ks) (h : eqC xs ys = some b) : OpP P o L (.bool (!b)) := by
  intro ρ w hρ
  unfold teqk at ht
  obtain ⟨ts, e1, e2⟩ := Option.bind_eq_some_iff.1 ht
  obtain ⟨g1, g2⟩ := teq_run (w := w) e1 (fits_kind e2 h1) (fits_kind e2 h2) h 9998
  simp only [execOp, ho, hρ _ _ hx, hρ _ _ hy, Sem.run_bind, run_eqGuard_agg w _ _ _ _ _ _ g2, run_neq_struct, g1, Result.andThen_ok, Sem.run_pure]
end
/-! ## Two operations may come up, both of which make or change memory -/
section
variable {X : Ctx} {ops : Array Oper} {F : List Nat} {fuel : Nat} {listed : Array Bool} {k : List KI} {L : Slots} {w0 : World} {M : List Nat} {As : List HA}
theorem d_two {B : World → Prop} {d d' ty ty' : Nat} {op op' : Op} {pos pos' : String} {aft aft' : Array Edge} {G G' : Type} {V : G → Value} {Fg : G → Prop} {C : G → World → Prop} {V' : G' → Value} {Fg' : G' → Prop} {C' : G' → World → Prop} (i j : Nat)
    (hi : ops[i]? = some ⟨some d, op, ty, pos, aft, none⟩) (hj : ops[j]? = some ⟨some d', op', ty', pos', aft', none⟩) (h : OpH X.P ⟨some d, op, ty, pos, aft, none⟩ L (HS w0 M As) V Fg C) (h' : OpH X.P ⟨some d', op', ty', pos', aft', none⟩ L (HS w0 M As) V' Fg' C')
    (hr : (Region.ready .any ops listed == [i, j]) = true) (hB : ∀ w, HS w0 M As w → B w) (hd : Nat.blt d X.n = true) (hd' : Nat.blt d' X.n = true)
    (next : ∀ g, Fg g → D X ops F B fuel (listed.setIfInBounds i true) k ((d, V g) :: L) (C g)) (next' : ∀ g, Fg' g → D X ops F B fuel (listed.setIfInBounds j true) k ((d', V' g) :: L) (C' g)) : D X ops F B (fuel + 1) listed k L (HS w0 M As) := by
  intro hcl a ha
  have hr' : Region.ready .any ops listed = [i, j] := by simpa using hr
  have mi : i ∈ Region.ready .any ops listed := by rw [hr']; exact List.mem_cons_self ..
  have mj : j ∈ Region.ready .any ops listed := by rw [hr']; exact List.mem_cons_of_mem _ (List.mem_singleton.2 rfl)
  refine ⟨fun _ => ⟨hB, HS.stab _ _ _⟩, fun h0 => (by rw [hr'] at h0; cases h0), fun q hq => ?_⟩
  rw [hr'] at hq
  have hq' : q = i ∨ q = j := by simpa using hq
  rcases hq' with e | e
  · subst e
    unfold StepA
    simp only [hi]
    rw [if_pos (by simp [Region.wanted])]
    exact ⟨G, V, Fg, C, fun w hw => h a.eval w ha.agr hw, fun g hg => next g hg (hcl.set mi) _ (ha.put d _ hd)⟩
  · subst e
    unfold StepA
    simp only [hj]
    rw [if_pos (by simp [Region.wanted])]
    exact ⟨G', V', Fg', C', fun w hw => h' a.eval w ha.agr hw, fun g hg => next' g hg (hcl.set mj) _ (ha.put d' _ hd')⟩
end
end Gx
