/- Contracts of the program's functions, proved by walking them with the rules of the Gx texts; without conditions beyond those that each contract names. -/
import Derived.WalkKit
import Derived.Deep.Draws
import Derived.TacticsIn
import Derived.OrdersIn
import Derived.RangeFuncLeaves
import Derived.Lib.Strings
import Derived.Laws.BytesArg
import Derived.Laws.IdiomStrings
import Derived.Deep.Quiet
import Derived.ProofKit
import Derived.OpenShut
import Derived.Laws.StructEq
import Derived.ChangeKeysEq
import Derived.Laws.Externs
import Derived.Lib.Overlaps
import Derived.Carry
import Derived.Laws.Small
import Derived.Lib.Bytealg
import Derived.Shelf.Small.Strs
import Derived.Shelf.Strconv.Itoa0
import Derived.Shelf.Strconv.Itoa1
import Derived.Shelf.LaysM
import Derived.Shelf.Strconv.Itoa2
import Derived.Shelf.Strconv.Itoa3
import Derived.Shelf.Strings.Search1
import Derived.Shelf.Strings.Search2
import Derived.Shelf.Strings.Cut
import Derived.Shelf.Strings.Shaped
import Derived.Shelf.Strings.LastIndex
import Derived.Shelf.GgClosure.StringsIndexFunc
import Derived.Ground.GgwProg
import Derived.Shelf.GgClosure.StringsIndexFuncTop
import Derived.Shelf.Strings.Prefix
import Derived.Test.YtfahilpjifjafaaDoorProg
import Derived.KernelRfl
import Derived.Lib.LastIndexByte
import Derived.Lib.ItoaNum
import Derived.Lib.SmallJoins
import Derived.Lib.AppendIntMem
import Derived.Test.YtfahilpjifjafaaDoorTie
import Derived.Test.YtfahilpjifjafaaDoorCards
import Derived.SevenTiedAt
import Derived.LaidMore
import Derived.Stop.Joined
import Derived.Lib.LaidTab
/- The engine's core: judgements over (known slots, world class), and the structural rules of Go code. Nothing of a program is named here. -/
namespace Gx
open Go Go.RowKit

/-! ## Slots -/
abbrev Slots := List (Nat × Value)
def Slots.get : Slots → Nat → Option Value
  | [], _ => none
  | (k, v) :: L, t => bif Nat.beq k t then some v else Slots.get L t
def ev (L : Slots) : Operand → Option Value
  | .tmp t => Slots.get L t
  | .const v => some v
  | .global g => some (.pointer (some ⟨g, 0, none⟩))
  | .func f => some (.func (.func f) #[] #[])
/-- Marks of ranges over functions that are behind the frame. -/
def marks (df : List Nat) : List Deferred := df.map fun D => { target := .collected D, args := #[] }
/-- What is known of a frame: its marks, its size, the listed slots. -/
structure FR (n : Nat) (df : List Nat) (L : Slots) (a : Act) : Prop where
  defers : a.defers = marks df
  size : a.tmps.size = n
  slot : ∀ t v, Slots.get L t = some v → a.tmps[t]? = some v
theorem FR.evl {n : Nat} {df : List Nat} {L : Slots} {a : Act} (h : FR n df L a) {x : Operand} {v : Value} (hx : ev L x = some v) : a.eval x = v := by
  cases x with
  | tmp t => simp only [Act.eval, Array.getD_eq_getD_getElem?, h.slot t v hx, Option.getD_some]
  | const u => simpa [Gx.ev, Act.eval] using hx
  | global g => simpa [Gx.ev, Act.eval] using hx
  | func f => simpa [Gx.ev, Act.eval] using hx
theorem FR.none {n : Nat} {df : List Nat} {L : Slots} {a : Act} (h : FR n df L a) (hd : df = []) : a.defers = [] := by rw [h.defers, hd]; rfl
theorem Slots.get_cons (L : Slots) (k t : Nat) (v : Value) : Slots.get ((k, v) :: L) t = if k = t then some v else Slots.get L t := by
  simp only [Slots.get]
  by_cases h : k = t
  · subst h; simp [Nat.beq_refl]
  · have : Nat.beq k t = false := by
      cases hb : Nat.beq k t
      · rfl
      · exact absurd (Nat.eq_of_beq_eq_true hb) h
    simp [this, h]
theorem FR.put {n : Nat} {df : List Nat} {L : Slots} {a : Act} (h : FR n df L a) (d : Nat) (v : Value) (hd : Nat.blt d n = true) : FR n df ((d, v) :: L) (a.put (some d) v) := by
  have hd' : d < n := by simpa [Nat.blt_eq] using hd
  refine ⟨h.defers, by simp [Act.put, h.size], fun t u hu => ?_⟩
  rw [Slots.get_cons] at hu
  show (a.tmps.setIfInBounds d v)[t]? = some u
  rw [Array.getElem?_setIfInBounds]
  by_cases e : d = t
  · subst e
    rw [if_pos rfl] at hu
    rw [if_pos rfl, if_pos (by rw [h.size]; exact hd')]
    exact hu
  · rw [if_neg e] at hu
    rw [if_neg e]
    exact h.slot t u hu
theorem FR.sub {n : Nat} {df : List Nat} {L L' : Slots} {a : Act} (h : FR n df L a) (hs : ∀ p ∈ L', Slots.get L p.1 = some p.2) : FR n df L' a := by
  refine ⟨h.defers, h.size, fun t v hv => ?_⟩
  induction L' with
  | nil => cases hv
  | cons p L' ih =>
    obtain ⟨k, u⟩ := p
    rw [Slots.get_cons] at hv
    by_cases e : k = t
    · rw [if_pos e] at hv
      subst e
      injection hv with hv
      subst hv
      exact h.slot _ _ (hs (k, u) (List.mem_cons_self ..))
    · rw [if_neg e] at hv
      exact ih (fun p hp => hs p (List.mem_cons_of_mem _ hp)) hv
/-- A list of slots is part of another one: by reckoning. -/
def subL (L : Slots) : Slots → Prop
  | [] => True
  | (k, v) :: r => Slots.get L k = some v ∧ subL L r
theorem subL.all {L : Slots} : ∀ {L' : Slots}, subL L L' → ∀ p ∈ L', Slots.get L p.1 = some p.2
  | [], _, p, hp => by cases hp
  | (k, v) :: r, h, p, hp => by
    rcases List.mem_cons.1 hp with rfl | hp
    · exact h.1
    · exact subL.all h.2 p hp

theorem sl_n {L : Slots} : subL L [] := trivial
theorem sl_c {L : Slots} {k : Nat} {v : Value} {r : Slots} (h : Slots.get L k = some v) (hr : subL L r) : subL L ((k, v) :: r) := ⟨h, hr⟩

/-! ## What is still to be done -/
def KI : Type := Sum Code (Sum Nat (Act → World → Prop))
def KI.c (c : Code) : KI := Sum.inl c
def KI.blk (id : Nat) : KI := Sum.inr (Sum.inl id)
def KI.join (J : Act → World → Prop) : KI := Sum.inr (Sum.inr J)
structure Ctx where
  P : Program
  fn : Func
  n : Nat
  R : Ending → World → Prop
  rd : Option Nat := none
  df : List Nat := []
/-- No fence; the round of a range over a function that the frame is of, if it is. -/
abbrev Ctx.F (X : Ctx) : Fence := { Fence.wide with round := X.rd }
def post (X : Ctx) : List KI → Exit → Act → World → Prop
  | [], e, a, w => match X.rd with
    | none => bodyPostM X.F 0 X.P X.fn X.R e a w
    | some l => roundPost X.P l X.R e a w
  | Sum.inl c :: k, .normal, a, w => c.wpIn X.F 0 X.P (post X k) a w
  | Sum.inl _ :: k, e, a, w => post X k e a w
  | Sum.inr (Sum.inl id) :: k, .exit id', a, w => if id' = id then post X k .normal a w else post X k (.exit id') a w
  | Sum.inr (Sum.inl _) :: k, e, a, w => post X k e a w
  | Sum.inr (Sum.inr J) :: _, .normal, a, w => J a w
  | Sum.inr (Sum.inr _) :: k, e, a, w => post X k e a w
/-- From every frame with these slots, in every world of this class, what is to be done ends well. -/
def S (X : Ctx) (k : List KI) (L : Slots) (C : World → Prop) : Prop := ∀ a w, FR X.n X.df L a → C w → post X k .normal a w
/-- .. after an exit. -/
def SE (X : Ctx) (e : Exit) (k : List KI) (L : Slots) (C : World → Prop) : Prop := ∀ a w, FR X.n X.df L a → C w → post X k e a w
/-- .. in the middle of a region. -/
def O (X : Ctx) (ops : Array Oper) (rest : List Oper) (k : List KI) (L : Slots) (C : World → Prop) : Prop :=
  ∀ a w, FR X.n X.df L a → C w → wpListIn X.F 0 X.P ops (post X k) rest a w

section
variable {X : Ctx} {k : List KI} {L : Slots} {C : World → Prop}
theorem s_seq {x y : Code} (h : S X (.c x :: .c y :: k) L C) : S X (.c (.seq x y) :: k) L C := by
  intro a w ha hw
  have := h a w ha hw
  refine wpIn_seq (wpIn_mono (Q' := Exit.then (y.wpIn X.F 0 X.P (post X k)) (post X k)) this fun e a w he => ?_)
  cases e <;> exact he
theorem s_skip (h : S X k L C) : S X (.c .skip :: k) L C := fun a w ha hw => wpIn_skip (h a w ha hw)
theorem s_block {id : Nat} {c : Code} (h : S X (.c c :: .blk id :: k) L C) : S X (.c (.block id c) :: k) L C := by
  intro a w ha hw
  refine wpIn_block (wpIn_mono (h a w ha hw) fun e a w he => ?_)
  cases e <;> exact he
theorem s_blk {id : Nat} (h : S X k L C) : S X (.blk id :: k) L C := fun a w ha hw => h a w ha hw
theorem s_exit {id : Nat} (h : SE X (.exit id) k L C) : S X (.c (.exit id) :: k) L C := fun a w ha hw => wpIn_exit (h a w ha hw)
theorem se_c {e : Exit} {c : Code} (he : e ≠ .normal) (h : SE X e k L C) : SE X e (.c c :: k) L C := by
  intro a w ha hw
  have := h a w ha hw
  cases e <;> first | exact this | exact absurd rfl he
theorem se_exit_c {id : Nat} {c : Code} (h : SE X (.exit id) k L C) : SE X (.exit id) (.c c :: k) L C := se_c (by simp) h
theorem se_exit_join {id : Nat} {J : Act → World → Prop} (h : SE X (.exit id) k L C) : SE X (.exit id) (.join J :: k) L C := fun a w ha hw => h a w ha hw
theorem se_exit_here {id : Nat} (h : S X k L C) : SE X (.exit id) (.blk id :: k) L C := by
  intro a w ha hw
  show (if id = id then _ else _)
  rw [if_pos rfl]
  exact h a w ha hw
theorem se_exit_past {id id' : Nat} (hne : Nat.beq id id' = false) (h : SE X (.exit id) k L C) : SE X (.exit id) (.blk id' :: k) L C := by
  intro a w ha hw
  show (if id = id' then _ else _)
  rw [if_neg (fun e => by subst e; simp [Nat.beq_refl] at hne)]
  exact h a w ha hw
/-- Where an exit leads, by reckoning. -/
def popTo (id : Nat) : List KI → Option (List KI)
  | [] => none
  | Sum.inr (Sum.inl id') :: k => bif Nat.beq id id' then some k else popTo id k
  | _ :: k => popTo id k
theorem se_pop {id : Nat} : ∀ {k k' : List KI}, popTo id k = some k' → S X k' L C → SE X (.exit id) k L C
  | [], _, h, _ => by cases h
  | Sum.inl c :: k, k', h, hs => se_exit_c (se_pop (k := k) h hs)
  | Sum.inr (Sum.inr J) :: k, k', h, hs => se_exit_join (se_pop (k := k) h hs)
  | Sum.inr (Sum.inl id') :: k, k', h, hs => by
    simp only [popTo] at h
    cases hb : Nat.beq id id' with
    | true =>
      have e := Nat.eq_of_beq_eq_true hb
      subst e
      rw [hb] at h
      injection h with h
      subst h
      exact se_exit_here hs
    | false =>
      rw [hb] at h
      exact se_exit_past hb (se_pop (k := k) h hs)
theorem s_exit_to {id : Nat} {k' : List KI} (h : popTo id k = some k') (hs : S X k' L C) : S X (.c (.exit id) :: k) L C := s_exit (se_pop h hs)
theorem s_cond {c : Operand} {x y : Code} {b : Bool} (hc : ev L c = some (.bool b)) (ht : b = true → S X (.c x :: k) L C) (hf : b = false → S X (.c y :: k) L C) :
    S X (.c (.cond c x y) :: k) L C := fun a w ha hw => wpIn_cond_split (ha.evl hc) (fun h => ht h a w ha hw) (fun h => hf h a w ha hw)
theorem s_ret (h : SE X .ret k L C) : S X (.c .ret :: k) L C := fun a w ha hw => wpIn_ret (h a w ha hw)
theorem se_ret_pop : ∀ {k : List KI}, SE X .ret [] L C → SE X .ret k L C
  | [], h => h
  | Sum.inl _ :: k, h => fun a w ha hw => se_ret_pop (k := k) h a w ha hw
  | Sum.inr (Sum.inl _) :: k, h => fun a w ha hw => se_ret_pop (k := k) h a w ha hw
  | Sum.inr (Sum.inr _) :: k, h => fun a w ha hw => se_ret_pop (k := k) h a w ha hw
theorem post_nil {a : Act} {w : World} {v : Value} (hrd : X.rd = none) (hd : a.defers = []) (h : (results X.fn a.tmps).run X.P w = .ok v w) (hR : X.R (.returned v) w) : post X [] .ret a w := by
  show (match X.rd with | none => bodyPostM X.F 0 X.P X.fn X.R .ret a w | some l => roundPost X.P l X.R .ret a w)
  rw [hrd]
  show LeavesInM X.F 0 X.P X.fn a.tmps X.R a.defers .returning w
  rw [hd]
  exact ⟨v, h, hR⟩
/-- No result: the end of the body, or a return. -/
theorem s_end0 (hr : X.fn.results = #[]) (h : ∀ w, C w → X.R (.returned (.tuple #[])) w) (hrd : X.rd = none := by rfl) (hdf : X.df = [] := by rfl) : S X [] L C :=
  fun _ w ha hw => by
    show (match X.rd with | none => bodyPostM X.F 0 X.P X.fn X.R .normal _ w | some l => roundPost X.P l X.R .normal _ w)
    rw [hrd]
    show LeavesInM X.F 0 X.P X.fn _ X.R _ .returning w
    rw [ha.none hdf]
    exact ⟨_, results_none hr _ _ _, h w hw⟩
theorem s_ret0 (hr : X.fn.results = #[]) (h : ∀ w, C w → X.R (.returned (.tuple #[])) w) (hrd : X.rd = none := by rfl) (hdf : X.df = [] := by rfl) : S X (.c .ret :: k) L C :=
  s_ret (se_ret_pop fun _ w ha hw => post_nil hrd (ha.none hdf) (results_none hr _ _ _) (h w hw))
/-- Any results, reckoned in memory. -/
theorem s_ret_gen {v : Value} (hr : ∀ a w, FR X.n X.df L a → C w → (results X.fn a.tmps).run X.P w = .ok v w) (h : ∀ w, C w → X.R (.returned v) w) (hrd : X.rd = none := by rfl) (hdf : X.df = [] := by rfl) : S X (.c .ret :: k) L C :=
  s_ret (se_ret_pop fun a w ha hw => post_nil hrd (ha.none hdf) (hr a w ha hw) (h w hw))
theorem s_region {id : Nat} {l : List Oper} (h : O X l.toArray l k L C) : S X (.c (.region id l.toArray false) :: k) L C :=
  fun a w ha hw => wpIn_region_lit (h a w ha hw)
theorem o_nil {ops : Array Oper} (h : S X k L C) : O X ops [] k L C := fun a w ha hw => wpListIn_nil (h a w ha hw)
theorem s_weaken {L' : Slots} {C' : World → Prop} (hL : subL L L') (hC : ∀ w, C w → C' w) (h : S X k L' C') : S X k L C :=
  fun a w ha hw => h a w (ha.sub hL.all) (hC w hw)
theorem o_class {C' : World → Prop} {ops : Array Oper} {rest : List Oper} (hC : ∀ w, C w → C' w) (h : O X ops rest k L C') : O X ops rest k L C := fun a w ha hw => h a w ha (hC w hw)
theorem o_fact {p : Prop} {ops : Array Oper} {rest : List Oper} (hp : ∀ w, C w → p) (h : p → O X ops rest k L C) : O X ops rest k L C := fun a w ha hw => h (hp w hw) a w ha hw
theorem o_slot {d : Nat} {v u : Value} {ops : Array Oper} {rest : List Oper} (e : v = u) (h : O X ops rest k ((d, u) :: L) C) : O X ops rest k ((d, v) :: L) C := by subst e; exact h

/-! ## A place where ways meet -/
/-- What is known there: some x, these slots, this class. -/
def At (n : Nat) (df : List Nat) {α : Type} (LJ : α → Slots) (CJ : α → World → Prop) (a : Act) (w : World) : Prop := ∃ x, FR n df (LJ x) a ∧ CJ x w
/-- A loop: at each round's head some x, these slots, this class; a measure of x goes down. -/
def Back (n : Nat) (df : List Nat) {α : Type} (LJ : α → Slots) (CJ : α → World → Prop) (m : α → Nat) (x : α) (a : Act) (w : World) : Prop := ∃ y, m y < m x ∧ FR n df (LJ y) a ∧ CJ y w
theorem s_loop {α : Type} {c : Code} (LJ : α → Slots) (CJ : α → World → Prop) (m : α → Nat) (x0 : α) (hL : subL L (LJ x0)) (hC : ∀ w, C w → CJ x0 w)
    (h : ∀ x, S X (.c c :: .join (Back X.n X.df LJ CJ m x) :: k) (LJ x) (CJ x)) : S X (.c (.loop c) :: k) L C := by
  intro a w ha hw
  intro b kk cs hro hb hr
  have key : ∀ N x, m x = N → ∀ (a : Act) (w : World), FR X.n X.df (LJ x) a → CJ x w →
      ∃ e a' w', post X k e a' w' ∧ ArrivesIn (Machine.fenced X.P X.F) X.P (lone (b.atR a (.code c :: .inLoop c :: kk)) cs w) b kk cs e a' w' := by
    intro N
    induction N using Nat.strongRecOn with
    | _ N ih =>
      intro x hN a w hfr hcj
      obtain ⟨e, a₁, w₁, hq, harr⟩ := h x a w hfr hcj b (.inLoop c :: kk) cs hro hb hr
      cases e with
      | normal =>
        obtain ⟨y, hlt, hfr', hcj'⟩ := hq
        obtain ⟨e₂, a₂, w₂, hq₂, harr₂⟩ := ih (m y) (hN ▸ hlt) y rfl a₁ w₁ hfr' hcj'
        exact ⟨e₂, a₂, w₂, hq₂, .of_steps (StepsIn.trans harr (.one (fenced_calm hb hr rfl) stepR_inLoop)) harr₂⟩
      | exit id => exact ⟨_, a₁, w₁, hq, .pass (x := .inLoop c) rfl (fun _ _ => .inl (by simp)) harr⟩
      | goto l => exact ⟨_, a₁, w₁, hq, .pass (x := .inLoop c) rfl (fun _ _ => .inl (by simp)) harr⟩
      | ret => exact ⟨_, a₁, w₁, hq, .pass (x := .inLoop c) rfl (fun _ _ => .inl (by simp)) harr⟩
      | panic ch => exact ⟨_, a₁, w₁, hq, .pass (x := .inLoop c) rfl (fun _ _ => .inl (by simp)) harr⟩
      | outgrown => exact ⟨_, a₁, w₁, hq, .pass (x := .inLoop c) rfl (fun _ _ => .inl (by simp)) harr⟩
  obtain ⟨e, a', w', hq, harr⟩ := key _ x0 rfl a w (ha.sub hL.all) (hC w hw)
  exact ⟨e, a', w', hq, .of_steps (.one (fenced_calm hb hr rfl) stepR_loop) harr⟩
end

/-! ## Entering a function -/
def argL : Nat → List Value → Slots
  | _, [] => []
  | i, v :: vs => (i, v) :: argL (i + 1) vs
theorem argL_get : ∀ (vs : List Value) (i t : Nat) (v : Value), Slots.get (argL i vs) t = some v → i ≤ t ∧ vs[t - i]? = some v
  | [], _, _, _, h => by cases h
  | u :: vs, i, t, v, h => by
    rw [argL, Slots.get_cons] at h
    by_cases e : i = t
    · rw [if_pos e] at h; subst e; exact ⟨Nat.le_refl _, by simpa using h⟩
    · rw [if_neg e] at h
      obtain ⟨h1, h2⟩ := argL_get vs (i + 1) t v h
      refine ⟨by omega, ?_⟩
      rw [show t - i = (t - (i + 1)) + 1 by omega]
      simpa using h2
theorem enter {P : Program} {f : FuncId} {fn : Func} {n : Nat} {c : Code} {args : List Value} {w : World} {R : Ending → World → Prop} {C : World → Prop}
    (hf : P.funcs[f]? = some fn) (hn : fn.ntmps = n) (hb : fn.body = some c) (hl : Nat.ble args.length n = true) (hC : C w) (h : S { P := P, fn := fn, n := n, R := R } [.c c] (argL 0 args) C) :
    Calls P f args.toArray w R := by
  have hle : args.length ≤ n := Nat.le_of_ble_eq_true hl
  refine (callsIn_wide (n := 0)).1 (callsIn_of_wp_marks hf hb trivial (wpIn_mono (h _ _ ⟨rfl, ?_, fun t v hv => ?_⟩ hC) fun e a w he => ?_))
  · show (args.toArray ++ Array.replicate (fn.ntmps - args.toArray.size) undef).size = n
    simp [hn]; omega
  · obtain ⟨_, h2⟩ := argL_get args 0 t v hv
    have hlt : t < args.length := by
      rcases Nat.lt_or_ge t args.length with h' | h'
      · exact h'
      · simp [List.getElem?_eq_none h'] at h2
    show (args.toArray ++ Array.replicate (fn.ntmps - args.toArray.size) undef)[t]? = some v
    rw [Array.getElem?_append_left (by simpa using hlt)]
    simpa using h2
  · cases e <;> exact he
end Gx

/- What is owned in memory: assertions over few blocks, lists of them apart from each other, and what keeps them. -/
namespace Gx
open Go Go.RowKit

/-- The type number of uint8 (a conversion of a string to bytes marks the place behind its row's last cell). -/
def u8T : TypeId := 5
/-- Block b holds at least tot cells of element type t, of which the first are cs; none of its cells is frozen, nor the place behind them (but in a row of bytes). -/
def BlkOk (b : Nat) (t : TypeId) (tot : Nat) (cs : List Value) (w : World) : Prop :=
  ∃ cur fr, w.heap[b]? = some (.cells cur t fr) ∧ tot ≤ cur.size ∧ cs.length ≤ tot ∧ (∀ i, i < cs.length → cur[i]? = cs[i]?) ∧ (∀ i, fr.1 ≤ i → i < fr.2 → cur.size < i ∨ (i = cur.size ∧ t = u8T))
def OwnOk (v : Value) (t : TypeId) (sz n : Nat) (xs : List Value) (w : World) : Prop :=
  xs.length = n * sz ∧ ((v = .slice none 0 0 ∧ n = 0) ∨ ∃ g cap, v = .slice (some ⟨g, 0, none⟩) n cap ∧ n ≤ cap ∧ cap ≤ maxLen ∧ BlkOk g t (cap * sz) xs w)
theorem BlkOk.loc {w w' : World} {b : Nat} {t : TypeId} {tot : Nat} {cs : List Value} (h : w'.heap[b]? = w.heap[b]?) : BlkOk b t tot cs w → BlkOk b t tot cs w' := by
  rintro ⟨cur, fr, h1, h2⟩
  exact ⟨cur, fr, h.trans h1, h2⟩
/-- An assertion: the blocks it speaks of, what it says, and that it hangs on those blocks alone. -/
structure HA where
  fp : List Nat
  ok : World → Prop
  loc : ∀ w w', (∀ b ∈ fp, w'.heap[b]? = w.heap[b]?) → ok w → ok w'
/-- A block of cells. -/
def HA.blk (b : Nat) (t : TypeId) (tot : Nat) (cs : List Value) : HA := ⟨[b], BlkOk b t tot cs, fun _ _ h ha => BlkOk.loc (h b (List.mem_singleton.2 rfl)) ha⟩
/-- A slice value with a row of its own. -/
def HA.own (v : Value) (t : TypeId) (sz n : Nat) (xs : List Value) : HA := ⟨v.ownBlock.toList, OwnOk v t sz n xs, fun w w' h ha => by
    obtain ⟨hl, h1 | ⟨g, cap, rfl, hn, hc, hb⟩⟩ := ha
    · exact ⟨hl, .inl h1⟩
    · exact ⟨hl, .inr ⟨g, cap, rfl, hn, hc, BlkOk.loc (h g (by simp [Value.ownBlock])) hb⟩⟩⟩
theorem HA.fp_blk (b : Nat) (t : TypeId) (tot : Nat) (cs : List Value) : (HA.blk b t tot cs).fp = [b] := rfl
theorem HA.fp_own (v : Value) (t : TypeId) (sz n : Nat) (xs : List Value) : (HA.own v t sz n xs).fp = v.ownBlock.toList := rfl

/-- Since world w0: all old blocks but those in M are as they were; the assertions hold, each of blocks that are new or in M, and they are apart. -/
structure HS (w0 : World) (M : List Nat) (As : List HA) (w : World) : Prop where
  os : w.os = w0.os
  tape : w.tape = w0.tape
  output : w.output = w0.output
  size : w0.heap.size ≤ w.heap.size
  old : ∀ b, b < w0.heap.size → b ∉ M → w.heap[b]? = w0.heap[b]?
  ok : ∀ A ∈ As, A.ok w
  lt : ∀ A ∈ As, ∀ b ∈ A.fp, b < w.heap.size ∧ (b < w0.heap.size → b ∈ M)
  sep : As.Pairwise fun A B => ∀ b ∈ A.fp, b ∉ B.fp

section
variable {w0 w w' : World} {M : List Nat} {As : List HA}
theorem HS.refl (w : World) (M : List Nat) : HS w M [] w := ⟨rfl, rfl, rfl, Nat.le_refl _, fun _ _ _ => rfl, fun _ h => (by cases h), fun _ h => (by cases h), .nil⟩
theorem HS.below (h : HS w0 [] As w) : Below w0.heap.size w0 w := ⟨h.os, h.tape, h.output, h.size, fun k hk => h.old k hk (by simp)⟩
theorem HS.of_below (h : Below w0.heap.size w0 w) : HS w0 [] [] w := ⟨h.os, h.tape, h.output, h.size, fun k hk _ => h.block k hk, fun _ h => (by cases h), fun _ h => (by cases h), .nil⟩
/-- What a callee leaves that writes to nothing old. -/
theorem HS.stable (h : HS w0 M As w) (hb : Below w.heap.size w w') : HS w0 M As w' :=
  ⟨hb.os.trans h.os, hb.tape.trans h.tape, hb.output.trans h.output, Nat.le_trans h.size hb.size,
   fun b hb' hm => (hb.block b (Nat.lt_of_lt_of_le hb' h.size)).trans (h.old b hb' hm),
   fun A hA => A.loc w w' (fun b hbf => hb.block b (h.lt A hA b hbf).1) (h.ok A hA),
   fun A hA b hbf => ⟨Nat.lt_of_lt_of_le (h.lt A hA b hbf).1 hb.size, (h.lt A hA b hbf).2⟩, h.sep⟩
theorem HS.drew (h : HS w0 M As w) : HS w0 M As w.drew := h.stable (Below.drew (Below.refl _ _))
/-- A callee's new memory beside ours. -/
theorem HS.call {Bs : List HA} (h : HS w0 M As w) (hc : HS w [] Bs w') : HS w0 M (Bs ++ As) w' := by
  have hs := h.stable hc.below
  refine ⟨hs.os, hs.tape, hs.output, hs.size, hs.old, fun A hA => ?_, fun A hA => ?_, ?_⟩
  · rcases List.mem_append.1 hA with hA | hA
    · exact hc.ok A hA
    · exact hs.ok A hA
  · rcases List.mem_append.1 hA with hA | hA
    · intro b hb
      have h1 := hc.lt A hA b hb
      refine ⟨h1.1, fun hlt => ?_⟩
      have := h1.2 (Nat.lt_of_lt_of_le hlt h.size)
      cases this
    · exact hs.lt A hA
  · rw [List.pairwise_append]
    refine ⟨hc.sep, h.sep, fun A hA B hB b hbA hbB => ?_⟩
    have h1 := (hc.lt A hA b hbA).2 (h.lt B hB b hbB).1
    cases h1
/-- A callee that may write to the blocks Mc of the first assertions. -/
theorem HS.callM {Cs Bs : List HA} {Mc : List Nat} (h : HS w0 M (Cs ++ As) w) (hMc : ∀ b ∈ Mc, ∃ A ∈ Cs, b ∈ A.fp) (hc : HS w Mc Bs w') : HS w0 M (Bs ++ As) w' := by
  have hsep := List.pairwise_append.1 h.sep
  have hAs : ∀ A ∈ As, ∀ b ∈ A.fp, b < w.heap.size ∧ b ∉ Mc := fun A hA b hb => ⟨(h.lt A (List.mem_append_right _ hA) b hb).1, fun hm => by
    obtain ⟨B, hB, hbB⟩ := hMc b hm
    exact hsep.2.2 B hB A hA b hbB hb⟩
  refine ⟨hc.os.trans h.os, hc.tape.trans h.tape, hc.output.trans h.output, Nat.le_trans h.size hc.size, fun b hb hm => ?_, fun A hA => ?_, fun A hA b hb => ?_, ?_⟩
  · refine (hc.old b (Nat.lt_of_lt_of_le hb h.size) fun hmc => ?_).trans (h.old b hb hm)
    obtain ⟨B, hB, hbB⟩ := hMc b hmc
    exact hm ((h.lt B (List.mem_append_left _ hB) b hbB).2 hb)
  · rcases List.mem_append.1 hA with hA | hA
    · exact hc.ok A hA
    · exact A.loc w w' (fun b hb => hc.old b (hAs A hA b hb).1 (hAs A hA b hb).2) (h.ok A (List.mem_append_right _ hA))
  · rcases List.mem_append.1 hA with hA | hA
    · have h1 := hc.lt A hA b hb
      refine ⟨h1.1, fun hlt => ?_⟩
      obtain ⟨B, hB, hbB⟩ := hMc b (h1.2 (Nat.lt_of_lt_of_le hlt h.size))
      exact (h.lt B (List.mem_append_left _ hB) b hbB).2 hlt
    · have h1 := h.lt A (List.mem_append_right _ hA) b hb
      exact ⟨Nat.lt_of_lt_of_le h1.1 hc.size, h1.2⟩
  · rw [List.pairwise_append]
    refine ⟨hc.sep, hsep.2.1, fun A hA B hB b hbA hbB => ?_⟩
    exact (hAs B hB b hbB).2 ((hc.lt A hA b hbA).2 (hAs B hB b hbB).1)
theorem HS.sub {As' : List HA} (h : HS w0 M As w) (hs : As'.Sublist As) : HS w0 M As' w :=
  ⟨h.os, h.tape, h.output, h.size, h.old, fun A hA => h.ok A (hs.subset hA), fun A hA => h.lt A (hs.subset hA), h.sep.sublist hs⟩
theorem HS.perm {As' : List HA} (h : HS w0 M As w) (hs : As.Perm As') : HS w0 M As' w :=
  ⟨h.os, h.tape, h.output, h.size, h.old, fun A hA => h.ok A (hs.symm.subset hA), fun A hA => h.lt A (hs.symm.subset hA),
   (hs.pairwise_iff (fun hAB b hbB hbA => hAB b hbA hbB)).1 h.sep⟩
theorem HS.nil (h : HS w0 M As w) : HS w0 M [] w := h.sub (List.nil_sublist _)
/-- A new assertion of the newest block. -/
theorem HS.alloc (h : HS w0 M As w) (o : Obj) (A : HA) (hf : A.fp = [w.heap.size]) (hA : A.ok (w.alloc o)) : HS w0 M (A :: As) (w.alloc o) := by
  refine HS.call (Bs := [A]) h ⟨rfl, rfl, rfl, by simp, fun b hb _ => Below.heap_alloc w o b hb, fun B hB => ?_, fun B hB b hb => ?_, .cons (fun _ h => (by cases h)) .nil⟩
  · rcases List.mem_singleton.1 hB; exact hA
  · rcases List.mem_singleton.1 hB
    rw [hf] at hb
    rcases List.mem_singleton.1 hb
    exact ⟨by simp, fun hlt => absurd hlt (Nat.lt_irrefl _)⟩
/-- The first assertion is replaced: its blocks alone may have changed. -/
theorem HS.swap {A B : HA} (h : HS w0 M (A :: As) w) (hfp : ∀ b ∈ B.fp, b ∈ A.fp) (hos : w'.os = w.os) (htape : w'.tape = w.tape) (hout : w'.output = w.output)
    (hsize : w'.heap.size = w.heap.size) (hold : ∀ b, b ∉ A.fp → w'.heap[b]? = w.heap[b]?) (hB : B.ok w') : HS w0 M (B :: As) w' := by
  have hs := List.pairwise_cons.1 h.sep
  refine ⟨hos.trans h.os, htape.trans h.tape, hout.trans h.output, by rw [hsize]; exact h.size, fun b hb hm => ?_, fun C hC => ?_, fun C hC b hb => ?_, ?_⟩
  · refine (hold b fun hbA => ?_).trans (h.old b hb hm)
    exact hm ((h.lt A (List.mem_cons_self ..) b hbA).2 hb)
  · rcases List.mem_cons.1 hC with rfl | hC
    · exact hB
    · exact C.loc w w' (fun b hb => hold b fun hbA => hs.1 C hC b hbA hb) (h.ok C (List.mem_cons_of_mem _ hC))
  · rw [hsize]
    rcases List.mem_cons.1 hC with rfl | hC
    · exact h.lt A (List.mem_cons_self ..) b (hfp b hb)
    · exact h.lt C (List.mem_cons_of_mem _ hC) b hb
  · exact List.pairwise_cons.2 ⟨fun C hC b hb => hs.1 C hC b (hfp b hb), hs.2⟩
/-- The first assertion says something else of the same world. -/
theorem HS.turn {A B : HA} (h : HS w0 M (A :: As) w) (hfp : ∀ b ∈ B.fp, b ∈ A.fp) (hB : A.ok w → B.ok w) : HS w0 M (B :: As) w :=
  h.swap hfp rfl rfl rfl rfl (fun _ _ => rfl) (hB (h.ok A (List.mem_cons_self ..)))
theorem HS.head {A : HA} (h : HS w0 M (A :: As) w) : A.ok w := h.ok A (List.mem_cons_self ..)
theorem HS.tail {A : HA} (h : HS w0 M (A :: As) w) : HS w0 M As w := h.sub (List.sublist_cons_self _ _)
end

/-! ## An assertion taken out of a list -/
def Pick (As : List HA) (A : HA) (As' : List HA) : Prop := As.Perm (A :: As')
theorem Pick.here {A : HA} {As : List HA} : Pick (A :: As) A As := .refl _
theorem Pick.there {A B : HA} {As As' : List HA} (h : Pick As A As') : Pick (B :: As) A (B :: As') := (List.Perm.cons _ h).trans (.swap ..)
theorem Pick.perm {As : List HA} {A : HA} {As' : List HA} (h : Pick As A As') : As.Perm (A :: As') := h
theorem HS.pick {w0 w : World} {M : List Nat} {As As' : List HA} {A : HA} (h : HS w0 M As w) (hp : Pick As A As') : HS w0 M (A :: As') w := h.perm hp.perm
/-- The same place in the list, another assertion there. -/
def Put (As : List HA) (A B : HA) (As' : List HA) : Prop := ∃ Rs, Pick As A Rs ∧ (B :: Rs).Perm As'
theorem Put.here {A B : HA} {As : List HA} : Put (A :: As) A B (B :: As) := ⟨_, .here, .refl _⟩
theorem Put.there {A B D : HA} {As As' : List HA} (h : Put As A B As') : Put (D :: As) A B (D :: As') := by
  obtain ⟨Rs, h1, h2⟩ := h
  exact ⟨_, .there h1, (List.Perm.swap ..).trans (List.Perm.cons _ h2)⟩
theorem Put.ex {As : List HA} {A B : HA} {As' : List HA} (h : Put As A B As') : ∃ Rs, Pick As A Rs ∧ (B :: Rs).Perm As' := h

/-! ## A block of cells -/
section
variable {w : World} {b : Nat} {t : TypeId} {tot : Nat} {cs : List Value}
theorem BlkOk.cell (h : BlkOk b t tot cs w) {i : Nat} {v : Value} (hv : cs[i]? = some v) : w.cell? ⟨b, i, none⟩ = some v := by
  obtain ⟨cur, fr, h1, _, _, h4, _⟩ := h
  have hi : i < cs.length := by
    rcases Nat.lt_or_ge i cs.length with h' | h'
    · exact h'
    · simp [List.getElem?_eq_none h'] at hv
  simp [World.cell?, h1, h4 i hi, hv]
theorem BlkOk.frozen (h : BlkOk b t tot cs w) {i : Nat} (hi : i < tot) : w.frozen? ⟨b, i, none⟩ = false := by
  obtain ⟨cur, fr, h1, h2, _, _, h5⟩ := h
  simp only [World.frozen?, h1]
  obtain ⟨lo, hi'⟩ := fr
  cases hb : (decide (lo ≤ i) && decide (i < hi')) with
  | false => rfl
  | true =>
    simp only [Bool.and_eq_true, decide_eq_true_eq] at hb
    have := h5 i hb.1 hb.2
    omega
/-- Where the block ends, and that the place behind it is not frozen (but in a row of bytes). -/
theorem BlkOk.shape (h : BlkOk b t tot cs w) : ∃ k, tot ≤ k ∧ w.shape? b = some (t, k) ∧ (t ≠ u8T → w.frozen? ⟨b, k, none⟩ = false) := by
  obtain ⟨cur, fr, h1, h2, _, _, h5⟩ := h
  refine ⟨cur.size, h2, by simp [World.shape?, h1], fun ht => ?_⟩
  simp only [World.frozen?, h1]
  obtain ⟨lo, hi'⟩ := fr
  cases hb : (decide (lo ≤ cur.size) && decide (cur.size < hi')) with
  | false => rfl
  | true =>
    simp only [Bool.and_eq_true, decide_eq_true_eq] at hb
    have := h5 cur.size hb.1 hb.2
    rcases this with h | ⟨_, h⟩
    · omega
    · exact absurd h ht
theorem BlkOk.cellsome (h : BlkOk b t tot cs w) {i : Nat} (hi : i < tot) : ∃ v, w.cell? ⟨b, i, none⟩ = some v := by
  obtain ⟨cur, fr, h1, h2, _⟩ := h
  exact ⟨cur[i]'(by omega), by simp [World.cell?, h1, Array.getElem?_eq_getElem (show i < cur.size by omega)]⟩
theorem BlkOk.set (h : BlkOk b t tot cs w) {i : Nat} (hi : i < cs.length) (v : Value) : BlkOk b t tot (cs.set i v) (w.setCell ⟨b, i, none⟩ v) := by
  obtain ⟨cur, fr, h1, h2, h3, h4, h5⟩ := h
  refine ⟨cur.setIfInBounds i v, fr, by simp [World.setCell, Array.getElem?_modify, h1], by simpa using h2, by simpa using h3, fun j hj => ?_, by simpa using h5⟩
  rw [Array.getElem?_setIfInBounds, List.getElem?_set]
  by_cases e : i = j
  · subst e
    rw [if_pos rfl, if_pos rfl, if_pos (by omega), if_pos (by simpa using hj)]
  · rw [if_neg e, if_neg e]
    exact h4 j (by simpa using hj)
theorem BlkOk.alloc (w : World) (t : TypeId) (cs : Array Value) : BlkOk w.heap.size t cs.size cs.toList (w.alloc (.cells cs t)) :=
  ⟨cs, (0, 0), heap_alloc_new w _, Nat.le_refl _, by simp, fun i _ => by simp, fun _ _ h => absurd h (Nat.not_lt_zero _)⟩
theorem heap_setCell_ne (w : World) (b i : Nat) (v : Value) (k : Nat) (h : k ≠ b) : (w.setCell ⟨b, i, none⟩ v).heap[k]? = w.heap[k]? := Below.heap_setCell _ _ _ _ h
end
section
variable {w0 w : World} {M : List Nat} {As As' : List HA} {b : Nat} {t : TypeId} {tot : Nat} {cs : List Value}
theorem HS.blk_new (h : HS w0 M As w) (t : TypeId) (cs : Array Value) : HS w0 M (.blk w.heap.size t cs.size cs.toList :: As) (w.alloc (.cells cs t)) :=
  h.alloc _ _ rfl (BlkOk.alloc w t cs)
theorem HS.blk_get (h : HS w0 M As w) (hp : Pick As (.blk b t tot cs) As') : BlkOk b t tot cs w := (h.pick hp).head
end

/-! ## A slice value with a row of its own (or nil) -/
section
variable {w0 w : World} {M : List Nat} {As As' : List HA} {v : Value} {t : TypeId} {sz n : Nat} {xs : List Value}
theorem HS.own_nil (h : HS w0 M As w) (t : TypeId) (sz : Nat) : HS w0 M (.own (.slice none 0 0) t sz 0 [] :: As) w := by
  refine HS.call (Bs := [_]) h ⟨rfl, rfl, rfl, Nat.le_refl _, fun _ _ _ => rfl, fun B hB => ?_, fun B hB b hb => ?_, .cons (fun _ h => (by cases h)) .nil⟩
  · rcases List.mem_singleton.1 hB; exact ⟨by simp, .inl ⟨rfl, rfl⟩⟩
  · rcases List.mem_singleton.1 hB; simp [HA.fp_own, Value.ownBlock] at hb
theorem HS.own_open' (h : HS w0 M (.own v t sz n xs :: As) w) (hn : 0 < n) : ∃ g cap, v = .slice (some ⟨g, 0, none⟩) n cap ∧ n ≤ cap ∧ cap ≤ maxLen ∧ xs.length = n * sz ∧ HS w0 M (.blk g t (cap * sz) xs :: As) w := by
  obtain ⟨hl, ⟨_, h0⟩ | ⟨g, cap, rfl, h1, h2, h3⟩⟩ := h.head
  · omega
  · exact ⟨g, cap, rfl, h1, h2, hl, h.turn (B := .blk g t (cap * sz) xs) (fun b hb => by simpa [HA.fp_own, HA.fp_blk, Value.ownBlock] using hb) fun _ => h3⟩
/-- .. and back. -/
theorem HS.own_shut {g cap : Nat} (h : HS w0 M (.blk g t (cap * sz) xs :: As) w) (hl : xs.length = n * sz) (hn : n ≤ cap) (hc : cap ≤ maxLen) : HS w0 M (.own (.slice (some ⟨g, 0, none⟩) n cap) t sz n xs :: As) w :=
  h.turn (fun b hb => by simpa [HA.fp_own, HA.fp_blk, Value.ownBlock] using hb) fun hb => ⟨hl, .inr ⟨g, cap, rfl, hn, hc, hb⟩⟩
/-- A slice of the call's own, whatever its form: a length and some cells. -/
theorem OwnOk.form (h : OwnOk v t sz n xs w) : ∃ a cap, v = .slice a n cap ∧ (0 < n → ∃ g, a = some ⟨g, 0, none⟩) := by
  obtain ⟨_, ⟨rfl, rfl⟩ | ⟨g, cap, rfl, _⟩⟩ := h
  · exact ⟨none, 0, rfl, fun h => by omega⟩
  · exact ⟨_, cap, rfl, fun _ => ⟨g, rfl⟩⟩
end

/-! ## What was there before and is not written -/
/-- At address ⟨b, o⟩ in world w stands v, in a block that is not in M. -/
def Rd (w : World) (M : List Nat) (b o : Nat) (v : Value) : Prop := b < w.heap.size ∧ b ∉ M ∧ w.cell? ⟨b, o, none⟩ = some v
theorem HS.rd {w0 w : World} {M : List Nat} {As : List HA} (h : HS w0 M As w) {b o : Nat} {v : Value} (hr : Rd w0 M b o v) : w.cell? ⟨b, o, none⟩ = some v :=
  (World.cell?_of_block (w := w0) (h.old b hr.1 hr.2.1)).trans hr.2.2
/-- A slice that reads as rows of cells. -/
structure Sl (w : World) (M : List Nat) (a : Option Addr) (sz n : Nat) (cell : Nat → List Value) : Prop where
  at_ : 0 < n → ∃ b o, a = some ⟨b, o, none⟩ ∧ ∀ i, i < n → (cell i).length = sz ∧ ∀ j v, (cell i)[j]? = some v → Rd w M b (o + i * sz + j) v
def ab (a : Option Addr) : Nat := match a with | some a => a.block | none => 0
def ao (a : Option Addr) : Nat := match a with | some a => a.off | none => 0
theorem Sl.rd {w : World} {M : List Nat} {a : Option Addr} {sz n : Nat} {cell : Nat → List Value} (h : Sl w M a sz n cell) {i j : Nat} {v : Value} (hi : i < n) (hv : (cell i)[j]? = some v) :
    Rd w M (ab a) (ao a + i * sz + j) v := by
  obtain ⟨b, o, rfl, h2⟩ := h.at_ (by omega)
  exact (h2 i hi).2 j v hv
theorem Sl.some {w : World} {M : List Nat} {a : Option Addr} {sz n : Nat} {cell : Nat → List Value} (h : Sl w M a sz n cell) (hn : 0 < n) : a = .some ⟨ab a, ao a, none⟩ := by
  obtain ⟨b, o, rfl, _⟩ := h.at_ hn
  rfl
/-- What holds of a slice holds in later worlds. -/
theorem Sl.later {w w' : World} {M M' : List Nat} {As : List HA} {a : Option Addr} {sz n : Nat} {cell : Nat → List Value} (h : Sl w M a sz n cell) (hs : HS w M As w')
    (hM : ∀ b, b < w.heap.size → b ∉ M → b ∉ M') : Sl w' M' a sz n cell :=
  ⟨fun hn => by
    obtain ⟨b, o, rfl, h2⟩ := h.at_ hn
    exact ⟨b, o, rfl, fun i hi => ⟨(h2 i hi).1, fun j v hv => by
      have hr := (h2 i hi).2 j v hv
      exact ⟨Nat.lt_of_lt_of_le hr.1 hs.size, hM b hr.1 hr.2.1, hs.rd hr⟩⟩⟩⟩
end Gx

/- The engine's rules for single operations. -/
namespace Gx
open Go Go.RowKit

/-- A string of these bytes. -/
def bs (l : List UInt8) : ByteArray := ⟨⟨l⟩⟩
@[simp] theorem bs_size (l : List UInt8) : (bs l).size = l.length := rfl
@[simp] theorem bs_data (l : List UInt8) : (bs l).data.toList = l := rfl
theorem bs_of (s : ByteArray) : s = bs s.data.toList := rfl
/-- ρ agrees with what is known of the slots. -/
def Agr (L : Slots) (ρ : Operand → Value) : Prop := ∀ x v, ev L x = some v → ρ x = v
/-- What an operation came to. -/
def Res (P : Program) (Post : Value → World → Prop) : Result Next → Prop
  | .ok (.value v) w' => Post v w'
  | .ok .skip w' => Post undef w'
  | .ok (.enter f args) w' => Calls P f args w' fun e w'' => ∃ v, e = .returned v ∧ Post v w''
  | .ok (.round l f tmps assign body) w' => RoundIn Fence.wide 0 P l f tmps assign body w' fun e w'' => ∃ v, e = .returned v ∧ Post v w''
  | _ => False
theorem no_defer {P : Program} {o : Oper} {ρ : Operand → Value} {w : World} {Post : Value → World → Prop} (h : Res P Post ((execOp ρ o).run P w)) : ∀ c, o.op ≠ .defer c := by
  intro c hc
  simp only [execOp, hc, Sem.run_bind] at h
  cases hr : (resolve ρ c o.type).run P w with
  | ok d w' => rw [hr] at h; simp [Result.andThen, Res] at h
  | halt x w' => rw [hr] at h; simp [Result.andThen, Res] at h
theorem wp_of_res {P : Program} {o : Oper} {a : Act} {w : World} {K : Act → World → Prop} {Q : Exit → Act → World → Prop} {Post : Value → World → Prop} {r : Option Nat}
    (h : Res P Post ((execOp a.eval o).run P w)) (hk : ∀ v w', Post v w' → K (a.put o.dst v) w') : o.wpIn { Fence.wide with round := r } 0 P a w K Q := by
  refine ⟨fun _ _ => trivial, ?_⟩
  show o.uponIn _ 0 P a K Q ((o.semAt r a.eval).run P w)
  rw [Oper.semAt_eq r a.eval o (no_defer h)]
  generalize (execOp a.eval o).run P w = q at *
  cases q with
  | halt x w' => cases h
  | ok x w' =>
    cases x <;> first
      | exact hk _ _ h
      | exact hk _ _ (show Post undef _ from h)
      | exact ⟨fun h => (by cases h), CallsIn.mono ((callsIn_wide (n := 0)).2 h) fun e w'' he => by obtain ⟨v, rfl, hp⟩ := he; exact hk _ _ hp⟩
      | exact ⟨fun h => (by cases h), RoundIn.mono h fun e w'' he => by obtain ⟨v, rfl, hp⟩ := he; exact hk _ _ hp⟩
      | cases h
/-- The operation yields v in every world of the class, and writes to nothing old. -/
def OpQ (P : Program) (o : Oper) (L : Slots) (C : World → Prop) (v : Value) : Prop :=
  ∀ ρ w, Agr L ρ → C w → Res P (fun u w' => u = v ∧ Below w.heap.size w w') ((execOp ρ o).run P w)
/-- The operation yields V g, for some g, and leads to the class C' g. -/
def OpH (P : Program) (o : Oper) (L : Slots) (C : World → Prop) {G : Type} (V : G → Value) (F : G → Prop) (C' : G → World → Prop) : Prop :=
  ∀ ρ w, Agr L ρ → C w → Res P (fun u w' => ∃ g, u = V g ∧ F g ∧ C' g w') ((execOp ρ o).run P w)
/-- .. without looking into memory. -/
def OpP (P : Program) (o : Oper) (L : Slots) (v : Value) : Prop := ∀ ρ w, Agr L ρ → (execOp ρ o).run P w = .ok (.value v) w
theorem OpP.q {P : Program} {o : Oper} {L : Slots} {v : Value} (h : OpP P o L v) (C : World → Prop) : OpQ P o L C v := fun ρ w hρ _ => by rw [h ρ w hρ]; exact ⟨rfl, Below.refl _ _⟩
def Stable (C : World → Prop) : Prop := ∀ w w', C w → Below w.heap.size w w' → C w'
theorem HS.stab (w0 : World) (M : List Nat) (As : List HA) : Stable (HS w0 M As) := fun _ _ h hb => h.stable hb
theorem Res.mono {P : Program} {Post Post' : Value → World → Prop} {r : Result Next} (h : Res P Post r) (hp : ∀ v w, Post v w → Post' v w) : Res P Post' r := by
  cases r with
  | halt x w' => cases h
  | ok x w' => cases x <;> first | exact hp _ _ h | exact hp _ _ (show Post undef _ from h) | exact Calls.mono h fun e w'' ⟨v, he, hp'⟩ => ⟨v, he, hp _ _ hp'⟩ | exact RoundIn.mono h fun e w'' ⟨v, he, hp'⟩ => ⟨v, he, hp _ _ hp'⟩ | cases h
theorem OpQ.h {P : Program} {o : Oper} {L : Slots} {C : World → Prop} {v : Value} (h : OpQ P o L C v) (hs : Stable C) : OpH P o L C (fun _ : Unit => v) (fun _ => True) (fun _ => C) :=
  fun ρ w hρ hc => (h ρ w hρ hc).mono fun _ w' ⟨h1, h2⟩ => ⟨(), h1, trivial, hs w w' hc h2⟩
theorem FR.agr {n : Nat} {df : List Nat} {L : Slots} {a : Act} (h : FR n df L a) : Agr L a.eval := fun _ _ hx => h.evl hx

section
variable {X : Ctx} {ops : Array Oper} {rest : List Oper} {k : List KI} {L : Slots} {C : World → Prop} {d ty : Nat} {op : Op} {pos : String} {aft : Array Edge}
theorem o_h {G : Type} {V : G → Value} {F : G → Prop} {C' : G → World → Prop} (h : OpH X.P ⟨some d, op, ty, pos, aft, none⟩ L C V F C') (hd : Nat.blt d X.n = true) (next : ∀ g, F g → O X ops rest k ((d, V g) :: L) (C' g)) :
    O X ops (⟨some d, op, ty, pos, aft, none⟩ :: rest) k L C := by
  intro a w ha hw
  refine wpListIn_plain rfl fun K hK => ?_
  exact wp_of_res (h a.eval w ha.agr hw) fun v w' ⟨g, hv, hf, hc⟩ => by subst hv; exact hK _ _ (next g hf _ _ (ha.put d _ hd) hc)
theorem o_h0 {G : Type} {V : G → Value} {F : G → Prop} {C' : G → World → Prop} (h : OpH X.P ⟨none, op, ty, pos, aft, none⟩ L C V F C') (next : ∀ g, F g → O X ops rest k L (C' g)) :
    O X ops (⟨none, op, ty, pos, aft, none⟩ :: rest) k L C := by
  intro a w ha hw
  refine wpListIn_plain rfl fun K hK => ?_
  exact wp_of_res (h a.eval w ha.agr hw) fun v w' ⟨g, hv, hf, hc⟩ => by subst hv; exact hK _ _ (next g hf _ _ ha hc)
theorem o_q {w0 : World} {M : List Nat} {As : List HA} {v : Value} (h : OpQ X.P ⟨some d, op, ty, pos, aft, none⟩ L (HS w0 M As) v) (hd : Nat.blt d X.n = true) (next : O X ops rest k ((d, v) :: L) (HS w0 M As)) :
    O X ops (⟨some d, op, ty, pos, aft, none⟩ :: rest) k L (HS w0 M As) := o_h (h.h (HS.stab _ _ _)) hd fun _ _ => next
/-! ### Guards -/
theorem o_on {j : Nat} {want : Bool} {dst : Option Nat} (dj : Nat) (b : Bool) (hj : (ops[j]?).bind (·.dst) = some dj) (hb : Slots.get L dj = some (.bool b)) (hw : b = want)
    (h : O X ops (⟨dst, op, ty, pos, aft, none⟩ :: rest) k L C) : O X ops (⟨dst, op, ty, pos, aft, some (j, want)⟩ :: rest) k L C := by
  intro a w ha hw'
  have h1 := h a w ha hw'
  have hy : yielded ops a.tmps j = some b := by simp [yielded, hj, ha.slot _ _ hb]
  unfold wpListIn at h1 ⊢
  have hwant : Region.wanted ⟨dst, op, ty, pos, aft, some (j, want)⟩ (yielded ops a.tmps) = true := by simp [Region.wanted, hy, hw]
  rw [if_pos hwant]
  rw [if_pos (by simp [Region.wanted])] at h1
  exact h1
theorem o_off {j : Nat} {want : Bool} (dj : Nat) (b : Bool) (hj : (ops[j]?).bind (·.dst) = some dj) (hb : Slots.get L dj = some (.bool b)) (hw : b = !want) (hd : Nat.blt d X.n = true)
    (h : O X ops rest k ((d, undef) :: L) C) : O X ops (⟨some d, op, ty, pos, aft, some (j, want)⟩ :: rest) k L C := by
  intro a w ha hw'
  have hy : yielded ops a.tmps j = some b := by simp [yielded, hj, ha.slot _ _ hb]
  unfold wpListIn
  rw [if_neg (by simp [Region.wanted, hy, hw])]
  exact ⟨fun _ _ => trivial, h _ _ (ha.put d _ hd) hw'⟩
theorem o_off' {j : Nat} {want : Bool} (dj : Nat) (hj : (ops[j]?).bind (·.dst) = some dj) (hb : Slots.get L dj = some undef) (hd : Nat.blt d X.n = true)
    (h : O X ops rest k ((d, undef) :: L) C) : O X ops (⟨some d, op, ty, pos, aft, some (j, want)⟩ :: rest) k L C := by
  intro a w ha hw'
  have hy : yielded ops a.tmps j = none := by simp [yielded, hj, ha.slot _ _ hb, undef]
  unfold wpListIn
  rw [if_neg (by simp [Region.wanted, hy])]
  exact ⟨fun _ _ => trivial, h _ _ (ha.put d _ hd) hw'⟩
/-- A place in a region where ways meet. -/
theorem wpList_append {P : Program} {r : Option Nat} {ops : Array Oper} {Q Q' : Exit → Act → World → Prop} : ∀ (l m : List Oper) (a : Act) (w : World), wpListIn { Fence.wide with round := r } 0 P ops Q' l a w → (∀ a w, Q' .normal a w → wpListIn { Fence.wide with round := r } 0 P ops Q m a w) → (∀ e a w, e ≠ .normal → Q' e a w → Q e a w) →
    wpListIn { Fence.wide with round := r } 0 P ops Q (l ++ m) a w
  | [], m, a, w, h, h1, _ => h1 a w h
  | o :: l, m, a, w, h, h1, h2 => by
    rw [List.cons_append]
    unfold wpListIn at h ⊢
    split
    · rename_i hw
      rw [if_pos hw] at h
      have hm := Oper.wpIn_mono (fun a w h => wpList_append l m a w h h1 h2) h
      refine ⟨hm.1, ?_⟩
      have hm := hm.2
      generalize (o.semAt _ a.eval).run P w = res at hm ⊢
      cases res with
      | ok x w' =>
        cases x <;> simp only [Oper.uponIn] at hm ⊢ <;> first | exact hm | skip
        · exact ⟨hm.1, CallsIn.mono hm.2 fun e w'' he => by
            cases e with
            | returned v => exact he
            | panicked ch => exact h2 _ _ _ (by simp) he
            | outgrown => obtain ⟨a', w3, hq⟩ := he; exact ⟨a', w3, h2 _ _ _ (by simp) hq⟩⟩
        · exact ⟨hm.1, RoundIn.mono hm.2 fun e w'' he => by
            cases e with
            | returned v => exact he
            | panicked ch => exact h2 _ _ _ (by simp) he
            | outgrown => obtain ⟨a', w3, hq⟩ := he; exact ⟨a', w3, h2 _ _ _ (by simp) hq⟩⟩
      | halt x w' =>
        cases x <;> simp only [Oper.uponIn] at hm ⊢ <;> first | exact hm | exact h2 _ _ _ (by simp) hm
    · rename_i hw
      rw [if_neg hw] at h
      exact ⟨h.1, wpList_append l m _ _ h.2 h1 h2⟩
theorem post_join_past {J : Act → World → Prop} (e : Exit) (a : Act) (w : World) (he : e ≠ .normal) (h : post X (.join J :: k) e a w) : post X k e a w := by
  cases e <;> first | exact absurd rfl he | exact h
theorem o_cut {α : Type} (m : Nat) (LJ : α → Slots) (CJ : α → World → Prop) {l : List Oper} (h1 : O X ops (l.take m) (.join (At X.n X.df LJ CJ) :: k) L C) (h2 : ∀ x, O X ops (l.drop m) k (LJ x) (CJ x)) : O X ops l k L C := by
  intro a w ha hw
  have := wpList_append (Q := post X k) _ (l.drop m) a w (h1 a w ha hw) (fun a w ⟨x, hx, hc⟩ => h2 x a w hx hc) (fun e a w he h => post_join_past e a w he h)
  rwa [List.take_append_drop] at this
/-- 'a && b': the operations of b are carried out only where a holds; both ways meet behind the pick. -/
theorem o_and (m dj dp : Nat) (b c : Bool) {l : List Oper} (hb : Slots.get L dj = some (.bool b))
    (h1 : b = true → O X ops (l.take m) (.join (At X.n X.df (fun _ : Unit => (dp, .bool c) :: L) (fun _ => C)) :: k) L C)
    (h0 : b = false → O X ops (l.take m) (.join (At X.n X.df (fun _ : Unit => (dp, .bool false) :: L) (fun _ => C)) :: k) L C)
    (h2 : O X ops (l.drop m) k ((dp, .bool (b && c)) :: L) C) : O X ops l k L C := by
  refine o_cut (α := Unit) m (fun _ => (dp, .bool (b && c)) :: L) (fun _ => C) ?_ (fun _ => h2)
  cases b with
  | true => simpa using h1 rfl
  | false => simpa using h0 rfl
theorem o_or (m dj dp : Nat) (b c : Bool) {l : List Oper} (hb : Slots.get L dj = some (.bool b))
    (h1 : b = false → O X ops (l.take m) (.join (At X.n X.df (fun _ : Unit => (dp, .bool c) :: L) (fun _ => C)) :: k) L C)
    (h0 : b = true → O X ops (l.take m) (.join (At X.n X.df (fun _ : Unit => (dp, .bool true) :: L) (fun _ => C)) :: k) L C)
    (h2 : O X ops (l.drop m) k ((dp, .bool (b || c)) :: L) C) : O X ops l k L C := by
  refine o_cut (α := Unit) m (fun _ => (dp, .bool (b || c)) :: L) (fun _ => C) ?_ (fun _ => h2)
  cases b with
  | true => simpa using h0 rfl
  | false => simpa using h1 rfl
end

/-! ## Operations that only reckon -/
def kEq : IntKind → IntKind → Bool
  | .i8, .i8 | .i16, .i16 | .i32, .i32 | .i64, .i64 | .u8, .u8 | .u16, .u16 | .u32, .u32 | .u64, .u64 => true
  | _, _ => false
theorem kEq_eq {a b : IntKind} (h : kEq a b = true) : a = b := by cases a <;> cases b <;> first | rfl | cases h
def bits (op : BinOp) (k : IntKind) (x y : Int) : Int :=
  match op with
  | .and => k.wrap (BitVec.ofInt k.bits x &&& BitVec.ofInt k.bits y).toNat
  | .or => k.wrap (BitVec.ofInt k.bits x ||| BitVec.ofInt k.bits y).toNat
  | .xor => k.wrap (BitVec.ofInt k.bits x ^^^ BitVec.ofInt k.bits y).toNat
  | _ => k.wrap (BitVec.ofInt k.bits x &&& ~~~ BitVec.ofInt k.bits y).toNat
def pureInt (op : BinOp) (k : IntKind) (a b : Int) : Option Value :=
  match op with
  | .add => some (.int k (k.wrap (a + b)))
  | .sub => some (.int k (k.wrap (a - b)))
  | .mul => some (.int k (k.wrap (a * b)))
  | .eql => some (.bool (decide (a = b)))
  | .neq => some (.bool (!decide (a = b)))
  | .lss => some (.bool (decide (a < b)))
  | .leq => some (.bool (decide (a ≤ b)))
  | .gtr => some (.bool (decide (b < a)))
  | .geq => some (.bool (decide (b ≤ a)))
  | .and => some (.int k (bits .and k a b))
  | .or => some (.int k (bits .or k a b))
  | .xor => some (.int k (bits .xor k a b))
  | .andNot => some (.int k (bits .andNot k a b))
  | _ => none
def pureStr (op : BinOp) (l m : List UInt8) : Option Value :=
  match op with
  | .eql => some (.bool (decide (l = m)))
  | .neq => some (.bool (!decide (l = m)))
  | .lss => some (.bool (Op.bytesLess l m))
  | .leq => some (.bool (Op.bytesLess l m || decide (l = m)))
  | .gtr => some (.bool (!(Op.bytesLess l m || decide (l = m))))
  | .geq => some (.bool (!Op.bytesLess l m))
  | _ => none
def pureBin (op : BinOp) (x y : Value) : Option Value :=
  match x, y with
  | .int k a, .int k' b => bif kEq k k' then pureInt op k a b else none
  | .string ⟨⟨l⟩⟩, .string ⟨⟨m⟩⟩ => pureStr op l m
  | _, _ => none
def pureUn (op : UnOp) (x : Value) : Option Value :=
  match op, x with
  | .not, .bool b => some (.bool (!b))
  | .neg, .int k n => some (.int k (k.wrap (0 - n)))
  | .xor, .int k n => some (.int k (bits .xor k (if k.signed then -1 else k.max) n))
  | _, _ => none
def pickV (b : Bool) (x y : Value) : Value :=
  match x, y with
  | .bool p, .bool q => .bool (cond b p q)
  | x, y => cond b x y
def evs (L : Slots) : List Operand → Option (List Value)
  | [] => some []
  | x :: xs => match ev L x, evs L xs with
    | some v, some vs => some (v :: vs)
    | _, _ => none
def pureOp (L : Slots) : Op → Option Value
  | .move x | .assign x => ev L x
  | .pick c a b => match ev L c, ev L a, ev L b with
    | some (.bool t), some x, some y => some (pickV t x y)
    | _, _, _ => none
  | .binOp op _ x y _ => match ev L x, ev L y with
    | some a, some b => pureBin op a b
    | _, _ => none
  | .unOp op _ x => match ev L x with
    | some a => pureUn op a
    | _ => none
  | .extract x i => match ev L x with
    | some (.tuple vs) => vs.toList[i]?
    | _ => none
  | .makeFunc fn first cap => match evs L first.toList, evs L cap.toList with
    | some f, some c => some (.func fn f.toArray c.toArray)
    | _, _ => none
  | .nilCheck x => match ev L x with
    | some (.pointer (some a)) => some (.pointer (some a))
    | some (.func (.func f) first cap) => some (.func (.func f) first cap)
    | _ => none
  | _ => none
theorem pickV_eq (b : Bool) (x y : Value) : pickV b x y = if b then x else y := by
  cases b <;> unfold pickV <;> split <;> rfl
theorem evs_map {L : Slots} {ρ : Operand → Value} (hρ : Agr L ρ) : ∀ {xs : List Operand} {vs : List Value}, evs L xs = some vs → xs.map ρ = vs
  | [], vs, h => by cases h; rfl
  | x :: xs, vs, h => by
    simp only [evs] at h
    split at h
    · rename_i v vs' h1 h2
      injection h with h
      subst h
      simp [hρ x v h1, evs_map hρ h2]
    · cases h
theorem decide_beq_int (a b : Int) : (a == b) = decide (a = b) := by
  rw [Bool.eq_iff_iff]; simp
theorem pureBin_run {P : Program} {op : BinOp} {t : TypeId} {x y v : Value} (h : pureBin op x y = some v) (w : World) : (binOp op t x y).run P w = .ok v w := by
  unfold pureBin at h
  split at h
  · rename_i k a k' b
    cases hk : kEq k k' with
    | false => rw [hk] at h; cases h
    | true =>
      rw [hk] at h
      obtain rfl := kEq_eq hk
      simp only [cond_true] at h
      cases op <;> simp only [pureInt, Option.some.injEq, reduceCtorEq] at h <;> first | (subst h; simp [binOp, Op.intArith, Op.intBits, Op.intCmp, bits, decide_beq_int, bne]; done) | cases h
  · rename_i l m
    have hl : (ByteArray.mk ⟨l⟩).toList = l := ByteArray.toList_eq _
    have hm : (ByteArray.mk ⟨m⟩).toList = m := ByteArray.toList_eq _
    have hb : (l == m) = decide (l = m) := by rw [Bool.eq_iff_iff]; simp
    cases op <;> simp only [pureStr, Option.some.injEq, reduceCtorEq] at h <;> first | (subst h; simp [binOp, Op.stringOp, hl, hm, hb]; done) | cases h
  · cases h
theorem eqGuard_run {P : Program} {op : BinOp} {t : TypeId} {x y : Operand} {a b v : Value} (h : pureBin op a b = some v) (w : World) : (eqGuard op t x y a b).run P w = .ok () w := by
  unfold pureBin at h
  unfold eqGuard
  split at h
  · split <;> simp
  · split <;> simp
  · cases h
theorem pureUn_run {P : Program} {op : UnOp} {x v : Value} (h : pureUn op x = some v) (w : World) : (Op.unary op x).run P w = .ok v w := by
  unfold pureUn at h
  split at h
  · injection h with h; subst h; simp [Op.unary]
  · injection h with h; subst h; simp [Op.unary, Op.intArith]
  · injection h with h; subst h; simp [Op.unary, Op.intBits, bits]
  · cases h
/-- Operations that only reckon: by evaluation. -/
theorem p_pure {P : Program} {o : Oper} {L : Slots} {v : Value} (h : pureOp L o.op = some v) : OpP P o L v := by
  intro ρ w hρ
  unfold execOp
  unfold pureOp at h
  generalize o.op = op at *
  cases op with
  | move x => simp [hρ _ _ h]
  | assign x => simp [hρ _ _ h]
  | pick c a b =>
    dsimp only at h
    split at h
    · rename_i t x y h1 h2 h3
      injection h with h
      simp [hρ _ _ h1, hρ _ _ h2, hρ _ _ h3, asBool, ← h, pickV_eq]
    · cases h
  | binOp op t x y t' =>
    dsimp only at h
    split at h
    · rename_i a b h1 h2
      simp [hρ _ _ h1, hρ _ _ h2, eqGuard_run h, pureBin_run h]
    · cases h
  | unOp op t x =>
    dsimp only at h
    split at h
    · rename_i a h1
      simp [hρ _ _ h1, pureUn_run h]
    · cases h
  | extract x i =>
    dsimp only at h
    split at h
    · rename_i vs h1
      have h' : vs[i]? = some v := by rw [← Array.getElem?_toList]; exact h
      simp [hρ _ _ h1, Instr.extract, h']
    · cases h
  | makeFunc fn first cap =>
    dsimp only at h
    split at h
    · rename_i f c h1 h2
      injection h with h
      have e1 : first.map ρ = f.toArray := by rw [← evs_map hρ h1, ← List.map_toArray]
      have e2 : cap.map ρ = c.toArray := by rw [← evs_map hρ h2, ← List.map_toArray]
      simp [Instr.makeFunc, e1, e2, h]
    · cases h
  | nilCheck x =>
    dsimp only at h
    split at h
    · rename_i a h1
      injection h with h
      subst h
      simp [hρ _ _ h1]
    · rename_i f first cap h1
      injection h with h
      subst h
      simp [hρ _ _ h1]
    · cases h
  | _ => cases h
end Gx

/- The engine's rules for operations that look into memory, or change it. -/
namespace Gx
open Go Go.RowKit

/-! ## Facts on types, each a closed equation -/
/-- How many cells a type's value takes, and whether it is a struct or an array. -/
def tsz (P : Program) (t : TypeId) : Option (Nat × Bool) :=
  match P.info? t, P.underlying t with
  | some i, some d => some (i.size, match d with | .struct _ | .array _ _ => true | _ => false)
  | _, _ => none
/-- A struct's field: its offset and its type. -/
def tfd (P : Program) (t : TypeId) (f : Nat) : Option (Nat × TypeId) :=
  match P.underlying t with
  | some (.struct fs) => (fs[f]?).map fun x => (x.offset, x.type)
  | _ => none
/-- An integer type's kind. -/
def tki (P : Program) (t : TypeId) : Option IntKind :=
  match P.underlying t with
  | some (.int k) => some k
  | _ => none
/-- A slice type's element type, its size and its bytes. -/
def tsl (P : Program) (t : TypeId) : Option (TypeId × Nat × Nat) :=
  match P.underlying t with
  | some (.slice e) => (P.info? e).map fun i => (e, i.size, i.bytes)
  | _ => none
/-- An array type's length, element type, and that one's size. -/
def tar (P : Program) (t : TypeId) : Option (Nat × TypeId × Nat) :=
  match P.underlying t with
  | some (.array n e) => (P.info? e).map fun i => (n, e, i.size)
  | _ => none
def tzero (P : Program) (t : TypeId) : Option (List Value) := ((P.info? t).bind (·.zero)).map fun v => v.cells.toList

section
variable {P : Program} {t : TypeId} {w : World}
theorem tsz_agg {n : Nat} {b : Bool} (h : tsz P t = some (n, b)) : (isAgg t).run P w = .ok b w ∧ (Go.sizeOf t).run P w = .ok n w := by
  unfold tsz at h
  split at h
  · rename_i i d h1 h2
    simp only [Option.some.injEq, Prod.mk.injEq] at h
    obtain ⟨rfl, rfl⟩ := h
    refine ⟨?_, by simp [Go.sizeOf, typeInfo, h1]⟩
    simp only [isAgg, Sem.run_bind, run_underlying h2, Result.andThen_ok]
    cases d <;> rfl
  · cases h
theorem tsl_slice {e sz by' : Nat} (h : tsl P t = some (e, sz, by')) : P.underlying t = some (.slice e) ∧ ∃ i, P.info? e = some i ∧ i.size = sz ∧ i.bytes = by' := by
  unfold tsl at h
  split at h
  · rename_i e' hu
    cases hf : P.info? e' with
    | none => rw [hf] at h; cases h
    | some x =>
      rw [hf] at h
      simp only [Option.map_some, Option.some.injEq, Prod.mk.injEq] at h
      obtain ⟨rfl, h1, h2⟩ := h
      exact ⟨hu, x, hf, h1, h2⟩
  · cases h
theorem tar_array {n e sz : Nat} (h : tar P t = some (n, e, sz)) : P.underlying t = some (.array n e) ∧ ∃ i, P.info? e = some i ∧ i.size = sz := by
  unfold tar at h
  split at h
  · rename_i n' e' hu
    cases hf : P.info? e' with
    | none => rw [hf] at h; cases h
    | some x =>
      rw [hf] at h
      simp only [Option.map_some, Option.some.injEq, Prod.mk.injEq] at h
      obtain ⟨rfl, rfl, h2⟩ := h
      exact ⟨hu, x, hf, h2⟩
  · cases h
theorem tki_int {k : IntKind} (h : tki P t = some k) : P.underlying t = some (.int k) := by
  unfold tki at h
  split at h
  · rename_i k' hu; injection h with h; subst h; exact hu
  · cases h
theorem tzero_some {z : List Value} (h : tzero P t = some z) : ∃ i v, P.info? t = some i ∧ i.zero = some v ∧ v.cells.toList = z := by
  unfold tzero at h
  cases hi : P.info? t with
  | none => rw [hi] at h; cases h
  | some i =>
    rw [hi] at h
    cases hz : i.zero with
    | none => simp [hz] at h
    | some v => exact ⟨i, v, rfl, hz, by simpa [hz] using h⟩
end
/-- A value of these cells. -/
def vAgg (agg : Bool) (cs : List Value) : Value := match agg, cs with
  | false, [v] => v
  | _, cs => .agg cs.toArray

/-! ## Reckoning with types -/
section
variable {P : Program} {o : Oper} {L : Slots} {C : World → Prop}
theorem p_conv_int {src dst : TypeId} {x : Operand} {k0 k : IntKind} {n : Int} (ho : o.op = .convert src dst x) (hx : ev L x = some (.int k0 n)) (h0 : tki P src = some k0) (h1 : tki P dst = some k) : OpP P o L (.int k (k.wrap n)) := by
  intro ρ w hρ
  simp [execOp, ho, convert, run_underlying (tki_int h0), run_underlying (tki_int h1), hρ _ _ hx, Conv.intToInt]
theorem p_rem {t t' : TypeId} {x y : Operand} {k : IntKind} {a b : Int} (ho : o.op = .binOp .rem t x y t') (hx : ev L x = some (.int k a)) (hy : ev L y = some (.int k b)) (hb : b ≠ 0) : OpP P o L (.int k (a.tmod b)) := by
  intro ρ w hρ
  simp [execOp, ho, eqGuard, binOp, Op.intDiv, hρ _ _ hx, hρ _ _ hy, hb]
theorem p_rem_nn {t t' : TypeId} {x y : Operand} {k : IntKind} {a b : Int} (ho : o.op = .binOp .rem t x y t') (hx : ev L x = some (.int k a)) (hy : ev L y = some (.int k b)) (hb : 0 < b) (ha : 0 ≤ a) : OpP P o L (.int k (a % b)) := by
  have h := p_rem (P := P) ho hx hy (by omega)
  rwa [Int.tmod_eq_emod_of_nonneg ha] at h
theorem p_shr {t t' : TypeId} {x y : Operand} {k k' : IntKind} {a b : Int} (ho : o.op = .binOp .shr t x y t') (hx : ev L x = some (.int k a)) (hy : ev L y = some (.int k' b)) (hb : 0 ≤ b) (m : Nat) (hm : min b.toNat k.bits = m) : OpP P o L (.int k (a / 2 ^ m)) := by
  intro ρ w hρ
  simp [execOp, ho, eqGuard, binOp, Op.shift, hρ _ _ hx, hρ _ _ hy, show ¬ b < 0 by omega, hm]
  rw [Int.fdiv_eq_ediv_of_nonneg _ (Int.le_of_lt (Int.pow_pos (by omega)))]
theorem p_len_str {t : TypeId} {x : Operand} {l : List UInt8} (ho : o.op = .call { callee := .builtin .len, args := #[x], argTypes := #[t] }) (hx : ev L x = some (.string (bs l))) (h : P.underlying t = some .string) : OpP P o L (.int .i64 l.length) := by
  intro ρ w hρ
  simp [execOp, ho, resolve, invoke, builtin, Builtin.len_, run_underlying h, hρ _ _ hx, goInt]
theorem p_len_slice {t e : TypeId} {x : Operand} {a : Option Addr} {n cap : Nat} (ho : o.op = .call { callee := .builtin .len, args := #[x], argTypes := #[t] }) (hx : ev L x = some (.slice a n cap)) (h : P.underlying t = some (.slice e)) : OpP P o L (.int .i64 n) := by
  intro ρ w hρ
  simp [execOp, ho, resolve, invoke, builtin, Builtin.len_, run_underlying h, hρ _ _ hx, goInt]
theorem p_index_str {t : TypeId} {x y : Operand} {l : List UInt8} {k : IntKind} {i : Int} (ho : o.op = .index t x y) (hx : ev L x = some (.string (bs l))) (hy : ev L y = some (.int k i)) (h : P.underlying t = some .string) (j : Nat) (hj : i = (j : Int)) (hlt : j < l.length) :
    OpP P o L (.int .u8 ((l.getD j 0).toNat : Int)) := by
  intro ρ w hρ
  have hb : (bs l)[j]? = some (l.getD j 0) := by
    rw [show (bs l)[j]? = l[j]? from by simp [getElem?_def, bs]; rfl]
    rw [List.getElem?_eq_getElem hlt, List.getD_eq_getElem?_getD, List.getElem?_eq_getElem hlt]; rfl
  subst hj
  simp [execOp, ho, Instr.index, hρ _ _ hx, hρ _ _ hy, asIntOf, run_underlying h, hb]
/-- A slice's bounds: left out, or a number. -/
def IsLo (L : Slots) (lo : Option Operand) (a : Nat) : Prop := match lo with | none => a = 0 | some y => ∃ k i, ev L y = some (.int k i) ∧ i = (a : Int)
def IsHi (L : Slots) (hi : Option Operand) (n b : Nat) : Prop := match hi with | none => b = n | some y => ∃ k i, ev L y = some (.int k i) ∧ i = (b : Int)
theorem run_bounds {P : Program} {L : Slots} {ρ : Operand → Value} {w : World} {lo hi : Option Operand} {n cap a b : Nat} (isSlice : Bool) (hρ : Agr L ρ) (hlo : IsLo L lo a) (hhi : IsHi L hi n b) (hab : a ≤ b) (hb : b ≤ cap) :
    (Instr.sliceBounds isSlice n cap (lo.map ρ) (hi.map ρ) none).run P w = .ok (a, b, cap) w := by
  cases lo with
  | none =>
    cases hi with
    | none => cases hlo; cases hhi; simp [Instr.sliceBounds]
    | some y =>
      obtain ⟨k, i, h1, rfl⟩ := hhi
      cases hlo
      simp [Instr.sliceBounds, Instr.sliceBound, hρ _ _ h1, asIntOf, hb]
  | some z =>
    obtain ⟨k2, i2, h2, rfl⟩ := hlo
    cases hi with
    | none => cases hhi; simp [Instr.sliceBounds, Instr.sliceBound, hρ _ _ h2, asIntOf, hab]
    | some y =>
      obtain ⟨k, i, h1, rfl⟩ := hhi
      simp [Instr.sliceBounds, Instr.sliceBound, hρ _ _ h1, hρ _ _ h2, asIntOf, hb, hab]
theorem p_slice_str {t : TypeId} {x : Operand} {l : List UInt8} (lo hi : Option Operand) (a b : Nat) (ho : o.op = .slice t x lo hi none) (hx : ev L x = some (.string (bs l))) (h : P.underlying t = some .string)
    (hlo : IsLo L lo a) (hhi : IsHi L hi l.length b) (hab : a ≤ b) (hbl : b ≤ l.length) :
    OpP P o L (.string (bs ((l.take b).drop a))) := by
  intro ρ w hρ
  have he : (bs l).extract a b = bs ((l.take b).drop a) := (bs_of _).trans (congrArg bs (by rw [Lib.extract_data, bs_data, List.drop_take]))
  have hb := run_bounds (P := P) (w := w) false hρ hlo hhi hab (show b ≤ l.length from hbl)
  simp only [execOp, ho, Instr.sliceAt, Sem.run_bind, run_underlying h, Result.andThen_ok, Instr.slice, hρ _ _ hx, bs_size, Option.map_none, Option.isSome_none, Bool.false_eq_true, if_false, hb, he, Sem.run_pure]
theorem p_slice_str_from {t : TypeId} {x y : Operand} {l : List UInt8} (a : Nat) {k : IntKind} {i : Int} (ho : o.op = .slice t x (some y) none none) (hx : ev L x = some (.string (bs l))) (hy : ev L y = some (.int k i)) (h : P.underlying t = some .string)
    (hi : i = (a : Int)) (ha : a ≤ l.length) : OpP P o L (.string (bs (l.drop a))) := by
  have := p_slice_str (P := P) (some y) none a l.length ho hx h ⟨k, i, hy, hi⟩ rfl ha (Nat.le_refl _)
  rwa [List.take_length] at this
theorem p_slice_str_to {t : TypeId} {x y : Operand} {l : List UInt8} (b : Nat) {k : IntKind} {i : Int} (ho : o.op = .slice t x none (some y) none) (hx : ev L x = some (.string (bs l))) (hy : ev L y = some (.int k i)) (h : P.underlying t = some .string)
    (hi : i = (b : Int)) (hb : b ≤ l.length) : OpP P o L (.string (bs (l.take b))) := by
  have := p_slice_str (P := P) none (some y) 0 b ho hx h rfl ⟨k, i, hy, hi⟩ (Nat.zero_le _) hb
  rwa [List.drop_zero] at this
theorem p_str_add {t t' : TypeId} {x y : Operand} {l m : List UInt8} (ho : o.op = .binOp .add t x y t') (hx : ev L x = some (.string (bs l))) (hy : ev L y = some (.string (bs m))) (hlen : l.length + m.length ≤ 9223372036854775807) : OpP P o L (.string (bs (l ++ m))) := by
  intro ρ w hρ
  have hlen' : (l.length : Int) + (m.length : Int) ≤ IntKind.i64.max := by
    have : IntKind.i64.max = 9223372036854775807 := by decide
    omega
  have e : bs l ++ bs m = bs (l ++ m) := (bs_of _).trans (congrArg bs (by simp [ByteArray.data_append]))
  simp [execOp, ho, eqGuard, binOp, Op.stringOp, hρ _ _ hx, hρ _ _ hy, e]
  exact hlen'

/-! ## Addresses -/
theorem addr_add (b i n : Nat) : (⟨b, i, none⟩ : Addr).add n = ⟨b, i + n, none⟩ := by
  unfold Addr.add; split
  · rename_i h; subst h; rfl
  · rfl
theorem p_indexAddr {t e sz by' : Nat} {x y : Operand} {a : Option Addr} {b i n cap : Nat} {k : IntKind} {ix : Int} (ho : o.op = .indexAddr t x y) (hx : ev L x = some (.slice a n cap)) (hy : ev L y = some (.int k ix)) (ht : tsl P t = some (e, sz, by')) (j : Nat) (hj : ix = (j : Int)) (hlt : j < n) (ha : a = some ⟨b, i, none⟩) :
    OpP P o L (.pointer (some ⟨b, i + j * sz, none⟩)) := by
  intro ρ w hρ
  obtain ⟨h1, inf, h2, h3, _⟩ := tsl_slice ht
  subst ha
  subst hj
  simp [execOp, ho, Instr.indexAt, hρ _ _ hx, hρ _ _ hy, asIntOf, run_underlying h1, hlt, Go.sizeOf, typeInfo, h2, h3, addr_add]
theorem p_indexAddr_arr {t e sz len : Nat} {x y : Operand} {b i : Nat} {k : IntKind} {ix : Int} (ho : o.op = .indexAddr t x y) (hx : ev L x = some (.pointer (some ⟨b, i, none⟩))) (hy : ev L y = some (.int k ix)) (ht : tar P t = some (len, e, sz)) (j : Nat) (hj : ix = (j : Int)) (hlt : j < len) :
    OpP P o L (.pointer (some ⟨b, i + j * sz, none⟩)) := by
  intro ρ w hρ
  obtain ⟨h1, inf, h2, h3⟩ := tar_array ht
  subst hj
  simp [execOp, ho, Instr.indexAt, hρ _ _ hx, hρ _ _ hy, asIntOf, run_underlying h1, hlt, Go.sizeOf, typeInfo, h2, h3, addr_add, Instr.sureAddr]
/-! ## Structs and arrays as values -/
def cut (cs : List Value) (off n : Nat) : List Value := (cs.drop off).take n
/-- Where the fields of a struct lie, and how many cells they take. -/
def tplaces (P : Program) (t : TypeId) : Option (List (Nat × Nat)) :=
  match P.underlying t with
  | some (.struct fs) => fs.toList.mapM fun f => (P.info? f.type).map fun i => (f.offset, i.size)
  | _ => none
/-- Cells written one behind the other. -/
def setMany : List Value → Nat → List Value → List Value
  | cs, _, [] => cs
  | cs, i, v :: vs => setMany (cs.set i v) (i + 1) vs
theorem setMany_length : ∀ (vs : List Value) (cs : List Value) (i : Nat), (setMany cs i vs).length = cs.length
  | [], _, _ => rfl
  | v :: vs, cs, i => by rw [setMany, setMany_length vs]; simp
/-- A struct or an array put together, in lists. -/
def fillL (place : Nat → Option (Nat × Nat)) : List Value → List (Nat × Value) → Option (List Value)
  | cells, [] => some cells
  | cells, (i, v) :: rest => match place i with
    | none => none
    | some (off, size) => bif Nat.beq v.cells.toList.length size && Nat.ble (off + v.cells.toList.length) cells.length then fillL place (setMany cells off v.cells.toList) rest else none
theorem foldl_setMany (off : Nat) : ∀ (vs : List Value) (k : Nat) (cs : Array Value), ((vs.zipIdx k).foldl (fun (cs : Array Value) (p : Value × Nat) => cs.setIfInBounds (off + p.2) p.1) cs).toList = setMany cs.toList (off + k) vs
  | [], _, _ => rfl
  | v :: vs, k, cs => by
    rw [List.zipIdx_cons, List.foldl_cons, foldl_setMany off vs (k + 1), setMany, Array.toList_setIfInBounds]
    rfl
theorem fill_eq {place : Nat → Option (Nat × Nat)} : ∀ {ps : List (Nat × Value)} {cells : List Value} {cs : List Value}, fillL place cells ps = some cs → Instr.fill place cells.toArray ps = some cs.toArray
  | [], cells, cs, h => by
    simp only [fillL, Option.some.injEq] at h
    subst h
    rfl
  | (i, v) :: rest, cells, cs, h => by
    simp only [fillL] at h
    unfold Instr.fill
    cases hp : place i with
    | none => rw [hp] at h; cases h
    | some os =>
      obtain ⟨off, size⟩ := os
      rw [hp] at h
      simp only at h ⊢
      cases hc : (Nat.beq v.cells.toList.length size && Nat.ble (off + v.cells.toList.length) cells.length) with
      | false => rw [hc] at h; cases h
      | true =>
        rw [hc] at h
        simp only [cond_true] at h
        simp only [Bool.and_eq_true] at hc
        have h1 : v.cells.toList.length = size := Nat.eq_of_beq_eq_true hc.1
        have h2 : off + v.cells.toList.length ≤ cells.length := Nat.le_of_ble_eq_true hc.2
        have e1 : (decide (v.cells.size ≠ size) || decide (off + v.cells.size > cells.toArray.size)) = false := by
          simp only [Array.length_toList] at h1 h2
          simp [h1]
          omega
        rw [e1]
        simp only [Bool.false_eq_true, if_false]
        have e2 : (v.cells.zipIdx.foldl (fun cs (x : Value × Nat) => match x with | (c, j) => cs.setIfInBounds (off + j) c) cells.toArray) = (setMany cells off v.cells.toList).toArray := by
          apply Array.ext'
          rw [← Array.foldl_toList, Array.toList_zipIdx]
          have := foldl_setMany off v.cells.toList 0 cells.toArray
          simpa using this
        rw [e2]
        exact fill_eq h
def evParts (L : Slots) : List (Nat × Operand) → Option (List (Nat × Value))
  | [] => some []
  | (i, x) :: r => match ev L x, evParts L r with
    | some v, some vs => some ((i, v) :: vs)
    | _, _ => none
theorem evParts_map {ρ : Operand → Value} (hρ : Agr L ρ) : ∀ {ps : List (Nat × Operand)} {vs : List (Nat × Value)}, evParts L ps = some vs → ps.map (fun p => (p.1, ρ p.2)) = vs
  | [], vs, h => by cases h; rfl
  | (i, x) :: r, vs, h => by
    simp only [evParts] at h
    split at h
    · rename_i v vs' h1 h2
      injection h with h
      subst h
      simp [hρ x v h1, evParts_map hρ h2]
    · cases h
end

/-! ## Loads and stores -/
section
variable {P : Program} {o : Oper} {L : Slots} {w0 : World} {M : List Nat} {As As' : List HA}
theorem loadAt_run1 {t b i : Nat} {v : Value} {w : World} (hs : tsz P t = some (1, false)) (hc : w.cell? ⟨b, i, none⟩ = some v) : (Instr.loadAt t (.pointer (some ⟨b, i, none⟩))).run P w = .ok v w := by
  simp [Instr.loadAt, Instr.sureAddr, loadVar, (tsz_agg (w := w) hs).1, hc]
theorem loadAt_runn {t b i n : Nat} {vs : List Value} {w : World} (hs : tsz P t = some (n, true)) (hl : vs.length = n) (hc : ∀ j v, vs[j]? = some v → w.cell? ⟨b, i + j, none⟩ = some v) : (Instr.loadAt t (.pointer (some ⟨b, i, none⟩))).run P w = .ok (.agg vs.toArray) w := by
  have h := tsz_agg (w := w) hs
  have hr := run_loadCells_list (P := P) (w := w) ⟨b, i, none⟩ vs (fun j v hv => by rw [addr_add]; exact hc j v hv)
  rw [hl] at hr
  simp [Instr.loadAt, Instr.sureAddr, loadVar, h.1, h.2, hr]
/-- A cell of a block that is known. -/
theorem q_load {t x b tot i : Nat} {bt : TypeId} {cs : List Value} {v : Value} (ho : o.op = .load t (.tmp x)) (hx : Slots.get L x = some (.pointer (some ⟨b, i, none⟩))) (hs : tsz P t = some (1, false)) (hp : Pick As (.blk b bt tot cs) As') (hv : cs[i]? = some v) : OpQ P o L (HS w0 M As) v := by
  intro ρ w hρ hw
  simp only [execOp, ho, Sem.run_bind, hρ (.tmp x) _ hx, loadAt_run1 hs ((hw.blk_get hp).cell hv), Result.andThen_ok, Sem.run_pure]
  exact ⟨rfl, Below.refl _ _⟩
/-- A cell that was there before. -/
theorem q_load_old {t x b i : Nat} {v : Value} (ho : o.op = .load t (.tmp x)) (hx : Slots.get L x = some (.pointer (some ⟨b, i, none⟩))) (hs : tsz P t = some (1, false)) (hr : Rd w0 M b i v) : OpQ P o L (HS w0 M As) v := by
  intro ρ w hρ hw
  simp only [execOp, ho, Sem.run_bind, hρ (.tmp x) _ hx, loadAt_run1 hs (hw.rd hr), Result.andThen_ok, Sem.run_pure]
  exact ⟨rfl, Below.refl _ _⟩
theorem newVar_run (t : TypeId) (v : Value) (w : World) : (newVar t v).run P w = .ok ⟨w.heap.size, 0, none⟩ (w.alloc (.cells v.cells t)) := by
  simp [newVar, newRow]
/-- A new variable, of zeros. -/
theorem h_alloc {t : TypeId} {z : List Value} (ho : o.op = .alloc t) (hz : tzero P t = some z) : OpH P o L (HS w0 M As) (fun b => .pointer (some ⟨b, 0, none⟩)) (fun _ => True) (fun b => HS w0 M (.blk b t z.length z :: As)) := by
  intro ρ w hρ hw
  obtain ⟨inf, zv, h1, h2, h3⟩ := tzero_some hz
  have hzr : (zeroValue t).run P w = .ok zv w := by simp [zeroValue, typeInfo, h1, h2]
  simp only [execOp, ho, Instr.alloc, Sem.run_bind, hzr, Result.andThen_ok, newVar_run, Sem.run_pure]
  refine ⟨w.heap.size, rfl, trivial, ?_⟩
  have := hw.blk_new t zv.cells
  rw [h3] at this
  have hl : zv.cells.size = z.length := by rw [← h3]; simp
  rwa [hl] at this
/-- A new variable, of a value. -/
theorem h_box {t : TypeId} {x : Operand} {v : Value} (ho : o.op = .box t x) (hx : ev L x = some v) : OpH P o L (HS w0 M As) (fun b => .pointer (some ⟨b, 0, none⟩)) (fun _ => True) (fun b => HS w0 M (.blk b t v.cells.toList.length v.cells.toList :: As)) := by
  intro ρ w hρ hw
  simp only [execOp, ho, Instr.box, Sem.run_bind, hρ _ _ hx, Result.andThen_ok, newVar_run, Sem.run_pure]
  exact ⟨w.heap.size, rfl, trivial, by simpa using hw.blk_new t v.cells⟩
theorem storeCells_run {b i : Nat} {t : TypeId} {tot : Nat} : ∀ (vs : List Value) (j : Nat) (cs : List Value) (w : World), BlkOk b t tot cs w → i + j + vs.length ≤ cs.length → (∀ v ∈ vs, v.oneCell' = true) →
    ∃ w', (storeCells ⟨b, i, none⟩ vs j).run P w = .ok () w' ∧ BlkOk b t tot (setMany cs (i + j) vs) w' ∧ w'.os = w.os ∧ w'.tape = w.tape ∧ w'.output = w.output ∧ w'.heap.size = w.heap.size ∧ ∀ k, k ≠ b → w'.heap[k]? = w.heap[k]?
  | [], j, cs, w, h, _, _ => ⟨w, rfl, h, rfl, rfl, rfl, rfl, fun _ _ => rfl⟩
  | v :: vs, j, cs, w, h, hl, h1 => by
    simp only [List.length_cons] at hl
    have htot : cs.length ≤ tot := by obtain ⟨cur, fr, _, _, h3, _⟩ := h; exact h3
    obtain ⟨u, hu⟩ := h.cellsome (i := i + j) (by omega)
    have hf := h.frozen (i := i + j) (by omega)
    have hst : (store ((⟨b, i, none⟩ : Addr).add j) v).run P w = .ok () (w.setCell ⟨b, i + j, none⟩ v) := by
      rw [addr_add, run_store P w _ v _ (h1 v (List.mem_cons_self ..)), hu]
      simp [hf]
    obtain ⟨w', hr, hb, r1, r2, r3, r4, r5⟩ := storeCells_run (i := i) vs (j + 1) (cs.set (i + j) v) _ (h.set (i := i + j) (by omega) v) (by simp; omega) (fun v hv => h1 v (List.mem_cons_of_mem _ hv))
    refine ⟨w', ?_, by rw [setMany]; exact hb, by rw [r1]; rfl, by rw [r2]; rfl, by rw [r3]; rfl, by rw [r4]; simp, fun k hk => (r5 k hk).trans (heap_setCell_ne w b (i + j) v k hk)⟩
    rw [storeCells]
    simp only [Sem.run_bind, hst, Result.andThen_ok, hr]
theorem h_store {t x b tot i n : Nat} {y : Operand} {bt : TypeId} {ag : Bool} {cs : List Value} {v : Value} (ho : o.op = .store t (.tmp x) y) (hx : Slots.get L x = some (.pointer (some ⟨b, i, none⟩))) (hy : ev L y = some v) (hs : tsz P t = some (n, ag)) (hn : v.cells.toList.length = n)
    (hp : Put As (.blk b bt tot cs) (.blk b bt tot (setMany cs i v.cells.toList)) As') (hl : i + n ≤ cs.length) (h1 : v.cells.toList.all (·.oneCell') = true) :
    OpH P o L (HS w0 M As) (fun _ : Unit => undef) (fun _ => True) (fun _ => HS w0 M As') := by
  intro ρ w hρ hw
  obtain ⟨Rs, hpk, hperm⟩ := hp.ex
  have hw1 := hw.pick hpk
  obtain ⟨w', hr, hb, r1, r2, r3, r4, r5⟩ := storeCells_run (P := P) (i := i) v.cells.toList 0 cs w hw1.head (by omega) (fun u hu => List.all_eq_true.1 h1 u hu)
  have hsz := (tsz_agg (w := w) hs).2
  have hne : ¬ (v.cells.size ≠ n) := by simpa using hn
  simp only [execOp, ho, Instr.storeAt, Instr.sureAddr, storeVar, Sem.run_bind, hρ (.tmp x) _ hx, hρ _ _ hy, Sem.run_pure, Result.andThen_ok, hsz, hne, if_false, hr]
  exact ⟨(), rfl, trivial, (HS.swap hw1 (B := .blk b bt tot (setMany cs i v.cells.toList)) (fun _ h => h) r1 r2 r3 r4 (fun k hk => r5 k (by simpa [HA.fp_blk] using hk)) hb).perm hperm⟩

/-! ## Calls -/
/-- Function f has a body. -/
def isFn (P : Program) (f : FuncId) : Bool := match P.funcs[f]? with
  | some fn => !(fn.name == "runtime.NumGoroutine") && !fn.body.isNone
  | none => false
theorem callFunc_run {f : FuncId} {args : Array Value} {w : World} (h : isFn P f = true) : (callFunc f args).run P w = .ok (.enter f args) w := by
  unfold isFn at h
  split at h
  · rename_i fn hf
    simp only [Bool.and_eq_true, Bool.not_eq_true'] at h
    have h1 : ¬ (fn.name == "runtime.NumGoroutine") = true := by rw [h.1]; simp
    have h2 : ¬ fn.body.isNone = true := by rw [h.2]; simp
    unfold callFunc
    simp only [Sem.run_bind, run_program, Result.andThen_ok, hf]
    rw [if_neg h1, if_neg h2]
    rfl
  · cases h
theorem call_run {f : FuncId} {c : Operand} {args : Array Operand} {vs : List Value} {first cap : Array Value} {at' : Array TypeId} {ρ : Operand → Value} {w : World} (ho : o.op = .call { callee := .value c, args := args, argTypes := at' }) (hρ : Agr L ρ) (hc : ev L c = some (.func (.func f) first cap)) (hf : isFn P f = true) (ha : evs L args.toList = some vs) :
    (execOp ρ o).run P w = .ok (.enter f (first ++ vs.toArray ++ cap)) w := by
  have e1 : args.map ρ = vs.toArray := by rw [← evs_map hρ ha, ← List.map_toArray]
  unfold execOp
  simp only [ho, resolve, Sem.run_bind, hρ _ _ hc, Deferred.ofValue, e1, Sem.run_pure, Result.andThen_ok, invoke, callFunc_run hf]
/-- A callee that yields v and writes to nothing old. -/
theorem q_call {f : FuncId} {args : Array Operand} {vs : List Value} {v : Value} {at' : Array TypeId} (ho : o.op = .call { callee := .value (.func f), args := args, argTypes := at' }) (hf : isFn P f = true) (ha : evs L args.toList = some vs)
    (hc : ∀ w, HS w0 M As w → Calls P f vs.toArray w fun e w' => e = .returned v ∧ Below w.heap.size w w') : OpQ P o L (HS w0 M As) v := by
  intro ρ w hρ hw
  rw [call_run ho hρ rfl hf ha]
  have h1 := hc w hw
  simp only [Array.empty_append, Array.append_empty]
  exact Calls.mono h1 fun e w' h => ⟨v, h.1, rfl, h.2⟩
/-- A callee that yields V g and new memory. -/
theorem h_call {G : Type} {V : G → Value} {F : G → Prop} {Bs : G → List HA} {f : FuncId} {args : Array Operand} {vs : List Value} {at' : Array TypeId} (ho : o.op = .call { callee := .value (.func f), args := args, argTypes := at' }) (hf : isFn P f = true) (ha : evs L args.toList = some vs)
    (hc : ∀ w, HS w0 M As w → Calls P f vs.toArray w fun e w' => ∃ g, e = .returned (V g) ∧ F g ∧ HS w [] (Bs g) w') : OpH P o L (HS w0 M As) V F (fun g => HS w0 M (Bs g ++ As)) := by
  intro ρ w hρ hw
  rw [call_run ho hρ rfl hf ha]
  have h1 := hc w hw
  simp only [Array.empty_append, Array.append_empty]
  exact Calls.mono h1 fun e w' ⟨g, he, hf, hb⟩ => ⟨V g, he, g, rfl, hf, hw.call hb⟩
/-- A callee that may write to the blocks Mc of some assertions. -/
theorem h_callM {G : Type} {V : G → Value} {F : G → Prop} {Bs : G → List HA} {Cs Ds : List HA} {Mc : List Nat} {f : FuncId} {args : Array Operand} {vs : List Value} {at' : Array TypeId} (ho : o.op = .call { callee := .value (.func f), args := args, argTypes := at' }) (hf : isFn P f = true) (ha : evs L args.toList = some vs)
    (hp : As.Perm (Cs ++ Ds)) (hM : ∀ b ∈ Mc, ∃ A ∈ Cs, b ∈ A.fp) (hc : ∀ w, HS w0 M As w → Calls P f vs.toArray w fun e w' => ∃ g, e = .returned (V g) ∧ F g ∧ HS w Mc (Bs g) w') : OpH P o L (HS w0 M As) V F (fun g => HS w0 M (Bs g ++ Ds)) := by
  intro ρ w hρ hw
  rw [call_run ho hρ rfl hf ha]
  have h1 := hc w hw
  simp only [Array.empty_append, Array.append_empty]
  exact Calls.mono h1 fun e w' ⟨g, he, hf, hb⟩ => ⟨V g, he, g, rfl, hf, (hw.perm hp).callM hM hb⟩
/-- The same through a function value. -/
theorem q_callv {f : FuncId} {c : Operand} {args : Array Operand} {vs : List Value} {first cap : Array Value} {v : Value} {at' : Array TypeId} (ho : o.op = .call { callee := .value c, args := args, argTypes := at' }) (hcv : ev L c = some (.func (.func f) first cap)) (hf : isFn P f = true) (ha : evs L args.toList = some vs)
    (hc : ∀ w, HS w0 M As w → Calls P f (first ++ vs.toArray ++ cap) w fun e w' => e = .returned v ∧ Below w.heap.size w w') : OpQ P o L (HS w0 M As) v := by
  intro ρ w hρ hw
  rw [call_run ho hρ hcv hf ha]
  exact Calls.mono (hc w hw) fun e w' h => ⟨v, h.1, rfl, h.2⟩
/-! ## Slices -/
/-- A slice literal: a new row. -/
theorem h_buildSlice {t e sz by' len : Nat} {parts : Array (Nat × Operand)} {vs : List (Nat × Value)} {z cs : List Value} (ho : o.op = .buildSlice t len parts) (hp : evParts L parts.toList = some vs) (ht : tsl P t = some (e, sz, by')) (hz : tzero P e = some z) (hlen : Nat.ble (len * sz) 16777216 = true) (h0 : Nat.blt 0 (len * sz) = true)
    (hcs' : fillL (fun i => some (i * sz, sz)) ((List.range (len * sz)).map fun i => z.getD (i % z.length) default) vs = some cs) :
    OpH P o L (HS w0 M As) (fun b => .slice (some ⟨b, 0, none⟩) len len) (fun _ => True) (fun b => HS w0 M (.blk b e cs.length cs :: As)) := by
  intro ρ w hρ hw
  obtain ⟨inf, zv, h1, h2, h3⟩ := tzero_some hz
  obtain ⟨hu, inf', h4, h5, _⟩ := tsl_slice ht
  have hcs : Instr.fill (fun i => some (i * sz, sz)) ((Array.range (len * sz)).map (z.toArray[· % z.toArray.size]!)) vs = some cs.toArray := by
    rw [← fill_eq hcs']
    congr 1
    apply Array.ext'
    simp only [Array.toList_map, Array.toList_range, List.size_toArray]
    refine List.map_congr_left fun i _ => ?_
    simp [List.getD_eq_getElem?_getD, getElem!_def]
    cases z[i % z.length]? <;> rfl
  have hz' : zv.cells = z.toArray := by rw [← h3]
  have hpm : (parts.map fun p => (p.1, ρ p.2)).toList = vs := by rw [Array.toList_map]; exact evParts_map hρ hp
  have hzr : (zeroValue e).run P w = .ok zv w := by simp [zeroValue, typeInfo, h1, h2]
  have hsz : (Go.sizeOf e).run P w = .ok sz w := by simp [Go.sizeOf, typeInfo, h4, h5]
  have hlen' : ¬ (len * sz > 2 ^ 24) := by have := Nat.le_of_ble_eq_true hlen; omega
  have h0' : ¬ (len * sz = 0) := by have : 0 < len * sz := by simpa [Nat.blt_eq] using h0
                                    omega
  have hb : (Instr.buildSlice t len (parts.map fun p => (p.1, ρ p.2))).run P w = .ok (.slice (some ⟨w.heap.size, 0, none⟩) len len) (w.alloc (.cells cs.toArray e)) := by
    unfold Instr.buildSlice
    simp only [Sem.run_bind, run_underlying hu, Result.andThen_ok, hsz, if_neg hlen', if_neg h0', hzr, Sem.run_pure, hz', hpm, hcs, newRow, run_newObj, World.alloc_eq]
  simp only [execOp, ho, Sem.run_bind]
  rw [show (parts.map fun x => match x with | (i, x) => (i, ρ x)) = parts.map fun p => (p.1, ρ p.2) from rfl, hb]
  exact ⟨w.heap.size, rfl, trivial, by simpa using hw.blk_new e cs.toArray⟩
/-- A slice of a string's bytes. -/
theorem h_bytes {src dst e : TypeId} {x : Operand} {l : List UInt8} (ho : o.op = .convert src dst x) (hx : ev L x = some (.string (bs l))) (hs : P.underlying src = some .string) (hd : P.underlying dst = some (.slice e)) (he : P.underlying e = some (.int .u8)) (h5 : e = u8T) (hl : l.length ≤ maxLen) :
    OpH P o L (HS w0 M As) (fun p : Nat × Nat => .slice (some ⟨p.1, 0, none⟩) l.length p.2) (fun p => l.length ≤ p.2 ∧ p.2 ≤ maxLen) (fun p => HS w0 M (.blk p.1 e p.2 (l.map fun b => .int .u8 b.toNat) :: As)) := by
  intro ρ w hρ hw
  have hr := run_bytes_of_string (P := P) w src dst e (bs l) hs hd he
  simp only [execOp, ho, Sem.run_bind, hρ _ _ hx, hr, Result.andThen_ok, Sem.run_pure]
  have hge := grownCap_ge w (bs l).size 0 e
  have hle := grownCap_le_maxLen w (bs l).size 0 e hl
  refine ⟨(w.heap.size, grownCap w (bs l).size 0 e), rfl, ⟨hge, hle⟩, ?_⟩
  generalize hcap : grownCap w (bs l).size 0 e = cap at *
  have hsz : (bytesRow (bs l) cap).size = cap := by
    simp only [bytesRow, Array.size_append, Array.size_map, Array.size_replicate]
    have : (bs l).data.size = (bs l).size := rfl
    omega
  refine hw.drew.alloc _ _ rfl ⟨_, _, heap_alloc_new _ _, Nat.le_of_eq hsz.symm, by simpa using hge, fun i hi => ?_, fun i h2 h3 => ?_⟩
  · simp only [List.length_map] at hi
    simp [bytesRow, Array.getElem?_append, bs, hi]
  · exact .inr ⟨by omega, h5⟩
end
end Gx

/- The engine's rules for append, slicing of slices, make, copy, min, max; what one class says of another one; contracts. -/
namespace Gx
open Go Go.RowKit

/-! ## One class out of another one -/
def Ent (As Bs : List HA) : Prop := ∃ Cs, As.Perm (Bs ++ Cs)
theorem Ent.nil {As : List HA} : Ent As [] := ⟨As, .refl _⟩
theorem Ent.cons {As As' Bs : List HA} {A : HA} (h : Pick As A As') (r : Ent As' Bs) : Ent As (A :: Bs) := by
  obtain ⟨Cs, hc⟩ := r
  exact ⟨Cs, h.perm.trans (List.Perm.cons _ hc)⟩
theorem HS.ent {w0 w : World} {M : List Nat} {As Bs : List HA} (he : Ent As Bs) (h : HS w0 M As w) : HS w0 M Bs w := by
  obtain ⟨Cs, hc⟩ := he
  exact (h.perm hc).sub (List.sublist_append_left _ _)
theorem Ent.refl (As : List HA) : Ent As As := ⟨[], by simp⟩

/-! ## append -/
/-- A block's known part is written on. -/
theorem extend_run {P : Program} {b : Nat} {t : TypeId} {tot : Nat} : ∀ (vs : List Value) (cs : List Value) (w : World), BlkOk b t tot cs w → cs.length + vs.length ≤ tot → (∀ v ∈ vs, v.oneCell' = true) → ∀ (o j : Nat), o + j = cs.length →
    ∃ w', (storeCells ⟨b, o, none⟩ vs j).run P w = .ok () w' ∧ BlkOk b t tot (cs ++ vs) w' ∧ w'.os = w.os ∧ w'.tape = w.tape ∧ w'.output = w.output ∧ w'.heap.size = w.heap.size ∧ ∀ k, k ≠ b → w'.heap[k]? = w.heap[k]?
  | [], cs, w, h, _, _, o, j, _ => ⟨w, rfl, by simpa using h, rfl, rfl, rfl, rfl, fun _ _ => rfl⟩
  | v :: vs, cs, w, h, hl, h1, o, j, hj => by
    simp only [List.length_cons] at hl
    obtain ⟨u, hu⟩ := h.cellsome (i := cs.length) (by omega)
    have hf := h.frozen (i := cs.length) (by omega)
    have hst : (store ((⟨b, o, none⟩ : Addr).add j) v).run P w = .ok () (w.setCell ⟨b, cs.length, none⟩ v) := by
      rw [addr_add, hj, run_store P w _ v _ (h1 v (List.mem_cons_self ..)), hu]
      simp [hf]
    have h2 : BlkOk b t tot (cs ++ [v]) (w.setCell ⟨b, cs.length, none⟩ v) := by
      obtain ⟨cur, fr, e1, e2, e3, e4, e5⟩ := h
      refine ⟨cur.setIfInBounds cs.length v, fr, by simp [World.setCell, Array.getElem?_modify, e1], by simpa using e2, by simp; omega, fun i hi => ?_, by simpa using e5⟩
      simp only [List.length_append, List.length_cons, List.length_nil] at hi
      rw [Array.getElem?_setIfInBounds]
      by_cases e : cs.length = i
      · subst e
        rw [if_pos rfl, if_pos (by omega)]
        simp
      · rw [if_neg e, e4 i (by omega), List.getElem?_append_left (by omega)]
    obtain ⟨w', hr, hb, r1, r2, r3, r4, r5⟩ := extend_run (P := P) vs (cs ++ [v]) _ h2 (by simp; omega) (fun v hv => h1 v (List.mem_cons_of_mem _ hv)) o (j + 1) (by simp; omega)
    refine ⟨w', ?_, by simpa using hb, by rw [r1]; rfl, by rw [r2]; rfl, by rw [r3]; rfl, by rw [r4]; simp, fun k hk => (r5 k hk).trans (heap_setCell_ne w b _ v k hk)⟩
    rw [storeCells]
    simp only [Sem.run_bind, hst, Result.andThen_ok, hr]
/-- The source of an append: a slice that reads as these cells. -/
def Src (a : Option Addr) (news : List Value) (w : World) : Prop := news ≠ [] → ∃ b i, a = some ⟨b, i, none⟩ ∧ ∀ j u, news[j]? = some u → w.cell? ⟨b, i + j, none⟩ = some u
theorem firstCells_run {P : Program} {sz m c : Nat} {a : Option Addr} {news : List Value} {w : World} (hl : news.length = m * sz) (h : Src a news w) : (Builtin.firstCells sz m (.slice a m c)).run P w = .ok news.toArray w := by
  cases news with
  | nil =>
    cases a with
    | none => simp [Builtin.firstCells]
    | some ad => exact run_firstCells_some w sz m ad m c [] hl (fun j v hv => by simp at hv)
  | cons u us =>
    obtain ⟨b, i, rfl, h2⟩ := h (by simp)
    exact run_firstCells_some w sz m ⟨b, i, none⟩ m c _ hl (fun j v hv => by rw [addr_add]; exact h2 j v hv)
theorem grow_run {P : Program} {t xt ty e n m cap : Nat} {inf : TypeInfo} {zv x : Value} {a : Option Addr} {olds news : List Value} {w : World} (hu : P.underlying t = some (.slice e)) (hxt : P.underlying xt = some .string ∨ ∃ e', P.underlying xt = some (.slice e')) (hi : P.info? e = some inf) (hz : inf.zero = some zv)
    (hlen : (Builtin.lenOf x).run P w = .ok m w) (hfc : (Builtin.firstCells inf.size m x).run P w.drew = .ok news.toArray w.drew) (hfo : (Builtin.firstCells inf.size n (.slice a n cap)).run P w.drew = .ok olds.toArray w.drew)
    (hg : cap < n + m) (h63 : ((n + m : Nat) : Int) ≤ 9223372036854775807) (hfit : Builtin.nextslicecap (n + m) cap * inf.bytes ≤ 281474976710656) :
    (Builtin.append_ #[t, xt] ty #[.slice a n cap, x]).run P w = .ok (.slice (some ⟨w.heap.size, 0, none⟩) (n + m) (grownCap w (n + m) cap e)) (w.drew.alloc (.cells (olds.toArray ++ news.toArray ++ Builtin.zeroCells zv.cells (grownCap w (n + m) cap e - (n + m))) e)) := by
  have hn : ¬ (n + m ≤ cap) := by omega
  have h63' : ¬ (9223372036854775807 < ((n : Int) + (m : Int))) := by omega
  have h48' : ¬ (281474976710656 < Builtin.nextslicecap (n + m) cap * inf.bytes) := by omega
  rcases hxt with hxd | ⟨e', hxd⟩
  · simp [Builtin.append_, run_underlying hu, run_underlying hxd, Go.sizeOf, typeInfo, zeroValue, hi, hz, hlen, hn, h63', h48', Question.forced, hfc, hfo, newRow, grownCap]
    congr 2
    apply Array.ext'
    simp [List.append_assoc]
  · simp [Builtin.append_, run_underlying hu, run_underlying hxd, Go.sizeOf, typeInfo, zeroValue, hi, hz, hlen, hn, h63', h48', Question.forced, hfc, hfo, newRow, grownCap]
    congr 2
    apply Array.ext'
    simp [List.append_assoc]
theorem room_run {P : Program} {t xt ty e n m cap g : Nat} {inf : TypeInfo} {x : Value} {news : List Value} {w w' : World} (hu : P.underlying t = some (.slice e)) (hxt : P.underlying xt = some .string ∨ ∃ e', P.underlying xt = some (.slice e')) (hi : P.info? e = some inf)
    (hlen : (Builtin.lenOf x).run P w = .ok m w) (hfc : (Builtin.firstCells inf.size m x).run P w = .ok news.toArray w) (hst : (storeCells ((⟨g, 0, none⟩ : Addr).add (n * inf.size)) news).run P w = .ok () w')
    (hg : n + m ≤ cap) :
    (Builtin.append_ #[t, xt] ty #[.slice (some ⟨g, 0, none⟩) n cap, x]).run P w = .ok (.slice (some ⟨g, 0, none⟩) (n + m) cap) w' := by
  rcases hxt with hxd | ⟨e', hxd⟩
  · simp [Builtin.append_, run_underlying hu, run_underlying hxd, Go.sizeOf, typeInfo, hi, hlen, hg, hfc, hst]
  · simp [Builtin.append_, run_underlying hu, run_underlying hxd, Go.sizeOf, typeInfo, hi, hlen, hg, hfc, hst]
theorem none_run {P : Program} {t xt ty e : Nat} {inf : TypeInfo} {x : Value} {w : World} (hu : P.underlying t = some (.slice e)) (hxt : P.underlying xt = some .string ∨ ∃ e', P.underlying xt = some (.slice e')) (hi : P.info? e = some inf)
    (hlen : (Builtin.lenOf x).run P w = .ok 0 w) (hfc : (Builtin.firstCells inf.size 0 x).run P w = .ok #[] w) :
    (Builtin.append_ #[t, xt] ty #[.slice none 0 0, x]).run P w = .ok (.slice none 0 0) w := by
  rcases hxt with hxd | ⟨e', hxd⟩
  · simp [Builtin.append_, run_underlying hu, run_underlying hxd, Go.sizeOf, typeInfo, hi, hlen, hfc]
  · simp [Builtin.append_, run_underlying hu, run_underlying hxd, Go.sizeOf, typeInfo, hi, hlen, hfc]
/-- What an append of these cells comes to, wherever they are read from. -/
theorem append_run {P : Program} {t xt ty e sz by' n m : Nat} {v x : Value} {z xs news : List Value} {w w0 : World} {M : List Nat} {As As' : List HA} (ht : tsl P t = some (e, sz, by')) (hxt : P.underlying xt = some .string ∨ ∃ e', P.underlying xt = some (.slice e')) (hz : tzero P e = some z) (hzs : z.length = sz)
    (hw : HS w0 M As w) (hp : Pick As (.own v e sz n xs) As') (hlen : (Builtin.lenOf x).run P w = .ok m w) (hfc : (Builtin.firstCells sz m x).run P w = .ok news.toArray w) (hfc' : (Builtin.firstCells sz m x).run P w.drew = .ok news.toArray w.drew) (hl : news.length = m * sz) (h1 : ∀ u ∈ news, u.oneCell' = true)
    (hroom : (n + m) * by' ≤ 140737488355328) (hmax : n + m ≤ maxLen) :
    ∃ v' w', (Builtin.append_ #[t, xt] ty #[v, x]).run P w = .ok v' w' ∧ HS w0 M (.own v' e sz (n + m) (xs ++ news) :: As') w' := by
  obtain ⟨hu, inf, hi, hs1, hs2⟩ := tsl_slice ht
  obtain ⟨inf', zv, h4, h5, h6⟩ := tzero_some hz
  rw [hi] at h4
  injection h4 with h4
  subst h4
  subst hs1
  subst hs2
  have hpk := hw.pick hp
  obtain ⟨hxl, hown⟩ := hpk.head
  have hlx : (xs ++ news).length = (n + m) * inf.size := by rw [List.length_append, hxl, hl, Nat.add_mul]
  have hmx : ((n + m : Nat) : Int) ≤ 9223372036854775807 := by simp only [maxLen] at hmax; omega
  -- it grows
  have grow : ∀ (a : Option Addr) (cap : Nat), v = .slice a n cap → cap < n + m → (Builtin.firstCells inf.size n (.slice a n cap)).run P w.drew = .ok xs.toArray w.drew →
      ∃ v' w', (Builtin.append_ #[t, xt] ty #[v, x]).run P w = .ok v' w' ∧ HS w0 M (.own v' e inf.size (n + m) (xs ++ news) :: As') w' := by
    intro a cap hv hcap hold
    subst hv
    have hfit := growslice_fits hcap hroom
    have hge := grownCap_ge w (n + m) cap e
    have hle := grownCap_le_maxLen w (n + m) cap e hmax
    refine ⟨_, _, grow_run hu hxt hi h5 hlen hfc' hold hcap hmx hfit, ?_⟩
    generalize grownCap w (n + m) cap e = N at *
    refine ((hw.drew.pick hp).tail).alloc _ _ rfl ⟨hlx, .inr ⟨_, N, rfl, hge, hle, _, _, heap_alloc_new _ _, ?_, ?_, fun i hi => ?_, fun _ _ h => absurd h (Nat.not_lt_zero _)⟩⟩
    · refine Nat.le_of_eq (Eq.symm ?_)
      simp only [Array.size_append, List.size_toArray, size_zeroCells]
      have hzl : zv.cells.size = inf.size := by rw [← hzs, ← h6]; simp
      rw [hzl, hxl, hl, ← Nat.add_mul, ← Nat.add_mul]
      congr 1
      omega
    · rw [hlx]; exact Nat.mul_le_mul_right _ hge
    · rw [Array.getElem?_append_left (by simpa using hi)]
      simp
  rcases hown with ⟨rfl, rfl⟩ | ⟨g, cap, rfl, hnc, hcm, hblk⟩
  · have hx0 : xs = [] := List.eq_nil_of_length_eq_zero (by simpa using hxl)
    subst hx0
    rcases Nat.eq_zero_or_pos m with rfl | hm
    · have hn0 : news = [] := List.eq_nil_of_length_eq_zero (by simpa using hl)
      subst hn0
      exact ⟨.slice none 0 0, w, none_run hu hxt hi hlen hfc, by simpa using hpk⟩
    · exact grow none 0 rfl (by omega) (by simp [Builtin.firstCells])
  · by_cases hr : n + m ≤ cap
    · obtain ⟨w', hst, hb, r1, r2, r3, r4, r5⟩ := extend_run (P := P) news xs w hblk (by rw [hxl, hl, ← Nat.add_mul]; exact Nat.mul_le_mul_right _ hr) h1 (n * inf.size) 0 (by omega)
      refine ⟨_, w', room_run hu hxt hi hlen hfc (by rw [addr_add, Nat.zero_add]; exact hst) hr, HS.swap hpk (B := .own (.slice (some ⟨g, 0, none⟩) (n + m) cap) e inf.size (n + m) (xs ++ news)) (fun _ h => h) r1 r2 r3 r4 (fun k hk => r5 k (by simpa [HA.fp_own, HA.fp_blk, Value.ownBlock] using hk)) ⟨hlx, .inr ⟨g, cap, rfl, hr, hcm, hb⟩⟩⟩
    · refine grow _ cap rfl (by omega) ?_
      exact firstCells_run (w := w.drew) hxl fun _ => ⟨g, 0, rfl, fun j u hu => by
        have := hblk.cell hu
        simpa using this⟩
section
variable {P : Program} {o : Oper} {L : Slots} {w0 : World} {M : List Nat} {As As' : List HA}
/-- append of a slice's cells to a slice value of the call's own. -/
theorem h_append {t xt e e' sz by' n m c : Nat} {s x : Operand} {v : Value} {a : Option Addr} {z xs : List Value} (news : List Value) (ho : o.op = .call { callee := .builtin .append, args := #[s, x], argTypes := #[t, xt] }) (hs : ev L s = some v) (hx : ev L x = some (.slice a m c)) (ht : tsl P t = some (e, sz, by')) (hxt : P.underlying xt = some (.slice e')) (hz : tzero P e = some z) (hzs : z.length = sz)
    (hp : Pick As (.own v e sz n xs) As') (hsrc : ∀ w, HS w0 M As w → Src a news w) (hl : news.length = m * sz) (h1 : ∀ u ∈ news, u.oneCell' = true) (hroom : (n + m) * by' ≤ 140737488355328) (hmax : n + m ≤ maxLen) :
    OpH P o L (HS w0 M As) (fun v' : Value => v') (fun _ => True) (fun v' => HS w0 M (.own v' e sz (n + m) (xs ++ news) :: As')) := by
  intro ρ w hρ hw
  obtain ⟨v', w', hr, hw'⟩ := append_run (P := P) (ty := o.type) ht (.inr ⟨e', hxt⟩) hz hzs hw hp (x := .slice a m c) rfl (firstCells_run hl (hsrc w hw)) (firstCells_run (w := w.drew) hl (hsrc w hw)) hl h1 hroom hmax
  simp only [execOp, ho, resolve, Sem.run_bind, Sem.run_pure, Result.andThen_ok, invoke, builtin, List.map_toArray, List.map_cons, List.map_nil, hρ _ _ hs, hρ _ _ hx, hr]
  exact ⟨v', rfl, trivial, hw'⟩
theorem src_blk {b tot : Nat} {bt : TypeId} {cs : List Value} (hp : Pick As (.blk b bt tot cs) As') : ∀ w, HS w0 M As w → Src (some ⟨b, 0, none⟩) cs w :=
  fun _ hw _ => ⟨b, 0, rfl, fun j u hu => by simpa using (hw.blk_get hp).cell hu⟩

/-! ## Picks whose test is known -/
theorem p_pickt {c x y : Operand} {b : Bool} {v : Value} (ho : o.op = .pick c x y) (hc : ev L c = some (.bool b)) (hb : b = true) (hx : ev L x = some v) : OpP P o L v := by
  intro ρ w hρ
  subst hb
  simp [execOp, ho, hρ _ _ hc, asBool, hρ _ _ hx]
theorem p_pickf {c x y : Operand} {b : Bool} {v : Value} (ho : o.op = .pick c x y) (hc : ev L c = some (.bool b)) (hb : b = false) (hy : ev L y = some v) : OpP P o L v := by
  intro ρ w hρ
  subst hb
  simp [execOp, ho, hρ _ _ hc, asBool, hρ _ _ hy]
end
/-- A number that fits its kind. -/
theorem i64w {e : Int} (h1 : -9223372036854775808 ≤ e) (h2 : e ≤ 9223372036854775807) : Value.int .i64 (IntKind.i64.wrap e) = Value.int .i64 e := by rw [IntWalk.i64_in _ ⟨h1, h2⟩]

/-! ## Loops, with what stays known -/
def dropL : List Nat → Slots → Slots
  | _, [] => []
  | md, (k, v) :: r => bif md.any (Nat.beq k) then dropL md r else (k, v) :: dropL (k :: md) r
def BackI (n : Nat) (df : List Nat) {α : Type} (LJ : α → Slots) (CJ : α → World → Prop) (I : α → Prop) (m : α → Nat) (x : α) (a : Act) (w : World) : Prop := ∃ y, m y < m x ∧ I y ∧ FR n df (LJ y) a ∧ CJ y w
section
variable {X : Ctx} {k : List KI} {L : Slots} {C : World → Prop}
theorem s_loopI {α : Type} {c : Code} (md : List Nat) (Lm : α → Slots) (CJ : α → World → Prop) (I : α → Prop) (m : α → Nat) (x0 : α) (hI : I x0) (hL : subL L (Lm x0 ++ dropL md L)) (hC : ∀ w, C w → CJ x0 w)
    (h : ∀ x, I x → S X (.c c :: .join (BackI X.n X.df (fun x => Lm x ++ dropL md L) CJ I m x) :: k) (Lm x ++ dropL md L) (CJ x)) : S X (.c (.loop c) :: k) L C := by
  refine s_loop (α := { x : α // I x }) (fun x => Lm x.1 ++ dropL md L) (fun x => CJ x.1) (fun x => m x.1) ⟨x0, hI⟩ hL hC fun x => ?_
  intro a w ha hw
  refine wpIn_mono (h x.1 x.2 a w ha hw) fun e a w he => ?_
  cases e with
  | normal =>
    obtain ⟨y, hm, hy, hf, hc⟩ := he
    exact ⟨⟨y, hy⟩, hm, hf, hc⟩
  | _ => exact he
theorem s_backI {α : Type} {LJ : α → Slots} {CJ : α → World → Prop} {I : α → Prop} {m : α → Nat} {x : α} (y : α) (hm : m y < m x) (hI : I y) (hL : subL L (LJ y)) (hC : ∀ w, C w → CJ y w) : S X (.join (BackI X.n X.df LJ CJ I m x) :: k) L C :=
  fun _ w ha hw => ⟨y, hm, hI, ha.sub hL.all, hC w hw⟩
/-- A place where ways meet, with what stays known. -/
def AtI (n : Nat) (df : List Nat) {α : Type} (LJ : α → Slots) (CJ : α → World → Prop) (I : α → Prop) (a : Act) (w : World) : Prop := ∃ x, I x ∧ FR n df (LJ x) a ∧ CJ x w
theorem s_cutI {α : Type} {c : Code} (md : List Nat) (Lm : α → Slots) (CJ : α → World → Prop) (I : α → Prop) (h1 : S X (.c c :: .join (AtI X.n X.df (fun x => Lm x ++ dropL md L) CJ I) :: k) L C) (h2 : ∀ x, I x → S X k (Lm x ++ dropL md L) (CJ x)) : S X (.c c :: k) L C := by
  intro a w ha hw
  refine wpIn_mono (h1 a w ha hw) fun e a w he => ?_
  cases e with
  | normal => obtain ⟨x, hx, hf, hc⟩ := he; exact h2 x hx a w hf hc
  | _ => exact he
theorem s_joinI {α : Type} {LJ : α → Slots} {CJ : α → World → Prop} {I : α → Prop} (x : α) (hI : I x) (hL : subL L (LJ x)) (hC : ∀ w, C w → CJ x w) : S X (.join (AtI X.n X.df LJ CJ I) :: k) L C :=
  fun _ w ha hw => ⟨x, hI, ha.sub hL.all, hC w hw⟩
end
end Gx

/- The engine's rules for regions whose order is open: one walk in a chosen order serves every order. After the library's Deep/Quiet, with classes of worlds that may change from operation to operation. -/
namespace Gx
open Go Go.RowKit

/-- Operation number i comes up in the class C. -/
def StepA (P : Program) (ops : Array Oper) (i : Nat) (a : Act) (C : World → Prop) (K : Act → (World → Prop) → Prop) : Prop :=
  match ops[i]? with
  | none => K a C
  | some o => if Region.wanted o (yielded ops a.tmps) then
      ∃ (G : Type) (V : G → Value) (F : G → Prop) (C' : G → World → Prop), (∀ w, C w → Res P (fun u w' => ∃ g, u = V g ∧ F g ∧ C' g w') ((execOp a.eval o).run P w)) ∧ ∀ g, F g → K (a.put o.dst (V g)) (C' g)
    else K (a.put o.dst undef) C
def Good (F : List Nat) (B : World → Prop) (listed : Array Bool) (C : World → Prop) : Prop := (∀ f ∈ F, listed.getD f false = false) → (∀ w, C w → B w) ∧ Stable C
def WG (P : Program) (ops : Array Oper) (Q : Act → World → Prop) (F : List Nat) (B : World → Prop) : Nat → Array Bool → Act → (World → Prop) → Prop
  | 0, listed, a, C => Good F B listed C ∧ Region.ready .any ops listed = [] ∧ ∀ w, C w → Q a w
  | fuel + 1, listed, a, C => Good F B listed C ∧ (Region.ready .any ops listed = [] → ∀ w, C w → Q a w) ∧
      ∀ i ∈ Region.ready .any ops listed, StepA P ops i a C fun a' C' => WG P ops Q F B fuel (listed.setIfInBounds i true) a' C'
section
variable {P : Program} {ops : Array Oper} {Q : Act → World → Prop} {F : List Nat} {B : World → Prop}
theorem StepA.mono {i : Nat} {a : Act} {C : World → Prop} {K K' : Act → (World → Prop) → Prop} (h : ∀ a C, K a C → K' a C) (hs : StepA P ops i a C K) : StepA P ops i a C K' := by
  unfold StepA at *
  split
  · rename_i ho; simp only [ho] at hs; exact h _ _ hs
  · rename_i o ho
    simp only [ho] at hs
    split
    · rename_i hw
      simp only [hw, if_true] at hs
      obtain ⟨G, V, Fg, C', h1, h2⟩ := hs
      exact ⟨G, V, Fg, C', h1, fun g hg => h _ _ (h2 g hg)⟩
    · rename_i hw
      simp only [hw] at hs
      exact h _ _ hs
theorem WG.good : ∀ {fuel : Nat} {listed : Array Bool} {a : Act} {C : World → Prop}, WG P ops Q F B fuel listed a C → Good F B listed C
  | 0, _, _, _, h => h.1
  | _ + 1, _, _, _, h => h.1
theorem wpAny_of_WG {r : Option Nat} {Q' : Exit → Act → World → Prop} (hQ : ∀ a w, Q a w → Q' .normal a w) : ∀ (fuel : Nat) (listed : Array Bool) (a : Act) (C : World → Prop) (w : World), C w → WG P ops Q F B fuel listed a C → wpAnyIn { Fence.wide with round := r } 0 P .any ops Q' fuel listed a w
  | 0, _, _, _, _, hw, h => ⟨h.2.1, hQ _ _ (h.2.2 _ hw)⟩
  | fuel + 1, listed, a, C, w, hw, h => ⟨fun h0 => hQ _ _ (h.2.1 h0 _ hw), fun i hi => by
      have hs := h.2.2 i hi
      unfold StepA at hs
      unfold wpOpIn
      split
      · rename_i ho; simp only [ho] at hs; exact wpAny_of_WG hQ fuel _ _ _ _ hw hs
      · rename_i o ho
        simp only [ho] at hs
        split
        · rename_i hw'
          simp only [hw', if_true] at hs
          obtain ⟨G, V, Fg, C', h1, h2⟩ := hs
          exact wp_of_res (h1 w hw) fun v w' ⟨g, hv, hf, hc⟩ => by subst hv; exact wpAny_of_WG hQ fuel _ _ _ _ hc (h2 g hf)
        · rename_i hw'
          simp only [hw'] at hs
          exact ⟨fun _ _ => trivial, wpAny_of_WG hQ fuel _ _ _ _ hw hs⟩⟩
/-! ### Waiting -/
def edge (ops : Array Oper) (x y : Nat) : Bool := match ops[x]? with
  | some o => o.after.any fun e => Region.binds .any e && Nat.beq e.on y
  | none => false
def chain (ops : Array Oper) : Nat → List Nat → Nat → Bool
  | x, [], y => edge ops x y
  | x, p :: ps, y => edge ops x p && chain ops p ps y
def Closed (ops : Array Oper) (listed : Array Bool) : Prop := ∀ x y, edge ops x y = true → listed.getD x false = true → listed.getD y false = true
theorem ready_edge {j y : Nat} {listed : Array Bool} (hj : j ∈ Region.ready .any ops listed) (he : edge ops j y = true) : listed.getD y false = true := by
  obtain ⟨_, oj, hoj, hall⟩ := mem_ready.1 hj
  unfold edge at he
  simp only [hoj] at he
  obtain ⟨e, he1, hb⟩ := Array.any_eq_true'.1 he
  simp only [Bool.and_eq_true] at hb
  have := Nat.eq_of_beq_eq_true hb.2
  subst this
  exact hall e he1 hb.1
theorem chain_closed {listed : Array Bool} (hc : Closed ops listed) : ∀ {ps : List Nat} {x y : Nat}, chain ops x ps y = true → listed.getD x false = true → listed.getD y false = true
  | [], _, _, h, hx => hc _ _ h hx
  | p :: ps, x, y, h, hx => by
    simp only [chain, Bool.and_eq_true] at h
    exact chain_closed hc h.2 (hc _ _ h.1 hx)
theorem ready_chain {listed : Array Bool} (hc : Closed ops listed) : ∀ {ps : List Nat} {x y : Nat}, chain ops x ps y = true → x ∈ Region.ready .any ops listed → listed.getD y false = true
  | [], _, _, h, hx => ready_edge hx h
  | p :: ps, x, y, h, hx => by
    simp only [chain, Bool.and_eq_true] at h
    exact chain_closed hc h.2 (ready_edge hx h.1)
theorem getD_set_false {listed : Array Bool} {i j : Nat} (h : listed.getD j false = true) : (listed.setIfInBounds i true).getD j false = true := by
  by_cases e : i = j
  · subst e
    rcases Nat.lt_or_ge i listed.size with h' | h'
    · simp [h']
    · simp [Array.getElem?_eq_none h'] at h
  · rw [getD_set_ne false e]; exact h
theorem Closed.set {listed : Array Bool} {j : Nat} (hc : Closed ops listed) (hj : j ∈ Region.ready .any ops listed) : Closed ops (listed.setIfInBounds j true) := by
  intro x y he hx
  by_cases e : j = x
  · subst e
    exact getD_set_false (ready_edge hj he)
  · rw [getD_set_ne false e] at hx
    exact getD_set_false (hc x y he hx)
theorem ready_not {j : Nat} {listed : Array Bool} (hj : j ∈ Region.ready .any ops listed) : listed.getD j true = false := (mem_ready.1 hj).1
theorem not_false_of_not_true {listed : Array Bool} {j : Nat} (h : listed.getD j true = false) : listed.getD j false = false := by
  rcases Nat.lt_or_ge j listed.size with h' | h'
  · simp [h'] at h ⊢; exact h
  · simp [Array.getElem?_eq_none h'] at h
/-! ### An operation is taken first -/
/-- In state a the operation yields v in every world of the base, and writes to nothing old. -/
def YieldsQ (P : Program) (ops : Array Oper) (B : World → Prop) (o : Oper) (v : Value) (a : Act) : Prop :=
  (Region.wanted o (yielded ops a.tmps) = true ∧ ∀ w, B w → Res P (fun u w' => u = v ∧ Below w.heap.size w w') ((execOp a.eval o).run P w)) ∨
  (Region.wanted o (yielded ops a.tmps) = false ∧ v = undef)
theorem YieldsQ.of_same {o : Oper} {v : Value} {a a' : Act} (hy : YieldsQ P ops B o v a) (he : execOp a'.eval o = execOp a.eval o) (hw : Region.wanted o (yielded ops a'.tmps) = Region.wanted o (yielded ops a.tmps)) : YieldsQ P ops B o v a' := by
  unfold YieldsQ at *
  rw [he, hw]
  exact hy
/-- .. in every world, and leaves it as it is. -/
def YieldsP (P : Program) (ops : Array Oper) (o : Oper) (v : Value) (a : Act) : Prop :=
  (Region.wanted o (yielded ops a.tmps) = true ∧ ∀ w, (execOp a.eval o).run P w = .ok (.value v) w) ∨
  (Region.wanted o (yielded ops a.tmps) = false ∧ v = undef)
theorem YieldsP.of_same {o : Oper} {v : Value} {a a' : Act} (hy : YieldsP P ops o v a) (he : execOp a'.eval o = execOp a.eval o) (hw : Region.wanted o (yielded ops a'.tmps) = Region.wanted o (yielded ops a.tmps)) : YieldsP P ops o v a' := by
  unfold YieldsP at *
  rw [he, hw]
  exact hy
theorem StepA_put {j : Nat} {oi oj : Oper} {v : Value} (hj : ops[j]? = some oj) (hap : oi.apart ops oj = true) (hsj : ∀ cs b, oj.op ≠ .select cs b) {K : Act → (World → Prop) → Prop} {a : Act} {C : World → Prop}
    (h : StepA P ops j (a.put oi.dst v) C K) : StepA P ops j a C fun a' C' => ∃ u, a' = a.put oj.dst u ∧ K (a'.put oi.dst v) C' := by
  obtain ⟨h1, h2, h3⟩ := Oper.apart_spec hap
  unfold StepA at *
  simp only [hj] at *
  rw [wanted_put oj a oi.dst v h1] at h
  split
  · rename_i hw
    simp only [hw, if_true] at h
    obtain ⟨G, V, Fg, C', e1, e2⟩ := h
    rw [execOp_put oj hsj a oi.dst v h1] at e1
    exact ⟨G, V, Fg, C', e1, fun g hg => ⟨V g, rfl, by rw [← Act.put_comm a v _ h2]; exact e2 g hg⟩⟩
  · rename_i hw
    simp only [hw] at h
    exact ⟨undef, rfl, by rw [← Act.put_comm a v undef h2]; exact h⟩
theorem WG_first {i : Nat} {oi : Oper} {v : Value} (hi : ops[i]? = some oi) (hiF : i ∉ F) (hsel : ∀ (j : Nat) (o : Oper) cs b, ops[j]? = some o → o.op ≠ .select cs b) (hwait : ∀ f ∈ F, ∃ ps, chain ops f ps i = true) :
    ∀ (fuel : Nat) (listed : Array Bool) (a : Act) (C : World → Prop),
      (∀ j oj, ops[j]? = some oj → j ≠ i → listed.getD j true = false → (∀ e ∈ oj.after, Region.binds .any e = true → e.on ≠ i) → oi.apart ops oj = true) →
      Closed ops listed → (∀ f ∈ F, listed.getD f false = false) → i ∈ Region.ready .any ops listed → YieldsQ P ops B oi v a →
      WG P ops Q F B fuel (listed.setIfInBounds i true) (a.put oi.dst v) C → WG P ops Q F B (fuel + 1) listed a C := by
  have hgood : ∀ {listed : Array Bool} {C : World → Prop}, Good F B (listed.setIfInBounds i true) C → Good F B listed C := fun {listed C} hg hf => hg fun f hfF => by
    rw [getD_set_ne false (fun e => hiF (by rw [e]; exact hfF))]; exact hf f hfF
  have here : ∀ (fuel : Nat) (listed : Array Bool) (a : Act) (C : World → Prop), (∀ f ∈ F, listed.getD f false = false) → YieldsQ P ops B oi v a → WG P ops Q F B fuel (listed.setIfInBounds i true) (a.put oi.dst v) C →
      StepA P ops i a C fun a' C' => WG P ops Q F B fuel (listed.setIfInBounds i true) a' C' := by
    intro fuel listed a C hF hy H
    obtain ⟨hCB, hst⟩ := hgood H.good hF
    unfold StepA
    simp only [hi]
    rcases hy with ⟨hw, hr⟩ | ⟨hw, rfl⟩
    · rw [if_pos hw]
      exact ⟨Unit, fun _ => v, fun _ => True, fun _ => C, fun w hc => (hr w (hCB w hc)).mono fun u w' ⟨h1, h2⟩ => ⟨(), h1, trivial, hst w w' hc h2⟩, fun _ _ => H⟩
    · rw [if_neg (by rw [hw]; simp)]
      exact H
  intro fuel
  induction fuel with
  | zero =>
    intro listed a C _ _ hF hr hy H
    refine ⟨hgood H.good, fun h => (by rw [h] at hr; cases hr), fun j hj => ?_⟩
    by_cases hji : j = i
    · subst hji; exact here 0 listed a C hF hy H
    · have := ready_mono hj hji
      rw [H.2.1] at this
      cases this
  | succ fuel ih =>
    intro listed a C hfree hcl hF hr hy H
    refine ⟨hgood H.good, fun h => (by rw [h] at hr; cases hr), fun j hj => ?_⟩
    by_cases hji : j = i
    · subst hji; exact here _ listed a C hF hy H
    · have hjF : j ∉ F := fun hjF => by
        obtain ⟨ps, hps⟩ := hwait j hjF
        have h1 := ready_chain hcl hps hj
        rw [not_false_of_not_true (ready_not hr)] at h1
        cases h1
      have h1 := H.2.2 j (ready_mono hj hji)
      obtain ⟨hjun, oj, hoj, hall⟩ := mem_ready.1 hj
      have hnot : ∀ e ∈ oj.after, Region.binds .any e = true → e.on ≠ i := fun e he hb heq => by
        have h1 := hall e he hb
        have h0 := not_false_of_not_true (ready_not hr)
        rw [heq, h0] at h1
        cases h1
      have hap := hfree j oj hoj hji hjun hnot
      have h2 := StepA_put hoj hap (fun cs b => hsel j oj cs b hoj) h1
      obtain ⟨_, _, h3⟩ := Oper.apart_spec hap
      refine StepA.mono (fun a' C' ⟨u, hu, hK⟩ => ?_) h2
      subst hu
      have hfree' : ∀ k ok, ops[k]? = some ok → k ≠ i → (listed.setIfInBounds j true).getD k true = false →
          (∀ e ∈ ok.after, Region.binds .any e = true → e.on ≠ i) → oi.apart ops ok = true := fun k ok hk hki hun hno => by
        refine hfree k ok hk hki ?_ hno
        by_cases hjk : j = k
        · subst hjk; exact hjun
        · rw [getD_set_ne true hjk] at hun; exact hun
      refine ih (listed.setIfInBounds j true) _ C' hfree' (hcl.set hj) (fun f hf => ?_) (ready_mono hr (Ne.symm hji)) (hy.of_same (execOp_put oi (fun cs b => hsel i oi cs b hi) a oj.dst u h3) (wanted_put oi a oj.dst u h3)) ?_
      · rw [getD_set_ne false (fun e => hjF (by rw [e]; exact hf))]; exact hF f hf
      · rw [Array.setIfInBounds_comm _ _ hji]
        exact hK
theorem WG_firstP {i : Nat} {oi : Oper} {v : Value} (hi : ops[i]? = some oi) (hiF : i ∉ F) (hsel : ∀ (j : Nat) (o : Oper) cs b, ops[j]? = some o → o.op ≠ .select cs b) :
    ∀ (fuel : Nat) (listed : Array Bool) (a : Act) (C : World → Prop),
      (∀ j oj, ops[j]? = some oj → j ≠ i → listed.getD j true = false → (∀ e ∈ oj.after, Region.binds .any e = true → e.on ≠ i) → oi.apart ops oj = true) →
      i ∈ Region.ready .any ops listed → YieldsP P ops oi v a →
      WG P ops Q F B fuel (listed.setIfInBounds i true) (a.put oi.dst v) C → WG P ops Q F B (fuel + 1) listed a C := by
  have hgood : ∀ {listed : Array Bool} {C : World → Prop}, Good F B (listed.setIfInBounds i true) C → Good F B listed C := fun {listed C} hg hf => hg fun f hfF => by
    rw [getD_set_ne false (fun e => hiF (by rw [e]; exact hfF))]; exact hf f hfF
  have here : ∀ (fuel : Nat) (listed : Array Bool) (a : Act) (C : World → Prop), YieldsP P ops oi v a → WG P ops Q F B fuel (listed.setIfInBounds i true) (a.put oi.dst v) C →
      StepA P ops i a C fun a' C' => WG P ops Q F B fuel (listed.setIfInBounds i true) a' C' := by
    intro fuel listed a C hy H
    unfold StepA
    simp only [hi]
    rcases hy with ⟨hw, hr⟩ | ⟨hw, rfl⟩
    · rw [if_pos hw]
      exact ⟨Unit, fun _ => v, fun _ => True, fun _ => C, fun w hc => by rw [hr w]; exact ⟨(), rfl, trivial, hc⟩, fun _ _ => H⟩
    · rw [if_neg (by rw [hw]; simp)]
      exact H
  intro fuel
  induction fuel with
  | zero =>
    intro listed a C _ hr hy H
    refine ⟨hgood H.good, fun h => (by rw [h] at hr; cases hr), fun j hj => ?_⟩
    by_cases hji : j = i
    · subst hji; exact here 0 listed a C hy H
    · have := ready_mono hj hji
      rw [H.2.1] at this
      cases this
  | succ fuel ih =>
    intro listed a C hfree hr hy H
    refine ⟨hgood H.good, fun h => (by rw [h] at hr; cases hr), fun j hj => ?_⟩
    by_cases hji : j = i
    · subst hji; exact here _ listed a C hy H
    · have h1 := H.2.2 j (ready_mono hj hji)
      obtain ⟨hjun, oj, hoj, hall⟩ := mem_ready.1 hj
      have hnot : ∀ e ∈ oj.after, Region.binds .any e = true → e.on ≠ i := fun e he hb heq => by
        have h1 := hall e he hb
        have h0 := not_false_of_not_true (ready_not hr)
        rw [heq, h0] at h1
        cases h1
      have hap := hfree j oj hoj hji hjun hnot
      have h2 := StepA_put hoj hap (fun cs b => hsel j oj cs b hoj) h1
      obtain ⟨_, _, h3⟩ := Oper.apart_spec hap
      refine StepA.mono (fun a' C' ⟨u, hu, hK⟩ => ?_) h2
      subst hu
      have hfree' : ∀ k ok, ops[k]? = some ok → k ≠ i → (listed.setIfInBounds j true).getD k true = false →
          (∀ e ∈ ok.after, Region.binds .any e = true → e.on ≠ i) → oi.apart ops ok = true := fun k ok hk hki hun hno => by
        refine hfree k ok hk hki ?_ hno
        by_cases hjk : j = k
        · subst hjk; exact hjun
        · rw [getD_set_ne true hjk] at hun; exact hun
      refine ih (listed.setIfInBounds j true) _ C' hfree' (ready_mono hr (Ne.symm hji)) (hy.of_same (execOp_put oi (fun cs b => hsel i oi cs b hi) a oj.dst u h3) (wanted_put oi a oj.dst u h3)) ?_
      rw [Array.setIfInBounds_comm _ _ hji]
      exact hK
/-- Other finalizers, another base: where one of the old finalizers is through, any; else a smaller base. -/
theorem WG_turn {F' : List Nat} {B' : World → Prop} : ∀ {fuel : Nat} {listed : Array Bool} {a : Act} {C : World → Prop}, (∃ f ∈ F, listed.getD f false = true) → WG P ops Q F' B' fuel listed a C → WG P ops Q F B fuel listed a C
  | 0, _, _, _, ⟨f, hf, hl⟩, h => ⟨fun hg => (by rw [hg f hf] at hl; cases hl), h.2⟩
  | _ + 1, _, _, _, ⟨f, hf, hl⟩, h => ⟨fun hg => (by rw [hg f hf] at hl; cases hl), h.2.1, fun i hi => (h.2.2 i hi).mono fun _ _ h' => WG_turn ⟨f, hf, getD_set_false hl⟩ h'⟩
/-- The only operation that may come up. -/
theorem WG_only {fuel i : Nat} {listed : Array Bool} {a : Act} {C : World → Prop} (hr : Region.ready .any ops listed = [i]) (hg : Good F B listed C) (h : StepA P ops i a C fun a' C' => WG P ops Q F B fuel (listed.setIfInBounds i true) a' C') : WG P ops Q F B (fuel + 1) listed a C :=
  ⟨hg, fun h0 => (by rw [hr] at h0; cases h0), fun j hj => by rw [hr] at hj; rcases List.mem_singleton.1 hj; exact h⟩
end

/-! ## The judgement of a region whose order is open -/
/-- From every frame with these slots, in this class: whatever order the operations that are not listed yet come in, it ends well. -/
def D (X : Ctx) (ops : Array Oper) (F : List Nat) (B : World → Prop) (fuel : Nat) (listed : Array Bool) (k : List KI) (L : Slots) (C : World → Prop) : Prop :=
  Closed ops listed → ∀ a, FR X.n X.df L a → WG X.P ops (fun a w => post X k .normal a w) F B fuel listed a C
/-- Whatever still waits for nothing of i's is apart from it; i may come up. -/
def okFirst (ops : Array Oper) (listed : Array Bool) (i : Nat) : Bool :=
  (Region.ready .any ops listed).contains i && Region.noSelect ops &&
  (List.range ops.size).all fun j => match ops[j]?, ops[i]? with
    | some oj, some oi => Nat.beq j i || listed.getD j true || (oj.after.any fun e => Region.binds .any e && Nat.beq e.on i) || oi.apart ops oj
    | _, _ => true
theorem okFirst_ready {ops : Array Oper} {listed : Array Bool} {i : Nat} (h : okFirst ops listed i = true) : i ∈ Region.ready .any ops listed := by
  simp only [okFirst, Bool.and_eq_true] at h
  simpa using h.1.1
theorem okFirst_sel {ops : Array Oper} {listed : Array Bool} {i : Nat} (h : okFirst ops listed i = true) : Region.noSelect ops = true := by
  simp only [okFirst, Bool.and_eq_true] at h
  exact h.1.2
theorem okFirst_free {ops : Array Oper} {listed : Array Bool} {i : Nat} {oi : Oper} (hi : ops[i]? = some oi) (h : okFirst ops listed i = true) : ∀ j oj, ops[j]? = some oj → j ≠ i → listed.getD j true = false → (∀ e ∈ oj.after, Region.binds .any e = true → e.on ≠ i) → oi.apart ops oj = true := by
  intro j oj hj hne hun hno
  simp only [okFirst, Bool.and_eq_true] at h
  have hlt : j < ops.size := by
    rcases Nat.lt_or_ge j ops.size with h' | h'
    · exact h'
    · simp [Array.getElem?_eq_none h'] at hj
  have h1 := List.all_eq_true.1 h.2 j (List.mem_range.2 hlt)
  simp only [hj, hi, Bool.or_eq_true] at h1
  rcases h1 with ((h1 | h1) | h1) | h1
  · exact absurd (Nat.eq_of_beq_eq_true h1) hne
  · rw [hun] at h1; cases h1
  · obtain ⟨e, he, hb⟩ := Array.any_eq_true'.1 h1
    simp only [Bool.and_eq_true] at hb
    exact absurd (Nat.eq_of_beq_eq_true hb.2) (hno e he hb.1)
  · exact h1
def waitsAll (ops : Array Oper) (F : List Nat) (i : Nat) (ps : List (List Nat)) : Bool :=
  F.all fun f => !Nat.beq f i && ps.any fun p => chain ops f p i
theorem waitsAll_spec {ops : Array Oper} {F : List Nat} {i : Nat} {ps : List (List Nat)} (h : waitsAll ops F i ps = true) : i ∉ F ∧ ∀ f ∈ F, ∃ p, chain ops f p i = true := by
  have h1 := List.all_eq_true.1 h
  refine ⟨fun hi => ?_, fun f hf => ?_⟩
  · have := h1 i hi
    simp [Nat.beq_refl] at this
  · have h2 := h1 f hf
    simp only [Bool.and_eq_true] at h2
    obtain ⟨p, _, hp⟩ := List.any_eq_true.1 h2.2
    exact ⟨p, hp⟩
def noneOf (F : List Nat) (listed : Array Bool) : Bool := F.all fun f => !listed.getD f false
theorem noneOf_spec {F : List Nat} {listed : Array Bool} (h : noneOf F listed = true) : ∀ f ∈ F, listed.getD f false = false := fun f hf => by
  have := List.all_eq_true.1 h f hf
  simpa using this
section
variable {X : Ctx} {ops : Array Oper} {F : List Nat} {fuel i : Nat} {listed : Array Bool} {k : List KI} {L : Slots} {d ty : Nat} {op : Op} {pos : String} {aft : Array Edge} {w0 : World} {M : List Nat} {As Bs : List HA}
theorem closed_none (ops : Array Oper) (n : Nat) : Closed ops (Array.replicate n false) := fun x y _ hx => by
  simp only [Array.getD_eq_getD_getElem?, Array.getElem?_replicate] at hx
  split at hx <;> simp at hx
/-- Into the region; F: the operations that change what is there (each waits for all that read it). -/
theorem s_draw {id : Nat} {l : List Oper} (F : List Nat) (hm : X.P.follows .mixedOrders = true) (h : D X l.toArray F (HS w0 M As) l.length (Array.replicate l.length false) k L (HS w0 M As)) : S X (.c (.region id l.toArray true) :: k) L (HS w0 M As) := by
  intro a w ha hw
  refine wpIn_region_any hm ?_
  have := h (closed_none _ _) a ha
  simpa using wpAny_of_WG (Q' := post X k) (fun _ _ h => h) _ _ a (HS w0 M As) _ hw.drew this
/-- An operation that only reckons. -/
theorem d_p {C : World → Prop} {B : World → Prop} {v : Value} (i : Nat) (hi : ops[i]? = some ⟨some d, op, ty, pos, aft, none⟩) (h : OpP X.P ⟨some d, op, ty, pos, aft, none⟩ L v) (hok : okFirst ops listed i = true) (hF : F.all (fun f => !Nat.beq f i) = true) (hd : Nat.blt d X.n = true)
    (next : D X ops F B fuel (listed.setIfInBounds i true) k ((d, v) :: L) C) : D X ops F B (fuel + 1) listed k L C := by
  intro hcl a ha
  refine WG_firstP hi (fun hif => ?_) (Region.noSelect_spec (okFirst_sel hok)) fuel listed a C (okFirst_free hi hok) (okFirst_ready hok) (.inl ⟨by simp [Region.wanted], fun w => h a.eval w ha.agr⟩) (next (hcl.set (okFirst_ready hok)) _ (ha.put d v hd))
  have := List.all_eq_true.1 hF i hif
  simp [Nat.beq_refl] at this
/-- An operation that looks into memory, or a callee that writes to nothing old. -/
theorem d_q {C : World → Prop} {v : Value} (i : Nat) (ps : List (List Nat)) (hi : ops[i]? = some ⟨some d, op, ty, pos, aft, none⟩) (h : OpQ X.P ⟨some d, op, ty, pos, aft, none⟩ L (HS w0 M Bs) v) (hok : okFirst ops listed i = true) (hF : waitsAll ops F i ps = true) (hn : noneOf F listed = true) (hd : Nat.blt d X.n = true)
    (next : D X ops F (HS w0 M Bs) fuel (listed.setIfInBounds i true) k ((d, v) :: L) C) : D X ops F (HS w0 M Bs) (fuel + 1) listed k L C := by
  intro hcl a ha
  have hw := waitsAll_spec hF
  exact WG_first hi hw.1 (Region.noSelect_spec (okFirst_sel hok)) hw.2 fuel listed a C (okFirst_free hi hok) hcl (noneOf_spec hn) (okFirst_ready hok) (.inl ⟨by simp [Region.wanted], fun w hw => h a.eval w ha.agr hw⟩) (next (hcl.set (okFirst_ready hok)) _ (ha.put d v hd))
theorem d_h0 {B : World → Prop} {G : Type} {V : G → Value} {Fg : G → Prop} {C' : G → World → Prop} (i : Nat) (hi : ops[i]? = some ⟨none, op, ty, pos, aft, none⟩) (h : OpH X.P ⟨none, op, ty, pos, aft, none⟩ L (HS w0 M As) V Fg C') (hr : (Region.ready .any ops listed == [i]) = true) (hB : ∀ w, HS w0 M As w → B w)
    (next : ∀ g, Fg g → D X ops F B fuel (listed.setIfInBounds i true) k L (C' g)) : D X ops F B (fuel + 1) listed k L (HS w0 M As) := by
  intro hcl a ha
  have hr' : Region.ready .any ops listed = [i] := by simpa using hr
  refine WG_only hr' (fun _ => ⟨hB, HS.stab _ _ _⟩) ?_
  unfold StepA
  simp only [hi]
  rw [if_pos (by simp [Region.wanted])]
  exact ⟨G, V, Fg, C', fun w hw => h a.eval w ha.agr hw, fun g hg => next g hg (hcl.set (by rw [hr']; exact List.mem_singleton.2 rfl)) a ha⟩
/-- An operation that is not carried out, its guard being false. -/
theorem d_off {C : World → Prop} {B : World → Prop} {j : Nat} {want b : Bool} (i dj : Nat) (hi : ops[i]? = some ⟨some d, op, ty, pos, aft, some (j, want)⟩) (hj : (ops[j]?).bind (·.dst) = some dj) (hb : Slots.get L dj = some (.bool b)) (hw : b = !want) (hok : okFirst ops listed i = true) (hF : F.all (fun f => !Nat.beq f i) = true) (hd : Nat.blt d X.n = true)
    (next : D X ops F B fuel (listed.setIfInBounds i true) k ((d, undef) :: L) C) : D X ops F B (fuel + 1) listed k L C := by
  intro hcl a ha
  have hy : yielded ops a.tmps j = some b := by simp [yielded, hj, ha.slot _ _ hb]
  refine WG_firstP hi (fun hif => ?_) (Region.noSelect_spec (okFirst_sel hok)) fuel listed a C (okFirst_free hi hok) (okFirst_ready hok) (.inr ⟨by simp [Region.wanted, hy, hw], rfl⟩) (next (hcl.set (okFirst_ready hok)) _ (ha.put d undef hd))
  have := List.all_eq_true.1 hF i hif
  simp [Nat.beq_refl] at this
theorem d_pon {C : World → Prop} {B : World → Prop} {v : Value} {j : Nat} {want b : Bool} (i dj : Nat) (hi : ops[i]? = some ⟨some d, op, ty, pos, aft, some (j, want)⟩) (hj : (ops[j]?).bind (·.dst) = some dj) (hb : Slots.get L dj = some (.bool b)) (hw : b = want) (h : OpP X.P ⟨some d, op, ty, pos, aft, none⟩ L v) (hok : okFirst ops listed i = true) (hF : F.all (fun f => !Nat.beq f i) = true) (hd : Nat.blt d X.n = true)
    (next : D X ops F B fuel (listed.setIfInBounds i true) k ((d, v) :: L) C) : D X ops F B (fuel + 1) listed k L C := by
  intro hcl a ha
  have hy : yielded ops a.tmps j = some b := by simp [yielded, hj, ha.slot _ _ hb]
  refine WG_firstP hi (fun hif => ?_) (Region.noSelect_spec (okFirst_sel hok)) fuel listed a C (okFirst_free hi hok) (okFirst_ready hok) (.inl ⟨by simp [Region.wanted, hy, hw], fun w => h a.eval w ha.agr⟩) (next (hcl.set (okFirst_ready hok)) _ (ha.put d v hd))
  have := List.all_eq_true.1 hF i hif
  simp [Nat.beq_refl] at this
theorem d_qon {C : World → Prop} {v : Value} {j : Nat} {want b : Bool} (i dj : Nat) (ps : List (List Nat)) (hi : ops[i]? = some ⟨some d, op, ty, pos, aft, some (j, want)⟩) (hj : (ops[j]?).bind (·.dst) = some dj) (hb : Slots.get L dj = some (.bool b)) (hw' : b = want) (h : OpQ X.P ⟨some d, op, ty, pos, aft, none⟩ L (HS w0 M Bs) v) (hok : okFirst ops listed i = true) (hF : waitsAll ops F i ps = true) (hn : noneOf F listed = true) (hd : Nat.blt d X.n = true)
    (next : D X ops F (HS w0 M Bs) fuel (listed.setIfInBounds i true) k ((d, v) :: L) C) : D X ops F (HS w0 M Bs) (fuel + 1) listed k L C := by
  intro hcl a ha
  have hy : yielded ops a.tmps j = some b := by simp [yielded, hj, ha.slot _ _ hb]
  have hw := waitsAll_spec hF
  exact WG_first hi hw.1 (Region.noSelect_spec (okFirst_sel hok)) hw.2 fuel listed a C (okFirst_free hi hok) hcl (noneOf_spec hn) (okFirst_ready hok) (.inl ⟨by simp [Region.wanted, hy, hw'], fun w hw => h a.eval w ha.agr hw⟩) (next (hcl.set (okFirst_ready hok)) _ (ha.put d v hd))
/-- .. a finalizer being through, with other finalizers. -/
theorem d_turn {B : World → Prop} (F' : List Nat) (hf : F.any (fun f => listed.getD f false) = true) (next : D X ops F' (HS w0 M As) fuel listed k L (HS w0 M As)) : D X ops F B fuel listed k L (HS w0 M As) :=
  fun hcl a ha => WG_turn (by obtain ⟨f, h1, h2⟩ := List.any_eq_true.1 hf; exact ⟨f, h1, h2⟩) (next hcl a ha)
theorem d_nil {B : World → Prop} (hr : (Region.ready .any ops listed == []) = true) (hB : ∀ w, HS w0 M As w → B w) (h : S X k L (HS w0 M As)) : D X ops F B 0 listed k L (HS w0 M As) :=
  fun _ a ha => ⟨fun _ => ⟨hB, HS.stab _ _ _⟩, by simpa using hr, fun w hw => h a w ha hw⟩
end
end Gx

/- The engine's rules, continued: results, subslices, min and max, strings of own bytes, entering with owned memory. -/
namespace Gx
set_option linter.unusedSimpArgs false
set_option linter.unusedVariables false
open Go Go.RowKit

section
variable {X : Ctx} {ops : Array Oper} {rest : List Oper} {k : List KI} {L : Slots} {d ty : Nat} {op : Op} {pos : String} {aft : Array Edge} {w0 : World} {M : List Nat} {As As' : List HA}
theorem o_p {C : World → Prop} {v : Value} (h : OpP X.P ⟨some d, op, ty, pos, aft, none⟩ L v) (hd : Nat.blt d X.n = true) (next : O X ops rest k ((d, v) :: L) C) : O X ops (⟨some d, op, ty, pos, aft, none⟩ :: rest) k L C := by
  intro a w ha hw
  refine wpListIn_plain rfl fun K hK => ?_
  exact wp_of_res (Post := fun u w' => u = v ∧ w' = w) (by rw [h a.eval w ha.agr]; exact ⟨rfl, rfl⟩) fun u w' ⟨h1, h2⟩ => by subst h1; subst h2; exact hK _ _ (next _ _ (ha.put d _ hd) hw)
theorem d_split {F : List Nat} {B C : World → Prop} {fuel : Nat} {listed : Array Bool} {b : Bool} (dj : Nat) (_hb : Slots.get L dj = some (.bool b)) (h1 : b = true → D X ops F B fuel listed k L C) (h0 : b = false → D X ops F B fuel listed k L C) : D X ops F B fuel listed k L C := by
  cases b with
  | true => exact h1 rfl
  | false => exact h0 rfl
theorem d_slot {F : List Nat} {B C : World → Prop} {fuel : Nat} {listed : Array Bool} {v u : Value} (e : v = u) (h : D X ops F B fuel listed k ((d, u) :: L) C) : D X ops F B fuel listed k ((d, v) :: L) C := by subst e; exact h
/-! ## Results -/
def resOf (tmps : Array Value) : ResultVar → Sem Value
  | .tmp t => pure (tmps.getD t undef)
  | .cell a t => do loadVar t (← asAddr (tmps.getD a undef))
def RV (P : Program) (L : Slots) (As : List HA) (rs : List ResultVar) (vs : List Value) : Prop :=
  ∀ (a : Act) (n : Nat) (df : List Nat) (w w0 : World) (M : List Nat), FR n df L a → HS w0 M As w → (rs.mapM (resOf a.tmps)).run P w = .ok vs w
section
variable {P : Program}
theorem RV.nil : RV P L As [] [] := fun _ _ _ _ _ _ _ _ => by simp [List.mapM_nil]
theorem RV.tmp {t : Nat} {v : Value} {rs : List ResultVar} {vs : List Value} (h : Slots.get L t = some v) (r : RV P L As rs vs) : RV P L As (.tmp t :: rs) (v :: vs) := fun a n df w w0 M ha hw => by
  have e : a.tmps.getD t undef = v := ha.evl (x := .tmp t) h
  rw [List.mapM_cons]
  simp only [resOf, Sem.run_bind, Sem.run_pure, Result.andThen_ok, e, r a n df w w0 M ha hw]
theorem RV.cell {at' t b i m tot : Nat} {bt : TypeId} {cs : List Value} {As' : List HA} {rs : List ResultVar} {vs : List Value} (h : Slots.get L at' = some (.pointer (some ⟨b, i, none⟩))) (hs : tsz P t = some (m, true)) (hp : Pick As (.blk b bt tot cs) As') (hl : Nat.ble (i + m) cs.length = true)
    (r : RV P L As rs vs) : RV P L As (.cell at' t :: rs) (.agg (cut cs i m).toArray :: vs) := fun a n df w w0 M ha hw => by
  have e : a.tmps.getD at' undef = .pointer (some ⟨b, i, none⟩) := ha.evl (x := .tmp at') h
  have hl' : i + m ≤ cs.length := Nat.le_of_ble_eq_true hl
  have hr := loadAt_runn (P := P) (b := b) (i := i) (w := w) (vs := cut cs i m) hs (by simp [cut]; omega) (fun j v hv => (hw.blk_get hp).cell (by
    unfold cut at hv
    rw [List.getElem?_take] at hv
    split at hv
    · simpa using hv
    · cases hv))
  have hr' : (loadVar t ⟨b, i, none⟩).run P w = .ok (.agg (cut cs i m).toArray) w := by simpa [Instr.loadAt, Instr.sureAddr] using hr
  rw [List.mapM_cons]
  simp only [resOf, Sem.run_bind, Sem.run_pure, Result.andThen_ok, e, asAddr, hr', r a n df w w0 M ha hw]
theorem RV.run {a : Act} {n : Nat} {df : List Nat} {w w0 : World} {M : List Nat} (ha : FR n df L a) (hw : HS w0 M As w) {rs : List ResultVar} {vs : List Value} (h : RV P L As rs vs) : (rs.mapM (resOf a.tmps)).run P w = .ok vs w := h a n df w w0 M ha hw
end
def retV : List Value → Value
  | [v] => v
  | vs => .tuple vs.toArray
theorem results_eq {fn : Func} {rs : List ResultVar} {tmps : Array Value} (h : fn.results = rs.toArray) : results fn tmps = (do
    let vs ← rs.toArray.mapM (resOf tmps)
    pure (if h : vs.size = 1 then vs[0] else .tuple vs)) := by
  unfold results
  rw [h]
  have e : (fun x : ResultVar => (match x with
    | .tmp t => pure (tmps.getD t undef)
    | .cell a t => do loadVar t (← asAddr (tmps.getD a undef)) : Sem Value)) = resOf tmps := by
    funext x; cases x <;> rfl
  rw [← e]
  rfl
theorem s_retv {rs : List ResultVar} {vs : List Value} (hr : X.fn.results = rs.toArray) (hv : RV X.P L As rs vs) (h : ∀ w, HS w0 M As w → X.R (.returned (retV vs)) w) (hrd : X.rd = none := by rfl) (hdf : X.df = [] := by rfl) : S X (.c .ret :: k) L (HS w0 M As) := by
  refine s_ret_gen (v := retV vs) (fun a w ha hw => ?_) h hrd hdf
  have hm := hv.run ha hw
  rw [results_eq hr, Array.mapM_eq_mapM_toList]
  simp only [Sem.run_bind, Sem.run_map, hm, Result.andThen_ok, Sem.run_pure]
  match vs with
  | [] => rfl
  | [v] => rfl
  | u :: v :: vs => simp [retV]
end

section
variable {P : Program} {o : Oper} {L : Slots} {w0 : World} {M : List Nat} {As As' : List HA}
/-! ## Subslices -/
/-- Where a subslice begins. -/
def subA (a : Option Addr) (cap lo sz : Nat) : Option Addr := if cap = lo then a else a.map (·.add (lo * sz))
/-! ## Slices held against nil -/
/-! ## min and max of two numbers -/
theorem p_min2 {x y : Operand} {k : IntKind} {a b : Int} {ts : Array TypeId} (ho : o.op = .call { callee := .builtin .min, args := #[x, y], argTypes := ts }) (hx : ev L x = some (.int k a)) (hy : ev L y = some (.int k b)) : OpP P o L (.int k (if b < a then b else a)) := by
  intro ρ w hρ
  simp [execOp, ho, resolve, invoke, builtin, Builtin.min_, Builtin.min2, hρ _ _ hx, hρ _ _ hy]
/-! ## Callees that write to one block -/
/-! ## Strings of own bytes -/
def vByte (v : Value) : UInt8 := UInt8.ofNat (intOf v).toNat
def isU8 : Value → Bool
  | .int .u8 _ => true
  | _ => false
theorem conv_bytes_run {src dst e : TypeId} {a : Option Addr} {cap : Nat} {xs : List Value} {w : World} (hs : P.underlying src = some (.slice e)) (hd : P.underlying dst = some .string) (he : P.underlying e = some (.int .u8)) (h8 : ∀ v ∈ xs, isU8 v = true) (hc : Src a xs w) :
    (convert src dst (.slice a xs.length cap)).run P w = .ok (.string (bs (xs.map vByte))) w := by
  have hx : xs.map (fun v => Value.int .u8 (intOf v)) = xs := by
    refine (List.map_congr_left (g := id) fun v hv => ?_).trans (List.map_id _)
    have := h8 v hv
    cases v with
    | int k n => cases k <;> first | rfl | cases this
    | _ => cases this
  have hbs : ∀ (ns : List Int) (s : ByteArray), ns.foldl (fun r n => r.push (UInt8.ofNat n.toNat)) s = ⟨s.data ++ (ns.map fun n => UInt8.ofNat n.toNat).toArray⟩ := foldl_push_bytes
  cases xs with
  | nil =>
    cases a with
    | none => exact run_convert_bytes_nil w src e hs he 0 cap dst hd
    | some ad => exact run_convert_bytes_back w src dst e ad cap [] hs he hd (fun j hj => absurd hj (Nat.not_lt_zero _))
  | cons u us =>
    obtain ⟨b, i, rfl, h1⟩ := hc (by simp)
    rw [run_convert_bytes_string w src dst e _ _ cap hs he hd]
    have hl := run_loadCells_list (P := P) w ⟨b, i, none⟩ (((u :: us).map intOf).map (Value.int .u8)) (fun j v hj => by
      rw [List.map_map] at hj
      rw [show (Value.int .u8 ∘ intOf) = fun v => Value.int .u8 (intOf v) from rfl, hx] at hj
      rw [addr_add]
      exact h1 j v hj)
    have hlen : (((u :: us).map intOf).map (Value.int .u8)).length = (u :: us).length := by simp
    rw [hlen] at hl
    rw [run_bytesToString w _ _ cap _ hl, hbs]
    have e0 : ByteArray.empty.data = #[] := rfl
    simp only [bs, List.map_map, e0, Array.empty_append]
    rfl
theorem q_string_own {src dst e et n : Nat} {x : Operand} {v : Value} {xs : List Value} (ho : o.op = .convert src dst x) (hx : ev L x = some v) (hs : P.underlying src = some (.slice e)) (hd : P.underlying dst = some .string) (he : P.underlying e = some (.int .u8)) (hp : Pick As (.own v et 1 n xs) As') (h8 : ∀ v ∈ xs, isU8 v = true) : OpQ P o L (HS w0 M As) (.string (bs (xs.map vByte))) := by
  intro ρ w hρ hw
  have hr : (convert src dst v).run P w = .ok (.string (bs (xs.map vByte))) w := by
    obtain ⟨hl, ⟨rfl, rfl⟩ | ⟨g, cap, rfl, _, _, hb⟩⟩ := (hw.pick hp).head
    · have : xs = [] := List.eq_nil_of_length_eq_zero (by simpa using hl)
      subst this
      exact conv_bytes_run (xs := []) hs hd he (fun _ h => by cases h) (fun h => absurd rfl h)
    · have hl' : n = xs.length := by omega
      subst hl'
      exact conv_bytes_run hs hd he h8 fun _ => ⟨g, 0, rfl, fun j u hu => by simpa using hb.cell hu⟩
  simp only [execOp, ho, Sem.run_bind, hρ _ _ hx, hr, Result.andThen_ok, Sem.run_pure]
  exact ⟨rfl, Below.refl _ _⟩
theorem q_string_blk {src dst e et n tot b cap : Nat} {x : Operand} {xs : List Value} (ho : o.op = .convert src dst x) (hx : ev L x = some (.slice (some ⟨b, 0, none⟩) n cap)) (hs : P.underlying src = some (.slice e)) (hd : P.underlying dst = some .string) (he : P.underlying e = some (.int .u8)) (hp : Pick As (.blk b et tot xs) As') (hn : xs.length = n) (h8 : ∀ v ∈ xs, isU8 v = true) : OpQ P o L (HS w0 M As) (.string (bs (xs.map vByte))) := by
  intro ρ w hρ hw
  have hr : (convert src dst (.slice (some ⟨b, 0, none⟩) n cap)).run P w = .ok (.string (bs (xs.map vByte))) w := by
    subst hn
    exact conv_bytes_run hs hd he h8 fun _ => ⟨b, 0, rfl, fun j u hu => by simpa using (hw.blk_get hp).cell hu⟩
  simp only [execOp, ho, Sem.run_bind, hρ _ _ hx, hr, Result.andThen_ok, Sem.run_pure]
  exact ⟨rfl, Below.refl _ _⟩
end
/-! ## Entering with owned memory -/
theorem HS.enter {w : World} {M : List Nat} {As : List HA} (hok : ∀ A ∈ As, A.ok w) (hlt : ∀ A ∈ As, ∀ b ∈ A.fp, b < w.heap.size ∧ b ∈ M) (hsep : As.Pairwise fun A B => ∀ b ∈ A.fp, b ∉ B.fp) : HS w M As w :=
  ⟨rfl, rfl, rfl, Nat.le_refl _, fun _ _ _ => rfl, hok, fun A hA b hb => ⟨(hlt A hA b hb).1, fun _ => (hlt A hA b hb).2⟩, hsep⟩
theorem BlkOk.lt {w : World} {b : Nat} {t : TypeId} {tot : Nat} {cs : List Value} (h : BlkOk b t tot cs w) : b < w.heap.size := by
  obtain ⟨cur, fr, h1, _⟩ := h
  rcases Nat.lt_or_ge b w.heap.size with h' | h'
  · exact h'
  · simp [Array.getElem?_eq_none h'] at h1
/-- What a class says of a block, as a fact on old memory of a callee. -/
theorem HS.rd_blk {w0 w : World} {M Mc : List Nat} {As As' : List HA} {b i : Nat} {t : TypeId} {tot : Nat} {cs : List Value} {v : Value} (h : HS w0 M As w) (hp : Pick As (.blk b t tot cs) As') (hv : cs[i]? = some v) (hM : b ∉ Mc) : Rd w Mc b i v :=
  ⟨(h.blk_get hp).lt, hM, (h.blk_get hp).cell hv⟩
/-- A slice over a block of the caller's, for a callee. -/
theorem HS.sl_blk {w0 w : World} {M : List Nat} {As As' : List HA} {b sz n : Nat} {t : TypeId} {tot : Nat} {cs : List Value} {cell : Nat → List Value} (h : HS w0 M As w) (hp : Pick As (.blk b t tot cs) As') (hc : ∀ i, i < n → (cell i).length = sz ∧ ∀ j v, (cell i)[j]? = some v → cs[i * sz + j]? = some v) : Sl w [] (some ⟨b, 0, none⟩) sz n cell :=
  ⟨fun _ => ⟨b, 0, rfl, fun i hi => ⟨(hc i hi).1, fun j v hv => by
    have := h.rd_blk (Mc := []) hp ((hc i hi).2 j v hv) (by simp)
    simpa using this⟩⟩⟩
theorem HS.sl_own {w0 w : World} {M : List Nat} {As As' : List HA} {v : Value} {sz n : Nat} {t : TypeId} {cs : List Value} {cell : Nat → List Value} {a : Option Addr} {cap : Nat} (h : HS w0 M As w) (hp : Pick As (.own v t sz n cs) As') (hv : v = .slice a n cap) (hc : ∀ i, i < n → (cell i).length = sz ∧ ∀ j v, (cell i)[j]? = some v → cs[i * sz + j]? = some v) : Sl w [] a sz n cell := by
  refine ⟨fun hn => ?_⟩
  obtain ⟨g, cap', e, _, _, _, h2⟩ := (h.pick hp).own_open' hn
  rw [e] at hv
  injection hv with e1 e2 e3
  subst e1
  exact (h2.sl_blk .here hc).at_ hn
end Gx

/- From a reading of the arguments to what their values are; and back, for a law that answers true and writes to nothing old. -/
namespace Gx
open Go Go.RowKit Go.ChangeShapes Go.WideShapes Go.ChangeAt

section
variable {H : Type} {enc : TypeId × Value → H} {P : Program} {W : World}
/-- What is known of cells that read as a type's. -/
def okT (P : Program) (W : World) : Nat → TypeId → List Value → Prop
  | 0, _, _ => False
  | d + 1, t, cs => match P.underlying t with
    | some (.int k) => ∃ n, cs = [.int k n] ∧ (Lit.int k n).wf = true
    | some .string => ∃ l, cs = [.string (bs l)] ∧ l.length ≤ maxLen
    | some .bool => ∃ b, cs = [.bool b]
    | some (.slice e) => ∃ a n cap cell, cs = [.slice a n cap] ∧ n ≤ cap ∧ cap ≤ maxLen ∧ (0 < P.cellsOf e → Sl W [] a (P.cellsOf e) n cell) ∧ ∀ i, i < n → okT P W d e (cell i)
    | some (.struct fs) => cs.length = P.cellsOf t ∧ ∀ f ∈ fs.toList, okT P W d f.type ((cs.drop f.offset).take (P.cellsOf f.type))
    | some (.array n e) => cs.length = P.cellsOf t ∧ ∀ i, i < n → okT P W d e ((cs.drop (i * P.cellsOf e)).take (P.cellsOf e))
    | _ => True
theorem cells?_get {a : Addr} {n : Nat} {cs : List Value} (h : W.cells? 0 a n = some cs) : cs.length = n ∧ ∀ j v, cs[j]? = some v → W.cell? (a.add j) = some v := by
  unfold World.cells? at h
  rw [if_pos (Nat.zero_le _)] at h
  have hl : cs.length = n := by simpa using mapM_some_length h
  refine ⟨hl, fun j v hv => ?_⟩
  have hj : j < n := by rw [← hl]; exact (List.getElem?_eq_some_iff.1 hv).1
  have := mapM_some_get h j j (by simp [hj])
  rw [this, hv]
theorem okT_of_trod {sp : Nat → Bool} {held : Bool} : ∀ (d : Nat) (t : TypeId) (cs : List Value) (x : DataW H × List MemPlace), DataW.trod enc P W 0 sp held d t cs = some x → okT P W d t cs
  | 0, _, _, _, h => by simp [DataW.trod] at h
  | d + 1, t, cs, x, h => by
    rw [okT]
    split
    · rename_i k hu
      obtain ⟨n, rfl, _, hw⟩ := DataW.trod_int hu h
      exact ⟨n, rfl, hw⟩
    · rename_i hu
      obtain ⟨s, rfl, _, hs⟩ := DataW.trod_string hu h
      exact ⟨s.data.toList, rfl, hs⟩
    · rename_i hu
      obtain ⟨b, rfl, _⟩ := DataW.trod_bool hu h
      exact ⟨b, rfl⟩
    · rename_i e hu
      rcases DataW.trod_slice hu h with ⟨rfl, _⟩ | ⟨a, len, cap, elems, rest, n, hn, rfl, _, _, hl, hc, hel, hg, _⟩
      · exact ⟨none, 0, 0, fun _ => [], rfl, Nat.le_refl _, Nat.zero_le _, fun _ => ⟨fun h0 => absurd h0 (Nat.lt_irrefl _)⟩, fun i hi => absurd hi (Nat.not_lt_zero i)⟩
      · cases hn
        have hx : ∀ i, i < len → ∃ c y, W.cells? 0 (a.add (i * P.cellsOf e)) (P.cellsOf e) = some c ∧ DataW.trod enc P W 0 sp held d e c = some y := fun i hi => by
          have h1 := hg i hi
          have h2 : ∃ y, elems[i]? = some y := ⟨_, List.getElem?_eq_getElem (by omega)⟩
          obtain ⟨y, hy⟩ := h2
          rw [hy, Option.bind_eq_some_iff] at h1
          obtain ⟨c, e1, e2⟩ := h1
          exact ⟨c, y, e1, e2⟩
        have hcell : ∀ i, ∃ c, i < len → ∃ y, W.cells? 0 (a.add (i * P.cellsOf e)) (P.cellsOf e) = some c ∧ DataW.trod enc P W 0 sp held d e c = some y := fun i => by
          by_cases hi : i < len
          · obtain ⟨c, y, e1, e2⟩ := hx i hi; exact ⟨c, fun _ => ⟨y, e1, e2⟩⟩
          · exact ⟨[], fun h => absurd h hi⟩
        obtain ⟨cell, hcell⟩ := Classical.axiomOfChoice hcell
        refine ⟨some a, len, cap, cell, rfl, hl, hc, fun h0 => ⟨fun hpos => ?_⟩, fun i hi => ?_⟩
        · have hsp : a.spot = none := by
            obtain ⟨y, e1, _⟩ := hcell 0 hpos
            obtain ⟨e2, e3⟩ := cells?_get e1
            have hz : 0 < (cell 0).length := by omega
            have e4 := e3 0 _ (List.getElem?_eq_getElem hz)
            have e5 : (a.add (0 * P.cellsOf e)).add 0 = a := by simp [Addr.add]
            rw [e5] at e4
            unfold World.cell? at e4
            split at e4
            · split at e4
              · cases e4
              · rename_i hns
                cases hsx : a.spot with
                | none => rfl
                | some v => rw [hsx] at hns; simp at hns
            · cases e4
          obtain ⟨b, o, s⟩ := a
          simp only at hsp
          subst hsp
          refine ⟨b, o, rfl, fun i hi => ?_⟩
          obtain ⟨y, e1, _⟩ := hcell i hi
          obtain ⟨e2, e3⟩ := cells?_get e1
          refine ⟨e2, fun j v hv => ?_⟩
          have e4 := e3 j v hv
          have e5 : ((⟨b, o, none⟩ : Addr).add (i * P.cellsOf e)).add j = ⟨b, o + i * P.cellsOf e + j, none⟩ := by rw [addr_add, addr_add]
          rw [e5] at e4
          refine ⟨?_, by simp, e4⟩
          unfold World.cell? at e4
          split at e4
          · rename_i hh
            exact (Array.getElem?_eq_some_iff.1 hh).1
          · cases e4
        · obtain ⟨y, _, e2⟩ := hcell i hi
          exact okT_of_trod d e _ y e2
    · rename_i fs hu
      obtain ⟨xs, n, hn, _, hl, hxl, hg⟩ := DataW.trod_struct hu h
      cases hn
      refine ⟨hl, fun f hf => ?_⟩
      obtain ⟨i, hi, rfl⟩ := List.getElem_of_mem hf
      have hi' : i < fs.size := by simpa using hi
      have h1 := hg i fs[i] (by simp [hi'])
      rw [List.getElem?_eq_getElem (by omega)] at h1
      exact okT_of_trod d _ _ _ (by simpa using h1)
    · rename_i n e hu
      obtain ⟨xs, m, hm, _, hl, hxl, hg⟩ := DataW.trod_array hu h
      cases hm
      refine ⟨hl, fun i hi => ?_⟩
      have h1 := hg i hi
      rw [List.getElem?_eq_getElem (by omega)] at h1
      exact okT_of_trod d _ _ _ h1
    · trivial
/-! ## By shape -/
section
variable {d : Nat} {t : TypeId} {cs : List Value}
theorem okT_str (h : okT P W d t cs) (hu : P.underlying t = some .string) : ∃ l, cs = [.string (bs l)] ∧ l.length ≤ maxLen := by
  cases d with
  | zero => cases h
  | succ d => rw [okT, hu] at h; exact h
theorem okT_sl {e : TypeId} (h : okT P W d t cs) (hu : P.underlying t = some (.slice e)) (hc : 0 < P.cellsOf e) : ∃ d' a n cap cell, cs = [.slice a n cap] ∧ n ≤ cap ∧ cap ≤ maxLen ∧ Sl W [] a (P.cellsOf e) n cell ∧ ∀ i, i < n → okT P W d' e (cell i) := by
  cases d with
  | zero => cases h
  | succ d =>
    rw [okT, hu] at h
    obtain ⟨a, n, cap, cell, h1, h2, h3, h4, h5⟩ := h
    exact ⟨d, a, n, cap, cell, h1, h2, h3, h4 hc, h5⟩
theorem okT_ar {n : Nat} {e : TypeId} (h : okT P W d t cs) (hu : P.underlying t = some (.array n e)) : ∃ d', cs.length = P.cellsOf t ∧ ∀ i, i < n → okT P W d' e ((cs.drop (i * P.cellsOf e)).take (P.cellsOf e)) := by
  cases d with
  | zero => cases h
  | succ d => rw [okT, hu] at h; exact ⟨d, h⟩
end
theorem okT_trod {sp : Nat → Bool} {held : Bool} {t : TypeId} {v : Value} {x : DataW H} {ps : List MemPlace} (h : DataW.Trod enc P W 0 sp held t v x ps) : ∃ d, okT P W d t v.cells.toList := by
  obtain ⟨d, h⟩ := h
  exact ⟨d, okT_of_trod d t _ _ h⟩
theorem agg_of {t : TypeId} {v : Value} {r : Reach} {b0 : Nat} (hval : Value.okWide P W r b0 t v) (ha : (match P.underlying t with | some (.struct _) | some (.array _ _) => true | _ => false) = true) : ∃ cs : List Value, v = .agg cs.toArray ∧ v.cells.toList = cs := by
  unfold Value.okWide at hval
  split at ha
  · rename_i hu; rw [hu] at hval; obtain ⟨cs, rfl, _⟩ := hval; exact ⟨cs.toList, rfl, rfl⟩
  · rename_i hu; rw [hu] at hval; obtain ⟨cs, rfl, _⟩ := hval; exact ⟨cs.toList, rfl, rfl⟩
  · cases ha
/-! ## A law that answers true and writes to nothing old -/
theorem trodAll_later (hl : laidOutB P = true) {W' : World} (hb : Below W.heap.size W W') : ∀ {ts : List TypeId} {vs : List Value} {ds : List (DataW H)} {ps : List MemPlace}, ts.all (fun t => P.readableRec t && decide (t < P.types.size)) = true →
    DataW.TrodAll enc P W 0 (fun _ => true) true ts vs ds ps → (∀ x ∈ ps, x.block < W.heap.size) → DataW.TrodAll enc P W' 0 (fun b => decide (b < W.heap.size)) true ts vs ds ps
  | [], [], [], _, _, h, _ => h
  | [], _ :: _, _, _, _, h, _ => (by cases h)
  | [], [], _ :: _, _, _, h, _ => (by cases h)
  | _ :: _, [], _, _, _, h, _ => (by cases h)
  | _ :: _, _ :: _, [], _, _, h, _ => (by cases h)
  | t :: ts, v :: vs, d :: ds, ps, hr, h, hlt => by
    obtain ⟨p, q, h1, h2, rfl⟩ := h
    simp only [List.all_cons, Bool.and_eq_true, decide_eq_true_eq] at hr
    exact ⟨p, q, Below.trod hl hr.1.1 hr.1.2 h1 hb (fun x hx => hlt x (List.mem_append_left _ hx)), trodAll_later hl hb hr.2 h2 (fun x hx => hlt x (List.mem_append_right _ hx)), rfl⟩
theorem post_true {f : Func} {s : ChangeSpec} {apart fresh handsOn : Bool} {W' : World} {args : Array Value} {ds gs : List (DataW H)} {before : List MemPlace} {tb : TypeId}
    (hl : laidOutB P = true) (hr : f.params.toList.all (fun t => P.readableRec t && decide (t < P.types.size)) = true) (hbool : f.resultTypes = #[tb]) (htb : P.underlying tb = some .bool) (hv : s.vars = [])
    (hs : s.fn H ds = { results := [.lit (.bool true)], args := ds }) (hW : DataW.Whole enc P f.params.toList s.vars apart W args.toList ds gs before) (hb : Below W.heap.size W W') :
    s.post enc P f apart fresh handsOn false W args (.bool true) W' := by
  have hW' := hW
  obtain ⟨p, q, hA, hV, rfl, hfz, hnd⟩ := hW
  rw [hv] at hV
  obtain ⟨rfl, rfl⟩ := trodVars_none hV
  have hlt : ∀ x ∈ p, x.block < W.heap.size := fun x hx => by simpa using hW'.lt x (by simpa using hx)
  refine ⟨ds, [], p ++ [], [], p, [], hW', ?_, ?_, ?_, hb.frame _, fun h => by cases h⟩
  · rw [List.append_nil, hs, hbool]
    exact trodAll_mk1 (shut_bool htb true)
  · rw [List.append_nil, hs]
    exact trodAll_later hl hb hr hA hlt
  · rw [List.append_nil, hs, hv]
    rfl
end
end Gx

/- The engine's rules, continued: empty slices, structs and arrays held against each other. -/
namespace Gx
set_option linter.unusedSimpArgs false
set_option linter.unusedVariables false
open Go Go.RowKit

section
variable {P : Program} {o : Oper} {L : Slots} {w0 : World} {M : List Nat} {As As' : List HA}
/-! ## Empty slices, make -/
theorem h_buildSlice0 {t e sz by' : Nat} (ho : o.op = .buildSlice t 0 #[]) (ht : tsl P t = some (e, sz, by')) :
    OpH P o L (HS w0 M As) (fun b : Nat => .slice (some ⟨b, 0, none⟩) 0 0) (fun _ => True) (fun b => HS w0 M (.own (.slice (some ⟨b, 0, none⟩) 0 0) e sz 0 [] :: As)) := by
  intro ρ w hρ hw
  obtain ⟨hu, inf, h1, h2, _⟩ := tsl_slice ht
  have hsz : (Go.sizeOf e).run P w = .ok sz w := by simp [Go.sizeOf, typeInfo, h1, h2]
  have hb : (Instr.buildSlice t 0 #[]).run P w = .ok (.slice (some ⟨w.heap.size, 0, none⟩) 0 0) (w.alloc (.cells #[] e)) := by
    unfold Instr.buildSlice
    simp only [Sem.run_bind, run_underlying hu, Result.andThen_ok, hsz, Nat.zero_mul, Nat.not_lt_zero, if_false, if_true, Sem.run_pure, Instr.fill, newRow, run_newObj, World.alloc_eq]
    simp only [Instr.fill, newRow, run_newObj, World.alloc_eq, Sem.run_bind, Sem.run_pure, Result.andThen_ok, show (Array.map (fun x => (#[] : Array Value)[x % (#[] : Array Value).size]!) (Array.range 0)) = #[] from Array.eq_empty_of_size_eq_zero (by simp)]
  simp only [execOp, ho, Sem.run_bind]
  rw [show ((#[] : Array (Nat × Operand)).map fun x => (x.fst, ρ x.snd)) = #[] from by simp, hb]
  have h3 := hw.blk_new e #[]
  exact ⟨w.heap.size, rfl, trivial, HS.own_shut (cap := 0) (by simpa using h3) (by simp) (Nat.le_refl _) (by simp [maxLen])⟩
/-- The cells of a new row. -/
def zrow (z : List Value) (n : Nat) : List Value := (List.range n).map fun i => z.toArray[i % z.length]!
theorem zrow_length (z : List Value) (n : Nat) : (zrow z n).length = n := by simp [zrow]
theorem zrow_one (v : Value) (n : Nat) : zrow [v] n = List.replicate n v := by
  unfold zrow
  rw [List.eq_replicate_iff]
  refine ⟨by simp, fun u hu => ?_⟩
  simp only [List.mem_map, List.mem_range] at hu
  obtain ⟨i, _, rfl⟩ := hu
  have : i % [v].length = 0 := Nat.mod_one i
  rw [this]
  rfl
theorem h_make {t e sz by' n : Nat} {x y : Operand} {z : List Value} (ho : o.op = .makeSlice t x y) (hx : ev L x = some (.int .i64 (n : Int))) (hy : ev L y = some (.int .i64 (n : Int))) (ht : tsl P t = some (e, sz, by')) (hz : tzero P e = some z) (hlen : n * by' ≤ 281474976710656) (hn : n ≤ 16777216) :
    OpH P o L (HS w0 M As) (fun b : Nat => .slice (some ⟨b, 0, none⟩) n n) (fun _ => True) (fun b => HS w0 M (.blk b e (n * sz) (zrow z (n * sz)) :: As)) := by
  intro ρ w hρ hw
  obtain ⟨hu, inf, h1, h2, h3⟩ := tsl_slice ht
  have hsz : ∀ w, (Go.sizeOf e).run P w = .ok sz w := fun w => by simp [Go.sizeOf, typeInfo, h1, h2]
  have hti : (typeInfo e).run P w = .ok inf w := by simp [typeInfo, h1]
  obtain ⟨zv, hz', hzr⟩ : ∃ zv : Value, zv.cells.toList = z ∧ ∀ w, (zeroValue e).run P w = .ok zv w := by
    unfold tzero at hz
    rw [h1] at hz
    simp only [Option.bind_some] at hz
    cases hzz : inf.zero with
    | none => rw [hzz] at hz; cases hz
    | some v => rw [hzz] at hz; simp only [Option.map_some, Option.some.injEq] at hz; exact ⟨v, hz, fun w => by simp [zeroValue, typeInfo, h1, hzz]⟩
  have hwr : IntKind.i64.wrap (n : Int) = n := IntWalk.i64_in _ ⟨by omega, by omega⟩
  have hz'' : zv.cells = z.toArray := by rw [← hz']
  have hpr : ((inf.bytes : Nat) : Int) * (n : Int) ≤ 281474976710656 := by
    rw [h3, ← Int.natCast_mul, Nat.mul_comm]; omega
  have e2 : (2 : Int) ^ 48 = 281474976710656 := by decide
  have d1 : ¬ ((inf.bytes : Nat) : Int) * (n : Int) > 2 ^ 48 := by rw [e2]; omega
  have d2 : ¬ (n : Int) < 0 := by omega
  have d3 : ¬ (n : Int) > n := by omega
  have hai : ∀ w, (asInt (.int .i64 (n : Int))).run P w = .ok (n : Int) w := fun w => by simp [asInt, asIntOf]
  have hb : (Instr.makeSlice t (.int .i64 n) (.int .i64 n)).run P w = .ok (.slice (some ⟨w.heap.size, 0, none⟩) n n) (w.alloc (.cells (zrow z (n * sz)).toArray e)) := by
    unfold Instr.makeSlice
    simp only [Sem.run_bind, run_underlying hu, Result.andThen_ok, hsz, hai, Sem.run_pure, hti, hwr, d1, d2, d3, decide_false, Bool.or_false, Bool.false_eq_true, if_false, run_askRoom, Int.toNat_natCast]
    by_cases h0 : n * sz = 0
    · have e1 : ∀ q : Array Value, (Array.map (fun x => q[x % q.size]!) (Array.range 0)) = #[] := fun q => Array.eq_empty_of_size_eq_zero (by simp)
      have e3 : (zrow z (n * sz)).toArray = #[] := by rw [h0]; rfl
      simp only [h0, if_true, Sem.run_bind, Sem.run_pure, Result.andThen_ok, newRow, run_newObj, World.alloc_eq, e1, e3]
      simp only [h0] at e3
      rw [e3]
    · simp only [if_neg h0, Sem.run_bind, hzr, Sem.run_pure, Result.andThen_ok, newRow, run_newObj, World.alloc_eq, hz'']
      congr 2
      simp [zrow, ← List.toArray_range]
  simp only [execOp, ho, Sem.run_bind, hρ _ _ hx, hρ _ _ hy, hb, Result.andThen_ok, Sem.run_pure]
  have h4 := hw.blk_new e (zrow z (n * sz)).toArray
  refine ⟨w.heap.size, rfl, trivial, ?_⟩
  simpa [zrow_length] using h4
/-- append, the new slice by its address and capacity. -/
theorem h_appendS {t xt e e' sz by' n m c : Nat} {s x : Operand} {v : Value} {a : Option Addr} {z xs : List Value} (news : List Value) (ho : o.op = .call { callee := .builtin .append, args := #[s, x], argTypes := #[t, xt] }) (hs : ev L s = some v) (hx : ev L x = some (.slice a m c)) (ht : tsl P t = some (e, sz, by')) (hxt : P.underlying xt = some (.slice e')) (hz : tzero P e = some z) (hzs : z.length = sz)
    (hp : Pick As (.own v e sz n xs) As') (hsrc : ∀ w, HS w0 M As w → Src a news w) (hl : news.length = m * sz) (h1 : ∀ u ∈ news, u.oneCell' = true) (hroom : (n + m) * by' ≤ 140737488355328) (hmax : n + m ≤ maxLen) :
    OpH P o L (HS w0 M As) (fun g : Option Addr × Nat => .slice g.1 (n + m) g.2) (fun _ => True) (fun g => HS w0 M (.own (.slice g.1 (n + m) g.2) e sz (n + m) (xs ++ news) :: As')) := by
  intro ρ w hρ hw
  refine (h_append news ho hs hx ht hxt hz hzs hp hsrc hl h1 hroom hmax ρ w hρ hw).mono fun u w' hh => ?_
  obtain ⟨v', rfl, _, h⟩ := hh
  obtain ⟨a', cap', rfl, _⟩ := h.head.form
  exact ⟨(a', cap'), rfl, trivial, h⟩
/-! ## Held against each other -/
def eq1 : Value → Value → Option Bool
  | .int k a, .int k' b => if k = k' then some (decide (a = b)) else none
  | .string a, .string b => some (decide (a.data.toList = b.data.toList))
  | .bool a, .bool b => some (a == b)
  | _, _ => none
def eqC : List Value → List Value → Option Bool
  | [], [] => some true
  | x :: xs, y :: ys => match eq1 x y, eqC xs ys with
    | some a, some b => some (a && b)
    | _, _ => none
  | _, _ => none
def lfT (P : Program) (t : TypeId) : Bool := match P.underlying t with
  | some (.int _) | some .string | some .bool => true
  | _ => false
end
section
variable {P : Program} {w : World}
/-- Values of leaf types: what '==' says of them, where the type fits. -/
def fits1 (P : Program) (t : TypeId) (x : Value) : Bool := match P.underlying t, x with
  | some (.int _), .int _ _ | some .string, .string _ | some .bool, .bool _ => true
  | _, _ => false
/-- Fields in their cells' order, each of a leaf type. -/
def flF (P : Program) : List Field → Nat → Bool
  | [], _ => true
  | f :: fs, k => !(f.name == "_") && Nat.beq f.offset k && lfT P f.type && flF P fs (k + 1)
def fitsF (P : Program) : List TypeId → List Value → Bool
  | [], [] => true
  | t :: ts, x :: xs => fits1 P t x && fitsF P ts xs
  | _, _ => false
/-- What a flat struct's or array's cells are, where '==' holds them one by one. -/
def teq (P : Program) (t : TypeId) : Option (List TypeId) := match P.underlying t with
  | some (.struct fs) => if flF P fs.toList 0 && !P.stoodInHeld t && !P.eqGuardType P.depth t then some (fs.toList.map (·.type)) else none
  | some (.array n e) => if lfT P e && Nat.beq (P.cellsOf e) 1 && (P.info? e).isSome && !P.eqGuardType P.depth t then some (List.replicate n e) else none
  | _ => none
/-- The test of leaf kinds by a list of the kinds. -/
def tlk (P : Program) (t : TypeId) : Option Nat := match P.underlying t with
  | some (.int _) => some 0
  | some .string => some 1
  | some .bool => some 2
  | _ => none
def teqk (P : Program) (t : TypeId) : Option (List Nat) := (teq P t).bind fun ts => ts.mapM (tlk P)
def kindV : Value → Nat
  | .int _ _ => 0
  | .string _ => 1
  | .bool _ => 2
  | _ => 3
variable {o : Oper} {L : Slots}
end
/-! ## Two operations may come up, both of which make or change memory -/
section
variable {X : Ctx} {ops : Array Oper} {F : List Nat} {fuel : Nat} {listed : Array Bool} {k : List KI} {L : Slots} {w0 : World} {M : List Nat} {As : List HA}
end
end Gx

/- The engine's rules, continued: calls that are handed assertions of their own; copy, clear, cap, append in place, slices.overlaps. -/
namespace Gx
set_option linter.unusedSimpArgs false
set_option linter.unusedVariables false
open Go Go.RowKit

/-! ## Contracts over assertions -/
def fps (As : List HA) : List Nat := As.flatMap HA.fp
/-- The first assertions alone, as a callee sees them. -/
theorem HS.focus {w0 w : World} {M : List Nat} {Cs Ds : List HA} (h : HS w0 M (Cs ++ Ds) w) : HS w (fps Cs) Cs w := by
  refine ⟨rfl, rfl, rfl, Nat.le_refl _, fun _ _ _ => rfl, fun A hA => h.ok A (List.mem_append_left _ hA), fun A hA b hb => ⟨(h.lt A (List.mem_append_left _ hA) b hb).1, fun _ => List.mem_flatMap.2 ⟨A, hA, hb⟩⟩, (List.pairwise_append.1 h.sep).1⟩
def Picks (As Cs Ds : List HA) : Prop := As.Perm (Cs ++ Ds)
theorem Picks.nil {As : List HA} : Picks As [] As := .refl _
theorem Picks.cons {As As' Cs Ds : List HA} {A : HA} (h : Pick As A As') (r : Picks As' Cs Ds) : Picks As (A :: Cs) Ds := h.perm.trans (List.Perm.cons _ r)
/-- A callee that is handed assertions, and answers with others. -/
def CF (P : Program) (f : FuncId) (args : Array Value) {G : Type} (V : G → Value) (F : G → Prop) (Cs : List HA) (Bs : G → List HA) : Prop :=
  ∀ w, HS w (fps Cs) Cs w → Calls P f args w fun e w' => ∃ g, e = .returned (V g) ∧ F g ∧ HS w (fps Cs) (Bs g) w'
section
variable {P : Program} {o : Oper} {L : Slots} {w0 : World} {M : List Nat} {As As' : List HA}
theorem h_callF {G : Type} {V : G → Value} {F : G → Prop} {Bs : G → List HA} {Cs Ds : List HA} {f : FuncId} {args : Array Operand} {vs : List Value} {at' : Array TypeId} (ho : o.op = .call { callee := .value (.func f), args := args, argTypes := at' }) (hf : isFn P f = true) (ha : evs L args.toList = some vs)
    (hp : Picks As Cs Ds) (hc : ∀ w, HS w0 M As w → HS w (fps Cs) Cs w → Calls P f vs.toArray w fun e w' => ∃ g, e = .returned (V g) ∧ F g ∧ HS w (fps Cs) (Bs g) w') : OpH P o L (HS w0 M As) V F (fun g => HS w0 M (Bs g ++ Ds)) :=
  h_callM ho hf ha hp (fun b hb => by obtain ⟨A, hA, hb⟩ := List.mem_flatMap.1 hb; exact ⟨A, hA, hb⟩) (fun w hw => hc w hw (HS.focus (hw.perm hp)))
/-! ## What is known of a block, more and less -/
theorem BlkOk.less {b t tot : Nat} {cs ds : List Value} {w : World} (h : BlkOk b t tot (cs ++ ds) w) : BlkOk b t tot cs w := by
  obtain ⟨cur, fr, h1, h2, h3, h4, h5⟩ := h
  simp only [List.length_append] at h3
  exact ⟨cur, fr, h1, h2, by omega, fun i hi => by rw [h4 i (by simp; omega), List.getElem?_append_left hi], h5⟩
/-- A row of its own whose value is at hand, as a block. -/
theorem HS.own_blk {w : World} {a : Option Addr} {t sz n n' cap : Nat} {xs : List Value} (hn : 0 < n) (hp : Pick As (.own (.slice a n' cap) t sz n xs) As') (h : HS w0 M As w) : ∃ g, a = some ⟨g, 0, none⟩ ∧ n' = n ∧ n ≤ cap ∧ cap ≤ maxLen ∧ xs.length = n * sz ∧ HS w0 M (.blk g t (cap * sz) xs :: As') w := by
  obtain ⟨g, cap', e, h1, h2, h3, h4⟩ := (h.pick hp).own_open' hn
  injection e with e1 e2 e3
  subst e1 e2 e3
  exact ⟨g, rfl, rfl, h1, h2, h3, h4⟩
theorem setMany_eq : ∀ (vs cs : List Value) (i : Nat), i + vs.length ≤ cs.length → setMany cs i vs = cs.take i ++ vs ++ cs.drop (i + vs.length)
  | [], cs, i, h => by simp [setMany]
  | v :: vs, cs, i, h => by
    simp only [List.length_cons] at h
    rw [setMany, setMany_eq vs (cs.set i v) (i + 1) (by simp; omega)]
    rw [List.drop_set_of_lt (by omega), List.take_add_one, List.take_set_of_le (Nat.le_refl i), List.getElem?_set_self (by omega)]
    simp only [Option.toList_some, List.append_assoc, List.cons_append, List.nil_append, List.length_cons]
    congr 4
    omega
/-! ## cap, copy, clear -/
/-! ## append within a block, append of zeros -/
/-! ## slices.overlaps of rows of which one is the call's own -/
def isOv (P : Program) (f : FuncId) (t r : TypeId) : Prop := ∃ fn, P.funcs[f]? = some fn ∧ (fn.name == "runtime.NumGoroutine") = false ∧ fn.body.isNone = true ∧ Extern.findNext fn = none ∧ Extern.find fn = some (Extern.SlicesOverlaps.overlaps #[t, t] #[r])
/-! ## Slices with three bounds; what an insertion and a deletion leave -/
end
theorem setMany_get : ∀ (vs cs : List Value) (i j : Nat), (setMany cs i vs)[j]? = if i ≤ j ∧ j < i + vs.length ∧ j < cs.length then vs[j - i]? else cs[j]?
  | [], cs, i, j => by rw [setMany, if_neg (by simp only [List.length_nil]; omega)]
  | v :: vs, cs, i, j => by
    rw [setMany, setMany_get vs (cs.set i v) (i + 1) j]
    simp only [List.length_set, List.length_cons]
    by_cases e : i = j
    · subst e
      rw [if_neg (by omega)]
      by_cases h : i < cs.length
      · rw [if_pos (by omega), List.getElem?_set_self h]; simp
      · rw [if_neg (by omega), List.getElem?_eq_none (by simp; omega), List.getElem?_eq_none (by omega)]
    · rw [List.getElem?_set_ne e]
      by_cases h : i ≤ j ∧ j < i + (vs.length + 1) ∧ j < cs.length
      · rw [if_pos (by omega), if_pos h, show j - i = (j - (i + 1)) + 1 by omega, List.getElem?_cons_succ]
      · rw [if_neg (by omega), if_neg h]
/-! ## Slots that were written more than once -/
/-- The first m slots are of names that the others do not have. -/
def freshL (L : Slots) (m : Nat) : Bool := (L.take m).all fun p => (Slots.get (L.drop m) p.1).isNone
theorem get_drop : ∀ (m : Nat) (L : Slots) (t : Nat) (v : Value), freshL L m = true → Slots.get (L.drop m) t = some v → Slots.get L t = some v
  | 0, L, t, v, _, h => h
  | m + 1, [], t, v, _, h => by cases h
  | m + 1, (k, u) :: L, t, v, hf, h => by
    simp only [freshL, List.take_succ_cons, List.drop_succ_cons, List.all_cons, Bool.and_eq_true] at hf
    simp only [List.drop_succ_cons] at h
    rw [Slots.get_cons]
    by_cases e : k = t
    · subst e
      rw [h] at hf
      exact absurd hf.1 (by simp)
    · rw [if_neg e]
      exact get_drop m L t v hf.2 h
theorem s_joinN {X : Ctx} {k : List KI} {L : Slots} {LJ : Unit → Slots} {C : World → Prop} {CJ : Unit → World → Prop} (m dp : Nat) (v : Value) (hJ : LJ () = (dp, v) :: L.drop m) (hv : Slots.get L dp = some v) (hf : freshL L m = true) (hC : ∀ w, C w → CJ () w) : S X (.join (At X.n X.df LJ CJ) :: k) L C :=
  fun a w ha hw => ⟨(), ⟨ha.defers, ha.size, fun t u hu => by
    rw [hJ, Slots.get_cons] at hu
    by_cases e : dp = t
    · subst e
      rw [if_pos rfl] at hu
      injection hu with hu
      subst hu
      exact ha.slot _ _ hv
    · rw [if_neg e] at hu
      exact ha.slot _ _ (get_drop m L t u hf hu)⟩, hC w hw⟩
/-! ## Three operations may come up, all of which make or change memory -/
section
variable {X : Ctx} {ops : Array Oper} {F : List Nat} {fuel : Nat} {listed : Array Bool} {k : List KI} {L : Slots} {w0 : World} {M : List Nat} {As : List HA}
end
end Gx

/- Many assertions as one, and rows of structs whose parts own rows themselves. Nothing of a program is named here. -/
namespace Gx
set_option linter.unusedSimpArgs false
set_option linter.unusedVariables false
set_option linter.unusedSectionVars false
open Go Go.RowKit

/-! ## Many assertions as one -/
def Apart (As : List HA) : Prop := As.Pairwise fun A B => ∀ b ∈ A.fp, b ∉ B.fp
def HA.star (As : List HA) : HA := ⟨fps As, fun w => (∀ A ∈ As, A.ok w) ∧ Apart As, fun w w' h ha => ⟨fun A hA => A.loc w w' (fun b hb => h b (List.mem_flatMap.2 ⟨A, hA, hb⟩)) (ha.1 A hA), ha.2⟩⟩
section
variable {w0 w : World} {M : List Nat} {As Bs : List HA}
end

/-! ## Rows of structs -/
section
variable {α : Type} {vals : α → List Value} {sz : Nat}
theorem flat_length (hv : ∀ x, (vals x).length = sz) : ∀ l : List α, (l.flatMap vals).length = l.length * sz
  | [] => by simp
  | x :: l => by rw [List.flatMap_cons, List.length_append, hv, flat_length hv l, List.length_cons, Nat.add_mul]; omega
theorem flat_get (hv : ∀ x, (vals x).length = sz) : ∀ (l : List α) (i j : Nat) (x : α), l[i]? = some x → j < sz → (l.flatMap vals)[i * sz + j]? = (vals x)[j]?
  | [], i, j, x, h, _ => by simp at h
  | y :: l, 0, j, x, h, hj => by
    simp only [List.getElem?_cons_zero, Option.some.injEq] at h
    subst h
    rw [List.flatMap_cons, List.getElem?_append_left (by rw [hv]; omega), Nat.zero_mul, Nat.zero_add]
  | y :: l, i + 1, j, x, h, hj => by
    rw [List.getElem?_cons_succ] at h
    rw [List.flatMap_cons, List.getElem?_append_right (by rw [hv, Nat.add_mul]; omega), hv, show (i + 1) * sz + j - sz = i * sz + j by rw [Nat.add_mul]; omega]
    exact flat_get hv l i j x h hj
theorem setMany_app (xs ys vs : List Value) (i : Nat) (h : xs.length ≤ i) : setMany (xs ++ ys) i vs = xs ++ setMany ys (i - xs.length) vs := by
  apply List.ext_getElem?
  intro j
  simp only [setMany_get, List.getElem?_append, List.length_append]
  grind
theorem setMany_left (xs ys vs : List Value) (i : Nat) (h : i + vs.length ≤ xs.length) : setMany (xs ++ ys) i vs = setMany xs i vs ++ ys := by
  apply List.ext_getElem?
  intro j
  simp only [setMany_get, List.getElem?_append, List.length_append, setMany_length]
  grind
/-- Some cells of one element are written. -/
theorem flat_set (hv : ∀ x, (vals x).length = sz) : ∀ (l : List α) (i o : Nat) (vs : List Value) (x y : α), l[i]? = some x → vals y = setMany (vals x) o vs → o + vs.length ≤ sz → setMany (l.flatMap vals) (i * sz + o) vs = (l.set i y).flatMap vals
  | [], i, o, vs, x, y, h, _, _ => by simp at h
  | z :: l, 0, o, vs, x, y, h, he, ho => by
    simp only [List.getElem?_cons_zero, Option.some.injEq] at h
    subst h
    rw [List.flatMap_cons, Nat.zero_mul, Nat.zero_add, setMany_left _ _ _ _ (by rw [hv]; exact ho), List.set_cons_zero, List.flatMap_cons, he]
  | z :: l, i + 1, o, vs, x, y, h, he, ho => by
    rw [List.getElem?_cons_succ] at h
    have hz := hv z
    rw [List.flatMap_cons, setMany_app _ _ _ _ (by rw [hz, Nat.add_mul]; omega), hz, show (i + 1) * sz + o - sz = i * sz + o by rw [Nat.add_mul]; omega, flat_set hv l i o vs x y h he ho, List.set_cons_succ, List.flatMap_cons]
variable [Inhabited α]
/-- Element i of a row. -/
def nth (l : List α) (i : Nat) : α := l.getD i default
theorem nth_get {l : List α} {i : Nat} (h : i < l.length) : l[i]? = some (nth l i) := by
  rw [List.getElem?_eq_getElem h, nth, List.getD_eq_getElem?_getD, List.getElem?_eq_getElem h]; rfl
/-- A slice that reads as a row of structs. -/
def Rw (vals : α → List Value) (sz : Nat) (w : World) (M : List Nat) (a : Option Addr) (l : List α) : Prop := Sl w M a sz l.length fun i => vals (nth l i)
theorem Rw.later {w w' : World} {M : List Nat} {As : List HA} {a : Option Addr} {l : List α} (h : Rw vals sz w M a l) (hs : HS w M As w') : Rw vals sz w' [] a l := Sl.later h hs fun _ _ _ => by simp
theorem Rw.rd {w : World} {M : List Nat} {a : Option Addr} {l : List α} (h : Rw vals sz w M a l) {i : Nat} (hi : i < l.length) : ∀ j v, (vals (nth l i))[j]? = some v → Rd w M (ab a) (ao a + i * sz + j) v := fun _ _ hv => Sl.rd h hi hv
theorem Rw.some {w : World} {M : List Nat} {a : Option Addr} {l : List α} (h : Rw vals sz w M a l) (hn : 0 < l.length) : a = .some ⟨ab a, ao a, none⟩ := Sl.some h hn
theorem Rw.src (hv : ∀ x, (vals x).length = sz) {w0 w : World} {M : List Nat} {As : List HA} {a : Option Addr} {l : List α} (h : Rw vals sz w0 M a l) (hw : HS w0 M As w) : Src a (l.flatMap vals) w := fun hne => by
  have hn : 0 < l.length := by
    rcases l with _ | ⟨x, l⟩
    · simp at hne
    · simp
  have hsz : 0 < sz := by
    rcases Nat.eq_zero_or_pos sz with e | e
    · have := flat_length hv l
      rw [e, Nat.mul_zero] at this
      exact absurd (List.eq_nil_of_length_eq_zero this) hne
    · exact e
  refine ⟨ab a, ao a, h.some hn, fun j u hu => ?_⟩
  have hj : j < l.length * sz := by
    rcases Nat.lt_or_ge j (l.flatMap vals).length with h | h
    · rwa [flat_length hv] at h
    · rw [List.getElem?_eq_none h] at hu; cases hu
  have hi : j / sz < l.length := Nat.div_lt_of_lt_mul (by rw [Nat.mul_comm]; exact hj)
  have e : j = j / sz * sz + j % sz := by rw [Nat.mul_comm]; exact (Nat.div_add_mod j sz).symm
  have hm := Nat.mod_lt j hsz
  have hg := flat_get hv l (j / sz) (j % sz) _ (nth_get hi) hm
  rw [← e] at hg
  have := hw.rd (h.rd hi (j % sz) u (by rw [← hg]; exact hu))
  rwa [Nat.add_assoc, ← e] at this
theorem Rd.mono {w : World} {M M' : List Nat} {b o : Nat} {v : Value} (h : Rd w M b o v) (hM : ∀ b ∈ M', b ∈ M) : Rd w M' b o v := ⟨h.1, fun hb => h.2.1 (hM b hb), h.2.2⟩
theorem Rw.mono {w : World} {M M' : List Nat} {a : Option Addr} {l : List α} (h : Rw vals sz w M a l) (hM : ∀ b ∈ M', b ∈ M) : Rw vals sz w M' a l :=
  ⟨fun hn => by
    obtain ⟨b, o, rfl, h2⟩ := h.at_ hn
    exact ⟨b, o, rfl, fun i hi => ⟨(h2 i hi).1, fun j v hv => ((h2 i hi).2 j v hv).mono hM⟩⟩⟩
variable {w0 w : World} {M : List Nat} {As As' : List HA}
theorem rw_cell (hv : ∀ x, (vals x).length = sz) (l : List α) : ∀ i, i < l.length → (vals (nth l i)).length = sz ∧ ∀ j v, (vals (nth l i))[j]? = some v → (l.flatMap vals)[i * sz + j]? = some v := fun i hi => ⟨hv _, fun j v hj => by
  have hlt : j < sz := by
    rcases Nat.lt_or_ge j (vals (nth l i)).length with h | h
    · rwa [hv] at h
    · rw [List.getElem?_eq_none h] at hj; cases hj
  rw [flat_get hv l i j _ (nth_get hi) hlt]; exact hj⟩
theorem HS.rw_own (hv : ∀ x, (vals x).length = sz) {a : Option Addr} {cap n t : Nat} {l : List α} (h : HS w0 M As w) (hp : Pick As (.own (.slice a n cap) t sz n (l.flatMap vals)) As') (hn : n = l.length) : Rw vals sz w [] a l := by
  subst hn
  exact h.sl_own hp rfl (rw_cell hv l)
theorem Rw.none {w : World} {M : List Nat} {l : List α} (h : Rw vals sz w M Option.none l) : l = [] := by
  rcases l with _ | ⟨x, l⟩
  · rfl
  · exact absurd (h.some (by simp)) (by simp)
/-- A row whose elements own something. -/
def HA.row (t sz : Nat) (vals : α → List Value) (sub : α → HA) (a : Option Addr) (cap : Nat) (l : List α) : HA := .star (.own (.slice a l.length cap) t sz l.length (l.flatMap vals) :: l.map sub)
variable {t cap : Nat} {sub : α → HA} {a : Option Addr} {l : List α}
def others (l : List α) (i : Nat) : List α := l.take i ++ l.drop (i + 1)
def insAt (l : List α) (i : Nat) (x : α) : List α := l.take i ++ x :: l.drop i
end
end Gx

/- Maps that are sets: of keys of one kind, each with true. Nothing of a program is named here. -/
namespace Gx
set_option linter.unusedSimpArgs false
set_option linter.unusedVariables false
set_option linter.unusedSectionVars false
open Go Go.RowKit

/-- Keys that are held against each other by themselves. -/
structure KeyK (P : Program) (kt : TypeId) {α : Type} (K : α → Value) : Prop where
  und : ∃ d, P.underlying kt = some d ∧ (∀ a b, (Instr.sameNow d (K a) (K b) = some true ↔ a = b) ∧ (Instr.sameNow d (K a) (K b) = some false ↔ a ≠ b))
  chk : ∀ a e w, (Instr.checkKey e 10000 kt (K a)).run P w = .ok () w
  bits : ∀ a, Instr.sameBits 10000 (K a) (K a) = true
theorem bs_beq (a b : List UInt8) : (bs a == bs b) = decide (a = b) := by
  rw [beq_toListBytes, ByteArray.toList_eq, ByteArray.toList_eq]
  show (a == b) = _
  by_cases e : a = b
  · simp [e]
  · rw [decide_eq_false e]
    exact beq_eq_false_iff_ne.2 e
theorem key_str {P : Program} {kt : TypeId} (h : P.underlying kt = some .string) : KeyK P kt (fun l : List UInt8 => Value.string (bs l)) := by
  refine ⟨⟨_, h, fun a b => ?_⟩, fun a e w => ?_, fun a => ?_⟩
  · have := bs_beq a b
    simp [Instr.sameNow, this]
  · rw [show (10000 : Nat) = 9999 + 1 by rfl, Instr.checkKey]
    simp [run_underlying h]
  · have := bs_beq a a
    show Instr.sameBits (9999 + 1) (.string (bs a)) (.string (bs a)) = true
    simp [Instr.sameBits, this]
def setO (w : World) (r : Nat) (o : Obj) : World := { w with heap := w.heap.setIfInBounds r o }
theorem getObj_run {P : Program} {w : World} {r : Nat} {es : Array MapEntry} {clock : Nat} (h : w.heap[r]? = some (.map es clock)) : (getObj r).run P w = .ok (.map es clock) w := by simp [getObj, Sem.run, h]
theorem setObj_run {P : Program} {w : World} {r : Nat} {es : Array MapEntry} {clock : Nat} (o : Obj) (h : w.heap[r]? = some (.map es clock)) : (setObj r o).run P w = .ok () (setO w r o) := by simp [setObj, Sem.run, h, setO]
section
variable {α : Type} {K : α → Value}
def MpOk (r : Nat) (K : α → Value) (ks : List α) (w : World) : Prop := ∃ es clock, w.heap[r]? = some (.map es clock) ∧ es.toList.map (fun e => (e.key, e.val)) = ks.map fun a => (K a, Value.bool true)
def HA.mp (r : Nat) (K : α → Value) (ks : List α) : HA := ⟨[r], MpOk r K ks, fun w w' h ha => by
  obtain ⟨es, clock, h1, h2⟩ := ha
  exact ⟨es, clock, (h r (List.mem_singleton.2 rfl)).trans h1, h2⟩⟩
theorem HA.fp_mp (r : Nat) (ks : List α) : (HA.mp r K ks).fp = [r] := rfl
theorem findNow_keys {d : TypeDesc} (hd : ∀ a b, (Instr.sameNow d (K a) (K b) = some true ↔ a = b) ∧ (Instr.sameNow d (K a) (K b) = some false ↔ a ≠ b)) (a : α) : ∀ (es : List MapEntry) (ks : List α) (i : Nat), es.map (fun e => (e.key, e.val)) = ks.map (fun a => (K a, Value.bool true)) →
    (a ∉ ks ∧ Instr.findNow d (K a) es i = some none) ∨ (a ∈ ks ∧ ∃ j, es[j]? ≠ none ∧ ks[j]? = some a ∧ Instr.findNow d (K a) es i = some (some (i + j, .bool true)))
  | [], [], i, _ => .inl ⟨by simp, rfl⟩
  | [], _ :: _, i, h => by cases h
  | _ :: _, [], i, h => by cases h
  | e :: es, k :: ks, i, h => by
    simp only [List.map_cons, List.cons.injEq, Prod.mk.injEq] at h
    obtain ⟨⟨hk, hv⟩, hr⟩ := h
    by_cases e1 : a = k
    · subst e1
      refine .inr ⟨List.mem_cons_self .., 0, by simp, rfl, ?_⟩
      rw [Instr.findNow, hk, (hd a a).1.2 rfl, hv]
      rfl
    · have h1 := (hd a k).2.2 e1
      rcases findNow_keys hd a es ks (i + 1) hr with ⟨h2, h3⟩ | ⟨h2, j, h4, h6, h5⟩
      · refine .inl ⟨by simp [e1, h2], ?_⟩
        rw [Instr.findNow, hk, h1]
        exact h3
      · refine .inr ⟨List.mem_cons_of_mem _ h2, j + 1, by simpa using h4, by simpa using h6, ?_⟩
        rw [Instr.findNow, hk, h1]
        simp only []
        rw [h5]
        congr 3
        omega
variable {P : Program} {o : Oper} {L : Slots} {w0 : World} {M : List Nat} {As As' : List HA}
theorem h_makeMap {t : TypeId} (ho : o.op = .makeMap t none) (K : α → Value) : OpH P o L (HS w0 M As) (fun r : Nat => .map (some r)) (fun _ => True) (fun r => HS w0 M (.mp r K [] :: As)) := by
  intro ρ w hρ hw
  simp only [execOp, ho, Option.map_none, run_makeMap, Sem.run_bind, Result.andThen_ok, Sem.run_pure]
  exact ⟨w.heap.size, rfl, trivial, hw.alloc (.map #[] 0) (.mp w.heap.size K []) rfl ⟨#[], 0, heap_alloc_new w _, rfl⟩⟩
def tzv (P : Program) (t : TypeId) : Option Value := (P.info? t).bind (·.zero)
open Classical in
theorem q_lookup {t kt et r : Nat} {m x : Operand} {ks : List α} {a : α} (ho : o.op = .lookup t m x false) (hm : ev L m = some (.map (some r))) (hx : ev L x = some (K a)) (ht : P.underlying t = some (.map kt et)) (hz : tzv P et = some (.bool false)) (hK : KeyK P kt K) (hp : Pick As (.mp r K ks) As') : OpQ P o L (HS w0 M As) (.bool (decide (a ∈ ks))) := by
  intro ρ w hρ hw
  obtain ⟨es, clock, h1, h2⟩ := (hw.pick hp).head
  obtain ⟨d, hd, hs⟩ := hK.und
  have hzr : (zeroValue et).run P w = .ok (.bool false) w := by
    unfold tzv at hz
    cases hi : P.info? et with
    | none => rw [hi] at hz; cases hz
    | some inf =>
      rw [hi] at hz
      have hz' : inf.zero = some (.bool false) := hz
      simp [zeroValue, typeInfo, hi, hz']
  have hl : (Instr.lookup t (.map (some r)) (K a) false).run P w = .ok (.bool (decide (a ∈ ks))) w := by
    unfold Instr.lookup
    rcases findNow_keys hs a es.toList ks 0 h2 with ⟨h3, h4⟩ | ⟨h3, j, _, _, h4⟩
    · simp [run_underlying ht, getObj_run h1, hK.chk, Instr.findKey, run_underlying hd, h4, hzr, h3]
    · simp [run_underlying ht, getObj_run h1, hK.chk, Instr.findKey, run_underlying hd, h4, h3]
  simp only [execOp, ho, hρ _ _ hm, hρ _ _ hx, Sem.run_bind, hl, Result.andThen_ok, Sem.run_pure]
  exact ⟨rfl, Below.refl _ _⟩
open Classical in
noncomputable def insK' (ks : List α) (a : α) : List α := if a ∈ ks then ks else ks ++ [a]
theorem h_mapUpdate {t kt et r : Nat} {m x y : Operand} {ks : List α} {a : α} (ho : o.op = .mapUpdate t m x y ∨ o.op = .insert t m x y) (hm : ev L m = some (.map (some r))) (hx : ev L x = some (K a)) (hy : ev L y = some (.bool true)) (ht : P.underlying t = some (.map kt et)) (hK : KeyK P kt K) (hp : Put As (.mp r K ks) (.mp r K (insK' ks a)) As') :
    OpH P o L (HS w0 M As) (fun _ : Unit => undef) (fun _ => True) (fun _ => HS w0 M As') := by
  intro ρ w hρ hw
  obtain ⟨Rs, hp1, hp2⟩ := hp.ex
  have hpk := hw.pick hp1
  obtain ⟨es, clock, h1, h2⟩ := hpk.head
  obtain ⟨d, hd, hs⟩ := hK.und
  have hl : ∃ (es' : Array MapEntry) (clock' : Nat), (Instr.mapUpdate t (.map (some r)) (K a) (.bool true)).run P w = .ok () (setO w r (.map es' clock')) ∧ es'.toList.map (fun e => (e.key, e.val)) = (insK' ks a).map fun a => (K a, Value.bool true) := by
    unfold Instr.mapUpdate
    rcases findNow_keys hs a es.toList ks 0 h2 with ⟨h3, h4⟩ | ⟨h3, j, h5, h6, h4⟩
    · refine ⟨es.push { key := K a, val := .bool true, born := clock }, clock + 1, ?_, ?_⟩
      · simp [run_underlying ht, getObj_run h1, setObj_run _ h1, hK.chk, Instr.findKey, run_underlying hd, h4]
      · rw [insK', if_neg h3]
        simp [h2]
    · rw [Nat.zero_add] at h4
      have hj : (es[j]?).map (·.key) = some (K a) := by
        have := congrArg (fun l : List (Value × Value) => (l[j]?).map (·.1)) h2
        simp only [List.getElem?_map, h6, Option.map_some, Option.map_map] at this
        rw [← Array.getElem?_toList]
        exact this
      refine ⟨es.modify j fun e => { e with key := K a, val := .bool true }, clock, ?_, ?_⟩
      · simp [run_underlying ht, getObj_run h1, setObj_run _ h1, hK.chk, Instr.findKey, run_underlying hd, h4, hj, Instr.keyThatStays, hK.bits]
      · rw [insK', if_pos h3, ← h2]
        apply List.ext_getElem?
        intro i
        simp only [List.getElem?_map, Array.getElem?_toList, Array.getElem?_modify]
        by_cases e : j = i
        · subst e
          rw [if_pos rfl]
          have h7 := congrArg (fun l : List (Value × Value) => l[j]?) h2
          simp only [List.getElem?_map, h6, Option.map_some, Array.getElem?_toList] at h7
          cases hq : es[j]? with
          | none => rw [hq] at h7; cases h7
          | some e => rw [hq] at h7; simpa using h7.symm
        · rw [if_neg e]
  obtain ⟨es', clock', hr, he⟩ := hl
  have hex : (execOp ρ o).run P w = .ok (.value undef) (setO w r (.map es' clock')) ∨ (execOp ρ o).run P w = .ok .skip (setO w r (.map es' clock')) := by
    rcases ho with ho | ho <;> simp [execOp, ho, hρ _ _ hm, hρ _ _ hx, hρ _ _ hy, hr]
  have hc : HS w0 M As' (setO w r (.map es' clock')) := (HS.swap hpk (w' := setO w r (.map es' clock')) (B := .mp r K (insK' ks a)) (fun _ h => h) rfl rfl rfl (by simp [setO]) (fun b hb => by
    have hb' : b ≠ r := by simpa [HA.fp_mp] using hb
    simp [setO, Array.getElem?_setIfInBounds, Ne.symm hb']) ⟨es', clock', by
      have hlt : r < w.heap.size := by
        rcases Nat.lt_or_ge r w.heap.size with h | h
        · exact h
        · rw [Array.getElem?_eq_none h] at h1; cases h1
      simp [setO, Array.getElem?_setIfInBounds, hlt], he⟩).perm hp2
  rcases hex with hex | hex <;> rw [hex] <;> exact ⟨(), rfl, trivial, hc⟩
/-- A set that was there before. -/
def MpR (w : World) (M : List Nat) (r : Nat) (K : α → Value) (ks : List α) : Prop := r < w.heap.size ∧ r ∉ M ∧ MpOk r K ks w
theorem MpR.later {w w' : World} {M : List Nat} {r : Nat} {ks : List α} (h : MpR w M r K ks) (hs : HS w M As w') : MpR w' [] r K ks := by
  obtain ⟨h1, h2, es, clock, h3, h4⟩ := h
  exact ⟨Nat.lt_of_lt_of_le h1 hs.size, by simp, es, clock, (hs.old r h1 h2).trans h3, h4⟩
theorem HS.mpr {w0 w : World} {M : List Nat} {r : Nat} {ks : List α} (h : HS w0 M As w) (hp : Pick As (.mp r K ks) As') : MpR w [] r K ks := by
  obtain ⟨es, clock, h1, h2⟩ := (h.pick hp).head
  refine ⟨?_, by simp, es, clock, h1, h2⟩
  rcases Nat.lt_or_ge r w.heap.size with h | h
  · exact h
  · rw [Array.getElem?_eq_none h] at h1; cases h1
open Classical in
theorem q_lookup_old {t kt et r : Nat} {m x : Operand} {ks : List α} {a : α} (ho : o.op = .lookup t m x false) (hm : ev L m = some (.map (some r))) (hx : ev L x = some (K a)) (ht : P.underlying t = some (.map kt et)) (hz : tzv P et = some (.bool false)) (hK : KeyK P kt K) (hr : MpR w0 M r K ks) : OpQ P o L (HS w0 M As) (.bool (decide (a ∈ ks))) := by
  intro ρ w hρ hw
  obtain ⟨h1, h2, es, clock, h3, h4⟩ := hr
  have hb : w.heap[r]? = some (.map es clock) := (hw.old r h1 h2).trans h3
  have hlt : r < w.heap.size := Nat.lt_of_lt_of_le h1 hw.size
  have hq : HS w [r] [.mp r K ks] w := by
    refine HS.enter (fun A hA => ?_) (fun A hA b hb' => ?_) (.cons (fun _ h => (by cases h)) .nil)
    · rw [List.mem_singleton.1 hA]
      exact ⟨es, clock, hb, h4⟩
    · rw [List.mem_singleton.1 hA] at hb'
      have e : b = r := by simpa [HA.fp_mp] using hb'
      rw [e]
      exact ⟨hlt, List.mem_singleton.2 rfl⟩
  exact q_lookup ho hm hx ht hz hK (w0 := w) (M := [r]) (As := [.mp r K ks]) .here ρ w hρ hq
end
end Gx

/- Plain data: what small helpers compute. -/
namespace Gx
open Go Go.RowKit
/-- The first number that is not zero, or zero. -/
def firstI : List Int → Int
  | [] => 0
  | e :: r => if e = 0 then firstI r else e
theorem firstI_drop {es : List Int} {k : Nat} (h : k < es.length) : firstI (es.drop k) = if es.getD k 0 = 0 then firstI (es.drop (k + 1)) else es.getD k 0 := by
  rw [List.drop_eq_getElem_cons h, firstI, List.getD_eq_getElem?_getD, List.getElem?_eq_getElem h]
  rfl
theorem firstI_end {es : List Int} {k : Nat} (h : es.length ≤ k) : firstI (es.drop k) = 0 := by
  rw [List.drop_eq_nil_of_le h]; rfl
def isI64 : Value → Bool
  | .int .i64 _ => true
  | _ => false
def firstV : List Value → Int
  | .int _ n :: r => if n = 0 then firstV r else n
  | _ => 0
theorem firstV_eq : ∀ {cs : List Value}, cs.all isI64 = true → firstI (cs.map intOf) = firstV cs
  | [], _ => rfl
  | v :: cs, h => by
    simp only [List.all_cons, Bool.and_eq_true] at h
    cases v with
    | int k n =>
      simp only [List.map_cons, firstI, firstV, intOf, firstV_eq h.2]
    | _ => cases h.1
theorem isI64_getD {cs : List Value} (h : cs.all isI64 = true) {i : Nat} (hi : i < cs.length) : cs[i]? = some (.int .i64 ((cs.map intOf).getD i 0)) := by
  have h1 := List.all_eq_true.1 h cs[i] (List.getElem_mem hi)
  rw [List.getElem?_eq_getElem hi]
  simp only [List.getD_eq_getElem?_getD, List.getElem?_map, List.getElem?_eq_getElem hi, Option.map_some, Option.getD_some]
  cases hc : cs[i] with
  | int k n => rw [hc] at h1; cases k <;> first | rfl | cases h1
  | _ => rw [hc] at h1; cases h1
/-- A row of numbers of the caller's, for a callee. -/
theorem HS.sl_ints {w0 w : World} {M : List Nat} {As As' : List HA} {b : Nat} {t : TypeId} {tot : Nat} {cs : List Value} (h : HS w0 M As w) (hp : Pick As (.blk b t tot cs) As') (hc : cs.all isI64 = true) : Sl w [] (some ⟨b, 0, none⟩) 1 cs.length (fun i => [.int .i64 ((cs.map intOf).getD i 0)]) :=
  h.sl_blk hp fun i hi => ⟨rfl, fun j v hv => by
    have hj : j = 0 := by
      rcases j with _ | j
      · rfl
      · simp at hv
    subst hj
    simp only [List.getElem?_cons_zero, Option.some.injEq] at hv
    subst hv
    rw [Nat.mul_one, Nat.add_zero]
    exact isI64_getD hc hi⟩
end Gx

/- Plain numbers: words of 16 bits, bytes, digits of two. -/
namespace Gx
set_option linter.unusedSimpArgs false
set_option linter.unusedVariables false
open Go Go.RowKit
theorem wrap_u8 (n : Nat) (h : n < 256) : IntKind.u8.wrap (n : Int) = n := by
  simp only [IntKind.wrap, IntKind.signed, IntKind.bits]
  simp
  omega
/-- A word rotated to the left. -/
def rotl (x : UInt16) (k : Nat) : UInt16 := UInt16.ofNat (x.toNat * 2 ^ k % 65536 + x.toNat / 2 ^ (16 - k))
/-- The quarter of four words. -/
structure Q4 where
  a : UInt16
  b : UInt16
  c : UInt16
  d : UInt16
  deriving DecidableEq
def half (q : Q4) (l r : Nat) : Q4 :=
  let a := q.a + q.b
  let d := rotl (q.d ^^^ a) l
  let c := q.c + d
  let b := rotl (q.b ^^^ c) r
  ⟨a, b, c, d⟩
def quarter4 (q : Q4) : Q4 := half (half q 8 6) 4 3
end Gx
namespace Gx
open Go Go.RowKit
/-- A word as it lies in memory. -/
def wv (x : UInt16) : Value := .int .u16 (x.toNat : Int)
/-- Four words written at their places. -/
def setQ (cs : List Value) (oa ob oc od : Nat) (q : Q4) : List Value := (((cs.set oa (wv q.a)).set od (wv q.d)).set oc (wv q.c)).set ob (wv q.b)
section
variable {cs : List Value} {oa ob oc od : Nat} {q : Q4}
end
/-- A number as a word. -/
def wd (n : Int) : UInt16 := UInt16.ofNat n.toNat
def isWd (n : Int) : Prop := 0 ≤ n ∧ n ≤ 65535
instance (n : Int) : Decidable (isWd n) := by unfold isWd; infer_instance
/-- What the program's QuarterOf answers. -/
def qof (n0 n1 n2 n3 : Int) : Value :=
  if isWd n0 ∧ isWd n1 ∧ isWd n2 ∧ isWd n3 then
    let q := quarter4 ⟨wd n0, wd n1, wd n2, wd n3⟩
    .tuple #[.agg #[.int .i64 (q.a.toNat : Int), .int .i64 (q.b.toNat : Int), .int .i64 (q.c.toNat : Int), .int .i64 (q.d.toNat : Int)], .int .i64 0]
  else .tuple #[.agg #[.int .i64 0, .int .i64 0, .int .i64 0, .int .i64 0], .int .i64 2]
end Gx

/- Chapter 7's plain data: states, blocks of the key stream, encrypted bytes. -/
namespace Gx
open Go Go.RowKit
/-- A byte as it lies in memory. -/
def bv (b : UInt8) : Value := .int .u8 (b.toNat : Int)
theorem vByte_bv (l : List UInt8) : (l.map bv).map vByte = l := by
  rw [List.map_map]
  refine (List.map_congr_left (g := id) fun b _ => ?_).trans (List.map_id _)
  simp [bv, vByte, intOf]
theorem isU8_bv (l : List UInt8) : ∀ v ∈ l.map bv, isU8 v = true := by
  intro v hv
  obtain ⟨b, _, rfl⟩ := List.mem_map.1 hv
  rfl
def w2 (a b : UInt8) : UInt16 := UInt16.ofNat (a.toNat + 256 * b.toNat)
/-- The words of a key, the state, a round, a block. -/
def kw (key : List UInt8) (i : Nat) : UInt16 := w2 (key.getD (2 * i) 0) (key.getD (2 * i + 1) 0)
def stateL (key : List UInt8) (n c : UInt16) : List UInt16 := [0x6564, 0x6f70, kw key 0, kw key 1, kw key 2, kw key 3, n, c]
def turn (s : List UInt16) (i j k l : Nat) : List UInt16 :=
  let q := quarter4 ⟨s.getD i 0, s.getD j 0, s.getD k 0, s.getD l 0⟩
  (((s.set i q.a).set l q.d).set k q.c).set j q.b
def roundL (s : List UInt16) : List UInt16 := turn (turn (turn (turn s 0 2 4 6) 1 3 5 7) 0 3 4 7) 1 2 5 6
def roundN (s : List UInt16) : Nat → List UInt16
  | 0 => s
  | k + 1 => roundL (roundN s k)
def lo (x : UInt16) : UInt8 := UInt8.ofNat x.toNat
def hi (x : UInt16) : UInt8 := UInt8.ofNat (x.toNat / 256)
def wb (ws : List UInt16) : Nat → List UInt8
  | 0 => []
  | k + 1 => wb ws k ++ [lo (ws.getD k 0), hi (ws.getD k 0)]
def addL (a b : List UInt16) : List UInt16 := (List.range 8).map fun i => a.getD i 0 + b.getD i 0
/-- The block for a key, a nonce and a counter. -/
def blockB (key : List UInt8) (n c : UInt16) : List UInt8 := wb (addL (roundN (stateL key n c) 6) (stateL key n c)) 8
/-- The key stream. -/
def ks (key : List UInt8) (n : UInt16) (p : Nat) : UInt8 := (blockB key n (UInt16.ofNat (p / 16))).getD (p % 16) 0
/-- Bytes encrypted from an offset on. -/
def cryptL (key : List UInt8) (n : UInt16) : Nat → List UInt8 → List UInt8
  | _, [] => []
  | at', b :: l => (b ^^^ ks key n at') :: cryptL key n (at' + 1) l
/-- The bytes when k of them are encrypted. -/
def cryptK (key : List UInt8) (n : UInt16) (at' : Nat) (l : List UInt8) (k : Nat) : List UInt8 := cryptL key n at' (l.take k) ++ l.drop k
/-- The check of a key. -/
def sumK (key : List UInt8) : Nat → Nat
  | 0 => 0
  | k + 1 => sumK key k + (k + 1) * (key.getD k 0).toNat
def checkL (key : List UInt8) : List UInt8 := [UInt8.ofNat (sumK key key.length), UInt8.ofNat (sumK key key.length / 256)]
def wrapL (u : Int) (own key : List UInt8) : List UInt8 := cryptL own (wd u) 0 (key ++ checkL key)
end Gx

/- Plain data, continued: the fields of a file, and what is done with them. -/
namespace Gx
open Go Go.RowKit
theorem Rd.later {w w' : World} {M M' : List Nat} {As : List HA} {b o : Nat} {v : Value} (hr : Rd w M b o v) (hs : HS w M As w') (hM : b ∉ M') : Rd w' M' b o v :=
  ⟨Nat.lt_of_lt_of_le hr.1 hs.size, hM, hs.rd hr⟩
/-- Fields: a user and a wrapped key each. -/
abbrev Fds := List (Int × List UInt8)
def fldC (p : Int × List UInt8) : List Value := [.int .i64 p.1, .string (bs p.2)]
def fd (fs : Fds) (i : Nat) : Int × List UInt8 := fs.getD i (0, [])
def Fl (w : World) (a : Option Addr) (fs : Fds) : Prop := Sl w [] a 2 fs.length (fun i => fldC (fd fs i))
theorem Fl.later {w w' : World} {As : List HA} {a : Option Addr} {fs : Fds} (h : Fl w a fs) (hs : HS w [] As w') : Fl w' a fs := Sl.later h hs fun _ _ h => h
theorem Fl.rd {w : World} {a : Option Addr} {fs : Fds} (h : Fl w a fs) {i : Nat} (hi : i < fs.length) : ∀ j v, (fldC (fd fs i))[j]? = some v → Rd w [] (ab a) (ao a + i * 2 + j) v := fun _ _ hv => Sl.rd h hi hv
/-- The first number that is not 0, with its place. -/
def eachL : List Int → Nat → Int × Int
  | [], _ => (0, 0)
  | e :: es, k => if e = 0 then eachL es (k + 1) else ((k : Int), e)
def fieldE (k : Nat) (prev u : Int) (len : Nat) : Int := if 10 ≤ u ∧ u ≤ 999 then if k = 0 ∨ prev < u then if len = 10 then 0 else 10 else 9 else 2
def fdE (fs : Fds) (k : Nat) : Int := fieldE k (fd fs (k - 1)).1 (fd fs k).1 (fd fs k).2.length
def fdEs (fs : Fds) : List Int := (List.range fs.length).map (fdE fs)
def chkF (fs : Fds) : Int × Int := if fs.length = 0 then (0, 17) else if fs.length ≤ 8 then eachL (fdEs fs) 0 else (0, 8)
/-- Fields without an error. -/
structure FOk (fs : Fds) : Prop where
  pos : 0 < fs.length
  le : fs.length ≤ 8
  user : ∀ i, i < fs.length → 10 ≤ (fd fs i).1 ∧ (fd fs i).1 ≤ 999
  len : ∀ i, i < fs.length → (fd fs i).2.length = 10
  lt : ∀ i j, i < j → j < fs.length → (fd fs i).1 < (fd fs j).1
/-- Where a user stands or would stand. -/
def lbF : Fds → Int → Nat
  | [], _ => 0
  | p :: fs, u => if p.1 < u then lbF fs u + 1 else 0
theorem lbF_eq : ∀ {fs : Fds} {u : Int} {k : Nat}, k ≤ fs.length → (∀ i, i < k → (fd fs i).1 < u) → (k < fs.length → u ≤ (fd fs k).1) → lbF fs u = k
  | [], _, k, h, _, _ => by simp at h; subst h; rfl
  | p :: fs, u, 0, _, _, h3 => by
    have : u ≤ p.1 := h3 (by simp)
    rw [lbF, if_neg (by omega)]
  | p :: fs, u, k + 1, h1, h2, h3 => by
    have h0 : p.1 < u := h2 0 (by omega)
    rw [lbF, if_pos h0, lbF_eq (k := k) (by simpa using h1) (fun i hi => h2 (i + 1) (by omega)) (fun hk => h3 (by simpa using hk))]
def hasF (fs : Fds) (u : Int) : Bool := decide (lbF fs u < fs.length) && decide ((fd fs (lbF fs u)).1 = u)
def atF (fs : Fds) (u : Int) : Value := .tuple #[.int .i64 (lbF fs u : Int), .bool (hasF fs u)]
/-- The bounds of a binary search. -/
structure Bs (fs : Fds) (u : Int) (lo hi : Nat) : Prop where
  le : lo ≤ hi
  top : hi ≤ fs.length
  below : ∀ i, i < lo → (fd fs i).1 < u
  above : ∀ i, hi ≤ i → i < fs.length → u ≤ (fd fs i).1
theorem Bs.up {fs : Fds} {u : Int} {lo hi : Nat} (ok : FOk fs) (h : Bs fs u lo hi) (hl : lo < hi) (hx : (fd fs ((lo + hi) / 2)).1 - u < 0) : Bs fs u ((lo + hi) / 2 + 1) hi := by
  have h2 := h.top
  refine ⟨by omega, h2, fun i h1 => ?_, h.above⟩
  rcases Nat.lt_or_ge i ((lo + hi) / 2) with h3 | h3
  · have := ok.lt i _ h3 (by omega); omega
  · obtain rfl : i = (lo + hi) / 2 := by omega
    omega
theorem Bs.down {fs : Fds} {u : Int} {lo hi : Nat} (ok : FOk fs) (h : Bs fs u lo hi) (hl : lo < hi) (hx : ¬ (fd fs ((lo + hi) / 2)).1 - u < 0) : Bs fs u lo ((lo + hi) / 2) := by
  have h2 := h.top
  refine ⟨by omega, by omega, h.below, fun i h1 h3 => ?_⟩
  rcases Nat.eq_or_lt_of_le h1 with h4 | h4
  · subst h4; omega
  · have := ok.lt _ i h4 h3; omega
theorem Bs.at {fs : Fds} {u : Int} {lo hi : Nat} (h : Bs fs u lo hi) (hl : ¬ lo < hi) : lo = hi ∧ lbF fs u = lo ∧ lo ≤ fs.length := by
  have h1 := h.le
  obtain rfl : lo = hi := by omega
  exact ⟨rfl, lbF_eq h.top h.below fun hh => h.above lo (Nat.le_refl _) hh, h.top⟩
/-! ## The fields' cells in a row -/
def flatF (fs : Fds) : List Value := fs.flatMap fldC
theorem flatF_length : ∀ fs : Fds, (flatF fs).length = fs.length * 2
  | [] => rfl
  | p :: fs => by rw [flatF, List.flatMap_cons, List.length_append]; have := flatF_length fs; unfold flatF at this; rw [this, List.length_cons]; simp [fldC]; omega
theorem flatF_get : ∀ (fs : Fds) (i j : Nat), i < fs.length → j < 2 → (flatF fs)[i * 2 + j]? = (fldC (fd fs i))[j]?
  | [], i, _, h, _ => absurd h (Nat.not_lt_zero i)
  | p :: fs, 0, j, _, hj => by
    rw [flatF, List.flatMap_cons, Nat.zero_mul, Nat.zero_add, List.getElem?_append_left (by simpa [fldC] using hj)]; rfl
  | p :: fs, i + 1, j, h, hj => by
    have ih := flatF_get fs i j (by simpa using h) hj
    have hl : (fldC p).length = 2 := rfl
    rw [flatF, List.flatMap_cons, List.getElem?_append_right (by rw [hl]; omega), hl, show (i + 1) * 2 + j - 2 = i * 2 + j by omega]
    exact ih
theorem Fl.src {w0 w : World} {As : List HA} {a : Option Addr} {fs : Fds} (h : Fl w0 a fs) (hw : HS w0 [] As w) : Src a (flatF fs) w := by
  intro hne
  have hl := flatF_length fs
  have hpos : 0 < fs.length := by
    rcases Nat.eq_zero_or_pos fs.length with h0 | h0
    · rw [h0] at hl; exact absurd (List.eq_nil_of_length_eq_zero hl) hne
    · exact h0
  refine ⟨ab a, ao a, Sl.some h hpos, fun j u hu => ?_⟩
  have hj : j < fs.length * 2 := by
    rw [← hl]
    exact (List.getElem?_eq_some_iff.1 hu).1
  have e : j / 2 * 2 + j % 2 = j := by omega
  have h1 := flatF_get fs (j / 2) (j % 2) (by omega) (by omega)
  rw [e, hu] at h1
  have h2 := hw.rd (h.rd (i := j / 2) (by omega) (j % 2) u h1.symm)
  rw [show ao a + j / 2 * 2 + j % 2 = ao a + j by omega] at h2
  exact h2
theorem Fl.none {w : World} {fs : Fds} (h : Fl w Option.none fs) : fs = [] := by
  cases fs with
  | nil => rfl
  | cons p fs =>
    obtain ⟨b, o, h1, _⟩ := Sl.at_ h (by simp)
    cases h1
end Gx

/- Rows of one cell an element; numbers as bytes, the least first. -/
namespace Gx
set_option linter.unusedVariables false
open Go Go.RowKit
def Vl (w : World) (a : Option Addr) (vs : List Value) : Prop := Sl w [] a 1 vs.length (fun i => (vs[i]?).toList)
theorem Vl.later {w w' : World} {As : List HA} {a : Option Addr} {vs : List Value} (h : Vl w a vs) (hs : HS w [] As w') : Vl w' a vs := Sl.later h hs fun _ _ h => h
theorem Vl.rd {w : World} {a : Option Addr} {vs : List Value} (h : Vl w a vs) {i : Nat} {v : Value} (hv : vs[i]? = some v) : Rd w [] (ab a) (ao a + i * 1) v := by
  have hi : i < vs.length := (List.getElem?_eq_some_iff.1 hv).1
  exact Sl.rd (j := 0) h hi (by simp [hv])
theorem Vl.some {w : World} {a : Option Addr} {vs : List Value} (h : Vl w a vs) (hn : 0 < vs.length) : a = .some ⟨ab a, ao a, none⟩ := Sl.some h hn
theorem Vl.src {w0 w : World} {As : List HA} {a : Option Addr} {vs : List Value} (h : Vl w0 a vs) (hw : HS w0 [] As w) : Src a vs w := by
  intro hne
  refine ⟨ab a, ao a, h.some (List.length_pos_iff.2 hne), fun j u hu => ?_⟩
  have := hw.rd (h.rd hu)
  rwa [Nat.mul_one] at this
theorem Vl.none {w : World} {vs : List Value} (h : Vl w Option.none vs) : vs = [] := by
  cases vs with
  | nil => rfl
  | cons p vs =>
    obtain ⟨b, o, h1, _⟩ := Sl.at_ h (by simp)
    cases h1
theorem vl_cell {vs : List Value} {i : Nat} (hi : i < vs.length) : ((vs[i]?).toList).length = 1 ∧ ∀ j v, ((vs[i]?).toList)[j]? = some v → vs[i * 1 + j]? = some v := by
  rw [List.getElem?_eq_getElem hi]
  refine ⟨rfl, fun j v hv => ?_⟩
  rcases j with _ | j
  · simp only [Option.toList, List.getElem?_cons_zero, Option.some.injEq] at hv
    subst hv
    rw [Nat.mul_one, Nat.add_zero, List.getElem?_eq_getElem hi]
  · simp [Option.toList] at hv
theorem HS.vl_blk {w0 w : World} {M : List Nat} {As As' : List HA} {b : Nat} {t : TypeId} {tot : Nat} {cs : List Value} (h : HS w0 M As w) (hp : Pick As (.blk b t tot cs) As') : Vl w (some ⟨b, 0, none⟩) cs :=
  h.sl_blk hp fun i hi => vl_cell hi
theorem HS.vl_own {w0 w : World} {M : List Nat} {As As' : List HA} {n : Nat} {t : TypeId} {cs : List Value} {a : Option Addr} {cap : Nat} (h : HS w0 M As w) (hp : Pick As (.own (.slice a n cap) t 1 n cs) As') : Vl w a cs := by
  have hl : cs.length = n := by have := (h.pick hp).head.1; omega
  subst hl
  exact h.sl_own hp rfl fun i hi => vl_cell hi
/-! ## Strings in a row -/
def strV (s : List UInt8) : Value := .string (bs s)
theorem str_get {ss : List (List UInt8)} {i : Nat} (h : i < ss.length) : (ss.map strV)[i]? = some (.string (bs (ss.getD i []))) := by
  simp [List.getD_eq_getElem?_getD, List.getElem?_eq_getElem h, strV]
def fewB (ss : List (List UInt8)) : Bool := ss.all fun s => decide (s.length ≤ 400)
/-! ## Numbers as bytes, the least first -/
def leS : List UInt8 → Nat
  | [] => 0
  | b :: l => b.toNat + 256 * leS l
def leB : Nat → Nat → List UInt8
  | _, 0 => []
  | n, c + 1 => UInt8.ofNat n :: leB (n / 256) c
def divB (n k : Nat) : Nat := n / 256 ^ k
def iv (x : UInt16) : Value := .int .i64 (x.toNat : Int)
/-- One of two, by whether a count is 0. -/
def pk {α : Type} (k : Nat) (x y : α) : α := match k with
  | 0 => x
  | _ + 1 => y
end Gx

/- Plain data, continued: fields looked up, compared. -/
namespace Gx
set_option linter.unusedVariables false
open Go Go.RowKit
/-- The first place of a user; the length if there is none. -/
def idF : Fds → Int → Nat
  | [], _ => 0
  | p :: fs, u => if p.1 = u then 0 else idF fs u + 1
/-- What At answers. -/
def atR (fs : Fds) (u : Int) : Int := if idF fs u < fs.length then (idF fs u : Int) else -1
def likeB (fs : Fds) (len : Nat) : Bool := decide (fs.length ≤ 12) && (decide (len ≤ 400) || (decide (8193 ≤ len) && decide (len ≤ 8200))) && fs.all fun p => decide (p.2.length ≤ 40)
/-- The fields that a row of cells reads as. -/
def fdOf : List Value → Int × List UInt8
  | [.int _ u, .string s] => (u, s.data.toList)
  | _ => (0, [])
/-- The first place of a 'true'; the length if there is none. -/
def ixB : List Bool → Nat
  | [] => 0
  | b :: l => if b = true then 0 else ixB l + 1
theorem ixB_eq : ∀ {l : List Bool} {k : Nat}, k ≤ l.length → (∀ i, i < k → l.getD i false = false) → (k < l.length → l.getD k false = true) → ixB l = k
  | [], k, h, _, _ => by simp at h; subst h; rfl
  | b :: l, 0, _, _, h3 => by
    have : b = true := h3 (by simp)
    rw [ixB, if_pos this]
  | b :: l, k + 1, h1, h2, h3 => by
    have h0 : b = false := h2 0 (by omega)
    rw [ixB, if_neg (by rw [h0]; decide), ixB_eq (k := k) (by simpa using h1) (fun i hi => h2 (i + 1) (by omega)) (fun hk => h3 (by simpa using hk))]
theorem ixB_any : ∀ l : List Bool, l.any id = decide (ixB l < l.length)
  | [] => rfl
  | b :: l => by
    rw [List.any_cons, ixB_any l, ixB]
    cases b <;> simp
def ixI (l : List Bool) : Int := if ixB l < l.length then (ixB l : Int) else -1
theorem ixI_any (l : List Bool) : decide (0 ≤ ixI l) = l.any id := by
  rw [ixB_any]
  unfold ixI
  split
  · rename_i h; simp [h]
  · rename_i h; simp [h]
/-- A binary search in any fields. -/
def bsR (fs : Fds) (u : Int) : Nat → Nat → Nat → Nat
  | 0, lo, _ => lo
  | n + 1, lo, hi => if lo < hi then if IntKind.i64.wrap ((fd fs ((lo + hi) / 2)).1 - u) < 0 then bsR fs u n ((lo + hi) / 2 + 1) hi else bsR fs u n lo ((lo + hi) / 2) else lo
def bsF (fs : Fds) (u : Int) : Nat := bsR fs u fs.length 0 fs.length
def bsB (fs : Fds) (u : Int) : Bool := decide (bsF fs u < fs.length) && decide (IntKind.i64.wrap ((fd fs (bsF fs u)).1 - u) = 0)
end Gx

/- Plain data of chapter 25: tables of handles, as plain data and with the addresses of their rows; which tables are valid. Nothing of a program is named here. -/
namespace Gx
set_option linter.unusedSimpArgs false
set_option linter.unusedVariables false
set_option linter.unusedSectionVars false
open Go Go.RowKit

structure Lock where
  fr : Int
  cnt : Int
  ex : Bool
structure Opn where
  hd : Int
  ac : Int
  sh : Int
  dl : Bool
  lk : List Lock
structure Fil where
  rc : Int
  sq : Int
  pd : Bool
  op : List Opn
/-- With the addresses and capacities of the rows. -/
structure LOpn where
  hd : Int
  ac : Int
  sh : Int
  dl : Bool
  la : Option Addr
  lc : Nat
  lk : List Lock
structure LFil where
  rc : Int
  sq : Int
  pd : Bool
  oa : Option Addr
  oc : Nat
  op : List LOpn
instance : Inhabited Lock := ⟨⟨0, 0, false⟩⟩
instance : Inhabited Opn := ⟨⟨0, 0, 0, false, []⟩⟩
instance : Inhabited Fil := ⟨⟨0, 0, false, []⟩⟩
instance : Inhabited LOpn := ⟨⟨0, 0, 0, false, none, 0, []⟩⟩
instance : Inhabited LFil := ⟨⟨0, 0, false, none, 0, []⟩⟩
def LOpn.pl (o : LOpn) : Opn := ⟨o.hd, o.ac, o.sh, o.dl, o.lk⟩
def LFil.pl (f : LFil) : Fil := ⟨f.rc, f.sq, f.pd, f.op.map LOpn.pl⟩
abbrev pls (l : List LFil) : List Fil := l.map LFil.pl
abbrev plo (l : List LOpn) : List Opn := l.map LOpn.pl
def Lock.vals (k : Lock) : List Value := [.int .i64 k.fr, .int .i64 k.cnt, .bool k.ex]
def LOpn.vals (o : LOpn) : List Value := [.int .i64 o.hd, .int .i64 o.ac, .int .i64 o.sh, .bool o.dl, .slice o.la o.lk.length o.lc]
def LFil.vals (f : LFil) : List Value := [.int .i64 f.rc, .int .i64 f.sq, .bool f.pd, .slice f.oa f.op.length f.oc]
theorem lv3 (k : Lock) : k.vals.length = 3 := rfl
/-! ## What reads as locks, opens, files -/
def Kt (w : World) (M : List Nat) (a : Option Addr) (l : List Lock) : Prop := Rw Lock.vals 3 w M a l
def Ot (w : World) (M : List Nat) (a : Option Addr) (l : List LOpn) : Prop := Rw LOpn.vals 5 w M a l ∧ ∀ o ∈ l, Kt w M o.la o.lk
def Ft (w : World) (M : List Nat) (a : Option Addr) (l : List LFil) : Prop := Rw LFil.vals 4 w M a l ∧ ∀ f ∈ l, Ot w M f.oa f.op ∧ f.op.length ≤ f.oc
section
variable {w w' : World} {M M' : List Nat} {As : List HA} {a : Option Addr}
theorem Kt.later {l : List Lock} (h : Kt w M a l) (hs : HS w M As w') : Kt w' [] a l := Rw.later h hs
theorem Ot.later {l : List LOpn} (h : Ot w M a l) (hs : HS w M As w') : Ot w' [] a l := ⟨Rw.later h.1 hs, fun o ho => (h.2 o ho).later hs⟩
theorem Ft.later {l : List LFil} (h : Ft w M a l) (hs : HS w M As w') : Ft w' [] a l := ⟨Rw.later h.1 hs, fun f hf => ⟨(h.2 f hf).1.later hs, (h.2 f hf).2⟩⟩
theorem Kt.mono {l : List Lock} (h : Kt w M a l) (hM : ∀ b ∈ M', b ∈ M) : Kt w M' a l := Rw.mono h hM
theorem Ot.mono {l : List LOpn} (h : Ot w M a l) (hM : ∀ b ∈ M', b ∈ M) : Ot w M' a l := ⟨Rw.mono h.1 hM, fun o ho => (h.2 o ho).mono hM⟩
theorem Ft.mono {l : List LFil} (h : Ft w M a l) (hM : ∀ b ∈ M', b ∈ M) : Ft w M' a l := ⟨Rw.mono h.1 hM, fun f hf => ⟨(h.2 f hf).1.mono hM, (h.2 f hf).2⟩⟩
theorem mem_nth {α : Type} [Inhabited α] {l : List α} {i : Nat} (h : i < l.length) : nth l i ∈ l := List.mem_of_getElem? (nth_get h)
theorem Ot.at {l : List LOpn} (h : Ot w M a l) {k : Nat} (hk : k < l.length) : Kt w M (nth l k).la (nth l k).lk := h.2 _ (mem_nth hk)
theorem Ft.at {l : List LFil} (h : Ft w M a l) {k : Nat} (hk : k < l.length) : Ot w M (nth l k).oa (nth l k).op := (h.2 _ (mem_nth hk)).1
theorem Ft.cap {l : List LFil} (h : Ft w M a l) {k : Nat} (hk : k < l.length) : (nth l k).op.length ≤ (nth l k).oc := (h.2 _ (mem_nth hk)).2
theorem nth_take {α : Type} [Inhabited α] {l : List α} {i k : Nat} (h : i < k) : nth (l.take k) i = nth l i := by
  simp only [nth, List.getD_eq_getElem?_getD, List.getElem?_take, if_pos h]
theorem Ot.take {l : List LOpn} (h : Ot w M a l) (k : Nat) : Ot w M a (l.take k) := by
  refine ⟨⟨fun hn => ?_⟩, fun o ho => h.2 o (List.mem_of_mem_take ho)⟩
  have hk : (l.take k).length ≤ l.length := by rw [List.length_take]; omega
  obtain ⟨b, o, e, h2⟩ := h.1.at_ (by omega)
  refine ⟨b, o, e, fun i hi => ?_⟩
  rw [nth_take (by rw [List.length_take] at hi; omega)]
  exact h2 i (by omega)
end
/-! ## What owns them -/
def HA.locks (a : Option Addr) (cap : Nat) (l : List Lock) : HA := .own (.slice a l.length cap) 62 3 l.length (l.flatMap Lock.vals)
def HA.opens (a : Option Addr) (cap : Nat) (l : List LOpn) : HA := .row 48 5 LOpn.vals (fun o => .locks o.la o.lc o.lk) a cap l
def HA.files (a : Option Addr) (cap : Nat) (l : List LFil) : HA := .row 77 4 LFil.vals (fun f => .opens f.oa f.oc f.op) a cap l
section
variable {w0 w : World} {M : List Nat} {As As' : List HA} {a : Option Addr} {cap : Nat}
theorem HS.kt {l : List Lock} (h : HS w0 M As w) (hp : Pick As (.locks a cap l) As') : Kt w [] a l := h.rw_own lv3 hp rfl
end
theorem Rd.next {w w' : World} {M : List Nat} {b o : Nat} {v : Value} {As : List HA} (hr : Rd w M b o v) (hs : HS w M As w') : Rd w' [] b o v := hr.later hs (by simp)
/-! ## Errors -/
def refE (rc sq : Int) : Int := if (0 ≤ rc ∧ rc ≤ 95) ∧ 1 ≤ sq ∧ sq ≤ 65535 then 0 else 2
def openE (ac sh : Int) : Int := if (1 ≤ ac ∧ ac ≤ 7) ∧ 0 ≤ sh ∧ sh ≤ 7 then 0 else 2
def rngE (fr cnt : Int) : Int := if (0 ≤ fr ∧ fr ≤ 2147483647) ∧ 1 ≤ cnt ∧ cnt ≤ 2147483647 - fr then 0 else 2
/-- Some access of the one that the other one does not share. -/
def missN (ac sh : Nat) : Bool := decide (ac % 2 = 1 ∧ sh % 2 = 0) || decide (ac / 2 % 2 = 1 ∧ sh / 2 % 2 = 0) || decide (ac / 4 % 2 = 1 ∧ sh / 4 % 2 = 0)
def cfl (a b : Opn) : Bool := missN a.ac.toNat b.sh.toNat || missN b.ac.toNat a.sh.toNat
def ovl (a b : Lock) : Bool := decide (a.fr < b.fr + b.cnt) && decide (b.fr < a.fr + a.cnt)
def clsh (a b : Lock) : Bool := ovl a b && (a.ex || b.ex)
def refLt (a b : Int × Int) : Bool := decide (a.1 < b.1) || decide (a.1 = b.1) && decide (a.2 < b.2)
/-- The first error of items, with its index. -/
def eachF : List Int → Nat → Int × Int
  | [], _ => (0, 0)
  | e :: es, k => if e = 0 then eachF es (k + 1) else ((k : Int), e)
theorem eachF_drop {es : List Int} {k : Nat} (h : k < es.length) : eachF (es.drop k) k = if es.getD k 0 = 0 then eachF (es.drop (k + 1)) (k + 1) else ((k : Int), es.getD k 0) := by
  rw [List.drop_eq_getElem_cons h, eachF, List.getD_eq_getElem?_getD, List.getElem?_eq_getElem h]
  rfl
theorem eachF_end {es : List Int} {k : Nat} (h : es.length ≤ k) : eachF (es.drop k) k = (0, 0) := by rw [List.drop_of_length_le h]; rfl
theorem eachF_0 : ∀ {es : List Int} {k : Nat}, (eachF es k).2 = 0 ↔ ∀ e ∈ es, e = 0
  | [], _ => by simp [eachF]
  | e :: es, k => by
    unfold eachF
    split
    · rename_i h
      rw [eachF_0]
      simp [h]
    · rename_i h
      simp [h]
/-- Which locks of a handle clash with those before. -/
def lockedE : List Lock → List Lock → Int
  | _, [] => 0
  | held, k :: ks => if held.any (clsh · k) then 29 else lockedE (held ++ [k]) ks
def rngsE (l : List Lock) : Int := (eachF (l.map fun k => rngE k.fr k.cnt) 0).2
/-- The error of handle k of a file, beside the numbers that are known. -/
def hdlE (next : Int) (known : List Int) (ops : List Opn) (k : Nat) : Int :=
  let x := nth ops k
  if 1 ≤ x.hd ∧ x.hd ≤ next - 1 then
    if openE x.ac x.sh = 0 then
      if k = 0 ∨ (nth ops (k - 1)).hd < x.hd then
        if x.lk.length ≤ 16 then
          if rngsE x.lk = 0 then
            if x.hd ∈ known then 23
            else if (ops.take k).any (cfl x) then 28
            else lockedE ((ops.take k).flatMap Opn.lk) x.lk
          else rngsE x.lk
        else 8
      else 9
    else openE x.ac x.sh
  else 2
def hdlsE (next : Int) (known : List Int) (ops : List Opn) : Int := (eachF ((List.range ops.length).map (hdlE next known ops)) 0).2
def hds (L : List Fil) : List Int := L.flatMap fun f => f.op.map Opn.hd
/-- The error of file i of a table. -/
def filE (next : Int) (L : List Fil) (i : Nat) : Int :=
  let f := nth L i
  if refE f.rc f.sq = 0 then
    if i = 0 ∨ refLt ((nth L (i - 1)).rc, (nth L (i - 1)).sq) (f.rc, f.sq) = true then
      if 0 < f.op.length then hdlsE next (hds (L.take i)) f.op else 17
    else 9
  else refE f.rc f.sq
def cntT (L : List Fil) : Nat := (L.map fun f => f.op.length).sum
def chkT (next : Int) (L : List Fil) : Int × Int :=
  if 1 ≤ next ∧ next ≤ 2147483647 then
    if L.length ≤ 32 ∧ cntT L ≤ 32 then eachF ((List.range L.length).map (filE next L)) 0 else (0, 8)
  else (0, 2)
end Gx

/- A binary search over a list of answers. Nothing of a program is named here. -/
namespace Gx
set_option linter.unusedVariables false
open Go Go.RowKit
theorem u64w32 (n : Nat) (h : n < 4294967296) : IntKind.u64.wrap (n : Int) = n := by
  rw [IntKind.wrap_u64]; omega
def bsC (cs : List Int) : Nat → Nat → Nat → Nat
  | 0, lo, _ => lo
  | m + 1, lo, hi => if lo < hi then if cs.getD ((lo + hi) / 2) 0 < 0 then bsC cs m ((lo + hi) / 2 + 1) hi else bsC cs m lo ((lo + hi) / 2) else lo
def bsL (cs : List Int) : Nat := bsC cs cs.length 0 cs.length
def bsF' (cs : List Int) : Bool := decide (bsL cs < cs.length) && decide (cs.getD (bsL cs) 0 = 0)
end Gx

/- Chapter 25: what owns a table, opened at a file and at a handle, and shut again; loads of what a class owns. Nothing of a program is named here. -/
namespace Gx
set_option linter.unusedSimpArgs false
set_option linter.unusedVariables false
set_option linter.unusedSectionVars false
open Go Go.RowKit
section
variable {P : Program} {o : Oper} {L : Slots} {w0 : World} {M : List Nat} {As As' : List HA}
theorem q_load_at {t x b i : Nat} {v : Value} (ho : o.op = .load t (.tmp x)) (hx : Slots.get L x = some (.pointer (some ⟨b, i, none⟩))) (hs : tsz P t = some (1, false)) (hr : ∀ w, HS w0 M As w → Rd w [] b i v) : OpQ P o L (HS w0 M As) v := by
  intro ρ w hρ hw
  simp only [execOp, ho, Sem.run_bind, hρ (.tmp x) _ hx, loadAt_run1 hs (hr w hw).2.2, Result.andThen_ok, Sem.run_pure]
  exact ⟨rfl, Below.refl _ _⟩
end
theorem p_eql_bool {P : Program} {o : Oper} {L : Slots} {t t' : TypeId} {x y : Operand} {a b : Bool} (ho : o.op = .binOp .eql t x y t') (hx : ev L x = some (.bool a)) (hy : ev L y = some (.bool b)) (ht : P.underlying t = some .bool) : OpP P o L (.bool (a == b)) := by
  intro ρ w hρ
  have hg : (eqGuard .eql t x y (.bool a) (.bool b)).run P w = .ok () w := by unfold eqGuard; simp
  have hb : (binOp .eql t (.bool a) (.bool b)).run P w = .ok (.bool (a == b)) w := by simp [binOp, Go.run_equal_bool w t a b ht]
  simp only [execOp, ho, hρ _ _ hx, hρ _ _ hy, Sem.run_bind, hg, hb, Result.andThen_ok, Sem.run_pure]
section
variable {w0 w : World} {M : List Nat} {As As' : List HA} {a : Option Addr} {cap : Nat}
theorem own_addr {t sz n : Nat} {xs : List Value} (hn : 0 < n) (h : HS w0 M As w) (hp : Pick As (.own (.slice a n cap) t sz n xs) As') : ∃ g, a = some ⟨g, 0, none⟩ ∧ n ≤ cap ∧ cap ≤ maxLen := by
  obtain ⟨g, e, _, h1, h2, _⟩ := h.own_blk hn hp
  exact ⟨g, e, h1, h2⟩
def subF (f : LFil) : HA := .opens f.oa f.oc f.op
def subO (o : LOpn) : HA := .locks o.la o.lc o.lk
theorem HS.blk_to {b t tot : Nat} {cs cs' : List Value} (h : HS w0 M As w) (hp : Pick As (.blk b t tot cs) As') (he : cs = cs') : HS w0 M (.blk b t tot cs' :: As') w := by
  subst he
  exact h.pick hp
end
/-! ## Plain acts -/
/-- Few files, handles and locks, all in their ranges. -/
structure VW (L : List Fil) : Prop where
  len : L.length ≤ 32
  cnt : cntT L ≤ 32
  op : ∀ f ∈ L, ∀ o ∈ f.op, openE o.ac o.sh = 0 ∧ (∀ k ∈ o.lk, rngE k.fr k.cnt = 0) ∧ o.lk.length ≤ 16
end Gx

/- Regions whose order is open: an operation whose guard was not carried out itself. Nothing of a program is named here. -/
namespace Gx
open Go Go.RowKit
section
variable {X : Ctx} {ops : Array Oper} {F : List Nat} {fuel i : Nat} {listed : Array Bool} {k : List KI} {L : Slots} {d ty : Nat} {op : Op} {pos : String} {aft : Array Edge} {w0 : World} {M : List Nat} {As Bs : List HA}
theorem d_offU {C : World → Prop} {B : World → Prop} {j : Nat} {want : Bool} (i dj : Nat) (hi : ops[i]? = some ⟨some d, op, ty, pos, aft, some (j, want)⟩) (hj : (ops[j]?).bind (·.dst) = some dj) (hb : Slots.get L dj = some undef) (hok : okFirst ops listed i = true) (hF : F.all (fun f => !Nat.beq f i) = true) (hd : Nat.blt d X.n = true)
    (next : D X ops F B fuel (listed.setIfInBounds i true) k ((d, undef) :: L) C) : D X ops F B (fuel + 1) listed k L C := by
  intro hcl a ha
  have hy : yielded ops a.tmps j = none := by simp [yielded, hj, ha.slot _ _ hb, undef]
  refine WG_firstP hi (fun hif => ?_) (Region.noSelect_spec (okFirst_sel hok)) fuel listed a C (okFirst_free hi hok) (okFirst_ready hok) (.inr ⟨by simp [Region.wanted, hy], rfl⟩) (next (hcl.set (okFirst_ready hok)) _ (ha.put d undef hd))
  have := List.all_eq_true.1 hF i hif
  simp [Nat.beq_refl] at this
end
end Gx

/- Plain data of chapter 5: tables, names, patterns, short names, as lists of bytes. Nothing of a program is named here. -/
namespace Gx
set_option linter.unusedSimpArgs false
set_option linter.unusedVariables false
open Go Go.RowKit
def byV (b : UInt8) : List Value := [bv b]
theorem map_flat {α : Type} (f : α → Value) (l : List α) : l.flatMap (fun x => [f x]) = l.map f := by
  induction l with
  | nil => rfl
  | cons a l ih => rw [List.flatMap_cons, ih]; rfl
theorem getD_map {α β : Type} {f : α → β} {l : List α} {k : Nat} {d : α} {e : β} (h : k < l.length) : (l.map f).getD k e = f (l.getD k d) := by
  simp [List.getD_eq_getElem?_getD, List.getElem?_eq_getElem h]
theorem bv_get {l : List UInt8} {k : Nat} (h : k < l.length) : (l.map bv)[k]? = some (.int .u8 ((l.getD k 0).toNat : Int)) := by
  simp [List.getD_eq_getElem?_getD, List.getElem?_eq_getElem h, bv]
theorem getD_mem {α : Type} {l : List α} {k : Nat} {d : α} (h : k < l.length) : l.getD k d ∈ l := by
  rw [List.getD_eq_getElem?_getD, List.getElem?_eq_getElem h]
  exact List.getElem_mem h
theorem take_succ_getD {α : Type} {l : List α} {k : Nat} {d : α} (h : k < l.length) : l.take (k + 1) = l.take k ++ [l.getD k d] := by
  rw [List.take_succ_eq_append_getElem h, List.getD_eq_getElem?_getD, List.getElem?_eq_getElem h]
  rfl
theorem mem_getD {α : Type} {l : List α} {x d : α} (h : x ∈ l) : ∃ k, k < l.length ∧ l.getD k d = x := by
  obtain ⟨k, hk, e⟩ := List.getElem_of_mem h
  exact ⟨k, hk, by rw [List.getD_eq_getElem?_getD, List.getElem?_eq_getElem hk]; exact e⟩
theorem idxB_neg : ∀ {l : List UInt8} {c : UInt8}, Lib.indexByte l c < 0 ↔ c ∉ l
  | [], c => by simp [Lib.indexByte]
  | b :: l, c => by
    have ih := idxB_neg (l := l) (c := c)
    have h1 := Lib.indexByte_ge l c
    unfold Lib.indexByte
    by_cases e : b = c
    · subst e; simp
    · have e' : (b == c) = false := by simpa using e
      have e2 : ¬ c = b := fun h => e h.symm
      rw [e']
      simp only [Bool.false_eq_true, if_false, List.mem_cons, e2, false_or]
      rw [← ih]
      split
      · rename_i h; simp at h; omega
      · rename_i h; simp at h; omega
/-! ## Tables -/
def rngB (c : UInt8) : Int := if c.toNat < 128 then 0 else 2
def frmB (t : List UInt8) (c : UInt8) : Int := if t.getD c.toNat 0 = c then 0 else 3
def chkTab (t : List UInt8) : Int × Int :=
  if t.length = 128 then if (eachF (t.map rngB) 0).2 = 0 then eachF (t.map (frmB t)) 0 else eachF (t.map rngB) 0 else (0, 10)
theorem chkTab_ok {t : List UInt8} (h : (chkTab t).2 = 0) : t.length = 128 ∧ (∀ c ∈ t, c.toNat < 128) ∧ ∀ c ∈ t, t.getD c.toNat 0 = c := by
  unfold chkTab at h
  split at h
  · rename_i hl
    split at h
    · rename_i h1
      refine ⟨hl, fun c hc => ?_, fun c hc => ?_⟩
      · have := eachF_0.1 h1 _ (List.mem_map.2 ⟨c, hc, rfl⟩)
        unfold rngB at this
        split at this
        · assumption
        · exact absurd this (by decide)
      · have := eachF_0.1 h _ (List.mem_map.2 ⟨c, hc, rfl⟩)
        unfold frmB at this
        split at this
        · assumption
        · exact absurd this (by decide)
    · rename_i h1; exact absurd h h1
  · exact absurd h (by simp)
def up (t s : List UInt8) : List UInt8 := s.map fun c => t.getD c.toNat 0
theorem up_len (t s : List UInt8) : (up t s).length = s.length := by simp [up]
def stdB (c : Nat) : UInt8 := if 97 ≤ c ∧ c ≤ 122 then UInt8.ofNat (c - 32) else UInt8.ofNat c
def stdT : List UInt8 := (List.range 128).map stdB
/-! ## Names -/
def refusedL : List UInt8 := [34, 42, 47, 58, 60, 62, 63, 92, 124]
def legalB (c : UInt8) : Bool := decide (32 ≤ c.toNat) && decide (c.toNat ≤ 126) && !(refusedL.contains c)
def legalS (s : List UInt8) : Bool := !decide (s = []) && decide (s.length ≤ 32) && s.all legalB && !decide (s = [46, 46]) && !([32].isSuffixOf s) && !([46].isSuffixOf s)
def nameE (s : List UInt8) : Int := if s.length ≤ 32 then if legalS s = true then 0 else 4 else 8
def namesE (l : List (List UInt8)) : Int := if l.length ≤ 200 then firstI (l.map nameE) else 8
theorem eachF_first : ∀ {es : List Int} {k : Nat}, (eachF es k).2 = firstI es
  | [], _ => rfl
  | e :: es, k => by
    unfold eachF firstI
    split
    · exact eachF_first
    · rfl
theorem firstI_0 {es : List Int} : firstI es = 0 ↔ ∀ e ∈ es, e = 0 := by rw [← eachF_first (k := 0)]; exact eachF_0
theorem nameE_ok {s : List UInt8} (h : nameE s = 0) : s.length ≤ 32 ∧ 0 < s.length ∧ (∀ c ∈ s, legalB c = true) := by
  unfold nameE at h
  split at h
  · rename_i h1
    split at h
    · rename_i h2
      unfold legalS at h2
      simp only [Bool.and_eq_true] at h2
      refine ⟨h1, ?_, fun c hc => List.all_eq_true.1 h2.1.1.1.2 c hc⟩
      rcases s with _ | ⟨a, s⟩
      · simp at h2
      · simp
    · exact absurd h (by decide)
  · exact absurd h (by decide)
theorem legalB_lt {c : UInt8} (h : legalB c = true) : c.toNat < 128 := by
  unfold legalB at h
  simp only [Bool.and_eq_true, decide_eq_true_eq] at h
  omega
theorem nameE_lt {s : List UInt8} (h : nameE s = 0) : ∀ c ∈ s, c.toNat < 128 := fun c hc => legalB_lt ((nameE_ok h).2.2 c hc)
theorem namesE_ok {l : List (List UInt8)} (h : namesE l = 0) : l.length ≤ 200 ∧ ∀ s ∈ l, nameE s = 0 := by
  unfold namesE at h
  split at h
  · rename_i h1
    exact ⟨h1, fun s hs => firstI_0.1 h _ (List.mem_map.2 ⟨s, hs, rfl⟩)⟩
  · exact absurd h (by decide)
/-! ## Order, patterns -/
def cmpU (t a b : List UInt8) : Int := if Lib.compareBytes (up t a) (up t b) = 0 then Lib.compareBytes a b else Lib.compareBytes (up t a) (up t b)
def sameU (t a b : List UInt8) : Bool := decide (up t a = up t b)
def hashU (t s : List UInt8) : Int := (up t s).foldl (fun h c => (h * 37 + (c.toNat : Int)) % 65536) 0
def patB (c : UInt8) : Bool := decide (c = 63) || decide (c = 42) || legalB c
def patE (p : List UInt8) : Int := if p.length ≤ 64 then if (!decide (p = []) && p.all patB) = true then 0 else 4 else 8
theorem patB_lt {c : UInt8} (h : patB c = true) : c.toNat < 128 := by
  unfold patB at h
  simp only [Bool.or_eq_true, decide_eq_true_eq] at h
  rcases h with (h | h) | h
  · subst h; decide
  · subst h; decide
  · exact legalB_lt h
theorem patE_ok {p : List UInt8} (h : patE p = 0) : p.length ≤ 64 ∧ 0 < p.length ∧ ∀ c ∈ p, c.toNat < 128 := by
  unfold patE at h
  split at h
  · rename_i h1
    split at h
    · rename_i h2
      simp only [Bool.and_eq_true] at h2
      refine ⟨h1, ?_, fun c hc => patB_lt (List.all_eq_true.1 h2.2 c hc)⟩
      rcases p with _ | ⟨a, p⟩
      · simp at h2
      · simp
    · exact absurd h (by decide)
  · exact absurd h (by decide)
/-- Whether a pattern, read backwards, matches the first i bytes of a string. -/
def mtR (t s : List UInt8) : List UInt8 → Nat → Bool
  | [], i => decide (i = 0)
  | c :: r, 0 => if c = 42 then mtR t s r 0 else false
  | c :: r, i + 1 => if c = 42 then mtR t s r (i + 1) || mtR t s (c :: r) i else mtR t s r i && (decide (c = 63) || decide (t.getD c.toNat 0 = t.getD (s.getD i 0).toNat 0))
termination_by r i => (r.length, i)
def mtU (t p s : List UInt8) : Bool := mtR t s p.reverse s.length
/-! ## Short names -/
def signsL : List UInt8 := [33, 35, 36, 37, 38, 39, 40, 41, 45, 64, 94, 95, 126]
def shortB (c : UInt8) : Bool := (decide (65 ≤ c.toNat) && decide (c.toNat ≤ 90)) || (decide (48 ≤ c.toNat) && decide (c.toNat ≤ 57)) || signsL.contains c
def partB (s : List UInt8) (most : Nat) : Bool := !decide (s = []) && decide (s.length ≤ most) && s.all shortB
/-- What stands before the first byte 46, and behind it, if there is one. -/
def cutD : List UInt8 → List UInt8 × Option (List UInt8)
  | [] => ([], none)
  | c :: s => if c = 46 then ([], some s) else (c :: (cutD s).1, (cutD s).2)
def shortS (s : List UInt8) : Bool := partB (cutD s).1 8 && match (cutD s).2 with
  | none => true
  | some r => partB r 3
end Gx

/- Chapter 5: arguments that read as lists of names. -/
namespace Go.Proofs
open Go Go.RowKit Gx
theorem strs_of {P : Program} {W : World} {d n : Nat} {t : TypeId} {a : Option Addr} {cell : Nat → List Value} (hu : P.underlying t = some .string) (sl : Sl W [] a 1 n cell) (rows : ∀ i, i < n → okT P W d t (cell i)) :
    ∃ l : List (List UInt8), n = l.length ∧ Vl W a (l.map strV) ∧ ∀ s ∈ l, s.length ≤ maxLen := by
  have h1 : ∀ i, ∃ s : List UInt8, i < n → cell i = [.string (bs s)] ∧ s.length ≤ maxLen := fun i => by
    by_cases hi : i < n
    · obtain ⟨s, e, h⟩ := okT_str (rows i hi) hu
      exact ⟨s, fun _ => ⟨e, h⟩⟩
    · exact ⟨[], fun h => absurd h hi⟩
  obtain ⟨f, hf⟩ := Classical.axiomOfChoice h1
  have hl : (((List.range n).map f).map strV).length = n := by simp
  have hg : ∀ i, i < n → ((((List.range n).map f).map strV)[i]?).toList = cell i := fun i hi => by
    rw [List.getElem?_map, List.getElem?_map, List.getElem?_range hi]
    exact (hf i hi).1.symm
  refine ⟨(List.range n).map f, by simp, ⟨fun hn => ?_⟩, fun s hs => ?_⟩
  · rw [hl] at hn
    obtain ⟨b, o, e, h2⟩ := sl.at_ hn
    refine ⟨b, o, e, fun i hi => ?_⟩
    rw [hl] at hi
    rw [hg i hi]
    exact h2 i hi
  · obtain ⟨i, hi, rfl⟩ := List.mem_map.1 hs
    exact (hf i (List.mem_range.1 hi)).2
end Go.Proofs

/-
  DERIVED: THE SHELF's CONTRACTS AT THIS DUMP, IN PLAIN WORDS (tools/lay-plain.mjs out of 'TrydShelf.lean', which tools/lay-shelf.mjs wrote): THE SAME DECLARATIONS UNDER THE SAME NAMES: 'import', 'namespace', 'open', 'def', 'theorem' AND NOTHING ELSE: no command of the shelf's: FOR A HAND-IN. Each laying: the table of numbers ('.._ren') and one theorem, a field a fact of the dump's own or the kernel's comparison; each contract: ONE APPLICATION.
-/
namespace Go.Proofs
open Go.Shelf
def Tryd.lays213_ren : Go.Shelf.Ren := ⟨fun | 213 => 104 | 265 => 114 | n => n, fun | 9 => 9 | 3 => 3 | n => n, fun | n => n⟩
def Tryd.lays106_ren : Go.Shelf.Ren := ⟨fun | 106 => 93 | 213 => 104 | 265 => 114 | n => n, fun | 9 => 9 | 3 => 3 | n => n, fun | n => n⟩
theorem Tryd.lays106 : Go.Proofs.Lays.n106 Tryd.prog Tryd.lays106_ren := {
  mixed := by kernel_rfl
  f106 := Tryd.func93.trans (congrArg some (by kernel_rfl))
  f213 := Tryd.func104.trans (congrArg some (by kernel_rfl))
  f265 := Tryd.func114.trans (congrArg some (by kernel_rfl))
  t3 := Tryd.underlying3
  a3 := Tryd.isAgg3
  z3 := Tryd.sizeOf3
  v3 := Tryd.zeroValue3
  t9 := Tryd.underlying9
  a9 := Tryd.isAgg9
  z9 := Tryd.sizeOf9
  v9 := Tryd.zeroValue9 }
open Go.RowKit in
/-- strings.Compare: "Compare returns an integer comparing two strings lexicographically. The result will be 0 if a == b, -1 if a < b, and +1 if a > b.": IT RETURNS 'Lib.compareBytes a b'; the world is as it was. (LAID: no walk: one application.) -/
theorem Tryd.strings_Compare (a b : ByteArray) (w : World) :
    Calls Tryd.prog 93 #[.string a, .string b] w fun e w' => e = .returned (.int .i64 (Lib.compareBytes a.data.toList b.data.toList)) ∧ w' = w := Any.strings_Compare Tryd.lays106 a b w
def Tryd.lays137_ren : Go.Shelf.Ren := ⟨fun | 137 => 97 | 217 => 108 | 266 => 116 | n => n, fun | 9 => 9 | 5 => 5 | 3 => 3 | n => n, fun | n => n⟩
theorem Tryd.lays137 : Go.Proofs.Lays.n137 Tryd.prog Tryd.lays137_ren := {
  mixed := by kernel_rfl
  f137 := Tryd.func97.trans (congrArg some (by kernel_rfl))
  f217 := Tryd.func108.trans (congrArg some (by kernel_rfl))
  f266 := Tryd.func116.trans (congrArg some (by kernel_rfl))
  t3 := Tryd.underlying3
  a3 := Tryd.isAgg3
  z3 := Tryd.sizeOf3
  v3 := Tryd.zeroValue3
  t5 := Tryd.underlying5
  a5 := Tryd.isAgg5
  z5 := Tryd.sizeOf5
  v5 := Tryd.zeroValue5
  t9 := Tryd.underlying9
  a9 := Tryd.isAgg9
  z9 := Tryd.sizeOf9
  v9 := Tryd.zeroValue9 }
open Go.RowKit in
/-- strings.IndexByte: "IndexByte returns the index of the first instance of c in s, or -1 if c is not present in s.": IT RETURNS 'Lib.indexByte s c'; the world is as it was. (LAID: no walk: one application.) -/
theorem Tryd.strings_IndexByte (s : ByteArray) (c : Int) (w : World) :
    Calls Tryd.prog 97 #[.string s, .int .u8 c] w fun e w' => e = .returned (.int .i64 (Lib.indexByte s.data.toList c.toNat.toUInt8)) ∧ w' = w := Any.strings_IndexByte Tryd.lays137 s c w
def Tryd.lays129_ren : Go.Shelf.Ren := ⟨fun | 129 => 124 | n => n, fun | 53 => 118 | 3 => 3 | 4 => 4 | 46 => 112 | 5 => 5 | 9 => 9 | n => n, fun | n => n⟩
def Tryd.lays317_ren : Go.Shelf.Ren := ⟨fun | 317 => 123 | n => n, fun | 3 => 3 | 46 => 112 | n => n, fun | n => n⟩
def Tryd.lays318_ren : Go.Shelf.Ren := ⟨fun | 318 => 125 | n => n, fun | 3 => 3 | 4 => 4 | n => n, fun | n => n⟩
def Tryd.lays283_ren : Go.Shelf.Ren := ⟨fun | 283 => 118 | n => n, fun | 3 => 3 | 9 => 9 | 4 => 4 | n => n, fun | n => n⟩
def Tryd.laysM284_ren : Go.Shelf.Ren := ⟨fun | 284 => 119 | 129 => 124 | 317 => 123 | 318 => 125 | n => n, fun | 53 => 118 | 3 => 3 | 212 => 124 | 0 => 0 | 4 => 4 | 46 => 112 | 5 => 5 | 9 => 9 | n => n, fun | 17 => 1 | n => n⟩
def Tryd.lays285_ren : Go.Shelf.Ren := ⟨fun | 285 => 120 | n => n, fun | 37 => 92 | 53 => 118 | 3 => 3 | 4 => 4 | 51 => 113 | 9 => 9 | 5 => 5 | 0 => 0 | n => n, fun | n => n⟩
def Tryd.laysM246_ren : Go.Shelf.Ren := ⟨fun | 246 => 113 | 283 => 118 | 284 => 119 | 285 => 120 | 286 => 121 | 129 => 124 | 317 => 123 | 318 => 125 | 319 => 126 | 320 => 127 | 337 => 128 | 338 => 129 | n => n, fun | 2 => 2 | 3 => 3 | 9 => 9 | 4 => 4 | 171 => 117 | 0 => 0 | 53 => 118 | 37 => 92 | 5 => 5 | 173 => 121 | 212 => 124 | 51 => 113 | 20 => 20 | 213 => 125 | 46 => 112 | 232 => 129 | 233 => 130 | n => n, fun | 17 => 1 | 18 => 2 | 19 => 3 | n => n⟩
def Tryd.lays246_ren : Go.Shelf.Ren := ⟨fun | 246 => 113 | 283 => 118 | 284 => 119 | 285 => 120 | 286 => 121 | 129 => 124 | 317 => 123 | 318 => 125 | 319 => 126 | 320 => 127 | 337 => 128 | 338 => 129 | n => n, fun | 2 => 2 | 3 => 3 | 9 => 9 | 4 => 4 | 171 => 117 | 0 => 0 | 53 => 118 | 37 => 92 | 5 => 5 | 173 => 121 | 212 => 124 | 51 => 113 | 20 => 20 | 213 => 125 | 46 => 112 | 232 => 129 | 233 => 130 | n => n, fun | 17 => 1 | 18 => 2 | 19 => 3 | n => n⟩
def Tryd.laysM243_ren : Go.Shelf.Ren := ⟨fun | 243 => 101 | 246 => 113 | 283 => 118 | 284 => 119 | 285 => 120 | 286 => 121 | 129 => 124 | 317 => 123 | 318 => 125 | 319 => 126 | 320 => 127 | 337 => 128 | 338 => 129 | n => n, fun | 3 => 3 | 9 => 9 | 2 => 2 | 4 => 4 | 171 => 117 | 0 => 0 | 53 => 118 | 37 => 92 | 5 => 5 | 173 => 121 | 212 => 124 | 51 => 113 | 20 => 20 | 213 => 125 | 46 => 112 | 232 => 129 | 233 => 130 | n => n, fun | 17 => 1 | 18 => 2 | 19 => 3 | n => n⟩
def Tryd.lays243_ren : Go.Shelf.Ren := ⟨fun | 243 => 101 | 246 => 113 | 283 => 118 | 284 => 119 | 285 => 120 | 286 => 121 | 129 => 124 | 317 => 123 | 318 => 125 | 319 => 126 | 320 => 127 | 337 => 128 | 338 => 129 | n => n, fun | 3 => 3 | 9 => 9 | 2 => 2 | 4 => 4 | 171 => 117 | 0 => 0 | 53 => 118 | 37 => 92 | 5 => 5 | 173 => 121 | 212 => 124 | 51 => 113 | 20 => 20 | 213 => 125 | 46 => 112 | 232 => 129 | 233 => 130 | n => n, fun | 17 => 1 | 18 => 2 | 19 => 3 | n => n⟩
def Tryd.laysM171_ren : Go.Shelf.Ren := ⟨fun | 171 => 88 | 243 => 101 | 246 => 113 | 283 => 118 | 284 => 119 | 285 => 120 | 286 => 121 | 129 => 124 | 317 => 123 | 318 => 125 | 319 => 126 | 320 => 127 | 337 => 128 | 338 => 129 | n => n, fun | 3 => 3 | 9 => 9 | 2 => 2 | 4 => 4 | 171 => 117 | 0 => 0 | 53 => 118 | 37 => 92 | 5 => 5 | 173 => 121 | 212 => 124 | 51 => 113 | 20 => 20 | 213 => 125 | 46 => 112 | 232 => 129 | 233 => 130 | n => n, fun | 17 => 1 | 18 => 2 | 19 => 3 | n => n⟩
theorem Tryd.laysM171 : Go.Proofs.LaysM.n171 Tryd.prog Tryd.laysM171_ren := {
  mixed := by kernel_rfl
  f129 := Tryd.func124.trans (congrArg some (by kernel_rfl))
  f171 := Tryd.func88.trans (congrArg some (by kernel_rfl))
  f243 := Tryd.func101.trans (congrArg some (by kernel_rfl))
  f246 := Tryd.func113.trans (congrArg some (by kernel_rfl))
  f283 := Tryd.func118.trans (congrArg some (by kernel_rfl))
  f284 := Tryd.func119.trans (congrArg some (by kernel_rfl))
  f285 := Tryd.func120.trans (congrArg some (by kernel_rfl))
  f286 := Tryd.func121.trans (congrArg some (by kernel_rfl))
  f317 := Tryd.func123.trans (congrArg some (by kernel_rfl))
  f318 := Tryd.func125.trans (congrArg some (by kernel_rfl))
  f319 := Tryd.func126.trans (congrArg some (by kernel_rfl))
  f320 := Tryd.func127.trans (congrArg some (by kernel_rfl))
  f337 := Tryd.func128.trans (congrArg some (by kernel_rfl))
  f338 := Tryd.func129.trans (congrArg some (by kernel_rfl))
  t0 := Tryd.underlying0
  a0 := Tryd.isAgg0
  z0 := Tryd.sizeOf0
  v0 := Tryd.zeroValue0
  t2 := Tryd.underlying2
  a2 := Tryd.isAgg2
  z2 := Tryd.sizeOf2
  v2 := Tryd.zeroValue2
  t3 := Tryd.underlying3
  a3 := Tryd.isAgg3
  z3 := Tryd.sizeOf3
  v3 := Tryd.zeroValue3
  t4 := Tryd.underlying4
  a4 := Tryd.isAgg4
  z4 := Tryd.sizeOf4
  v4 := Tryd.zeroValue4
  t5 := Tryd.underlying5
  a5 := Tryd.isAgg5
  z5 := Tryd.sizeOf5
  v5 := Tryd.zeroValue5
  t9 := Tryd.underlying9
  a9 := Tryd.isAgg9
  z9 := Tryd.sizeOf9
  v9 := Tryd.zeroValue9
  t20 := Tryd.underlying20
  a20 := Tryd.isAgg20
  z20 := Tryd.sizeOf20
  v20 := Tryd.zeroValue20
  t37 := Tryd.underlying92
  a37 := Tryd.isAgg92
  z37 := Tryd.sizeOf92
  v37 := Tryd.zeroValue92
  t46 := Tryd.underlying112
  a46 := Tryd.isAgg112
  z46 := Tryd.sizeOf112
  v46 := Tryd.zeroValue112
  t51 := Tryd.underlying113
  a51 := Tryd.isAgg113
  z51 := Tryd.sizeOf113
  v51 := Tryd.zeroValue113
  t53 := Tryd.underlying118
  a53 := Tryd.isAgg118
  z53 := Tryd.sizeOf118
  v53 := Tryd.zeroValue118
  t171 := Tryd.underlying117
  a171 := Tryd.isAgg117
  z171 := Tryd.sizeOf117
  v171 := Tryd.zeroValue117
  t173 := Tryd.underlying121
  a173 := Tryd.isAgg121
  z173 := Tryd.sizeOf121
  v173 := Tryd.zeroValue121
  t212 := Tryd.underlying124
  a212 := Tryd.isAgg124
  z212 := Tryd.sizeOf124
  v212 := Tryd.zeroValue124
  t213 := Tryd.underlying125
  a213 := Tryd.isAgg125
  z213 := Tryd.sizeOf125
  t232 := Tryd.underlying129
  a232 := Tryd.isAgg129
  z232 := Tryd.sizeOf129
  v232 := Tryd.zeroValue129
  t233 := Tryd.underlying130
  a233 := Tryd.isAgg130
  z233 := Tryd.sizeOf130
  v233 := Tryd.zeroValue130
  g17 := by kernel_rfl
  g18 := by kernel_rfl
  g19 := by kernel_rfl
  i0 := by kernel_rfl
  i2 := by kernel_rfl
  i3 := by kernel_rfl
  i4 := by kernel_rfl
  i5 := by kernel_rfl
  i9 := by kernel_rfl
  i20 := by kernel_rfl
  i37 := by kernel_rfl
  i46 := by kernel_rfl
  i51 := by kernel_rfl
  i53 := by kernel_rfl
  i171 := by kernel_rfl
  i173 := by kernel_rfl
  i212 := by kernel_rfl
  i232 := by kernel_rfl
  i233 := by kernel_rfl
  m17 := by kernel_rfl
  m18 := by kernel_rfl
  m19 := by kernel_rfl }
open Go.RowKit Go.Sort Go.Lib in
/-- strconv.Itoa: "Itoa is equivalent to FormatInt(int64(i), 10).": i's DECIMAL NUMERAL ('Lib.itoa': a '-' where i is negative, then the digits), FOR EVERY int. The world behind the call: the world before it, new blocks behind the heap (the library's 'var a [24]byte'), draws. (LAID: no walk: one application.) -/
theorem Tryd.strconv_Itoa (n : Int) (h0 : -9223372036854775808 ≤ n) (h1 : n ≤ 9223372036854775807) (w : World) (htab : Lib.TabIs Tryd.prog w "internal/strconv.uint64pow10" .u64 Lib.pow10Tab) :
    Calls Tryd.prog 88 #[.int .i64 n] w fun e w' => e = .returned (.string ⟨(Lib.itoa n).toArray⟩) ∧ ∃ k os, w' = grow (w.drewN k) os := Any.strconv_Itoa Tryd.laysM171 n h0 h1 w htab
def Tryd.lays171_ren : Go.Shelf.Ren := ⟨fun | 171 => 88 | 243 => 101 | 246 => 113 | 283 => 118 | 284 => 119 | 285 => 120 | 286 => 121 | 129 => 124 | 317 => 123 | 318 => 125 | 319 => 126 | 320 => 127 | 337 => 128 | 338 => 129 | n => n, fun | 3 => 3 | 9 => 9 | 2 => 2 | 4 => 4 | 171 => 117 | 0 => 0 | 53 => 118 | 37 => 92 | 5 => 5 | 173 => 121 | 212 => 124 | 51 => 113 | 20 => 20 | 213 => 125 | 46 => 112 | 232 => 129 | 233 => 130 | n => n, fun | 17 => 1 | 18 => 2 | 19 => 3 | n => n⟩
def Tryd.lays217_ren : Go.Shelf.Ren := ⟨fun | 217 => 108 | 266 => 116 | n => n, fun | 9 => 9 | 5 => 5 | 3 => 3 | n => n, fun | n => n⟩
def Tryd.lays224_ren : Go.Shelf.Ren := ⟨fun | 224 => 110 | n => n, fun | 3 => 3 | n => n, fun | n => n⟩
def Tryd.lays314_ren : Go.Shelf.Ren := ⟨fun | 314 => 117 | n => n, fun | 9 => 9 | 51 => 113 | 3 => 3 | 4 => 4 | 5 => 5 | 46 => 112 | n => n, fun | n => n⟩
def Tryd.lays267_ren : Go.Shelf.Ren := ⟨fun | 267 => 111 | 314 => 117 | n => n, fun | 9 => 9 | 3 => 3 | 146 => 114 | 51 => 113 | 4 => 4 | 5 => 5 | 46 => 112 | n => n, fun | n => n⟩
def Tryd.lays219_ren : Go.Shelf.Ren := ⟨fun | 219 => 98 | 217 => 108 | 225 => 109 | 224 => 110 | 267 => 111 | 266 => 116 | 314 => 117 | n => n, fun | 9 => 9 | 3 => 3 | 4 => 4 | 5 => 5 | 46 => 112 | 146 => 114 | 51 => 113 | n => n, fun | 1 => 0 | n => n⟩
theorem Tryd.lays219 : Go.Proofs.Lays.n219 Tryd.prog Tryd.lays219_ren := {
  mixed := by kernel_rfl
  f217 := Tryd.func108.trans (congrArg some (by kernel_rfl))
  f219 := Tryd.func98.trans (congrArg some (by kernel_rfl))
  f224 := Tryd.func110.trans (congrArg some (by kernel_rfl))
  f225 := Tryd.func109.trans (congrArg some (by kernel_rfl))
  f266 := Tryd.func116.trans (congrArg some (by kernel_rfl))
  f267 := Tryd.func111.trans (congrArg some (by kernel_rfl))
  f314 := Tryd.func117.trans (congrArg some (by kernel_rfl))
  t3 := Tryd.underlying3
  a3 := Tryd.isAgg3
  z3 := Tryd.sizeOf3
  v3 := Tryd.zeroValue3
  t4 := Tryd.underlying4
  a4 := Tryd.isAgg4
  z4 := Tryd.sizeOf4
  v4 := Tryd.zeroValue4
  t5 := Tryd.underlying5
  a5 := Tryd.isAgg5
  z5 := Tryd.sizeOf5
  v5 := Tryd.zeroValue5
  t9 := Tryd.underlying9
  a9 := Tryd.isAgg9
  z9 := Tryd.sizeOf9
  v9 := Tryd.zeroValue9
  t46 := Tryd.underlying112
  a46 := Tryd.isAgg112
  z46 := Tryd.sizeOf112
  v46 := Tryd.zeroValue112
  t51 := Tryd.underlying113
  a51 := Tryd.isAgg113
  z51 := Tryd.sizeOf113
  v51 := Tryd.zeroValue113
  t146 := Tryd.underlying114
  a146 := Tryd.isAgg114
  z146 := Tryd.sizeOf114
  v146 := Tryd.zeroValue114
  g1 := by kernel_rfl }
open Go.RowKit Go.Lib in
/-- internal/stringslite.Index (what strings.Index calls) AT A substr OF ONE BYTE c: IT RETURNS 'Lib.indexByte s c'; the world is as it was. (LAID: no walk: one application.) -/
theorem Tryd.stringslite_Index_one (s : ByteArray) (c : UInt8) (w : World) :
    Calls Tryd.prog 98 #[.string s, .string ⟨#[c]⟩] w fun e w' => e = .returned (.int .i64 (Lib.indexByte s.data.toList c)) ∧ w' = w := Any.stringslite_Index_one Tryd.lays219 s c w
def Tryd.lays220_ren : Go.Shelf.Ren := ⟨fun | 220 => 84 | 219 => 98 | 217 => 108 | 225 => 109 | 224 => 110 | 267 => 111 | 266 => 116 | 314 => 117 | n => n, fun | 9 => 9 | 4 => 4 | 3 => 3 | 5 => 5 | 46 => 112 | 146 => 114 | 51 => 113 | n => n, fun | 1 => 0 | n => n⟩
def Tryd.lays145_ren : Go.Shelf.Ren := ⟨fun | 145 => 55 | 220 => 84 | 219 => 98 | 217 => 108 | 225 => 109 | 224 => 110 | 267 => 111 | 266 => 116 | 314 => 117 | n => n, fun | 9 => 9 | 4 => 4 | 59 => 78 | 3 => 3 | 5 => 5 | 46 => 112 | 146 => 114 | 51 => 113 | n => n, fun | 1 => 0 | n => n⟩
def Tryd.laysM219_ren : Go.Shelf.Ren := ⟨fun | 219 => 98 | 217 => 108 | 225 => 109 | 224 => 110 | 267 => 111 | 266 => 116 | 314 => 117 | n => n, fun | 9 => 9 | 3 => 3 | 4 => 4 | 5 => 5 | 46 => 112 | 146 => 114 | 51 => 113 | n => n, fun | 1 => 0 | n => n⟩
def Tryd.laysM220_ren : Go.Shelf.Ren := ⟨fun | 220 => 84 | 219 => 98 | 217 => 108 | 225 => 109 | 224 => 110 | 267 => 111 | 266 => 116 | 314 => 117 | n => n, fun | 9 => 9 | 4 => 4 | 3 => 3 | 5 => 5 | 46 => 112 | 146 => 114 | 51 => 113 | n => n, fun | 1 => 0 | n => n⟩
def Tryd.laysM145_ren : Go.Shelf.Ren := ⟨fun | 145 => 55 | 220 => 84 | 219 => 98 | 217 => 108 | 225 => 109 | 224 => 110 | 267 => 111 | 266 => 116 | 314 => 117 | n => n, fun | 9 => 9 | 4 => 4 | 59 => 78 | 3 => 3 | 5 => 5 | 46 => 112 | 146 => 114 | 51 => 113 | n => n, fun | 1 => 0 | n => n⟩
def Tryd.lays222_ren : Go.Shelf.Ren := ⟨fun | 222 => 99 | n => n, fun | 9 => 9 | 5 => 5 | 3 => 3 | 4 => 4 | n => n, fun | n => n⟩
def Tryd.lays148_ren : Go.Shelf.Ren := ⟨fun | 148 => 86 | 222 => 99 | 223 => 100 | 269 => 112 | n => n, fun | 9 => 9 | 3 => 3 | 4 => 4 | 5 => 5 | 146 => 114 | 51 => 113 | 46 => 112 | n => n, fun | n => n⟩
theorem Tryd.lays148 : Go.Proofs.Lays.n148 Tryd.prog Tryd.lays148_ren := {
  mixed := by kernel_rfl
  f148 := Tryd.func86.trans (congrArg some (by kernel_rfl))
  f222 := Tryd.func99.trans (congrArg some (by kernel_rfl))
  f223 := Tryd.func100.trans (congrArg some (by kernel_rfl))
  f269 := Tryd.func112.trans (congrArg some (by kernel_rfl))
  t3 := Tryd.underlying3
  a3 := Tryd.isAgg3
  z3 := Tryd.sizeOf3
  v3 := Tryd.zeroValue3
  t4 := Tryd.underlying4
  a4 := Tryd.isAgg4
  z4 := Tryd.sizeOf4
  v4 := Tryd.zeroValue4
  t5 := Tryd.underlying5
  a5 := Tryd.isAgg5
  z5 := Tryd.sizeOf5
  v5 := Tryd.zeroValue5
  t9 := Tryd.underlying9
  a9 := Tryd.isAgg9
  z9 := Tryd.sizeOf9
  v9 := Tryd.zeroValue9
  t46 := Tryd.underlying112
  a46 := Tryd.isAgg112
  z46 := Tryd.sizeOf112
  v46 := Tryd.zeroValue112
  t51 := Tryd.underlying113
  a51 := Tryd.isAgg113
  z51 := Tryd.sizeOf113
  v51 := Tryd.zeroValue113
  t146 := Tryd.underlying114
  a146 := Tryd.isAgg114
  z146 := Tryd.sizeOf114
  v146 := Tryd.zeroValue114 }
open Go.RowKit Go.Lib in
/-- strings.LastIndex AT A substr OF ONE BYTE (as in 'strings.LastIndex(path, "/")'): the last place of that byte, or -1. (LAID: no walk: one application.) -/
theorem Tryd.strings_LastIndex_one (s sub : ByteArray) (h1 : sub.size = 1) (hs : s.size < 4611686018427387904) (w : World) :
    Calls Tryd.prog 86 #[.string s, .string sub] w fun e w' => e = .returned (.int .i64 (Lib.lastIndexByte s ((sub[0]'(by omega)).toNat : Int))) ∧ w' = w := Any.strings_LastIndex_one Tryd.lays148 s sub h1 hs w
def Tryd.lays315_ren : Go.Shelf.Ren := ⟨fun | 315 => 102 | n => n, fun | 9 => 9 | 40 => 95 | 4 => 4 | 3 => 3 | 0 => 0 | 21 => 21 | n => n, fun | n => n⟩
def Tryd.laysGw15_ren : Go.Shelf.Ren := ⟨fun | 15 => 90 | 20 => 102 | n => n, fun | 9 => 9 | 23 => 95 | 3 => 3 | 4 => 4 | 0 => 0 | 21 => 21 | n => n, fun | n => n⟩
def Tryd.laysGw17_ren : Go.Shelf.Ren := ⟨fun | 17 => 71 | 15 => 90 | 20 => 102 | n => n, fun | 9 => 9 | 23 => 95 | 4 => 4 | 3 => 3 | 0 => 0 | 21 => 21 | n => n, fun | n => n⟩
def Tryd.lays207_ren : Go.Shelf.Ren := ⟨fun | 207 => 103 | n => n, fun | 9 => 9 | 4 => 4 | 3 => 3 | n => n, fun | n => n⟩
def Tryd.lays100_ren : Go.Shelf.Ren := ⟨fun | 100 => 91 | 207 => 103 | n => n, fun | 9 => 9 | 4 => 4 | 3 => 3 | n => n, fun | n => n⟩
theorem Tryd.lays100 : Go.Proofs.Lays.n100 Tryd.prog Tryd.lays100_ren := {
  mixed := by kernel_rfl
  f100 := Tryd.func91.trans (congrArg some (by kernel_rfl))
  f207 := Tryd.func103.trans (congrArg some (by kernel_rfl))
  t3 := Tryd.underlying3
  a3 := Tryd.isAgg3
  z3 := Tryd.sizeOf3
  v3 := Tryd.zeroValue3
  t4 := Tryd.underlying4
  a4 := Tryd.isAgg4
  z4 := Tryd.sizeOf4
  v4 := Tryd.zeroValue4
  t9 := Tryd.underlying9
  a9 := Tryd.isAgg9
  z9 := Tryd.sizeOf9
  v9 := Tryd.zeroValue9 }
open Go.RowKit Go.Lib in
/-- strings.HasSuffix: "HasSuffix reports whether the string s ends with suffix.": IT RETURNS 'Lib.hasSuffix s suffix'; the world is as it was. ('hs': no Go string is longer: a caller has it of every string that it was handed.) (LAID: no walk: one application.) -/
theorem Tryd.strings_HasSuffix (s p : ByteArray) (w : World) (hs : s.size ≤ 9223372036854775807) :
    Calls Tryd.prog 91 #[.string s, .string p] w fun e w' => e = .returned (.bool (Lib.hasSuffix s.data.toList p.data.toList)) ∧ w' = w := Any.strings_HasSuffix Tryd.lays100 s p w hs
end Go.Proofs

/- Proof steps that are alike everywhere, as defaults of arguments. Nothing of a program is named here. -/
namespace Gx
open Go Go.RowKit
theorem aPk {As As' : List HA} {A : HA} (h : Pick As A As' := by repeat (first | exact .here | apply Pick.there)) : Pick As A As' := h
theorem aPt {As As' : List HA} {A B : HA} (h : Put As A B As' := by repeat (first | exact .here | apply Put.there)) : Put As A B As' := h
theorem aPs {As Cs Ds : List HA} (h : Picks As Cs Ds := by repeat (first | exact Picks.nil | (apply Picks.cons; · (repeat (first | exact .here | apply Pick.there))))) : Picks As Cs Ds := h
theorem aEt {As Bs : List HA} (h : Ent As Bs := by repeat (first | exact .nil | refine .cons (by repeat (first | exact .here | apply Pick.there)) ?_)) : Ent As Bs := h
theorem aSx {L L' : Slots} (h : subL L L' := by repeat (first | exact sl_n | refine sl_c rfl ?_)) : subL L L' := h
section
variable {X : Ctx} {ops : Array Oper} {F : List Nat} {fuel : Nat} {listed : Array Bool} {rest : List Oper} {k : List KI} {L : Slots} {d ty : Nat} {op : Op} {pos : String} {aft : Array Edge} {C B : World → Prop} {v : Value}
theorem oP (next : O X ops rest k ((d, v) :: L) C) (h : OpP X.P ⟨some d, op, ty, pos, aft, none⟩ L v := by exact p_pure rfl) (hd : Nat.blt d X.n = true := by rfl) : O X ops (⟨some d, op, ty, pos, aft, none⟩ :: rest) k L C := o_p h hd next
theorem dP (i : Nat) (next : D X ops F B fuel (listed.setIfInBounds i true) k ((d, v) :: L) C) (hi : ops[i]? = some ⟨some d, op, ty, pos, aft, none⟩ := by rfl) (h : OpP X.P ⟨some d, op, ty, pos, aft, none⟩ L v := by exact p_pure rfl) (hok : okFirst ops listed i = true := by kernel_rfl) (hF : F.all (fun f => !Nat.beq f i) = true := by rfl) (hd : Nat.blt d X.n = true := by rfl) : D X ops F B (fuel + 1) listed k L C := d_p i hi h hok hF hd next
end
end Gx

namespace Go.Proofs
open Go Go.RowKit Gx
set_option linter.unusedVariables false
set_option linter.unusedSimpArgs false
attribute [local irreducible] Go.Calls Gx.S Gx.O Gx.D Gx.OpP Gx.OpQ Gx.OpH

theorem sl_99 : tsl Tryd.prog 99 = some (25, 1, 8) := by kernel_rfl
theorem sz_25 : tsz Tryd.prog 25 = some (1, false) := by kernel_rfl
theorem sl_92 : tsl Tryd.prog 92 = some (5, 1, 1) := by kernel_rfl
theorem sz_5 : tsz Tryd.prog 5 = some (1, false) := by kernel_rfl
theorem sl_29 : tsl Tryd.prog 29 = some (9, 1, 16) := by kernel_rfl
theorem sz_9 : tsz Tryd.prog 9 = some (1, false) := by kernel_rfl
theorem fn_61 : isFn Tryd.prog 61 = true := by kernel_rfl


theorem str_get' {ss : List (List UInt8)} {k : Nat} (h : k < ss.length) : (ss.map strV)[k]? = some (.string (bs (ss.getD k []))) := str_get h
theorem same_below {w w' : World} (h : w' = w) : Below w.heap.size w w' := by subst h; exact Below.refl _ _
theorem ib97 (w : World) (l : List UInt8) (c : UInt8) : Calls Tryd.prog 97 #[.string (bs l), .int .u8 (c.toNat : Int)] w fun en w' => en = .returned (.int .i64 (Lib.indexByte l c)) ∧ Below w.heap.size w w' :=
  (Tryd.strings_IndexByte (bs l) (c.toNat : Int) w).mono fun e w' h => ⟨by rw [h.1]; simp [bs], same_below h.2⟩
theorem cp93 (w : World) (a b : List UInt8) : Calls Tryd.prog 93 #[.string (bs a), .string (bs b)] w fun en w' => en = .returned (.int .i64 (Lib.compareBytes a b)) ∧ Below w.heap.size w w' :=
  (Tryd.strings_Compare (bs a) (bs b) w).mono fun e w' h => ⟨by rw [h.1]; simp [bs], same_below h.2⟩
theorem hs91 (w : World) (s p : List UInt8) (hl : s.length ≤ 9223372036854775807) : Calls Tryd.prog 91 #[.string (bs s), .string (bs p)] w fun en w' => en = .returned (.bool (p.isSuffixOf s)) ∧ Below w.heap.size w w' :=
  (Tryd.strings_HasSuffix (bs s) (bs p) w (by simpa [bs, ByteArray.size] using hl)).mono fun e w' h => ⟨by rw [h.1]; simp [bs, Lib.hasSuffix], same_below h.2⟩

set_option maxRecDepth 20000 in
theorem c41 (w : World) (n lo hi : Int) : Calls Tryd.prog 41 #[.int .i64 n, .int .i64 lo, .int .i64 hi] w fun en w' => en = .returned (.bool (decide (lo ≤ n) && decide (n ≤ hi))) ∧ Below w.heap.size w w' := by
  refine enter (args := [_, _, _]) Tryd.func41 Tryd.ntmps41 rfl rfl (HS.refl w []) ?_
  refine s_seq ?_
  refine s_region ?_
  refine oP ?_
  refine o_nil ?_
  refine s_seq ?_
  refine s_region ?_
  refine oP ?_
  refine oP ?_
  refine oP ?_
  refine oP ?_
  refine o_and 4 10 14 _ _ rfl
    (by
      intro hg1
      have hs2 := hg1; try simp only [decide_eq_true_eq, decide_eq_false_iff_not, Bool.not_eq_true', Bool.not_eq_false', Bool.and_eq_true, Bool.or_eq_true, Bool.and_eq_false_iff, Bool.or_eq_false_iff, Bool.not_true, Bool.not_false] at hs2
      refine o_on 10 _ rfl rfl hg1 ?_
      refine oP ?_
      refine o_on 10 _ rfl rfl hg1 ?_
      refine oP ?_
      refine o_on 10 _ rfl rfl hg1 ?_
      refine oP ?_
      refine o_p (p_pickt rfl rfl hg1 rfl) rfl ?_
      refine o_nil ?_
      exact s_joinN 4 14 _ rfl rfl rfl (fun w h => by first | exact h | exact h.ent aEt))
    (by
      intro hg3
      have hs4 := hg3; try simp only [decide_eq_true_eq, decide_eq_false_iff_not, Bool.not_eq_true', Bool.not_eq_false', Bool.and_eq_true, Bool.or_eq_true, Bool.and_eq_false_iff, Bool.or_eq_false_iff, Bool.not_true, Bool.not_false] at hs4
      refine o_off 10 _ rfl rfl hg3 rfl ?_
      refine o_off 10 _ rfl rfl hg3 rfl ?_
      refine o_off 10 _ rfl rfl hg3 rfl ?_
      refine o_p (p_pickf rfl rfl hg3 rfl) rfl ?_
      refine o_nil ?_
      exact s_joinN 4 14 _ rfl rfl rfl (fun w h => by first | exact h | exact h.ent aEt)) ?_
  refine oP ?_
  refine o_nil ?_
  exact s_retv (rs := [.tmp 6]) rfl (.tmp rfl (.nil)) (fun w' h' => ⟨rfl, h'.below⟩)

set_option maxRecDepth 20000 in
theorem c61 (w : World) (ok : Bool) (e : Int) : Calls Tryd.prog 61 #[.bool ok, .int .i64 e] w fun en w' => en = .returned (.int .i64 (cond ok 0 e)) ∧ Below w.heap.size w w' := by
  refine enter (args := [_, _]) Tryd.func61 Tryd.ntmps61 rfl rfl (HS.refl w []) ?_
  refine s_seq ?_
  refine s_region ?_
  refine oP ?_
  refine o_nil ?_
  refine s_seq ?_
  refine s_seq ?_
  refine s_region ?_
  refine oP ?_
  refine o_nil ?_
  refine s_cond rfl (fun h1 => ?_) (fun h1 => ?_)
  · try simp only [decide_eq_true_eq, decide_eq_false_iff_not, Bool.not_eq_true', Bool.not_eq_false', Bool.and_eq_true, Bool.or_eq_true, Bool.and_eq_false_iff, Bool.or_eq_false_iff, Bool.not_true, Bool.not_false] at h1
    refine s_seq ?_
    refine s_region ?_
    refine oP ?_
    refine o_nil ?_
    exact s_retv (rs := [.tmp 4]) rfl (.tmp rfl (.nil)) (fun w' h' => ⟨by simp_all [retV], h'.below⟩)
  · try simp only [decide_eq_true_eq, decide_eq_false_iff_not, Bool.not_eq_true', Bool.not_eq_false', Bool.and_eq_true, Bool.or_eq_true, Bool.and_eq_false_iff, Bool.or_eq_false_iff, Bool.not_true, Bool.not_false] at h1
    refine s_skip ?_
    refine s_seq ?_
    refine s_region ?_
    refine oP ?_
    refine oP ?_
    refine o_nil ?_
    exact s_retv (rs := [.tmp 4]) rfl (.tmp rfl (.nil)) (fun w' h' => ⟨by simp_all [retV], h'.below⟩)

set_option maxRecDepth 20000 in
theorem c51 (w : World) (a : Option Addr) (cap : Nat) (es : List Int) (hs : Sl w [] a 1 es.length (fun i => [.int .i64 (es.getD i 0)])) (hm : es.length ≤ 1000) : Calls Tryd.prog 51 #[.slice a es.length cap] w fun en w' => en = .returned (.int .i64 (firstI es)) ∧ Below w.heap.size w w' := by
  refine enter (args := [_]) Tryd.func51 Tryd.ntmps51 rfl rfl (HS.refl w []) ?_
  refine s_seq ?_
  refine s_region ?_
  refine oP ?_
  refine o_nil ?_
  refine s_seq ?_
  refine s_seq ?_
  refine s_region ?_
  refine oP ?_
  refine o_p (p_len_slice rfl rfl Tryd.underlying99) rfl ?_
  refine oP ?_
  refine o_nil ?_
  refine s_block ?_
  refine s_loopI (α := Nat) [2, 4, 7, 8, 9, 10, 11, 12, 13, 14] (fun k => [(7, .int .i64 (k : Int))]) (fun _ => _) (fun k => k ≤ es.length ∧ firstI es = firstI (es.drop k)) (fun k => es.length - k) 0 ⟨by omega, rfl⟩ aSx (fun w h => h) (fun k hk => ?_)
  obtain ⟨hk1, hk2⟩ := hk
  refine s_seq ?_
  refine s_region ?_
  refine oP ?_
  refine o_nil ?_
  refine s_seq ?_
  refine s_cond rfl (fun h1 => ?_) (fun h1 => ?_)
  · try simp only [decide_eq_true_eq, decide_eq_false_iff_not, Bool.not_eq_true', Bool.not_eq_false', Bool.and_eq_true, Bool.or_eq_true, Bool.and_eq_false_iff, Bool.or_eq_false_iff, Bool.not_true, Bool.not_false] at h1
    refine s_skip ?_
    refine s_seq ?_
    refine s_block ?_
    refine s_seq ?_
    refine s_region ?_
    refine o_p (p_indexAddr rfl rfl rfl sl_99 _ rfl (by omega) (hs.some (by omega))) rfl ?_
    refine o_q (q_load_old rfl rfl sz_25 (hs.rd (i := k) (j := 0) (by omega) rfl)) rfl ?_
    refine oP ?_
    refine o_nil ?_
    refine s_seq ?_
    refine s_region ?_
    refine oP ?_
    refine oP ?_
    refine o_nil ?_
    refine s_cond rfl (fun h2 => ?_) (fun h2 => ?_)
    · try simp only [decide_eq_true_eq, decide_eq_false_iff_not, Bool.not_eq_true', Bool.not_eq_false', Bool.and_eq_true, Bool.or_eq_true, Bool.and_eq_false_iff, Bool.or_eq_false_iff, Bool.not_true, Bool.not_false] at h2
      refine s_seq ?_
      refine s_region ?_
      refine oP ?_
      refine oP ?_
      refine o_nil ?_
      exact s_retv (rs := [.tmp 2]) rfl (.tmp rfl (.nil)) (fun w' h' => ⟨by simp only [retV]; rw [hk2, firstI_drop (by omega), if_neg (by assumption)], h'.below⟩)
    · try simp only [decide_eq_true_eq, decide_eq_false_iff_not, Bool.not_eq_true', Bool.not_eq_false', Bool.and_eq_true, Bool.or_eq_true, Bool.and_eq_false_iff, Bool.or_eq_false_iff, Bool.not_true, Bool.not_false] at h2
      refine s_skip ?_
      refine s_blk ?_
      refine s_region ?_
      refine oP ?_
      try (refine o_slot (i64w (by omega) (by omega)) ?_)
      refine oP ?_
      refine o_nil ?_
      exact s_backI (k+1) (by omega) ⟨by omega, by rw [hk2, firstI_drop (by omega), if_pos (by assumption)]⟩ aSx (fun w h => h)
  · try simp only [decide_eq_true_eq, decide_eq_false_iff_not, Bool.not_eq_true', Bool.not_eq_false', Bool.and_eq_true, Bool.or_eq_true, Bool.and_eq_false_iff, Bool.or_eq_false_iff, Bool.not_true, Bool.not_false] at h1
    refine s_exit_to rfl ?_
    refine s_seq ?_
    refine s_region ?_
    refine oP ?_
    refine o_nil ?_
    exact s_retv (rs := [.tmp 2]) rfl (.tmp rfl (.nil)) (fun w' h' => ⟨by simp only [retV]; rw [hk2, firstI_end (by omega)], h'.below⟩)

theorem f51 {w0 w : World} {M : List Nat} {As As' : List HA} {b cap n : Nat} {t : TypeId} {tot : Nat} {cs : List Value} (h : HS w0 M As w) (hp : Pick As (.blk b t tot cs) As') (hc : cs.all isI64 = true) (hn : cs.length = n) (hl : n ≤ 1000) :
    Calls Tryd.prog 51 #[.slice (some ⟨b, 0, none⟩) n cap] w fun en w' => en = .returned (.int .i64 (firstV cs)) ∧ Below w.heap.size w w' := by
  subst hn
  have := c51 w (some ⟨b, 0, none⟩) cap (cs.map Go.RowKit.intOf) (by simpa using h.sl_ints hp hc) (by simpa using hl)
  rw [firstV_eq hc] at this
  simpa using this

set_option maxRecDepth 20000 in
theorem c68 (w : World) (a : Option Addr) (cap : Nat) (l : List (UInt8)) (q : Nat) (cv : Array Value) (es : List Int) (hs : Vl w a (l.map bv)) (hm : l.length ≤ 1000000) (hq : isFn Tryd.prog q = true) (he : es.length = l.length) (hc : ∀ k w1, k < l.length → HS w [] [] w1 → Calls Tryd.prog q (#[] ++ [.int .u8 ((l.getD k 0).toNat : Int)].toArray ++ cv) w1 fun en w2 => en = .returned (.int .i64 (es.getD k 0)) ∧ Below w1.heap.size w1 w2) : Calls Tryd.prog 68 #[.slice a l.length cap, .func (.func q) #[] cv] w fun en w' => en = .returned (.tuple #[.int .i64 (eachF es 0).1, .int .i64 (eachF es 0).2]) ∧ Below w.heap.size w w' := by
  refine enter (args := [_, _]) Tryd.func68 Tryd.ntmps68 rfl rfl (HS.refl w []) ?_
  refine s_seq ?_
  refine s_region ?_
  refine oP ?_
  refine oP ?_
  refine o_nil ?_
  refine s_seq ?_
  refine s_seq ?_
  refine s_region ?_
  refine oP ?_
  refine o_p (p_len_slice rfl rfl Tryd.underlying92) rfl ?_
  refine oP ?_
  refine o_nil ?_
  refine s_block ?_
  refine s_loopI (α := Nat) [4, 5, 6, 7, 8, 11, 12, 13, 14, 15, 16, 17, 18, 19, 20, 21, 22, 23] (fun k => [(11, .int .i64 (k : Int))]) (fun _ => HS w [] []) (fun k => k ≤ l.length ∧ eachF es 0 = eachF (es.drop k) k) (fun k => l.length - k) 0 ⟨by omega, rfl⟩ aSx (fun w h => h.ent aEt) (fun k hk => ?_)
  obtain ⟨hk1, hk2⟩ := hk
  refine s_seq ?_
  refine s_region ?_
  refine oP ?_
  refine o_nil ?_
  refine s_seq ?_
  refine s_cond rfl (fun h1 => ?_) (fun h1 => ?_)
  · try simp only [decide_eq_true_eq, decide_eq_false_iff_not, Bool.not_eq_true', Bool.not_eq_false', Bool.and_eq_true, Bool.or_eq_true, Bool.and_eq_false_iff, Bool.or_eq_false_iff, Bool.not_true, Bool.not_false] at h1
    refine s_skip ?_
    refine s_seq ?_
    refine s_block ?_
    refine s_seq ?_
    refine s_region ?_
    refine oP ?_
    refine o_p (p_indexAddr rfl rfl rfl sl_92 (k) (by omega) (by omega) (hs.some (by rw [List.length_map]; omega))) rfl ?_
    refine o_q (q_load_old rfl rfl sz_5 ((hs.rd (bv_get (k := k) (by omega))))) rfl ?_
    refine oP ?_
    refine oP ?_
    refine o_nil ?_
    refine s_seq ?_
    refine s_region ?_
    refine oP ?_
    refine oP ?_
    refine o_q (q_callv rfl rfl hq rfl (fun w1 h1 => hc k w1 (by omega) (h1.ent aEt))) rfl ?_
    refine oP ?_
    refine o_nil ?_
    refine s_seq ?_
    refine s_region ?_
    refine oP ?_
    refine oP ?_
    refine o_nil ?_
    refine s_cond rfl (fun h2 => ?_) (fun h2 => ?_)
    · try simp only [decide_eq_true_eq, decide_eq_false_iff_not, Bool.not_eq_true', Bool.not_eq_false', Bool.and_eq_true, Bool.or_eq_true, Bool.and_eq_false_iff, Bool.or_eq_false_iff, Bool.not_true, Bool.not_false] at h2
      refine s_seq ?_
      refine s_region ?_
      refine oP ?_
      refine oP ?_
      refine oP ?_
      refine oP ?_
      refine o_nil ?_
      exact s_retv (rs := [.tmp 4, .tmp 5]) rfl (.tmp rfl (.tmp rfl (.nil))) (fun w' h' => ⟨by simp only [retV]; rw [hk2, eachF_drop (by omega), if_neg (by assumption)], h'.below⟩)
    · try simp only [decide_eq_true_eq, decide_eq_false_iff_not, Bool.not_eq_true', Bool.not_eq_false', Bool.and_eq_true, Bool.or_eq_true, Bool.and_eq_false_iff, Bool.or_eq_false_iff, Bool.not_true, Bool.not_false] at h2
      refine s_skip ?_
      refine s_blk ?_
      refine s_region ?_
      refine oP ?_
      try (refine o_slot (i64w (by omega) (by omega)) ?_)
      refine oP ?_
      refine o_nil ?_
      exact s_backI (k+1) (by omega) ⟨by omega, by rw [hk2, eachF_drop (by omega), if_pos (by assumption)]⟩ aSx (fun w h => h.ent aEt)
  · try simp only [decide_eq_true_eq, decide_eq_false_iff_not, Bool.not_eq_true', Bool.not_eq_false', Bool.and_eq_true, Bool.or_eq_true, Bool.and_eq_false_iff, Bool.or_eq_false_iff, Bool.not_true, Bool.not_false] at h1
    refine s_exit_to rfl ?_
    refine s_seq ?_
    refine s_region ?_
    refine oP ?_
    refine oP ?_
    refine o_nil ?_
    exact s_retv (rs := [.tmp 4, .tmp 5]) rfl (.tmp rfl (.tmp rfl (.nil))) (fun w' h' => ⟨by simp only [retV]; rw [hk2, eachF_end (by omega)], h'.below⟩)

set_option maxRecDepth 20000 in
theorem c83 (w : World) (a : Option Addr) (cap : Nat) (l : List (List UInt8)) (q : Nat) (cv : Array Value) (es : List Int) (hs : Vl w a (l.map strV)) (hm : l.length ≤ 1000000) (hq : isFn Tryd.prog q = true) (he : es.length = l.length) (hc : ∀ k w1, k < l.length → HS w [] [] w1 → Calls Tryd.prog q (#[] ++ [.string (bs (l.getD k []))].toArray ++ cv) w1 fun en w2 => en = .returned (.int .i64 (es.getD k 0)) ∧ Below w1.heap.size w1 w2) : Calls Tryd.prog 83 #[.slice a l.length cap, .func (.func q) #[] cv] w fun en w' => en = .returned (.tuple #[.int .i64 (eachF es 0).1, .int .i64 (eachF es 0).2]) ∧ Below w.heap.size w w' := by
  refine enter (args := [_, _]) Tryd.func83 Tryd.ntmps83 rfl rfl (HS.refl w []) ?_
  refine s_seq ?_
  refine s_region ?_
  refine oP ?_
  refine oP ?_
  refine o_nil ?_
  refine s_seq ?_
  refine s_seq ?_
  refine s_region ?_
  refine oP ?_
  refine o_p (p_len_slice rfl rfl Tryd.underlying29) rfl ?_
  refine oP ?_
  refine o_nil ?_
  refine s_block ?_
  refine s_loopI (α := Nat) [4, 5, 6, 7, 8, 11, 12, 13, 14, 15, 16, 17, 18, 19, 20, 21, 22, 23] (fun k => [(11, .int .i64 (k : Int))]) (fun _ => HS w [] []) (fun k => k ≤ l.length ∧ eachF es 0 = eachF (es.drop k) k) (fun k => l.length - k) 0 ⟨by omega, rfl⟩ aSx (fun w h => h.ent aEt) (fun k hk => ?_)
  obtain ⟨hk1, hk2⟩ := hk
  refine s_seq ?_
  refine s_region ?_
  refine oP ?_
  refine o_nil ?_
  refine s_seq ?_
  refine s_cond rfl (fun h1 => ?_) (fun h1 => ?_)
  · try simp only [decide_eq_true_eq, decide_eq_false_iff_not, Bool.not_eq_true', Bool.not_eq_false', Bool.and_eq_true, Bool.or_eq_true, Bool.and_eq_false_iff, Bool.or_eq_false_iff, Bool.not_true, Bool.not_false] at h1
    refine s_skip ?_
    refine s_seq ?_
    refine s_block ?_
    refine s_seq ?_
    refine s_region ?_
    refine oP ?_
    refine o_p (p_indexAddr rfl rfl rfl sl_29 (k) (by omega) (by omega) (hs.some (by rw [List.length_map]; omega))) rfl ?_
    refine o_q (q_load_old rfl rfl sz_9 ((hs.rd (str_get'  (k := k) (by omega))))) rfl ?_
    refine oP ?_
    refine oP ?_
    refine o_nil ?_
    refine s_seq ?_
    refine s_region ?_
    refine oP ?_
    refine oP ?_
    refine o_q (q_callv rfl rfl hq rfl (fun w1 h1 => hc k w1 (by omega) (h1.ent aEt))) rfl ?_
    refine oP ?_
    refine o_nil ?_
    refine s_seq ?_
    refine s_region ?_
    refine oP ?_
    refine oP ?_
    refine o_nil ?_
    refine s_cond rfl (fun h2 => ?_) (fun h2 => ?_)
    · try simp only [decide_eq_true_eq, decide_eq_false_iff_not, Bool.not_eq_true', Bool.not_eq_false', Bool.and_eq_true, Bool.or_eq_true, Bool.and_eq_false_iff, Bool.or_eq_false_iff, Bool.not_true, Bool.not_false] at h2
      refine s_seq ?_
      refine s_region ?_
      refine oP ?_
      refine oP ?_
      refine oP ?_
      refine oP ?_
      refine o_nil ?_
      exact s_retv (rs := [.tmp 4, .tmp 5]) rfl (.tmp rfl (.tmp rfl (.nil))) (fun w' h' => ⟨by simp only [retV]; rw [hk2, eachF_drop (by omega), if_neg (by assumption)], h'.below⟩)
    · try simp only [decide_eq_true_eq, decide_eq_false_iff_not, Bool.not_eq_true', Bool.not_eq_false', Bool.and_eq_true, Bool.or_eq_true, Bool.and_eq_false_iff, Bool.or_eq_false_iff, Bool.not_true, Bool.not_false] at h2
      refine s_skip ?_
      refine s_blk ?_
      refine s_region ?_
      refine oP ?_
      try (refine o_slot (i64w (by omega) (by omega)) ?_)
      refine oP ?_
      refine o_nil ?_
      exact s_backI (k+1) (by omega) ⟨by omega, by rw [hk2, eachF_drop (by omega), if_pos (by assumption)]⟩ aSx (fun w h => h.ent aEt)
  · try simp only [decide_eq_true_eq, decide_eq_false_iff_not, Bool.not_eq_true', Bool.not_eq_false', Bool.and_eq_true, Bool.or_eq_true, Bool.and_eq_false_iff, Bool.or_eq_false_iff, Bool.not_true, Bool.not_false] at h1
    refine s_exit_to rfl ?_
    refine s_seq ?_
    refine s_region ?_
    refine oP ?_
    refine oP ?_
    refine o_nil ?_
    exact s_retv (rs := [.tmp 4, .tmp 5]) rfl (.tmp rfl (.tmp rfl (.nil))) (fun w' h' => ⟨by simp only [retV]; rw [hk2, eachF_end (by omega)], h'.below⟩)

set_option maxRecDepth 20000 in
theorem c69 (w : World) (c : UInt8) : Calls Tryd.prog 69 #[.int .u8 (c.toNat : Int)] w fun en w' => en = .returned (.int .i64 (rngB c)) ∧ Below w.heap.size w w' := by
  have hlt := c.toNat_lt
  refine enter (args := [_]) Tryd.func69 Tryd.ntmps69 rfl rfl (HS.refl w []) ?_
  refine s_seq ?_
  refine s_region ?_
  refine oP ?_
  refine o_nil ?_
  refine s_seq ?_
  refine s_region ?_
  refine oP ?_
  refine oP ?_
  refine o_q (q_call rfl fn_61 rfl (fun w1 h1 => c61 w1 _ _)) rfl ?_
  refine oP ?_
  refine o_nil ?_
  exact s_retv (rs := [.tmp 2]) rfl (.tmp rfl (.nil)) (fun w' h' => ⟨by simp only [retV, rngB, cond_eq_ite, decide_eq_true_eq]; congr 2; (try simp) <;> omega, h'.below⟩)

set_option maxRecDepth 20000 in
theorem c70 (w : World) (b : Nat) (t : List UInt8) (c : UInt8) (hr : Rd w [] b 0 (.string (bs t))) (hc : c.toNat < t.length) : Calls Tryd.prog 70 #[.int .u8 (c.toNat : Int), .pointer (some ⟨b, 0, none⟩)] w fun en w' => en = .returned (.int .i64 (frmB t c)) ∧ Below w.heap.size w w' := by
  have e9 : ((t.getD c.toNat 0).toNat : Int) = (c.toNat : Int) ↔ t.getD c.toNat 0 = c := ⟨fun h => UInt8.toNat_inj.1 (by omega), fun h => by rw [h]⟩
  refine enter (args := [_, _]) Tryd.func70 Tryd.ntmps70 rfl rfl (HS.refl w []) ?_
  refine s_seq ?_
  refine s_region ?_
  refine oP ?_
  refine o_nil ?_
  refine s_seq ?_
  refine s_region ?_
  refine o_q (q_load_old rfl rfl sz_9 (hr)) rfl ?_
  refine oP ?_
  refine o_p (p_index_str rfl rfl rfl Tryd.underlying9 (c.toNat) (by omega) (by omega)) rfl ?_
  refine oP ?_
  refine oP ?_
  refine o_q (q_call rfl fn_61 rfl (fun w1 h1 => c61 w1 _ _)) rfl ?_
  refine oP ?_
  refine o_nil ?_
  exact s_retv (rs := [.tmp 3]) rfl (.tmp rfl (.nil)) (fun w' h' => ⟨by simp only [retV, frmB, cond_eq_ite, decide_eq_true_eq, e9], h'.below⟩)

end Go.Proofs

