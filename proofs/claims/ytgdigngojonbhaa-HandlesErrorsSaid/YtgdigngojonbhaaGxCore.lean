/- The engine's core: judgements over (known slots, world class), and the structural rules of Go code. Nothing of a program is named here. -/
import Derived.WalkKit
import Derived.Deep.Draws
namespace Gx
open Go Go.RowKit

/-! ## Slots -/
abbrev Slots := List (Nat × Value)
def Slots.get : Slots → Nat → Option Value
  | [], _ => none
  | (k, v) :: L, t => bif Nat.beq k t then some v else Slots.get L t
def ev (L : Slots) : Operand → Option Value
  | .tmp t => Slots.get L t
  | .const v => some v
  | .global g => some (.pointer (some ⟨g, 0, none⟩))
  | .func f => some (.func (.func f) #[] #[])
/-- What is known of a frame: no defers, its size, the listed slots. -/
structure FR (n : Nat) (L : Slots) (a : Act) : Prop where
  defers : a.defers = []
  size : a.tmps.size = n
  slot : ∀ t v, Slots.get L t = some v → a.tmps[t]? = some v
theorem FR.evl {n : Nat} {L : Slots} {a : Act} (h : FR n L a) {x : Operand} {v : Value} (hx : ev L x = some v) : a.eval x = v := by
  cases x with
  | tmp t => simp only [Act.eval, Array.getD_eq_getD_getElem?, h.slot t v hx, Option.getD_some]
  | const u => simpa [Gx.ev, Act.eval] using hx
  | global g => simpa [Gx.ev, Act.eval] using hx
  | func f => simpa [Gx.ev, Act.eval] using hx
theorem Slots.get_cons (L : Slots) (k t : Nat) (v : Value) : Slots.get ((k, v) :: L) t = if k = t then some v else Slots.get L t := by
  simp only [Slots.get]
  by_cases h : k = t
  · subst h; simp [Nat.beq_refl]
  · have : Nat.beq k t = false := by
      cases hb : Nat.beq k t
      · rfl
      · exact absurd (Nat.eq_of_beq_eq_true hb) h
    simp [this, h]
theorem FR.put {n : Nat} {L : Slots} {a : Act} (h : FR n L a) (d : Nat) (v : Value) (hd : Nat.blt d n = true) : FR n ((d, v) :: L) (a.put (some d) v) := by
  have hd' : d < n := by simpa [Nat.blt_eq] using hd
  refine ⟨h.defers, by simp [Act.put, h.size], fun t u hu => ?_⟩
  rw [Slots.get_cons] at hu
  show (a.tmps.setIfInBounds d v)[t]? = some u
  rw [Array.getElem?_setIfInBounds]
  by_cases e : d = t
  · subst e
    rw [if_pos rfl] at hu
    rw [if_pos rfl, if_pos (by rw [h.size]; exact hd')]
    exact hu
  · rw [if_neg e] at hu
    rw [if_neg e]
    exact h.slot t u hu
theorem FR.sub {n : Nat} {L L' : Slots} {a : Act} (h : FR n L a) (hs : ∀ p ∈ L', Slots.get L p.1 = some p.2) : FR n L' a := by
  refine ⟨h.defers, h.size, fun t v hv => ?_⟩
  induction L' with
  | nil => cases hv
  | cons p L' ih =>
    obtain ⟨k, u⟩ := p
    rw [Slots.get_cons] at hv
    by_cases e : k = t
    · rw [if_pos e] at hv
      subst e
      injection hv with hv
      subst hv
      exact h.slot _ _ (hs (k, u) (List.mem_cons_self ..))
    · rw [if_neg e] at hv
      exact ih (fun p hp => hs p (List.mem_cons_of_mem _ hp)) hv
/-- A list of slots is part of another one: by reckoning. -/
def subL (L : Slots) : Slots → Prop
  | [] => True
  | (k, v) :: r => Slots.get L k = some v ∧ subL L r
theorem subL.all {L : Slots} : ∀ {L' : Slots}, subL L L' → ∀ p ∈ L', Slots.get L p.1 = some p.2
  | [], _, p, hp => by cases hp
  | (k, v) :: r, h, p, hp => by
    rcases List.mem_cons.1 hp with rfl | hp
    · exact h.1
    · exact subL.all h.2 p hp

theorem sl_n {L : Slots} : subL L [] := trivial
theorem sl_c {L : Slots} {k : Nat} {v : Value} {r : Slots} (h : Slots.get L k = some v) (hr : subL L r) : subL L ((k, v) :: r) := ⟨h, hr⟩

/-! ## What is still to be done -/
def KI : Type := Sum Code (Sum Nat (Act → World → Prop))
def KI.c (c : Code) : KI := Sum.inl c
def KI.blk (id : Nat) : KI := Sum.inr (Sum.inl id)
def KI.join (J : Act → World → Prop) : KI := Sum.inr (Sum.inr J)
structure Ctx where
  P : Program
  fn : Func
  n : Nat
  R : Ending → World → Prop
def post (X : Ctx) : List KI → Exit → Act → World → Prop
  | [], e, a, w => bodyPost X.P X.fn X.R e a w
  | Sum.inl c :: k, .normal, a, w => c.wp X.P (post X k) a w
  | Sum.inl _ :: k, e, a, w => post X k e a w
  | Sum.inr (Sum.inl id) :: k, .exit id', a, w => if id' = id then post X k .normal a w else post X k (.exit id') a w
  | Sum.inr (Sum.inl _) :: k, e, a, w => post X k e a w
  | Sum.inr (Sum.inr J) :: _, .normal, a, w => J a w
  | Sum.inr (Sum.inr _) :: k, e, a, w => post X k e a w
/-- From every frame with these slots, in every world of this class, what is to be done ends well. -/
def S (X : Ctx) (k : List KI) (L : Slots) (C : World → Prop) : Prop := ∀ a w, FR X.n L a → C w → post X k .normal a w
/-- .. after an exit. -/
def SE (X : Ctx) (e : Exit) (k : List KI) (L : Slots) (C : World → Prop) : Prop := ∀ a w, FR X.n L a → C w → post X k e a w
/-- .. in the middle of a region. -/
def O (X : Ctx) (ops : Array Oper) (rest : List Oper) (k : List KI) (L : Slots) (C : World → Prop) : Prop :=
  ∀ a w, FR X.n L a → C w → wpList X.P ops (post X k) rest a w

section
variable {X : Ctx} {k : List KI} {L : Slots} {C : World → Prop}
theorem s_seq {x y : Code} (h : S X (.c x :: .c y :: k) L C) : S X (.c (.seq x y) :: k) L C := by
  intro a w ha hw
  have := h a w ha hw
  refine wp_seq (wp_mono (Q' := Exit.then (y.wp X.P (post X k)) (post X k)) this fun e a w he => ?_)
  cases e <;> exact he
theorem s_skip (h : S X k L C) : S X (.c .skip :: k) L C := fun a w ha hw => wp_skip (h a w ha hw)
theorem s_label {l : Nat} (h : S X k L C) : S X (.c (.label l) :: k) L C := fun a w ha hw => wp_label (h a w ha hw)
theorem s_block {id : Nat} {c : Code} (h : S X (.c c :: .blk id :: k) L C) : S X (.c (.block id c) :: k) L C := by
  intro a w ha hw
  refine wp_block (wp_mono (h a w ha hw) fun e a w he => ?_)
  cases e <;> exact he
theorem s_blk {id : Nat} (h : S X k L C) : S X (.blk id :: k) L C := fun a w ha hw => h a w ha hw
theorem s_exit {id : Nat} (h : SE X (.exit id) k L C) : S X (.c (.exit id) :: k) L C := fun a w ha hw => wp_exit (h a w ha hw)
theorem se_c {e : Exit} {c : Code} (he : e ≠ .normal) (h : SE X e k L C) : SE X e (.c c :: k) L C := by
  intro a w ha hw
  have := h a w ha hw
  cases e <;> first | exact this | exact absurd rfl he
theorem se_exit_c {id : Nat} {c : Code} (h : SE X (.exit id) k L C) : SE X (.exit id) (.c c :: k) L C := se_c (by simp) h
theorem se_exit_join {id : Nat} {J : Act → World → Prop} (h : SE X (.exit id) k L C) : SE X (.exit id) (.join J :: k) L C := fun a w ha hw => h a w ha hw
theorem se_exit_here {id : Nat} (h : S X k L C) : SE X (.exit id) (.blk id :: k) L C := by
  intro a w ha hw
  show (if id = id then _ else _)
  rw [if_pos rfl]
  exact h a w ha hw
theorem se_exit_past {id id' : Nat} (hne : Nat.beq id id' = false) (h : SE X (.exit id) k L C) : SE X (.exit id) (.blk id' :: k) L C := by
  intro a w ha hw
  show (if id = id' then _ else _)
  rw [if_neg (fun e => by subst e; simp [Nat.beq_refl] at hne)]
  exact h a w ha hw
/-- Where an exit leads, by reckoning. -/
def popTo (id : Nat) : List KI → Option (List KI)
  | [] => none
  | Sum.inr (Sum.inl id') :: k => bif Nat.beq id id' then some k else popTo id k
  | _ :: k => popTo id k
theorem se_pop {id : Nat} : ∀ {k k' : List KI}, popTo id k = some k' → S X k' L C → SE X (.exit id) k L C
  | [], _, h, _ => by cases h
  | Sum.inl c :: k, k', h, hs => se_exit_c (se_pop (k := k) h hs)
  | Sum.inr (Sum.inr J) :: k, k', h, hs => se_exit_join (se_pop (k := k) h hs)
  | Sum.inr (Sum.inl id') :: k, k', h, hs => by
    simp only [popTo] at h
    cases hb : Nat.beq id id' with
    | true =>
      have e := Nat.eq_of_beq_eq_true hb
      subst e
      rw [hb] at h
      injection h with h
      subst h
      exact se_exit_here hs
    | false =>
      rw [hb] at h
      exact se_exit_past hb (se_pop (k := k) h hs)
theorem s_exit_to {id : Nat} {k' : List KI} (h : popTo id k = some k') (hs : S X k' L C) : S X (.c (.exit id) :: k) L C := s_exit (se_pop h hs)
theorem s_cond {c : Operand} {x y : Code} {b : Bool} (hc : ev L c = some (.bool b)) (ht : b = true → S X (.c x :: k) L C) (hf : b = false → S X (.c y :: k) L C) :
    S X (.c (.cond c x y) :: k) L C := fun a w ha hw => wp_cond_split (ha.evl hc) (fun h => ht h a w ha hw) (fun h => hf h a w ha hw)
theorem s_ret (h : SE X .ret k L C) : S X (.c .ret :: k) L C := fun a w ha hw => wp_ret (h a w ha hw)
theorem se_ret_pop : ∀ {k : List KI}, SE X .ret [] L C → SE X .ret k L C
  | [], h => h
  | Sum.inl _ :: k, h => fun a w ha hw => se_ret_pop (k := k) h a w ha hw
  | Sum.inr (Sum.inl _) :: k, h => fun a w ha hw => se_ret_pop (k := k) h a w ha hw
  | Sum.inr (Sum.inr _) :: k, h => fun a w ha hw => se_ret_pop (k := k) h a w ha hw
/-- One result in a slot. -/
theorem s_ret1 {t : Nat} {v : Value} (hr : X.fn.results = #[.tmp t]) (hv : ev L (.tmp t) = some v) (h : ∀ w, C w → X.R (.returned v) w) : S X (.c .ret :: k) L C :=
  s_ret (se_ret_pop fun a w ha hw => ⟨ha.defers, v, by rw [results_tmp hr]; rw [show a.tmps.getD t undef = v from ha.evl hv], h w hw⟩)
theorem s_ret2 {t u : Nat} {v v' : Value} (hr : X.fn.results = #[.tmp t, .tmp u]) (hv : ev L (.tmp t) = some v) (hv' : ev L (.tmp u) = some v') (h : ∀ w, C w → X.R (.returned (.tuple #[v, v'])) w) : S X (.c .ret :: k) L C :=
  s_ret (se_ret_pop fun a w ha hw => ⟨ha.defers, _, by rw [results_tmp2 hr, show a.tmps.getD t undef = v from ha.evl hv, show a.tmps.getD u undef = v' from ha.evl hv'], h w hw⟩)
/-- No result: the end of the body, or a return. -/
theorem s_end0 (hr : X.fn.results = #[]) (h : ∀ w, C w → X.R (.returned (.tuple #[])) w) : S X [] L C :=
  fun _ w ha hw => ⟨ha.defers, _, results_none hr _ _ _, h w hw⟩
theorem s_ret0 (hr : X.fn.results = #[]) (h : ∀ w, C w → X.R (.returned (.tuple #[])) w) : S X (.c .ret :: k) L C :=
  s_ret (se_ret_pop fun _ w ha hw => ⟨ha.defers, _, results_none hr _ _ _, h w hw⟩)
/-- Any results, reckoned in memory. -/
theorem s_ret_gen {v : Value} (hr : ∀ a w, FR X.n L a → C w → (results X.fn a.tmps).run X.P w = .ok v w) (h : ∀ w, C w → X.R (.returned v) w) : S X (.c .ret :: k) L C :=
  s_ret (se_ret_pop fun a w ha hw => ⟨ha.defers, v, hr a w ha hw, h w hw⟩)
theorem s_region {id : Nat} {l : List Oper} (h : O X l.toArray l k L C) : S X (.c (.region id l.toArray false) :: k) L C :=
  fun a w ha hw => wp_region_lit (h a w ha hw)
theorem o_nil {ops : Array Oper} (h : S X k L C) : O X ops [] k L C := fun a w ha hw => wpList_nil (h a w ha hw)
theorem s_weaken {L' : Slots} {C' : World → Prop} (hL : subL L L') (hC : ∀ w, C w → C' w) (h : S X k L' C') : S X k L C :=
  fun a w ha hw => h a w (ha.sub hL.all) (hC w hw)
theorem s_class {C' : World → Prop} (hC : ∀ w, C w → C' w) (h : S X k L C') : S X k L C := fun a w ha hw => h a w ha (hC w hw)
theorem o_class {C' : World → Prop} {ops : Array Oper} {rest : List Oper} (hC : ∀ w, C w → C' w) (h : O X ops rest k L C') : O X ops rest k L C := fun a w ha hw => h a w ha (hC w hw)
/-- A fact about data that the class bears. -/
theorem s_fact {p : Prop} (hp : ∀ w, C w → p) (h : p → S X k L C) : S X k L C := fun a w ha hw => h (hp w hw) a w ha hw
theorem o_fact {p : Prop} {ops : Array Oper} {rest : List Oper} (hp : ∀ w, C w → p) (h : p → O X ops rest k L C) : O X ops rest k L C := fun a w ha hw => h (hp w hw) a w ha hw
theorem s_ex {α : Type} {D : α → World → Prop} (hp : ∀ w, C w → ∃ x, D x w) (h : ∀ x, S X k L (D x)) : S X k L C := fun a w ha hw => let ⟨x, hx⟩ := hp w hw; h x a w ha hx
theorem o_ex {α : Type} {D : α → World → Prop} {ops : Array Oper} {rest : List Oper} (hp : ∀ w, C w → ∃ x, D x w) (h : ∀ x, O X ops rest k L (D x)) : O X ops rest k L C := fun a w ha hw => let ⟨x, hx⟩ := hp w hw; h x a w ha hx
/-- A slot's value by another name. -/
theorem s_slot {d : Nat} {v u : Value} (e : v = u) (h : S X k ((d, u) :: L) C) : S X k ((d, v) :: L) C := by subst e; exact h
theorem o_slot {d : Nat} {v u : Value} {ops : Array Oper} {rest : List Oper} (e : v = u) (h : O X ops rest k ((d, u) :: L) C) : O X ops rest k ((d, v) :: L) C := by subst e; exact h

/-! ## A place where ways meet -/
/-- What is known there: some x, these slots, this class. -/
def At (n : Nat) {α : Type} (LJ : α → Slots) (CJ : α → World → Prop) (a : Act) (w : World) : Prop := ∃ x, FR n (LJ x) a ∧ CJ x w
theorem s_cut {α : Type} {c : Code} (LJ : α → Slots) (CJ : α → World → Prop) (h1 : S X (.c c :: .join (At X.n LJ CJ) :: k) L C) (h2 : ∀ x, S X k (LJ x) (CJ x)) : S X (.c c :: k) L C := by
  intro a w ha hw
  refine wp_mono (h1 a w ha hw) fun e a w he => ?_
  cases e with
  | normal => obtain ⟨x, hx, hc⟩ := he; exact h2 x a w hx hc
  | _ => exact he
theorem s_join {α : Type} {LJ : α → Slots} {CJ : α → World → Prop} (x : α) (hL : subL L (LJ x)) (hC : ∀ w, C w → CJ x w) : S X (.join (At X.n LJ CJ) :: k) L C :=
  fun _ w ha hw => ⟨x, ha.sub hL.all, hC w hw⟩
/-- A loop: at each round's head some x, these slots, this class; a measure of x goes down. -/
def Back (n : Nat) {α : Type} (LJ : α → Slots) (CJ : α → World → Prop) (m : α → Nat) (x : α) (a : Act) (w : World) : Prop := ∃ y, m y < m x ∧ FR n (LJ y) a ∧ CJ y w
theorem s_loop {α : Type} {c : Code} (LJ : α → Slots) (CJ : α → World → Prop) (m : α → Nat) (x0 : α) (hL : subL L (LJ x0)) (hC : ∀ w, C w → CJ x0 w)
    (h : ∀ x, S X (.c c :: .join (Back X.n LJ CJ m x) :: k) (LJ x) (CJ x)) : S X (.c (.loop c) :: k) L C := by
  intro a w ha hw
  have key : ∀ N x, m x = N → ∀ (a : Act) (w : World), FR X.n (LJ x) a → CJ x w → ∀ (b : Frame) (kk : List Item) (cs : List Frame),
      ∃ e a' w', post X k e a' w' ∧ Arrives X.P (lone (b.at a (.code c :: .inLoop c :: kk)) cs w) b kk cs e a' w' := by
    intro N
    induction N using Nat.strongRecOn with
    | _ N ih =>
      intro x hN a w hfr hcj b kk cs
      obtain ⟨e, a₁, w₁, hq, harr⟩ := h x a w hfr hcj b (.inLoop c :: kk) cs
      cases e with
      | normal =>
        obtain ⟨y, hlt, hfr', hcj'⟩ := hq
        obtain ⟨e₂, a₂, w₂, hq₂, harr₂⟩ := ih (m y) (hN ▸ hlt) y rfl a₁ w₁ hfr' hcj' b kk cs
        exact ⟨e₂, a₂, w₂, hq₂, .of_steps (Steps.trans harr (.one step_inLoop)) harr₂⟩
      | exit id => exact ⟨_, a₁, w₁, hq, .pass (x := .inLoop c) rfl (fun _ _ => .inl (by simp)) harr⟩
      | goto l => exact ⟨_, a₁, w₁, hq, .pass (x := .inLoop c) rfl (fun _ _ => .inl (by simp)) harr⟩
      | ret => exact ⟨_, a₁, w₁, hq, .pass (x := .inLoop c) rfl (fun _ _ => .inl (by simp)) harr⟩
      | panic ch => exact ⟨_, a₁, w₁, hq, .pass (x := .inLoop c) rfl (fun _ _ => .inl (by simp)) harr⟩
      | outgrown => exact ⟨_, a₁, w₁, hq, .pass (x := .inLoop c) rfl (fun _ _ => .inl (by simp)) harr⟩
  intro b kk cs
  obtain ⟨e, a', w', hq, harr⟩ := key _ x0 rfl a w (ha.sub hL.all) (hC w hw) b kk cs
  exact ⟨e, a', w', hq, .of_steps (.one step_loop) harr⟩
theorem s_back {α : Type} {LJ : α → Slots} {CJ : α → World → Prop} {m : α → Nat} {x : α} (y : α) (hm : m y < m x) (hL : subL L (LJ y)) (hC : ∀ w, C w → CJ y w) : S X (.join (Back X.n LJ CJ m x) :: k) L C :=
  fun _ w ha hw => ⟨y, hm, ha.sub hL.all, hC w hw⟩
end

/-! ## Entering a function -/
def argL : Nat → List Value → Slots
  | _, [] => []
  | i, v :: vs => (i, v) :: argL (i + 1) vs
theorem argL_get : ∀ (vs : List Value) (i t : Nat) (v : Value), Slots.get (argL i vs) t = some v → i ≤ t ∧ vs[t - i]? = some v
  | [], _, _, _, h => by cases h
  | u :: vs, i, t, v, h => by
    rw [argL, Slots.get_cons] at h
    by_cases e : i = t
    · rw [if_pos e] at h; subst e; exact ⟨Nat.le_refl _, by simpa using h⟩
    · rw [if_neg e] at h
      obtain ⟨h1, h2⟩ := argL_get vs (i + 1) t v h
      refine ⟨by omega, ?_⟩
      rw [show t - i = (t - (i + 1)) + 1 by omega]
      simpa using h2
theorem enter {P : Program} {f : FuncId} {fn : Func} {n : Nat} {c : Code} {args : List Value} {w : World} {R : Ending → World → Prop} {C : World → Prop}
    (hf : P.funcs[f]? = some fn) (hn : fn.ntmps = n) (hb : fn.body = some c) (hl : Nat.ble args.length n = true) (hC : C w) (h : S ⟨P, fn, n, R⟩ [.c c] (argL 0 args) C) :
    Calls P f args.toArray w R := by
  have hle : args.length ≤ n := Nat.le_of_ble_eq_true hl
  refine calls_of_wp hf hb (wp_mono (h _ _ ⟨rfl, ?_, fun t v hv => ?_⟩ hC) fun e a w he => ?_)
  · show (args.toArray ++ Array.replicate (fn.ntmps - args.toArray.size) undef).size = n
    simp [hn]; omega
  · obtain ⟨_, h2⟩ := argL_get args 0 t v hv
    have hlt : t < args.length := by
      rcases Nat.lt_or_ge t args.length with h' | h'
      · exact h'
      · simp [List.getElem?_eq_none h'] at h2
    show (args.toArray ++ Array.replicate (fn.ntmps - args.toArray.size) undef)[t]? = some v
    rw [Array.getElem?_append_left (by simpa using hlt)]
    simpa using h2
  · cases e <;> exact he
end Gx
