/- The engine's rules for regions whose order is open: one walk in a chosen order serves every order. After the library's Deep/Quiet, with classes of worlds that may change from operation to operation. -/
import Derived.Test.YtgdigngojonbhaaGxOps3
import Derived.Deep.Quiet
namespace Gx
open Go Go.RowKit

/-- Operation number i comes up in the class C. -/
def StepA (P : Program) (ops : Array Oper) (i : Nat) (a : Act) (C : World → Prop) (K : Act → (World → Prop) → Prop) : Prop :=
  match ops[i]? with
  | none => K a C
  | some o => if Region.wanted o (yielded ops a.tmps) then
      ∃ (G : Type) (V : G → Value) (F : G → Prop) (C' : G → World → Prop), (∀ w, C w → Res P (fun u w' => ∃ g, u = V g ∧ F g ∧ C' g w') ((execOp a.eval o).run P w)) ∧ ∀ g, F g → K (a.put o.dst (V g)) (C' g)
    else K (a.put o.dst undef) C
def Good (F : List Nat) (B : World → Prop) (listed : Array Bool) (C : World → Prop) : Prop := (∀ f ∈ F, listed.getD f false = false) → (∀ w, C w → B w) ∧ Stable C
def WG (P : Program) (ops : Array Oper) (Q : Act → World → Prop) (F : List Nat) (B : World → Prop) : Nat → Array Bool → Act → (World → Prop) → Prop
  | 0, listed, a, C => Good F B listed C ∧ Region.ready .any ops listed = [] ∧ ∀ w, C w → Q a w
  | fuel + 1, listed, a, C => Good F B listed C ∧ (Region.ready .any ops listed = [] → ∀ w, C w → Q a w) ∧
      ∀ i ∈ Region.ready .any ops listed, StepA P ops i a C fun a' C' => WG P ops Q F B fuel (listed.setIfInBounds i true) a' C'
section
variable {P : Program} {ops : Array Oper} {Q : Act → World → Prop} {F : List Nat} {B : World → Prop}
theorem StepA.mono {i : Nat} {a : Act} {C : World → Prop} {K K' : Act → (World → Prop) → Prop} (h : ∀ a C, K a C → K' a C) (hs : StepA P ops i a C K) : StepA P ops i a C K' := by
  unfold StepA at *
  split
  · rename_i ho; simp only [ho] at hs; exact h _ _ hs
  · rename_i o ho
    simp only [ho] at hs
    split
    · rename_i hw
      simp only [hw, if_true] at hs
      obtain ⟨G, V, Fg, C', h1, h2⟩ := hs
      exact ⟨G, V, Fg, C', h1, fun g hg => h _ _ (h2 g hg)⟩
    · rename_i hw
      simp only [hw] at hs
      exact h _ _ hs
theorem WG.good : ∀ {fuel : Nat} {listed : Array Bool} {a : Act} {C : World → Prop}, WG P ops Q F B fuel listed a C → Good F B listed C
  | 0, _, _, _, h => h.1
  | _ + 1, _, _, _, h => h.1
theorem wpAny_of_WG {Q' : Exit → Act → World → Prop} (hQ : ∀ a w, Q a w → Q' .normal a w) : ∀ (fuel : Nat) (listed : Array Bool) (a : Act) (C : World → Prop) (w : World), C w → WG P ops Q F B fuel listed a C → wpAny P .any ops Q' fuel listed a w
  | 0, _, _, _, _, hw, h => ⟨h.2.1, hQ _ _ (h.2.2 _ hw)⟩
  | fuel + 1, listed, a, C, w, hw, h => ⟨fun h0 => hQ _ _ (h.2.1 h0 _ hw), fun i hi => by
      have hs := h.2.2 i hi
      unfold StepA at hs
      unfold wpOp
      split
      · rename_i ho; simp only [ho] at hs; exact wpAny_of_WG hQ fuel _ _ _ _ hw hs
      · rename_i o ho
        simp only [ho] at hs
        split
        · rename_i hw'
          simp only [hw', if_true] at hs
          obtain ⟨G, V, Fg, C', h1, h2⟩ := hs
          exact .inl (wp_of_res (h1 w hw) fun v w' ⟨g, hv, hf, hc⟩ => by subst hv; exact wpAny_of_WG hQ fuel _ _ _ _ hc (h2 g hf))
        · rename_i hw'
          simp only [hw'] at hs
          exact wpAny_of_WG hQ fuel _ _ _ _ hw hs⟩
/-! ### Waiting -/
def edge (ops : Array Oper) (x y : Nat) : Bool := match ops[x]? with
  | some o => o.after.any fun e => Region.binds .any e && Nat.beq e.on y
  | none => false
def chain (ops : Array Oper) : Nat → List Nat → Nat → Bool
  | x, [], y => edge ops x y
  | x, p :: ps, y => edge ops x p && chain ops p ps y
def Closed (ops : Array Oper) (listed : Array Bool) : Prop := ∀ x y, edge ops x y = true → listed.getD x false = true → listed.getD y false = true
theorem ready_edge {j y : Nat} {listed : Array Bool} (hj : j ∈ Region.ready .any ops listed) (he : edge ops j y = true) : listed.getD y false = true := by
  obtain ⟨_, oj, hoj, hall⟩ := mem_ready.1 hj
  unfold edge at he
  simp only [hoj] at he
  obtain ⟨e, he1, hb⟩ := Array.any_eq_true'.1 he
  simp only [Bool.and_eq_true] at hb
  have := Nat.eq_of_beq_eq_true hb.2
  subst this
  exact hall e he1 hb.1
theorem chain_closed {listed : Array Bool} (hc : Closed ops listed) : ∀ {ps : List Nat} {x y : Nat}, chain ops x ps y = true → listed.getD x false = true → listed.getD y false = true
  | [], _, _, h, hx => hc _ _ h hx
  | p :: ps, x, y, h, hx => by
    simp only [chain, Bool.and_eq_true] at h
    exact chain_closed hc h.2 (hc _ _ h.1 hx)
theorem ready_chain {listed : Array Bool} (hc : Closed ops listed) : ∀ {ps : List Nat} {x y : Nat}, chain ops x ps y = true → x ∈ Region.ready .any ops listed → listed.getD y false = true
  | [], _, _, h, hx => ready_edge hx h
  | p :: ps, x, y, h, hx => by
    simp only [chain, Bool.and_eq_true] at h
    exact chain_closed hc h.2 (ready_edge hx h.1)
theorem getD_set_false {listed : Array Bool} {i j : Nat} (h : listed.getD j false = true) : (listed.setIfInBounds i true).getD j false = true := by
  by_cases e : i = j
  · subst e
    rcases Nat.lt_or_ge i listed.size with h' | h'
    · simp [h']
    · simp [Array.getElem?_eq_none h'] at h
  · rw [getD_set_ne false e]; exact h
theorem Closed.set {listed : Array Bool} {j : Nat} (hc : Closed ops listed) (hj : j ∈ Region.ready .any ops listed) : Closed ops (listed.setIfInBounds j true) := by
  intro x y he hx
  by_cases e : j = x
  · subst e
    exact getD_set_false (ready_edge hj he)
  · rw [getD_set_ne false e] at hx
    exact getD_set_false (hc x y he hx)
theorem ready_not {j : Nat} {listed : Array Bool} (hj : j ∈ Region.ready .any ops listed) : listed.getD j true = false := (mem_ready.1 hj).1
theorem not_false_of_not_true {listed : Array Bool} {j : Nat} (h : listed.getD j true = false) : listed.getD j false = false := by
  rcases Nat.lt_or_ge j listed.size with h' | h'
  · simp [h'] at h ⊢; exact h
  · simp [Array.getElem?_eq_none h'] at h
/-! ### An operation is taken first -/
/-- In state a the operation yields v in every world of the base, and writes to nothing old. -/
def YieldsQ (P : Program) (ops : Array Oper) (B : World → Prop) (o : Oper) (v : Value) (a : Act) : Prop :=
  (Region.wanted o (yielded ops a.tmps) = true ∧ ∀ w, B w → Res P (fun u w' => u = v ∧ Below w.heap.size w w') ((execOp a.eval o).run P w)) ∨
  (Region.wanted o (yielded ops a.tmps) = false ∧ v = undef)
theorem YieldsQ.of_same {o : Oper} {v : Value} {a a' : Act} (hy : YieldsQ P ops B o v a) (he : execOp a'.eval o = execOp a.eval o) (hw : Region.wanted o (yielded ops a'.tmps) = Region.wanted o (yielded ops a.tmps)) : YieldsQ P ops B o v a' := by
  unfold YieldsQ at *
  rw [he, hw]
  exact hy
/-- .. in every world, and leaves it as it is. -/
def YieldsP (P : Program) (ops : Array Oper) (o : Oper) (v : Value) (a : Act) : Prop :=
  (Region.wanted o (yielded ops a.tmps) = true ∧ ∀ w, (execOp a.eval o).run P w = .ok (.value v) w) ∨
  (Region.wanted o (yielded ops a.tmps) = false ∧ v = undef)
theorem YieldsP.of_same {o : Oper} {v : Value} {a a' : Act} (hy : YieldsP P ops o v a) (he : execOp a'.eval o = execOp a.eval o) (hw : Region.wanted o (yielded ops a'.tmps) = Region.wanted o (yielded ops a.tmps)) : YieldsP P ops o v a' := by
  unfold YieldsP at *
  rw [he, hw]
  exact hy
theorem StepA_put {j : Nat} {oi oj : Oper} {v : Value} (hj : ops[j]? = some oj) (hap : oi.apart ops oj = true) (hsj : ∀ cs b, oj.op ≠ .select cs b) {K : Act → (World → Prop) → Prop} {a : Act} {C : World → Prop}
    (h : StepA P ops j (a.put oi.dst v) C K) : StepA P ops j a C fun a' C' => ∃ u, a' = a.put oj.dst u ∧ K (a'.put oi.dst v) C' := by
  obtain ⟨h1, h2, h3⟩ := Oper.apart_spec hap
  unfold StepA at *
  simp only [hj] at *
  rw [wanted_put oj a oi.dst v h1] at h
  split
  · rename_i hw
    simp only [hw, if_true] at h
    obtain ⟨G, V, Fg, C', e1, e2⟩ := h
    rw [execOp_put oj hsj a oi.dst v h1] at e1
    exact ⟨G, V, Fg, C', e1, fun g hg => ⟨V g, rfl, by rw [← Act.put_comm a v _ h2]; exact e2 g hg⟩⟩
  · rename_i hw
    simp only [hw] at h
    exact ⟨undef, rfl, by rw [← Act.put_comm a v undef h2]; exact h⟩
theorem WG_first {i : Nat} {oi : Oper} {v : Value} (hi : ops[i]? = some oi) (hiF : i ∉ F) (hsel : ∀ (j : Nat) (o : Oper) cs b, ops[j]? = some o → o.op ≠ .select cs b) (hwait : ∀ f ∈ F, ∃ ps, chain ops f ps i = true) :
    ∀ (fuel : Nat) (listed : Array Bool) (a : Act) (C : World → Prop),
      (∀ j oj, ops[j]? = some oj → j ≠ i → listed.getD j true = false → (∀ e ∈ oj.after, Region.binds .any e = true → e.on ≠ i) → oi.apart ops oj = true) →
      Closed ops listed → (∀ f ∈ F, listed.getD f false = false) → i ∈ Region.ready .any ops listed → YieldsQ P ops B oi v a →
      WG P ops Q F B fuel (listed.setIfInBounds i true) (a.put oi.dst v) C → WG P ops Q F B (fuel + 1) listed a C := by
  have hgood : ∀ {listed : Array Bool} {C : World → Prop}, Good F B (listed.setIfInBounds i true) C → Good F B listed C := fun {listed C} hg hf => hg fun f hfF => by
    rw [getD_set_ne false (fun e => hiF (by rw [e]; exact hfF))]; exact hf f hfF
  have here : ∀ (fuel : Nat) (listed : Array Bool) (a : Act) (C : World → Prop), (∀ f ∈ F, listed.getD f false = false) → YieldsQ P ops B oi v a → WG P ops Q F B fuel (listed.setIfInBounds i true) (a.put oi.dst v) C →
      StepA P ops i a C fun a' C' => WG P ops Q F B fuel (listed.setIfInBounds i true) a' C' := by
    intro fuel listed a C hF hy H
    obtain ⟨hCB, hst⟩ := hgood H.good hF
    unfold StepA
    simp only [hi]
    rcases hy with ⟨hw, hr⟩ | ⟨hw, rfl⟩
    · rw [if_pos hw]
      exact ⟨Unit, fun _ => v, fun _ => True, fun _ => C, fun w hc => (hr w (hCB w hc)).mono fun u w' ⟨h1, h2⟩ => ⟨(), h1, trivial, hst w w' hc h2⟩, fun _ _ => H⟩
    · rw [if_neg (by rw [hw]; simp)]
      exact H
  intro fuel
  induction fuel with
  | zero =>
    intro listed a C _ _ hF hr hy H
    refine ⟨hgood H.good, fun h => (by rw [h] at hr; cases hr), fun j hj => ?_⟩
    by_cases hji : j = i
    · subst hji; exact here 0 listed a C hF hy H
    · have := ready_mono hj hji
      rw [H.2.1] at this
      cases this
  | succ fuel ih =>
    intro listed a C hfree hcl hF hr hy H
    refine ⟨hgood H.good, fun h => (by rw [h] at hr; cases hr), fun j hj => ?_⟩
    by_cases hji : j = i
    · subst hji; exact here _ listed a C hF hy H
    · have hjF : j ∉ F := fun hjF => by
        obtain ⟨ps, hps⟩ := hwait j hjF
        have h1 := ready_chain hcl hps hj
        rw [not_false_of_not_true (ready_not hr)] at h1
        cases h1
      have h1 := H.2.2 j (ready_mono hj hji)
      obtain ⟨hjun, oj, hoj, hall⟩ := mem_ready.1 hj
      have hnot : ∀ e ∈ oj.after, Region.binds .any e = true → e.on ≠ i := fun e he hb heq => by
        have h1 := hall e he hb
        have h0 := not_false_of_not_true (ready_not hr)
        rw [heq, h0] at h1
        cases h1
      have hap := hfree j oj hoj hji hjun hnot
      have h2 := StepA_put hoj hap (fun cs b => hsel j oj cs b hoj) h1
      obtain ⟨_, _, h3⟩ := Oper.apart_spec hap
      refine StepA.mono (fun a' C' ⟨u, hu, hK⟩ => ?_) h2
      subst hu
      have hfree' : ∀ k ok, ops[k]? = some ok → k ≠ i → (listed.setIfInBounds j true).getD k true = false →
          (∀ e ∈ ok.after, Region.binds .any e = true → e.on ≠ i) → oi.apart ops ok = true := fun k ok hk hki hun hno => by
        refine hfree k ok hk hki ?_ hno
        by_cases hjk : j = k
        · subst hjk; exact hjun
        · rw [getD_set_ne true hjk] at hun; exact hun
      refine ih (listed.setIfInBounds j true) _ C' hfree' (hcl.set hj) (fun f hf => ?_) (ready_mono hr (Ne.symm hji)) (hy.of_same (execOp_put oi (fun cs b => hsel i oi cs b hi) a oj.dst u h3) (wanted_put oi a oj.dst u h3)) ?_
      · rw [getD_set_ne false (fun e => hjF (by rw [e]; exact hf))]; exact hF f hf
      · rw [Array.setIfInBounds_comm _ _ hji]
        exact hK
theorem WG_firstP {i : Nat} {oi : Oper} {v : Value} (hi : ops[i]? = some oi) (hiF : i ∉ F) (hsel : ∀ (j : Nat) (o : Oper) cs b, ops[j]? = some o → o.op ≠ .select cs b) :
    ∀ (fuel : Nat) (listed : Array Bool) (a : Act) (C : World → Prop),
      (∀ j oj, ops[j]? = some oj → j ≠ i → listed.getD j true = false → (∀ e ∈ oj.after, Region.binds .any e = true → e.on ≠ i) → oi.apart ops oj = true) →
      i ∈ Region.ready .any ops listed → YieldsP P ops oi v a →
      WG P ops Q F B fuel (listed.setIfInBounds i true) (a.put oi.dst v) C → WG P ops Q F B (fuel + 1) listed a C := by
  have hgood : ∀ {listed : Array Bool} {C : World → Prop}, Good F B (listed.setIfInBounds i true) C → Good F B listed C := fun {listed C} hg hf => hg fun f hfF => by
    rw [getD_set_ne false (fun e => hiF (by rw [e]; exact hfF))]; exact hf f hfF
  have here : ∀ (fuel : Nat) (listed : Array Bool) (a : Act) (C : World → Prop), YieldsP P ops oi v a → WG P ops Q F B fuel (listed.setIfInBounds i true) (a.put oi.dst v) C →
      StepA P ops i a C fun a' C' => WG P ops Q F B fuel (listed.setIfInBounds i true) a' C' := by
    intro fuel listed a C hy H
    unfold StepA
    simp only [hi]
    rcases hy with ⟨hw, hr⟩ | ⟨hw, rfl⟩
    · rw [if_pos hw]
      exact ⟨Unit, fun _ => v, fun _ => True, fun _ => C, fun w hc => by rw [hr w]; exact ⟨(), rfl, trivial, hc⟩, fun _ _ => H⟩
    · rw [if_neg (by rw [hw]; simp)]
      exact H
  intro fuel
  induction fuel with
  | zero =>
    intro listed a C _ hr hy H
    refine ⟨hgood H.good, fun h => (by rw [h] at hr; cases hr), fun j hj => ?_⟩
    by_cases hji : j = i
    · subst hji; exact here 0 listed a C hy H
    · have := ready_mono hj hji
      rw [H.2.1] at this
      cases this
  | succ fuel ih =>
    intro listed a C hfree hr hy H
    refine ⟨hgood H.good, fun h => (by rw [h] at hr; cases hr), fun j hj => ?_⟩
    by_cases hji : j = i
    · subst hji; exact here _ listed a C hy H
    · have h1 := H.2.2 j (ready_mono hj hji)
      obtain ⟨hjun, oj, hoj, hall⟩ := mem_ready.1 hj
      have hnot : ∀ e ∈ oj.after, Region.binds .any e = true → e.on ≠ i := fun e he hb heq => by
        have h1 := hall e he hb
        have h0 := not_false_of_not_true (ready_not hr)
        rw [heq, h0] at h1
        cases h1
      have hap := hfree j oj hoj hji hjun hnot
      have h2 := StepA_put hoj hap (fun cs b => hsel j oj cs b hoj) h1
      obtain ⟨_, _, h3⟩ := Oper.apart_spec hap
      refine StepA.mono (fun a' C' ⟨u, hu, hK⟩ => ?_) h2
      subst hu
      have hfree' : ∀ k ok, ops[k]? = some ok → k ≠ i → (listed.setIfInBounds j true).getD k true = false →
          (∀ e ∈ ok.after, Region.binds .any e = true → e.on ≠ i) → oi.apart ops ok = true := fun k ok hk hki hun hno => by
        refine hfree k ok hk hki ?_ hno
        by_cases hjk : j = k
        · subst hjk; exact hjun
        · rw [getD_set_ne true hjk] at hun; exact hun
      refine ih (listed.setIfInBounds j true) _ C' hfree' (ready_mono hr (Ne.symm hji)) (hy.of_same (execOp_put oi (fun cs b => hsel i oi cs b hi) a oj.dst u h3) (wanted_put oi a oj.dst u h3)) ?_
      rw [Array.setIfInBounds_comm _ _ hji]
      exact hK
/-- Other finalizers, another base: where one of the old finalizers is through, any; else a smaller base. -/
theorem WG_turn {F' : List Nat} {B' : World → Prop} : ∀ {fuel : Nat} {listed : Array Bool} {a : Act} {C : World → Prop}, (∃ f ∈ F, listed.getD f false = true) → WG P ops Q F' B' fuel listed a C → WG P ops Q F B fuel listed a C
  | 0, _, _, _, ⟨f, hf, hl⟩, h => ⟨fun hg => (by rw [hg f hf] at hl; cases hl), h.2⟩
  | _ + 1, _, _, _, ⟨f, hf, hl⟩, h => ⟨fun hg => (by rw [hg f hf] at hl; cases hl), h.2.1, fun i hi => (h.2.2 i hi).mono fun _ _ h' => WG_turn ⟨f, hf, getD_set_false hl⟩ h'⟩
theorem WG_base {B' : World → Prop} (hB : ∀ w, B' w → B w) : ∀ {fuel : Nat} {listed : Array Bool} {a : Act} {C : World → Prop}, WG P ops Q F B' fuel listed a C → WG P ops Q F B fuel listed a C
  | 0, _, _, _, h => ⟨fun hg => ⟨fun w hw => hB w ((h.1 hg).1 w hw), (h.1 hg).2⟩, h.2⟩
  | _ + 1, _, _, _, h => ⟨fun hg => ⟨fun w hw => hB w ((h.1 hg).1 w hw), (h.1 hg).2⟩, h.2.1, fun i hi => (h.2.2 i hi).mono fun _ _ h' => WG_base hB h'⟩
/-- The only operation that may come up. -/
theorem WG_only {fuel i : Nat} {listed : Array Bool} {a : Act} {C : World → Prop} (hr : Region.ready .any ops listed = [i]) (hg : Good F B listed C) (h : StepA P ops i a C fun a' C' => WG P ops Q F B fuel (listed.setIfInBounds i true) a' C') : WG P ops Q F B (fuel + 1) listed a C :=
  ⟨hg, fun h0 => (by rw [hr] at h0; cases h0), fun j hj => by rw [hr] at hj; rcases List.mem_singleton.1 hj; exact h⟩
end

/-! ## The judgement of a region whose order is open -/
/-- From every frame with these slots, in this class: whatever order the operations that are not listed yet come in, it ends well. -/
def D (X : Ctx) (ops : Array Oper) (F : List Nat) (B : World → Prop) (fuel : Nat) (listed : Array Bool) (k : List KI) (L : Slots) (C : World → Prop) : Prop :=
  Closed ops listed → ∀ a, FR X.n L a → WG X.P ops (fun a w => post X k .normal a w) F B fuel listed a C
/-- Whatever still waits for nothing of i's is apart from it; i may come up. -/
def okFirst (ops : Array Oper) (listed : Array Bool) (i : Nat) : Bool :=
  (Region.ready .any ops listed).contains i && Region.noSelect ops &&
  (List.range ops.size).all fun j => match ops[j]?, ops[i]? with
    | some oj, some oi => Nat.beq j i || listed.getD j true || (oj.after.any fun e => Region.binds .any e && Nat.beq e.on i) || oi.apart ops oj
    | _, _ => true
theorem okFirst_ready {ops : Array Oper} {listed : Array Bool} {i : Nat} (h : okFirst ops listed i = true) : i ∈ Region.ready .any ops listed := by
  simp only [okFirst, Bool.and_eq_true] at h
  simpa using h.1.1
theorem okFirst_sel {ops : Array Oper} {listed : Array Bool} {i : Nat} (h : okFirst ops listed i = true) : Region.noSelect ops = true := by
  simp only [okFirst, Bool.and_eq_true] at h
  exact h.1.2
theorem okFirst_free {ops : Array Oper} {listed : Array Bool} {i : Nat} {oi : Oper} (hi : ops[i]? = some oi) (h : okFirst ops listed i = true) : ∀ j oj, ops[j]? = some oj → j ≠ i → listed.getD j true = false → (∀ e ∈ oj.after, Region.binds .any e = true → e.on ≠ i) → oi.apart ops oj = true := by
  intro j oj hj hne hun hno
  simp only [okFirst, Bool.and_eq_true] at h
  have hlt : j < ops.size := by
    rcases Nat.lt_or_ge j ops.size with h' | h'
    · exact h'
    · simp [Array.getElem?_eq_none h'] at hj
  have h1 := List.all_eq_true.1 h.2 j (List.mem_range.2 hlt)
  simp only [hj, hi, Bool.or_eq_true] at h1
  rcases h1 with ((h1 | h1) | h1) | h1
  · exact absurd (Nat.eq_of_beq_eq_true h1) hne
  · rw [hun] at h1; cases h1
  · obtain ⟨e, he, hb⟩ := Array.any_eq_true'.1 h1
    simp only [Bool.and_eq_true] at hb
    exact absurd (Nat.eq_of_beq_eq_true hb.2) (hno e he hb.1)
  · exact h1
def waitsAll (ops : Array Oper) (F : List Nat) (i : Nat) (ps : List (List Nat)) : Bool :=
  F.all fun f => !Nat.beq f i && ps.any fun p => chain ops f p i
theorem waitsAll_spec {ops : Array Oper} {F : List Nat} {i : Nat} {ps : List (List Nat)} (h : waitsAll ops F i ps = true) : i ∉ F ∧ ∀ f ∈ F, ∃ p, chain ops f p i = true := by
  have h1 := List.all_eq_true.1 h
  refine ⟨fun hi => ?_, fun f hf => ?_⟩
  · have := h1 i hi
    simp [Nat.beq_refl] at this
  · have h2 := h1 f hf
    simp only [Bool.and_eq_true] at h2
    obtain ⟨p, _, hp⟩ := List.any_eq_true.1 h2.2
    exact ⟨p, hp⟩
def noneOf (F : List Nat) (listed : Array Bool) : Bool := F.all fun f => !listed.getD f false
theorem noneOf_spec {F : List Nat} {listed : Array Bool} (h : noneOf F listed = true) : ∀ f ∈ F, listed.getD f false = false := fun f hf => by
  have := List.all_eq_true.1 h f hf
  simpa using this
section
variable {X : Ctx} {ops : Array Oper} {F : List Nat} {fuel i : Nat} {listed : Array Bool} {k : List KI} {L : Slots} {d ty : Nat} {op : Op} {pos : String} {aft : Array Edge} {w0 : World} {M : List Nat} {As Bs : List HA}
theorem good_hs {F : List Nat} {listed : Array Bool} (hB : ∀ w, HS w0 M As w → HS w0 M Bs w) : Good F (HS w0 M Bs) listed (HS w0 M As) := fun _ => ⟨hB, HS.stab _ _ _⟩
theorem closed_none (ops : Array Oper) (n : Nat) : Closed ops (Array.replicate n false) := fun x y _ hx => by
  simp only [Array.getD_eq_getD_getElem?, Array.getElem?_replicate] at hx
  split at hx <;> simp at hx
/-- Into the region; F: the operations that change what is there (each waits for all that read it). -/
theorem s_draw {id : Nat} {l : List Oper} (F : List Nat) (hm : X.P.follows .mixedOrders = true) (h : D X l.toArray F (HS w0 M As) l.length (Array.replicate l.length false) k L (HS w0 M As)) : S X (.c (.region id l.toArray true) :: k) L (HS w0 M As) := by
  intro a w ha hw
  refine wp_region_any hm ?_
  have := h (closed_none _ _) a ha
  simpa using wpAny_of_WG (Q' := post X k) (fun _ _ h => h) _ _ a (HS w0 M As) _ hw.drew this
/-- An operation that only reckons. -/
theorem d_p {C : World → Prop} {B : World → Prop} {v : Value} (i : Nat) (hi : ops[i]? = some ⟨some d, op, ty, pos, aft, none⟩) (h : OpP X.P ⟨some d, op, ty, pos, aft, none⟩ L v) (hok : okFirst ops listed i = true) (hF : F.all (fun f => !Nat.beq f i) = true) (hd : Nat.blt d X.n = true)
    (next : D X ops F B fuel (listed.setIfInBounds i true) k ((d, v) :: L) C) : D X ops F B (fuel + 1) listed k L C := by
  intro hcl a ha
  refine WG_firstP hi (fun hif => ?_) (Region.noSelect_spec (okFirst_sel hok)) fuel listed a C (okFirst_free hi hok) (okFirst_ready hok) (.inl ⟨by simp [Region.wanted], fun w => h a.eval w ha.agr⟩) (next (hcl.set (okFirst_ready hok)) _ (ha.put d v hd))
  have := List.all_eq_true.1 hF i hif
  simp [Nat.beq_refl] at this
/-- An operation that looks into memory, or a callee that writes to nothing old. -/
theorem d_q {C : World → Prop} {v : Value} (i : Nat) (ps : List (List Nat)) (hi : ops[i]? = some ⟨some d, op, ty, pos, aft, none⟩) (h : OpQ X.P ⟨some d, op, ty, pos, aft, none⟩ L (HS w0 M Bs) v) (hok : okFirst ops listed i = true) (hF : waitsAll ops F i ps = true) (hn : noneOf F listed = true) (hd : Nat.blt d X.n = true)
    (next : D X ops F (HS w0 M Bs) fuel (listed.setIfInBounds i true) k ((d, v) :: L) C) : D X ops F (HS w0 M Bs) (fuel + 1) listed k L C := by
  intro hcl a ha
  have hw := waitsAll_spec hF
  exact WG_first hi hw.1 (Region.noSelect_spec (okFirst_sel hok)) hw.2 fuel listed a C (okFirst_free hi hok) hcl (noneOf_spec hn) (okFirst_ready hok) (.inl ⟨by simp [Region.wanted], fun w hw => h a.eval w ha.agr hw⟩) (next (hcl.set (okFirst_ready hok)) _ (ha.put d v hd))
/-- The one operation that may come up. -/
theorem d_h {B : World → Prop} {G : Type} {V : G → Value} {Fg : G → Prop} {C' : G → World → Prop} (i : Nat) (hi : ops[i]? = some ⟨some d, op, ty, pos, aft, none⟩) (h : OpH X.P ⟨some d, op, ty, pos, aft, none⟩ L (HS w0 M As) V Fg C') (hr : (Region.ready .any ops listed == [i]) = true) (hB : ∀ w, HS w0 M As w → B w) (hd : Nat.blt d X.n = true)
    (next : ∀ g, Fg g → D X ops F B fuel (listed.setIfInBounds i true) k ((d, V g) :: L) (C' g)) : D X ops F B (fuel + 1) listed k L (HS w0 M As) := by
  intro hcl a ha
  have hr' : Region.ready .any ops listed = [i] := by simpa using hr
  refine WG_only hr' (fun _ => ⟨hB, HS.stab _ _ _⟩) ?_
  unfold StepA
  simp only [hi]
  rw [if_pos (by simp [Region.wanted])]
  exact ⟨G, V, Fg, C', fun w hw => h a.eval w ha.agr hw, fun g hg => next g hg (hcl.set (by rw [hr']; exact List.mem_singleton.2 rfl)) _ (ha.put d _ hd)⟩
theorem d_h0 {B : World → Prop} {G : Type} {V : G → Value} {Fg : G → Prop} {C' : G → World → Prop} (i : Nat) (hi : ops[i]? = some ⟨none, op, ty, pos, aft, none⟩) (h : OpH X.P ⟨none, op, ty, pos, aft, none⟩ L (HS w0 M As) V Fg C') (hr : (Region.ready .any ops listed == [i]) = true) (hB : ∀ w, HS w0 M As w → B w)
    (next : ∀ g, Fg g → D X ops F B fuel (listed.setIfInBounds i true) k L (C' g)) : D X ops F B (fuel + 1) listed k L (HS w0 M As) := by
  intro hcl a ha
  have hr' : Region.ready .any ops listed = [i] := by simpa using hr
  refine WG_only hr' (fun _ => ⟨hB, HS.stab _ _ _⟩) ?_
  unfold StepA
  simp only [hi]
  rw [if_pos (by simp [Region.wanted])]
  exact ⟨G, V, Fg, C', fun w hw => h a.eval w ha.agr hw, fun g hg => next g hg (hcl.set (by rw [hr']; exact List.mem_singleton.2 rfl)) a ha⟩
/-- An operation that is not carried out, its guard being false. -/
theorem d_off {C : World → Prop} {B : World → Prop} {j : Nat} {want b : Bool} (i dj : Nat) (hi : ops[i]? = some ⟨some d, op, ty, pos, aft, some (j, want)⟩) (hj : (ops[j]?).bind (·.dst) = some dj) (hb : Slots.get L dj = some (.bool b)) (hw : b = !want) (hok : okFirst ops listed i = true) (hF : F.all (fun f => !Nat.beq f i) = true) (hd : Nat.blt d X.n = true)
    (next : D X ops F B fuel (listed.setIfInBounds i true) k ((d, undef) :: L) C) : D X ops F B (fuel + 1) listed k L C := by
  intro hcl a ha
  have hy : yielded ops a.tmps j = some b := by simp [yielded, hj, ha.slot _ _ hb]
  refine WG_firstP hi (fun hif => ?_) (Region.noSelect_spec (okFirst_sel hok)) fuel listed a C (okFirst_free hi hok) (okFirst_ready hok) (.inr ⟨by simp [Region.wanted, hy, hw], rfl⟩) (next (hcl.set (okFirst_ready hok)) _ (ha.put d undef hd))
  have := List.all_eq_true.1 hF i hif
  simp [Nat.beq_refl] at this
theorem d_pon {C : World → Prop} {B : World → Prop} {v : Value} {j : Nat} {want b : Bool} (i dj : Nat) (hi : ops[i]? = some ⟨some d, op, ty, pos, aft, some (j, want)⟩) (hj : (ops[j]?).bind (·.dst) = some dj) (hb : Slots.get L dj = some (.bool b)) (hw : b = want) (h : OpP X.P ⟨some d, op, ty, pos, aft, none⟩ L v) (hok : okFirst ops listed i = true) (hF : F.all (fun f => !Nat.beq f i) = true) (hd : Nat.blt d X.n = true)
    (next : D X ops F B fuel (listed.setIfInBounds i true) k ((d, v) :: L) C) : D X ops F B (fuel + 1) listed k L C := by
  intro hcl a ha
  have hy : yielded ops a.tmps j = some b := by simp [yielded, hj, ha.slot _ _ hb]
  refine WG_firstP hi (fun hif => ?_) (Region.noSelect_spec (okFirst_sel hok)) fuel listed a C (okFirst_free hi hok) (okFirst_ready hok) (.inl ⟨by simp [Region.wanted, hy, hw], fun w => h a.eval w ha.agr⟩) (next (hcl.set (okFirst_ready hok)) _ (ha.put d v hd))
  have := List.all_eq_true.1 hF i hif
  simp [Nat.beq_refl] at this
theorem d_qon {C : World → Prop} {v : Value} {j : Nat} {want b : Bool} (i dj : Nat) (ps : List (List Nat)) (hi : ops[i]? = some ⟨some d, op, ty, pos, aft, some (j, want)⟩) (hj : (ops[j]?).bind (·.dst) = some dj) (hb : Slots.get L dj = some (.bool b)) (hw' : b = want) (h : OpQ X.P ⟨some d, op, ty, pos, aft, none⟩ L (HS w0 M Bs) v) (hok : okFirst ops listed i = true) (hF : waitsAll ops F i ps = true) (hn : noneOf F listed = true) (hd : Nat.blt d X.n = true)
    (next : D X ops F (HS w0 M Bs) fuel (listed.setIfInBounds i true) k ((d, v) :: L) C) : D X ops F (HS w0 M Bs) (fuel + 1) listed k L C := by
  intro hcl a ha
  have hy : yielded ops a.tmps j = some b := by simp [yielded, hj, ha.slot _ _ hb]
  have hw := waitsAll_spec hF
  exact WG_first hi hw.1 (Region.noSelect_spec (okFirst_sel hok)) hw.2 fuel listed a C (okFirst_free hi hok) hcl (noneOf_spec hn) (okFirst_ready hok) (.inl ⟨by simp [Region.wanted, hy, hw'], fun w hw => h a.eval w ha.agr hw⟩) (next (hcl.set (okFirst_ready hok)) _ (ha.put d v hd))
/-- From here on the base is the class as it is now. -/
theorem d_base {B : World → Prop} (hB : ∀ w, HS w0 M As w → B w) (next : D X ops F (HS w0 M As) fuel listed k L (HS w0 M As)) : D X ops F B fuel listed k L (HS w0 M As) :=
  fun hcl a ha => WG_base hB (next hcl a ha)
/-- .. a finalizer being through, with other finalizers. -/
theorem d_turn {B : World → Prop} (F' : List Nat) (hf : F.any (fun f => listed.getD f false) = true) (next : D X ops F' (HS w0 M As) fuel listed k L (HS w0 M As)) : D X ops F B fuel listed k L (HS w0 M As) :=
  fun hcl a ha => WG_turn (by obtain ⟨f, h1, h2⟩ := List.any_eq_true.1 hf; exact ⟨f, h1, h2⟩) (next hcl a ha)
theorem d_nil {B : World → Prop} (hr : (Region.ready .any ops listed == []) = true) (hB : ∀ w, HS w0 M As w → B w) (h : S X k L (HS w0 M As)) : D X ops F B 0 listed k L (HS w0 M As) :=
  fun _ a ha => ⟨fun _ => ⟨hB, HS.stab _ _ _⟩, by simpa using hr, fun w hw => h a w ha hw⟩
theorem d_class {C C' B : World → Prop} (hC : ∀ w, C w → C' w) (hs : Stable C) (h : D X ops F B fuel listed k L C') : D X ops F B fuel listed k L C := by
  intro hcl a ha
  have key : ∀ (fuel : Nat) (listed : Array Bool) (a : Act) (C C' : World → Prop), (∀ w, C w → C' w) → Stable C → WG X.P ops (fun a w => post X k .normal a w) F B fuel listed a C' → WG X.P ops (fun a w => post X k .normal a w) F B fuel listed a C := by
    intro fuel
    induction fuel with
    | zero => intro listed a C C' hC hs h; exact ⟨fun hg => ⟨fun w hw => (h.1 hg).1 w (hC w hw), hs⟩, h.2.1, fun w hw => h.2.2 w (hC w hw)⟩
    | succ fuel ih =>
      intro listed a C C' hC hs h
      refine ⟨fun hg => ⟨fun w hw => (h.1 hg).1 w (hC w hw), hs⟩, fun h0 w hw => h.2.1 h0 w (hC w hw), fun i hi => ?_⟩
      have h1 := h.2.2 i hi
      unfold StepA at h1 ⊢
      split
      · rename_i ho; simp only [ho] at h1; exact ih _ _ _ _ hC hs h1
      · rename_i o ho
        simp only [ho] at h1
        split
        · rename_i hw
          simp only [hw, if_true] at h1
          obtain ⟨G, V, Fg, D', e1, e2⟩ := h1
          exact ⟨G, V, Fg, D', fun w hw => e1 w (hC w hw), e2⟩
        · rename_i hw
          simp only [hw] at h1
          exact ih _ _ _ _ hC hs h1
  exact key _ _ _ _ _ hC hs (h hcl a ha)
end
end Gx
