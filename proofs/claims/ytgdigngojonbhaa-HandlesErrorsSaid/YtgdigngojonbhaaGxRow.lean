/- Many assertions as one, and rows of structs whose parts own rows themselves. Nothing of a program is named here. -/
import Derived.Test.YtgdigngojonbhaaGxOps6
namespace Gx
set_option linter.unusedSimpArgs false
set_option linter.unusedVariables false
set_option linter.unusedSectionVars false
open Go Go.RowKit

/-! ## Many assertions as one -/
def Apart (As : List HA) : Prop := As.Pairwise fun A B => ∀ b ∈ A.fp, b ∉ B.fp
def HA.star (As : List HA) : HA := ⟨fps As, fun w => (∀ A ∈ As, A.ok w) ∧ Apart As, fun w w' h ha => ⟨fun A hA => A.loc w w' (fun b hb => h b (List.mem_flatMap.2 ⟨A, hA, hb⟩)) (ha.1 A hA), ha.2⟩⟩
theorem HA.fp_star (As : List HA) : (HA.star As).fp = fps As := rfl
section
variable {w0 w : World} {M : List Nat} {As Bs : List HA}
theorem HS.star_open (h : HS w0 M (.star Bs :: As) w) : HS w0 M (Bs ++ As) w := by
  have h1 := h.head
  have hs := List.pairwise_cons.1 h.sep
  refine ⟨h.os, h.tape, h.output, h.size, h.old, fun A hA => ?_, fun A hA b hb => ?_, ?_⟩
  · rcases List.mem_append.1 hA with hA | hA
    · exact h1.1 A hA
    · exact h.ok A (List.mem_cons_of_mem _ hA)
  · rcases List.mem_append.1 hA with hA | hA
    · exact h.lt _ (List.mem_cons_self ..) b (List.mem_flatMap.2 ⟨A, hA, hb⟩)
    · exact h.lt A (List.mem_cons_of_mem _ hA) b hb
  · rw [List.pairwise_append]
    exact ⟨h1.2, hs.2, fun A hA B hB b hb => hs.1 B hB b (List.mem_flatMap.2 ⟨A, hA, hb⟩)⟩
theorem HS.star_close (h : HS w0 M (Bs ++ As) w) : HS w0 M (.star Bs :: As) w := by
  have hs := List.pairwise_append.1 h.sep
  refine ⟨h.os, h.tape, h.output, h.size, h.old, fun A hA => ?_, fun A hA b hb => ?_, ?_⟩
  · rcases List.mem_cons.1 hA with rfl | hA
    · exact ⟨fun A hA => h.ok A (List.mem_append_left _ hA), hs.1⟩
    · exact h.ok A (List.mem_append_right _ hA)
  · rcases List.mem_cons.1 hA with rfl | hA
    · obtain ⟨B, hB, hb⟩ := List.mem_flatMap.1 hb
      exact h.lt B (List.mem_append_left _ hB) b hb
    · exact h.lt A (List.mem_append_right _ hA) b hb
  · refine List.pairwise_cons.2 ⟨fun A hA b hb => ?_, hs.2.1⟩
    obtain ⟨B, hB, hb⟩ := List.mem_flatMap.1 hb
    exact hs.2.2 B hB A hA b hb
theorem HS.star_perm {Bs' : List HA} (hp : Bs.Perm Bs') (h : HS w0 M (.star Bs :: As) w) : HS w0 M (.star Bs' :: As) w :=
  HS.star_close (h.star_open.perm (hp.append_right As))
theorem HS.star_cons {A : HA} (h : HS w0 M (A :: .star Bs :: As) w) : HS w0 M (.star (A :: Bs) :: As) w := by
  have h1 : HS w0 M (Bs ++ (A :: As)) w := (h.perm (List.Perm.swap ..)).star_open
  exact HS.star_close (Bs := A :: Bs) (h1.perm List.perm_middle)
theorem HS.star_uncons {A : HA} (h : HS w0 M (.star (A :: Bs) :: As) w) : HS w0 M (A :: .star Bs :: As) w := by
  have h1 : HS w0 M (A :: (Bs ++ As)) w := h.star_open
  have h2 : HS w0 M (Bs ++ (A :: As)) w := h1.perm List.perm_middle.symm
  exact (HS.star_close h2).perm (List.Perm.swap ..)
theorem HS.star_nil (h : HS w0 M As w) : HS w0 M (.star [] :: As) w := HS.star_close (Bs := []) h
end

/-! ## Rows of structs -/
section
variable {α : Type} {vals : α → List Value} {sz : Nat}
theorem flat_length (hv : ∀ x, (vals x).length = sz) : ∀ l : List α, (l.flatMap vals).length = l.length * sz
  | [] => by simp
  | x :: l => by rw [List.flatMap_cons, List.length_append, hv, flat_length hv l, List.length_cons, Nat.add_mul]; omega
theorem flat_get (hv : ∀ x, (vals x).length = sz) : ∀ (l : List α) (i j : Nat) (x : α), l[i]? = some x → j < sz → (l.flatMap vals)[i * sz + j]? = (vals x)[j]?
  | [], i, j, x, h, _ => by simp at h
  | y :: l, 0, j, x, h, hj => by
    simp only [List.getElem?_cons_zero, Option.some.injEq] at h
    subst h
    rw [List.flatMap_cons, List.getElem?_append_left (by rw [hv]; omega), Nat.zero_mul, Nat.zero_add]
  | y :: l, i + 1, j, x, h, hj => by
    rw [List.getElem?_cons_succ] at h
    rw [List.flatMap_cons, List.getElem?_append_right (by rw [hv, Nat.add_mul]; omega), hv, show (i + 1) * sz + j - sz = i * sz + j by rw [Nat.add_mul]; omega]
    exact flat_get hv l i j x h hj
theorem flat_append (l m : List α) : (l ++ m).flatMap vals = l.flatMap vals ++ m.flatMap vals := List.flatMap_append ..
theorem flat_take (hv : ∀ x, (vals x).length = sz) (l : List α) (i : Nat) : (l.flatMap vals).take (i * sz) = (l.take i).flatMap vals := by
  rcases Nat.lt_or_ge i l.length with h | h
  · conv => lhs; rw [← List.take_append_drop i l, flat_append]
    have hl : ((l.take i).flatMap vals).length = i * sz := by rw [flat_length hv, List.length_take, Nat.min_eq_left (by omega)]
    rw [List.take_append_of_le_length (by omega), List.take_of_length_le (by omega)]
  · rw [List.take_of_length_le (by rw [flat_length hv]; exact Nat.mul_le_mul_right _ h), List.take_of_length_le h]
theorem flat_drop (hv : ∀ x, (vals x).length = sz) (l : List α) (i : Nat) : (l.flatMap vals).drop (i * sz) = (l.drop i).flatMap vals := by
  rcases Nat.lt_or_ge i l.length with h | h
  · conv => lhs; rw [← List.take_append_drop i l, flat_append]
    have hl : ((l.take i).flatMap vals).length = i * sz := by rw [flat_length hv, List.length_take, Nat.min_eq_left (by omega)]
    rw [List.drop_append_of_le_length (by omega), List.drop_of_length_le (by omega), List.nil_append]
  · rw [List.drop_of_length_le (by rw [flat_length hv]; exact Nat.mul_le_mul_right _ h), List.drop_of_length_le h]; rfl
theorem setMany_app (xs ys vs : List Value) (i : Nat) (h : xs.length ≤ i) : setMany (xs ++ ys) i vs = xs ++ setMany ys (i - xs.length) vs := by
  apply List.ext_getElem?
  intro j
  simp only [setMany_get, List.getElem?_append, List.length_append]
  grind
theorem setMany_left (xs ys vs : List Value) (i : Nat) (h : i + vs.length ≤ xs.length) : setMany (xs ++ ys) i vs = setMany xs i vs ++ ys := by
  apply List.ext_getElem?
  intro j
  simp only [setMany_get, List.getElem?_append, List.length_append, setMany_length]
  grind
/-- Some cells of one element are written. -/
theorem flat_set (hv : ∀ x, (vals x).length = sz) : ∀ (l : List α) (i o : Nat) (vs : List Value) (x y : α), l[i]? = some x → vals y = setMany (vals x) o vs → o + vs.length ≤ sz → setMany (l.flatMap vals) (i * sz + o) vs = (l.set i y).flatMap vals
  | [], i, o, vs, x, y, h, _, _ => by simp at h
  | z :: l, 0, o, vs, x, y, h, he, ho => by
    simp only [List.getElem?_cons_zero, Option.some.injEq] at h
    subst h
    rw [List.flatMap_cons, Nat.zero_mul, Nat.zero_add, setMany_left _ _ _ _ (by rw [hv]; exact ho), List.set_cons_zero, List.flatMap_cons, he]
  | z :: l, i + 1, o, vs, x, y, h, he, ho => by
    rw [List.getElem?_cons_succ] at h
    have hz := hv z
    rw [List.flatMap_cons, setMany_app _ _ _ _ (by rw [hz, Nat.add_mul]; omega), hz, show (i + 1) * sz + o - sz = i * sz + o by rw [Nat.add_mul]; omega, flat_set hv l i o vs x y h he ho, List.set_cons_succ, List.flatMap_cons]
theorem flat_one (h1 : ∀ x, ∀ u ∈ vals x, u.oneCell' = true) (l : List α) : ∀ u ∈ l.flatMap vals, u.oneCell' = true := fun u hu => by
  obtain ⟨x, _, hx⟩ := List.mem_flatMap.1 hu
  exact h1 x u hx
variable [Inhabited α]
/-- Element i of a row. -/
def nth (l : List α) (i : Nat) : α := l.getD i default
theorem nth_get {l : List α} {i : Nat} (h : i < l.length) : l[i]? = some (nth l i) := by
  rw [List.getElem?_eq_getElem h, nth, List.getD_eq_getElem?_getD, List.getElem?_eq_getElem h]; rfl
theorem nth_eq {l : List α} {i : Nat} {x : α} (h : l[i]? = some x) : nth l i = x := by
  rw [nth, List.getD_eq_getElem?_getD, h]; rfl
/-- A slice that reads as a row of structs. -/
def Rw (vals : α → List Value) (sz : Nat) (w : World) (M : List Nat) (a : Option Addr) (l : List α) : Prop := Sl w M a sz l.length fun i => vals (nth l i)
theorem Rw.later {w w' : World} {M : List Nat} {As : List HA} {a : Option Addr} {l : List α} (h : Rw vals sz w M a l) (hs : HS w M As w') : Rw vals sz w' [] a l := Sl.later h hs fun _ _ _ => by simp
theorem Rw.rd {w : World} {M : List Nat} {a : Option Addr} {l : List α} (h : Rw vals sz w M a l) {i : Nat} (hi : i < l.length) : ∀ j v, (vals (nth l i))[j]? = some v → Rd w M (ab a) (ao a + i * sz + j) v := fun _ _ hv => Sl.rd h hi hv
theorem Rw.rdj {w : World} {M : List Nat} {a : Option Addr} {l : List α} (h : Rw vals sz w M a l) {i : Nat} (j : Nat) {v : Value} (hi : i < l.length) (hv : (vals (nth l i))[j]? = some v) : Rd w M (ab a) (ao a + i * sz + j) v := Sl.rd h hi hv
theorem Rw.some {w : World} {M : List Nat} {a : Option Addr} {l : List α} (h : Rw vals sz w M a l) (hn : 0 < l.length) : a = .some ⟨ab a, ao a, none⟩ := Sl.some h hn
theorem Rw.src (hv : ∀ x, (vals x).length = sz) {w0 w : World} {M : List Nat} {As : List HA} {a : Option Addr} {l : List α} (h : Rw vals sz w0 M a l) (hw : HS w0 M As w) : Src a (l.flatMap vals) w := fun hne => by
  have hn : 0 < l.length := by
    rcases l with _ | ⟨x, l⟩
    · simp at hne
    · simp
  have hsz : 0 < sz := by
    rcases Nat.eq_zero_or_pos sz with e | e
    · have := flat_length hv l
      rw [e, Nat.mul_zero] at this
      exact absurd (List.eq_nil_of_length_eq_zero this) hne
    · exact e
  refine ⟨ab a, ao a, h.some hn, fun j u hu => ?_⟩
  have hj : j < l.length * sz := by
    rcases Nat.lt_or_ge j (l.flatMap vals).length with h | h
    · rwa [flat_length hv] at h
    · rw [List.getElem?_eq_none h] at hu; cases hu
  have hi : j / sz < l.length := Nat.div_lt_of_lt_mul (by rw [Nat.mul_comm]; exact hj)
  have e : j = j / sz * sz + j % sz := by rw [Nat.mul_comm]; exact (Nat.div_add_mod j sz).symm
  have hm := Nat.mod_lt j hsz
  have hg := flat_get hv l (j / sz) (j % sz) _ (nth_get hi) hm
  rw [← e] at hg
  have := hw.rd (h.rd hi (j % sz) u (by rw [← hg]; exact hu))
  rwa [Nat.add_assoc, ← e] at this
/-- What the callers' rows read as, where a class lists other blocks alone. -/
theorem HS.keep {w0 w : World} {M : List Nat} {As : List HA} {b o : Nat} {v : Value} (h : HS w0 M As w) (hr : Rd w0 M b o v) : Rd w (fps As) b o v :=
  ⟨Nat.lt_of_lt_of_le hr.1 h.size, fun hb => by
    obtain ⟨A, hA, hb⟩ := List.mem_flatMap.1 hb
    exact hr.2.1 ((h.lt A hA b hb).2 hr.1), h.rd hr⟩
theorem Rw.keep {w0 w : World} {M : List Nat} {As : List HA} {a : Option Addr} {l : List α} (h : Rw vals sz w0 M a l) (hs : HS w0 M As w) : Rw vals sz w (fps As) a l :=
  ⟨fun hn => by
    obtain ⟨b, o, rfl, h2⟩ := h.at_ hn
    exact ⟨b, o, rfl, fun i hi => ⟨(h2 i hi).1, fun j v hv => hs.keep ((h2 i hi).2 j v hv)⟩⟩⟩
theorem Rd.mono {w : World} {M M' : List Nat} {b o : Nat} {v : Value} (h : Rd w M b o v) (hM : ∀ b ∈ M', b ∈ M) : Rd w M' b o v := ⟨h.1, fun hb => h.2.1 (hM b hb), h.2.2⟩
theorem Rw.mono {w : World} {M M' : List Nat} {a : Option Addr} {l : List α} (h : Rw vals sz w M a l) (hM : ∀ b ∈ M', b ∈ M) : Rw vals sz w M' a l :=
  ⟨fun hn => by
    obtain ⟨b, o, rfl, h2⟩ := h.at_ hn
    exact ⟨b, o, rfl, fun i hi => ⟨(h2 i hi).1, fun j v hv => ((h2 i hi).2 j v hv).mono hM⟩⟩⟩
variable {w0 w : World} {M : List Nat} {As As' : List HA}
theorem rw_cell (hv : ∀ x, (vals x).length = sz) (l : List α) : ∀ i, i < l.length → (vals (nth l i)).length = sz ∧ ∀ j v, (vals (nth l i))[j]? = some v → (l.flatMap vals)[i * sz + j]? = some v := fun i hi => ⟨hv _, fun j v hj => by
  have hlt : j < sz := by
    rcases Nat.lt_or_ge j (vals (nth l i)).length with h | h
    · rwa [hv] at h
    · rw [List.getElem?_eq_none h] at hj; cases hj
  rw [flat_get hv l i j _ (nth_get hi) hlt]; exact hj⟩
theorem HS.rw_own (hv : ∀ x, (vals x).length = sz) {a : Option Addr} {cap n t : Nat} {l : List α} (h : HS w0 M As w) (hp : Pick As (.own (.slice a n cap) t sz n (l.flatMap vals)) As') (hn : n = l.length) : Rw vals sz w [] a l := by
  subst hn
  exact h.sl_own hp rfl (rw_cell hv l)
theorem HS.rw_blk (hv : ∀ x, (vals x).length = sz) {b tot t : Nat} {l : List α} (h : HS w0 M As w) (hp : Pick As (.blk b t tot (l.flatMap vals)) As') : Rw vals sz w [] (.some ⟨b, 0, none⟩) l :=
  h.sl_blk hp (rw_cell hv l)
theorem Rw.none {w : World} {M : List Nat} {l : List α} (h : Rw vals sz w M Option.none l) : l = [] := by
  rcases l with _ | ⟨x, l⟩
  · rfl
  · exact absurd (h.some (by simp)) (by simp)
/-- A row whose elements own something. -/
def HA.row (t sz : Nat) (vals : α → List Value) (sub : α → HA) (a : Option Addr) (cap : Nat) (l : List α) : HA := .star (.own (.slice a l.length cap) t sz l.length (l.flatMap vals) :: l.map sub)
variable {t cap : Nat} {sub : α → HA} {a : Option Addr} {l : List α}
theorem HS.row_open (h : HS w0 M (.row t sz vals sub a cap l :: As) w) : HS w0 M (.own (.slice a l.length cap) t sz l.length (l.flatMap vals) :: .star (l.map sub) :: As) w := h.star_uncons
theorem HS.row_shut {n : Nat} {xs : List Value} (h : HS w0 M (.own (.slice a n cap) t sz n xs :: .star (l.map sub) :: As) w) (hn : n = l.length) (hx : xs = l.flatMap vals) : HS w0 M (.row t sz vals sub a cap l :: As) w := by
  subst hn hx
  exact h.star_cons
/-- What one element owns, beside the others'. -/
theorem perm_nth {β : Type} (l : List β) (i : Nat) (x : β) (h : l[i]? = some x) : l.Perm (x :: (l.take i ++ l.drop (i + 1))) := by
  have hi : i < l.length := by
    rcases Nat.lt_or_ge i l.length with h' | h'
    · exact h'
    · rw [List.getElem?_eq_none h'] at h; cases h
  have e : l = l.take i ++ x :: l.drop (i + 1) := by
    have h2 := List.getElem?_eq_getElem hi
    rw [h2] at h
    injection h with h
    rw [← h, ← List.drop_eq_getElem_cons hi, List.take_append_drop]
  conv => lhs; rw [e]
  exact List.perm_middle
def others (l : List α) (i : Nat) : List α := l.take i ++ l.drop (i + 1)
theorem HS.sub_open {i : Nat} (hi : i < l.length) (h : HS w0 M (.star (l.map sub) :: As) w) : HS w0 M (sub (nth l i) :: .star ((others l i).map sub) :: As) w := by
  refine HS.star_uncons (h.star_perm ?_)
  exact (perm_nth l i _ (nth_get hi)).map sub
theorem others_set (l : List α) (i : Nat) (x : α) : others (l.set i x) i = others l i := by
  unfold others
  rw [List.take_set_of_le (Nat.le_refl i), List.drop_set_of_lt (Nat.lt_succ_self i)]
theorem HS.sub_shut {i : Nat} {x : α} (hi : i < l.length) (h : HS w0 M (sub x :: .star ((others l i).map sub) :: As) w) : HS w0 M (.star ((l.set i x).map sub) :: As) w := by
  refine HS.star_perm ?_ h.star_cons
  have h1 := (perm_nth (l.set i x) i x (by rw [List.getElem?_set_self hi])).map sub
  rw [show (l.set i x).take i ++ (l.set i x).drop (i + 1) = others l i from others_set l i x] at h1
  exact h1.symm
/-- An element less, an element more. -/
theorem HS.sub_drop {i : Nat} (hi : i < l.length) (h : HS w0 M (.star (l.map sub) :: As) w) : HS w0 M (.star ((others l i).map sub) :: As) w := (h.sub_open hi).tail
def insAt (l : List α) (i : Nat) (x : α) : List α := l.take i ++ x :: l.drop i
theorem HS.sub_ins {x : α} (i : Nat) (h : HS w0 M (sub x :: .star (l.map sub) :: As) w) : HS w0 M (.star ((insAt l i x).map sub) :: As) w := by
  refine HS.star_perm ?_ h.star_cons
  have h1 : (x :: l).Perm (insAt l i x) := by
    unfold insAt
    conv => lhs; rw [← List.take_append_drop i l]
    exact List.perm_middle.symm
  exact h1.map sub
theorem HS.sub_app {x : α} (h : HS w0 M (sub x :: .star (l.map sub) :: As) w) : HS w0 M (.star ((l ++ [x]).map sub) :: As) w := by
  refine HS.star_perm ?_ h.star_cons
  have h1 : (x :: l).Perm (l ++ [x]) := (List.perm_append_singleton x l).symm
  exact h1.map sub
theorem HS.sub_set_same {i : Nat} {x : α} (hi : i < l.length) (hs : sub x = sub (nth l i)) (h : HS w0 M (.star (l.map sub) :: As) w) : HS w0 M (.star ((l.set i x).map sub) :: As) w := by
  have h1 := h.sub_open hi
  rw [← hs] at h1
  exact HS.sub_shut hi h1
end
end Gx
