/- Plain data, continued: fields looked up, compared. -/
import Derived.Test.YtaffndpaehiafaaGxVl
namespace Gx
set_option linter.unusedVariables false
open Go Go.RowKit
/-- The first place of a user; the length if there is none. -/
def idF : Fds → Int → Nat
  | [], _ => 0
  | p :: fs, u => if p.1 = u then 0 else idF fs u + 1
theorem idF_eq : ∀ {fs : Fds} {u : Int} {k : Nat}, k ≤ fs.length → (∀ i, i < k → (fd fs i).1 ≠ u) → (k < fs.length → (fd fs k).1 = u) → idF fs u = k
  | [], u, k, h, _, _ => by simp at h; subst h; rfl
  | p :: fs, u, 0, _, _, h3 => by
    have : p.1 = u := h3 (by simp)
    rw [idF, if_pos this]
  | p :: fs, u, k + 1, h1, h2, h3 => by
    have h0 : p.1 ≠ u := h2 0 (by omega)
    rw [idF, if_neg h0, idF_eq (k := k) (by simpa using h1) (fun i hi => h2 (i + 1) (by omega)) (fun hk => h3 (by simpa using hk))]
theorem idF_le : ∀ (fs : Fds) (u : Int), idF fs u ≤ fs.length
  | [], _ => Nat.le_refl _
  | p :: fs, u => by
    rw [idF]
    split
    · exact Nat.zero_le _
    · exact Nat.succ_le_succ (idF_le fs u)
theorem idF_ne : ∀ {fs : Fds} {u : Int} {i : Nat}, i < idF fs u → (fd fs i).1 ≠ u
  | [], _, _, h => absurd h (Nat.not_lt_zero _)
  | p :: fs, u, i, h => by
    rw [idF] at h
    split at h
    · exact absurd h (Nat.not_lt_zero _)
    · rename_i hne
      cases i with
      | zero => exact hne
      | succ i => exact idF_ne (fs := fs) (i := i) (by omega)
theorem idF_at : ∀ {fs : Fds} {u : Int}, idF fs u < fs.length → (fd fs (idF fs u)).1 = u
  | [], _, h => absurd h (Nat.not_lt_zero _)
  | p :: fs, u, h => by
    rw [idF] at h ⊢
    split at h
    · rename_i he; rw [if_pos he]; exact he
    · rename_i he
      rw [if_neg he]
      exact idF_at (fs := fs) (by simpa using h)
theorem idF_lb {fs : Fds} {u : Int} (ok : FOk fs) : (hasF fs u = true ↔ idF fs u < fs.length) ∧ (idF fs u < fs.length → idF fs u = lbF fs u) := by
  have h1 : idF fs u < fs.length → idF fs u = lbF fs u := fun h => by
    symm
    refine lbF_eq (Nat.le_of_lt h) (fun i hi => ?_) (fun _ => ?_)
    · have := ok.lt i _ hi h
      rw [idF_at h] at this
      exact this
    · rw [idF_at h]; exact Int.le_refl _
  refine ⟨⟨fun h => ?_, fun h => ?_⟩, h1⟩
  · rcases Nat.lt_or_ge (idF fs u) fs.length with h2 | h2
    · exact h2
    · simp only [hasF, Bool.and_eq_true, decide_eq_true_eq] at h
      exact absurd h.2 (idF_ne (by omega))
  · simp only [hasF, Bool.and_eq_true, decide_eq_true_eq]
    rw [← h1 h]
    exact ⟨h, idF_at h⟩
/-- What At answers. -/
def atR (fs : Fds) (u : Int) : Int := if idF fs u < fs.length then (idF fs u : Int) else -1
theorem fd_get {fs : Fds} {k : Nat} (h : k < fs.length) : fs[k] = fd fs k := by simp [fd, List.getD_eq_getElem?_getD, List.getElem?_eq_getElem h]
theorem take_eq_succ {fs gs : Fds} {k : Nat} (h1 : k < fs.length) (h2 : k < gs.length) (h : fs.take k = gs.take k) (he : fd fs k = fd gs k) : fs.take (k + 1) = gs.take (k + 1) := by
  rw [List.take_succ_eq_append_getElem h1, List.take_succ_eq_append_getElem h2, h, fd_get h1, fd_get h2, he]
def likeB (fs : Fds) (len : Nat) : Bool := decide (fs.length ≤ 12) && (decide (len ≤ 400) || (decide (8193 ≤ len) && decide (len ≤ 8200))) && fs.all fun p => decide (p.2.length ≤ 40)
theorem likeB_le {fs : Fds} {len : Nat} (h : likeB fs len = true) : fs.length ≤ 12 ∧ len ≤ 8200 ∧ ∀ i, (fd fs i).2.length ≤ 40 := by
  simp only [likeB, Bool.and_eq_true, Bool.or_eq_true, decide_eq_true_eq] at h
  refine ⟨h.1.1, by omega, fun i => ?_⟩
  rcases Nat.lt_or_ge i fs.length with hi | hi
  · have := List.all_eq_true.1 h.2 _ (List.getElem_mem hi)
    rw [fd_get hi] at this
    simpa using this
  · simp [fd, List.getD_eq_getElem?_getD, List.getElem?_eq_none hi]
theorem all_take_succ {fs : Fds} {k : Nat} {p : Int × List UInt8 → Bool} (h : k < fs.length) (h1 : (fs.take k).all p = true) (h2 : p (fd fs k) = true) : (fs.take (k + 1)).all p = true := by
  rw [List.take_succ_eq_append_getElem h, List.all_append, h1, fd_get h]
  simpa using h2
theorem all_no {fs : Fds} {k : Nat} {p : Int × List UInt8 → Bool} (h : k < fs.length) (h2 : p (fd fs k) = false) : fs.all p = false := by
  rw [List.all_eq_false]
  exact ⟨fs[k], List.getElem_mem h, by rw [fd_get h, h2]; simp⟩
/-- The fields that a row of cells reads as. -/
def fdOf : List Value → Int × List UInt8
  | [.int _ u, .string s] => (u, s.data.toList)
  | _ => (0, [])
theorem fl_of {W : World} {a : Option Addr} {n : Nat} {cell : Nat → List Value} (hsl : Sl W [] a 2 n cell) (hrow : ∀ i, i < n → ∃ u s, cell i = [.int .i64 u, .string (bs s)]) : ∃ fs : Fds, fs.length = n ∧ Fl W a fs ∧ ∀ i, i < n → cell i = fldC (fd fs i) := by
  refine ⟨(List.range n).map fun i => fdOf (cell i), by simp, ?_, ?_⟩
  · refine ⟨fun hn => ?_⟩
    rw [List.length_map, List.length_range] at hn
    obtain ⟨b, o, h1, h2⟩ := hsl.at_ hn
    refine ⟨b, o, h1, fun i hi => ?_⟩
    rw [List.length_map, List.length_range] at hi
    obtain ⟨u, s, e⟩ := hrow i hi
    have e2 : fldC (fd ((List.range n).map fun i => fdOf (cell i)) i) = cell i := by
      simp only [fd, List.getD_eq_getElem?_getD, List.getElem?_map, List.getElem?_range hi, Option.map_some, Option.getD_some, e]
      rfl
    rw [e2]
    exact h2 i hi
  · intro i hi
    obtain ⟨u, s, e⟩ := hrow i hi
    simp only [fd, List.getD_eq_getElem?_getD, List.getElem?_map, List.getElem?_range hi, Option.map_some, Option.getD_some, e]
    rfl
end Gx
