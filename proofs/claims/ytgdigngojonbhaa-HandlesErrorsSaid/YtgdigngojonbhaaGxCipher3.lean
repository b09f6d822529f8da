/- Plain data, continued: fields looked up, compared. -/
import Derived.Test.YtgdigngojonbhaaGxVl
namespace Gx
set_option linter.unusedVariables false
open Go Go.RowKit
/-- The first place of a user; the length if there is none. -/
def idF : Fds → Int → Nat
  | [], _ => 0
  | p :: fs, u => if p.1 = u then 0 else idF fs u + 1
theorem idF_eq : ∀ {fs : Fds} {u : Int} {k : Nat}, k ≤ fs.length → (∀ i, i < k → (fd fs i).1 ≠ u) → (k < fs.length → (fd fs k).1 = u) → idF fs u = k
  | [], u, k, h, _, _ => by simp at h; subst h; rfl
  | p :: fs, u, 0, _, _, h3 => by
    have : p.1 = u := h3 (by simp)
    rw [idF, if_pos this]
  | p :: fs, u, k + 1, h1, h2, h3 => by
    have h0 : p.1 ≠ u := h2 0 (by omega)
    rw [idF, if_neg h0, idF_eq (k := k) (by simpa using h1) (fun i hi => h2 (i + 1) (by omega)) (fun hk => h3 (by simpa using hk))]
theorem idF_le : ∀ (fs : Fds) (u : Int), idF fs u ≤ fs.length
  | [], _ => Nat.le_refl _
  | p :: fs, u => by
    rw [idF]
    split
    · exact Nat.zero_le _
    · exact Nat.succ_le_succ (idF_le fs u)
theorem idF_ne : ∀ {fs : Fds} {u : Int} {i : Nat}, i < idF fs u → (fd fs i).1 ≠ u
  | [], _, _, h => absurd h (Nat.not_lt_zero _)
  | p :: fs, u, i, h => by
    rw [idF] at h
    split at h
    · exact absurd h (Nat.not_lt_zero _)
    · rename_i hne
      cases i with
      | zero => exact hne
      | succ i => exact idF_ne (fs := fs) (i := i) (by omega)
theorem idF_at : ∀ {fs : Fds} {u : Int}, idF fs u < fs.length → (fd fs (idF fs u)).1 = u
  | [], _, h => absurd h (Nat.not_lt_zero _)
  | p :: fs, u, h => by
    rw [idF] at h ⊢
    split at h
    · rename_i he; rw [if_pos he]; exact he
    · rename_i he
      rw [if_neg he]
      exact idF_at (fs := fs) (by simpa using h)
theorem idF_lb {fs : Fds} {u : Int} (ok : FOk fs) : (hasF fs u = true ↔ idF fs u < fs.length) ∧ (idF fs u < fs.length → idF fs u = lbF fs u) := by
  have h1 : idF fs u < fs.length → idF fs u = lbF fs u := fun h => by
    symm
    refine lbF_eq (Nat.le_of_lt h) (fun i hi => ?_) (fun _ => ?_)
    · have := ok.lt i _ hi h
      rw [idF_at h] at this
      exact this
    · rw [idF_at h]; exact Int.le_refl _
  refine ⟨⟨fun h => ?_, fun h => ?_⟩, h1⟩
  · rcases Nat.lt_or_ge (idF fs u) fs.length with h2 | h2
    · exact h2
    · simp only [hasF, Bool.and_eq_true, decide_eq_true_eq] at h
      exact absurd h.2 (idF_ne (by omega))
  · simp only [hasF, Bool.and_eq_true, decide_eq_true_eq]
    rw [← h1 h]
    exact ⟨h, idF_at h⟩
/-- What At answers. -/
def atR (fs : Fds) (u : Int) : Int := if idF fs u < fs.length then (idF fs u : Int) else -1
theorem fd_get {fs : Fds} {k : Nat} (h : k < fs.length) : fs[k] = fd fs k := by simp [fd, List.getD_eq_getElem?_getD, List.getElem?_eq_getElem h]
theorem take_eq_succ {fs gs : Fds} {k : Nat} (h1 : k < fs.length) (h2 : k < gs.length) (h : fs.take k = gs.take k) (he : fd fs k = fd gs k) : fs.take (k + 1) = gs.take (k + 1) := by
  rw [List.take_succ_eq_append_getElem h1, List.take_succ_eq_append_getElem h2, h, fd_get h1, fd_get h2, he]
def likeB (fs : Fds) (len : Nat) : Bool := decide (fs.length ≤ 12) && (decide (len ≤ 400) || (decide (8193 ≤ len) && decide (len ≤ 8200))) && fs.all fun p => decide (p.2.length ≤ 40)
theorem likeB_le {fs : Fds} {len : Nat} (h : likeB fs len = true) : fs.length ≤ 12 ∧ len ≤ 8200 ∧ ∀ i, (fd fs i).2.length ≤ 40 := by
  simp only [likeB, Bool.and_eq_true, Bool.or_eq_true, decide_eq_true_eq] at h
  refine ⟨h.1.1, by omega, fun i => ?_⟩
  rcases Nat.lt_or_ge i fs.length with hi | hi
  · have := List.all_eq_true.1 h.2 _ (List.getElem_mem hi)
    rw [fd_get hi] at this
    simpa using this
  · simp [fd, List.getD_eq_getElem?_getD, List.getElem?_eq_none hi]
theorem all_take_succ {fs : Fds} {k : Nat} {p : Int × List UInt8 → Bool} (h : k < fs.length) (h1 : (fs.take k).all p = true) (h2 : p (fd fs k) = true) : (fs.take (k + 1)).all p = true := by
  rw [List.take_succ_eq_append_getElem h, List.all_append, h1, fd_get h]
  simpa using h2
theorem all_no {fs : Fds} {k : Nat} {p : Int × List UInt8 → Bool} (h : k < fs.length) (h2 : p (fd fs k) = false) : fs.all p = false := by
  rw [List.all_eq_false]
  exact ⟨fs[k], List.getElem_mem h, by rw [fd_get h, h2]; simp⟩
/-- The fields that a row of cells reads as. -/
def fdOf : List Value → Int × List UInt8
  | [.int _ u, .string s] => (u, s.data.toList)
  | _ => (0, [])
theorem fl_of {W : World} {a : Option Addr} {n : Nat} {cell : Nat → List Value} (hsl : Sl W [] a 2 n cell) (hrow : ∀ i, i < n → ∃ u s, cell i = [.int .i64 u, .string (bs s)]) : ∃ fs : Fds, fs.length = n ∧ Fl W a fs ∧ ∀ i, i < n → cell i = fldC (fd fs i) := by
  refine ⟨(List.range n).map fun i => fdOf (cell i), by simp, ?_, ?_⟩
  · refine ⟨fun hn => ?_⟩
    rw [List.length_map, List.length_range] at hn
    obtain ⟨b, o, h1, h2⟩ := hsl.at_ hn
    refine ⟨b, o, h1, fun i hi => ?_⟩
    rw [List.length_map, List.length_range] at hi
    obtain ⟨u, s, e⟩ := hrow i hi
    have e2 : fldC (fd ((List.range n).map fun i => fdOf (cell i)) i) = cell i := by
      simp only [fd, List.getD_eq_getElem?_getD, List.getElem?_map, List.getElem?_range hi, Option.map_some, Option.getD_some, e]
      rfl
    rw [e2]
    exact h2 i hi
  · intro i hi
    obtain ⟨u, s, e⟩ := hrow i hi
    simp only [fd, List.getD_eq_getElem?_getD, List.getElem?_map, List.getElem?_range hi, Option.map_some, Option.getD_some, e]
    rfl
/-- The first place of a 'true'; the length if there is none. -/
def ixB : List Bool → Nat
  | [] => 0
  | b :: l => if b = true then 0 else ixB l + 1
theorem ixB_eq : ∀ {l : List Bool} {k : Nat}, k ≤ l.length → (∀ i, i < k → l.getD i false = false) → (k < l.length → l.getD k false = true) → ixB l = k
  | [], k, h, _, _ => by simp at h; subst h; rfl
  | b :: l, 0, _, _, h3 => by
    have : b = true := h3 (by simp)
    rw [ixB, if_pos this]
  | b :: l, k + 1, h1, h2, h3 => by
    have h0 : b = false := h2 0 (by omega)
    rw [ixB, if_neg (by rw [h0]; decide), ixB_eq (k := k) (by simpa using h1) (fun i hi => h2 (i + 1) (by omega)) (fun hk => h3 (by simpa using hk))]
theorem ixB_any : ∀ l : List Bool, l.any id = decide (ixB l < l.length)
  | [] => rfl
  | b :: l => by
    rw [List.any_cons, ixB_any l, ixB]
    cases b <;> simp
def ixI (l : List Bool) : Int := if ixB l < l.length then (ixB l : Int) else -1
theorem ixI_any (l : List Bool) : decide (0 ≤ ixI l) = l.any id := by
  rw [ixB_any]
  unfold ixI
  split
  · rename_i h; simp [h]
  · rename_i h; simp [h]
/-- A binary search in any fields. -/
def bsR (fs : Fds) (u : Int) : Nat → Nat → Nat → Nat
  | 0, lo, _ => lo
  | n + 1, lo, hi => if lo < hi then if IntKind.i64.wrap ((fd fs ((lo + hi) / 2)).1 - u) < 0 then bsR fs u n ((lo + hi) / 2 + 1) hi else bsR fs u n lo ((lo + hi) / 2) else lo
theorem bsR_end (fs : Fds) (u : Int) : ∀ (n lo hi : Nat), ¬ lo < hi → bsR fs u n lo hi = lo
  | 0, _, _, _ => rfl
  | n + 1, lo, hi, h => by rw [bsR, if_neg h]
theorem bsR_le (fs : Fds) (u : Int) : ∀ (n lo hi : Nat), lo ≤ hi → bsR fs u n lo hi ≤ hi
  | 0, _, _, h => h
  | n + 1, lo, hi, h => by
    rw [bsR]
    split
    · split
      · exact bsR_le fs u n _ _ (by omega)
      · exact Nat.le_trans (bsR_le fs u n _ _ (by omega)) (by omega)
    · exact h
def bsF (fs : Fds) (u : Int) : Nat := bsR fs u fs.length 0 fs.length
def bsB (fs : Fds) (u : Int) : Bool := decide (bsF fs u < fs.length) && decide (IntKind.i64.wrap ((fd fs (bsF fs u)).1 - u) = 0)
/-- Over fields without an error it is the search for the place. -/
theorem bsR_lb {fs : Fds} {u : Int} (ok : FOk fs) (hu : -100000 ≤ u ∧ u ≤ 100000) : ∀ (n lo hi : Nat), hi - lo ≤ n → Bs fs u lo hi → bsR fs u n lo hi = lbF fs u
  | 0, lo, hi, h, hb => ((hb.at (by have := hb.le; omega)).2.1).symm
  | n + 1, lo, hi, h, hb => by
    rw [bsR]
    split
    · rename_i hl
      have hi2 := hb.top
      have h1 := ok.user ((lo + hi) / 2) (by omega)
      have hw : IntKind.i64.wrap ((fd fs ((lo + hi) / 2)).1 - u) = (fd fs ((lo + hi) / 2)).1 - u := IntWalk.i64_in _ ⟨by omega, by omega⟩
      rw [hw]
      split
      · rename_i hx
        exact bsR_lb ok hu n _ _ (by omega) (hb.up ok hl hx)
      · rename_i hx
        exact bsR_lb ok hu n _ _ (by omega) (hb.down ok hl hx)
    · rename_i hl
      exact ((hb.at hl).2.1).symm
theorem bsF_ok {fs : Fds} {u : Int} (ok : FOk fs) (hu : -100000 ≤ u ∧ u ≤ 100000) : bsB fs u = hasF fs u := by
  have h1 : bsF fs u = lbF fs u := bsR_lb ok hu _ _ _ (by omega) (Bs.init fs u)
  unfold bsB hasF
  rw [h1]
  rcases Nat.lt_or_ge (lbF fs u) fs.length with h | h
  · have h2 := ok.user (lbF fs u) h
    have hw : IntKind.i64.wrap ((fd fs (lbF fs u)).1 - u) = (fd fs (lbF fs u)).1 - u := IntWalk.i64_in _ ⟨by omega, by omega⟩
    rw [hw]
    congr 1
    simp only [decide_eq_decide]
    omega
  · simp [show ¬ lbF fs u < fs.length by omega]
/-- Two rising rows with the same users are alike, place by place. -/
theorem users_same {fs hs : Fds} (hf : ∀ i j, i < j → j < fs.length → (fd fs i).1 < (fd fs j).1) (hh : ∀ i j, i < j → j < hs.length → (fd hs i).1 < (fd hs j).1)
    (h1 : ∀ i, i < fs.length → ∃ j, j < hs.length ∧ (fd hs j).1 = (fd fs i).1) (h2 : ∀ j, j < hs.length → ∃ i, i < fs.length ∧ (fd fs i).1 = (fd hs j).1) :
    fs.length = hs.length ∧ ∀ k, k < fs.length → (fd fs k).1 = (fd hs k).1 := by
  have hP : ∀ i, i < fs.length → i < hs.length ∧ (fd fs i).1 = (fd hs i).1 := by
    intro i
    induction i using Nat.strongRecOn with
    | ind i ih =>
      intro hi
      obtain ⟨j, hj, e1⟩ := h1 i hi
      have hij : i ≤ j := by
        rcases Nat.lt_or_ge j i with h | h
        · have h3 := (ih j h (by omega)).2
          have h4 := hf j i h hi
          omega
        · exact h
      have hi2 : i < hs.length := by omega
      have h5 : (fd hs i).1 ≤ (fd fs i).1 := by
        rcases Nat.eq_or_lt_of_le hij with h | h
        · rw [h] at e1 ⊢; omega
        · have := hh i j h hj; omega
      obtain ⟨q, hq, e2⟩ := h2 i hi2
      have hiq : i ≤ q := by
        rcases Nat.lt_or_ge q i with h | h
        · have h3 := (ih q h hq).2
          have h4 := hh q i h hi2
          omega
        · exact h
      have h6 : (fd fs i).1 ≤ (fd hs i).1 := by
        rcases Nat.eq_or_lt_of_le hiq with h | h
        · rw [← h] at e2; omega
        · have := hf i q h hq; omega
      exact ⟨hi2, by omega⟩
  refine ⟨?_, fun k hk => (hP k hk).2⟩
  rcases Nat.lt_trichotomy fs.length hs.length with h | h | h
  · obtain ⟨i, hi, e⟩ := h2 fs.length h
    have h3 := (hP i hi).2
    have h4 := hh i fs.length hi h
    omega
  · exact h
  · have := (hP hs.length h).1
    omega
theorem HS.fl2 {w0 w : World} {M : List Nat} {As As' : List HA} {t : TypeId} {fs : Fds} {n : Nat} {a : Option Addr} {cap : Nat} (h : HS w0 M As w) (hp : Pick As (.own (.slice a n cap) t 2 n (flatF fs)) As') (hn : n = fs.length) : Fl w a fs := by
  subst hn
  exact h.fl hp rfl
end Gx
