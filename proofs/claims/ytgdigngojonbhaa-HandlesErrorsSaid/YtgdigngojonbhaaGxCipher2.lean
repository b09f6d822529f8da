/- Plain data, continued: the fields of a file, and what is done with them. -/
import Derived.Test.YtgdigngojonbhaaGxCipher
namespace Gx
open Go Go.RowKit
theorem Rd.later {w w' : World} {M M' : List Nat} {As : List HA} {b o : Nat} {v : Value} (hr : Rd w M b o v) (hs : HS w M As w') (hM : b ∉ M') : Rd w' M' b o v :=
  ⟨Nat.lt_of_lt_of_le hr.1 hs.size, hM, hs.rd hr⟩
/-- Fields: a user and a wrapped key each. -/
abbrev Fds := List (Int × List UInt8)
def fldC (p : Int × List UInt8) : List Value := [.int .i64 p.1, .string (bs p.2)]
def fd (fs : Fds) (i : Nat) : Int × List UInt8 := fs.getD i (0, [])
def Fl (w : World) (a : Option Addr) (fs : Fds) : Prop := Sl w [] a 2 fs.length (fun i => fldC (fd fs i))
theorem Fl.later {w w' : World} {As : List HA} {a : Option Addr} {fs : Fds} (h : Fl w a fs) (hs : HS w [] As w') : Fl w' a fs := Sl.later h hs fun _ _ h => h
theorem Fl.rd {w : World} {a : Option Addr} {fs : Fds} (h : Fl w a fs) {i : Nat} (hi : i < fs.length) : ∀ j v, (fldC (fd fs i))[j]? = some v → Rd w [] (ab a) (ao a + i * 2 + j) v := fun _ _ hv => Sl.rd h hi hv
theorem Fl.rd0 {w : World} {a : Option Addr} {fs : Fds} (h : Fl w a fs) {i : Nat} (hi : i < fs.length) : Rd w [] (ab a) (ao a + i * 2) (.int .i64 (fd fs i).1) := Sl.rd (j := 0) h hi rfl
theorem Fl.rd1 {w : World} {a : Option Addr} {fs : Fds} (h : Fl w a fs) {i : Nat} (hi : i < fs.length) : Rd w [] (ab a) (ao a + i * 2 + 1) (.string (bs (fd fs i).2)) := Sl.rd (j := 1) h hi rfl
/-- The first number that is not 0, with its place. -/
def eachL : List Int → Nat → Int × Int
  | [], _ => (0, 0)
  | e :: es, k => if e = 0 then eachL es (k + 1) else ((k : Int), e)
theorem eachL_drop {es : List Int} {k : Nat} (h : k < es.length) : eachL (es.drop k) k = if es.getD k 0 = 0 then eachL (es.drop (k + 1)) (k + 1) else ((k : Int), es.getD k 0) := by
  rw [List.drop_eq_getElem_cons h, eachL, List.getD_eq_getElem?_getD, List.getElem?_eq_getElem h]; rfl
theorem eachL_end {es : List Int} {k : Nat} (h : es.length ≤ k) : eachL (es.drop k) k = (0, 0) := by
  rw [List.drop_eq_nil_of_le h]; rfl
def fieldE (k : Nat) (prev u : Int) (len : Nat) : Int := if 10 ≤ u ∧ u ≤ 999 then if k = 0 ∨ prev < u then if len = 10 then 0 else 10 else 9 else 2
def fdE (fs : Fds) (k : Nat) : Int := fieldE k (fd fs (k - 1)).1 (fd fs k).1 (fd fs k).2.length
def fdEs (fs : Fds) : List Int := (List.range fs.length).map (fdE fs)
theorem fdEs_length (fs : Fds) : (fdEs fs).length = fs.length := by simp [fdEs]
theorem fdEs_getD {fs : Fds} {k : Nat} (h : k < fs.length) : (fdEs fs).getD k 0 = fdE fs k := by simp [fdEs, List.getD_eq_getElem?_getD, h]
def chkF (fs : Fds) : Int × Int := if fs.length = 0 then (0, 17) else if fs.length ≤ 8 then eachL (fdEs fs) 0 else (0, 8)
theorem eachL_0 : ∀ {es : List Int} {k : Nat}, (eachL es k).2 = 0 → ∀ e ∈ es, e = 0
  | [], _, _, _, h => by cases h
  | e :: es, k, h, x, hx => by
    rw [eachL] at h
    split at h
    · rcases List.mem_cons.1 hx with rfl | hx
      · assumption
      · exact eachL_0 h x hx
    · rename_i hne; exact absurd h hne
/-- Fields without an error. -/
structure FOk (fs : Fds) : Prop where
  pos : 0 < fs.length
  le : fs.length ≤ 8
  user : ∀ i, i < fs.length → 10 ≤ (fd fs i).1 ∧ (fd fs i).1 ≤ 999
  len : ∀ i, i < fs.length → (fd fs i).2.length = 10
  lt : ∀ i j, i < j → j < fs.length → (fd fs i).1 < (fd fs j).1
theorem chkF_ok {fs : Fds} (h : (chkF fs).2 = 0) : FOk fs := by
  unfold chkF at h
  split at h
  · cases h
  · split at h
    · rename_i h0 h8
      have hk : ∀ k, k < fs.length → fdE fs k = 0 := fun k hk => by
        have := eachL_0 h (fdE fs k) (by simp only [fdEs, List.mem_map, List.mem_range]; exact ⟨k, hk, rfl⟩)
        exact this
      have hf : ∀ k, k < fs.length → (10 ≤ (fd fs k).1 ∧ (fd fs k).1 ≤ 999) ∧ (k = 0 ∨ (fd fs (k - 1)).1 < (fd fs k).1) ∧ (fd fs k).2.length = 10 := fun k h1 => by
        have := hk k h1
        unfold fdE fieldE at this
        grind
      refine ⟨by omega, h8, fun i hi => (hf i hi).1, fun i hi => (hf i hi).2.2, ?_⟩
      intro i j
      induction j with
      | zero => intro h1; omega
      | succ j ih =>
        intro h1 h2
        have h3 := (hf (j + 1) h2).2.1
        simp only [Nat.add_sub_cancel] at h3
        rcases Nat.lt_or_ge i j with h4 | h4
        · have := ih h4 (by omega); omega
        · have : i = j := by omega
          subst this; omega
    · cases h
/-- Where a user stands or would stand. -/
def lbF : Fds → Int → Nat
  | [], _ => 0
  | p :: fs, u => if p.1 < u then lbF fs u + 1 else 0
theorem lbF_eq : ∀ {fs : Fds} {u : Int} {k : Nat}, k ≤ fs.length → (∀ i, i < k → (fd fs i).1 < u) → (k < fs.length → u ≤ (fd fs k).1) → lbF fs u = k
  | [], _, k, h, _, _ => by simp at h; subst h; rfl
  | p :: fs, u, 0, _, _, h3 => by
    have : u ≤ p.1 := h3 (by simp)
    rw [lbF, if_neg (by omega)]
  | p :: fs, u, k + 1, h1, h2, h3 => by
    have h0 : p.1 < u := h2 0 (by omega)
    rw [lbF, if_pos h0, lbF_eq (k := k) (by simpa using h1) (fun i hi => h2 (i + 1) (by omega)) (fun hk => h3 (by simpa using hk))]
def hasF (fs : Fds) (u : Int) : Bool := decide (lbF fs u < fs.length) && decide ((fd fs (lbF fs u)).1 = u)
def atF (fs : Fds) (u : Int) : Value := .tuple #[.int .i64 (lbF fs u : Int), .bool (hasF fs u)]
/-- The bounds of a binary search. -/
structure Bs (fs : Fds) (u : Int) (lo hi : Nat) : Prop where
  le : lo ≤ hi
  top : hi ≤ fs.length
  below : ∀ i, i < lo → (fd fs i).1 < u
  above : ∀ i, hi ≤ i → i < fs.length → u ≤ (fd fs i).1
theorem Bs.init (fs : Fds) (u : Int) : Bs fs u 0 fs.length := ⟨Nat.zero_le _, Nat.le_refl _, fun i h => absurd h (Nat.not_lt_zero i), fun i h1 h2 => by omega⟩
theorem Bs.up {fs : Fds} {u : Int} {lo hi : Nat} (ok : FOk fs) (h : Bs fs u lo hi) (hl : lo < hi) (hx : (fd fs ((lo + hi) / 2)).1 - u < 0) : Bs fs u ((lo + hi) / 2 + 1) hi := by
  have h2 := h.top
  refine ⟨by omega, h2, fun i h1 => ?_, h.above⟩
  rcases Nat.lt_or_ge i ((lo + hi) / 2) with h3 | h3
  · have := ok.lt i _ h3 (by omega); omega
  · obtain rfl : i = (lo + hi) / 2 := by omega
    omega
theorem Bs.down {fs : Fds} {u : Int} {lo hi : Nat} (ok : FOk fs) (h : Bs fs u lo hi) (hl : lo < hi) (hx : ¬ (fd fs ((lo + hi) / 2)).1 - u < 0) : Bs fs u lo ((lo + hi) / 2) := by
  have h2 := h.top
  refine ⟨by omega, by omega, h.below, fun i h1 h3 => ?_⟩
  rcases Nat.eq_or_lt_of_le h1 with h4 | h4
  · subst h4; omega
  · have := ok.lt _ i h4 h3; omega
theorem Bs.at {fs : Fds} {u : Int} {lo hi : Nat} (h : Bs fs u lo hi) (hl : ¬ lo < hi) : lo = hi ∧ lbF fs u = lo ∧ lo ≤ fs.length := by
  have h1 := h.le
  obtain rfl : lo = hi := by omega
  exact ⟨rfl, lbF_eq h.top h.below fun hh => h.above lo (Nat.le_refl _) hh, h.top⟩
/-! ## The fields' cells in a row -/
def flatF (fs : Fds) : List Value := fs.flatMap fldC
theorem flatF_length : ∀ fs : Fds, (flatF fs).length = fs.length * 2
  | [] => rfl
  | p :: fs => by rw [flatF, List.flatMap_cons, List.length_append]; have := flatF_length fs; unfold flatF at this; rw [this, List.length_cons]; simp [fldC]; omega
theorem flatF_get : ∀ (fs : Fds) (i j : Nat), i < fs.length → j < 2 → (flatF fs)[i * 2 + j]? = (fldC (fd fs i))[j]?
  | [], i, _, h, _ => absurd h (Nat.not_lt_zero i)
  | p :: fs, 0, j, _, hj => by
    rw [flatF, List.flatMap_cons, Nat.zero_mul, Nat.zero_add, List.getElem?_append_left (by simpa [fldC] using hj)]; rfl
  | p :: fs, i + 1, j, h, hj => by
    have ih := flatF_get fs i j (by simpa using h) hj
    have hl : (fldC p).length = 2 := rfl
    rw [flatF, List.flatMap_cons, List.getElem?_append_right (by rw [hl]; omega), hl, show (i + 1) * 2 + j - 2 = i * 2 + j by omega]
    exact ih
theorem flatF_one (fs : Fds) : ∀ u ∈ flatF fs, u.oneCell' = true := by
  intro u hu
  simp only [flatF, List.mem_flatMap] at hu
  obtain ⟨p, _, hp⟩ := hu
  simp only [fldC, List.mem_cons, List.mem_nil_iff, or_false] at hp
  rcases hp with rfl | rfl <;> rfl
theorem Fl.src {w0 w : World} {As : List HA} {a : Option Addr} {fs : Fds} (h : Fl w0 a fs) (hw : HS w0 [] As w) : Src a (flatF fs) w := by
  intro hne
  have hl := flatF_length fs
  have hpos : 0 < fs.length := by
    rcases Nat.eq_zero_or_pos fs.length with h0 | h0
    · rw [h0] at hl; exact absurd (List.eq_nil_of_length_eq_zero hl) hne
    · exact h0
  refine ⟨ab a, ao a, Sl.some h hpos, fun j u hu => ?_⟩
  have hj : j < fs.length * 2 := by
    rw [← hl]
    exact (List.getElem?_eq_some_iff.1 hu).1
  have e : j / 2 * 2 + j % 2 = j := by omega
  have h1 := flatF_get fs (j / 2) (j % 2) (by omega) (by omega)
  rw [e, hu] at h1
  have h2 := hw.rd (h.rd (i := j / 2) (by omega) (j % 2) u h1.symm)
  rw [show ao a + j / 2 * 2 + j % 2 = ao a + j by omega] at h2
  exact h2
theorem HS.fl {w0 w : World} {M : List Nat} {As As' : List HA} {v : Value} {t : TypeId} {fs : Fds} {a : Option Addr} {cap : Nat} (h : HS w0 M As w) (hp : Pick As (.own v t 2 fs.length (flatF fs)) As') (hv : v = .slice a fs.length cap) : Fl w a fs :=
  h.sl_own hp hv fun i hi => ⟨rfl, fun j u hu => by
    have hj : j < 2 := by
      have := (List.getElem?_eq_some_iff.1 hu).1
      simpa [fldC] using this
    rw [flatF_get fs i j hi hj]; exact hu⟩
theorem Fl.none {w : World} {fs : Fds} (h : Fl w Option.none fs) : fs = [] := by
  cases fs with
  | nil => rfl
  | cons p fs =>
    obtain ⟨b, o, h1, _⟩ := Sl.at_ h (by simp)
    cases h1
end Gx
