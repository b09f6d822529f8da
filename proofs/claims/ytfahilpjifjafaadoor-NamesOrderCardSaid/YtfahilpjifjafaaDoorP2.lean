/- Contracts of the program's functions, proved by walking them with the rules of the Gx texts; without conditions beyond those that each contract names. -/
import Derived.WalkKit
import Derived.Deep.Draws
import Derived.TacticsIn
import Derived.OrdersIn
import Derived.RangeFuncLeaves
import Derived.Lib.Strings
import Derived.Laws.BytesArg
import Derived.Laws.IdiomStrings
import Derived.Deep.Quiet
import Derived.ProofKit
import Derived.OpenShut
import Derived.Laws.StructEq
import Derived.ChangeKeysEq
import Derived.Laws.Externs
import Derived.Lib.Overlaps
import Derived.Carry
import Derived.Laws.Small
import Derived.Lib.Bytealg
import Derived.Shelf.Small.Strs
import Derived.Shelf.Strconv.Itoa0
import Derived.Shelf.Strconv.Itoa1
import Derived.Shelf.LaysM
import Derived.Shelf.Strconv.Itoa2
import Derived.Shelf.Strconv.Itoa3
import Derived.Shelf.Strings.Search1
import Derived.Shelf.Strings.Search2
import Derived.Shelf.Strings.Cut
import Derived.Shelf.Strings.Shaped
import Derived.Shelf.Strings.LastIndex
import Derived.Shelf.GgClosure.StringsIndexFunc
import Derived.Ground.GgwProg
import Derived.Shelf.GgClosure.StringsIndexFuncTop
import Derived.Shelf.Strings.Prefix
import Derived.Test.YtfahilpjifjafaaDoorProg
import Derived.KernelRfl
import Derived.Lib.LastIndexByte
import Derived.Lib.ItoaNum
import Derived.Lib.SmallJoins
import Derived.Lib.AppendIntMem
import Derived.Test.YtfahilpjifjafaaDoorTie
import Derived.Test.YtfahilpjifjafaaDoorCards
import Derived.SevenTiedAt
import Derived.LaidMore
import Derived.Stop.Joined
import Derived.Lib.LaidTab
import Derived.Test.YtfahilpjifjafaaDoorP1
/- A stable sort as slices.SortStableFunc does it, on a row of numbers: what it computes, and that this is the order. Plain data. -/
namespace Gx
set_option linter.unusedSimpArgs false
set_option linter.unusedVariables false
/-! ## What is computed -/
def swp (I : List Nat) (i j : Nat) : List Nat := (I.set i (I.getD j 0)).set j (I.getD i 0)
def Keep (N n : Nat) (I : List Nat) : Prop := I.length = n ∧ ∀ i ∈ I, i < N
theorem Keep.get {N n : Nat} {I : List Nat} (h : Keep N n I) {k : Nat} (hk : k < n) : I.getD k 0 < N := by
  have hk' : k < I.length := by rw [h.1]; exact hk
  rw [List.getD_eq_getElem?_getD, List.getElem?_eq_getElem hk']
  exact h.2 _ (List.getElem_mem hk')
theorem Keep.set {N n : Nat} {I : List Nat} (h : Keep N n I) (i : Nat) {v : Nat} (hv : I ≠ [] → v < N) : Keep N n (I.set i v) := by
  refine ⟨by rw [List.length_set]; exact h.1, fun x hx => ?_⟩
  rcases List.mem_or_eq_of_mem_set hx with hx | rfl
  · exact h.2 x hx
  · exact hv fun e => by subst e; cases hx
theorem Keep.getD {N n : Nat} {I : List Nat} (h : Keep N n I) (j : Nat) (hI : I ≠ []) : I.getD j 0 < N := by
  rcases Nat.lt_or_ge j I.length with hj | hj
  · exact h.get (by rw [← h.1]; exact hj)
  · rw [List.getD_eq_getElem?_getD, List.getElem?_eq_none hj]
    cases I with
    | nil => exact absurd rfl hI
    | cons a I => exact Nat.lt_of_le_of_lt (Nat.zero_le _) (h.2 a (List.mem_cons_self ..))
theorem Keep.swp {N n : Nat} {I : List Nat} (h : Keep N n I) (i j : Nat) : Keep N n (swp I i j) :=
  (h.set i (h.getD j)).set j fun _ => h.getD i (by rintro rfl; contradiction)
section
variable (c : Nat → Nat → Int)
def bub (a : Nat) : Nat → List Nat → List Nat
  | 0, I => I
  | j + 1, I => if a < j + 1 ∧ c (I.getD (j + 1) 0) (I.getD j 0) < 0 then bub a j (swp I (j + 1) j) else I
def insS (a : Nat) : Nat → Nat → List Nat → List Nat
  | 0, _, I => I
  | k + 1, i, I => insS a k (i + 1) (bub c a i I)
def ins (a e : Nat) (I : List Nat) : List Nat := insS c a (e - (a + 1)) (a + 1) I
def srch (p : Nat → Bool) : Nat → Nat → Nat → Nat
  | 0, i, _ => i
  | f + 1, i, j => if i < j then (if p ((i + j) / 2) = true then srch p f ((i + j) / 2 + 1) j else srch p f i ((i + j) / 2)) else i
def mvR : Nat → Nat → List Nat → List Nat
  | 0, _, I => I
  | f + 1, k, I => mvR f (k + 1) (swp I k (k + 1))
def mvL : Nat → Nat → List Nat → List Nat
  | 0, _, I => I
  | f + 1, k, I => mvL f (k - 1) (swp I k (k - 1))
def swr : Nat → Nat → Nat → List Nat → List Nat
  | 0, _, _, I => I
  | n + 1, a, b, I => swr n (a + 1) (b + 1) (swp I a b)
def rotN : Nat → Nat → Nat → Nat → List Nat → List Nat
  | 0, _, _, _, I => I
  | f + 1, i, j, m, I => if i = j then swr i (m - i) m I else if j < i then rotN f (i - j) j m (swr j (m - i) m I) else rotN f i (j - i) m (swr i (m - i) (m + j - i) I)
def rot (a m b : Nat) (I : List Nat) : List Nat := rotN ((m - a) + (b - m)) (m - a) (b - m) m I
def p1 (I : List Nat) (a h : Nat) : Bool := decide (c (I.getD h 0) (I.getD a 0) < 0)
def p2 (I : List Nat) (m h : Nat) : Bool := !decide (c (I.getD m 0) (I.getD h 0) < 0)
def p3 (I : List Nat) (q h : Nat) : Bool := !decide (c (I.getD (q - h) 0) (I.getD h 0) < 0)
def sStart (I : List Nat) (a m b : Nat) : Nat :=
  srch (p3 c I ((a + b) / 2 + m - 1)) (b - a) (if (a + b) / 2 < m then (a + b) / 2 + m - b else a) (if (a + b) / 2 < m then (a + b) / 2 else m)
def symR (g : Nat → Nat → Nat → List Nat → List Nat) (a b mid s e : Nat) (I : List Nat) : List Nat :=
  if mid < e ∧ e < b then g mid e b (if a < s ∧ s < mid then g a s mid I else I) else if a < s ∧ s < mid then g a s mid I else I
def symM : Nat → Nat → Nat → Nat → List Nat → List Nat
  | 0, _, _, _, I => I
  | f + 1, a, m, b, I =>
    if m - a = 1 then mvR (srch (p1 c I a) (b - m) m b - 1 - a) a I
    else if b - m = 1 then mvL (m - srch (p2 c I m) (m - a) a m) m I
    else symR (symM f) a b ((a + b) / 2) (sStart c I a m b) ((a + b) / 2 + m - sStart c I a m b) (if sStart c I a m b < m ∧ m < (a + b) / 2 + m - sStart c I a m b then rot (sStart c I a m b) m ((a + b) / 2 + m - sStart c I a m b) I else I)
def stI (n : Nat) : Nat → Nat → List Nat → List Nat
  | 0, a, I => ins c a n I
  | f + 1, a, I => if a + 20 ≤ n then stI n f (a + 20) (ins c a (a + 20) I) else ins c a n I
def stP (n bs : Nat) : Nat → Nat → List Nat → List Nat
  | 0, _, I => I
  | f + 1, a, I => if a + 2 * bs ≤ n then stP n bs f (a + 2 * bs) (symM c n a (a + bs) (a + 2 * bs) I) else if a + bs < n then symM c n a (a + bs) n I else I
def stMg (n : Nat) : Nat → Nat → List Nat → List Nat
  | 0, _, I => I
  | f + 1, bs, I => if bs < n then stMg n f (2 * bs) (stP c n bs n 0 I) else I
def stab (n : Nat) (I : List Nat) : List Nat := stMg c n n 20 (stI c n n 0 I)
theorem bub_stop (a : Nat) (I : List Nat) : bub c a a I = I := by
  cases a with
  | zero => rfl
  | succ a => rw [bub, if_neg (by omega)]
theorem bub_end {a j : Nat} {K : List Nat} (haj : a ≤ j) (h : ¬ (a < j ∧ c (K.getD j 0) (K.getD (j - 1) 0) < 0)) : bub c a j K = K := by
  rcases Nat.lt_or_ge a j with h9 | h9
  · obtain ⟨j9, rfl⟩ : ∃ j9, j = j9 + 1 := ⟨j - 1, by omega⟩
    rw [Nat.add_sub_cancel] at h
    rw [bub, if_neg h]
  · obtain rfl : j = a := by omega
    exact bub_stop ..
theorem bub_go {a j : Nat} {K : List Nat} (h : a < j ∧ c (K.getD j 0) (K.getD (j - 1) 0) < 0) : bub c a j K = bub c a (j - 1) (swp K j (j - 1)) := by
  obtain ⟨j9, rfl⟩ : ∃ j9, j = j9 + 1 := ⟨j - 1, by omega⟩
  rw [Nat.add_sub_cancel] at h ⊢
  rw [bub, if_pos h]
theorem sStart_eq {I : List Nat} {x m y mid s0 r0 : Nat} (hm : (x + y) / 2 = mid) (hs : s0 = if mid < m then mid + m - y else x) (hr : r0 = if mid < m then mid else m) : sStart c I x m y = srch (p3 c I (mid + m - 1)) (y - x) s0 r0 := by
  unfold sStart
  rw [hm, ← hs, ← hr]
end
/-! ## Its length, its numbers -/
section
variable {c : Nat → Nat → Int} {N n : Nat}
theorem Keep.bub (a : Nat) : ∀ (j : Nat) {I : List Nat}, Keep N n I → Keep N n (bub c a j I)
  | 0, _, h => h
  | j + 1, _, h => by
    unfold Gx.bub
    split
    · exact Keep.bub a j (h.swp _ _)
    · exact h
theorem Keep.insS (a : Nat) : ∀ (k i : Nat) {I : List Nat}, Keep N n I → Keep N n (insS c a k i I)
  | 0, _, _, h => h
  | k + 1, i, _, h => Keep.insS a k (i + 1) (h.bub a i)
theorem Keep.ins {a e : Nat} {I : List Nat} (h : Keep N n I) : Keep N n (ins c a e I) := h.insS a _ _
theorem Keep.mvR : ∀ (f k : Nat) {I : List Nat}, Keep N n I → Keep N n (mvR f k I)
  | 0, _, _, h => h
  | f + 1, k, _, h => Keep.mvR f (k + 1) (h.swp _ _)
theorem Keep.mvL : ∀ (f k : Nat) {I : List Nat}, Keep N n I → Keep N n (mvL f k I)
  | 0, _, _, h => h
  | f + 1, k, _, h => Keep.mvL f (k - 1) (h.swp _ _)
theorem Keep.swr : ∀ (f a b : Nat) {I : List Nat}, Keep N n I → Keep N n (swr f a b I)
  | 0, _, _, _, h => h
  | f + 1, a, b, _, h => Keep.swr f (a + 1) (b + 1) (h.swp _ _)
theorem Keep.rotN : ∀ (f i j m : Nat) {I : List Nat}, Keep N n I → Keep N n (rotN f i j m I)
  | 0, _, _, _, _, h => h
  | f + 1, i, j, m, _, h => by
    unfold Gx.rotN
    split
    · exact h.swr _ _ _
    · split
      · exact Keep.rotN f _ _ _ (h.swr _ _ _)
      · exact Keep.rotN f _ _ _ (h.swr _ _ _)
theorem Keep.rot {a m b : Nat} {I : List Nat} (h : Keep N n I) : Keep N n (rot a m b I) := h.rotN _ _ _ _
theorem Keep.symM : ∀ (f a m b : Nat) {I : List Nat}, Keep N n I → Keep N n (symM c f a m b I)
  | 0, _, _, _, _, h => h
  | f + 1, a, m, b, _, h => by
    unfold Gx.symM
    split
    · exact h.mvR _ _
    · split
      · exact h.mvL _ _
      · have h1 : ∀ {J : List Nat} (s e mid : Nat), Keep N n J → Keep N n (Gx.symR (Gx.symM c f) a b mid s e J) := fun s e mid hJ => by
          unfold Gx.symR
          split
          · refine Keep.symM f _ _ _ ?_
            split
            · exact Keep.symM f _ _ _ hJ
            · exact hJ
          · split
            · exact Keep.symM f _ _ _ hJ
            · exact hJ
        refine h1 _ _ _ ?_
        split
        · exact h.rot
        · exact h
theorem Keep.stI : ∀ (f a : Nat) {q : Nat} {I : List Nat}, Keep N n I → Keep N n (stI c q f a I)
  | 0, _, _, _, h => h.ins
  | f + 1, a, _, _, h => by
    unfold Gx.stI
    split
    · exact Keep.stI f _ h.ins
    · exact h.ins
theorem Keep.stP : ∀ (f a : Nat) {q bs : Nat} {I : List Nat}, Keep N n I → Keep N n (stP c q bs f a I)
  | 0, _, _, _, _, h => h
  | f + 1, a, _, _, _, h => by
    unfold Gx.stP
    split
    · exact Keep.stP f _ (h.symM _ _ _ _)
    · split
      · exact h.symM _ _ _ _
      · exact h
theorem Keep.stMg : ∀ (f bs : Nat) {q : Nat} {I : List Nat}, Keep N n I → Keep N n (stMg c q f bs I)
  | 0, _, _, _, h => h
  | f + 1, bs, _, _, h => by
    unfold Gx.stMg
    split
    · exact Keep.stMg f _ (h.stP _ _)
    · exact h
theorem Keep.stab {q : Nat} {I : List Nat} (h : Keep N n I) : Keep N n (stab c q I) := (h.stI _ _).stMg _ _
end
/-! ## Searching -/
theorem srch_ok {p : Nat → Bool} : ∀ {f i j : Nat}, j - i ≤ f → i ≤ j → i ≤ srch p f i j ∧ srch p f i j ≤ j ∧ (srch p f i j = i ∨ p (srch p f i j - 1) = true) ∧ (srch p f i j = j ∨ p (srch p f i j) = false)
  | 0, i, j, hf, hij => by
    obtain rfl : i = j := by omega
    exact ⟨Nat.le_refl _, Nat.le_refl _, .inl rfl, .inl rfl⟩
  | f + 1, i, j, hf, hij => by
    unfold srch
    split
    · rename_i h
      split
      · rename_i hp
        obtain ⟨h1, h2, h3, h4⟩ := srch_ok (p := p) (f := f) (i := (i + j) / 2 + 1) (j := j) (by omega) (by omega)
        refine ⟨by omega, h2, ?_, h4⟩
        rcases h3 with h3 | h3
        · right; rw [h3, Nat.add_sub_cancel]; exact hp
        · exact .inr h3
      · rename_i hp
        obtain ⟨h1, h2, h3, h4⟩ := srch_ok (p := p) (f := f) (i := i) (j := (i + j) / 2) (by omega) (by omega)
        refine ⟨h1, by omega, h3, ?_⟩
        rcases h4 with h4 | h4
        · right; rw [h4]; simpa using hp
        · exact .inr h4
    · obtain rfl : i = j := by omega
      exact ⟨Nat.le_refl _, Nat.le_refl _, .inl rfl, .inl rfl⟩
theorem srch_step {p : Nat → Bool} {f i j : Nat} (h : i < j) (hf : j - i ≤ f) : ∃ g, f = g + 1 ∧ srch p f i j = if p ((i + j) / 2) = true then srch p g ((i + j) / 2 + 1) j else srch p g i ((i + j) / 2) := by
  obtain ⟨g, rfl⟩ : ∃ g, f = g + 1 := ⟨f - 1, by omega⟩
  exact ⟨g, rfl, by rw [srch, if_pos h]⟩
theorem srch_end {p : Nat → Bool} {f i j : Nat} (h : ¬ i < j) : srch p f i j = i := by
  cases f with
  | zero => rfl
  | succ f => rw [srch, if_neg h]
/-! ## Moves -/
theorem getD_mid (A B : List Nat) (x : Nat) : (A ++ x :: B).getD A.length 0 = x := by simp [List.getD_eq_getElem?_getD]
theorem getD_at {A B : List Nat} {x k : Nat} (h : k = A.length) : (A ++ x :: B).getD k 0 = x := by subst h; exact getD_mid A B x
theorem set_mid (A B : List Nat) (x y : Nat) : (A ++ x :: B).set A.length y = A ++ y :: B := by simp
theorem swp_comm {I : List Nat} {i j : Nat} (h : i ≠ j) : swp I i j = swp I j i := by unfold swp; rw [List.set_comm _ _ h]
theorem swp_far (A M B : List Nat) (x y : Nat) : swp (A ++ x :: (M ++ y :: B)) A.length (A.length + 1 + M.length) = A ++ y :: (M ++ x :: B) := by
  unfold swp
  have e : A ++ x :: (M ++ y :: B) = (A ++ x :: M) ++ y :: B := by simp
  have h1 : (A ++ x :: (M ++ y :: B)).getD (A.length + 1 + M.length) 0 = y := by rw [e]; exact getD_at (by simp; omega)
  rw [h1, getD_mid, set_mid]
  have e2 : A ++ y :: (M ++ y :: B) = (A ++ y :: M) ++ y :: B := by simp
  have hl : A.length + 1 + M.length = (A ++ y :: M).length := by simp; omega
  rw [e2, hl, set_mid]
  simp
theorem swp_adj (A B : List Nat) (x y : Nat) : swp (A ++ x :: y :: B) A.length (A.length + 1) = A ++ y :: x :: B := swp_far A [] B x y
theorem swp_adj' (A B : List Nat) (x y : Nat) : swp (A ++ x :: y :: B) (A.length + 1) A.length = A ++ y :: x :: B := by rw [swp_comm (by omega)]; exact swp_adj A B x y
theorem mvR_app (x : Nat) (S : List Nat) : ∀ (R A : List Nat), mvR R.length A.length (A ++ x :: (R ++ S)) = A ++ (R ++ x :: S)
  | [], A => rfl
  | y :: R, A => by
    rw [List.length_cons, mvR, List.cons_append, swp_adj]
    have h := mvR_app x S R (A ++ [y])
    rw [List.length_append, List.length_singleton] at h
    simpa using h
theorem mvL_app (y : Nat) (S : List Nat) : ∀ (k : Nat) (A L : List Nat), L.length = k → mvL k (A.length + k) (A ++ (L ++ y :: S)) = A ++ y :: (L ++ S)
  | 0, A, L, h => by
    obtain rfl := List.eq_nil_of_length_eq_zero h
    rfl
  | k + 1, A, L, h => by
    obtain ⟨L', z, rfl⟩ : ∃ L' z, L = L' ++ [z] := by
      rcases List.eq_nil_or_concat L with rfl | ⟨L', z, rfl⟩
      · cases h
      · exact ⟨L', z, by simp⟩
    have hl : L'.length = k := by simpa using h
    rw [mvL]
    have e : A ++ (L' ++ [z] ++ y :: S) = (A ++ L') ++ z :: y :: S := by simp
    have h2 : A.length + (k + 1) = (A ++ L').length + 1 := by simp; omega
    rw [e, h2, Nat.add_sub_cancel, swp_adj']
    have h3 := mvL_app y (z :: S) k A L' hl
    rw [show (A ++ L').length = A.length + k by simp [hl], show A ++ L' ++ y :: z :: S = A ++ (L' ++ y :: z :: S) by simp, h3]
    simp
theorem swr_app (B : List Nat) : ∀ (X Z A Y : List Nat), X.length = Z.length → swr X.length A.length (A.length + X.length + Y.length) (A ++ (X ++ (Y ++ (Z ++ B)))) = A ++ (Z ++ (Y ++ (X ++ B)))
  | [], Z, A, Y, h => by
    obtain rfl := List.eq_nil_of_length_eq_zero h.symm
    rfl
  | x :: X, [], A, Y, h => by cases h
  | x :: X, z :: Z, A, Y, h => by
    have hl : X.length = Z.length := by simpa using h
    rw [List.length_cons, swr]
    have e : A ++ (x :: X ++ (Y ++ (z :: Z ++ B))) = A ++ x :: ((X ++ Y) ++ z :: (Z ++ B)) := by simp
    rw [e, show A.length + (X.length + 1) + Y.length = A.length + 1 + (X ++ Y).length by simp; omega, swp_far]
    have h3 := swr_app B X Z (A ++ [z]) (Y ++ [x]) hl
    rw [show (A ++ [z]).length = A.length + 1 by simp, show A.length + 1 + X.length + (Y ++ [x]).length = A.length + 1 + (X ++ Y).length + 1 by simp; omega, show A ++ [z] ++ (X ++ (Y ++ [x] ++ (Z ++ B))) = A ++ z :: (X ++ Y ++ x :: (Z ++ B)) by simp] at h3
    rw [h3]
    simp
theorem rotN_app : ∀ (f : Nat) (A L R B : List Nat) (m : Nat), L.length + R.length ≤ f → 0 < L.length → 0 < R.length → m = A.length + L.length → rotN f L.length R.length m (A ++ (L ++ (R ++ B))) = A ++ (R ++ (L ++ B))
  | 0, _, _, _, _, _, h, h1, h2, _ => by omega
  | f + 1, A, L, R, B, m, hf, h1, h2, hm => by
    unfold rotN
    split
    · rename_i he
      have h3 := swr_app B L R A [] he
      subst hm
      rw [Nat.add_sub_cancel]
      simpa using h3
    · rename_i he
      split
      · rename_i hlt
        obtain ⟨L1, L2, rfl, hl1⟩ : ∃ L1 L2, L = L1 ++ L2 ∧ L1.length = R.length := ⟨L.take R.length, L.drop R.length, (List.take_append_drop _ _).symm, by rw [List.length_take]; omega⟩
        have hl : (L1 ++ L2).length = L1.length + L2.length := List.length_append
        have h3 := swr_app B L1 R A L2 hl1
        rw [hl] at hf hlt he hm h1 ⊢
        rw [show m - (L1.length + L2.length) = A.length by omega, show m = A.length + L1.length + L2.length by omega, ← hl1, List.append_assoc, h3]
        have h4 := rotN_app f (A ++ R) L2 L1 B m (by omega) (by omega) (by omega) (by rw [List.length_append]; omega)
        rw [show L1.length + L2.length - L1.length = L2.length by omega, show A.length + L1.length + L2.length = m by omega]
        rw [show A ++ (R ++ (L2 ++ (L1 ++ B))) = A ++ R ++ (L2 ++ (L1 ++ B)) by simp, h4]
        simp
      · rename_i hge
        obtain ⟨R1, R2, rfl, hl1⟩ : ∃ R1 R2, R = R1 ++ R2 ∧ R2.length = L.length := ⟨R.take (R.length - L.length), R.drop (R.length - L.length), (List.take_append_drop _ _).symm, by rw [List.length_drop]; omega⟩
        have hl : (R1 ++ R2).length = R1.length + R2.length := List.length_append
        have h3 := swr_app B L R2 A R1 hl1.symm
        rw [hl] at hf hge he h2 ⊢
        rw [show m - L.length = A.length by omega, show m + (R1.length + R2.length) - L.length = A.length + L.length + R1.length by omega, List.append_assoc, h3]
        have h4 := rotN_app f A R2 R1 (L ++ B) m (by omega) (by omega) (by omega) (by omega)
        rw [show R1.length + R2.length - L.length = R1.length by omega, ← hl1, h4]
        simp
theorem rot_app (A L R B : List Nat) (h1 : 0 < L.length) (h2 : 0 < R.length) : rot A.length (A.length + L.length) (A.length + L.length + R.length) (A ++ (L ++ (R ++ B))) = A ++ (R ++ (L ++ B)) := by
  unfold rot
  rw [show A.length + L.length - A.length = L.length by omega, show A.length + L.length + R.length - (A.length + L.length) = R.length by omega]
  exact rotN_app _ A L R B _ (Nat.le_refl _) h1 h2 rfl
end Gx

/- A stable sort as slices.SortStableFunc does it: the order is right. Plain data. -/
namespace Gx
set_option linter.unusedSimpArgs false
set_option linter.unusedVariables false
set_option linter.unusedSectionVars false
/-- The order of numbers: by c, then by the number. -/
def ltc (c : Nat → Nat → Int) (i j : Nat) : Prop := c i j < 0 ∨ (c i j = 0 ∧ i < j)
structure OrdC (c : Nat → Nat → Int) (N : Nat) : Prop where
  tr : ∀ i j k, i < N → j < N → k < N → ltc c i j → ltc c j k → ltc c i k
  tot : ∀ i j, i < N → j < N → i ≠ j → ltc c i j ∨ ltc c j i
section
variable {c : Nat → Nat → Int} {N : Nat}
theorem OrdC.not (h : OrdC c N) {l r : Nat} (hr : r < N) (hlr : l < r) (hn : ¬ c r l < 0) : ltc c l r := by
  rcases h.tot l r (by omega) hr (by omega) with h1 | h1
  · exact h1
  · rcases h1 with h1 | h1
    · exact absurd h1 hn
    · omega
abbrev SrtC (c : Nat → Nat → Int) (L : List Nat) : Prop := L.Pairwise (ltc c)
theorem bub_app (hO : OrdC c N) {x : Nat} (hx : x < N) (S A : List Nat) : ∀ (k : Nat) (P1 P2 : List Nat), P1.length = k → SrtC c (P1 ++ P2) → (∀ p ∈ P2, ltc c x p) → (∀ p ∈ P1, p < x) →
    ∃ X, bub c A.length (A.length + k) (A ++ (P1 ++ x :: (P2 ++ S))) = A ++ (X ++ S) ∧ X.Perm (P1 ++ x :: P2) ∧ SrtC c X
  | 0, P1, P2, hk, hs, h2, h1 => by
    obtain rfl := List.eq_nil_of_length_eq_zero hk
    refine ⟨x :: P2, by rw [Nat.add_zero, bub_stop]; simp, .refl _, List.pairwise_cons.2 ⟨h2, hs⟩⟩
  | k + 1, P1, P2, hk, hs, h2, h1 => by
    obtain ⟨P, z, rfl⟩ : ∃ P z, P1 = P ++ [z] := by
      rcases List.eq_nil_or_concat P1 with rfl | ⟨P, z, rfl⟩
      · cases hk
      · exact ⟨P, z, by simp⟩
    have hl : P.length = k := by simpa using hk
    have hz : z < x := h1 z (by simp)
    have hsp := List.pairwise_append.1 hs
    have e : A ++ (P ++ [z] ++ x :: (P2 ++ S)) = (A ++ P) ++ z :: x :: (P2 ++ S) := by simp
    have hlen : (A ++ P).length = A.length + k := by simp [hl]
    have g1 : (A ++ (P ++ [z] ++ x :: (P2 ++ S))).getD (A.length + k) 0 = z := by rw [e]; exact getD_at hlen.symm
    have g2 : (A ++ (P ++ [z] ++ x :: (P2 ++ S))).getD (A.length + k + 1) 0 = x := by
      rw [show A ++ (P ++ [z] ++ x :: (P2 ++ S)) = (A ++ P ++ [z]) ++ x :: (P2 ++ S) by simp]
      exact getD_at (by simp [hl]; omega)
    rw [show A.length + (k + 1) = A.length + k + 1 by omega, bub, g1, g2]
    by_cases hc : c x z < 0
    · rw [if_pos ⟨by omega, hc⟩, e, ← hlen, swp_adj', hlen]
      obtain ⟨X, e1, e2, e3⟩ := bub_app hO hx S A k P (z :: P2) hl (by simpa using hs) (fun p hp => by
        rcases List.mem_cons.1 hp with rfl | hp
        · exact .inl hc
        · exact h2 p hp) (fun p hp => h1 p (by simp [hp]))
      refine ⟨X, ?_, e2.trans ?_, e3⟩
      · rw [← e1]; simp
      · rw [List.append_assoc]
        exact List.Perm.append_left P (List.Perm.swap ..)
    · rw [if_neg fun h => hc h.2]
      have hzx : ltc c z x := hO.not hx hz hc
      refine ⟨P ++ [z] ++ x :: P2, by simp, .refl _, List.pairwise_append.2 ⟨hsp.1, List.pairwise_cons.2 ⟨h2, hsp.2.1⟩, fun p hp q hq => ?_⟩⟩
      have hpx : ltc c p x := by
        rcases List.mem_append.1 hp with hp' | hp'
        · have h3 := (List.pairwise_append.1 hsp.1).2.2 p hp' z (List.mem_singleton.2 rfl)
          have := h1 p (List.mem_append_left _ hp')
          exact hO.tr p z x (by omega) (by omega) hx h3 hzx
        · obtain rfl := List.mem_singleton.1 hp'
          exact hzx
      rcases List.mem_cons.1 hq with rfl | hq
      · exact hpx
      · exact hsp.2.2 p hp q hq
theorem insS_app (hO : OrdC c N) (S A : List Nat) : ∀ (Q P : List Nat), SrtC c P → (∀ p ∈ P, ∀ q ∈ Q, p < q) → Q.Pairwise (· < ·) → (∀ q ∈ Q, q < N) →
    ∃ X, insS c A.length Q.length (A.length + P.length) (A ++ (P ++ (Q ++ S))) = A ++ (X ++ S) ∧ X.Perm (P ++ Q) ∧ SrtC c X
  | [], P, hs, _, _, _ => ⟨P, rfl, by simp, hs⟩
  | x :: Q, P, hs, hpq, hq, hN => by
    rw [List.length_cons, insS]
    obtain ⟨X, e1, e2, e3⟩ := bub_app hO (hN x (List.mem_cons_self ..)) (Q ++ S) A P.length P [] rfl (by simpa using hs) (fun p hp => by cases hp) (fun p hp => hpq p hp x (List.mem_cons_self ..))
    have hq' := List.pairwise_cons.1 hq
    rw [List.nil_append] at e1
    rw [List.cons_append, e1]
    have hl : X.length = P.length + 1 := by rw [e2.length_eq]; simp
    obtain ⟨Y, f1, f2, f3⟩ := insS_app hO S A Q X e3 (fun p hp q hqq => by
      have hp' := e2.subset hp
      rcases List.mem_append.1 hp' with h | h
      · exact hpq p h q (List.mem_cons_of_mem _ hqq)
      · obtain rfl := List.mem_singleton.1 h
        exact hq'.1 q hqq) hq'.2 (fun q h => hN q (List.mem_cons_of_mem _ h))
    rw [hl, show A.length + (P.length + 1) = A.length + P.length + 1 by omega] at f1
    refine ⟨Y, f1, f2.trans ?_, f3⟩
    have := List.Perm.append_right Q e2
    simpa using this
theorem ins_app (hO : OrdC c N) (S A L : List Nat) (hq : L.Pairwise (· < ·)) (hN : ∀ q ∈ L, q < N) : ∃ X, ins c A.length (A.length + L.length) (A ++ (L ++ S)) = A ++ (X ++ S) ∧ X.Perm L ∧ SrtC c X := by
  unfold ins
  cases L with
  | nil => exact ⟨[], by simp [insS], .refl _, .nil⟩
  | cons x L =>
    have h := List.pairwise_cons.1 hq
    obtain ⟨X, e1, e2, e3⟩ := insS_app hO S A L [x] (List.pairwise_singleton ..) (fun p hp9 q hq9 => by rw [List.mem_singleton.1 hp9]; exact h.1 q hq9) h.2 (fun q hq => hN q (List.mem_cons_of_mem _ hq))
    refine ⟨X, ?_, e2, e3⟩
    rw [show A.length + (x :: L).length - (A.length + 1) = L.length by simp; omega]
    exact e1
/-! ## Merging -/
theorem getD_app (A B : List Nat) (k : Nat) : (A ++ B).getD (A.length + k) 0 = B.getD k 0 := by
  simp [List.getD_eq_getElem?_getD, List.getElem?_append_right]
theorem getD_memN {L : List Nat} {k : Nat} (h : k < L.length) : L.getD k 0 ∈ L := by
  rw [List.getD_eq_getElem?_getD, List.getElem?_eq_getElem h]
  exact List.getElem_mem h
theorem getD_app1 {A B : List Nat} {k : Nat} (h : k < A.length) : (A ++ B).getD k 0 = A.getD k 0 := by
  simp [List.getD_eq_getElem?_getD, List.getElem?_append_left h]
theorem srt_last {P : List Nat} {x : Nat} (hO : OrdC c N) (hs : SrtC c P) (hN : ∀ p ∈ P, p < N) (hx : x < N) (h : P = [] ∨ ltc c (P.getD (P.length - 1) 0) x) : ∀ p ∈ P, ltc c p x := by
  rcases List.eq_nil_or_concat P with rfl | ⟨Q, z, rfl⟩
  · intro p hp; cases hp
  · rcases h with h | h
    · simp at h
    · have e : (Q.concat z).getD ((Q.concat z).length - 1) 0 = z := by simp [List.getD_eq_getElem?_getD]
      rw [e] at h
      rw [List.concat_eq_append] at hs hN ⊢
      have h1 := (List.pairwise_append.1 hs).2.2
      intro p hp
      rcases List.mem_append.1 hp with hp' | hp'
      · exact hO.tr p z x (hN p hp) (hN z (by simp)) hx (h1 p hp' z (by simp)) h
      · obtain rfl := List.mem_singleton.1 hp'
        exact h
theorem srt_first {R : List Nat} {x : Nat} (hO : OrdC c N) (hs : SrtC c R) (hN : ∀ p ∈ R, p < N) (hx : x < N) (h : R = [] ∨ ltc c x (R.getD 0 0)) : ∀ p ∈ R, ltc c x p := by
  cases R with
  | nil => intro p hp; cases hp
  | cons z R =>
    rcases h with h | h
    · cases h
    · have h2 : ltc c x z := by simpa using h
      intro p hp
      rcases List.mem_cons.1 hp with rfl | hp'
      · exact h2
      · exact hO.tr x z p hx (hN z (by simp)) (hN p hp) h2 ((List.pairwise_cons.1 hs).1 p hp')
/-- All of one list before all of another one: by the last and the first. -/
theorem srt_cross {P R : List Nat} (hO : OrdC c N) (hsP : SrtC c P) (hsR : SrtC c R) (hP : ∀ p ∈ P, p < N) (hR : ∀ p ∈ R, p < N) (h : P = [] ∨ R = [] ∨ ltc c (P.getD (P.length - 1) 0) (R.getD 0 0)) : ∀ p ∈ P, ∀ r ∈ R, ltc c p r := by
  rcases h with rfl | rfl | h
  · intro p hp; cases hp
  · intro p _ r hr; cases hr
  · intro p hp r hr
    have hP0 : 0 < P.length := List.length_pos_of_mem hp
    have hl := hP _ (getD_memN (L := P) (k := P.length - 1) (by omega))
    exact srt_last hO hsP hP (hR r hr) (.inr (srt_first hO hsR hR hl (.inr h) r hr)) p hp
theorem srt_take {L : List Nat} (h : SrtC c L) (k : Nat) : SrtC c (L.take k) := h.sublist (List.take_sublist ..)
theorem srt_drop {L : List Nat} (h : SrtC c L) (k : Nat) : SrtC c (L.drop k) := h.sublist (List.drop_sublist ..)
theorem getD_drop (L : List Nat) (k i : Nat) : (L.drop k).getD i 0 = L.getD (k + i) 0 := by simp [List.getD_eq_getElem?_getD, List.getElem?_drop]
theorem getD_take {L : List Nat} {k i : Nat} (h : i < k) : (L.take k).getD i 0 = L.getD i 0 := by simp [List.getD_eq_getElem?_getD, List.getElem?_take, h]
theorem symM_app (hO : OrdC c N) : ∀ (f : Nat) (A L R B : List Nat), L.length + R.length ≤ f → 0 < L.length → 0 < R.length → SrtC c L → SrtC c R → (∀ l ∈ L, ∀ r ∈ R, l < r) → (∀ r ∈ R, r < N) →
    ∃ X, symM c f A.length (A.length + L.length) (A.length + L.length + R.length) (A ++ (L ++ (R ++ B))) = A ++ (X ++ B) ∧ X.Perm (L ++ R) ∧ SrtC c X
  | 0, _, _, _, _, hf, h1, _, _, _, _, _ => by omega
  | f + 1, A, L, R, B, hf, h1, h2, hL, hR, hlr, hN => by
    have hNL : ∀ l ∈ L, l < N := fun l hl => by
      have := hlr l hl _ (getD_memN h2)
      have := hN _ (getD_memN h2)
      omega
    unfold symM
    by_cases c1 : A.length + L.length - A.length = 1
    · rw [if_pos c1]
      obtain ⟨x, rfl⟩ : ∃ x, L = [x] := by
        rcases L with _ | ⟨x, _ | ⟨y, L⟩⟩
        · cases h1
        · exact ⟨x, rfl⟩
        · simp at c1
      have hx := hNL x (by simp)
      have ha : (A ++ ([x] ++ (R ++ B))).getD A.length 0 = x := by simp [List.getD_eq_getElem?_getD]
      have hp : ∀ k, p1 c (A ++ ([x] ++ (R ++ B))) A.length (A.length + 1 + k) = decide (c ((R ++ B).getD k 0) x < 0) := fun k => by
        unfold p1
        rw [ha, show A.length + 1 + k = (A ++ [x]).length + k by simp, show A ++ ([x] ++ (R ++ B)) = (A ++ [x]) ++ (R ++ B) by simp, getD_app]
      obtain ⟨s1, s2, s3, s4⟩ := srch_ok (p := p1 c (A ++ ([x] ++ (R ++ B))) A.length) (f := A.length + [x].length + R.length - (A.length + [x].length)) (i := A.length + [x].length) (j := A.length + [x].length + R.length) (by omega) (by omega)
      generalize srch (p1 c (A ++ ([x] ++ (R ++ B))) A.length) (A.length + [x].length + R.length - (A.length + [x].length)) (A.length + [x].length) (A.length + [x].length + R.length) = i at *
      rw [List.length_singleton] at *
      obtain ⟨k, rfl⟩ : ∃ k, i = A.length + 1 + k := ⟨i - (A.length + 1), by omega⟩
      have hk : k ≤ R.length := by omega
      have q1 : ∀ p ∈ R.take k, ltc c p x := srt_last hO (srt_take hR k) (fun p hp => hN p (List.mem_of_mem_take hp)) hx (by
        rcases s3 with s3 | s3
        · left; rw [show k = 0 by omega]; rfl
        · rcases Nat.eq_zero_or_pos k with h0 | h0
          · left; rw [h0]; rfl
          · right
            rw [show A.length + 1 + k - 1 = A.length + 1 + (k - 1) by omega, hp, getD_app1 (by omega)] at s3
            rw [List.length_take, show min k R.length - 1 = k - 1 by omega, getD_take (by omega)]
            exact .inl (by simpa using s3))
      have q2 : ∀ p ∈ R.drop k, ltc c x p := srt_first hO (srt_drop hR k) (fun p hp => hN p (List.mem_of_mem_drop hp)) hx (by
        rcases s4 with s4 | s4
        · left; exact List.drop_eq_nil_of_le (by omega)
        · rcases Nat.lt_or_ge k R.length with h0 | h0
          · right
            rw [hp, getD_app1 h0] at s4
            rw [getD_drop]
            exact hO.not (hN _ (getD_memN h0)) (hlr x (by simp) _ (getD_memN h0)) (by simpa using s4)
          · left; exact List.drop_eq_nil_of_le h0)
      refine ⟨R.take k ++ x :: R.drop k, ?_, ?_, List.pairwise_append.2 ⟨srt_take hR k, List.pairwise_cons.2 ⟨q2, srt_drop hR k⟩, fun p hp9 q hq9 => ?_⟩⟩
      · have h := mvR_app x (R.drop k ++ B) (R.take k) A
        rw [List.length_take, Nat.min_eq_left hk] at h
        rw [show A.length + 1 + k - 1 - A.length = k by omega, show A ++ ([x] ++ (R ++ B)) = A ++ x :: (R.take k ++ (R.drop k ++ B)) by rw [← List.append_assoc (R.take k), List.take_append_drop]; rfl, h]
        simp
      · refine List.perm_middle.trans ?_
        rw [List.take_append_drop]
        exact .refl _
      · rcases List.mem_cons.1 hq9 with e9 | hq8
        · rw [e9]; exact q1 p hp9
        · have h := hR
          rw [← List.take_append_drop k R] at h
          exact (List.pairwise_append.1 h).2.2 p hp9 q hq8
    · rw [if_neg c1]
      by_cases c2 : A.length + L.length + R.length - (A.length + L.length) = 1
      · rw [if_pos c2]
        obtain ⟨y, rfl⟩ : ∃ y, R = [y] := by
          rcases R with _ | ⟨x, _ | ⟨y, R⟩⟩
          · cases h2
          · exact ⟨x, rfl⟩
          · simp at c2
        have hy := hN y (by simp)
        have ha : (A ++ (L ++ ([y] ++ B))).getD (A.length + L.length) 0 = y := by rw [show A ++ (L ++ ([y] ++ B)) = (A ++ L) ++ y :: B by simp]; exact getD_at (by simp)
        have hp : ∀ k, k < L.length → p2 c (A ++ (L ++ ([y] ++ B))) (A.length + L.length) (A.length + k) = !decide (c y (L.getD k 0) < 0) := fun k hk => by
          unfold p2
          rw [ha, getD_app, getD_app1 hk]
        obtain ⟨s1, s2, s3, s4⟩ := srch_ok (p := p2 c (A ++ (L ++ ([y] ++ B))) (A.length + L.length)) (f := A.length + L.length - A.length) (i := A.length) (j := A.length + L.length) (by omega) (by omega)
        generalize srch (p2 c (A ++ (L ++ ([y] ++ B))) (A.length + L.length)) (A.length + L.length - A.length) A.length (A.length + L.length) = i at *
        obtain ⟨k, rfl⟩ : ∃ k, i = A.length + k := ⟨i - A.length, by omega⟩
        have hk : k ≤ L.length := by omega
        have q1 : ∀ p ∈ L.take k, ltc c p y := srt_last hO (srt_take hL k) (fun p hp => hNL p (List.mem_of_mem_take hp)) hy (by
          rcases s3 with s3 | s3
          · left; rw [show k = 0 by omega]; rfl
          · rcases Nat.eq_zero_or_pos k with h0 | h0
            · left; rw [h0]; rfl
            · right
              rw [show A.length + k - 1 = A.length + (k - 1) by omega, hp _ (by omega)] at s3
              rw [List.length_take, show min k L.length - 1 = k - 1 by omega, getD_take (by omega)]
              have hm : L.getD (k - 1) 0 ∈ L := getD_memN (by omega)
              exact hO.not hy (hlr _ hm y (by simp)) (by simpa using s3))
        have q2 : ∀ p ∈ L.drop k, ltc c y p := srt_first hO (srt_drop hL k) (fun p hp => hNL p (List.mem_of_mem_drop hp)) hy (by
          rcases s4 with s4 | s4
          · left; exact List.drop_eq_nil_of_le (by omega)
          · rcases Nat.lt_or_ge k L.length with h0 | h0
            · right
              rw [hp _ h0] at s4
              rw [getD_drop]
              exact .inl (by simpa using s4)
            · left; exact List.drop_eq_nil_of_le h0)
        refine ⟨L.take k ++ y :: L.drop k, ?_, ?_, List.pairwise_append.2 ⟨srt_take hL k, List.pairwise_cons.2 ⟨q2, srt_drop hL k⟩, fun p hp9 q hq9 => ?_⟩⟩
        · have h := mvL_app y B (L.length - k) (A ++ L.take k) (L.drop k) (by rw [List.length_drop])
          rw [show A.length + L.length - (A.length + k) = L.length - k by omega]
          rw [show (A ++ L.take k).length + (L.length - k) = A.length + L.length by rw [List.length_append, List.length_take]; omega] at h
          rw [show A ++ (L ++ ([y] ++ B)) = A ++ L.take k ++ (L.drop k ++ y :: B) by rw [List.append_assoc, ← List.append_assoc (L.take k), List.take_append_drop]; rfl, h]
          simp
        · have h := List.perm_middle (a := y) (l₁ := L.take k) (l₂ := L.drop k)
          rw [List.take_append_drop] at h
          exact h.trans (List.perm_append_comm (l₁ := [y]))
        · rcases List.mem_cons.1 hq9 with e9 | hq8
          · rw [e9]; exact q1 p hp9
          · have h := hL
            rw [← List.take_append_drop k L] at h
            exact (List.pairwise_append.1 h).2.2 p hp9 q hq8
      · rw [if_neg c2]
        generalize hmid : (A.length + (A.length + L.length + R.length)) / 2 = mid
        have ha : ∀ k, k < L.length → (A ++ (L ++ (R ++ B))).getD (A.length + k) 0 = L.getD k 0 := fun k hk => by rw [getD_app, getD_app1 hk]
        have hb : ∀ k, k < R.length → (A ++ (L ++ (R ++ B))).getD (A.length + L.length + k) 0 = R.getD k 0 := fun k hk => by
          rw [show A ++ (L ++ (R ++ B)) = (A ++ L) ++ (R ++ B) by simp, show A.length + L.length + k = (A ++ L).length + k by simp, getD_app, getD_app1 hk]
        have hs : sStart c (A ++ (L ++ (R ++ B))) A.length (A.length + L.length) (A.length + L.length + R.length) = srch (p3 c (A ++ (L ++ (R ++ B))) (mid + (A.length + L.length) - 1)) (A.length + L.length + R.length - A.length) (if mid < A.length + L.length then mid + (A.length + L.length) - (A.length + L.length + R.length) else A.length) (if mid < A.length + L.length then mid else A.length + L.length) := by
          unfold sStart; rw [hmid]
        rw [hs]
        generalize hs0 : (if mid < A.length + L.length then mid + (A.length + L.length) - (A.length + L.length + R.length) else A.length) = s0
        generalize hr0 : (if mid < A.length + L.length then mid else A.length + L.length) = r0
        have b0 : (mid < A.length + L.length ∧ s0 = mid + (A.length + L.length) - (A.length + L.length + R.length) ∧ r0 = mid) ∨ (¬ mid < A.length + L.length ∧ s0 = A.length ∧ r0 = A.length + L.length) := by
          by_cases h : mid < A.length + L.length
          · rw [if_pos h] at hs0 hr0; exact .inl ⟨h, hs0.symm, hr0.symm⟩
          · rw [if_neg h] at hs0 hr0; exact .inr ⟨h, hs0.symm, hr0.symm⟩
        obtain ⟨s1, s2, s3, s4⟩ := srch_ok (p := p3 c (A ++ (L ++ (R ++ B))) (mid + (A.length + L.length) - 1)) (f := A.length + L.length + R.length - A.length) (i := s0) (j := r0) (by omega) (by omega)
        generalize srch (p3 c (A ++ (L ++ (R ++ B))) (mid + (A.length + L.length) - 1)) (A.length + L.length + R.length - A.length) s0 r0 = st at *
        obtain ⟨k, rfl⟩ : ∃ k, st = A.length + k := ⟨st - A.length, by omega⟩
        have hk : k ≤ L.length := by omega
        obtain ⟨j, hj⟩ : ∃ j, mid + (A.length + L.length) - (A.length + k) = A.length + L.length + j := ⟨mid - (A.length + k), by omega⟩
        have hjR : j ≤ R.length := by omega
        have hjk : mid = A.length + k + j := by omega
        rw [hj]
        have x1 : ∀ p ∈ L.take k, ∀ r ∈ R.drop j, ltc c p r := srt_cross hO (srt_take hL k) (srt_drop hR j) (fun p hp => hNL p (List.mem_of_mem_take hp)) (fun p hp => hN p (List.mem_of_mem_drop hp)) (by
          rcases Nat.eq_zero_or_pos k with h0 | h0
          · left; rw [h0]; rfl
          · right
            rcases Nat.lt_or_ge j R.length with h9 | h9
            · right
              have h8 : p3 c (A ++ (L ++ (R ++ B))) (mid + (A.length + L.length) - 1) (A.length + k - 1) = true := by
                rcases s3 with s3 | s3
                · omega
                · exact s3
              unfold p3 at h8
              rw [show mid + (A.length + L.length) - 1 - (A.length + k - 1) = A.length + L.length + j by omega, show A.length + k - 1 = A.length + (k - 1) by omega, hb _ h9, ha _ (by omega)] at h8
              rw [List.length_take, show min k L.length - 1 = k - 1 by omega, getD_take (by omega), getD_drop, Nat.add_zero]
              exact hO.not (hN _ (getD_memN h9)) (hlr _ (getD_memN (by omega)) _ (getD_memN h9)) (by simpa using h8)
            · left; exact List.drop_eq_nil_of_le h9)
        have x2 : ∀ p ∈ R.take j, ∀ r ∈ L.drop k, ltc c p r := srt_cross hO (srt_take hR j) (srt_drop hL k) (fun p hp => hN p (List.mem_of_mem_take hp)) (fun p hp => hNL p (List.mem_of_mem_drop hp)) (by
          rcases Nat.eq_zero_or_pos j with h0 | h0
          · left; rw [h0]; rfl
          · right
            rcases Nat.lt_or_ge k L.length with h9 | h9
            · right
              have h8 : p3 c (A ++ (L ++ (R ++ B))) (mid + (A.length + L.length) - 1) (A.length + k) = false := by
                rcases s4 with s4 | s4
                · omega
                · exact s4
              unfold p3 at h8
              rw [show mid + (A.length + L.length) - 1 - (A.length + k) = A.length + L.length + (j - 1) by omega, hb _ (by omega), ha _ h9] at h8
              rw [List.length_take, show min j R.length - 1 = j - 1 by omega, getD_take (by omega), getD_drop, Nat.add_zero]
              exact .inl (by simpa using h8)
            · left; exact List.drop_eq_nil_of_le h9)
        have hL1 : (L.take k).length = k := by rw [List.length_take]; omega
        have hL2 : (L.drop k).length = L.length - k := List.length_drop
        have hR1 : (R.take j).length = j := by rw [List.length_take]; omega
        have hR2 : (R.drop j).length = R.length - j := List.length_drop
        have eI : A ++ (L ++ (R ++ B)) = (A ++ L.take k) ++ (L.drop k ++ (R.take j ++ (R.drop j ++ B))) := by
          rw [← List.append_assoc (R.take j), List.take_append_drop, List.append_assoc, ← List.append_assoc (L.take k), List.take_append_drop]
        have eJ : (if A.length + k < A.length + L.length ∧ A.length + L.length < A.length + L.length + j then rot (A.length + k) (A.length + L.length) (A.length + L.length + j) (A ++ (L ++ (R ++ B))) else A ++ (L ++ (R ++ B))) = A ++ (L.take k ++ (R.take j ++ (L.drop k ++ (R.drop j ++ B)))) := by
          by_cases hr : A.length + k < A.length + L.length ∧ A.length + L.length < A.length + L.length + j
          · rw [if_pos hr, eI]
            have h := rot_app (A ++ L.take k) (L.drop k) (R.take j) (R.drop j ++ B) (by omega) (by omega)
            rw [List.length_append, hL1, hL2, hR1, show A.length + k + (L.length - k) = A.length + L.length by omega] at h
            rw [h]
            simp
          · rw [if_neg hr, eI]
            rcases Nat.lt_or_ge k L.length with h9 | h9
            · have h0 : j = 0 := by omega
              rw [h0]
              simp
            · rw [List.drop_eq_nil_of_le h9]
              simp
        rw [eJ]
        have hsplit := fun (l : List Nat) (k : Nat) (h : SrtC c l) => by
          have h' := h
          rw [← List.take_append_drop k l] at h'
          exact (List.pairwise_append.1 h').2.2
        -- the first part
        obtain ⟨X1, u1, u2, u3⟩ : ∃ X1, (if A.length < A.length + k ∧ A.length + k < mid then symM c f A.length (A.length + k) mid (A ++ (L.take k ++ (R.take j ++ (L.drop k ++ (R.drop j ++ B))))) else A ++ (L.take k ++ (R.take j ++ (L.drop k ++ (R.drop j ++ B))))) = A ++ (X1 ++ (L.drop k ++ (R.drop j ++ B))) ∧ X1.Perm (L.take k ++ R.take j) ∧ SrtC c X1 := by
          by_cases hr : A.length < A.length + k ∧ A.length + k < mid
          · rw [if_pos hr]
            have h := symM_app hO f A (L.take k) (R.take j) (L.drop k ++ (R.drop j ++ B)) (by omega) (by omega) (by omega) (srt_take hL k) (srt_take hR j) (fun l hl r hr => hlr l (List.mem_of_mem_take hl) r (List.mem_of_mem_take hr)) (fun r hr => hN r (List.mem_of_mem_take hr))
            rw [hL1, hR1, ← hjk] at h
            exact h
          · rw [if_neg hr]
            refine ⟨L.take k ++ R.take j, by simp, .refl _, ?_⟩
            rcases Nat.eq_zero_or_pos k with h0 | h0
            · rw [h0]; simpa using srt_take hR j
            · have h0 : j = 0 := by omega
              rw [h0]; simpa using srt_take hL k
        obtain ⟨X2, v1, v2, v3⟩ : ∃ X2, (if mid < A.length + L.length + j ∧ A.length + L.length + j < A.length + L.length + R.length then symM c f mid (A.length + L.length + j) (A.length + L.length + R.length) (A ++ (X1 ++ (L.drop k ++ (R.drop j ++ B)))) else A ++ (X1 ++ (L.drop k ++ (R.drop j ++ B)))) = A ++ (X1 ++ (X2 ++ B)) ∧ X2.Perm (L.drop k ++ R.drop j) ∧ SrtC c X2 := by
          have hX1 : X1.length = k + j := by rw [u2.length_eq, List.length_append, hL1, hR1]
          by_cases hr : mid < A.length + L.length + j ∧ A.length + L.length + j < A.length + L.length + R.length
          · rw [if_pos hr]
            obtain ⟨X2, w1, w2, w3⟩ := symM_app hO f (A ++ X1) (L.drop k) (R.drop j) B (by omega) (by omega) (by omega) (srt_drop hL k) (srt_drop hR j) (fun l hl r hr => hlr l (List.mem_of_mem_drop hl) r (List.mem_of_mem_drop hr)) (fun r hr => hN r (List.mem_of_mem_drop hr))
            rw [List.length_append, hX1, hL2, hR2, show A.length + (k + j) = mid by omega, show mid + (L.length - k) = A.length + L.length + j by omega, show A.length + L.length + j + (R.length - j) = A.length + L.length + R.length by omega] at w1
            exact ⟨X2, by rw [← List.append_assoc A X1, w1, List.append_assoc], w2, w3⟩
          · rw [if_neg hr]
            refine ⟨L.drop k ++ R.drop j, by simp, .refl _, ?_⟩
            rcases Nat.lt_or_ge k L.length with h0 | h0
            · rw [List.drop_eq_nil_of_le (show R.length ≤ j by omega), List.append_nil]; exact srt_drop hL k
            · rw [List.drop_eq_nil_of_le h0]; exact srt_drop hR j
        unfold symR
        rw [u1, v1]
        refine ⟨X1 ++ X2, by simp, ?_, List.pairwise_append.2 ⟨u3, v3, fun p hp q hq => ?_⟩⟩
        · refine (List.Perm.append u2 v2).trans ?_
          have h1 : (L.take k ++ R.take j ++ (L.drop k ++ R.drop j)).Perm (L.take k ++ L.drop k ++ (R.take j ++ R.drop j)) := by
            rw [List.append_assoc, List.append_assoc]
            refine List.Perm.append_left _ ?_
            rw [← List.append_assoc, ← List.append_assoc]
            exact List.Perm.append_right _ List.perm_append_comm
          rwa [List.take_append_drop, List.take_append_drop] at h1
        · rcases List.mem_append.1 (u2.subset hp) with hp | hp <;> rcases List.mem_append.1 (v2.subset hq) with hq | hq
          · exact hsplit L k hL p hp q hq
          · exact x1 p hp q hq
          · exact x2 p hp q hq
          · exact hsplit R j hR p hp q hq
end
end Gx

/- A stable sort as slices.SortStableFunc does it: block by block, then merged; the whole is in order. Plain data. -/
namespace Gx
set_option linter.unusedSimpArgs false
set_option linter.unusedVariables false
set_option linter.unusedSectionVars false
def seg (I : List Nat) (x y : Nat) : List Nat := (I.drop x).take (y - x)
def SegS (c : Nat → Nat → Int) (I : List Nat) (x y : Nat) : Prop := (seg I x y).Perm (List.range' x (y - x)) ∧ SrtC c (seg I x y)
theorem seg_dec {I : List Nat} {x y : Nat} (h : x ≤ y) (hy : y ≤ I.length) : I = I.take x ++ (seg I x y ++ I.drop y) := by
  unfold seg
  have h1 : I.drop y = (I.drop x).drop (y - x) := by rw [List.drop_drop]; congr 1; omega
  rw [h1, List.take_append_drop, List.take_append_drop]
theorem seg_len {I : List Nat} {x y : Nat} (hy : y ≤ I.length) : (seg I x y).length = y - x := by
  unfold seg
  rw [List.length_take, List.length_drop]
  omega
theorem seg_of {A X B : List Nat} {x y : Nat} (hA : A.length = x) (hX : X.length = y - x) : seg (A ++ (X ++ B)) x y = X := by
  subst hA
  unfold seg
  rw [List.drop_left, ← hX, List.take_left]
theorem seg_left {A C : List Nat} {u v : Nat} (h : v ≤ A.length) : seg (A ++ C) u v = seg A u v := by
  rcases Nat.lt_or_ge v u with h9 | h9
  · unfold seg; rw [show v - u = 0 by omega]; rfl
  unfold seg
  rw [List.drop_append_of_le_length (by omega), List.take_append_of_le_length (by rw [List.length_drop]; omega)]
theorem seg_right {A X B : List Nat} {u v : Nat} (h : A.length + X.length ≤ u) : seg (A ++ (X ++ B)) u v = seg B (u - (A.length + X.length)) (v - (A.length + X.length)) := by
  unfold seg
  rw [← List.append_assoc, show u = (A ++ X).length + (u - (A.length + X.length)) by rw [List.length_append]; omega, ← List.drop_drop, List.drop_left]
  congr 1
  · rw [List.length_append]; omega
  · congr 1; rw [List.length_append]; omega
theorem rng_take (a k m : Nat) : (List.range' a m).take k = List.range' a (min k m) := by
  rcases Nat.lt_or_ge k m with h | h
  · have h9 := List.range'_append (s := a) (m := k) (n := m - k) (step := 1)
    rw [show k + (m - k) = m by omega] at h9
    rw [← h9, List.take_left' (by simp), Nat.min_eq_left (by omega)]
  · rw [List.take_of_length_le (by rw [List.length_range']; exact h), Nat.min_eq_right h]
theorem rng_drop (a k m : Nat) : (List.range' a m).drop k = List.range' (a + k) (m - k) := by
  rcases Nat.lt_or_ge k m with h | h
  · have h9 := List.range'_append (s := a) (m := k) (n := m - k) (step := 1)
    rw [show k + (m - k) = m by omega, Nat.one_mul] at h9
    rw [← h9, List.drop_left' (by simp)]
  · rw [List.drop_eq_nil_of_le (by rw [List.length_range']; exact h), show m - k = 0 by omega]; rfl
structure Upd (c : Nat → Nat → Int) (x y : Nat) (I J : List Nat) : Prop where
  len : J.length = I.length
  own : SegS c J x y
  left : ∀ u v, v ≤ x → seg J u v = seg I u v
  right : ∀ u v, y ≤ u → seg J u v = seg I u v
section
variable {c : Nat → Nat → Int} {N n : Nat}
theorem upd_of {I X : List Nat} {x y : Nat} (h : x ≤ y) (hy : y ≤ I.length) (hl : X.Perm (List.range' x (y - x))) (hs : SrtC c X) : Upd c x y I (I.take x ++ (X ++ I.drop y)) := by
  have hX : X.length = y - x := by rw [hl.length_eq, List.length_range']
  have hA : (I.take x).length = x := by rw [List.length_take]; omega
  refine ⟨by rw [List.length_append, List.length_append, hA, hX, List.length_drop]; omega, ?_, fun u v hv => ?_, fun u v hu => ?_⟩
  · unfold SegS
    rw [seg_of hA hX]
    exact ⟨hl, hs⟩
  · rw [seg_left (by omega)]
    conv => rhs; rw [seg_dec h hy, seg_left (by omega)]
  · rw [seg_right (by omega)]
    conv => rhs; rw [seg_dec h hy, seg_right (by rw [hA, seg_len hy]; omega)]
    rw [hA, hX, seg_len hy]
theorem ins_seg (hO : OrdC c N) {I : List Nat} {x y : Nat} (h : x ≤ y) (hy : y ≤ I.length) (hN : y ≤ N) (hs : seg I x y = List.range' x (y - x)) : Upd c x y I (ins c x y I) := by
  have hA : (I.take x).length = x := by rw [List.length_take]; omega
  obtain ⟨X, e1, e2, e3⟩ := ins_app hO (I.drop y) (I.take x) (seg I x y) (by rw [hs]; exact List.pairwise_lt_range') (fun q hq => by rw [hs] at hq; have := List.mem_range'_1.1 hq; omega)
  rw [← seg_dec h hy, hA, seg_len hy, show x + (y - x) = y by omega] at e1
  rw [e1]
  exact upd_of h hy (hs ▸ e2) e3
theorem sym_seg (hO : OrdC c N) {I : List Nat} {f x m y : Nat} (h1 : x < m) (h2 : m < y) (hy : y ≤ I.length) (hN : y ≤ N) (hf : y - x ≤ f) (hs1 : SegS c I x m) (hs2 : SegS c I m y) : Upd c x y I (symM c f x m y I) := by
  have hA : (I.take x).length = x := by rw [List.length_take]; omega
  have hL := seg_len (I := I) (x := x) (y := m) (by omega)
  have hR := seg_len (I := I) (x := m) (y := y) hy
  have hdec : I = I.take x ++ (seg I x m ++ (seg I m y ++ I.drop y)) := by
    have e1 := seg_dec (I := I) (x := x) (y := y) (by omega) hy
    have e2 : seg I x y = seg I x m ++ seg I m y := by
      unfold seg
      rw [show y - x = (m - x) + (y - m) by omega, List.take_add, List.drop_drop, show x + (m - x) = m by omega]
    rw [e2, List.append_assoc] at e1
    exact e1
  have m1 : ∀ l ∈ seg I x m, x ≤ l ∧ l < m := fun l hl => by have := List.mem_range'_1.1 (hs1.1.subset hl); omega
  have m2 : ∀ l ∈ seg I m y, m ≤ l ∧ l < y := fun l hl => by have := List.mem_range'_1.1 (hs2.1.subset hl); omega
  obtain ⟨X, e1, e2, e3⟩ := symM_app hO f (I.take x) (seg I x m) (seg I m y) (I.drop y) (by omega) (by omega) (by omega) hs1.2 hs2.2 (fun l hl r hr => by have := m1 l hl; have := m2 r hr; omega) (fun r hr => by have := m2 r hr; omega)
  rw [← hdec, hA, hL, hR, show x + (m - x) = m by omega, show m + (y - m) = y by omega] at e1
  rw [e1]
  refine upd_of (by omega) hy (e2.trans ((List.Perm.append hs1.1 hs2.1).trans ?_)) e3
  have h9 := List.range'_append (s := x) (m := m - x) (n := y - m) (step := 1)
  rw [Nat.one_mul, show x + (m - x) = m by omega, show m - x + (y - m) = y - x by omega] at h9
  rw [h9]
theorem SegS.of {I J : List Nat} {x y : Nat} (h : SegS c I x y) (e : seg J x y = seg I x y) : SegS c J x y := by unfold SegS; rw [e]; exact h
theorem stI_ok (hO : OrdC c N) (hN : n ≤ N) : ∀ (f a : Nat) (I : List Nat), I.length = n → 20 ∣ a → a ≤ n → n - a ≤ f → (∀ x, 20 ∣ x → x + 20 ≤ a → SegS c I x (x + 20)) → seg I a n = List.range' a (n - a) →
    (stI c n f a I).length = n ∧ ∀ x, 20 ∣ x → x < n → SegS c (stI c n f a I) x (min (x + 20) n)
  | 0, a, I, hl, hd, ha, hf, hdone, hrest => by
    obtain rfl : a = n := by omega
    have h := ins_seg hO (Nat.le_refl a) (by omega) hN hrest
    refine ⟨h.len.trans hl, fun x hx hxn => ?_⟩
    rw [show min (x + 20) a = x + 20 by omega]
    exact (hdone x hx (by omega)).of (h.left _ _ (by omega))
  | f + 1, a, I, hl, hd, ha, hf, hdone, hrest => by
    unfold stI
    split
    · rename_i h20
      have e1 : seg I a (a + 20) = List.range' a (a + 20 - a) := by
        have h1 : seg I a (a + 20) = (seg I a n).take 20 := by
          unfold seg
          rw [List.take_take]
          congr 1; omega
        rw [h1, hrest, rng_take]
        congr 1; omega
      have h := ins_seg hO (show a ≤ a + 20 by omega) (by omega) (by omega) e1
      refine stI_ok hO hN f (a + 20) _ (h.len.trans hl) (by omega) h20 (by omega) (fun x hx hx2 => ?_) ?_
      · by_cases e : x = a
        · subst e; exact h.own
        · exact (hdone x hx (by omega)).of (h.left _ _ (by omega))
      · rw [h.right _ _ (Nat.le_refl _)]
        have h1 : seg I (a + 20) n = (seg I a n).drop 20 := by
          unfold seg
          rw [List.drop_take, List.drop_drop]
          first | rfl | (congr 1; omega)
        rw [h1, hrest, rng_drop]
        first | rfl | (congr 1; omega)
    · rename_i h20
      have h := ins_seg hO ha (by omega) hN hrest
      refine ⟨h.len.trans hl, fun x hx hxn => ?_⟩
      by_cases e : x = a
      · subst e
        rw [show min (x + 20) n = n by omega]
        exact h.own
      · rw [show min (x + 20) n = x + 20 by omega]
        exact (hdone x hx (by omega)).of (h.left _ _ (by omega))
theorem dvd_lt {d x a : Nat} (h1 : d ∣ x) (h2 : d ∣ a) (h : x < a) : x + d ≤ a := by
  have := Nat.le_of_dvd (by omega) (Nat.dvd_sub h2 h1)
  omega
theorem stP_ok (hO : OrdC c N) (hN : n ≤ N) {bs : Nat} (hb : 0 < bs) : ∀ (f a : Nat) (I : List Nat), I.length = n → 2 * bs ∣ a → a ≤ n → n - a ≤ f → (∀ x, 2 * bs ∣ x → x + 2 * bs ≤ a → SegS c I x (x + 2 * bs)) → (∀ x, bs ∣ x → a ≤ x → x < n → SegS c I x (min (x + bs) n)) →
    (stP c n bs f a I).length = n ∧ ∀ x, 2 * bs ∣ x → x < n → SegS c (stP c n bs f a I) x (min (x + 2 * bs) n)
  | 0, a, I, hl, hd, ha, hf, hdone, hrest => by
    obtain rfl : a = n := by omega
    refine ⟨hl, fun x hx hxn => ?_⟩
    have := dvd_lt hx hd hxn
    rw [show min (x + 2 * bs) a = x + 2 * bs by omega]
    exact hdone x hx this
  | f + 1, a, I, hl, hd, ha, hf, hdone, hrest => by
    have hba : bs ∣ a := Nat.dvd_trans (Nat.dvd_mul_left ..) hd
    have hba1 : bs ∣ a + bs := (Nat.dvd_add_right hba).2 (Nat.dvd_refl _)
    unfold stP
    split
    · rename_i h20
      have hs1 := hrest a hba (Nat.le_refl _) (by omega)
      have hs2 := hrest (a + bs) hba1 (by omega) (by omega)
      rw [show min (a + bs) n = a + bs by omega] at hs1
      rw [show min (a + bs + bs) n = a + 2 * bs by omega] at hs2
      have h := sym_seg (f := n) hO (show a < a + bs by omega) (by omega) (by omega) (by omega) (by omega) hs1 hs2
      refine stP_ok hO hN hb f (a + 2 * bs) _ (h.len.trans hl) ((Nat.dvd_add_right hd).2 (Nat.dvd_refl _)) h20 (by omega) (fun x hx hx2 => ?_) (fun x hx hx2 hx3 => ?_)
      · by_cases e : x = a
        · subst e; exact h.own
        · have : x < a := by
            rcases Nat.lt_or_ge x a with h9 | h9
            · exact h9
            · omega
          have := dvd_lt hx hd this
          exact (hdone x hx (by omega)).of (h.left _ _ (by omega))
      · exact (hrest x hx (by omega) hx3).of (h.right _ _ hx2)
    · rename_i h20
      have fin : ∀ (J : List Nat), J.length = n → (a < n → SegS c J a n) → (∀ u v, v ≤ a → seg J u v = seg I u v) → J.length = n ∧ ∀ x, 2 * bs ∣ x → x < n → SegS c J x (min (x + 2 * bs) n) := fun J hJ ho hleft => by
        refine ⟨hJ, fun x hx hxn => ?_⟩
        by_cases e : x = a
        · subst e
          rw [show min (x + 2 * bs) n = n by omega]
          exact ho hxn
        · have hxa : x < a := by
            rcases Nat.lt_or_ge x a with h9 | h9
            · exact h9
            · have := dvd_lt hd hx (by omega)
              omega
          have := dvd_lt hx hd hxa
          rw [show min (x + 2 * bs) n = x + 2 * bs by omega]
          exact (hdone x hx this).of (hleft _ _ this)
      split
      · rename_i hm
        have hs1 := hrest a hba (Nat.le_refl _) (by omega)
        have hs2 := hrest (a + bs) hba1 (by omega) hm
        rw [show min (a + bs) n = a + bs by omega] at hs1
        rw [show min (a + bs + bs) n = n by omega] at hs2
        have h := sym_seg (f := n) hO (show a < a + bs by omega) hm (by omega) hN (by omega) hs1 hs2
        exact fin _ (h.len.trans hl) (fun _ => h.own) h.left
      · rename_i hm
        refine fin _ hl (fun han => ?_) fun _ _ _ => rfl
        have hs1 := hrest a hba (Nat.le_refl _) han
        rwa [show min (a + bs) n = n by omega] at hs1
theorem stMg_ok (hO : OrdC c N) (hN : n ≤ N) : ∀ (f bs : Nat) (I : List Nat), I.length = n → 0 < bs → n ≤ bs + f → (∀ x, bs ∣ x → x < n → SegS c I x (min (x + bs) n)) → 0 < n → (stMg c n f bs I).length = n ∧ SegS c (stMg c n f bs I) 0 n
  | 0, bs, I, hl, hb, hf, hs, hn => by
    have h := hs 0 (Nat.dvd_zero _) hn
    rw [show min (0 + bs) n = n by omega] at h
    exact ⟨hl, h⟩
  | f + 1, bs, I, hl, hb, hf, hs, hn => by
    unfold stMg
    split
    · have h := stP_ok hO hN hb n 0 I hl (Nat.dvd_zero _) (Nat.zero_le _) (by omega) (fun x _ h => by omega) (fun x hx _ hxn => hs x hx hxn)
      exact stMg_ok hO hN f (2 * bs) _ h.1 (by omega) (by omega) h.2 hn
    · have h := hs 0 (Nat.dvd_zero _) hn
      rw [show min (0 + bs) n = n by omega] at h
      exact ⟨hl, h⟩
/-- The sorted numbers. -/
theorem stab_ok (hO : OrdC c n) : (stab c n (List.range n)).Perm (List.range n) ∧ SrtC c (stab c n (List.range n)) := by
  rcases Nat.eq_zero_or_pos n with h0 | h0
  · subst h0
    exact ⟨.refl _, .nil⟩
  · have h1 := stI_ok hO (Nat.le_refl n) n 0 (List.range n) List.length_range (Nat.dvd_zero _) (Nat.zero_le _) (by omega) (fun x _ h => by omega) (by
      unfold seg
      rw [List.drop_zero, List.take_of_length_le (by rw [List.length_range]; omega), List.range_eq_range']; rfl)
    obtain ⟨hl, h2⟩ := stMg_ok hO (Nat.le_refl n) n 20 _ h1.1 (by omega) (by omega) h1.2 h0
    unfold stab
    unfold SegS seg at h2
    rw [List.drop_zero, List.take_of_length_le (by omega)] at h2
    exact ⟨h2.1.trans (by rw [List.range_eq_range']; exact .refl _), h2.2⟩
end
end Gx

/- A row of elements that are known by numbers, in a block of cells: its cells read, two of them exchanged. -/
namespace Gx
set_option linter.unusedSimpArgs false
set_option linter.unusedVariables false
open Go Go.RowKit
def idV (i : Nat) : List Value := [.int .i64 (i : Int)]
theorem idV_len (i : Nat) : (idV i).length = 1 := rfl
theorem HS.trans1 {w0 w w' : World} {M : List Nat} {As : List HA} (h0 : HS w0 M [] w) (h : HS w M As w') : HS w0 M [] w' :=
  ⟨h.os.trans h0.os, h.tape.trans h0.tape, h.output.trans h0.output, Nat.le_trans h0.size h.size, fun b hb hm => (h.old b (Nat.lt_of_lt_of_le hb h0.size) hm).trans (h0.old b hb hm), fun _ h => (by cases h), fun _ h => (by cases h), .nil⟩
section
variable {vv : Nat → List Value} {sz : Nat} {J : List Nat} {p q k : Nat}
theorem nget {J : List Nat} {k : Nat} (h : k < J.length) : J[k]? = some (J.getD k 0) := by
  rw [List.getD_eq_getElem?_getD, List.getElem?_eq_getElem h]
  rfl
theorem row_rd1 (hv : ∀ i, (vv i).length = sz) {w0 w : World} {M : List Nat} {As As' : List HA} {b t tot : Nat} (h : HS w0 M As w) (hp : Pick As (.blk b t tot (J.flatMap vv)) As') (hk : k < J.length) : ∀ j v, (vv (J.getD k 0))[j]? = some v → Rd w [] b (0 + k * sz + j) v := fun j v hj => by
  have hlt : j < sz := by
    rcases Nat.lt_or_ge j (vv (J.getD k 0)).length with h | h
    · rwa [hv] at h
    · rw [List.getElem?_eq_none h] at hj; cases hj
  rw [Nat.zero_add]
  exact h.rd_blk (Mc := []) hp (by rw [flat_get hv _ k j _ (nget hk) hlt]; exact hj) (by simp)
theorem swp_cells (hv : ∀ i, (vv i).length = sz) (hp : p < J.length) (hq : q < J.length) : setMany (setMany (J.flatMap vv) (0 + p * sz) (vv (J.getD q 0))) (0 + q * sz) (vv (J.getD p 0)) = (swp J p q).flatMap vv := by
  have one : ∀ (K : List Nat) (k y : Nat), k < K.length → setMany (K.flatMap vv) (0 + k * sz) (vv y) = (K.set k y).flatMap vv := fun K k y hk => by
    have h := flat_set hv K k 0 (vv y) (K.getD k 0) y (nget hk) (by
      have e1 := hv (K.getD k 0)
      have e2 := hv y
      rw [setMany_eq _ _ _ (by omega), List.take_zero, List.drop_eq_nil_of_le (by omega)]
      simp) (by rw [hv]; omega)
    rw [Nat.add_zero] at h
    rw [Nat.zero_add]
    exact h
  rw [one J p _ hp, one _ q _ (by rw [List.length_set]; exact hq)]
  rfl
theorem swp_cls {w0 w : World} {M : List Nat} {As : List HA} {b t tot : Nat} (hv : ∀ i, (vv i).length = sz) (hp : p < J.length) (hq : q < J.length) (h : HS w0 M (.blk b t tot (setMany (setMany (J.flatMap vv) (0 + p * sz) (vv (J.getD q 0))) (0 + q * sz) (vv (J.getD p 0))) :: As) w) : HS w0 M (.blk b t tot ((swp J p q).flatMap vv) :: As) w := by
  rw [swp_cells hv hp hq] at h
  exact h
end
end Gx

/- A place where ways meet that differ in slots alone. Nothing of a program is named here. -/
namespace Gx
open Go Go.RowKit
theorem s_cutS {X : Ctx} {k : List KI} {L : Slots} {C : World → Prop} {α : Type} {c : Code} (md : List Nat) (Lm : α → Slots) (I : α → Prop) (h1 : S X (.c c :: .join (AtI X.n X.df (fun x => Lm x ++ dropL md L) (fun _ => C) I) :: k) L C) (h2 : ∀ x, I x → S X k (Lm x ++ dropL md L) C) : S X (.c c :: k) L C :=
  s_cutI md Lm (fun _ => C) I h1 h2
end Gx

namespace Go.Proofs
open Go Go.RowKit Gx
set_option linter.unusedVariables false
set_option linter.unusedSimpArgs false
attribute [local irreducible] Go.Calls Gx.S Gx.O Gx.D Gx.OpP Gx.OpQ Gx.OpH

theorem fn_122 : isFn Tryd.prog 122 = true := by kernel_rfl
theorem ki_112 : tki Tryd.prog 112 = some .u64 := by kernel_rfl
theorem fn_115 : isFn Tryd.prog 115 = true := by kernel_rfl
theorem fn_106 : isFn Tryd.prog 106 = true := by kernel_rfl
theorem fn_105 : isFn Tryd.prog 105 = true := by kernel_rfl
theorem fn_94 : isFn Tryd.prog 94 = true := by kernel_rfl


set_option maxRecDepth 20000 in
theorem c122 (w : World) (b n cap tot N : Nat) (I : List Nat) (x y k : Nat) (fv : Value) (hI : Keep N n I) (hw : HS w [b] [.blk b 3 tot ((I).flatMap idV)] w) (hn : n ≤ 1000000) (hx : x + k ≤ n) (hy : y + k ≤ n) : Calls Tryd.prog 122 #[.slice (some ⟨b, 0, none⟩) n cap, .int .i64 (x : Int), .int .i64 (y : Int), .int .i64 (k : Int), fv] w fun en w' => ∃ g : Unit, en = .returned (.tuple #[]) ∧ True ∧ HS w [b] [.blk b 3 tot ((swr k x y I).flatMap idV)] w' := by
  refine enter (args := [_, _, _, _, _]) Tryd.func122 Tryd.ntmps122 rfl rfl hw ?_
  refine s_seq ?_
  refine s_region ?_
  refine oP ?_
  refine o_nil ?_
  refine s_block ?_
  refine s_loopI (α := Nat × List Nat) [10, 11, 12, 13, 14, 15, 16, 17, 18, 19, 20, 21, 22, 23, 24, 25, 26, 27, 28, 29, 30, 31, 32, 33, 34, 35, 36, 37] (fun z => [(10, .int .i64 (z.1 : Int))]) (fun z => HS w [b] [.blk b 3 tot ((z.2).flatMap idV)]) (fun z => z.1 ≤ k ∧ Keep N n z.2 ∧ swr (k - z.1) (x + z.1) (y + z.1) z.2 = swr k x y I) (fun z => k - z.1) (0, I) ⟨Nat.zero_le _, hI, rfl⟩ aSx (fun w h => h.ent aEt) (fun ⟨i, J⟩ hz => ?_)
  dsimp only
  obtain ⟨hi, hJ, hR⟩ := hz
  simp only [] at hi hJ hR
  refine s_seq ?_
  refine s_seq ?_
  refine s_region ?_
  refine oP ?_
  refine oP ?_
  refine oP ?_
  refine o_nil ?_
  refine s_cond rfl (fun h1 => ?_) (fun h1 => ?_)
  · try simp only [decide_eq_true_eq] at h1
    refine s_skip ?_
    refine s_seq ?_
    refine s_block ?_
    refine s_draw [21, 23] mixed ?_
    refine dP 0 ?_
    refine dP 1 ?_
    refine dP 2 ?_
    refine dP 3 ?_
    try (refine d_slot (i64w (by omega) (by omega)) ?_)
    refine dP 4 ?_
    refine dP 5 ?_
    refine dP 6 ?_
    refine dP 7 ?_
    try (refine d_slot (i64w (by omega) (by omega)) ?_)
    refine dP 8 ?_
    refine dP 9 ?_
    refine dP 10 ?_
    refine dP 11 ?_
    try (refine d_slot (i64w (by omega) (by omega)) ?_)
    refine d_p 12 rfl (p_indexAddr rfl rfl rfl sl_31 (y + i) (by omega) (by omega) rfl) (by kernel_rfl) rfl rfl ?_
    refine d_q 13 [[], []] rfl (q_load_at rfl rfl sz_3 (fun w h => row_rd1 idV_len h aPk (k := y + i) (by have h9 := hJ.1; omega) 0 _ rfl)) (by kernel_rfl) (by kernel_rfl) (by kernel_rfl) rfl ?_
    refine dP 14 ?_
    refine dP 15 ?_
    refine dP 16 ?_
    refine dP 17 ?_
    try (refine d_slot (i64w (by omega) (by omega)) ?_)
    refine d_p 18 rfl (p_indexAddr rfl rfl rfl sl_31 (x + i) (by omega) (by omega) rfl) (by kernel_rfl) rfl rfl ?_
    refine d_q 19 [[], []] rfl (q_load_at rfl rfl sz_3 (fun w h => row_rd1 idV_len h aPk (k := x + i) (by have h9 := hJ.1; omega) 0 _ rfl)) (by kernel_rfl) (by kernel_rfl) (by kernel_rfl) rfl ?_
    refine d_p 20 rfl (p_indexAddr rfl rfl rfl sl_31 (x + i) (by omega) (by omega) rfl) (by kernel_rfl) rfl rfl ?_
    refine d_h0 21 rfl (h_store rfl rfl rfl sz_3 rfl aPt (by (try rw [setMany_length]); rw [flat_length idV_len]; have h9 := hJ.1; have h8 : (x + i) * 1 + 1 ≤ n * 1 := (by omega); omega) rfl) (by kernel_rfl) (fun w h => h.ent aEt) (fun _ _ => ?_)
    refine d_turn [23] (by kernel_rfl) ?_
    refine d_p 22 rfl (p_indexAddr rfl rfl rfl sl_31 (y + i) (by omega) (by omega) rfl) (by kernel_rfl) rfl rfl ?_
    refine d_h0 23 rfl (h_store rfl rfl rfl sz_3 rfl aPt (by (try rw [setMany_length]); rw [flat_length idV_len]; have h9 := hJ.1; have h8 : (y + i) * 1 + 1 ≤ n * 1 := (by omega); omega) rfl) (by kernel_rfl) (fun w h => h.ent aEt) (fun _ _ => ?_)
    refine d_turn [] (by kernel_rfl) ?_
    refine d_nil (by kernel_rfl) (fun w h => by first | exact h | exact h.ent aEt) ?_
    refine s_blk ?_
    refine s_weaken (L' := [(0, _), (1, _), (2, _), (3, _), (4, _), (10, _)]) aSx (fun _ h => h) ?_
    refine s_region ?_
    refine oP ?_
    refine oP ?_
    try (refine o_slot (i64w (by omega) (by omega)) ?_)
    refine oP ?_
    refine o_nil ?_
    exact s_backI (i + 1, swp J (x + i) (y + i)) (by (try simp only []); omega) ⟨by (try simp only []); omega, hJ.swp _ _, by rw [← hR, show k - i = (k - (i + 1)) + 1 by omega, swr]; rfl⟩ aSx (fun w h => by exact swp_cls (vv := idV) (J := J) (p := x + i) (q := y + i) idV_len (by have h9 := hJ.1; omega) (by have h9 := hJ.1; omega) h)
  · try simp only [decide_eq_false_iff_not] at h1
    refine s_exit_to rfl ?_
    exact s_end0 rfl (fun w' h' => ⟨(), rfl, trivial, by obtain rfl : i = k := (by omega); rw [Nat.sub_self] at hR; rw [← hR]; exact h'⟩)

set_option maxRecDepth 20000 in
theorem c115 (w : World) (b n cap tot N : Nat) (I : List Nat) (x m y : Nat) (fv : Value) (hI : Keep N n I) (hw : HS w [b] [.blk b 3 tot ((I).flatMap idV)] w) (hn : n ≤ 1000000) (hxm : x < m) (hmy : m < y) (hy : y ≤ n) : Calls Tryd.prog 115 #[.slice (some ⟨b, 0, none⟩) n cap, .int .i64 (x : Int), .int .i64 (m : Int), .int .i64 (y : Int), fv] w fun en w' => ∃ g : Unit, en = .returned (.tuple #[]) ∧ True ∧ HS w [b] [.blk b 3 tot ((rot x m y I).flatMap idV)] w' := by
  refine enter (args := [_, _, _, _, _]) Tryd.func115 Tryd.ntmps115 rfl rfl hw ?_
  refine s_seq ?_
  refine s_region ?_
  refine oP ?_
  refine oP ?_
  refine oP ?_
  try (refine o_slot (i64w (by omega) (by omega)) ?_)
  refine o_slot (show _ = Value.int .i64 ((m - x : Nat) : Int) from by first | rfl | (congr 1; omega)) ?_
  refine oP ?_
  refine o_nil ?_
  refine s_seq ?_
  refine s_region ?_
  refine oP ?_
  refine oP ?_
  refine oP ?_
  try (refine o_slot (i64w (by omega) (by omega)) ?_)
  refine o_slot (show _ = Value.int .i64 ((y - m : Nat) : Int) from by first | rfl | (congr 1; omega)) ?_
  refine oP ?_
  refine o_nil ?_
  refine s_seq ?_
  refine s_block ?_
  refine s_loopI (α := Nat × Nat × Nat × List Nat) [10, 11, 18, 19, 20, 21, 22, 23, 24, 25, 26, 27, 28, 29, 30, 31, 32, 33, 34, 35, 36, 37, 38, 39, 40, 41, 42, 43, 44, 45, 46, 47, 48, 49] (fun z => [(10, .int .i64 (z.2.1 : Int)), (11, .int .i64 (z.2.2.1 : Int))]) (fun z => HS w [b] [.blk b 3 tot ((z.2.2.2).flatMap idV)]) (fun z => 0 < z.2.1 ∧ 0 < z.2.2.1 ∧ z.2.1 + z.2.2.1 ≤ z.1 ∧ z.2.1 ≤ m ∧ m + z.2.2.1 ≤ y ∧ Keep N n z.2.2.2 ∧ rotN z.1 z.2.1 z.2.2.1 m z.2.2.2 = rot x m y I) (fun z => z.1) ((m - x) + (y - m), m - x, y - m, I) ⟨by (try simp only []); omega, by (try simp only []); omega, Nat.le_refl _, by (try simp only []); omega, by (try simp only []); omega, hI, rfl⟩ aSx (fun w h => h.ent aEt) (fun ⟨f, i, j, J⟩ hz => ?_)
  dsimp only
  obtain ⟨hi, hj, hf9, him, hjy, hJ, hR⟩ := hz
  simp only [] at hi hj hf9 him hjy hJ hR
  obtain ⟨g, rfl⟩ : ∃ g, f = g + 1 := ⟨f - 1, by omega⟩
  refine s_seq ?_
  refine s_seq ?_
  refine s_region ?_
  refine oP ?_
  refine oP ?_
  refine oP ?_
  refine o_nil ?_
  refine s_cond rfl (fun h1 => ?_) (fun h1 => ?_)
  · try simp only [Bool.not_eq_true', decide_eq_false_iff_not] at h1
    refine s_skip ?_
    refine s_block ?_
    refine s_seq ?_
    refine s_region ?_
    refine oP ?_
    refine oP ?_
    refine oP ?_
    refine o_nil ?_
    refine s_cond rfl (fun h2 => ?_) (fun h2 => ?_)
    · try simp only [decide_eq_true_eq] at h2
      refine s_seq ?_
      refine s_region ?_
      refine oP ?_
      refine oP ?_
      refine oP ?_
      refine oP ?_
      try (refine o_slot (i64w (by omega) (by omega)) ?_)
      refine o_slot (show _ = Value.int .i64 ((m - i : Nat) : Int) from by first | rfl | (congr 1; omega)) ?_
      refine oP ?_
      refine oP ?_
      refine oP ?_
      refine o_h (h_callF (Cs := [.blk b 3 tot ((J).flatMap idV)]) rfl fn_122 rfl aPs (fun w1 h1 hf => c122 w1 b n cap tot N J (m - i) (m) (j) _ hJ hf hn (by omega) (by omega))) rfl (fun _ _ => ?_)
      refine o_nil ?_
      refine s_region ?_
      refine oP ?_
      refine oP ?_
      refine oP ?_
      try (refine o_slot (i64w (by omega) (by omega)) ?_)
      refine o_slot (show _ = Value.int .i64 ((i - j : Nat) : Int) from by first | rfl | (congr 1; omega)) ?_
      refine oP ?_
      refine o_nil ?_
      refine s_blk ?_
      exact s_backI (g, i - j, j, swr j (m - i) m J) (by (try simp only []); omega) ⟨by (try simp only []); omega, hj, by (try simp only []); omega, by (try simp only []); omega, hjy, hJ.swr _ _ _, by rw [← hR, rotN, if_neg (by omega), if_pos (by omega)]⟩ aSx (fun w h => h.ent aEt)
    · try simp only [decide_eq_false_iff_not] at h2
      refine s_seq ?_
      refine s_region ?_
      refine oP ?_
      refine oP ?_
      refine oP ?_
      refine oP ?_
      try (refine o_slot (i64w (by omega) (by omega)) ?_)
      refine o_slot (show _ = Value.int .i64 ((m - i : Nat) : Int) from by first | rfl | (congr 1; omega)) ?_
      refine oP ?_
      refine oP ?_
      refine oP ?_
      try (refine o_slot (i64w (by omega) (by omega)) ?_)
      refine oP ?_
      refine oP ?_
      try (refine o_slot (i64w (by omega) (by omega)) ?_)
      refine o_slot (show _ = Value.int .i64 ((m + j - i : Nat) : Int) from by first | rfl | (congr 1; omega)) ?_
      refine oP ?_
      refine oP ?_
      refine o_h (h_callF (Cs := [.blk b 3 tot ((J).flatMap idV)]) rfl fn_122 rfl aPs (fun w1 h1 hf => c122 w1 b n cap tot N J (m - i) (m + j - i) (i) _ hJ hf hn (by omega) (by omega))) rfl (fun _ _ => ?_)
      refine o_nil ?_
      refine s_weaken (L' := [(0, _), (1, _), (2, _), (3, _), (4, _), (10, _), (11, _), (12, _), (13, _), (14, _), (15, _), (16, _), (17, _)]) aSx (fun _ h => h) ?_
      refine s_region ?_
      refine oP ?_
      refine oP ?_
      refine oP ?_
      try (refine o_slot (i64w (by omega) (by omega)) ?_)
      refine o_slot (show _ = Value.int .i64 ((j - i : Nat) : Int) from by first | rfl | (congr 1; omega)) ?_
      refine oP ?_
      refine o_nil ?_
      refine s_blk ?_
      exact s_backI (g, i, j - i, swr i (m - i) (m + j - i) J) (by (try simp only []); omega) ⟨hi, by (try simp only []); omega, by (try simp only []); omega, him, by (try simp only []); omega, hJ.swr _ _ _, by rw [← hR, rotN, if_neg (by omega), if_neg (by omega)]⟩ aSx (fun w h => h.ent aEt)
  · try simp only [Bool.not_eq_false', decide_eq_true_eq] at h1
    refine s_exit_to rfl ?_
    refine s_region ?_
    refine oP ?_
    refine oP ?_
    refine oP ?_
    refine oP ?_
    try (refine o_slot (i64w (by omega) (by omega)) ?_)
    refine o_slot (show _ = Value.int .i64 ((m - i : Nat) : Int) from by first | rfl | (congr 1; omega)) ?_
    refine oP ?_
    refine oP ?_
    refine oP ?_
    refine o_h (h_callF (Cs := [.blk b 3 tot ((J).flatMap idV)]) rfl fn_122 rfl aPs (fun w1 h1 hf => c122 w1 b n cap tot N J (m - i) (m) (i) _ hJ hf hn (by omega) (by omega))) rfl (fun _ _ => ?_)
    refine o_nil ?_
    exact s_end0 rfl (fun w' h' => ⟨(), rfl, trivial, by rw [← hR, rotN, if_pos (by omega)]; exact h'.ent aEt⟩)

set_option maxRecDepth 20000 in
theorem c105 (w : World) (b n cap tot N : Nat) (I : List Nat) (x y : Nat) (w00 : World) (q : Nat) (cv : Array Value) (c : Nat → Nat → Int) (hI : Keep N n I) (hw : HS w [b] [.blk b 3 tot ((I).flatMap idV)] w) (hn : n ≤ 1000000) (hxy : x ≤ y) (hy : y ≤ n) (h0 : HS w00 [b] [] w) (hq : isFn Tryd.prog q = true) (hc : ∀ p p1 w1, p < N → p1 < N → HS w00 [b] [] w1 → Calls Tryd.prog q (#[] ++ [.int .i64 (p : Int), .int .i64 (p1 : Int)].toArray ++ cv) w1 fun en w2 => en = .returned (.int .i64 (c p p1)) ∧ Below w1.heap.size w1 w2) : Calls Tryd.prog 105 #[.slice (some ⟨b, 0, none⟩) n cap, .int .i64 (x : Int), .int .i64 (y : Int), .func (.func q) #[] cv] w fun en w' => ∃ g : Unit, en = .returned (.tuple #[]) ∧ True ∧ HS w [b] [.blk b 3 tot ((ins c x y I).flatMap idV)] w' := by
  refine enter (args := [_, _, _, _]) Tryd.func105 Tryd.ntmps105 rfl rfl hw ?_
  refine s_seq ?_
  refine s_region ?_
  refine oP ?_
  refine oP ?_
  try (refine o_slot (i64w (by omega) (by omega)) ?_)
  refine oP ?_
  refine o_nil ?_
  refine s_block ?_
  refine s_loopI (α := Nat × List Nat) [8, 9, 12, 13, 14, 15, 16, 17, 18, 19, 20, 21, 22, 23, 24, 25, 26, 27, 28, 29, 30, 31, 32, 33, 34, 35, 36, 37, 38, 39, 40, 41, 42, 43, 44, 45, 46, 47, 48, 49, 50, 51, 52] (fun z => [(8, .int .i64 (z.1 : Int))]) (fun z => HS w [b] [.blk b 3 tot ((z.2).flatMap idV)]) (fun z => x + 1 ≤ z.1 ∧ Keep N n z.2 ∧ insS c x (y - z.1) z.1 z.2 = ins c x y I) (fun z => y - z.1) (x + 1, I) ⟨Nat.le_refl _, hI, rfl⟩ aSx (fun w h => h.ent aEt) (fun ⟨i, J⟩ hz => ?_)
  dsimp only
  obtain ⟨hi, hJ, hR⟩ := hz
  simp only [] at hi hJ hR
  refine s_seq ?_
  refine s_seq ?_
  refine s_region ?_
  refine oP ?_
  refine oP ?_
  refine oP ?_
  refine o_nil ?_
  refine s_cond rfl (fun h1 => ?_) (fun h1 => ?_)
  · try simp only [decide_eq_true_eq] at h1
    refine s_skip ?_
    refine s_seq ?_
    refine s_block ?_
    refine s_seq ?_
    refine s_region ?_
    refine oP ?_
    refine oP ?_
    refine o_nil ?_
    refine s_block ?_
    refine s_loopI (α := Nat × List Nat) [9, 18, 19, 20, 21, 22, 23, 24, 25, 26, 27, 28, 29, 30, 31, 32, 33, 34, 35, 36, 37, 38, 39, 40, 41, 42, 43, 44, 45, 46, 47, 48, 49, 50, 51, 52] (fun z => [(9, .int .i64 (z.1 : Int))]) (fun z => HS w [b] [.blk b 3 tot ((z.2).flatMap idV)]) (fun z => x ≤ z.1 ∧ z.1 ≤ i ∧ Keep N n z.2 ∧ bub c x z.1 z.2 = bub c x i J) (fun z => z.1) (i, J) ⟨by (try simp only []); omega, Nat.le_refl _, hJ, rfl⟩ aSx (fun w h => h.ent aEt) (fun ⟨j, K⟩ hz => ?_)
    dsimp only
    obtain ⟨hj, hji, hK, hB⟩ := hz
    simp only [] at hj hji hK hB
    refine s_seq ?_
    refine s_seq ?_
    refine s_cutS (α := Bool) [18, 19, 20, 21, 22, 23, 24, 25, 26, 27, 28, 29, 30, 31, 32, 33, 34] (fun z => [(34, .bool z)]) (fun z => z = decide (x < j ∧ c (K.getD j 0) (K.getD (j - 1) 0) < 0)) ?_ ?_
    · skip
      refine s_draw [] mixed ?_
      refine dP 0 ?_
      refine dP 1 ?_
      refine dP 2 ?_
      refine dP 3 ?_
      apply d_split 21
      · exact rfl
      · intro hg2
        have hs3 := hg2; try simp only [decide_eq_true_eq] at hs3
        refine d_pon 4 21 rfl rfl rfl hg2 (p_pure rfl) (by kernel_rfl) rfl rfl ?_
        refine d_pon 5 21 rfl rfl rfl hg2 (p_pure rfl) (by kernel_rfl) rfl rfl ?_
        refine d_pon 6 21 rfl rfl rfl hg2 (p_pure rfl) (by kernel_rfl) rfl rfl ?_
        refine d_pon 7 21 rfl rfl rfl hg2 (p_indexAddr rfl rfl rfl sl_31 (j) (by omega) (by omega) rfl) (by kernel_rfl) rfl rfl ?_
        refine d_qon 8 21 [] rfl rfl rfl hg2 (q_load_at rfl rfl sz_3 (fun w h => row_rd1 idV_len h aPk (k := j) (by have h9 := hK.1; omega) 0 _ rfl)) (by kernel_rfl) (by kernel_rfl) (by kernel_rfl) rfl ?_
        refine d_pon 9 21 rfl rfl rfl hg2 (p_pure rfl) (by kernel_rfl) rfl rfl ?_
        refine d_pon 10 21 rfl rfl rfl hg2 (p_pure rfl) (by kernel_rfl) rfl rfl ?_
        refine d_pon 11 21 rfl rfl rfl hg2 (p_pure rfl) (by kernel_rfl) rfl rfl ?_
        try (refine d_slot (i64w (by omega) (by omega)) ?_)
        refine d_pon 12 21 rfl rfl rfl hg2 (p_indexAddr rfl rfl rfl sl_31 (j - 1) (by omega) (by omega) rfl) (by kernel_rfl) rfl rfl ?_
        refine d_qon 13 21 [] rfl rfl rfl hg2 (q_load_at rfl rfl sz_3 (fun w h => row_rd1 idV_len h aPk (k := j - 1) (by have h9 := hK.1; omega) 0 _ rfl)) (by kernel_rfl) (by kernel_rfl) (by kernel_rfl) rfl ?_
        refine d_qon 14 21 [] rfl rfl rfl hg2 (q_callv rfl rfl hq rfl (fun w1 h1 => hc (K.getD (j) 0) (K.getD (j - 1) 0) w1 (hK.get (by omega)) (hK.get (by omega)) (h0.trans1 h1))) (by kernel_rfl) (by kernel_rfl) (by kernel_rfl) rfl ?_
        refine d_pon 15 21 rfl rfl rfl hg2 (p_pure rfl) (by kernel_rfl) rfl rfl ?_
        refine d_p 16 rfl (p_pickt rfl rfl hg2 rfl) (by kernel_rfl) rfl rfl ?_
        refine d_nil (by kernel_rfl) (fun w h => by first | exact h | exact h.ent aEt) ?_
        exact s_joinI (decide (c (K.getD j 0) (K.getD (j - 1) 0) < 0)) (by have hq9 : x < j := (by have hq := hg2; simp at hq; omega); simp [hq9]) aSx (fun w h => h.ent aEt)
      · intro hg4
        have hs5 := hg4; try simp only [decide_eq_false_iff_not] at hs5
        refine d_off 4 21 rfl rfl rfl hg4 (by kernel_rfl) rfl rfl ?_
        refine d_off 5 21 rfl rfl rfl hg4 (by kernel_rfl) rfl rfl ?_
        refine d_off 6 21 rfl rfl rfl hg4 (by kernel_rfl) rfl rfl ?_
        refine d_off 7 21 rfl rfl rfl hg4 (by kernel_rfl) rfl rfl ?_
        refine d_off 8 21 rfl rfl rfl hg4 (by kernel_rfl) rfl rfl ?_
        refine d_off 9 21 rfl rfl rfl hg4 (by kernel_rfl) rfl rfl ?_
        refine d_off 10 21 rfl rfl rfl hg4 (by kernel_rfl) rfl rfl ?_
        refine d_off 11 21 rfl rfl rfl hg4 (by kernel_rfl) rfl rfl ?_
        refine d_off 12 21 rfl rfl rfl hg4 (by kernel_rfl) rfl rfl ?_
        refine d_off 13 21 rfl rfl rfl hg4 (by kernel_rfl) rfl rfl ?_
        refine d_off 14 21 rfl rfl rfl hg4 (by kernel_rfl) rfl rfl ?_
        refine d_off 15 21 rfl rfl rfl hg4 (by kernel_rfl) rfl rfl ?_
        refine d_p 16 rfl (p_pickf rfl rfl hg4 rfl) (by kernel_rfl) rfl rfl ?_
        refine d_nil (by kernel_rfl) (fun w h => by first | exact h | exact h.ent aEt) ?_
        exact s_joinI false (by have hq9 : ¬ x < j := (by have hq := hg4; simp at hq; omega); simp [hq9]) aSx (fun w h => h.ent aEt)
    · intro z9 hz9
      subst hz9
      refine s_cond rfl (fun h6 => ?_) (fun h6 => ?_)
      · try simp only [decide_eq_true_eq] at h6
        have hcc : x < j ∧ c (K.getD j 0) (K.getD (j - 1) 0) < 0 := by simpa using h6
        refine s_skip ?_
        refine s_seq ?_
        refine s_block ?_
        refine s_draw [15, 17] mixed ?_
        refine dP 0 ?_
        refine dP 1 ?_
        refine dP 2 ?_
        refine dP 3 ?_
        refine dP 4 ?_
        try (refine d_slot (i64w (by omega) (by omega)) ?_)
        refine dP 5 ?_
        refine dP 6 ?_
        refine dP 7 ?_
        try (refine d_slot (i64w (by omega) (by omega)) ?_)
        refine d_p 8 rfl (p_indexAddr rfl rfl rfl sl_31 (j - 1) (by omega) (by omega) rfl) (by kernel_rfl) rfl rfl ?_
        refine d_q 9 [[], []] rfl (q_load_at rfl rfl sz_3 (fun w h => row_rd1 idV_len h aPk (k := j - 1) (by have h9 := hK.1; omega) 0 _ rfl)) (by kernel_rfl) (by kernel_rfl) (by kernel_rfl) rfl ?_
        refine dP 10 ?_
        refine dP 11 ?_
        refine d_p 12 rfl (p_indexAddr rfl rfl rfl sl_31 (j) (by omega) (by omega) rfl) (by kernel_rfl) rfl rfl ?_
        refine d_q 13 [[], []] rfl (q_load_at rfl rfl sz_3 (fun w h => row_rd1 idV_len h aPk (k := j) (by have h9 := hK.1; omega) 0 _ rfl)) (by kernel_rfl) (by kernel_rfl) (by kernel_rfl) rfl ?_
        refine d_p 14 rfl (p_indexAddr rfl rfl rfl sl_31 (j) (by omega) (by omega) rfl) (by kernel_rfl) rfl rfl ?_
        refine d_h0 15 rfl (h_store rfl rfl rfl sz_3 rfl aPt (by (try rw [setMany_length]); rw [flat_length idV_len]; have h9 := hK.1; have h8 : (j) * 1 + 1 ≤ n * 1 := (by omega); omega) rfl) (by kernel_rfl) (fun w h => h.ent aEt) (fun _ _ => ?_)
        refine d_turn [17] (by kernel_rfl) ?_
        refine d_p 16 rfl (p_indexAddr rfl rfl rfl sl_31 (j - 1) (by omega) (by omega) rfl) (by kernel_rfl) rfl rfl ?_
        refine d_h0 17 rfl (h_store rfl rfl rfl sz_3 rfl aPt (by (try rw [setMany_length]); rw [flat_length idV_len]; have h9 := hK.1; have h8 : (j - 1) * 1 + 1 ≤ n * 1 := (by omega); omega) rfl) (by kernel_rfl) (fun w h => h.ent aEt) (fun _ _ => ?_)
        refine d_turn [] (by kernel_rfl) ?_
        refine d_nil (by kernel_rfl) (fun w h => by first | exact h | exact h.ent aEt) ?_
        refine s_blk ?_
        refine s_region ?_
        refine oP ?_
        refine oP ?_
        try (refine o_slot (i64w (by omega) (by omega)) ?_)
        refine oP ?_
        refine o_nil ?_
        exact s_backI (j - 1, swp K j (j - 1)) (by (try simp only []); omega) ⟨by (try simp only []); omega, by (try simp only []); omega, hK.swp _ _, by rw [← hB]; exact (bub_go (c := c) hcc).symm⟩ (by refine sl_c (congrArg (fun e => some (Value.int .i64 e)) (show (j : Int) - 1 = ((j - 1 : Nat) : Int) by omega)) ?_; repeat (first | exact sl_n | refine sl_c rfl ?_)) (fun w h => by exact swp_cls (vv := idV) (J := K) (p := j) (q := j - 1) idV_len (by have h9 := hK.1; omega) (by have h9 := hK.1; omega) h)
      · try simp only [decide_eq_false_iff_not] at h6
        have hcc : ¬ (x < j ∧ c (K.getD j 0) (K.getD (j - 1) 0) < 0) := by simpa using h6
        have hE : bub c x j K = K := bub_end (c := c) hj hcc
        refine s_exit_to rfl ?_
        refine s_blk ?_
        refine s_region ?_
        refine oP ?_
        refine oP ?_
        try (refine o_slot (i64w (by omega) (by omega)) ?_)
        refine oP ?_
        refine o_nil ?_
        exact s_backI (i + 1, K) (by (try simp only []); omega) ⟨by (try simp only []); omega, hK, by rw [← hR, show y - i = (y - (i + 1)) + 1 by omega, insS, ← hB, hE]⟩ aSx (fun w h => h.ent aEt)
  · try simp only [decide_eq_false_iff_not] at h1
    refine s_exit_to rfl ?_
    exact s_end0 rfl (fun w' h' => ⟨(), rfl, trivial, by rw [show y - i = 0 by omega] at hR; rw [← hR]; exact h'⟩)

set_option maxRecDepth 20000 in
set_option maxHeartbeats 4000000 in
theorem c106s (w : World) (b n cap tot N : Nat) (I : List Nat) (f x m y : Nat) (w00 : World) (q : Nat) (cv : Array Value) (c : Nat → Nat → Int) (hI : Keep N n I) (hw : HS w [b] [.blk b 3 tot ((I).flatMap idV)] w) (hn : n ≤ 1000000) (hxm : x < m) (hmy : m < y) (hy : y ≤ n) (hf0 : y - x ≤ f + 1) (h0 : HS w00 [b] [] w) (hq : isFn Tryd.prog q = true) (hc : ∀ p p1 w1, p < N → p1 < N → HS w00 [b] [] w1 → Calls Tryd.prog q (#[] ++ [.int .i64 (p : Int), .int .i64 (p1 : Int)].toArray ++ cv) w1 fun en w2 => en = .returned (.int .i64 (c p p1)) ∧ Below w1.heap.size w1 w2) (hrec : ∀ (w1 : World) (J : List Nat) (x1 m1 y1 : Nat), Keep N n J → HS w00 [b] [] w1 → HS w1 [b] [.blk b 3 tot ((J).flatMap idV)] w1 → x1 < m1 → m1 < y1 → y1 ≤ n → y1 - x1 ≤ f → Calls Tryd.prog 106 #[.slice (some ⟨b, 0, none⟩) n cap, .int .i64 (x1 : Int), .int .i64 (m1 : Int), .int .i64 (y1 : Int), .func (.func q) #[] cv] w1 fun en w2 => ∃ g : Unit, en = .returned (.tuple #[]) ∧ True ∧ HS w1 [b] [.blk b 3 tot ((symM c f x1 m1 y1 J).flatMap idV)] w2) : Calls Tryd.prog 106 #[.slice (some ⟨b, 0, none⟩) n cap, .int .i64 (x : Int), .int .i64 (m : Int), .int .i64 (y : Int), .func (.func q) #[] cv] w fun en w' => ∃ g : Unit, en = .returned (.tuple #[]) ∧ True ∧ HS w [b] [.blk b 3 tot ((symM c (f + 1) x m y I).flatMap idV)] w' := by
  refine enter (args := [_, _, _, _, _]) Tryd.func106 Tryd.ntmps106 rfl rfl hw ?_
  refine s_seq ?_
  refine s_seq ?_
  refine s_region ?_
  refine oP ?_
  refine oP ?_
  refine oP ?_
  try (refine o_slot (i64w (by omega) (by omega)) ?_)
  refine o_slot (show _ = Value.int .i64 ((m - x : Nat) : Int) from by first | rfl | (congr 1; omega)) ?_
  refine oP ?_
  refine o_nil ?_
  refine s_cond rfl (fun h1 => ?_) (fun h1 => ?_)
  · try simp only [decide_eq_true_eq] at h1
    refine s_seq ?_
    refine s_region ?_
    refine oP ?_
    refine oP ?_
    refine o_nil ?_
    refine s_seq ?_
    refine s_region ?_
    refine oP ?_
    refine oP ?_
    refine o_nil ?_
    refine s_seq ?_
    refine s_block ?_
    refine s_loopI (α := Nat × Nat × Nat) [10, 11, 12, 31, 32, 33, 34, 35, 36, 37, 38, 39, 40, 41, 42, 43, 44, 45, 46, 47, 48, 49, 50, 51, 52, 53] (fun z => [(10, .int .i64 (z.2.1 : Int)), (11, .int .i64 (z.2.2 : Int))]) (fun _ => HS w [b] [.blk b 3 tot ((I).flatMap idV)]) (fun z => m ≤ z.2.1 ∧ z.2.1 ≤ z.2.2 ∧ z.2.2 ≤ y ∧ z.2.2 - z.2.1 ≤ z.1 ∧ srch (p1 c I x) z.1 z.2.1 z.2.2 = srch (p1 c I x) (y - m) m y) (fun z => z.1) (y - m, m, y) ⟨Nat.le_refl _, by (try simp only []); omega, Nat.le_refl _, by (try simp only []); omega, rfl⟩ aSx (fun w h => h.ent aEt) (fun ⟨f9, i, j⟩ hz => ?_)
    dsimp only
    obtain ⟨hi1, hi2, hi3, hi4, hR⟩ := hz
    simp only [] at hi1 hi2 hi3 hi4 hR
    refine s_seq ?_
    refine s_seq ?_
    refine s_region ?_
    refine oP ?_
    refine oP ?_
    refine oP ?_
    refine o_nil ?_
    refine s_cond rfl (fun h2 => ?_) (fun h2 => ?_)
    · try simp only [decide_eq_true_eq] at h2
      obtain ⟨g9, rfl, hS9⟩ := srch_step (p := p1 c I x) (show i < j by omega) hi4
      refine s_skip ?_
      refine s_block ?_
      refine s_seq ?_
      refine s_region ?_
      refine oP ?_
      refine oP ?_
      refine oP ?_
      try (refine o_slot (i64w (by omega) (by omega)) ?_)
      refine o_p (p_conv_int rfl rfl ki_3 ki_112) rfl ?_
      rw [show IntKind.u64.wrap ((i : Int) + (j : Int)) = ((i + j : Nat) : Int) from u64w32 _ (by omega)]
      refine o_p (p_shr rfl rfl rfl (by decide) 1 rfl) rfl ?_
      refine o_p (p_conv_int rfl rfl ki_112 ki_3) rfl ?_
      try (refine o_slot (i64w (by omega) (by omega)) ?_)
      refine o_slot (show _ = Value.int .i64 (((i + j) / 2 : Nat) : Int) from by congr 1) ?_
      refine oP ?_
      refine o_nil ?_
      refine s_seq ?_
      refine s_draw [] mixed ?_
      refine dP 0 ?_
      refine dP 1 ?_
      refine dP 2 ?_
      refine d_p 3 rfl (p_indexAddr rfl rfl rfl sl_31 ((i + j) / 2) (by omega) (by omega) rfl) (by kernel_rfl) rfl rfl ?_
      refine d_q 4 [] rfl (q_load_at rfl rfl sz_3 (fun w h => row_rd1 idV_len h aPk (k := (i + j) / 2) (by have h9 := hI.1; omega) 0 _ rfl)) (by kernel_rfl) (by kernel_rfl) (by kernel_rfl) rfl ?_
      refine dP 5 ?_
      refine dP 6 ?_
      refine d_p 7 rfl (p_indexAddr rfl rfl rfl sl_31 (x) (by omega) (by omega) rfl) (by kernel_rfl) rfl rfl ?_
      refine d_q 8 [] rfl (q_load_at rfl rfl sz_3 (fun w h => row_rd1 idV_len h aPk (k := x) (by have h9 := hI.1; omega) 0 _ rfl)) (by kernel_rfl) (by kernel_rfl) (by kernel_rfl) rfl ?_
      refine d_q 9 [] rfl (q_callv rfl rfl hq rfl (fun w1 h1 => hc (I.getD ((i + j) / 2) 0) (I.getD (x) 0) w1 (hI.get (by omega)) (hI.get (by omega)) (h0.trans1 h1))) (by kernel_rfl) (by kernel_rfl) (by kernel_rfl) rfl ?_
      refine dP 10 ?_
      refine d_nil (by kernel_rfl) (fun w h => by first | exact h | exact h.ent aEt) ?_
      refine s_cond rfl (fun h3 => ?_) (fun h3 => ?_)
      · try simp only [decide_eq_true_eq] at h3
        refine s_weaken (L' := [(0, _), (1, _), (2, _), (3, _), (4, _), (10, _), (11, _), (12, _), (25, _), (26, _), (27, _), (28, _), (29, _), (30, _)]) aSx (fun _ h => h) ?_
        refine s_region ?_
        refine oP ?_
        refine oP ?_
        try (refine o_slot (i64w (by omega) (by omega)) ?_)
        refine oP ?_
        refine o_nil ?_
        refine s_blk ?_
        exact s_backI (g9, (i + j) / 2 + 1, j) (by (try simp only []); omega) ⟨by (try simp only []); omega, by (try simp only []); omega, hi3, by (try simp only []); omega, by rw [← hR, hS9, if_pos (by unfold p1; simpa using h3)]⟩ (by refine sl_c (congrArg (fun e => some (Value.int .i64 e)) (show (((i + j) / 2 : Nat) : Int) + 1 = (((i + j) / 2 + 1 : Nat) : Int) by omega)) ?_; repeat (first | exact sl_n | refine sl_c rfl ?_)) (fun w h => h.ent aEt)
      · try simp only [decide_eq_false_iff_not] at h3
        refine s_weaken (L' := [(0, _), (1, _), (2, _), (3, _), (4, _), (10, _), (11, _), (12, _), (25, _), (26, _), (27, _), (28, _), (29, _), (30, _)]) aSx (fun _ h => h) ?_
        refine s_region ?_
        refine oP ?_
        refine oP ?_
        refine o_nil ?_
        refine s_blk ?_
        exact s_backI (g9, i, (i + j) / 2) (by (try simp only []); omega) ⟨hi1, by (try simp only []); omega, by (try simp only []); omega, by (try simp only []); omega, by rw [← hR, hS9, if_neg (by unfold p1; simpa using h3)]⟩ aSx (fun w h => h.ent aEt)
    · try simp only [decide_eq_false_iff_not] at h2
      have hE9 : srch (p1 c I x) (y - m) m y = i := by rw [← hR, srch_end (by omega)]
      refine s_exit_to rfl ?_
      refine s_seq ?_
      refine s_seq ?_
      refine s_region ?_
      refine oP ?_
      refine oP ?_
      refine o_nil ?_
      refine s_block ?_
      refine s_loopI (α := Nat × List Nat) [13, 55, 56, 57, 58, 59, 60, 61, 62, 63, 64, 65, 66, 67, 68, 69, 70, 71, 72, 73, 74, 75, 76] (fun z => [(13, .int .i64 (z.1 : Int))]) (fun z => HS w [b] [.blk b 3 tot ((z.2).flatMap idV)]) (fun z => x ≤ z.1 ∧ z.1 ≤ i - 1 ∧ Keep N n z.2 ∧ mvR (i - 1 - z.1) z.1 z.2 = mvR (i - 1 - x) x I) (fun z => i - 1 - z.1) (x, I) ⟨Nat.le_refl _, by (try simp only []); omega, hI, rfl⟩ aSx (fun w h => h.ent aEt) (fun ⟨k, J⟩ hz => ?_)
      dsimp only
      obtain ⟨hk1, hk2, hJ, hR2⟩ := hz
      simp only [] at hk1 hk2 hJ hR2
      refine s_seq ?_
      refine s_seq ?_
      refine s_region ?_
      refine oP ?_
      refine oP ?_
      refine oP ?_
      try (refine o_slot (i64w (by omega) (by omega)) ?_)
      refine oP ?_
      refine o_nil ?_
      refine s_cond rfl (fun h4 => ?_) (fun h4 => ?_)
      · try simp only [decide_eq_true_eq] at h4
        refine s_skip ?_
        refine s_seq ?_
        refine s_block ?_
        refine s_draw [15, 17] mixed ?_
        refine dP 0 ?_
        refine dP 1 ?_
        refine dP 2 ?_
        refine dP 3 ?_
        refine dP 4 ?_
        try (refine d_slot (i64w (by omega) (by omega)) ?_)
        refine dP 5 ?_
        refine dP 6 ?_
        refine dP 7 ?_
        try (refine d_slot (i64w (by omega) (by omega)) ?_)
        refine d_p 8 rfl (p_indexAddr rfl rfl rfl sl_31 (k + 1) (by omega) (by omega) rfl) (by kernel_rfl) rfl rfl ?_
        refine d_q 9 [[], []] rfl (q_load_at rfl rfl sz_3 (fun w h => row_rd1 idV_len h aPk (k := k + 1) (by have h9 := hJ.1; omega) 0 _ rfl)) (by kernel_rfl) (by kernel_rfl) (by kernel_rfl) rfl ?_
        refine dP 10 ?_
        refine dP 11 ?_
        refine d_p 12 rfl (p_indexAddr rfl rfl rfl sl_31 (k) (by omega) (by omega) rfl) (by kernel_rfl) rfl rfl ?_
        refine d_q 13 [[], []] rfl (q_load_at rfl rfl sz_3 (fun w h => row_rd1 idV_len h aPk (k := k) (by have h9 := hJ.1; omega) 0 _ rfl)) (by kernel_rfl) (by kernel_rfl) (by kernel_rfl) rfl ?_
        refine d_p 14 rfl (p_indexAddr rfl rfl rfl sl_31 (k) (by omega) (by omega) rfl) (by kernel_rfl) rfl rfl ?_
        refine d_h0 15 rfl (h_store rfl rfl rfl sz_3 rfl aPt (by (try rw [setMany_length]); rw [flat_length idV_len]; have h9 := hJ.1; have h8 : (k) * 1 + 1 ≤ n * 1 := (by omega); omega) rfl) (by kernel_rfl) (fun w h => h.ent aEt) (fun _ _ => ?_)
        refine d_turn [17] (by kernel_rfl) ?_
        refine d_p 16 rfl (p_indexAddr rfl rfl rfl sl_31 (k + 1) (by omega) (by omega) rfl) (by kernel_rfl) rfl rfl ?_
        refine d_h0 17 rfl (h_store rfl rfl rfl sz_3 rfl aPt (by (try rw [setMany_length]); rw [flat_length idV_len]; have h9 := hJ.1; have h8 : (k + 1) * 1 + 1 ≤ n * 1 := (by omega); omega) rfl) (by kernel_rfl) (fun w h => h.ent aEt) (fun _ _ => ?_)
        refine d_turn [] (by kernel_rfl) ?_
        refine d_nil (by kernel_rfl) (fun w h => by first | exact h | exact h.ent aEt) ?_
        refine s_blk ?_
        refine s_weaken (L' := [(0, _), (1, _), (2, _), (3, _), (4, _), (10, _), (11, _), (13, _), (25, _), (26, _), (27, _), (28, _), (29, _), (30, _), (31, _), (32, _), (33, _), (54, _)]) aSx (fun _ h => h) ?_
        refine s_region ?_
        refine oP ?_
        refine oP ?_
        try (refine o_slot (i64w (by omega) (by omega)) ?_)
        refine oP ?_
        refine o_nil ?_
        exact s_backI (k + 1, swp J k (k + 1)) (by (try simp only []); omega) ⟨by (try simp only []); omega, by (try simp only []); omega, hJ.swp _ _, by rw [← hR2, show i - 1 - k = (i - 1 - (k + 1)) + 1 by omega, mvR]⟩ aSx (fun w h => by exact swp_cls (vv := idV) (J := J) (p := k) (q := k + 1) idV_len (by have h9 := hJ.1; omega) (by have h9 := hJ.1; omega) h)
      · try simp only [decide_eq_false_iff_not] at h4
        refine s_exit_to rfl ?_
        exact s_ret0 rfl (fun w' h' => ⟨(), rfl, trivial, by rw [symM, if_pos (by omega), hE9]; obtain rfl : k = i - 1 := (by omega); rw [Nat.sub_self] at hR2; rw [show i - 1 - x = i - 1 - x from rfl, ← hR2]; exact h'⟩)
  · try simp only [decide_eq_false_iff_not] at h1
    refine s_skip ?_
    refine s_seq ?_
    refine s_seq ?_
    refine s_region ?_
    refine oP ?_
    refine oP ?_
    refine oP ?_
    try (refine o_slot (i64w (by omega) (by omega)) ?_)
    refine o_slot (show _ = Value.int .i64 ((y - m : Nat) : Int) from by first | rfl | (congr 1; omega)) ?_
    refine oP ?_
    refine o_nil ?_
    refine s_cond rfl (fun h5 => ?_) (fun h5 => ?_)
    · try simp only [decide_eq_true_eq] at h5
      refine s_seq ?_
      refine s_region ?_
      refine oP ?_
      refine oP ?_
      refine o_nil ?_
      refine s_seq ?_
      refine s_region ?_
      refine oP ?_
      refine oP ?_
      refine o_nil ?_
      refine s_seq ?_
      refine s_block ?_
      refine s_weaken (L' := [(0, _), (1, _), (2, _), (3, _), (4, _), (14, _), (15, _)]) aSx (fun _ h => h) ?_
      refine s_loopI (α := Nat × Nat × Nat) [14, 15, 16, 83, 84, 85, 86, 87, 88, 89, 90, 91, 92, 93, 94, 95, 96, 97, 98, 99, 100, 101, 102, 103, 104, 105, 106] (fun z => [(14, .int .i64 (z.2.1 : Int)), (15, .int .i64 (z.2.2 : Int))]) (fun _ => HS w [b] [.blk b 3 tot ((I).flatMap idV)]) (fun z => x ≤ z.2.1 ∧ z.2.1 ≤ z.2.2 ∧ z.2.2 ≤ m ∧ z.2.2 - z.2.1 ≤ z.1 ∧ srch (p2 c I m) z.1 z.2.1 z.2.2 = srch (p2 c I m) (m - x) x m) (fun z => z.1) (m - x, x, m) ⟨Nat.le_refl _, by (try simp only []); omega, Nat.le_refl _, by (try simp only []); omega, rfl⟩ aSx (fun w h => h.ent aEt) (fun ⟨f9, i, j⟩ hz => ?_)
      dsimp only
      obtain ⟨hi1, hi2, hi3, hi4, hR⟩ := hz
      simp only [] at hi1 hi2 hi3 hi4 hR
      refine s_seq ?_
      refine s_seq ?_
      refine s_region ?_
      refine oP ?_
      refine oP ?_
      refine oP ?_
      refine o_nil ?_
      refine s_cond rfl (fun h6 => ?_) (fun h6 => ?_)
      · try simp only [decide_eq_true_eq] at h6
        obtain ⟨g9, rfl, hS9⟩ := srch_step (p := p2 c I m) (show i < j by omega) hi4
        refine s_skip ?_
        refine s_block ?_
        refine s_seq ?_
        refine s_region ?_
        refine oP ?_
        refine oP ?_
        refine oP ?_
        try (refine o_slot (i64w (by omega) (by omega)) ?_)
        refine o_p (p_conv_int rfl rfl ki_3 ki_112) rfl ?_
        rw [show IntKind.u64.wrap ((i : Int) + (j : Int)) = ((i + j : Nat) : Int) from u64w32 _ (by omega)]
        refine o_p (p_shr rfl rfl rfl (by decide) 1 rfl) rfl ?_
        refine o_p (p_conv_int rfl rfl ki_112 ki_3) rfl ?_
        try (refine o_slot (i64w (by omega) (by omega)) ?_)
        refine o_slot (show _ = Value.int .i64 (((i + j) / 2 : Nat) : Int) from by congr 1) ?_
        refine oP ?_
        refine o_nil ?_
        refine s_seq ?_
        refine s_draw [] mixed ?_
        refine dP 0 ?_
        refine dP 1 ?_
        refine dP 2 ?_
        refine d_p 3 rfl (p_indexAddr rfl rfl rfl sl_31 (m) (by omega) (by omega) rfl) (by kernel_rfl) rfl rfl ?_
        refine d_q 4 [] rfl (q_load_at rfl rfl sz_3 (fun w h => row_rd1 idV_len h aPk (k := m) (by have h9 := hI.1; omega) 0 _ rfl)) (by kernel_rfl) (by kernel_rfl) (by kernel_rfl) rfl ?_
        refine dP 5 ?_
        refine dP 6 ?_
        refine d_p 7 rfl (p_indexAddr rfl rfl rfl sl_31 ((i + j) / 2) (by omega) (by omega) rfl) (by kernel_rfl) rfl rfl ?_
        refine d_q 8 [] rfl (q_load_at rfl rfl sz_3 (fun w h => row_rd1 idV_len h aPk (k := (i + j) / 2) (by have h9 := hI.1; omega) 0 _ rfl)) (by kernel_rfl) (by kernel_rfl) (by kernel_rfl) rfl ?_
        refine d_q 9 [] rfl (q_callv rfl rfl hq rfl (fun w1 h1 => hc (I.getD (m) 0) (I.getD ((i + j) / 2) 0) w1 (hI.get (by omega)) (hI.get (by omega)) (h0.trans1 h1))) (by kernel_rfl) (by kernel_rfl) (by kernel_rfl) rfl ?_
        refine dP 10 ?_
        refine dP 11 ?_
        refine d_nil (by kernel_rfl) (fun w h => by first | exact h | exact h.ent aEt) ?_
        refine s_cond rfl (fun h7 => ?_) (fun h7 => ?_)
        · try simp only [Bool.not_eq_true', decide_eq_false_iff_not] at h7
          refine s_region ?_
          refine oP ?_
          refine oP ?_
          try (refine o_slot (i64w (by omega) (by omega)) ?_)
          refine oP ?_
          refine o_nil ?_
          refine s_blk ?_
          exact s_backI (g9, (i + j) / 2 + 1, j) (by (try simp only []); omega) ⟨by (try simp only []); omega, by (try simp only []); omega, hi3, by (try simp only []); omega, by rw [← hR, hS9, if_pos (by unfold p2; simpa using h7)]⟩ (by refine sl_c (congrArg (fun e => some (Value.int .i64 e)) (show (((i + j) / 2 : Nat) : Int) + 1 = (((i + j) / 2 + 1 : Nat) : Int) by omega)) ?_; repeat (first | exact sl_n | refine sl_c rfl ?_)) (fun w h => h.ent aEt)
        · try simp only [Bool.not_eq_false', decide_eq_true_eq] at h7
          refine s_region ?_
          refine oP ?_
          refine oP ?_
          refine o_nil ?_
          refine s_blk ?_
          exact s_backI (g9, i, (i + j) / 2) (by (try simp only []); omega) ⟨hi1, by (try simp only []); omega, by (try simp only []); omega, by (try simp only []); omega, by rw [← hR, hS9, if_neg (by unfold p2; simpa using h7)]⟩ aSx (fun w h => h.ent aEt)
      · try simp only [decide_eq_false_iff_not] at h6
        have hE9 : srch (p2 c I m) (m - x) x m = i := by rw [← hR, srch_end (by omega)]
        refine s_exit_to rfl ?_
        refine s_seq ?_
        refine s_seq ?_
        refine s_region ?_
        refine oP ?_
        refine oP ?_
        refine o_nil ?_
        refine s_block ?_
        refine s_loopI (α := Nat × List Nat) [17, 108, 109, 110, 111, 112, 113, 114, 115, 116, 117, 118, 119, 120, 121, 122, 123, 124, 125, 126, 127, 128] (fun z => [(17, .int .i64 (z.1 : Int))]) (fun z => HS w [b] [.blk b 3 tot ((z.2).flatMap idV)]) (fun z => i ≤ z.1 ∧ z.1 ≤ m ∧ Keep N n z.2 ∧ mvL (z.1 - i) z.1 z.2 = mvL (m - i) m I) (fun z => z.1) (m, I) ⟨by (try simp only []); omega, Nat.le_refl _, hI, rfl⟩ aSx (fun w h => h.ent aEt) (fun ⟨k, J⟩ hz => ?_)
        dsimp only
        obtain ⟨hk1, hk2, hJ, hR2⟩ := hz
        simp only [] at hk1 hk2 hJ hR2
        refine s_seq ?_
        refine s_seq ?_
        refine s_region ?_
        refine oP ?_
        refine oP ?_
        refine oP ?_
        refine o_nil ?_
        refine s_cond rfl (fun h8 => ?_) (fun h8 => ?_)
        · try simp only [decide_eq_true_eq] at h8
          refine s_skip ?_
          refine s_seq ?_
          refine s_block ?_
          refine s_draw [15, 17] mixed ?_
          refine dP 0 ?_
          refine dP 1 ?_
          refine dP 2 ?_
          refine dP 3 ?_
          refine dP 4 ?_
          try (refine d_slot (i64w (by omega) (by omega)) ?_)
          refine dP 5 ?_
          refine dP 6 ?_
          refine dP 7 ?_
          try (refine d_slot (i64w (by omega) (by omega)) ?_)
          refine d_p 8 rfl (p_indexAddr rfl rfl rfl sl_31 (k - 1) (by omega) (by omega) rfl) (by kernel_rfl) rfl rfl ?_
          refine d_q 9 [[], []] rfl (q_load_at rfl rfl sz_3 (fun w h => row_rd1 idV_len h aPk (k := k - 1) (by have h9 := hJ.1; omega) 0 _ rfl)) (by kernel_rfl) (by kernel_rfl) (by kernel_rfl) rfl ?_
          refine dP 10 ?_
          refine dP 11 ?_
          refine d_p 12 rfl (p_indexAddr rfl rfl rfl sl_31 (k) (by omega) (by omega) rfl) (by kernel_rfl) rfl rfl ?_
          refine d_q 13 [[], []] rfl (q_load_at rfl rfl sz_3 (fun w h => row_rd1 idV_len h aPk (k := k) (by have h9 := hJ.1; omega) 0 _ rfl)) (by kernel_rfl) (by kernel_rfl) (by kernel_rfl) rfl ?_
          refine d_p 14 rfl (p_indexAddr rfl rfl rfl sl_31 (k) (by omega) (by omega) rfl) (by kernel_rfl) rfl rfl ?_
          refine d_h0 15 rfl (h_store rfl rfl rfl sz_3 rfl aPt (by (try rw [setMany_length]); rw [flat_length idV_len]; have h9 := hJ.1; have h8 : (k) * 1 + 1 ≤ n * 1 := (by omega); omega) rfl) (by kernel_rfl) (fun w h => h.ent aEt) (fun _ _ => ?_)
          refine d_turn [17] (by kernel_rfl) ?_
          refine d_p 16 rfl (p_indexAddr rfl rfl rfl sl_31 (k - 1) (by omega) (by omega) rfl) (by kernel_rfl) rfl rfl ?_
          refine d_h0 17 rfl (h_store rfl rfl rfl sz_3 rfl aPt (by (try rw [setMany_length]); rw [flat_length idV_len]; have h9 := hJ.1; have h8 : (k - 1) * 1 + 1 ≤ n * 1 := (by omega); omega) rfl) (by kernel_rfl) (fun w h => h.ent aEt) (fun _ _ => ?_)
          refine d_turn [] (by kernel_rfl) ?_
          refine d_nil (by kernel_rfl) (fun w h => by first | exact h | exact h.ent aEt) ?_
          refine s_blk ?_
          refine s_weaken (L' := [(0, _), (1, _), (2, _), (3, _), (4, _), (14, _), (15, _), (17, _), (83, _), (84, _), (85, _), (107, _)]) aSx (fun _ h => h) ?_
          refine s_region ?_
          refine oP ?_
          refine oP ?_
          try (refine o_slot (i64w (by omega) (by omega)) ?_)
          refine oP ?_
          refine o_nil ?_
          exact s_backI (k - 1, swp J k (k - 1)) (by (try simp only []); omega) ⟨by (try simp only []); omega, by (try simp only []); omega, hJ.swp _ _, by rw [← hR2, show k - i = (k - 1 - i) + 1 by omega, mvL]⟩ (by refine sl_c (congrArg (fun e => some (Value.int .i64 e)) (show (k : Int) - 1 = ((k - 1 : Nat) : Int) by omega)) ?_; repeat (first | exact sl_n | refine sl_c rfl ?_)) (fun w h => by exact swp_cls (vv := idV) (J := J) (p := k) (q := k - 1) idV_len (by have h9 := hJ.1; omega) (by have h9 := hJ.1; omega) h)
        · try simp only [decide_eq_false_iff_not] at h8
          refine s_exit_to rfl ?_
          exact s_ret0 rfl (fun w' h' => ⟨(), rfl, trivial, by rw [symM, if_neg (by omega), if_pos (by omega), hE9]; obtain rfl : k = i := (by omega); rw [Nat.sub_self] at hR2; rw [← hR2]; exact h'⟩)
    · try simp only [decide_eq_false_iff_not] at h5
      refine s_skip ?_
      refine s_seq ?_
      refine s_region ?_
      refine oP ?_
      refine oP ?_
      refine oP ?_
      try (refine o_slot (i64w (by omega) (by omega)) ?_)
      refine o_p (p_conv_int rfl rfl ki_3 ki_112) rfl ?_
      rw [show IntKind.u64.wrap ((x : Int) + (y : Int)) = ((x + y : Nat) : Int) from u64w32 _ (by omega)]
      refine o_p (p_shr rfl rfl rfl (by decide) 1 rfl) rfl ?_
      refine o_p (p_conv_int rfl rfl ki_112 ki_3) rfl ?_
      try (refine o_slot (i64w (by omega) (by omega)) ?_)
      refine o_slot (show _ = Value.int .i64 (((x + y) / 2 : Nat) : Int) from by congr 1) ?_
      generalize hmid : (x + y) / 2 = mid
      refine oP ?_
      refine o_nil ?_
      refine s_seq ?_
      refine s_region ?_
      refine oP ?_
      refine oP ?_
      refine oP ?_
      try (refine o_slot (i64w (by omega) (by omega)) ?_)
      refine o_slot (show _ = Value.int .i64 ((mid + m : Nat) : Int) from rfl) ?_
      refine oP ?_
      refine o_nil ?_
      refine s_seq ?_
      refine s_region ?_
      refine oP ?_
      refine oP ?_
      refine o_nil ?_
      refine s_seq ?_
      refine s_seq ?_
      refine s_region ?_
      refine oP ?_
      refine oP ?_
      refine oP ?_
      refine o_nil ?_
      refine s_weaken (L' := [(0, _), (1, _), (2, _), (3, _), (4, _), (18, _), (19, _), (20, _), (21, _), (140, _)]) aSx (fun _ h => h) ?_
      refine s_cutS (α := Nat × Nat) [20, 21, 141, 142, 143, 144, 145, 146] (fun z => [(20, .int .i64 (z.1 : Int)), (21, .int .i64 (z.2 : Int))]) (fun z => (mid < m ∧ z.1 = mid + m - y ∧ z.2 = mid) ∨ (¬ mid < m ∧ z.1 = x ∧ z.2 = m)) ?_ ?_
      · skip
        refine s_cond rfl (fun h9 => ?_) (fun h9 => ?_)
        · try simp only [decide_eq_true_eq] at h9
          refine s_seq ?_
          refine s_region ?_
          refine oP ?_
          refine oP ?_
          refine oP ?_
          try (refine o_slot (i64w (by omega) (by omega)) ?_)
          refine o_slot (show _ = Value.int .i64 ((mid + m - y : Nat) : Int) from by congr 1; omega) ?_
          refine oP ?_
          refine o_nil ?_
          refine s_region ?_
          refine oP ?_
          refine oP ?_
          refine o_nil ?_
          exact s_joinI (mid + m - y, mid) (.inl ⟨by omega, rfl, rfl⟩) aSx (fun w h => h.ent aEt)
        · try simp only [decide_eq_false_iff_not] at h9
          refine s_seq ?_
          refine s_region ?_
          refine oP ?_
          refine oP ?_
          refine o_nil ?_
          refine s_region ?_
          refine oP ?_
          refine oP ?_
          refine o_nil ?_
          exact s_joinI (x, m) (.inr ⟨by omega, rfl, rfl⟩) aSx (fun w h => h.ent aEt)
      · intro ⟨s0, r0⟩ hz
        dsimp only
        simp only [] at hz
        have hs0 : s0 = (if mid < m then mid + m - y else x) := by rcases hz with h9 | h9 <;> simp [h9]
        have hr0 : r0 = (if mid < m then mid else m) := by rcases hz with h9 | h9 <;> simp [h9]
        have hsr : x ≤ s0 ∧ s0 ≤ r0 ∧ r0 ≤ mid ∧ r0 ≤ m ∧ mid + m - r0 ≤ y ∧ mid + m - s0 ≤ y ∧ mid < y ∧ x ≤ mid := by omega
        clear hz
        refine s_seq ?_
        refine s_region ?_
        refine oP ?_
        refine oP ?_
        try (refine o_slot (i64w (by omega) (by omega)) ?_)
        refine o_slot (show _ = Value.int .i64 ((mid + m - 1 : Nat) : Int) from by first | rfl | (congr 1; omega)) ?_
        refine oP ?_
        refine o_nil ?_
        refine s_seq ?_
        refine s_block ?_
        refine s_loopI (α := Nat × Nat × Nat) [20, 21, 23, 149, 150, 151, 152, 153, 154, 155, 156, 157, 158, 159, 160, 161, 162, 163, 164, 165, 166, 167, 168, 169, 170, 171, 172, 173, 174] (fun z => [(20, .int .i64 (z.2.1 : Int)), (21, .int .i64 (z.2.2 : Int))]) (fun _ => HS w [b] [.blk b 3 tot ((I).flatMap idV)]) (fun z => s0 ≤ z.2.1 ∧ z.2.1 ≤ z.2.2 ∧ z.2.2 ≤ r0 ∧ z.2.2 - z.2.1 ≤ z.1 ∧ srch (p3 c I (mid + m - 1)) z.1 z.2.1 z.2.2 = srch (p3 c I (mid + m - 1)) (y - x) s0 r0) (fun z => z.1) (y - x, s0, r0) ⟨Nat.le_refl _, by (try simp only []); omega, Nat.le_refl _, by (try simp only []); omega, rfl⟩ aSx (fun w h => h.ent aEt) (fun ⟨f9, i, j⟩ hz => ?_)
        dsimp only
        obtain ⟨hi1, hi2, hi3, hi4, hR⟩ := hz
        simp only [] at hi1 hi2 hi3 hi4 hR
        refine s_seq ?_
        refine s_seq ?_
        refine s_region ?_
        refine oP ?_
        refine oP ?_
        refine oP ?_
        refine o_nil ?_
        refine s_cond rfl (fun h10 => ?_) (fun h10 => ?_)
        · try simp only [decide_eq_true_eq] at h10
          obtain ⟨g9, rfl, hS9⟩ := srch_step (p := p3 c I (mid + m - 1)) (show i < j by omega) hi4
          refine s_skip ?_
          refine s_block ?_
          refine s_seq ?_
          refine s_region ?_
          refine oP ?_
          refine oP ?_
          refine oP ?_
          try (refine o_slot (i64w (by omega) (by omega)) ?_)
          refine o_p (p_conv_int rfl rfl ki_3 ki_112) rfl ?_
          rw [show IntKind.u64.wrap ((i : Int) + (j : Int)) = ((i + j : Nat) : Int) from u64w32 _ (by omega)]
          refine o_p (p_shr rfl rfl rfl (by decide) 1 rfl) rfl ?_
          refine o_p (p_conv_int rfl rfl ki_112 ki_3) rfl ?_
          try (refine o_slot (i64w (by omega) (by omega)) ?_)
          refine o_slot (show _ = Value.int .i64 (((i + j) / 2 : Nat) : Int) from by congr 1) ?_
          refine oP ?_
          refine o_nil ?_
          refine s_seq ?_
          refine s_draw [] mixed ?_
          refine dP 0 ?_
          refine dP 1 ?_
          refine dP 2 ?_
          refine dP 3 ?_
          refine dP 4 ?_
          try (refine d_slot (i64w (by omega) (by omega)) ?_)
          refine d_p 5 rfl (p_indexAddr rfl rfl rfl sl_31 (mid + m - 1 - (i + j) / 2) (by omega) (by omega) rfl) (by kernel_rfl) rfl rfl ?_
          refine d_q 6 [] rfl (q_load_at rfl rfl sz_3 (fun w h => row_rd1 idV_len h aPk (k := mid + m - 1 - (i + j) / 2) (by have h9 := hI.1; omega) 0 _ rfl)) (by kernel_rfl) (by kernel_rfl) (by kernel_rfl) rfl ?_
          refine dP 7 ?_
          refine dP 8 ?_
          refine d_p 9 rfl (p_indexAddr rfl rfl rfl sl_31 ((i + j) / 2) (by omega) (by omega) rfl) (by kernel_rfl) rfl rfl ?_
          refine d_q 10 [] rfl (q_load_at rfl rfl sz_3 (fun w h => row_rd1 idV_len h aPk (k := (i + j) / 2) (by have h9 := hI.1; omega) 0 _ rfl)) (by kernel_rfl) (by kernel_rfl) (by kernel_rfl) rfl ?_
          refine d_q 11 [] rfl (q_callv rfl rfl hq rfl (fun w1 h1 => hc (I.getD (mid + m - 1 - (i + j) / 2) 0) (I.getD ((i + j) / 2) 0) w1 (hI.get (by omega)) (hI.get (by omega)) (h0.trans1 h1))) (by kernel_rfl) (by kernel_rfl) (by kernel_rfl) rfl ?_
          refine dP 12 ?_
          refine dP 13 ?_
          refine d_nil (by kernel_rfl) (fun w h => by first | exact h | exact h.ent aEt) ?_
          refine s_cond rfl (fun h11 => ?_) (fun h11 => ?_)
          · try simp only [Bool.not_eq_true', decide_eq_false_iff_not] at h11
            refine s_weaken (L' := [(0, _), (1, _), (2, _), (3, _), (4, _), (18, _), (19, _), (20, _), (21, _), (22, _), (23, _), (140, _), (147, _), (148, _)]) aSx (fun _ h => h) ?_
            refine s_region ?_
            refine oP ?_
            refine oP ?_
            try (refine o_slot (i64w (by omega) (by omega)) ?_)
            refine oP ?_
            refine o_nil ?_
            refine s_blk ?_
            exact s_backI (g9, (i + j) / 2 + 1, j) (by (try simp only []); omega) ⟨by (try simp only []); omega, by (try simp only []); omega, hi3, by (try simp only []); omega, by rw [← hR, hS9, if_pos (by unfold p3; simpa using h11)]⟩ (by refine sl_c (congrArg (fun e => some (Value.int .i64 e)) (show (((i + j) / 2 : Nat) : Int) + 1 = (((i + j) / 2 + 1 : Nat) : Int) by omega)) ?_; repeat (first | exact sl_n | refine sl_c rfl ?_)) (fun w h => h.ent aEt)
          · try simp only [Bool.not_eq_false', decide_eq_true_eq] at h11
            refine s_weaken (L' := [(0, _), (1, _), (2, _), (3, _), (4, _), (18, _), (19, _), (20, _), (21, _), (22, _), (23, _), (140, _), (147, _), (148, _)]) aSx (fun _ h => h) ?_
            refine s_region ?_
            refine oP ?_
            refine oP ?_
            refine o_nil ?_
            refine s_blk ?_
            exact s_backI (g9, i, (i + j) / 2) (by (try simp only []); omega) ⟨hi1, by (try simp only []); omega, by (try simp only []); omega, by (try simp only []); omega, by rw [← hR, hS9, if_neg (by unfold p3; simpa using h11)]⟩ aSx (fun w h => h.ent aEt)
        · try simp only [decide_eq_false_iff_not] at h10
          have hE9 : srch (p3 c I (mid + m - 1)) (y - x) s0 r0 = i := by rw [← hR, srch_end (by omega)]
          have hS : sStart c I x m y = i := (sStart_eq (c := c) hmid hs0 hr0).trans hE9
          obtain ⟨s, hs9⟩ : ∃ s, s = i := ⟨i, rfl⟩
          subst hs9
          have hsb : x ≤ s ∧ s ≤ m ∧ s ≤ mid := by omega
          refine s_exit_to rfl ?_
          refine s_seq ?_
          refine s_region ?_
          refine oP ?_
          refine oP ?_
          refine oP ?_
          try (refine o_slot (i64w (by omega) (by omega)) ?_)
          refine o_slot (show _ = Value.int .i64 ((mid + m - s : Nat) : Int) from by first | rfl | (congr 1; omega)) ?_
          refine oP ?_
          refine o_nil ?_
          refine s_seq ?_
          refine s_seq ?_
          refine s_region ?_
          refine oP ?_
          refine oP ?_
          refine oP ?_
          refine oP ?_
          refine o_and 4 181 185 _ _ rfl
            (by
              intro hg12
              have hs13 := hg12; try simp only [decide_eq_true_eq] at hs13
              refine o_on 181 _ rfl rfl hg12 ?_
              refine oP ?_
              refine o_on 181 _ rfl rfl hg12 ?_
              refine oP ?_
              refine o_on 181 _ rfl rfl hg12 ?_
              refine oP ?_
              refine o_p (p_pickt rfl rfl hg12 rfl) rfl ?_
              refine o_nil ?_
              exact s_joinN 4 185 _ rfl rfl rfl (fun w h => by first | exact h | exact h.ent aEt))
            (by
              intro hg14
              have hs15 := hg14; try simp only [decide_eq_false_iff_not] at hs15
              refine o_off 181 _ rfl rfl hg14 rfl ?_
              refine o_off 181 _ rfl rfl hg14 rfl ?_
              refine o_off 181 _ rfl rfl hg14 rfl ?_
              refine o_p (p_pickf rfl rfl hg14 rfl) rfl ?_
              refine o_nil ?_
              exact s_joinN 4 185 _ rfl rfl rfl (fun w h => by first | exact h | exact h.ent aEt)) ?_
          refine o_nil ?_
          refine s_weaken (L' := [(0, _), (1, _), (2, _), (3, _), (4, _), (18, _), (19, _), (20, _), (21, _), (22, _), (24, _), (140, _), (147, _), (148, _), (185, _)]) aSx (fun _ h => h) ?_
          refine s_cutI (α := List Nat) [186, 187, 188, 189, 190, 191] (fun _ => []) (fun z => HS w [b] [.blk b 3 tot ((z).flatMap idV)]) (fun z => Keep N n z ∧ z = (if s < m ∧ m < mid + m - s then rot s m (mid + m - s) I else I)) ?_ ?_
          · skip
            refine s_cond rfl (fun h16 => ?_) (fun h16 => ?_)
            · try simp only [Bool.and_eq_true, decide_eq_true_eq] at h16
              refine s_region ?_
              refine oP ?_
              refine oP ?_
              refine oP ?_
              refine oP ?_
              refine oP ?_
              refine o_h (h_callF (Cs := [.blk b 3 tot ((I).flatMap idV)]) rfl fn_115 rfl aPs (fun w1 h1 hf => c115 w1 b n cap tot N I s m (mid + m - s) _ hI hf hn (by have hq := h16; simp at hq; omega) (by have hq := h16; simp at hq; omega) (by omega))) rfl (fun _ _ => ?_)
              refine o_nil ?_
              exact s_joinI (rot s m (mid + m - s) I) ⟨hI.rot, (if_pos (by have hq := h16; simp at hq; omega)).symm⟩ aSx (fun w h => h.ent aEt)
            · try simp only [Bool.and_eq_false_iff, decide_eq_false_iff_not] at h16
              refine s_skip ?_
              exact s_joinI I ⟨hI, (if_neg (by have hq := h16; simp at hq; omega)).symm⟩ aSx (fun w h => h.ent aEt)
          · intro J1 hz
            obtain ⟨hJ1, hV1⟩ := hz
            refine s_seq ?_
            refine s_seq ?_
            refine s_region ?_
            refine oP ?_
            refine oP ?_
            refine oP ?_
            refine oP ?_
            refine o_and 4 195 199 _ _ rfl
              (by
                intro hg17
                have hs18 := hg17; try simp only [decide_eq_true_eq] at hs18
                refine o_on 195 _ rfl rfl hg17 ?_
                refine oP ?_
                refine o_on 195 _ rfl rfl hg17 ?_
                refine oP ?_
                refine o_on 195 _ rfl rfl hg17 ?_
                refine oP ?_
                refine o_p (p_pickt rfl rfl hg17 rfl) rfl ?_
                refine o_nil ?_
                exact s_joinN 4 199 _ rfl rfl rfl (fun w h => by first | exact h | exact h.ent aEt))
              (by
                intro hg19
                have hs20 := hg19; try simp only [decide_eq_false_iff_not] at hs20
                refine o_off 195 _ rfl rfl hg19 rfl ?_
                refine o_off 195 _ rfl rfl hg19 rfl ?_
                refine o_off 195 _ rfl rfl hg19 rfl ?_
                refine o_p (p_pickf rfl rfl hg19 rfl) rfl ?_
                refine o_nil ?_
                exact s_joinN 4 199 _ rfl rfl rfl (fun w h => by first | exact h | exact h.ent aEt)) ?_
            refine o_nil ?_
            refine s_cutI (α := List Nat) [200, 201, 202, 203, 204, 205] (fun _ => []) (fun z => HS w [b] [.blk b 3 tot ((z).flatMap idV)]) (fun z => Keep N n z ∧ z = (if x < s ∧ s < mid then symM c f x s mid J1 else J1)) ?_ ?_
            · skip
              refine s_cond rfl (fun h21 => ?_) (fun h21 => ?_)
              · try simp only [Bool.and_eq_true, decide_eq_true_eq] at h21
                refine s_region ?_
                refine oP ?_
                refine oP ?_
                refine oP ?_
                refine oP ?_
                refine oP ?_
                refine o_h (h_callF (Cs := [.blk b 3 tot ((J1).flatMap idV)]) rfl fn_106 rfl aPs (fun w1 h1 hf => hrec w1 J1 (x) (s) (mid) hJ1 (h0.trans1 h1) hf (by have hq := h21; simp at hq; omega) (by have hq := h21; simp at hq; omega) (by omega) (by omega))) rfl (fun _ _ => ?_)
                refine o_nil ?_
                exact s_joinI (symM c f x s mid J1) ⟨hJ1.symM _ _ _ _, (if_pos (by have hq := h21; simp at hq; omega)).symm⟩ aSx (fun w h => h.ent aEt)
              · try simp only [Bool.and_eq_false_iff, decide_eq_false_iff_not] at h21
                refine s_skip ?_
                exact s_joinI J1 ⟨hJ1, (if_neg (by have hq := h21; simp at hq; omega)).symm⟩ aSx (fun w h => h.ent aEt)
            · intro J2 hz
              obtain ⟨hJ2, hV2⟩ := hz
              refine s_seq ?_
              refine s_region ?_
              refine oP ?_
              refine oP ?_
              refine oP ?_
              refine oP ?_
              refine o_and 4 209 213 _ _ rfl
                (by
                  intro hg22
                  have hs23 := hg22; try simp only [decide_eq_true_eq] at hs23
                  refine o_on 209 _ rfl rfl hg22 ?_
                  refine oP ?_
                  refine o_on 209 _ rfl rfl hg22 ?_
                  refine oP ?_
                  refine o_on 209 _ rfl rfl hg22 ?_
                  refine oP ?_
                  refine o_p (p_pickt rfl rfl hg22 rfl) rfl ?_
                  refine o_nil ?_
                  exact s_joinN 4 213 _ rfl rfl rfl (fun w h => by first | exact h | exact h.ent aEt))
                (by
                  intro hg24
                  have hs25 := hg24; try simp only [decide_eq_false_iff_not] at hs25
                  refine o_off 209 _ rfl rfl hg24 rfl ?_
                  refine o_off 209 _ rfl rfl hg24 rfl ?_
                  refine o_off 209 _ rfl rfl hg24 rfl ?_
                  refine o_p (p_pickf rfl rfl hg24 rfl) rfl ?_
                  refine o_nil ?_
                  exact s_joinN 4 213 _ rfl rfl rfl (fun w h => by first | exact h | exact h.ent aEt)) ?_
              refine o_nil ?_
              refine s_weaken (L' := [(0, _), (1, _), (2, _), (3, _), (4, _), (18, _), (19, _), (20, _), (21, _), (22, _), (24, _), (140, _), (147, _), (148, _), (213, _)]) aSx (fun _ h => h) ?_
              refine s_cutI (α := List Nat) [214, 215, 216, 217, 218, 219] (fun _ => []) (fun z => HS w [b] [.blk b 3 tot ((z).flatMap idV)]) (fun z => Keep N n z ∧ z = (if mid < mid + m - s ∧ mid + m - s < y then symM c f mid (mid + m - s) y J2 else J2)) ?_ ?_
              · skip
                refine s_cond rfl (fun h26 => ?_) (fun h26 => ?_)
                · try simp only [Bool.and_eq_true, decide_eq_true_eq] at h26
                  refine s_region ?_
                  refine oP ?_
                  refine oP ?_
                  refine oP ?_
                  refine oP ?_
                  refine oP ?_
                  refine o_h (h_callF (Cs := [.blk b 3 tot ((J2).flatMap idV)]) rfl fn_106 rfl aPs (fun w1 h1 hf => hrec w1 J2 (mid) ((mid + m - s)) (y) hJ2 (h0.trans1 h1) hf (by have hq := h26; simp at hq; omega) (by have hq := h26; simp at hq; omega) (by omega) (by omega))) rfl (fun _ _ => ?_)
                  refine o_nil ?_
                  exact s_joinI (symM c f mid (mid + m - s) y J2) ⟨hJ2.symM _ _ _ _, (if_pos (by have hq := h26; simp at hq; omega)).symm⟩ aSx (fun w h => h.ent aEt)
                · try simp only [Bool.and_eq_false_iff, decide_eq_false_iff_not] at h26
                  refine s_skip ?_
                  exact s_joinI J2 ⟨hJ2, (if_neg (by have hq := h26; simp at hq; omega)).symm⟩ aSx (fun w h => h.ent aEt)
              · intro J3 hz
                obtain ⟨hJ3, hV3⟩ := hz
                exact s_end0 rfl (fun w' h' => ⟨(), rfl, trivial, by rw [symM, if_neg (by omega), if_neg (by omega), hmid, hS, ← hV1]; unfold symR; rw [← hV2, ← hV3]; exact h'⟩)

theorem c106 (b n cap tot N : Nat) (w00 : World) (q : Nat) (cv : Array Value) (c : Nat → Nat → Int) (hn : n ≤ 1000000) (hq : isFn Tryd.prog q = true) (hc : ∀ p p1 w1, p < N → p1 < N → HS w00 [b] [] w1 → Calls Tryd.prog q (#[] ++ [.int .i64 (p : Int), .int .i64 (p1 : Int)].toArray ++ cv) w1 fun en w2 => en = .returned (.int .i64 (c p p1)) ∧ Below w1.heap.size w1 w2) : ∀ (f : Nat) (w : World) (I : List Nat) (x m y : Nat), Keep N n I → HS w00 [b] [] w → HS w [b] [.blk b 3 tot ((I).flatMap idV)] w → x < m → m < y → y ≤ n → y - x ≤ f → Calls Tryd.prog 106 #[.slice (some ⟨b, 0, none⟩) n cap, .int .i64 (x : Int), .int .i64 (m : Int), .int .i64 (y : Int), .func (.func q) #[] cv] w fun en w' => ∃ g : Unit, en = .returned (.tuple #[]) ∧ True ∧ HS w [b] [.blk b 3 tot ((symM c f x m y I).flatMap idV)] w'
  | 0, w, I, x, m, y, hI, h0, hw, hxm, hmy, hy, hf => by omega
  | f + 1, w, I, x, m, y, hI, h0, hw, hxm, hmy, hy, hf => c106s w b n cap tot N I f x m y w00 q cv c hI hw hn hxm hmy hy hf h0 hq hc fun w1 J x1 m1 y1 hJ h01 hw1 hx hm hy1 hf1 => c106 b n cap tot N w00 q cv c hn hq hc f w1 J x1 m1 y1 hJ h01 hw1 hx hm hy1 hf1

set_option maxRecDepth 20000 in
set_option maxHeartbeats 4000000 in
theorem c94 (w : World) (b n cap tot N : Nat) (I : List Nat) (w00 : World) (q : Nat) (cv : Array Value) (c : Nat → Nat → Int) (hI : Keep N n I) (hw : HS w [b] [.blk b 3 tot ((I).flatMap idV)] w) (hn : n ≤ 1000000) (h0 : HS w00 [b] [] w) (hq : isFn Tryd.prog q = true) (hc : ∀ p p1 w1, p < N → p1 < N → HS w00 [b] [] w1 → Calls Tryd.prog q (#[] ++ [.int .i64 (p : Int), .int .i64 (p1 : Int)].toArray ++ cv) w1 fun en w2 => en = .returned (.int .i64 (c p p1)) ∧ Below w1.heap.size w1 w2) : Calls Tryd.prog 94 #[.slice (some ⟨b, 0, none⟩) n cap, .int .i64 (n : Int), .func (.func q) #[] cv] w fun en w' => ∃ g : Unit, en = .returned (.tuple #[]) ∧ True ∧ HS w [b] [.blk b 3 tot ((stab c n I).flatMap idV)] w' := by
  refine enter (args := [_, _, _]) Tryd.func94 Tryd.ntmps94 rfl rfl hw ?_
  refine s_seq ?_
  refine s_region ?_
  refine oP ?_
  refine o_nil ?_
  refine s_seq ?_
  refine s_region ?_
  refine oP ?_
  refine oP ?_
  refine oP ?_
  refine o_nil ?_
  refine s_seq ?_
  refine s_block ?_
  refine s_loopI (α := Nat × Nat × List Nat) [7, 8, 11, 12, 13, 14, 15, 16, 17, 18, 19, 20, 21, 22] (fun z => [(7, .int .i64 (z.2.1 : Int)), (8, .int .i64 ((z.2.1 + 20 : Nat) : Int))]) (fun z => HS w [b] [.blk b 3 tot ((z.2.2).flatMap idV)]) (fun z => z.2.1 ≤ n ∧ n - z.2.1 ≤ z.1 ∧ Keep N n z.2.2 ∧ stI c n z.1 z.2.1 z.2.2 = stI c n n 0 I) (fun z => z.1) (n, 0, I) ⟨Nat.zero_le _, Nat.sub_le _ _, hI, rfl⟩ aSx (fun w h => h.ent aEt) (fun ⟨f9, a, J⟩ hz => ?_)
  dsimp only
  obtain ⟨ha, hf9, hJ, hR⟩ := hz
  simp only [] at ha hf9 hJ hR
  refine s_seq ?_
  refine s_seq ?_
  refine s_region ?_
  refine oP ?_
  refine oP ?_
  refine oP ?_
  refine o_nil ?_
  refine s_cond rfl (fun h1 => ?_) (fun h1 => ?_)
  · try simp only [decide_eq_true_eq] at h1
    refine s_skip ?_
    refine s_block ?_
    refine s_seq ?_
    refine s_region ?_
    refine oP ?_
    refine oP ?_
    refine oP ?_
    refine oP ?_
    refine o_h (h_callF (Cs := [.blk b 3 tot ((J).flatMap idV)]) rfl fn_105 rfl aPs (fun w1 h1 hf => c105 w1 b n cap tot N J (a) (a + 20) w00 q cv c hJ hf hn (by omega) (by omega) (h0.trans1 h1) hq hc)) rfl (fun _ _ => ?_)
    refine o_nil ?_
    refine s_seq ?_
    refine s_region ?_
    refine oP ?_
    refine oP ?_
    refine o_nil ?_
    refine s_region ?_
    refine oP ?_
    refine oP ?_
    refine oP ?_
    try (refine o_slot (i64w (by omega) (by omega)) ?_)
    refine oP ?_
    refine o_nil ?_
    refine s_blk ?_
    obtain ⟨g9, rfl⟩ : ∃ g, f9 = g + 1 := ⟨f9 - 1, by omega⟩
    exact s_backI (g9, a + 20, ins c a (a + 20) J) (by (try simp only []); omega) ⟨by (try simp only []); omega, by (try simp only []); omega, hJ.ins, by rw [← hR, stI, if_pos (by omega)]⟩ (by refine sl_c rfl ?_; refine sl_c (congrArg (fun e => some (Value.int .i64 e)) (show _ = ((a + 20 + 20 : Nat) : Int) by (try simp only []); omega)) ?_; repeat (first | exact sl_n | refine sl_c rfl ?_)) (fun w h => h.ent aEt)
  · try simp only [decide_eq_false_iff_not] at h1
    have hE9 : ins c a n J = stI c n n 0 I := by rw [← hR]; cases f9 with | zero => rfl | succ f9 => rw [stI, if_neg (by omega)]
    refine s_exit_to rfl ?_
    refine s_seq ?_
    refine s_region ?_
    refine oP ?_
    refine oP ?_
    refine oP ?_
    refine oP ?_
    refine o_h (h_callF (Cs := [.blk b 3 tot ((J).flatMap idV)]) rfl fn_105 rfl aPs (fun w1 h1 hf => c105 w1 b n cap tot N J (a) (n) w00 q cv c hJ hf hn (by omega) (by omega) (h0.trans1 h1) hq hc)) rfl (fun _ _ => ?_)
    refine o_nil ?_
    refine s_block ?_
    rw [hE9]
    refine s_loopI (α := Nat × Nat × List Nat) [6, 7, 8, 9, 28, 29, 30, 31, 32, 33, 34, 35, 36, 37, 38, 39, 40, 41, 42, 43, 44, 45, 46, 47, 48, 49, 50, 51, 52, 53, 54, 55, 56, 57, 58, 59, 60, 61, 62] (fun z => [(6, .int .i64 (z.2.1 : Int))]) (fun z => HS w [b] [.blk b 3 tot ((z.2.2).flatMap idV)]) (fun z => 0 < z.2.1 ∧ z.2.1 ≤ 20 + 2 * n ∧ n ≤ z.2.1 + z.1 ∧ Keep N n z.2.2 ∧ stMg c n z.1 z.2.1 z.2.2 = stMg c n n 20 (stI c n n 0 I)) (fun z => z.1) (n, 20, stI c n n 0 I) ⟨by (try simp only []); omega, by (try simp only []); omega, by (try simp only []); omega, hI.stI _ _, rfl⟩ aSx (fun w h => h.ent aEt) (fun ⟨f8, bs, J⟩ hz => ?_)
    dsimp only
    clear hJ hR hE9
    obtain ⟨hb1, hb2, hf8, hJ, hR2⟩ := hz
    simp only [] at hb1 hb2 hf8 hJ hR2
    refine s_seq ?_
    refine s_seq ?_
    refine s_region ?_
    refine oP ?_
    refine oP ?_
    refine oP ?_
    refine o_nil ?_
    refine s_cond rfl (fun h2 => ?_) (fun h2 => ?_)
    · try simp only [decide_eq_true_eq] at h2
      obtain ⟨f9, rfl⟩ : ∃ g, f8 = g + 1 := ⟨f8 - 1, by omega⟩
      refine s_skip ?_
      refine s_block ?_
      refine s_seq ?_
      refine s_region ?_
      refine oP ?_
      refine oP ?_
      try (refine o_slot (i64w (by omega) (by omega)) ?_)
      refine o_slot (show _ = Value.int .i64 ((2 * bs : Nat) : Int) from by first | rfl | (congr 1; omega)) ?_
      refine oP ?_
      refine oP ?_
      refine o_nil ?_
      refine s_seq ?_
      refine s_block ?_
      refine s_loopI (α := Nat × Nat × List Nat) [7, 8, 33, 34, 35, 36, 37, 38, 39, 40, 41, 42, 43, 44, 45, 46, 47, 48] (fun z => [(7, .int .i64 (z.2.1 : Int)), (8, .int .i64 ((z.2.1 + 2 * bs : Nat) : Int))]) (fun z => HS w [b] [.blk b 3 tot ((z.2.2).flatMap idV)]) (fun z => z.2.1 ≤ n ∧ n - z.2.1 ≤ z.1 ∧ Keep N n z.2.2 ∧ stP c n bs z.1 z.2.1 z.2.2 = stP c n bs n 0 J) (fun z => z.1) (n, 0, J) ⟨Nat.zero_le _, Nat.sub_le _ _, hJ, rfl⟩ (by refine sl_c rfl ?_; refine sl_c (congrArg (fun e => some (Value.int .i64 e)) (show _ = ((0 + 2 * bs : Nat) : Int) by (try simp only []); omega)) ?_; repeat (first | exact sl_n | refine sl_c rfl ?_)) (fun w h => h.ent aEt) (fun ⟨f7, a, K⟩ hz => ?_)
      dsimp only
      obtain ⟨ha, hf7, hK, hR3⟩ := hz
      simp only [] at ha hf7 hK hR3
      refine s_seq ?_
      refine s_seq ?_
      refine s_region ?_
      refine oP ?_
      refine oP ?_
      refine oP ?_
      refine o_nil ?_
      refine s_cond rfl (fun h3 => ?_) (fun h3 => ?_)
      · try simp only [decide_eq_true_eq] at h3
        refine s_skip ?_
        refine s_block ?_
        refine s_seq ?_
        refine s_region ?_
        refine oP ?_
        refine oP ?_
        refine oP ?_
        refine oP ?_
        refine oP ?_
        try (refine o_slot (i64w (by omega) (by omega)) ?_)
        refine o_slot (show _ = Value.int .i64 ((a + bs : Nat) : Int) from by first | rfl | (congr 1; omega)) ?_
        refine oP ?_
        refine oP ?_
        refine o_h (h_callF (Cs := [.blk b 3 tot ((K).flatMap idV)]) rfl fn_106 rfl aPs (fun w1 h1 hf => c106 b n cap tot N w00 q cv c hn hq hc n w1 K (a) (a + bs) (a + 2 * bs) hK (h0.trans1 h1) hf (by omega) (by omega) (by omega) (by omega))) rfl (fun _ _ => ?_)
        refine o_nil ?_
        refine s_seq ?_
        refine s_weaken (L' := [(0, _), (1, _), (2, _), (6, _), (7, _), (8, _), (10, _), (11, _), (12, _), (13, _), (23, _), (24, _), (25, _), (26, _), (27, _), (28, _), (29, _), (30, _), (31, _), (32, _)]) aSx (fun _ h => h) ?_
        refine s_region ?_
        refine oP ?_
        refine oP ?_
        refine o_nil ?_
        refine s_region ?_
        refine oP ?_
        refine oP ?_
        refine oP ?_
        try (refine o_slot (i64w (by omega) (by omega)) ?_)
        refine o_slot (show _ = Value.int .i64 ((2 * bs : Nat) : Int) from by first | rfl | (congr 1; omega)) ?_
        refine oP ?_
        try (refine o_slot (i64w (by omega) (by omega)) ?_)
        refine oP ?_
        refine o_nil ?_
        refine s_blk ?_
        obtain ⟨g7, rfl⟩ : ∃ g, f7 = g + 1 := ⟨f7 - 1, by omega⟩
        exact s_backI (g7, a + 2 * bs, symM c n a (a + bs) (a + 2 * bs) K) (by (try simp only []); omega) ⟨by (try simp only []); omega, by (try simp only []); omega, hK.symM _ _ _ _, by rw [← hR3, stP, if_pos (by omega)]⟩ (by refine sl_c rfl ?_; refine sl_c (congrArg (fun e => some (Value.int .i64 e)) (show _ = ((a + 2 * bs + 2 * bs : Nat) : Int) by (try simp only []); omega)) ?_; repeat (first | exact sl_n | refine sl_c rfl ?_)) (fun w h => h.ent aEt)
      · try simp only [decide_eq_false_iff_not] at h3
        refine s_exit_to rfl ?_
        refine s_seq ?_
        refine s_seq ?_
        refine s_region ?_
        refine oP ?_
        refine oP ?_
        refine oP ?_
        try (refine o_slot (i64w (by omega) (by omega)) ?_)
        refine o_slot (show _ = Value.int .i64 ((a + bs : Nat) : Int) from by first | rfl | (congr 1; omega)) ?_
        refine oP ?_
        refine o_nil ?_
        refine s_seq ?_
        refine s_region ?_
        refine oP ?_
        refine oP ?_
        refine oP ?_
        refine o_nil ?_
        refine s_cutI (α := List Nat) [55, 56, 57, 58, 59, 60] (fun _ => []) (fun z => HS w [b] [.blk b 3 tot ((z).flatMap idV)]) (fun z => Keep N n z ∧ z = stP c n bs n 0 J) ?_ ?_
        · skip
          refine s_cond rfl (fun h4 => ?_) (fun h4 => ?_)
          · try simp only [decide_eq_true_eq] at h4
            refine s_region ?_
            refine oP ?_
            refine oP ?_
            refine oP ?_
            refine oP ?_
            refine oP ?_
            refine o_h (h_callF (Cs := [.blk b 3 tot ((K).flatMap idV)]) rfl fn_106 rfl aPs (fun w1 h1 hf => c106 b n cap tot N w00 q cv c hn hq hc n w1 K (a) (a + bs) (n) hK (h0.trans1 h1) hf (by omega) (by omega) (by omega) (by omega))) rfl (fun _ _ => ?_)
            refine o_nil ?_
            exact s_joinI (symM c n a (a + bs) n K) ⟨hK.symM _ _ _ _, by rw [← hR3]; cases f7 with | zero => omega | succ f7 => rw [stP, if_neg (by omega), if_pos (by omega)]⟩ aSx (fun w h => h.ent aEt)
          · try simp only [decide_eq_false_iff_not] at h4
            refine s_skip ?_
            exact s_joinI K ⟨hK, by rw [← hR3]; cases f7 with | zero => rfl | succ f7 => rw [stP, if_neg (by omega), if_neg (by omega)]⟩ aSx (fun w h => h.ent aEt)
        · intro Z hz
          obtain ⟨hZ, hV⟩ := hz
          refine s_weaken (L' := [(0, _), (1, _), (2, _), (6, _), (7, _), (8, _), (10, _), (11, _), (12, _), (13, _), (23, _), (24, _), (25, _), (26, _), (27, _), (28, _), (29, _), (30, _), (31, _), (32, _)]) aSx (fun _ h => h) ?_
          refine s_region ?_
          refine oP ?_
          refine oP ?_
          try (refine o_slot (i64w (by omega) (by omega)) ?_)
          refine o_slot (show _ = Value.int .i64 ((2 * bs : Nat) : Int) from by first | rfl | (congr 1; omega)) ?_
          refine oP ?_
          refine o_nil ?_
          refine s_blk ?_
          exact s_backI (f9, 2 * bs, Z) (by (try simp only []); omega) ⟨by (try simp only []); omega, by (try simp only []); omega, by (try simp only []); omega, hZ, by rw [← hR2, stMg, if_pos (by omega), hV]⟩ aSx (fun w h => h.ent aEt)
    · try simp only [decide_eq_false_iff_not] at h2
      have hE8 : J = stab c n I := by unfold stab; rw [← hR2]; cases f8 with | zero => rfl | succ f8 => rw [stMg, if_neg (by omega)]
      refine s_exit_to rfl ?_
      exact s_end0 rfl (fun w' h' => ⟨(), rfl, trivial, by rw [← hE8]; exact h'⟩)

set_option maxRecDepth 20000 in
theorem c75 (w : World) (b n cap tot N : Nat) (I : List Nat) (w00 : World) (q : Nat) (cv : Array Value) (c : Nat → Nat → Int) (hI : Keep N n I) (hw : HS w [b] [.blk b 3 tot ((I).flatMap idV)] w) (hn : n ≤ 1000000) (h0 : HS w00 [b] [] w) (hq : isFn Tryd.prog q = true) (hc : ∀ p p1 w1, p < N → p1 < N → HS w00 [b] [] w1 → Calls Tryd.prog q (#[] ++ [.int .i64 (p : Int), .int .i64 (p1 : Int)].toArray ++ cv) w1 fun en w2 => en = .returned (.int .i64 (c p p1)) ∧ Below w1.heap.size w1 w2) : Calls Tryd.prog 75 #[.slice (some ⟨b, 0, none⟩) n cap, .func (.func q) #[] cv] w fun en w' => ∃ g : Unit, en = .returned (.tuple #[]) ∧ True ∧ HS w [b] [.blk b 3 tot ((stab c n I).flatMap idV)] w' := by
  refine enter (args := [_, _]) Tryd.func75 Tryd.ntmps75 rfl rfl hw ?_
  refine s_region ?_
  refine oP ?_
  refine oP ?_
  refine o_p (p_len_slice rfl rfl Tryd.underlying31) rfl ?_
  refine oP ?_
  refine o_h (h_callF (Cs := [.blk b 3 tot ((I).flatMap idV)]) rfl fn_94 rfl aPs (fun w1 h1 hf => c94 w1 b n cap tot N I w00 q cv c hI hf hn (h0.trans1 h1) hq hc)) rfl (fun _ _ => ?_)
  refine o_nil ?_
  exact s_end0 rfl (fun w' h' => ⟨(), rfl, trivial, h'⟩)

end Go.Proofs

/- Chapter 5: the order of names by their indexes; the smallest index again and again is the sorted list. Plain data. -/
namespace Go.Proofs
set_option linter.unusedSimpArgs false
set_option linter.unusedVariables false
set_option linter.unusedSectionVars false
open Go Go.RowKit Gx
theorem less_cmp : ∀ (a b : List UInt8), Op.bytesLess a b = decide (Lib.compareBytes a b = -1)
  | [], [] => rfl
  | _ :: _, [] => by simp [Op.bytesLess, Lib.compareBytes]
  | [], _ :: _ => rfl
  | a :: x, b :: y => by
    unfold Op.bytesLess Lib.compareBytes
    rw [less_cmp x y]
    by_cases h1 : a < b
    · simp [h1]
    · by_cases h2 : b < a
      · have h3 : ¬ a = b := fun e => by subst e; exact h1 h2
        simp [h1, h2, h3]
      · have h3 : a = b := by
          rw [UInt8.lt_iff_toNat_lt] at h1 h2
          exact UInt8.toNat_inj.1 (by omega)
        subst h3
        simp [h1]
theorem cb_cases (a b : List UInt8) : Lib.compareBytes a b = -1 ∨ Lib.compareBytes a b = 0 ∨ Lib.compareBytes a b = 1 := by
  have := cb_range a b
  omega
section
variable {t : List UInt8} {l : List (List UInt8)}
def cU (t : List UInt8) (l : List (List UInt8)) (i j : Nat) : Int := cmpU t (l.getD i []) (l.getD j [])
def ordU (t : List UInt8) (l : List (List UInt8)) : List Nat := stab (cU t l) l.length (List.range l.length)
theorem cU_ord (N : Nat) : OrdC (cU t l) N := by
  refine ⟨fun i j k _ _ _ h1 h2 => ?_, fun i j _ _ hne => ?_⟩
  · unfold ltc cU at *
    rcases h1 with h1 | ⟨h1, h1'⟩
    · rcases h2 with h2 | ⟨h2, h2'⟩
      · exact .inl (cu_tr h1 h2)
      · rw [← cu_eq.1 h2]; exact .inl h1
    · rcases h2 with h2 | ⟨h2, h2'⟩
      · rw [cu_eq.1 h1]; exact .inl h2
      · right
        rw [cu_eq.1 h1]
        exact ⟨h2, by omega⟩
  · unfold ltc cU
    have h := cu_anti t (l.getD i []) (l.getD j [])
    rcases Int.lt_trichotomy (cmpU t (l.getD i []) (l.getD j [])) 0 with h1 | h1 | h1
    · exact .inl (.inl h1)
    · rcases Nat.lt_or_gt_of_ne hne with h2 | h2
      · exact .inl (.inr ⟨h1, h2⟩)
      · exact .inr (.inr ⟨by omega, h2⟩)
    · exact .inr (.inl (by omega))
theorem cU_asym {i j : Nat} (h1 : ltc (cU t l) i j) (h2 : ltc (cU t l) j i) : False := by
  unfold ltc cU at *
  have h := cu_anti t (l.getD i []) (l.getD j [])
  omega
theorem ordU_perm : (ordU t l).Perm (List.range l.length) := (stab_ok (cU_ord (t := t) (l := l) _)).1
theorem ordU_srt : SrtC (cU t l) (ordU t l) := (stab_ok (cU_ord (t := t) (l := l) _)).2
theorem ordU_len : (ordU t l).length = l.length := by rw [ordU_perm.length_eq, List.length_range]
theorem ordU_nodup : (ordU t l).Nodup := (ordU_perm.nodup_iff).2 List.nodup_range
theorem ordU_mem {i : Nat} : i ∈ ordU t l ↔ i < l.length := by rw [ordU_perm.mem_iff, List.mem_range]
theorem ordU_lt {k : Nat} (hk : k < l.length) : (ordU t l).getD k 0 < l.length := by
  rw [← ordU_mem (t := t)]
  exact getD_memN (by rw [ordU_len]; exact hk)
/-- What is known of the best index among the first ones that are not taken yet. -/
def BestU (t : List UInt8) (l : List (List UInt8)) (k i : Nat) (q : Int) : Prop :=
  (q = -1 ∧ ∀ j, j < i → j ∈ (ordU t l).take k) ∨ (∃ b : Nat, q = b ∧ b < i ∧ b ∉ (ordU t l).take k ∧ ∀ j, j < i → j ∉ (ordU t l).take k → j = b ∨ ltc (cU t l) b j)
theorem BestU.nil {k : Nat} : BestU t l k 0 (-1) := .inl ⟨rfl, fun j h => by omega⟩
theorem BestU.yes {k i : Nat} {q : Int} (h : BestU t l k i q) (hi : i < l.length) (hm : i ∉ (ordU t l).take k) (hq : q < 0 ∨ (0 ≤ q ∧ cU t l i q.toNat < 0)) : BestU t l k (i + 1) i := by
  refine .inr ⟨i, rfl, by omega, hm, fun j hj hjm => ?_⟩
  rcases Nat.lt_or_ge j i with hji | hji
  · rcases h with ⟨_, h2⟩ | ⟨b, rfl, hb, hbm, h3⟩
    · exact absurd (h2 j hji) hjm
    · rcases hq with hq | ⟨_, hq⟩
      · omega
      · rw [Int.toNat_natCast] at hq
        rcases h3 j hji hjm with rfl | h4
        · exact .inr (.inl hq)
        · exact .inr ((cU_ord (t := t) (l := l) l.length).tr i b j hi (by omega) (by omega) (.inl hq) h4)
  · exact .inl (by omega)
theorem BestU.no {k i : Nat} {q : Int} (h : BestU t l k i q) (hi : i < l.length) (hq : ¬ (i ∉ (ordU t l).take k ∧ (q < 0 ∨ (0 ≤ q ∧ cU t l i q.toNat < 0)))) : BestU t l k (i + 1) q := by
  rcases h with ⟨h1, h2⟩ | ⟨b, rfl, hb, hbm, h3⟩
  · refine .inl ⟨h1, fun j hj => ?_⟩
    rcases Nat.lt_or_ge j i with hji | hji
    · exact h2 j hji
    · obtain rfl : j = i := by omega
      exact Classical.byContradiction fun hm => hq ⟨hm, .inl (by omega)⟩
  · refine .inr ⟨b, rfl, by omega, hbm, fun j hj hjm => ?_⟩
    rcases Nat.lt_or_ge j i with hji | hji
    · exact h3 j hji hjm
    · obtain rfl : j = i := by omega
      right
      refine (cU_ord (t := t) (l := l) l.length).not hi hb fun hlt => hq ⟨hjm, .inr ⟨by omega, ?_⟩⟩
      rw [Int.toNat_natCast]
      exact hlt
theorem BestU.nonneg {k i : Nat} {q : Int} (h : BestU t l k i q) : -1 ≤ q ∧ (q = -1 ∨ 0 ≤ q ∧ q.toNat < i) := by
  rcases h with ⟨h1, _⟩ | ⟨b, rfl, hb, _⟩
  · omega
  · omega
theorem BestU.fin {k : Nat} {q : Int} (h : BestU t l k l.length q) (hk : k < l.length) : q = ((ordU t l).getD k 0 : Nat) := by
  have hkO : k < (ordU t l).length := by rw [ordU_len]; exact hk
  have hO := ordU_lt (t := t) hk
  have hdec : ordU t l = (ordU t l).take k ++ (ordU t l).getD k 0 :: (ordU t l).drop (k + 1) := by
    conv => lhs; rw [← List.take_append_drop k (ordU t l)]
    congr 1
    rw [List.drop_eq_getElem_cons hkO, List.getD_eq_getElem?_getD, List.getElem?_eq_getElem hkO]
    rfl
  have hnd := ordU_nodup (t := t) (l := l)
  rw [hdec] at hnd
  have hd := List.nodup_append.1 hnd
  have hOm : (ordU t l).getD k 0 ∉ (ordU t l).take k := fun hm => hd.2.2 _ hm _ (List.mem_cons_self ..) rfl
  rcases h with ⟨_, h2⟩ | ⟨b, rfl, hb, hbm, h3⟩
  · exact absurd (h2 _ hO) hOm
  · rcases h3 _ hO hOm with h4 | h4
    · rw [h4]
    · exfalso
      have hbO : b ∈ ordU t l := ordU_mem.2 hb
      rw [hdec] at hbO
      rcases List.mem_append.1 hbO with hx | hx
      · exact hbm hx
      · have hs := ordU_srt (t := t) (l := l)
        rw [hdec] at hs
        rcases List.mem_cons.1 hx with hx | hx
        · rw [hx] at h4
          exact cU_asym h4 h4
        · exact cU_asym h4 ((List.pairwise_cons.1 (List.pairwise_append.1 hs).2.1).1 b hx)
end
end Go.Proofs

namespace Go.Proofs
open Go Go.RowKit Gx
set_option linter.unusedVariables false
set_option linter.unusedSimpArgs false
attribute [local irreducible] Go.Calls Gx.S Gx.O Gx.D Gx.OpP Gx.OpQ Gx.OpH

theorem fn_79 : isFn Tryd.prog 79 = true := by kernel_rfl
theorem fn_78 : isFn Tryd.prog 78 = true := by kernel_rfl
theorem fn_77 : isFn Tryd.prog 77 = true := by kernel_rfl
theorem fn_47 : isFn Tryd.prog 47 = true := by kernel_rfl


set_option maxRecDepth 20000 in
theorem c79 (w : World) (a b : List UInt8) : Calls Tryd.prog 79 #[.string (bs a), .string (bs b)] w fun en w' => en = .returned (.int .i64 (Lib.compareBytes a b)) ∧ Below w.heap.size w w' := by
  have h9 := cb_cases a b
  have e1 := less_cmp a b
  have e2 : (a = b) ↔ Lib.compareBytes a b = 0 := cb_eq.symm
  refine enter (args := [_, _]) Tryd.func79 Tryd.ntmps79 rfl rfl (HS.refl w []) ?_
  refine s_seq ?_
  refine s_region ?_
  refine oP ?_
  refine o_nil ?_
  refine s_seq ?_
  refine s_seq ?_
  refine s_region ?_
  refine oP ?_
  refine oP ?_
  refine oP ?_
  refine o_nil ?_
  refine s_cond rfl (fun h1 => ?_) (fun h1 => ?_)
  · skip
    have hz : Lib.compareBytes a b = -1 := by have hq := h1; rw [e1] at hq; simpa using hq
    refine s_seq ?_
    refine s_region ?_
    refine oP ?_
    refine o_nil ?_
    exact s_retv (rs := [.tmp 4]) rfl (.tmp rfl (.nil)) (fun w' h' => ⟨by rw [hz]; rfl, h'.below⟩)
  · skip
    have hn : ¬ Lib.compareBytes a b = -1 := by have hq := h1; rw [e1] at hq; simpa using hq
    refine s_skip ?_
    refine s_seq ?_
    refine s_seq ?_
    refine s_region ?_
    refine oP ?_
    refine oP ?_
    refine oP ?_
    refine o_nil ?_
    refine s_cond rfl (fun h2 => ?_) (fun h2 => ?_)
    · try simp only [Bool.not_eq_true', Bool.or_eq_false_iff, decide_eq_false_iff_not] at h2
      have hz : Lib.compareBytes a b = 1 := by have hq := h2; rw [e1] at hq; simp [e2] at hq; omega
      refine s_seq ?_
      refine s_region ?_
      refine oP ?_
      refine o_nil ?_
      exact s_retv (rs := [.tmp 4]) rfl (.tmp rfl (.nil)) (fun w' h' => ⟨by rw [hz]; rfl, h'.below⟩)
    · try simp only [Bool.not_eq_false', Bool.or_eq_true, decide_eq_true_eq] at h2
      have hz : Lib.compareBytes a b = 0 := by have hq := h2; rw [e1] at hq; simp [e2] at hq; omega
      refine s_skip ?_
      refine s_seq ?_
      refine s_region ?_
      refine oP ?_
      refine o_nil ?_
      exact s_retv (rs := [.tmp 4]) rfl (.tmp rfl (.nil)) (fun w' h' => ⟨by rw [hz]; rfl, h'.below⟩)

set_option maxRecDepth 20000 in
theorem c47 (w : World) (t a b : List UInt8) (hl : t.length = 128) (ha : ∀ c ∈ a, c.toNat < 128) (hb : ∀ c ∈ b, c.toNat < 128) (hma : a.length ≤ 1000000) (hmb : b.length ≤ 1000000) : Calls Tryd.prog 47 #[.string (bs t), .string (bs a), .string (bs b)] w fun en w' => en = .returned (.int .i64 (cmpU t a b)) ∧ Below w.heap.size w w' := by
  refine enter (args := [_, _, _]) Tryd.func47 Tryd.ntmps47 rfl rfl (HS.refl w []) ?_
  refine s_seq ?_
  refine s_region ?_
  refine oP ?_
  refine o_nil ?_
  refine s_seq ?_
  refine s_seq ?_
  refine s_region ?_
  refine oP ?_
  refine oP ?_
  refine o_q (q_call rfl fn_37 rfl (fun w1 h1 => c37 w1 t a hl ha hma)) rfl ?_
  refine oP ?_
  refine oP ?_
  refine o_q (q_call rfl fn_37 rfl (fun w1 h1 => c37 w1 t b hl hb hmb)) rfl ?_
  refine o_q (q_call rfl fn_79 rfl (fun w1 h1 => c79 w1 (up t a) (up t b))) rfl ?_
  refine oP ?_
  refine o_nil ?_
  refine s_seq ?_
  refine s_region ?_
  refine oP ?_
  refine oP ?_
  refine o_nil ?_
  refine s_cond rfl (fun h1 => ?_) (fun h1 => ?_)
  · try simp only [Bool.not_eq_true', decide_eq_false_iff_not] at h1
    refine s_seq ?_
    refine s_region ?_
    refine oP ?_
    refine oP ?_
    refine o_nil ?_
    exact s_retv (rs := [.tmp 6]) rfl (.tmp rfl (.nil)) (fun w' h' => ⟨by unfold cmpU; rw [if_neg h1]; rfl, h'.below⟩)
  · try simp only [Bool.not_eq_false', decide_eq_true_eq] at h1
    refine s_skip ?_
    refine s_seq ?_
    refine s_region ?_
    refine oP ?_
    refine oP ?_
    refine o_q (q_call rfl fn_79 rfl (fun w1 h1 => c79 w1 a b)) rfl ?_
    refine oP ?_
    refine o_nil ?_
    exact s_retv (rs := [.tmp 6]) rfl (.tmp rfl (.nil)) (fun w' h' => ⟨by have hq := h1; unfold cmpU; rw [if_pos (by simpa using hq)]; rfl, h'.below⟩)

set_option maxRecDepth 20000 in
theorem c78 (w : World) (a b : Int) (ha : 0 ≤ a) (hb : 0 < b) (hbm : b ≤ 1000000) : Calls Tryd.prog 78 #[.int .i64 a, .int .i64 b] w fun en w' => en = .returned (.int .i64 (a % b)) ∧ Below w.heap.size w w' := by
  have hm1 := Int.emod_nonneg a (show b ≠ 0 by omega)
  have hm2 := Int.emod_lt_of_pos a hb
  have hm3 := Int.tmod_eq_emod_of_nonneg (b := b) ha
  refine enter (args := [_, _]) Tryd.func78 Tryd.ntmps78 rfl rfl (HS.refl w []) ?_
  refine s_seq ?_
  refine s_region ?_
  refine oP ?_
  refine o_nil ?_
  refine s_seq ?_
  refine s_region ?_
  refine oP ?_
  refine oP ?_
  refine o_p (p_rem_nn rfl rfl rfl (by omega) (by omega)) rfl ?_
  refine oP ?_
  refine o_nil ?_
  refine s_seq ?_
  refine s_seq ?_
  refine s_region ?_
  refine oP ?_
  refine oP ?_
  refine o_nil ?_
  refine s_cond rfl (fun h1 => ?_) (fun h1 => ?_)
  · try simp only [decide_eq_true_eq] at h1
    exfalso; omega
  · try simp only [decide_eq_false_iff_not] at h1
    refine s_skip ?_
    refine s_seq ?_
    refine s_region ?_
    refine oP ?_
    refine oP ?_
    refine o_nil ?_
    exact s_retv (rs := [.tmp 4]) rfl (.tmp rfl (.nil)) (fun w' h' => ⟨rfl, h'.below⟩)

set_option maxRecDepth 20000 in
theorem c46 (w : World) (t s : List UInt8) (hl : t.length = 128) (hx : ∀ c ∈ s, c.toNat < 128) (hm : s.length ≤ 1000000) : Calls Tryd.prog 46 #[.string (bs t), .string (bs s)] w fun en w' => en = .returned (.int .i64 ((up t s).foldl hStep 0)) ∧ Below w.heap.size w w' := by
  have hul := up_len t s
  refine enter (args := [_, _]) Tryd.func46 Tryd.ntmps46 rfl rfl (HS.refl w []) ?_
  refine s_seq ?_
  refine s_region ?_
  refine oP ?_
  refine o_nil ?_
  refine s_seq ?_
  refine s_region ?_
  refine oP ?_
  refine oP ?_
  refine o_q (q_call rfl fn_37 rfl (fun w1 h1 => c37 w1 t s hl hx hm)) rfl ?_
  refine oP ?_
  refine o_nil ?_
  refine s_seq ?_
  refine s_region ?_
  refine oP ?_
  refine o_nil ?_
  refine s_seq ?_
  refine s_seq ?_
  refine s_region ?_
  refine oP ?_
  refine o_nil ?_
  refine s_block ?_
  refine s_loopI (α := Nat) [5, 6, 10, 11, 12, 13, 14, 15, 16, 17, 18, 19, 20, 21, 22, 23] (fun k => [(6, .int .i64 (k : Int)), (5, .int .i64 (((up t s).take k).foldl hStep 0))]) (fun _ => _) (fun k => k ≤ (up t s).length) (fun k => (up t s).length - k) 0 (Nat.zero_le _) aSx (fun w h => h) (fun k hk1 => ?_)
  refine s_seq ?_
  refine s_seq ?_
  refine s_region ?_
  refine oP ?_
  refine oP ?_
  refine o_p (p_len_str rfl rfl Tryd.underlying9) rfl ?_
  refine oP ?_
  refine o_nil ?_
  refine s_cond rfl (fun h1 => ?_) (fun h1 => ?_)
  · try simp only [decide_eq_true_eq] at h1
    have hk : k < (up t s).length := by omega
    have hb := hash_b ((up t s).take k)
    have hct := ((up t s).getD k 0).toNat_lt
    have hh := hash_succ hk
    refine s_skip ?_
    refine s_seq ?_
    refine s_block ?_
    refine s_region ?_
    refine oP ?_
    refine oP ?_
    try (refine o_slot (i64w (by omega) (by omega)) ?_)
    refine oP ?_
    refine oP ?_
    refine o_p (p_index_str rfl rfl rfl Tryd.underlying9 (k) (by omega) (by omega)) rfl ?_
    refine o_p (p_conv_int rfl rfl ki_5 ki_3) rfl ?_
    try (refine o_slot (i64w (by omega) (by omega)) ?_)
    refine oP ?_
    try (refine o_slot (i64w (by omega) (by omega)) ?_)
    refine o_q (q_call rfl fn_78 rfl (fun w1 h1 => c78 w1 _ _ (by omega) (by decide) (by decide))) rfl ?_
    refine oP ?_
    refine o_nil ?_
    refine s_blk ?_
    refine s_region ?_
    refine oP ?_
    refine oP ?_
    try (refine o_slot (i64w (by omega) (by omega)) ?_)
    refine oP ?_
    refine o_nil ?_
    exact s_backI (k + 1) (by omega) (by omega) (by (try dsimp only); rw [hh]; unfold hStep; rw [Int.mul_comm _ (37 : Int)]; exact aSx) (fun w h => h)
  · try simp only [decide_eq_false_iff_not] at h1
    obtain rfl : k = (up t s).length := by omega
    rw [List.take_length]
    refine s_exit_to rfl ?_
    refine s_seq ?_
    refine s_region ?_
    refine oP ?_
    refine oP ?_
    refine o_nil ?_
    exact s_retv (rs := [.tmp 4]) rfl (.tmp rfl (.nil)) (fun w' h' => ⟨by rfl, h'.below⟩)

set_option maxRecDepth 20000 in
theorem c77 (w : World) (a : Option Addr) (cap : Nat) (ns : List Nat) (x : Nat) (ha : Vl w a (ns.map naV)) (hm : ns.length ≤ 1000000) : Calls Tryd.prog 77 #[.slice a ns.length cap, .int .i64 (x : Int)] w fun en w' => en = .returned (.bool (decide (x ∈ ns))) ∧ Below w.heap.size w w' := by
  refine enter (args := [_, _]) Tryd.func77 Tryd.ntmps77 rfl rfl (HS.refl w []) ?_
  refine s_seq ?_
  refine s_region ?_
  refine oP ?_
  refine o_nil ?_
  refine s_seq ?_
  refine s_seq ?_
  refine s_region ?_
  refine oP ?_
  refine o_nil ?_
  refine s_block ?_
  refine s_loopI (α := Nat) [4, 5, 6, 7, 8, 9, 10, 11, 12, 13, 14, 15, 16, 17] (fun k => [(5, .int .i64 (k : Int))]) (fun _ => HS w [] []) (fun k => k ≤ ns.length ∧ ∀ j, j < k → ¬ ns.getD j 0 = x) (fun k => ns.length - k) 0 ⟨Nat.zero_le _, fun j h => absurd h (Nat.not_lt_zero j)⟩ aSx (fun w h => h.ent aEt) (fun k hk => ?_)
  obtain ⟨hk1, hk2⟩ := hk
  refine s_seq ?_
  refine s_seq ?_
  refine s_region ?_
  refine oP ?_
  refine oP ?_
  refine o_p (p_len_slice rfl rfl Tryd.underlying31) rfl ?_
  refine oP ?_
  refine o_nil ?_
  refine s_cond rfl (fun h1 => ?_) (fun h1 => ?_)
  · try simp only [decide_eq_true_eq] at h1
    have hkl : k < ns.length := by omega
    refine s_skip ?_
    refine s_seq ?_
    refine s_block ?_
    refine s_seq ?_
    refine s_region ?_
    refine oP ?_
    refine oP ?_
    refine o_p (p_indexAddr rfl rfl rfl sl_31 (k) (by omega) (by omega) (ha.some (by rw [List.length_map]; omega))) rfl ?_
    refine o_q (q_load_old rfl rfl sz_3 ((ha.rd (na_get (k := k) hkl)))) rfl ?_
    refine oP ?_
    refine oP ?_
    refine o_nil ?_
    refine s_cond rfl (fun h2 => ?_) (fun h2 => ?_)
    · try simp only [decide_eq_true_eq] at h2
      have heq : ns.getD k 0 = x := by have hq := h2; omega
      refine s_seq ?_
      refine s_region ?_
      refine oP ?_
      refine o_nil ?_
      exact s_retv (rs := [.tmp 4]) rfl (.tmp rfl (.nil)) (fun w' h' => ⟨by rw [show decide (x ∈ ns) = true from decide_eq_true (heq ▸ getD_mem hkl)]; rfl, h'.below⟩)
    · try simp only [decide_eq_false_iff_not] at h2
      have hne : ¬ ns.getD k 0 = x := by have hq := h2; omega
      refine s_skip ?_
      refine s_blk ?_
      refine s_region ?_
      refine oP ?_
      refine oP ?_
      try (refine o_slot (i64w (by omega) (by omega)) ?_)
      refine oP ?_
      refine o_nil ?_
      exact s_backI (k + 1) (by omega) ⟨by omega, fun j hj => (Nat.lt_succ_iff_lt_or_eq.1 hj).elim (hk2 j) fun e => by subst e; exact hne⟩ aSx (fun w h => h.ent aEt)
  · try simp only [decide_eq_false_iff_not] at h1
    obtain rfl : k = ns.length := by omega
    refine s_exit_to rfl ?_
    refine s_seq ?_
    refine s_region ?_
    refine oP ?_
    refine o_nil ?_
    exact s_retv (rs := [.tmp 4]) rfl (.tmp rfl (.nil)) (fun w' h' => ⟨by rw [show decide (x ∈ ns) = false from decide_eq_false fun hm9 => by obtain ⟨j, hj, e⟩ := mem_getD (d := 0) hm9; exact hk2 j hj e]; rfl, h'.below⟩)

set_option maxRecDepth 20000 in
set_option maxHeartbeats 4000000 in
theorem c45 (w : World) (t : List UInt8) (a : Option Addr) (cap : Nat) (l : List (List UInt8)) (hl : t.length = 128) (hs : Vl w a (l.map strV)) (hn : l.length ≤ 1000000) (hlt : ∀ s ∈ l, ∀ c ∈ s, c.toNat < 128) (hml : ∀ s ∈ l, s.length ≤ 1000000) : Calls Tryd.prog 45 #[.string (bs t), .slice a l.length cap] w fun en w' => ∃ g : Option Addr × Nat, en = .returned (.slice g.1 l.length g.2) ∧ True ∧ HS w [] [.own (.slice g.1 l.length g.2) 3 1 l.length ((ordU t l).map naV)] w' := by
  have hOl := ordU_len (t := t) (l := l)
  refine enter (args := [_, _]) Tryd.func45 Tryd.ntmps45 rfl rfl (HS.refl w []) ?_
  refine s_seq ?_
  refine s_region ?_
  refine oP ?_
  refine o_nil ?_
  refine s_seq ?_
  refine s_region ?_
  refine oP ?_
  refine o_nil ?_
  refine s_seq ?_
  refine s_block ?_
  refine s_loopI (α := Nat × (Option Addr × Nat)) [5, 6, 7, 8, 9, 10, 11, 12, 13, 14, 15, 16, 17, 18, 19, 20, 21, 22, 23, 24, 25, 26, 27, 28, 29, 30, 31, 32, 33, 34, 35, 36, 37, 38, 39, 40, 41, 42, 43, 44] (fun x => [(5, .slice x.2.1 x.1 x.2.2)]) (fun x => HS w [] [.own (.slice x.2.1 x.1 x.2.2) 3 1 x.1 (((ordU t l).take x.1).map naV)]) (fun x => x.1 ≤ l.length) (fun x => l.length - x.1) (0, (none, 0)) (Nat.zero_le _) aSx (fun w h => (h.own_nil 3 1).ent aEt) (fun ⟨k, A⟩ hk1 => ?_)
  dsimp only at hk1 ⊢
  refine s_seq ?_
  refine s_seq ?_
  refine s_region ?_
  refine oP ?_
  refine o_p (p_len_slice rfl rfl Tryd.underlying31) rfl ?_
  refine oP ?_
  refine o_p (p_len_slice rfl rfl Tryd.underlying29) rfl ?_
  refine oP ?_
  refine o_nil ?_
  refine s_cond rfl (fun h1 => ?_) (fun h1 => ?_)
  · try simp only [decide_eq_true_eq] at h1
    have hk : k < l.length := by omega
    have hkl : ((ordU t l).take k).length = k := by rw [List.length_take]; omega
    have hst : ((ordU t l).take (k + 1)) = ((ordU t l).take k) ++ [(ordU t l).getD k 0] := take_succ_getD (by omega)
    refine s_skip ?_
    refine s_block ?_
    refine s_seq ?_
    refine s_region ?_
    refine oP ?_
    refine o_nil ?_
    refine s_seq ?_
    refine s_seq ?_
    refine s_region ?_
    refine oP ?_
    refine o_nil ?_
    refine s_block ?_
    refine s_loopI (α := Nat × Int) [6, 7, 13, 14, 15, 16, 17, 18, 19, 20, 21, 22, 23, 24, 25, 26, 27, 28, 29, 30, 31, 32, 33, 34, 35, 36, 37, 38, 39, 40] (fun x => [(7, .int .i64 (x.1 : Int)), (6, .int .i64 x.2)]) (fun x => HS w [] [.own (.slice A.1 k A.2) 3 1 k (((ordU t l).take k).map naV)]) (fun x => x.1 ≤ l.length ∧ BestU t l k x.1 x.2) (fun x => l.length - x.1) (0, -1) ⟨Nat.zero_le _, .nil⟩ aSx (fun w h => h.ent aEt) (fun ⟨i, q⟩ hz => ?_)
    obtain ⟨hi1, hB⟩ := hz
    dsimp only at hi1 hB ⊢
    refine s_seq ?_
    refine s_seq ?_
    refine s_region ?_
    refine oP ?_
    refine oP ?_
    refine o_p (p_len_slice rfl rfl Tryd.underlying29) rfl ?_
    refine oP ?_
    refine o_nil ?_
    refine s_cond rfl (fun h2 => ?_) (fun h2 => ?_)
    · try simp only [decide_eq_true_eq] at h2
      have hi : i < l.length := by omega
      have hbn := hB.nonneg
      refine s_skip ?_
      refine s_seq ?_
      refine s_block ?_
      refine s_seq ?_
      refine s_cutS (α := Bool) [19, 20, 21, 22, 23, 24, 25, 26, 27, 28, 29, 30, 31, 32, 33, 34, 35, 36, 37, 38, 39] (fun z => [(39, .bool z)]) (fun z => (z = true ↔ i ∉ ((ordU t l).take k) ∧ (q < 0 ∨ (0 ≤ q ∧ cU t l i q.toNat < 0)))) ?_ ?_
      · skip
        refine s_draw [] mixed ?_
        refine dP 0 ?_
        refine dP 1 ?_
        refine d_q 2 [] rfl (q_call rfl fn_77 rfl (fun w1 h1 => by have h9 := c77 w1 A.1 A.2 ((ordU t l).take k) i (h1.vl_own (a := A.1) aPk) (by rw [hkl]; omega); rw [hkl] at h9; exact h9)) (by kernel_rfl) (by kernel_rfl) (by kernel_rfl) rfl ?_
        refine dP 3 ?_
        refine dP 4 ?_
        apply d_split 23
        · exact rfl
        · intro hg3
          have hs4 := hg3; try simp only [Bool.not_eq_true', decide_eq_false_iff_not] at hs4
          refine d_pon 5 23 rfl rfl rfl hg3 (p_pure rfl) (by kernel_rfl) rfl rfl ?_
          refine d_pon 6 23 rfl rfl rfl hg3 (p_pure rfl) (by kernel_rfl) rfl rfl ?_
          refine d_pon 7 23 rfl rfl rfl hg3 (p_pure rfl) (by kernel_rfl) rfl rfl ?_
          apply d_split 26
          · exact rfl
          · intro hg5
            have hs6 := hg5; try simp only [decide_eq_true_eq] at hs6
            refine d_off 8 26 rfl rfl rfl hg5 (by kernel_rfl) rfl rfl ?_
            refine d_off 9 26 rfl rfl rfl hg5 (by kernel_rfl) rfl rfl ?_
            refine d_off 10 26 rfl rfl rfl hg5 (by kernel_rfl) rfl rfl ?_
            refine d_off 11 26 rfl rfl rfl hg5 (by kernel_rfl) rfl rfl ?_
            refine d_off 12 26 rfl rfl rfl hg5 (by kernel_rfl) rfl rfl ?_
            refine d_off 13 26 rfl rfl rfl hg5 (by kernel_rfl) rfl rfl ?_
            refine d_off 14 26 rfl rfl rfl hg5 (by kernel_rfl) rfl rfl ?_
            refine d_off 15 26 rfl rfl rfl hg5 (by kernel_rfl) rfl rfl ?_
            refine d_off 16 26 rfl rfl rfl hg5 (by kernel_rfl) rfl rfl ?_
            refine d_off 17 26 rfl rfl rfl hg5 (by kernel_rfl) rfl rfl ?_
            refine d_off 18 26 rfl rfl rfl hg5 (by kernel_rfl) rfl rfl ?_
            refine d_pon 19 23 rfl rfl rfl hg3 (p_pickt rfl rfl hg5 rfl) (by kernel_rfl) rfl rfl ?_
            refine d_p 20 rfl (p_pickt rfl rfl hg3 rfl) (by kernel_rfl) rfl rfl ?_
            refine d_nil (by kernel_rfl) (fun w h => by first | exact h | exact h.ent aEt) ?_
            exact s_joinI true (by have hq1 := hg3; have hq2 := hg5; simp at hq1 hq2; simp; exact ⟨hq1, .inl hq2⟩) aSx (fun w h => h.ent aEt)
          · intro hg7
            have hs8 := hg7; try simp only [decide_eq_false_iff_not] at hs8
            refine d_pon 8 26 rfl rfl rfl hg7 (p_pure rfl) (by kernel_rfl) rfl rfl ?_
            refine d_pon 9 26 rfl rfl rfl hg7 (p_pure rfl) (by kernel_rfl) rfl rfl ?_
            refine d_pon 10 26 rfl rfl rfl hg7 (p_pure rfl) (by kernel_rfl) rfl rfl ?_
            refine d_pon 11 26 rfl rfl rfl hg7 (p_indexAddr rfl rfl rfl sl_29 (i) (by omega) (by omega) (hs.some (by rw [List.length_map]; omega))) (by kernel_rfl) rfl rfl ?_
            refine d_qon 12 26 [] rfl rfl rfl hg7 (q_load_old rfl rfl sz_9 ((hs.rd (str_get' (k := i) hi)))) (by kernel_rfl) (by kernel_rfl) (by kernel_rfl) rfl ?_
            refine d_pon 13 26 rfl rfl rfl hg7 (p_pure rfl) (by kernel_rfl) rfl rfl ?_
            refine d_pon 14 26 rfl rfl rfl hg7 (p_pure rfl) (by kernel_rfl) rfl rfl ?_
            refine d_pon 15 26 rfl rfl rfl hg7 (p_indexAddr rfl rfl rfl sl_29 q.toNat (by omega) (by omega) (hs.some (by rw [List.length_map]; omega))) (by kernel_rfl) rfl rfl ?_
            refine d_qon 16 26 [] rfl rfl rfl hg7 (q_load_old rfl rfl sz_9 ((hs.rd (str_get' (k := q.toNat) (by omega))))) (by kernel_rfl) (by kernel_rfl) (by kernel_rfl) rfl ?_
            refine d_qon 17 26 [] rfl rfl rfl hg7 (q_call rfl fn_47 rfl (fun w1 h1 => c47 w1 t (l.getD i []) (l.getD q.toNat []) hl (hlt _ (getD_mem hi)) (hlt _ (getD_mem (by omega))) (hml _ (getD_mem hi)) (hml _ (getD_mem (by omega))))) (by kernel_rfl) (by kernel_rfl) (by kernel_rfl) rfl ?_
            refine d_pon 18 26 rfl rfl rfl hg7 (p_pure rfl) (by kernel_rfl) rfl rfl ?_
            refine d_pon 19 23 rfl rfl rfl hg3 (p_pickf rfl rfl hg7 rfl) (by kernel_rfl) rfl rfl ?_
            refine d_p 20 rfl (p_pickt rfl rfl hg3 rfl) (by kernel_rfl) rfl rfl ?_
            refine d_nil (by kernel_rfl) (fun w h => by first | exact h | exact h.ent aEt) ?_
            exact s_joinI (decide (cU t l i q.toNat < 0)) (by have hq1 := hg3; have hq2 := hg7; simp at hq1 hq2; simp only [decide_eq_true_eq]; exact ⟨fun h9 => ⟨hq1, .inr ⟨hq2, h9⟩⟩, fun h9 => h9.2.elim (fun h8 => by omega) fun h8 => h8.2⟩) aSx (fun w h => h.ent aEt)
        · intro hg9
          have hs10 := hg9; try simp only [Bool.not_eq_false', decide_eq_true_eq] at hs10
          refine d_off 5 23 rfl rfl rfl hg9 (by kernel_rfl) rfl rfl ?_
          refine d_off 6 23 rfl rfl rfl hg9 (by kernel_rfl) rfl rfl ?_
          refine d_off 7 23 rfl rfl rfl hg9 (by kernel_rfl) rfl rfl ?_
          refine d_offU 8 26 rfl rfl rfl (by kernel_rfl) rfl rfl ?_
          refine d_offU 9 26 rfl rfl rfl (by kernel_rfl) rfl rfl ?_
          refine d_offU 10 26 rfl rfl rfl (by kernel_rfl) rfl rfl ?_
          refine d_offU 11 26 rfl rfl rfl (by kernel_rfl) rfl rfl ?_
          refine d_offU 12 26 rfl rfl rfl (by kernel_rfl) rfl rfl ?_
          refine d_offU 13 26 rfl rfl rfl (by kernel_rfl) rfl rfl ?_
          refine d_offU 14 26 rfl rfl rfl (by kernel_rfl) rfl rfl ?_
          refine d_offU 15 26 rfl rfl rfl (by kernel_rfl) rfl rfl ?_
          refine d_offU 16 26 rfl rfl rfl (by kernel_rfl) rfl rfl ?_
          refine d_offU 17 26 rfl rfl rfl (by kernel_rfl) rfl rfl ?_
          refine d_offU 18 26 rfl rfl rfl (by kernel_rfl) rfl rfl ?_
          refine d_off 19 23 rfl rfl rfl hg9 (by kernel_rfl) rfl rfl ?_
          refine d_p 20 rfl (p_pickf rfl rfl hg9 rfl) (by kernel_rfl) rfl rfl ?_
          refine d_nil (by kernel_rfl) (fun w h => by first | exact h | exact h.ent aEt) ?_
          exact s_joinI false (by have hq1 := hg9; simp at hq1; simp; intro h9; exact absurd hq1 h9) aSx (fun w h => h.ent aEt)
      · intro z9 hz9
        refine s_cond rfl (fun h11 => ?_) (fun h11 => ?_)
        · skip
          have hcc := hz9.1 h11
          refine s_region ?_
          refine oP ?_
          refine oP ?_
          refine o_nil ?_
          refine s_blk ?_
          refine s_region ?_
          refine oP ?_
          refine oP ?_
          try (refine o_slot (i64w (by omega) (by omega)) ?_)
          refine oP ?_
          refine o_nil ?_
          exact s_backI (i + 1, (i : Int)) (by show l.length - (i + 1) < l.length - i; omega) ⟨by (try simp only []); omega, hB.yes hi hcc.1 hcc.2⟩ aSx (fun w h => h.ent aEt)
        · skip
          have hcc : ¬ (i ∉ ((ordU t l).take k) ∧ (q < 0 ∨ (0 ≤ q ∧ cU t l i q.toNat < 0))) := fun h9 => by have hq := hz9.2 h9; simp_all
          refine s_skip ?_
          refine s_blk ?_
          refine s_region ?_
          refine oP ?_
          refine oP ?_
          try (refine o_slot (i64w (by omega) (by omega)) ?_)
          refine oP ?_
          refine o_nil ?_
          exact s_backI (i + 1, q) (by show l.length - (i + 1) < l.length - i; omega) ⟨by (try simp only []); omega, hB.no hi hcc⟩ aSx (fun w h => h.ent aEt)
    · try simp only [decide_eq_false_iff_not] at h2
      obtain rfl : i = l.length := by omega
      have hfin := hB.fin hk
      subst hfin
      refine s_exit_to rfl ?_
      refine s_region ?_
      refine oP ?_
      refine oP ?_
      refine o_h (h_buildSlice (cs := [_]) rfl rfl sl_31 zr_3 rfl rfl rfl) rfl (fun b12 _ => ?_)
      refine o_h (h_appendS (n := k) [.int .i64 ((ordU t l).getD k 0 : Nat)] rfl rfl rfl sl_31 Tryd.underlying31 zr_3 rfl aPk (src_blk aPk) rfl (by intro u hu; simp only [List.mem_cons, List.mem_nil_iff, or_false] at hu; subst hu; rfl) (by omega) (by simp only [maxLen]; omega)) rfl (fun b13 _ => ?_)
      refine oP ?_
      refine o_nil ?_
      refine s_blk ?_
      exact s_backI (k + 1, b13) (by show l.length - (k + 1) < l.length - k; omega) (by show k + 1 ≤ l.length; omega) aSx (fun w h => by dsimp only; rw [hst, List.map_append]; exact h.ent aEt)
  · try simp only [decide_eq_false_iff_not] at h1
    obtain rfl : k = l.length := by omega
    rw [List.take_of_length_le (by omega)]
    refine s_exit_to rfl ?_
    refine s_seq ?_
    refine s_region ?_
    refine oP ?_
    refine oP ?_
    refine o_nil ?_
    exact s_retv (rs := [.tmp 4]) rfl (.tmp rfl (.nil)) (fun w' h' => ⟨A, rfl, trivial, h'.ent aEt⟩)

end Go.Proofs

/- Guarded groups that change memory. Nothing of a program is named here. -/
namespace Gx
open Go Go.RowKit
set_option linter.unusedVariables false
section
variable {X : Ctx} {ops : Array Oper} {k : List KI} {L : Slots} {C : World → Prop}
theorem o_grpI {α : Type} (m dj dp : Nat) (b : Bool) (v : α → Bool) (CJ : α → World → Prop) (I : α → Prop) {l : List Oper} (hb : Slots.get L dj = some (.bool b))
    (h1 : b = true → O X ops (l.take m) (.join (AtI X.n X.df (fun x : α => (dp, .bool (v x)) :: L) CJ I) :: k) L C)
    (h0 : b = false → O X ops (l.take m) (.join (AtI X.n X.df (fun x : α => (dp, .bool (v x)) :: L) CJ I) :: k) L C)
    (h2 : ∀ x, I x → O X ops (l.drop m) k ((dp, .bool (v x)) :: L) (CJ x)) : O X ops l k L C := by
  intro a w ha hw
  have hh : O X ops (l.take m) (.join (AtI X.n X.df (fun x : α => (dp, .bool (v x)) :: L) CJ I) :: k) L C := by
    cases b with
    | true => exact h1 rfl
    | false => exact h0 rfl
  have := wpList_append (Q := post X k) _ (l.drop m) a w (hh a w ha hw) (fun a w ⟨x, hI, hx, hc⟩ => h2 x hI a w hx hc) (fun e a w he h => post_join_past e a w he h)
  rwa [List.take_append_drop] at this
end
end Gx

/- A row of the call's own, as a block. Nothing of a program is named here. -/
namespace Gx
open Go Go.RowKit
theorem HS.own_at {w0 w : World} {M : List Nat} {As As' : List HA} {g n n' cap t sz : Nat} {xs : List Value} (h : HS w0 M As w) (hp : Pick As (.own (.slice (some ⟨g, 0, none⟩) n' cap) t sz n xs) As') : HS w0 M (.blk g t (cap * sz) xs :: As') w := by
  have h1 := h.pick hp
  refine h1.turn (fun b hb => by simpa [HA.fp_own, HA.fp_blk, Value.ownBlock] using hb) fun ho => ?_
  obtain ⟨_, ⟨e, _⟩ | ⟨g', cap', e, _, _, hb⟩⟩ := ho
  · injection e with e1
    cases e1
  · injection e with e1 e2 e3
    injection e1 with e1
    injection e1 with e1
    subst e1 e3
    exact hb
end Gx

namespace Go.Proofs
open Go Go.RowKit Gx
set_option linter.unusedVariables false
set_option linter.unusedSimpArgs false
attribute [local irreducible] Go.Calls Gx.S Gx.O Gx.D Gx.OpP Gx.OpQ Gx.OpH

theorem fn_76 : isFn Tryd.prog 76 = true := by kernel_rfl
theorem sz_72 : tsz Tryd.prog 72 = some (1, false) := by kernel_rfl
theorem sz_29 : tsz Tryd.prog 29 = some (1, false) := by kernel_rfl
theorem zr_72 : tzero Tryd.prog 72 = some [.string (bs [])] := by kernel_rfl
theorem fn_75 : isFn Tryd.prog 75 = true := by kernel_rfl


set_option maxRecDepth 20000 in
theorem c76 (w : World) (t : List UInt8) (a : Option Addr) (cap : Nat) (l : List (List UInt8)) (bt bl p p1 : Nat) (hr : Rd w [] bt 0 (.string (bs t))) (hl9 : Rd w [] bl 0 (.slice a l.length cap)) (hs : Vl w a (l.map strV)) (hl : t.length = 128) (hlt : ∀ s ∈ l, ∀ c ∈ s, c.toNat < 128) (hml : ∀ s ∈ l, s.length ≤ 1000000) (hp : p < l.length) (hp1 : p1 < l.length) : Calls Tryd.prog 76 #[.int .i64 (p : Int), .int .i64 (p1 : Int), .pointer (some ⟨bt, 0, none⟩), .pointer (some ⟨bl, 0, none⟩)] w fun en w' => en = .returned (.int .i64 (cU t l p p1)) ∧ Below w.heap.size w w' := by
  refine enter (args := [_, _, _, _]) Tryd.func76 Tryd.ntmps76 rfl rfl (HS.refl w []) ?_
  refine s_seq ?_
  refine s_region ?_
  refine oP ?_
  refine o_nil ?_
  refine s_seq ?_
  refine s_draw [] mixed ?_
  refine d_q 0 [] rfl (q_load_old rfl rfl sz_72 (hr)) (by kernel_rfl) (by kernel_rfl) (by kernel_rfl) rfl ?_
  refine d_q 1 [] rfl (q_load_old rfl rfl sz_29 (hl9)) (by kernel_rfl) (by kernel_rfl) (by kernel_rfl) rfl ?_
  refine dP 2 ?_
  refine d_p 3 rfl (p_indexAddr rfl rfl rfl sl_29 (p) (by omega) (by omega) (hs.some (by rw [List.length_map]; omega))) (by kernel_rfl) rfl rfl ?_
  refine d_q 4 [] rfl (q_load_old rfl rfl sz_9 ((hs.rd (str_get' (k := p) hp)))) (by kernel_rfl) (by kernel_rfl) (by kernel_rfl) rfl ?_
  refine d_q 5 [] rfl (q_load_old rfl rfl sz_29 (hl9)) (by kernel_rfl) (by kernel_rfl) (by kernel_rfl) rfl ?_
  refine dP 6 ?_
  refine d_p 7 rfl (p_indexAddr rfl rfl rfl sl_29 (p1) (by omega) (by omega) (hs.some (by rw [List.length_map]; omega))) (by kernel_rfl) rfl rfl ?_
  refine d_q 8 [] rfl (q_load_old rfl rfl sz_9 ((hs.rd (str_get' (k := p1) hp1)))) (by kernel_rfl) (by kernel_rfl) (by kernel_rfl) rfl ?_
  refine d_q 9 [] rfl (q_call rfl fn_74 rfl (fun w1 h1 => c74 w1 t (l.getD p []) (l.getD p1 []) hl (hlt _ (getD_mem hp)) (hlt _ (getD_mem hp1)) (hml _ (getD_mem hp)) (hml _ (getD_mem hp1)))) (by kernel_rfl) (by kernel_rfl) (by kernel_rfl) rfl ?_
  refine dP 10 ?_
  refine d_nil (by kernel_rfl) (fun w h => by first | exact h | exact h.ent aEt) ?_
  exact s_retv (rs := [.tmp 6]) rfl (.tmp rfl (.nil)) (fun w' h' => ⟨rfl, h'.below⟩)

set_option maxRecDepth 20000 in
theorem c44e (w : World) (t : List UInt8) (a : Option Addr) (cap : Nat) (l : List (List UInt8)) (hmt : t.length ≤ 1000000) (hs : Vl w a (l.map strV)) (hn : l.length ≤ 1000000) (hml : ∀ s ∈ l, s.length ≤ 1000000) (h0 : ¬ openL t l = 0) : Calls Tryd.prog 44 #[.string (bs t), .slice a l.length cap] w fun en w' => en = .returned (.tuple #[.slice none 0 0, .int .i64 (openL t l)]) ∧ Below w.heap.size w w' := by
  refine enter (args := [_, _]) Tryd.func44 Tryd.ntmps44 rfl rfl (HS.refl w []) ?_
  refine s_seq ?_
  refine s_region ?_
  refine o_h (h_box rfl rfl) rfl (fun b1 _ => ?_)
  refine oP ?_
  refine oP ?_
  refine o_nil ?_
  refine s_seq ?_
  refine s_region ?_
  refine oP ?_
  refine o_q (q_load rfl rfl sz_29 aPk rfl) rfl ?_
  refine o_q (q_call rfl fn_64 rfl (fun w1 h1 => c64 w1 t a cap l hmt (hs.later h1) hn hml)) rfl ?_
  refine oP ?_
  refine oP ?_
  refine oP ?_
  refine o_h (h_alloc rfl zr_72) rfl (fun b2 _ => ?_)
  refine o_h0 (h_store rfl rfl rfl sz_72 rfl aPt (by simp only [setMany_length, List.length_set, List.length_cons, List.length_nil, List.length_map]; omega) rfl) (fun _ _ => ?_)
  refine oP ?_
  refine o_nil ?_
  refine s_seq ?_
  refine s_seq ?_
  refine s_region ?_
  refine oP ?_
  refine oP ?_
  refine o_nil ?_
  refine s_cond rfl (fun h3 => ?_) (fun h3 => ?_)
  · try simp only [Bool.not_eq_true', decide_eq_false_iff_not] at h3
    refine s_seq ?_
    refine s_region ?_
    refine oP ?_
    refine oP ?_
    refine oP ?_
    refine o_nil ?_
    exact s_retv (rs := [.tmp 4, .tmp 5]) rfl (.tmp rfl (.tmp rfl (.nil))) (fun w' h' => ⟨by rfl, h'.below⟩)
  · try simp only [Bool.not_eq_false', decide_eq_true_eq] at h3
    exfalso; exact h0 (by have hq := h3; simpa using hq)

set_option maxRecDepth 20000 in
set_option maxHeartbeats 4000000 in
theorem c44o (w : World) (t : List UInt8) (a : Option Addr) (cap : Nat) (l : List (List UInt8)) (hmt : t.length ≤ 1000000) (hs : Vl w a (l.map strV)) (hn : l.length ≤ 1000000) (hml : ∀ s ∈ l, s.length ≤ 1000000) (h0 : openL t l = 0) (hl0 : 0 < l.length) : Calls Tryd.prog 44 #[.string (bs t), .slice a l.length cap] w fun en w' => ∃ g : Option Addr × Nat, en = .returned (.tuple #[.slice g.1 (ordU t l).length g.2, .int .i64 0]) ∧ True ∧ HS w [] [.own (.slice g.1 (ordU t l).length g.2) 3 1 (ordU t l).length ((ordU t l).map naV)] w' := by
  have ho : (chkTab t).2 = 0 ∧ namesE l = 0 := by unfold openL at h0; by_cases h9 : (chkTab t).2 = 0; (rw [if_pos h9] at h0; exact ⟨h9, h0⟩); (rw [if_neg h9] at h0; exact absurd h0 h9)
  have hl := (chkTab_ok ho.1).1
  have hlt : ∀ s ∈ l, ∀ c ∈ s, c.toNat < 128 := fun s hs9 => nameE_lt ((namesE_ok ho.2).2 s hs9)
  refine enter (args := [_, _]) Tryd.func44 Tryd.ntmps44 rfl rfl (HS.refl w []) ?_
  refine s_seq ?_
  refine s_region ?_
  refine o_h (h_box rfl rfl) rfl (fun b1 _ => ?_)
  refine oP ?_
  refine oP ?_
  refine o_nil ?_
  refine s_seq ?_
  refine s_region ?_
  refine oP ?_
  refine o_q (q_load rfl rfl sz_29 aPk rfl) rfl ?_
  refine o_q (q_call rfl fn_64 rfl (fun w1 h1 => by have h9 := c64 w1 t a cap l hmt (hs.later h1) hn hml; rw [h0] at h9; exact h9)) rfl ?_
  refine oP ?_
  refine oP ?_
  refine oP ?_
  refine o_h (h_alloc rfl zr_72) rfl (fun b2 _ => ?_)
  refine o_h0 (h_store rfl rfl rfl sz_72 rfl aPt (by simp only [setMany_length, List.length_set, List.length_cons, List.length_nil, List.length_map]; omega) rfl) (fun _ _ => ?_)
  refine oP ?_
  refine o_nil ?_
  refine s_seq ?_
  refine s_seq ?_
  refine s_region ?_
  refine oP ?_
  refine oP ?_
  refine o_nil ?_
  refine s_cond rfl (fun h3 => ?_) (fun h3 => ?_)
  · try simp only [Bool.not_eq_true', decide_eq_false_iff_not] at h3
    exfalso; simp at h3
  · try simp only [Bool.not_eq_false', decide_eq_true_eq] at h3
    refine s_skip ?_
    refine s_seq ?_
    refine s_region ?_
    refine oP ?_
    refine o_nil ?_
    refine s_seq ?_
    refine s_seq ?_
    refine s_region ?_
    refine o_q (q_load rfl rfl sz_29 aPk rfl) rfl ?_
    refine o_p (p_len_slice rfl rfl Tryd.underlying29) rfl ?_
    refine oP ?_
    refine o_nil ?_
    refine s_block ?_
    refine s_weaken (L' := [(3, _), (4, _), (5, _), (6, _), (8, _), (20, _), (21, _)]) aSx (fun _ h => h) ?_
    refine s_loopI (α := Nat × (Option Addr × Nat)) [8, 9, 21, 22, 23, 24, 25, 26, 27, 28] (fun x => [(21, .int .i64 (x.1 : Int)), (8, .slice x.2.1 x.1 x.2.2)]) (fun x => HS w [] [.own (.slice x.2.1 x.1 x.2.2) 3 1 x.1 ((List.range x.1).flatMap idV), .blk b1 29 1 [.slice a l.length cap], .blk b2 72 1 [.string (bs t)]]) (fun x => x.1 ≤ l.length) (fun x => l.length - x.1) (0, (none, 0)) (Nat.zero_le _) aSx (fun w h => (h.own_nil 3 1).ent aEt) (fun ⟨k, A⟩ hk1 => ?_)
    dsimp only at hk1 ⊢
    refine s_seq ?_
    refine s_region ?_
    refine oP ?_
    refine o_nil ?_
    refine s_seq ?_
    refine s_cond rfl (fun h4 => ?_) (fun h4 => ?_)
    · try simp only [decide_eq_true_eq] at h4
      have hk : k < l.length := by omega
      refine s_skip ?_
      refine s_seq ?_
      refine s_block ?_
      refine s_seq ?_
      refine s_region ?_
      refine oP ?_
      refine oP ?_
      refine o_nil ?_
      refine s_region ?_
      refine oP ?_
      refine oP ?_
      refine o_h (h_buildSlice (cs := [_]) rfl rfl sl_31 zr_3 rfl rfl rfl) rfl (fun b5 _ => ?_)
      refine o_h (h_appendS (n := k) [.int .i64 (k : Int)] rfl rfl rfl sl_31 Tryd.underlying31 zr_3 rfl aPk (src_blk aPk) rfl (by intro u hu; simp only [List.mem_cons, List.mem_nil_iff, or_false] at hu; subst hu; rfl) (by omega) (by simp only [maxLen]; omega)) rfl (fun b6 _ => ?_)
      refine oP ?_
      refine o_nil ?_
      refine s_blk ?_
      refine s_region ?_
      refine oP ?_
      try (refine o_slot (i64w (by omega) (by omega)) ?_)
      refine oP ?_
      refine o_nil ?_
      exact s_backI (k + 1, b6) (by show l.length - (k + 1) < l.length - k; omega) (by show k + 1 ≤ l.length; omega) aSx (fun w h => by dsimp only; rw [List.range_succ, List.flatMap_append]; exact h.ent aEt)
    · try simp only [decide_eq_false_iff_not] at h4
      obtain rfl : k = l.length := by omega
      refine s_exit_to rfl ?_
      refine s_seq ?_
      refine s_region ?_
      refine oP ?_
      obtain ⟨gn, cn⟩ := A
      dsimp only
      refine o_fact (fun w h => own_addr (a := gn) (cap := cn) (n := l.length) hl0 h aPk) fun hgn => ?_
      obtain ⟨g9, hg9, hcn1, hcn2⟩ := hgn
      subst hg9
      refine o_class (fun w h => HS.own_at (g := g9) (cap := cn) h aPk) ?_
      refine oP ?_
      refine o_h (h_callF (Cs := [.blk g9 3 (cn * 1) ((List.range l.length).flatMap idV)]) rfl fn_75 rfl aPs (fun w1 h1 hf => c75 w1 g9 l.length cn (cn * 1) l.length (List.range l.length) w1 76 #[.pointer (some ⟨b2, 0, none⟩), .pointer (some ⟨b1, 0, none⟩)] (cU t l) ⟨List.length_range, fun i hi => List.mem_range.1 hi⟩ hf hn (HS.refl _ _) fn_76 (fun p p1 w2 hp hp1 h2 => by have h3 := HS.callM (Cs := [.blk g9 3 (cn * 1) ((List.range l.length).flatMap idV)]) (Mc := [g9]) (h1.pick (A := .blk g9 3 (cn * 1) ((List.range l.length).flatMap idV)) aPk) (fun b hb => ⟨_, List.mem_singleton.2 rfl, hb⟩) h2; exact c76 w2 t a cap l b2 b1 p p1 (h3.rd_blk (Mc := []) aPk rfl (by simp)) (h3.rd_blk (Mc := []) aPk rfl (by simp)) (hs.later h3) hl hlt hml hp hp1))) rfl (fun _ _ => ?_)
      refine o_nil ?_
      refine s_seq ?_
      refine s_region ?_
      refine oP ?_
      refine oP ?_
      refine oP ?_
      refine o_nil ?_
      exact s_retv (rs := [.tmp 4, .tmp 5]) rfl (.tmp rfl (.tmp rfl (.nil))) (fun w' h' => ⟨(some ⟨g9, 0, none⟩, cn), by rw [ordU_len]; rfl, trivial, by have h2 := HS.own_shut (sz := 1) (n := l.length) (h'.pick (A := .blk g9 3 (cn * 1) ((stab (cU t l) l.length (List.range l.length)).flatMap idV)) aPk) (by rw [flat_length idV_len]; show (ordU t l).length * 1 = _; rw [ordU_len]) hcn1 hcn2; rw [ordU_len]; have h3 : (ordU t l).map naV = (ordU t l).flatMap idV := (map_flat naV _).symm; rw [h3]; exact h2.ent aEt⟩)

set_option maxRecDepth 20000 in
theorem c105z (w : World) (fv : Value) : Calls Tryd.prog 105 #[.slice none 0 0, .int .i64 0, .int .i64 0, fv] w fun en w' => en = .returned (.tuple #[]) ∧ Below w.heap.size w w' := by
  refine enter (args := [_, _, _, _]) Tryd.func105 Tryd.ntmps105 rfl rfl (HS.refl w []) ?_
  refine s_seq ?_
  refine s_region ?_
  refine oP ?_
  refine oP ?_
  try (refine o_slot (i64w (by omega) (by omega)) ?_)
  refine oP ?_
  refine o_nil ?_
  refine s_block ?_
  refine s_loopI (α := Unit) [8, 9, 12, 13, 14, 15, 16, 17, 18, 19, 20, 21, 22, 23, 24, 25, 26, 27, 28, 29, 30, 31, 32, 33, 34, 35, 36, 37, 38, 39, 40, 41, 42, 43, 44, 45, 46, 47, 48, 49, 50, 51, 52] (fun _ => [(8, .int .i64 1)]) (fun _ => _) (fun _ => True) (fun _ => 0) () trivial aSx (fun w h => h) (fun _ _ => ?_)
  refine s_seq ?_
  refine s_seq ?_
  refine s_region ?_
  refine oP ?_
  refine oP ?_
  refine oP ?_
  refine o_nil ?_
  refine s_cond rfl (fun h1 => ?_) (fun h1 => ?_)
  · try simp only [decide_eq_true_eq] at h1
    exfalso; simp at h1
  · try simp only [decide_eq_false_iff_not] at h1
    refine s_exit_to rfl ?_
    exact s_end0 rfl (fun w' h' => ⟨rfl, h'.below⟩)

set_option maxRecDepth 20000 in
theorem c94z (w : World) (fv : Value) : Calls Tryd.prog 94 #[.slice none 0 0, .int .i64 0, fv] w fun en w' => en = .returned (.tuple #[]) ∧ Below w.heap.size w w' := by
  refine enter (args := [_, _, _]) Tryd.func94 Tryd.ntmps94 rfl rfl (HS.refl w []) ?_
  refine s_seq ?_
  refine s_region ?_
  refine oP ?_
  refine o_nil ?_
  refine s_seq ?_
  refine s_region ?_
  refine oP ?_
  refine oP ?_
  refine oP ?_
  refine o_nil ?_
  refine s_seq ?_
  refine s_block ?_
  refine s_loopI (α := Unit) [7, 8, 11, 12, 13, 14, 15, 16, 17, 18, 19, 20, 21, 22] (fun _ => [(7, .int .i64 0), (8, .int .i64 20)]) (fun _ => _) (fun _ => True) (fun _ => 0) () trivial aSx (fun w h => h) (fun _ _ => ?_)
  refine s_seq ?_
  refine s_seq ?_
  refine s_region ?_
  refine oP ?_
  refine oP ?_
  refine oP ?_
  refine o_nil ?_
  refine s_cond rfl (fun h1 => ?_) (fun h1 => ?_)
  · try simp only [decide_eq_true_eq] at h1
    exfalso; simp at h1
  · try simp only [decide_eq_false_iff_not] at h1
    refine s_exit_to rfl ?_
    refine s_seq ?_
    refine s_region ?_
    refine oP ?_
    refine oP ?_
    refine oP ?_
    refine oP ?_
    refine o_q (q_call rfl fn_105 rfl (fun w1 h1 => c105z w1 fv)) rfl ?_
    refine o_nil ?_
    refine s_block ?_
    refine s_loopI (α := Unit) [6, 7, 8, 9, 28, 29, 30, 31, 32, 33, 34, 35, 36, 37, 38, 39, 40, 41, 42, 43, 44, 45, 46, 47, 48, 49, 50, 51, 52, 53, 54, 55, 56, 57, 58, 59, 60, 61, 62] (fun _ => [(6, .int .i64 20)]) (fun _ => _) (fun _ => True) (fun _ => 0) () trivial aSx (fun w h => h) (fun _ _ => ?_)
    refine s_seq ?_
    refine s_seq ?_
    refine s_region ?_
    refine oP ?_
    refine oP ?_
    refine oP ?_
    refine o_nil ?_
    refine s_cond rfl (fun h2 => ?_) (fun h2 => ?_)
    · try simp only [decide_eq_true_eq] at h2
      exfalso; simp at h2
    · try simp only [decide_eq_false_iff_not] at h2
      refine s_exit_to rfl ?_
      exact s_end0 rfl (fun w' h' => ⟨rfl, h'.below⟩)

set_option maxRecDepth 20000 in
theorem c75z (w : World) (fv : Value) : Calls Tryd.prog 75 #[.slice none 0 0, fv] w fun en w' => en = .returned (.tuple #[]) ∧ Below w.heap.size w w' := by
  refine enter (args := [_, _]) Tryd.func75 Tryd.ntmps75 rfl rfl (HS.refl w []) ?_
  refine s_region ?_
  refine oP ?_
  refine oP ?_
  refine o_p (p_len_slice rfl rfl Tryd.underlying31) rfl ?_
  refine oP ?_
  refine o_q (q_call rfl fn_94 rfl (fun w1 h1 => c94z w1 fv)) rfl ?_
  refine o_nil ?_
  exact s_end0 rfl (fun w' h' => ⟨rfl, h'.below⟩)

set_option maxRecDepth 20000 in
set_option maxHeartbeats 4000000 in
theorem c44z (w : World) (t : List UInt8) (a : Option Addr) (cap : Nat) (hmt : t.length ≤ 1000000) (hs : Vl w a (([] : List (List UInt8)).map strV)) (h0 : openL t [] = 0) : Calls Tryd.prog 44 #[.string (bs t), .slice a ([] : List (List UInt8)).length cap] w fun en w' => en = .returned (.tuple #[.slice none 0 0, .int .i64 0]) ∧ Below w.heap.size w w' := by
  refine enter (args := [_, _]) Tryd.func44 Tryd.ntmps44 rfl rfl (HS.refl w []) ?_
  refine s_seq ?_
  refine s_region ?_
  refine o_h (h_box rfl rfl) rfl (fun b1 _ => ?_)
  refine oP ?_
  refine oP ?_
  refine o_nil ?_
  refine s_seq ?_
  refine s_region ?_
  refine oP ?_
  refine o_q (q_load rfl rfl sz_29 aPk rfl) rfl ?_
  refine o_q (q_call rfl fn_64 rfl (fun w1 h1 => by have h9 := c64 w1 t a cap [] hmt (hs.later h1) (by decide) (by simp); rw [h0] at h9; exact h9)) rfl ?_
  refine oP ?_
  refine oP ?_
  refine oP ?_
  refine o_h (h_alloc rfl zr_72) rfl (fun b2 _ => ?_)
  refine o_h0 (h_store rfl rfl rfl sz_72 rfl aPt (by simp only [setMany_length, List.length_set, List.length_cons, List.length_nil, List.length_map]; omega) rfl) (fun _ _ => ?_)
  refine oP ?_
  refine o_nil ?_
  refine s_seq ?_
  refine s_seq ?_
  refine s_region ?_
  refine oP ?_
  refine oP ?_
  refine o_nil ?_
  refine s_cond rfl (fun h3 => ?_) (fun h3 => ?_)
  · try simp only [Bool.not_eq_true', decide_eq_false_iff_not] at h3
    exfalso; simp at h3
  · try simp only [Bool.not_eq_false', decide_eq_true_eq] at h3
    refine s_skip ?_
    refine s_seq ?_
    refine s_region ?_
    refine oP ?_
    refine o_nil ?_
    refine s_seq ?_
    refine s_seq ?_
    refine s_region ?_
    refine o_q (q_load rfl rfl sz_29 aPk rfl) rfl ?_
    refine o_p (p_len_slice rfl rfl Tryd.underlying29) rfl ?_
    refine oP ?_
    refine o_nil ?_
    refine s_block ?_
    refine s_weaken (L' := [(3, _), (4, _), (5, _), (6, _), (8, _), (20, _), (21, _)]) aSx (fun _ h => h) ?_
    refine s_loopI (α := Unit) [8, 9, 21, 22, 23, 24, 25, 26, 27, 28] (fun _ => [(21, .int .i64 0), (8, .slice none 0 0)]) (fun _ => _) (fun _ => True) (fun _ => 0) () trivial aSx (fun w h => h) (fun _ _ => ?_)
    refine s_seq ?_
    refine s_region ?_
    refine oP ?_
    refine o_nil ?_
    refine s_seq ?_
    refine s_cond rfl (fun h4 => ?_) (fun h4 => ?_)
    · try simp only [decide_eq_true_eq] at h4
      exfalso; simp at h4
    · try simp only [decide_eq_false_iff_not] at h4
      refine s_exit_to rfl ?_
      refine s_seq ?_
      refine s_region ?_
      refine oP ?_
      refine oP ?_
      refine o_q (q_call rfl fn_75 rfl (fun w1 h1 => c75z w1 _)) rfl ?_
      refine o_nil ?_
      refine s_seq ?_
      refine s_region ?_
      refine oP ?_
      refine oP ?_
      refine oP ?_
      refine o_nil ?_
      exact s_retv (rs := [.tmp 4, .tmp 5]) rfl (.tmp rfl (.tmp rfl (.nil))) (fun w' h' => ⟨by rfl, h'.below⟩)

def ordE (t : List UInt8) (l : List (List UInt8)) : List Nat := if openL t l = 0 then ordU t l else []
theorem c44 (w : World) (t : List UInt8) (a : Option Addr) (cap : Nat) (l : List (List UInt8)) (hmt : t.length ≤ 1000000) (hs : Vl w a (l.map strV)) (hn : l.length ≤ 1000000) (hml : ∀ s ∈ l, s.length ≤ 1000000) : Calls Tryd.prog 44 #[.string (bs t), .slice a l.length cap] w fun en w' => ∃ g : Option Addr × Nat, en = .returned (.tuple #[.slice g.1 (ordE t l).length g.2, .int .i64 (openL t l)]) ∧ True ∧ HS w [] [.own (.slice g.1 (ordE t l).length g.2) 3 1 (ordE t l).length ((ordE t l).map naV)] w' := by
  by_cases h0 : openL t l = 0
  · have hE : ordE t l = ordU t l := if_pos h0
    rw [hE, h0]
    rcases Nat.eq_zero_or_pos l.length with hz | hz
    · obtain rfl := List.eq_nil_of_length_eq_zero hz
      exact (c44z w t a cap hmt hs h0).mono fun en w' h => ⟨(none, 0), h.1, trivial, (HS.of_below h.2).own_nil 3 1⟩
    · exact c44o w t a cap l hmt hs hn hml h0 hz
  · have hE : ordE t l = [] := if_neg h0
    rw [hE]
    exact (c44e w t a cap l hmt hs hn hml h0).mono fun en w' h => ⟨(none, 0), h.1, trivial, (HS.of_below h.2).own_nil 3 1⟩

end Go.Proofs

namespace Go.Proofs
open Go Go.RowKit Gx
set_option linter.unusedVariables false
set_option linter.unusedSimpArgs false
attribute [local irreducible] Go.Calls Gx.S Gx.O Gx.D Gx.OpP Gx.OpQ Gx.OpH

theorem ar_65 : tar Tryd.prog 65 = some (2, 9, 1) := by kernel_rfl
theorem fn_44 : isFn Tryd.prog 44 = true := by kernel_rfl
theorem fn_45 : isFn Tryd.prog 45 = true := by kernel_rfl
theorem fn_46 : isFn Tryd.prog 46 = true := by kernel_rfl


theorem sm3 {t p q : List UInt8} (h : smallU [t, p, q] = true) : t.length ≤ 300 ∧ p.length ≤ 300 ∧ q.length ≤ 300 := by simpa [smallU] using h
theorem openE_2 {t p q : List UInt8} : openE t [p, q] = if openE t [p] = 0 then (if (chkTab t).2 = 0 then nameE q else (chkTab t).2) else openE t [p] := by
  unfold openE
  by_cases h : (chkTab t).2 = 0
  · rw [if_pos h, if_pos h, if_pos h]
    simp only [List.map_cons, List.map_nil, firstI]
    by_cases h1 : nameE p = 0
    · rw [if_pos h1, if_pos h1]
      by_cases h2 : nameE q = 0
      · rw [if_pos h2, h2]; rfl
      · rw [if_neg h2]; rfl
    · rw [if_neg h1, if_neg h1, if_neg h1]
  · rw [if_neg h, if_neg h, if_neg h]
set_option maxRecDepth 20000 in
set_option maxHeartbeats 4000000 in
theorem c9 (w : World) (t x0 x1 : List UInt8) (a : Option Addr) (cap : Nat) (l : List (List UInt8)) (hmt : t.length ≤ 9223372036854775807) (hm0 : x0.length ≤ 9223372036854775807) (hm1 : x1.length ≤ 9223372036854775807) (hs : Vl w a (l.map strV)) (hln : l.length ≤ 9223372036854775807) (hml : ∀ s ∈ l, s.length ≤ 9223372036854775807) (ht : TabOk w) : Calls Tryd.prog 9 #[.string (bs t), .slice a l.length cap, .agg #[.string (bs x0), .string (bs x1)]] w fun en w' => en = .returned (.bool true) ∧ Below w.heap.size w w' := by
  refine enter (args := [_, _, _]) Tryd.func9 Tryd.ntmps9 rfl rfl (HS.refl w []) ?_
  refine s_seq ?_
  refine s_region ?_
  refine o_h (h_box rfl rfl) rfl (fun b1 _ => ?_)
  refine oP ?_
  refine o_nil ?_
  refine s_seq ?_
  refine s_seq ?_
  refine s_region ?_
  refine o_q (q_call rfl fn_10 rfl (fun w1 h1 => c10 w1 (ht.later h1))) rfl ?_
  refine oP ?_
  refine o_nil ?_
  refine s_cond rfl (fun h2 => ?_) (fun h2 => ?_)
  · try simp only [Bool.not_true] at h2
    exfalso; cases h2
  · try simp only [Bool.not_true] at h2
    refine s_skip ?_
    refine s_seq ?_
    refine s_seq ?_
    refine s_region ?_
    refine oP ?_
    refine o_p (p_indexAddr_arr rfl rfl rfl ar_65 (0) (by omega) (by omega)) rfl ?_
    refine o_q (q_load rfl rfl sz_9 aPk rfl) rfl ?_
    refine o_p (p_indexAddr_arr rfl rfl rfl ar_65 (1) (by omega) (by omega)) rfl ?_
    refine o_q (q_load rfl rfl sz_9 aPk rfl) rfl ?_
    refine o_h (h_buildSlice (cs := [_, _, _]) rfl rfl sl_29 zr_9 rfl rfl rfl) rfl (fun b3 _ => ?_)
    refine o_q (q_call rfl fn_11 rfl (fun w1 h1 => c11 w1 _ _ [t, x0, x1] (h1.vl_blk aPk) (by simp) (by intro x hx; simp only [List.mem_cons, List.mem_nil_iff, or_false] at hx; rcases hx with rfl | rfl | rfl <;> assumption))) rfl ?_
    refine oP ?_
    refine oP ?_
    refine o_or 4 29 33 _ _ rfl
      (by
        intro hg4
        have hs5 := hg4; try simp only [Bool.not_eq_false'] at hs5
        refine o_on 29 _ rfl rfl hg4 ?_
        refine oP ?_
        refine o_on 29 _ rfl rfl hg4 ?_
        refine o_q (q_call rfl fn_16 rfl (fun w1 h1 => c16 w1 a cap l (hs.later h1) hln hml)) rfl ?_
        refine o_on 29 _ rfl rfl hg4 ?_
        refine oP ?_
        refine o_p (p_pickf rfl rfl hg4 rfl) rfl ?_
        refine o_nil ?_
        exact s_joinN 4 33 _ rfl rfl rfl (fun w h => by first | exact h | exact h.ent aEt))
      (by
        intro hg6
        have hs7 := hg6; try simp only [Bool.not_eq_true'] at hs7
        refine o_off 29 _ rfl rfl hg6 rfl ?_
        refine o_off 29 _ rfl rfl hg6 rfl ?_
        refine o_off 29 _ rfl rfl hg6 rfl ?_
        refine o_p (p_pickt rfl rfl hg6 rfl) rfl ?_
        refine o_nil ?_
        exact s_joinN 4 33 _ rfl rfl rfl (fun w h => by first | exact h | exact h.ent aEt)) ?_
    refine o_nil ?_
    refine s_cond rfl (fun h8 => ?_) (fun h8 => ?_)
    · try simp only [Bool.or_eq_true, Bool.not_eq_true'] at h8
      refine s_seq ?_
      refine s_region ?_
      refine oP ?_
      refine o_nil ?_
      exact s_retv (rs := [.tmp 6]) rfl (.tmp rfl (.nil)) (fun w' h' => ⟨by rfl, h'.below⟩)
    · try simp only [Bool.or_eq_false_iff, Bool.not_eq_false'] at h8
      have hf : smallU [t, x0, x1] = true ∧ fewU l = true := by have hq := h8; grind
      have hsz := sm3 hf.1
      have hfw := few_ok hf.2
      have hml6 : ∀ s ∈ l, s.length ≤ 1000000 := fun s hA => by have := hfw.2 s hA; omega
      have hLE : (ordE t l).length ≤ 1000000 := by unfold ordE; split; (rw [ordU_len]; omega); simp
      refine s_skip ?_
      refine s_seq ?_
      refine s_region ?_
      refine oP ?_
      refine o_p (p_indexAddr_arr rfl rfl rfl ar_65 (0) (by omega) (by omega)) rfl ?_
      refine o_q (q_load rfl rfl sz_9 aPk rfl) rfl ?_
      refine o_p (p_indexAddr_arr rfl rfl rfl ar_65 (1) (by omega) (by omega)) rfl ?_
      refine o_q (q_load rfl rfl sz_9 aPk rfl) rfl ?_
      refine o_q (q_call rfl fn_39 rfl (fun w1 h1 => c39 w1 t x0 x1 (by omega) (by omega) (by omega))) rfl ?_
      refine oP ?_
      refine oP ?_
      refine oP ?_
      refine oP ?_
      refine oP ?_
      refine o_nil ?_
      refine s_seq ?_
      refine s_region ?_
      refine oP ?_
      refine o_p (p_indexAddr_arr rfl rfl rfl ar_65 (0) (by omega) (by omega)) rfl ?_
      refine o_q (q_load rfl rfl sz_9 aPk rfl) rfl ?_
      refine o_p (p_indexAddr_arr rfl rfl rfl ar_65 (1) (by omega) (by omega)) rfl ?_
      refine o_q (q_load rfl rfl sz_9 aPk rfl) rfl ?_
      refine o_q (q_call rfl fn_40 rfl (fun w1 h1 => c40 w1 t x0 x1 (by omega) (by omega) (by omega))) rfl ?_
      refine oP ?_
      refine oP ?_
      refine oP ?_
      refine oP ?_
      refine oP ?_
      refine o_nil ?_
      refine s_seq ?_
      refine s_weaken (L' := [(0, _), (1, _), (5, _), (6, _), (7, _), (8, _), (9, _), (10, _)]) aSx (fun _ h => h) ?_
      refine s_region ?_
      refine oP ?_
      refine o_p (p_indexAddr_arr rfl rfl rfl ar_65 (0) (by omega) (by omega)) rfl ?_
      refine o_q (q_load rfl rfl sz_9 aPk rfl) rfl ?_
      refine o_q (q_call rfl fn_42 rfl (fun w1 h1 => c42 w1 t x0 (by omega) (by omega))) rfl ?_
      refine oP ?_
      refine oP ?_
      refine oP ?_
      refine oP ?_
      refine oP ?_
      refine o_nil ?_
      refine s_seq ?_
      refine s_region ?_
      refine oP ?_
      refine oP ?_
      refine o_h (h_call rfl fn_18 rfl (fun w1 h1 => c18 w1 a cap l (hs.later h1) (by omega))) rfl (fun gc _ => ?_)
      refine o_h (h_call rfl fn_44 rfl (fun w1 h1 => c44 w1 t gc.1 gc.2 l (by omega) (h1.vl_own (a := gc.1) aPk) (by omega) hml6)) rfl (fun go _ => ?_)
      refine oP ?_
      refine oP ?_
      refine oP ?_
      refine oP ?_
      refine oP ?_
      refine o_nil ?_
      refine s_seq ?_
      refine s_region ?_
      refine oP ?_
      refine o_q (q_call rfl fn_12 rfl (fun w1 h1 => c12 w1 t (by omega))) rfl ?_
      refine oP ?_
      refine o_nil ?_
      refine s_seq ?_
      refine s_region ?_
      refine oP ?_
      refine oP ?_
      refine oP ?_
      refine oP ?_
      refine oP ?_
      refine oP ?_
      refine o_nil ?_
      refine s_seq ?_
      refine s_seq ?_
      refine s_weaken (L' := [(0, _), (1, _), (5, _), (6, _), (7, _), (8, _), (9, _), (10, _), (11, _), (12, _), (13, _), (14, _), (15, _), (16, _), (17, _), (18, _)]) aSx (fun _ h => h) ?_
      refine s_region ?_
      refine oP ?_
      refine oP ?_
      refine o_nil ?_
      refine s_cutI (α := Unit) [16, 17, 18, 73, 74, 75, 76, 77, 78, 79, 80, 81, 82, 83] (fun _ => [(16, .int .i64 (openE t [x0])), (17, .int .i64 (openE t [x0, x1])), (18, .int .i64 (openL t l))]) (fun _ => HS w [] [.own (.slice go.1 (ordE t l).length go.2) 3 1 (ordE t l).length ((ordE t l).map naV), .blk b1 65 2 [.string (bs x0), .string (bs x1)]]) (fun _ => True) ?_ ?_
      · skip
        refine s_cond rfl (fun h9 => ?_) (fun h9 => ?_)
        · try simp only [decide_eq_true_eq] at h9
          have hT9 : (chkTab t).2 = 0 := h9
          have g1 : openE t [x0] = nameE x0 := by rw [openE_1, if_pos hT9]
          have g3 : openL t l = namesE l := by rw [openL, if_pos hT9]
          have g2 : openE t [x0, x1] = if nameE x0 = 0 then nameE x1 else nameE x0 := by rw [openE_2, g1, if_pos hT9]
          refine s_seq ?_
          refine s_region ?_
          refine o_p (p_indexAddr_arr rfl rfl rfl ar_65 (0) (by omega) (by omega)) rfl ?_
          refine o_q (q_load rfl rfl sz_9 aPk rfl) rfl ?_
          refine o_q (q_call rfl fn_14 rfl (fun w1 h1 => c14 w1 x0 hm0)) rfl ?_
          refine oP ?_
          refine o_q (q_call rfl fn_19 rfl (fun w1 h1 => c19 w1 a cap l (hs.later h1) (by omega) hml6)) rfl ?_
          refine oP ?_
          refine oP ?_
          refine o_nil ?_
          refine s_seq ?_
          refine s_region ?_
          refine oP ?_
          refine oP ?_
          refine o_nil ?_
          refine s_seq ?_
          refine s_region ?_
          refine oP ?_
          refine oP ?_
          refine o_nil ?_
          refine s_cond rfl (fun h10 => ?_) (fun h10 => ?_)
          · try simp only [decide_eq_true_eq] at h10
            have hn9 : nameE x0 = 0 := h10
            rw [if_pos hn9] at g2
            refine s_region ?_
            refine o_p (p_indexAddr_arr rfl rfl rfl ar_65 (1) (by omega) (by omega)) rfl ?_
            refine o_q (q_load rfl rfl sz_9 aPk rfl) rfl ?_
            refine o_q (q_call rfl fn_14 rfl (fun w1 h1 => c14 w1 x1 hm1)) rfl ?_
            refine oP ?_
            refine o_nil ?_
            exact s_joinI () trivial (by (try dsimp only); rw [g1, g2, g3]; exact aSx) (fun w h => h.ent aEt)
          · try simp only [decide_eq_false_iff_not] at h10
            have hn9 : ¬ nameE x0 = 0 := h10
            rw [if_neg hn9] at g2
            refine s_skip ?_
            exact s_joinI () trivial (by (try dsimp only); rw [g1, g2, g3]; exact aSx) (fun w h => h.ent aEt)
        · try simp only [decide_eq_false_iff_not] at h9
          have hT9 : ¬ (chkTab t).2 = 0 := h9
          have g1 : openE t [x0] = (chkTab t).2 := by rw [openE_1, if_neg hT9]
          have g3 : openL t l = (chkTab t).2 := by rw [openL, if_neg hT9]
          have g2 : openE t [x0, x1] = (chkTab t).2 := by rw [openE_2, g1, if_neg hT9]
          refine s_skip ?_
          exact s_joinI () trivial (by (try dsimp only); rw [g1, g2, g3]; exact aSx) (fun w h => h.ent aEt)
      · intro _ _
        refine s_seq ?_
        refine s_seq ?_
        refine s_region ?_
        refine oP ?_
        refine oP ?_
        refine oP ?_
        refine o_grpI (α := Bool) 11 86 97 _ (fun b => b) (fun _ => HS w [] [.own (.slice go.1 (ordE t l).length go.2) 3 1 (ordE t l).length ((ordE t l).map naV), .blk b1 65 2 [.string (bs x0), .string (bs x1)]]) (fun b => b = false) rfl
          (by
            intro hg11
            have hs12 := hg11; try simp only [decide_eq_true_eq] at hs12
            have hz9 : openL t l = 0 := by have hq := hg11; simpa using hq
            refine o_on 86 _ rfl rfl hg11 ?_
            refine oP ?_
            refine o_on 86 _ rfl rfl hg11 ?_
            refine oP ?_
            refine o_on 86 _ rfl rfl hg11 ?_
            refine oP ?_
            refine o_grpI (α := Bool) 7 89 96 _ (fun b => b) (fun _ => HS w [] [.own (.slice go.1 (ordE t l).length go.2) 3 1 (ordE t l).length ((ordE t l).map naV), .blk b1 65 2 [.string (bs x0), .string (bs x1)]]) (fun b => b = false) rfl
              (by
                intro hg13
                have hs14 := hg13; try simp only [Bool.not_eq_true', decide_eq_false_iff_not] at hs14
                refine o_off 89 _ rfl rfl hg13 rfl ?_
                refine o_off 89 _ rfl rfl hg13 rfl ?_
                refine o_off 89 _ rfl rfl hg13 rfl ?_
                refine o_off 89 _ rfl rfl hg13 rfl ?_
                refine o_off 89 _ rfl rfl hg13 rfl ?_
                refine o_off 89 _ rfl rfl hg13 rfl ?_
                refine o_on 86 _ rfl rfl hg11 ?_
                refine o_p (p_pickt rfl rfl hg13 rfl) rfl ?_
                refine o_nil ?_
                exact s_joinI true (by exfalso; simp_all) aSx (fun w h => h.ent aEt))
              (by
                intro hg15
                have hs16 := hg15; try simp only [Bool.not_eq_false', decide_eq_true_eq] at hs16
                refine o_on 89 _ rfl rfl hg15 ?_
                refine oP ?_
                refine o_on 89 _ rfl rfl hg15 ?_
                refine oP ?_
                refine o_on 89 _ rfl rfl hg15 ?_
                refine oP ?_
                refine o_on 89 _ rfl rfl hg15 ?_
                refine o_h (h_call rfl fn_45 rfl (fun w1 h1 => by have hz : openL t l = 0 := hz9; have hT : (chkTab t).2 = 0 ∧ namesE l = 0 := (by unfold openL at hz; by_cases h9 : (chkTab t).2 = 0; (rw [if_pos h9] at hz; exact ⟨h9, hz⟩); (rw [if_neg h9] at hz; exact absurd hz h9)); exact c45 w1 t a cap l (chkTab_ok hT.1).1 (hs.later h1) (by omega) (fun s hs9 => nameE_lt ((namesE_ok hT.2).2 s hs9)) hml6)) rfl (fun gw _ => ?_)
                refine o_on 89 _ rfl rfl hg15 ?_
                refine o_q (q_call rfl fn_21 rfl (fun w1 h1 => by have hE : ordE t l = ordU t l := if_pos hz9; have hL : (ordU t l).length = l.length := ordU_len; have h9 := c21 w1 go.1 gw.1 go.2 gw.2 (ordU t l) (by have h8 := h1.vl_own (a := go.1) (n := (ordE t l).length) aPk; rwa [hE] at h8) (h1.vl_own (a := gw.1) aPk) (by omega); rw [hL] at h9; rw [hE, hL]; exact h9)) rfl ?_
                refine o_on 89 _ rfl rfl hg15 ?_
                refine oP ?_
                refine o_on 86 _ rfl rfl hg11 ?_
                refine o_p (p_pickf rfl rfl hg15 rfl) rfl ?_
                refine o_nil ?_
                exact s_joinI (!true) rfl aSx (fun w h => h.ent aEt)) ?_
            intro b7 hb7
            subst hb7
            refine o_p (p_pickt rfl rfl hg11 rfl) rfl ?_
            refine o_nil ?_
            exact s_joinI false rfl aSx (fun w h => h.ent aEt))
          (by
            intro hg17
            have hs18 := hg17; try simp only [decide_eq_false_iff_not] at hs18
            refine o_off 86 _ rfl rfl hg17 rfl ?_
            refine o_off 86 _ rfl rfl hg17 rfl ?_
            refine o_off 86 _ rfl rfl hg17 rfl ?_
            refine o_off' 89 rfl rfl rfl ?_
            refine o_off' 89 rfl rfl rfl ?_
            refine o_off' 89 rfl rfl rfl ?_
            refine o_off' 89 rfl rfl rfl ?_
            refine o_off' 89 rfl rfl rfl ?_
            refine o_off' 89 rfl rfl rfl ?_
            refine o_off 86 _ rfl rfl hg17 rfl ?_
            refine o_p (p_pickf rfl rfl hg17 rfl) rfl ?_
            refine o_nil ?_
            exact s_joinI false rfl aSx (fun w h => h.ent aEt)) ?_
        intro b9 hb8
        subst hb8
        refine oP ?_
        refine o_or 13 98 111 _ _ rfl
          (by
            intro hg19
            have hs20 := hg19; skip
            refine o_on 98 _ rfl rfl hg19 ?_
            refine oP ?_
            refine o_on 98 _ rfl rfl hg19 ?_
            refine oP ?_
            refine o_on 98 _ rfl rfl hg19 ?_
            refine oP ?_
            refine o_and 9 101 110 _ _ rfl
              (by
                intro hg21
                have hs22 := hg21; try simp only [Bool.not_eq_true', decide_eq_false_iff_not] at hs22
                refine o_on 101 _ rfl rfl hg21 ?_
                refine oP ?_
                refine o_on 101 _ rfl rfl hg21 ?_
                refine oP ?_
                refine o_on 101 _ rfl rfl hg21 ?_
                refine oP ?_
                refine o_on 101 _ rfl rfl hg21 ?_
                refine oP ?_
                refine o_or 4 105 109 _ _ rfl
                  (by
                    intro hg23
                    have hs24 := hg23; try simp only [Bool.not_eq_false', decide_eq_true_eq] at hs24
                    refine o_on 105 _ rfl rfl hg23 ?_
                    refine oP ?_
                    refine o_on 105 _ rfl rfl hg23 ?_
                    refine o_p (p_len_slice rfl rfl Tryd.underlying31) rfl ?_
                    refine o_on 105 _ rfl rfl hg23 ?_
                    refine oP ?_
                    refine o_on 101 _ rfl rfl hg21 ?_
                    refine o_p (p_pickf rfl rfl hg23 rfl) rfl ?_
                    refine o_nil ?_
                    exact s_joinN 4 109 _ rfl rfl rfl (fun w h => by first | exact h | exact h.ent aEt))
                  (by
                    intro hg25
                    have hs26 := hg25; try simp only [Bool.not_eq_true', decide_eq_false_iff_not] at hs26
                    refine o_off 105 _ rfl rfl hg25 rfl ?_
                    refine o_off 105 _ rfl rfl hg25 rfl ?_
                    refine o_off 105 _ rfl rfl hg25 rfl ?_
                    refine o_on 101 _ rfl rfl hg21 ?_
                    refine o_p (p_pickt rfl rfl hg25 rfl) rfl ?_
                    refine o_nil ?_
                    exact s_joinN 4 109 _ rfl rfl rfl (fun w h => by first | exact h | exact h.ent aEt)) ?_
                refine o_on 98 _ rfl rfl hg19 ?_
                refine o_p (p_pickt rfl rfl hg21 rfl) rfl ?_
                refine o_nil ?_
                exact s_joinN 6 110 _ rfl rfl rfl (fun w h => by first | exact h | exact h.ent aEt))
              (by
                intro hg27
                have hs28 := hg27; try simp only [Bool.not_eq_false', decide_eq_true_eq] at hs28
                refine o_off 101 _ rfl rfl hg27 rfl ?_
                refine o_off 101 _ rfl rfl hg27 rfl ?_
                refine o_off 101 _ rfl rfl hg27 rfl ?_
                refine o_off 101 _ rfl rfl hg27 rfl ?_
                refine o_off' 105 rfl rfl rfl ?_
                refine o_off' 105 rfl rfl rfl ?_
                refine o_off' 105 rfl rfl rfl ?_
                refine o_off 101 _ rfl rfl hg27 rfl ?_
                refine o_on 98 _ rfl rfl hg19 ?_
                refine o_p (p_pickf rfl rfl hg27 rfl) rfl ?_
                refine o_nil ?_
                exact s_joinN 9 110 _ rfl rfl rfl (fun w h => by first | exact h | exact h.ent aEt)) ?_
            refine o_p (p_pickf rfl rfl hg19 rfl) rfl ?_
            refine o_nil ?_
            exact s_joinN 5 111 _ rfl rfl rfl (fun w h => by first | exact h | exact h.ent aEt))
          (by
            intro hg29
            have hs30 := hg29; skip
            refine o_off 98 _ rfl rfl hg29 rfl ?_
            refine o_off 98 _ rfl rfl hg29 rfl ?_
            refine o_off 98 _ rfl rfl hg29 rfl ?_
            refine o_off' 101 rfl rfl rfl ?_
            refine o_off' 101 rfl rfl rfl ?_
            refine o_off' 101 rfl rfl rfl ?_
            refine o_off' 101 rfl rfl rfl ?_
            refine o_off' 105 rfl rfl rfl ?_
            refine o_off' 105 rfl rfl rfl ?_
            refine o_off' 105 rfl rfl rfl ?_
            refine o_off' 101 rfl rfl rfl ?_
            refine o_off 98 _ rfl rfl hg29 rfl ?_
            refine o_p (p_pickt rfl rfl hg29 rfl) rfl ?_
            refine o_nil ?_
            exact s_joinN 13 111 _ rfl rfl rfl (fun w h => by first | exact h | exact h.ent aEt)) ?_
        refine o_nil ?_
        refine s_cond rfl (fun h31 => ?_) (fun h31 => ?_)
        · try simp only [Bool.or_eq_true, Bool.and_eq_true, Bool.not_eq_true', decide_eq_false_iff_not] at h31
          exfalso; by_cases hA : openL t l = 0 <;> simp_all [ordE]
        · try simp only [Bool.or_eq_false_iff, Bool.and_eq_false_iff, Bool.not_eq_false', decide_eq_true_eq] at h31
          refine s_skip ?_
          refine s_seq ?_
          refine s_seq ?_
          refine s_region ?_
          refine oP ?_
          refine oP ?_
          refine oP ?_
          refine o_and 11 114 125 _ _ rfl
            (by
              intro hg32
              have hs33 := hg32; try simp only [decide_eq_true_eq] at hs33
              refine o_on 114 _ rfl rfl hg32 ?_
              refine oP ?_
              refine o_on 114 _ rfl rfl hg32 ?_
              refine oP ?_
              refine o_on 114 _ rfl rfl hg32 ?_
              refine oP ?_
              refine o_or 7 117 124 _ _ rfl
                (by
                  intro hg34
                  have hs35 := hg34; try simp only [Bool.not_eq_false', decide_eq_true_eq] at hs35
                  refine o_on 117 _ rfl rfl hg34 ?_
                  refine oP ?_
                  refine o_on 117 _ rfl rfl hg34 ?_
                  refine oP ?_
                  refine o_on 117 _ rfl rfl hg34 ?_
                  refine o_p (p_indexAddr_arr rfl rfl rfl ar_65 (0) (by omega) (by omega)) rfl ?_
                  refine o_on 117 _ rfl rfl hg34 ?_
                  refine o_q (q_load rfl rfl sz_9 aPk rfl) rfl ?_
                  refine o_on 117 _ rfl rfl hg34 ?_
                  refine o_q (q_call rfl fn_46 rfl (fun w1 h1 => by have hz : openE t [x0] = 0 := (by have hq := hg34; simp at hq; grind); have ho := openE_ok hz; have hT := ho.1; have n0 := ho.2 x0 (by simp); exact c46 w1 t x0 (chkTab_ok hT).1 (nameE_lt n0) (by omega))) rfl ?_
                  refine o_on 117 _ rfl rfl hg34 ?_
                  refine oP ?_
                  refine o_on 114 _ rfl rfl hg32 ?_
                  refine o_p (p_pickf rfl rfl hg34 rfl) rfl ?_
                  refine o_nil ?_
                  exact s_joinN 7 124 _ rfl rfl rfl (fun w h => by first | exact h | exact h.ent aEt))
                (by
                  intro hg36
                  have hs37 := hg36; try simp only [Bool.not_eq_true', decide_eq_false_iff_not] at hs37
                  refine o_off 117 _ rfl rfl hg36 rfl ?_
                  refine o_off 117 _ rfl rfl hg36 rfl ?_
                  refine o_off 117 _ rfl rfl hg36 rfl ?_
                  refine o_off 117 _ rfl rfl hg36 rfl ?_
                  refine o_off 117 _ rfl rfl hg36 rfl ?_
                  refine o_off 117 _ rfl rfl hg36 rfl ?_
                  refine o_on 114 _ rfl rfl hg32 ?_
                  refine o_p (p_pickt rfl rfl hg36 rfl) rfl ?_
                  refine o_nil ?_
                  exact s_joinN 7 124 _ rfl rfl rfl (fun w h => by first | exact h | exact h.ent aEt)) ?_
              refine o_p (p_pickt rfl rfl hg32 rfl) rfl ?_
              refine o_nil ?_
              exact s_joinN 5 125 _ rfl rfl rfl (fun w h => by first | exact h | exact h.ent aEt))
            (by
              intro hg38
              have hs39 := hg38; try simp only [decide_eq_false_iff_not] at hs39
              refine o_off 114 _ rfl rfl hg38 rfl ?_
              refine o_off 114 _ rfl rfl hg38 rfl ?_
              refine o_off 114 _ rfl rfl hg38 rfl ?_
              refine o_off' 117 rfl rfl rfl ?_
              refine o_off' 117 rfl rfl rfl ?_
              refine o_off' 117 rfl rfl rfl ?_
              refine o_off' 117 rfl rfl rfl ?_
              refine o_off' 117 rfl rfl rfl ?_
              refine o_off' 117 rfl rfl rfl ?_
              refine o_off 114 _ rfl rfl hg38 rfl ?_
              refine o_p (p_pickf rfl rfl hg38 rfl) rfl ?_
              refine o_nil ?_
              exact s_joinN 11 125 _ rfl rfl rfl (fun w h => by first | exact h | exact h.ent aEt)) ?_
          refine oP ?_
          refine o_or 12 126 138 _ _ rfl
            (by
              intro hg40
              have hs41 := hg40; try simp only [Bool.and_eq_false_iff, decide_eq_false_iff_not, Bool.or_eq_false_iff, Bool.not_eq_false', decide_eq_true_eq] at hs41
              refine o_on 126 _ rfl rfl hg40 ?_
              refine oP ?_
              refine o_on 126 _ rfl rfl hg40 ?_
              refine oP ?_
              refine o_on 126 _ rfl rfl hg40 ?_
              refine oP ?_
              refine o_and 8 129 137 _ _ rfl
                (by
                  intro hg42
                  have hs43 := hg42; try simp only [Bool.not_eq_true', decide_eq_false_iff_not] at hs43
                  refine o_on 129 _ rfl rfl hg42 ?_
                  refine oP ?_
                  refine o_on 129 _ rfl rfl hg42 ?_
                  refine oP ?_
                  refine o_on 129 _ rfl rfl hg42 ?_
                  refine oP ?_
                  refine o_on 129 _ rfl rfl hg42 ?_
                  refine oP ?_
                  refine o_or 3 133 136 _ _ rfl
                    (by
                      intro hg44
                      have hs45 := hg44; try simp only [Bool.not_eq_false', decide_eq_true_eq] at hs45
                      refine o_on 133 _ rfl rfl hg44 ?_
                      refine oP ?_
                      refine o_on 133 _ rfl rfl hg44 ?_
                      refine oP ?_
                      refine o_on 129 _ rfl rfl hg42 ?_
                      refine o_p (p_pickf rfl rfl hg44 rfl) rfl ?_
                      refine o_nil ?_
                      exact s_joinN 3 136 _ rfl rfl rfl (fun w h => by first | exact h | exact h.ent aEt))
                    (by
                      intro hg46
                      have hs47 := hg46; try simp only [Bool.not_eq_true', decide_eq_false_iff_not] at hs47
                      refine o_off 133 _ rfl rfl hg46 rfl ?_
                      refine o_off 133 _ rfl rfl hg46 rfl ?_
                      refine o_on 129 _ rfl rfl hg42 ?_
                      refine o_p (p_pickt rfl rfl hg46 rfl) rfl ?_
                      refine o_nil ?_
                      exact s_joinN 3 136 _ rfl rfl rfl (fun w h => by first | exact h | exact h.ent aEt)) ?_
                  refine o_on 126 _ rfl rfl hg40 ?_
                  refine o_p (p_pickt rfl rfl hg42 rfl) rfl ?_
                  refine o_nil ?_
                  exact s_joinN 6 137 _ rfl rfl rfl (fun w h => by first | exact h | exact h.ent aEt))
                (by
                  intro hg48
                  have hs49 := hg48; try simp only [Bool.not_eq_false', decide_eq_true_eq] at hs49
                  refine o_off 129 _ rfl rfl hg48 rfl ?_
                  refine o_off 129 _ rfl rfl hg48 rfl ?_
                  refine o_off 129 _ rfl rfl hg48 rfl ?_
                  refine o_off 129 _ rfl rfl hg48 rfl ?_
                  refine o_off' 133 rfl rfl rfl ?_
                  refine o_off' 133 rfl rfl rfl ?_
                  refine o_off 129 _ rfl rfl hg48 rfl ?_
                  refine o_on 126 _ rfl rfl hg40 ?_
                  refine o_p (p_pickf rfl rfl hg48 rfl) rfl ?_
                  refine o_nil ?_
                  exact s_joinN 8 137 _ rfl rfl rfl (fun w h => by first | exact h | exact h.ent aEt)) ?_
              refine o_p (p_pickf rfl rfl hg40 rfl) rfl ?_
              refine o_nil ?_
              exact s_joinN 5 138 _ rfl rfl rfl (fun w h => by first | exact h | exact h.ent aEt))
            (by
              intro hg50
              have hs51 := hg50; try simp only [Bool.and_eq_true, decide_eq_true_eq, Bool.or_eq_true, Bool.not_eq_true', decide_eq_false_iff_not] at hs51
              refine o_off 126 _ rfl rfl hg50 rfl ?_
              refine o_off 126 _ rfl rfl hg50 rfl ?_
              refine o_off 126 _ rfl rfl hg50 rfl ?_
              refine o_off' 129 rfl rfl rfl ?_
              refine o_off' 129 rfl rfl rfl ?_
              refine o_off' 129 rfl rfl rfl ?_
              refine o_off' 129 rfl rfl rfl ?_
              refine o_off' 133 rfl rfl rfl ?_
              refine o_off' 133 rfl rfl rfl ?_
              refine o_off' 129 rfl rfl rfl ?_
              refine o_off 126 _ rfl rfl hg50 rfl ?_
              refine o_p (p_pickt rfl rfl hg50 rfl) rfl ?_
              refine o_nil ?_
              exact s_joinN 12 138 _ rfl rfl rfl (fun w h => by first | exact h | exact h.ent aEt)) ?_
          refine o_nil ?_
          refine s_cond rfl (fun h52 => ?_) (fun h52 => ?_)
          · try simp only [Bool.or_eq_true, Bool.and_eq_true, decide_eq_true_eq, Bool.not_eq_true', decide_eq_false_iff_not] at h52
            exfalso; by_cases hA : openE t [x0] = 0 <;> simp_all
          · try simp only [Bool.or_eq_false_iff, Bool.and_eq_false_iff, decide_eq_false_iff_not, Bool.not_eq_false', decide_eq_true_eq] at h52
            refine s_skip ?_
            refine s_seq ?_
            refine s_seq ?_
            refine s_weaken (L' := [(0, _), (5, _), (6, _), (7, _), (8, _), (9, _), (10, _), (17, _)]) aSx (fun _ h => h) ?_
            refine s_region ?_
            refine oP ?_
            refine oP ?_
            refine o_nil ?_
            refine s_cond rfl (fun h53 => ?_) (fun h53 => ?_)
            · try simp only [Bool.not_eq_true', decide_eq_false_iff_not] at h53
              have hb9 : ¬ openE t [x0, x1] = 0 := h53
              refine s_seq ?_
              refine s_region ?_
              refine oP ?_
              refine oP ?_
              refine oP ?_
              refine oP ?_
              refine o_and 4 144 148 _ _ rfl
                (by
                  intro hg54
                  have hs55 := hg54; try simp only [decide_eq_true_eq] at hs55
                  refine o_on 144 _ rfl rfl hg54 ?_
                  refine oP ?_
                  refine o_on 144 _ rfl rfl hg54 ?_
                  refine oP ?_
                  refine o_on 144 _ rfl rfl hg54 ?_
                  refine oP ?_
                  refine o_p (p_pickt rfl rfl hg54 rfl) rfl ?_
                  refine o_nil ?_
                  exact s_joinN 4 148 _ rfl rfl rfl (fun w h => by first | exact h | exact h.ent aEt))
                (by
                  intro hg56
                  have hs57 := hg56; try simp only [decide_eq_false_iff_not] at hs57
                  refine o_off 144 _ rfl rfl hg56 rfl ?_
                  refine o_off 144 _ rfl rfl hg56 rfl ?_
                  refine o_off 144 _ rfl rfl hg56 rfl ?_
                  refine o_p (p_pickf rfl rfl hg56 rfl) rfl ?_
                  refine o_nil ?_
                  exact s_joinN 4 148 _ rfl rfl rfl (fun w h => by first | exact h | exact h.ent aEt)) ?_
              refine oP ?_
              refine o_and 3 149 152 _ _ rfl
                (by
                  intro hg58
                  have hs59 := hg58; try simp only [Bool.and_eq_true, decide_eq_true_eq] at hs59
                  refine o_on 149 _ rfl rfl hg58 ?_
                  refine oP ?_
                  refine o_on 149 _ rfl rfl hg58 ?_
                  refine oP ?_
                  refine o_p (p_pickt rfl rfl hg58 rfl) rfl ?_
                  refine o_nil ?_
                  exact s_joinN 3 152 _ rfl rfl rfl (fun w h => by first | exact h | exact h.ent aEt))
                (by
                  intro hg60
                  have hs61 := hg60; try simp only [Bool.and_eq_false_iff, decide_eq_false_iff_not] at hs61
                  refine o_off 149 _ rfl rfl hg60 rfl ?_
                  refine o_off 149 _ rfl rfl hg60 rfl ?_
                  refine o_p (p_pickf rfl rfl hg60 rfl) rfl ?_
                  refine o_nil ?_
                  exact s_joinN 3 152 _ rfl rfl rfl (fun w h => by first | exact h | exact h.ent aEt)) ?_
              refine oP ?_
              refine o_and 3 153 156 _ _ rfl
                (by
                  intro hg62
                  have hs63 := hg62; try simp only [Bool.and_eq_true, decide_eq_true_eq] at hs63
                  refine o_on 153 _ rfl rfl hg62 ?_
                  refine oP ?_
                  refine o_on 153 _ rfl rfl hg62 ?_
                  refine oP ?_
                  refine o_p (p_pickt rfl rfl hg62 rfl) rfl ?_
                  refine o_nil ?_
                  exact s_joinN 3 156 _ rfl rfl rfl (fun w h => by first | exact h | exact h.ent aEt))
                (by
                  intro hg64
                  have hs65 := hg64; try simp only [Bool.and_eq_false_iff, decide_eq_false_iff_not] at hs65
                  refine o_off 153 _ rfl rfl hg64 rfl ?_
                  refine o_off 153 _ rfl rfl hg64 rfl ?_
                  refine o_p (p_pickf rfl rfl hg64 rfl) rfl ?_
                  refine o_nil ?_
                  exact s_joinN 3 156 _ rfl rfl rfl (fun w h => by first | exact h | exact h.ent aEt)) ?_
              refine oP ?_
              refine o_nil ?_
              exact s_retv (rs := [.tmp 6]) rfl (.tmp rfl (.nil)) (fun w' h' => ⟨by rw [if_neg hb9, if_neg hb9]; simp [retV], h'.below⟩)
            · try simp only [Bool.not_eq_false', decide_eq_true_eq] at h53
              have hb9 : openE t [x0, x1] = 0 := by have hq := h53; omega
              refine s_skip ?_
              refine s_seq ?_
              refine s_region ?_
              refine oP ?_
              refine oP ?_
              refine oP ?_
              refine o_and 9 159 168 _ _ rfl
                (by
                  intro hg66
                  have hs67 := hg66; try simp only [decide_eq_true_eq] at hs67
                  refine o_on 159 _ rfl rfl hg66 ?_
                  refine oP ?_
                  refine o_on 159 _ rfl rfl hg66 ?_
                  refine oP ?_
                  refine o_on 159 _ rfl rfl hg66 ?_
                  refine o_p (p_indexAddr_arr rfl rfl rfl ar_65 (0) (by omega) (by omega)) rfl ?_
                  refine o_on 159 _ rfl rfl hg66 ?_
                  refine o_q (q_load rfl rfl sz_9 aPk rfl) rfl ?_
                  refine o_on 159 _ rfl rfl hg66 ?_
                  refine o_p (p_indexAddr_arr rfl rfl rfl ar_65 (1) (by omega) (by omega)) rfl ?_
                  refine o_on 159 _ rfl rfl hg66 ?_
                  refine o_q (q_load rfl rfl sz_9 aPk rfl) rfl ?_
                  refine o_on 159 _ rfl rfl hg66 ?_
                  refine o_q (q_call rfl fn_47 rfl (fun w1 h1 => by have ho := openE_ok hb9; have hT := ho.1; have n0 := ho.2 x0 (by simp); have n1 := ho.2 x1 (by simp); exact c47 w1 t x0 x1 (chkTab_ok hT).1 (nameE_lt n0) (nameE_lt n1) (by omega) (by omega))) rfl ?_
                  refine o_on 159 _ rfl rfl hg66 ?_
                  refine oP ?_
                  refine o_p (p_pickt rfl rfl hg66 rfl) rfl ?_
                  refine o_nil ?_
                  exact s_joinN 9 168 _ rfl rfl rfl (fun w h => by first | exact h | exact h.ent aEt))
                (by
                  intro hg68
                  have hs69 := hg68; try simp only [decide_eq_false_iff_not] at hs69
                  refine o_off 159 _ rfl rfl hg68 rfl ?_
                  refine o_off 159 _ rfl rfl hg68 rfl ?_
                  refine o_off 159 _ rfl rfl hg68 rfl ?_
                  refine o_off 159 _ rfl rfl hg68 rfl ?_
                  refine o_off 159 _ rfl rfl hg68 rfl ?_
                  refine o_off 159 _ rfl rfl hg68 rfl ?_
                  refine o_off 159 _ rfl rfl hg68 rfl ?_
                  refine o_off 159 _ rfl rfl hg68 rfl ?_
                  refine o_p (p_pickf rfl rfl hg68 rfl) rfl ?_
                  refine o_nil ?_
                  exact s_joinN 9 168 _ rfl rfl rfl (fun w h => by first | exact h | exact h.ent aEt)) ?_
              refine oP ?_
              refine o_and 3 169 172 _ _ rfl
                (by
                  intro hg70
                  have hs71 := hg70; try simp only [Bool.and_eq_true, decide_eq_true_eq] at hs71
                  refine o_on 169 _ rfl rfl hg70 ?_
                  refine oP ?_
                  refine o_on 169 _ rfl rfl hg70 ?_
                  refine oP ?_
                  refine o_p (p_pickt rfl rfl hg70 rfl) rfl ?_
                  refine o_nil ?_
                  exact s_joinN 3 172 _ rfl rfl rfl (fun w h => by first | exact h | exact h.ent aEt))
                (by
                  intro hg72
                  have hs73 := hg72; try simp only [Bool.and_eq_false_iff, decide_eq_false_iff_not] at hs73
                  refine o_off 169 _ rfl rfl hg72 rfl ?_
                  refine o_off 169 _ rfl rfl hg72 rfl ?_
                  refine o_p (p_pickf rfl rfl hg72 rfl) rfl ?_
                  refine o_nil ?_
                  exact s_joinN 3 172 _ rfl rfl rfl (fun w h => by first | exact h | exact h.ent aEt)) ?_
              refine oP ?_
              refine o_and 9 173 182 _ _ rfl
                (by
                  intro hg74
                  have hs75 := hg74; try simp only [Bool.and_eq_true, decide_eq_true_eq] at hs75
                  refine o_on 173 _ rfl rfl hg74 ?_
                  refine oP ?_
                  refine o_on 173 _ rfl rfl hg74 ?_
                  refine oP ?_
                  refine o_on 173 _ rfl rfl hg74 ?_
                  refine o_p (p_indexAddr_arr rfl rfl rfl ar_65 (0) (by omega) (by omega)) rfl ?_
                  refine o_on 173 _ rfl rfl hg74 ?_
                  refine o_q (q_load rfl rfl sz_9 aPk rfl) rfl ?_
                  refine o_on 173 _ rfl rfl hg74 ?_
                  refine o_p (p_indexAddr_arr rfl rfl rfl ar_65 (1) (by omega) (by omega)) rfl ?_
                  refine o_on 173 _ rfl rfl hg74 ?_
                  refine o_q (q_load rfl rfl sz_9 aPk rfl) rfl ?_
                  refine o_on 173 _ rfl rfl hg74 ?_
                  refine o_q (q_call rfl fn_48 rfl (fun w1 h1 => by have ho := openE_ok hb9; have hT := ho.1; have n0 := ho.2 x0 (by simp); have n1 := ho.2 x1 (by simp); exact c48 w1 t x0 x1 (chkTab_ok hT).1 (nameE_lt n0) (nameE_lt n1) (by omega) (by omega))) rfl ?_
                  refine o_on 173 _ rfl rfl hg74 ?_
                  refine o_p (p_eql_bool rfl rfl rfl Tryd.underlying4) rfl ?_
                  refine o_p (p_pickt rfl rfl hg74 rfl) rfl ?_
                  refine o_nil ?_
                  exact s_joinN 9 182 _ rfl rfl rfl (fun w h => by first | exact h | exact h.ent aEt))
                (by
                  intro hg76
                  have hs77 := hg76; try simp only [Bool.and_eq_false_iff, decide_eq_false_iff_not] at hs77
                  refine o_off 173 _ rfl rfl hg76 rfl ?_
                  refine o_off 173 _ rfl rfl hg76 rfl ?_
                  refine o_off 173 _ rfl rfl hg76 rfl ?_
                  refine o_off 173 _ rfl rfl hg76 rfl ?_
                  refine o_off 173 _ rfl rfl hg76 rfl ?_
                  refine o_off 173 _ rfl rfl hg76 rfl ?_
                  refine o_off 173 _ rfl rfl hg76 rfl ?_
                  refine o_off 173 _ rfl rfl hg76 rfl ?_
                  refine o_p (p_pickf rfl rfl hg76 rfl) rfl ?_
                  refine o_nil ?_
                  exact s_joinN 9 182 _ rfl rfl rfl (fun w h => by first | exact h | exact h.ent aEt)) ?_
              refine oP ?_
              refine o_nil ?_
              exact s_retv (rs := [.tmp 6]) rfl (.tmp rfl (.nil)) (fun w' h' => ⟨by rw [if_pos hb9, if_pos hb9, hb9]; simp [retV], h'.below⟩)

end Go.Proofs

