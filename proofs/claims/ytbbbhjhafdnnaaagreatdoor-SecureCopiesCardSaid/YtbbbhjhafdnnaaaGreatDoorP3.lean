/- Contracts of the program's functions, proved by walking them with the rules of the Gx texts; without conditions beyond those that each contract names. -/
import Derived.WalkKit
import Derived.Deep.Draws
import Derived.TacticsIn
import Derived.OrdersIn
import Derived.RangeFuncLeaves
import Derived.Lib.Strings
import Derived.Laws.BytesArg
import Derived.Laws.IdiomStrings
import Derived.Deep.Quiet
import Derived.Laws.StructEq
import Derived.ChangeKeysEq
import Derived.Laws.Externs
import Derived.Lib.Overlaps
import Derived.Carry
import Derived.Laws.Small
import Derived.Lib.Bytealg
import Derived.Test.YtbbbhjhafdnnaaaGreatDoorProg
import Derived.KernelRfl
import Derived.RangeFuncRecord
import Derived.ProofKit
import Derived.OpenShut
import Derived.Lib.Builder
import Derived.Lib.UnsafeStr
import Derived.Laws.Pointers
import Derived.LaidEqlPtr
import Derived.Shelf.Strings.Builder1
import Derived.Shelf.Strings.Builder2
import Derived.Shelf.Small.Utf8
import Derived.Shelf.Small.Strs
import Derived.Shelf.Strings.BuilderF
import Derived.Shelf.Strings.Search1
import Derived.Shelf.Strings.Prefix
import Derived.Shelf.Unicode.Decode
import Derived.Shelf.Strings.Runes
import Derived.Shelf.Strings.AsciiSet
import Derived.Shelf.Bits.Mul64
import Derived.Shelf.Strings.Repeat
import Derived.Shelf.Unicode.DecodeSlow
import Derived.Shelf.Unicode.DecodeAny
import Derived.Shelf.Unicode.DecodeLast
import Derived.Test.YtbbbhjhafdnnaaaGreatDoorTie
import Derived.Test.YtbbbhjhafdnnaaaGreatDoorCards
import Derived.SevenTiedAt
import Derived.LaidMore
import Derived.Lay
import Derived.Stop.Joined
import Derived.Test.YtbbbhjhafdnnaaaGreatDoorP2
/- Chapter 18: the second copy of a stream (plain data). -/
namespace Gx
open Go
set_option linter.unusedVariables false
set_option linter.unusedSimpArgs false
structure Byt where
  at_ : Int
  v : Int
deriving Inhabited
def Byt.vals (x : Byt) : List Value := [.int .i64 x.at_, .int .i64 x.v]
theorem same_one {x y : SItm} (h : x.id = y.id ∧ (bs x.by_).data.toList = (bs y.by_).data.toList ∧ True) : x = y := by
  obtain ⟨h1, h2, _⟩ := h
  rw [bs_data, bs_data] at h2
  cases x
  cases y
  simp_all
theorem same_ext {l l2 : List SItm} (h : l.length = l2.length) (hj : ∀ j, j < l.length → nth l j = nth l2 j) : l = l2 := by
  refine List.ext_getElem h fun i h1 h2 => ?_
  have h9 := hj i h1
  unfold nth at h9
  rwa [List.getD_eq_getElem?_getD, List.getD_eq_getElem?_getD, List.getElem?_eq_getElem h1, List.getElem?_eq_getElem h2] at h9
def offS (b : Bool) : Nat := if b then 8192 else 0
/-- B is A but for places of [o, o + n). -/
def AgrB (o n : Nat) (A B : List UInt8) : Prop := B.length = A.length ∧ ∀ q, (q < o ∨ o + n ≤ q) → B[q]? = A[q]?
theorem agr_refl (o n : Nat) (A : List UInt8) : AgrB o n A A := ⟨rfl, fun _ _ => rfl⟩
def pat1 (l : List UInt8) (p : Nat) (v : UInt8) : List UInt8 := l.take p ++ [v] ++ l.drop (p + 1)
theorem agr_pat {o n : Nat} {A B : List UInt8} (h : AgrB o n A B) {p : Nat} (v : UInt8) (h1 : o ≤ p) (h2 : p < o + n) (h3 : p < A.length) : AgrB o n A (pat1 B p v) := by
  obtain ⟨hl, hq⟩ := h
  have h4 : (B.take p ++ [v]).length = p + 1 := by rw [List.length_append, List.length_take, List.length_singleton]; omega
  refine ⟨?_, fun q hh => ?_⟩
  · unfold pat1
    rw [List.length_append, h4, List.length_drop]
    omega
  · rw [← hq q hh]
    unfold pat1
    rcases Nat.lt_or_ge q p with h5 | h5
    · rw [List.append_assoc, List.getElem?_append_left (by rw [List.length_take]; omega), List.getElem?_take_of_lt h5]
    · have h6 : p + 1 ≤ q := by omega
      rw [List.getElem?_append_right (by omega), h4, List.getElem?_drop, show p + 1 + (q - (p + 1)) = q by omega]
theorem agr_take {o n : Nat} {A B : List UInt8} (h : AgrB o n A B) {k : Nat} (hk : k ≤ o) : B.take k = A.take k := by
  apply List.ext_getElem?
  intro q
  rw [List.getElem?_take, List.getElem?_take]
  split
  · exact h.2 q (Or.inl (by omega))
  · rfl
section
variable {nx : Int} {l : List SItm}
theorem h1_str (hst : (stoE nx l).2 = 0) : h1S (streamS nx l) = halfS nx l := by
  have hsl := (str_le hst).1
  unfold h1S
  rw [hsl, show 8192 + (halfS nx l).length - 8192 = (halfS nx l).length by omega]
  unfold streamS
  rw [List.append_assoc, List.take_left' rfl]
theorem strE_agr (hst : (stoE nx l).2 = 0) (hb : ∀ x ∈ l, x.by_.length ≤ 100000) {B : List UInt8} (hB : B.length = (streamS nx l).length) : strE B = 0 := by
  obtain ⟨h1, h2, h3, h4⟩ := sto_ok hst
  have hple := pls_le' hb
  have hhl := halfS_len nx l
  have hmod := pls_mod' l
  have hsl := (str_le hst).1
  unfold strE
  rw [hB, hsl, if_pos (by omega)]
/-- The second half changed: the first is read. -/
theorem in_back2 (hst : (stoE nx l).2 = 0) (hb : ∀ x ∈ l, x.by_.length ≤ 100000) {B : List UInt8} (hA : AgrB 8192 (halfS nx l).length (streamS nx l) B) : inS B = ⟨nx, l, [], 0⟩ := by
  have hmod := pls_mod' l
  obtain ⟨hsl, hsh⟩ := str_le hst
  obtain ⟨hh1, hh2, hh3⟩ := half_head hst hb
  have e0 : strE B = 0 := strE_agr hst hb hA.1
  have e1 : h1S B = halfS nx l := by
    rw [← h1_str hst]
    unfold h1S
    rw [hA.1, hsl]
    exact agr_take hA (by omega)
  rw [inS_1 e0 (by rw [e1]; exact hh1), e1]
  have hI := inL_back hst hb (h2S B) (halfS nx l).length 0 16 (Nat.zero_le _) rfl (by omega)
  rw [List.take_zero] at hI
  rw [inB_ok hh3 hI (by rw [hh2]; exact hst), hh2]
theorem itA_in (hst : (stoE nx l).2 = 0) {k : Nat} (hk : k < l.length) (hb : (nth l k).by_.length ≤ 100000) {g u r : List UInt8} (hg : g = u ++ (itmS l k ++ r)) (hp : (u.length : Int) = (plsI (l.take k)).2) (hp9 : (u.length : Int) ≤ 8192) : itA g u.length = ⟨nth l k, ilen (nth l k), true⟩ := by
  obtain ⟨h1, h2, h3, h4⟩ := sto_ok hst
  have hid := (itm_rng (h3 k hk)).1
  have hha := hashS_le (nth l k).by_
  have hu := upT_le (ilen (nth l k))
  have hil : ilen (nth l k) = 16 + ((nth l k).by_.length : Int) := rfl
  have hpad : upT (ilen (nth l k)) = ilen (nth l k) + ((padN (ilen (nth l k)) : Nat) : Int) := by unfold padN; omega
  have hgl : (g.length : Int) = u.length + upT (ilen (nth l k)) + r.length := by
    have h9 := itmS_len l k
    rw [← hil] at h9
    rw [hg, List.length_append, List.length_append]
    omega
  have hB : g = u ++ (le4 (hashS (nth l k).by_) ++ (le4 (nth l k).id ++ (le4 (plsI (l.take k)).2 ++ (le4 (ilen (nth l k)) ++ ((nth l k).by_ ++ (List.replicate (padN (ilen (nth l k))) 0 ++ r)))))) := by
    rw [hg]; unfold itmS nmB
    simp only [List.flatMap_cons, List.flatMap_nil, List.append_nil, List.append_assoc]
  have a0 : at4 g u.length = hashS (nth l k).by_ := by
    rw [hB]; exact at4_u _ (by omega)
  have a4 : at4 g (u.length + 4) = (nth l k).id := by
    rw [hB, at4_app]
    exact at4_u (u := le4 _) _ (by omega)
  have a8 : at4 g (u.length + 8) = u.length := by
    rw [hB, at4_app, ← List.append_assoc]
    rw [show (8 : Nat) = (le4 (hashS (nth l k).by_) ++ le4 (nth l k).id).length from rfl, at4_u _ (by omega)]
    omega
  have a12 : at4 g (u.length + 12) = ilen (nth l k) := by
    rw [hB, at4_app, ← List.append_assoc, ← List.append_assoc]
    rw [show (12 : Nat) = (le4 (hashS (nth l k).by_) ++ le4 (nth l k).id ++ le4 (plsI (l.take k)).2).length from rfl, at4_u _ (by omega)]
  have hd16 : g.drop (u.length + 16) = (nth l k).by_ ++ (List.replicate (padN (ilen (nth l k))) 0 ++ r) := by
    rw [hB, ← List.drop_drop, List.drop_left' rfl]
    rfl
  have hbody : bodyI g u.length = (nth l k).by_ := by
    unfold bodyI
    rw [a12, hd16, show (ilen (nth l k)).toNat - 16 = (nth l k).by_.length by omega, List.take_left' rfl]
  have hpadI : padI g u.length = List.replicate (padN (ilen (nth l k))) 0 := by
    unfold padI
    rw [a12, show u.length + (ilen (nth l k)).toNat = u.length + 16 + (nth l k).by_.length by omega, ← List.drop_drop, hd16, List.drop_left' rfl, List.take_left' (by simp)]
  have hshp : shpI g u.length = true := by
    unfold shpI
    rw [a8, a12, decide_eq_true (show (u.length : Int) + 16 ≤ _ from by omega), decide_eq_true (show (u.length : Int) = u.length from rfl), decide_eq_true (show (16 : Int) ≤ ilen (nth l k) from by omega), decide_eq_true (show (u.length : Int) + upT (ilen (nth l k)) ≤ _ from by omega)]
    rfl
  unfold itA
  rw [if_pos hshp, hbody, hpadI, a0, a4, a12, allZ_rep]
  simp
end
theorem itA_il {h : List UInt8} {p : Nat} (ho : (itA h p).ok = true) : ilen (itA h p).x = (itA h p).n := by
  have hs := itA_ok ho
  obtain ⟨h1, h2, h3, h4⟩ := shpI_ok hs
  have hu := upT_le (at4 h (p + 12))
  unfold itA
  rw [if_pos hs]
  show 16 + ((bodyI h p).length : Int) = at4 h (p + 12)
  unfold bodyI
  rw [List.length_take, List.length_drop]
  omega
theorem pls_snoc (l0 : List SItm) (x : SItm) : (plsI (l0 ++ [x])).2 = (plsI l0).2 + upT (ilen x) := by
  unfold plsI
  rw [List.foldl_append]
  rfl
theorem inL_dam {g h : List UInt8} : ∀ (f p : Nat) (l0 : List SItm) (dm0 : List Int) (l' : List SItm) (dm' : List Int), inL g h f p l0 dm0 = some (l', dm') → (p : Int) = (plsI l0).2 →
    (∃ r, l' = l0 ++ r) ∧ ∀ d ∈ dm', d ∈ dm0 ∨ ∃ k : Nat, d = (k : Int) ∧ k < l'.length ∧ ¬ (itA g (plsI (l'.take k)).2.toNat).ok = true
  | 0, p, l0, dm0, l', dm', e, hp => by
    rw [inL] at e
    cases e
    exact ⟨⟨[], by simp⟩, fun d hd => Or.inl hd⟩
  | f + 1, p, l0, dm0, l', dm', e, hp => by
    by_cases h1 : p < g.length
    · by_cases h2 : (itA g p).ok = true
      · rw [inL_1 h1 h2] at e
        have hn := itA_n h2
        have hu := upT_le (itA g p).n
        obtain ⟨⟨r, hr⟩, h4⟩ := inL_dam f _ _ _ _ _ e (by rw [pls_snoc, itA_il h2, ← hp]; omega)
        exact ⟨⟨_, by rw [hr, List.append_assoc]⟩, h4⟩
      · by_cases h3 : (itA h p).ok = true
        · rw [inL_2 h1 h2 h3] at e
          have hn := itA_n h3
          have hu := upT_le (itA h p).n
          obtain ⟨⟨r, hr⟩, h4⟩ := inL_dam f _ _ _ _ _ e (by rw [pls_snoc, itA_il h3, ← hp]; omega)
          refine ⟨⟨_, by rw [hr, List.append_assoc]⟩, fun d hd => ?_⟩
          rcases h4 d hd with h5 | h5
          · rcases List.mem_append.1 h5 with h6 | h6
            · exact Or.inl h6
            · rw [List.mem_singleton] at h6
              refine Or.inr ⟨l0.length, h6, ?_, ?_⟩
              · rw [hr, List.length_append, List.length_append]
                simp only [List.length_cons, List.length_nil]
                omega
              · rw [hr, List.append_assoc, List.take_left' rfl, ← hp]
                exact h2
          · exact Or.inr h5
        · rw [inL_3 h1 h2 h3] at e
          cases e
    · rw [inL_end h1] at e
      cases e
      exact ⟨⟨[], by simp⟩, fun d hd => Or.inl hd⟩
section
variable {nx : Int} {l : List SItm}
theorem isHd_take {g g' : List UInt8} (h : g.take 16 = g'.take 16) (h1 : 16 ≤ g.length) (h2 : 16 ≤ g'.length) : isHd g = isHd g' := by
  have e4 : g.take 4 = g'.take 4 := by
    have := congrArg (List.take 4) h
    rwa [List.take_take, List.take_take] at this
  have e12 : g.take 12 = g'.take 12 := by
    have := congrArg (List.take 12) h
    rwa [List.take_take, List.take_take] at this
  have ea : at4 g 12 = at4 g' 12 := by
    have hx : ∀ i, i < 16 → g.getD i 0 = g'.getD i 0 := fun i hi => by
      have := congrArg (fun z : List UInt8 => z[i]?) h
      simp only [List.getElem?_take_of_lt hi] at this
      rw [List.getD_eq_getElem?_getD, List.getD_eq_getElem?_getD, this]
    unfold at4 at2 at1
    rw [hx _ (by omega), hx _ (by omega), hx _ (by omega), hx _ (by omega)]
  unfold isHd
  rw [e4, e12, ea]
theorem h1_len {B : List UInt8} {n : Nat} (h : B.length = 8192 + n) : (h1S B).length = n := by
  unfold h1S
  rw [List.length_take]
  omega
theorem h1_take {B : List UInt8} {n k : Nat} (h : B.length = 8192 + n) (hk : k ≤ n) : (h1S B).take k = B.take k := by
  unfold h1S
  rw [List.take_take, Nat.min_eq_left (by omega)]
/-- What is named as damaged is not as it was. -/
theorem in_dam (hst : (stoE nx l).2 = 0) (hb : ∀ x ∈ l, x.by_.length ≤ 100000) {B : List UInt8} {dm : List Int} (hl : B.length = (streamS nx l).length) (hi : inS B = ⟨nx, l, dm, 0⟩) {d : Int} (hd : d ∈ dm) :
    (d = -1 ∧ ¬ B.take 16 = (streamS nx l).take 16) ∨ ∃ k : Nat, d = (k : Int) ∧ k < l.length ∧ ∀ p e : Nat, (p : Int) = (plsI (l.take k)).2 → p + (16 + (nth l k).by_.length + 15) = e → ¬ (B.take (min e B.length)).drop p = ((streamS nx l).take (min e (streamS nx l).length)).drop p := by
  obtain ⟨s1, s2, s3, s4⟩ := sto_ok hst
  have hple := pls_le' hb
  have hhl := halfS_len nx l
  have hmod := pls_mod' l
  obtain ⟨hsl, hsh⟩ := str_le hst
  obtain ⟨hh1, hh2, hh3⟩ := half_head hst hb
  have e0 : strE B = 0 := strE_agr hst hb hl
  have eA := h1_str hst
  have lB : (h1S B).length = (halfS nx l).length := h1_len (hl.trans hsl)
  have tB : ∀ k, k ≤ (halfS nx l).length → (h1S B).take k = B.take k := fun k hk => h1_take (hl.trans hsl) hk
  have tA : ∀ k, k ≤ (halfS nx l).length → (halfS nx l).take k = (streamS nx l).take k := fun k hk => by
    have := h1_take hsl hk
    rwa [eA] at this
  -- the head, and the items
  obtain ⟨dm0, hd0, hdm0⟩ : ∃ dm0 hd9, inS B = inB (h1S B) (h2S B) hd9 dm0 ∧ ∀ x ∈ dm0, x = -1 ∧ ¬ isHd (h1S B) = true := by
    by_cases g1 : isHd (h1S B) = true
    · exact ⟨[], _, inS_1 e0 g1, fun x hx => by cases hx⟩
    · by_cases g2 : isHd (h2S B) = true
      · exact ⟨[-1], _, inS_2 e0 g1 g2, fun x hx => by rw [List.mem_singleton] at hx; exact ⟨hx, g1⟩⟩
      · rw [inS_3 e0 g1 g2] at hi
        cases hi
  obtain ⟨hI, hm⟩ := hdm0
  rw [hi] at hI
  have hL : inL (h1S B) (h2S B) (h1S B).length 16 [] dm0 = some (l, dm) := by
    by_cases g1 : at4 hd0 8 = (h1S B).length
    · cases e : inL (h1S B) (h2S B) (h1S B).length 16 [] dm0 with
      | none =>
        rw [inB_none g1 e] at hI
        cases hI
      | some y =>
        obtain ⟨y1, y2⟩ := y
        by_cases g2 : (stoE (at4 hd0 4) y1).2 = 0
        · rw [inB_ok g1 e g2] at hI
          cases hI
          rfl
        · rw [inB_bad g1 e g2] at hI
          unfold inE at hI
          have := congrArg InR.e hI
          exact absurd this.symm g2
    · rw [inB_form g1] at hI
      cases hI
  obtain ⟨_, hD⟩ := inL_dam _ 16 _ _ _ _ hL rfl
  rcases hD d hd with h5 | ⟨k, h5, h6, h7⟩
  · obtain ⟨h8, h9⟩ := hm d h5
    refine Or.inl ⟨h8, fun h10 => h9 ?_⟩
    rw [isHd_take (g' := halfS nx l) (by rw [tB _ (by omega), tA _ (by omega)]; exact h10) (by omega) (by omega)]
    exact hh1
  · refine Or.inr ⟨k, h5, h6, fun p e hp he h10 => h7 ?_⟩
    have hm9 := pls_mono hb l.length (Nat.le_refl _) (k + 1) (by omega)
    rw [List.take_length, pls_succ h6] at hm9
    simp only [] at hm9
    have hil : ilen (nth l k) = 16 + ((nth l k).by_.length : Int) := rfl
    have hu := upT_le (16 + ((nth l k).by_.length : Int))
    obtain ⟨r, hr⟩ := half_split nx l h6
    have hlen := halfK_len nx l k (Nat.le_of_lt h6)
    have hit := itmS_len l k
    -- the item's own bytes
    generalize hU : (itmS l k).length = u at hit
    have key : (B.drop p).take u = ((streamS nx l).drop p).take u := by
      rw [List.drop_take, List.drop_take, hl] at h10
      have q1 := congrArg (List.take u) h10
      rwa [List.take_take, List.take_take, Nat.min_eq_left (by omega)] at q1
    have hcut : ((h1S B).drop p).take u = itmS l k := by
      have q2 : ((h1S B).drop p).take u = (B.drop p).take u := by
        have q3 := congrArg (List.drop p) (tB (p + u) (by omega))
        rwa [List.drop_take, List.drop_take, show p + u - p = u by omega] at q3
      have q4 : ((halfS nx l).drop p).take u = ((streamS nx l).drop p).take u := by
        have q3 := congrArg (List.drop p) (tA (p + u) (by omega))
        rwa [List.drop_take, List.drop_take, show p + u - p = u by omega] at q3
      rw [q2, key, ← q4, hr, show p = (halfK nx l k).length by omega, List.drop_left' rfl, List.take_left' hU]
    have hg : h1S B = (h1S B).take p ++ (itmS l k ++ ((h1S B).drop p).drop u) := by
      rw [← hcut, List.take_append_drop, List.take_append_drop]
    have hpl : ((h1S B).take p).length = p := by rw [List.length_take]; omega
    have hh := itA_in hst h6 (hb _ (getD_mem h6)) hg (by rw [hpl]; exact hp) (by rw [hpl]; omega)
    rw [hpl] at hh
    rw [← hp, Int.toNat_natCast, hh]
end
theorem inR_ext {r : InR} {nx : Int} {l : List SItm} (h1 : r.nx = nx) (h2 : r.l = l) (h3 : r.e = 0) : r = ⟨nx, l, r.dm, 0⟩ := by
  cases r
  simp_all
end Gx

/- Chapter 18: arguments that read as stores, descriptors and numbers, as rows of plain data. -/
namespace Go.Proofs
open Go Go.RowKit Gx
set_option linter.unusedVariables false
set_option linter.unusedSimpArgs false
theorem rw_of {α : Type} [Inhabited α] {vals : α → List Value} {sz n : Nat} {W : World} {a : Option Addr} {cell : Nat → List Value} {Q : α → Prop} (hs : Sl W [] a sz n cell) (hr : ∀ i, i < n → ∃ x, cell i = vals x ∧ Q x) : ∃ l : List α, n = l.length ∧ Rw vals sz W [] a l ∧ (∀ x ∈ l, Q x) ∧ ∀ i, i < n → cell i = vals (nth l i) := by
  have hr2 : ∀ i, ∃ x, i < n → cell i = vals x ∧ Q x := fun i => by
    by_cases hi : i < n
    · obtain ⟨x, h⟩ := hr i hi
      exact ⟨x, fun _ => h⟩
    · exact ⟨default, fun h => absurd h hi⟩
  obtain ⟨f, hf⟩ := Classical.axiomOfChoice hr2
  have hg : ∀ i, i < n → nth ((List.range n).map f) i = f i := fun i hi => by
    simp only [nth, List.getD_eq_getElem?_getD, List.getElem?_map, List.getElem?_range hi, Option.map_some, Option.getD_some]
  refine ⟨(List.range n).map f, by simp, ⟨fun hn => ?_⟩, fun x hx => ?_, fun i hi => ?_⟩
  · rw [List.length_map, List.length_range] at hn
    obtain ⟨b, o, e, h2⟩ := hs.at_ hn
    refine ⟨b, o, e, fun i hi => ?_⟩
    rw [List.length_map, List.length_range] at hi
    have h3 := h2 i hi
    rw [(hf i hi).1] at h3
    rw [hg i hi]
    exact h3
  · obtain ⟨i, hi, rfl⟩ := List.mem_map.1 hx
    exact (hf i (List.mem_range.1 hi)).2
  · rw [hg i hi]
    exact (hf i hi).1
theorem zcells3 : Tryz.prog.cellsOf 3 = 1 := by kernel_rfl
theorem zcells9 : Tryz.prog.cellsOf 9 = 1 := by kernel_rfl
theorem zcells50 : Tryz.prog.cellsOf 50 = 2 := by kernel_rfl
section
variable {W : World} {d : Nat}
theorem ln2 {cs : List Value} (h : cs.length = 2) : ∃ x0 x1, cs = [x0, x1] := by
  match cs, h with
  | [x0, x1], _ => exact ⟨x0, x1, rfl⟩
theorem int_of {x : Value} (h : okT Tryz.prog W d 3 [x]) : ∃ n, x = .int .i64 n ∧ n ≤ 9223372036854775807 := by
  obtain ⟨n, e, g⟩ := okT_int h Tryz.underlying3
  cases e
  exact ⟨n, rfl, (wf_i64 g).2⟩
theorem str_of {x : Value} (h : okT Tryz.prog W d 9 [x]) : ∃ l : List UInt8, x = .string (bs l) ∧ l.length ≤ maxLen := by
  obtain ⟨l, e, g⟩ := okT_str h Tryz.underlying9
  cases e
  exact ⟨l, rfl, g⟩
theorem item_of {cs : List Value} (h : okT Tryz.prog W d 50 cs) : ∃ x : SItm, cs = x.vals ∧ x.by_.length ≤ maxLen := by
  obtain ⟨d2, l, o⟩ := okT_st h Tryz.underlying50
  rw [zcells50] at l
  obtain ⟨x0, x1, rfl⟩ := ln2 l
  simp only [List.mem_cons, List.mem_nil_iff, or_false, forall_eq_or_imp, forall_eq] at o
  rw [zcells3, zcells9] at o
  obtain ⟨n0, rfl, _⟩ := int_of (x := x0) o.1
  obtain ⟨s, rfl, hs⟩ := str_of (x := x1) o.2
  exact ⟨⟨n0, s⟩, rfl, hs⟩
theorem zcells46 : Tryz.prog.cellsOf 46 = 2 := by kernel_rfl
theorem byt_of {cs : List Value} (h : okT Tryz.prog W d 46 cs) : ∃ x : Byt, cs = x.vals ∧ True := by
  obtain ⟨d2, l, o⟩ := okT_st h Tryz.underlying46
  rw [zcells46] at l
  obtain ⟨x0, x1, rfl⟩ := ln2 l
  simp only [List.mem_cons, List.mem_nil_iff, or_false, forall_eq_or_imp, forall_eq] at o
  rw [zcells3] at o
  obtain ⟨n0, rfl, _⟩ := int_of (x := x0) o.1
  obtain ⟨n1, rfl, _⟩ := int_of (x := x1) o.2
  exact ⟨⟨n0, n1⟩, rfl, trivial⟩
theorem byts_of {n : Nat} {a : Option Addr} {cell : Nat → List Value} (sl : Sl W [] a 2 n cell) (rows : ∀ i, i < n → okT Tryz.prog W d 46 (cell i)) : ∃ l : List Byt, n = l.length ∧ Rw Byt.vals 2 W [] a l := by
  obtain ⟨l, h1, h2, _, _⟩ := rw_of (vals := Byt.vals) (Q := fun _ => True) sl fun i hi => byt_of (rows i hi)
  exact ⟨l, h1, h2⟩
theorem items_of {n : Nat} {a : Option Addr} {cell : Nat → List Value} (sl : Sl W [] a 2 n cell) (rows : ∀ i, i < n → okT Tryz.prog W d 50 (cell i)) : ∃ l : List SItm, n = l.length ∧ Rw SItm.vals 2 W [] a l ∧ ∀ x ∈ l, x.by_.length ≤ maxLen := by
  obtain ⟨l, h1, h2, h3, _⟩ := rw_of (vals := SItm.vals) (Q := fun x => x.by_.length ≤ maxLen) sl fun i hi => item_of (rows i hi)
  exact ⟨l, h1, h2, h3⟩
end
end Go.Proofs

/- The engine's rules for a builder of strings that the call has made itself. Nothing of a program is named here. -/
namespace Gx
set_option linter.unusedSimpArgs false
set_option linter.unusedVariables false
open Go Go.RowKit
section
variable {P : Program} {o : Oper} {L : Slots} {w0 : World} {M : List Nat} {As As' : List HA}
def isPt (P : Program) (t te : TypeId) : Prop := P.underlying t = some (.pointer te) ∧ ∃ j, P.info? te = some j ∧ j.size ≠ 0
theorem isPt_of {t te : TypeId} {n : Nat} {b : Bool} (h : P.underlying t = some (.pointer te)) (h2 : tsz P te = some (n, b)) (hn : n ≠ 0) : isPt P t te := by
  refine ⟨h, ?_⟩
  unfold tsz at h2
  cases hi : P.info? te with
  | none => rw [hi] at h2; cases h2
  | some j =>
    refine ⟨j, rfl, fun h0 => hn ?_⟩
    rw [hi] at h2
    cases hd : P.underlying te with
    | none => rw [hd] at h2; cases h2
    | some d =>
      rw [hd] at h2
      injection h2 with h2
      injection h2 with h3 h4
      omega
theorem ptee {t te : TypeId} (h : P.underlying t = some (.pointer te)) : P.underlying t = some (.pointer (P.pointee t)) := by
  rw [h]; simp [Program.pointee, h]
theorem p_ptr_nil {t t' te : TypeId} {x y : Operand} {p : Option Addr} (ho : o.op = .binOp .eql t x y t') (hx : ev L x = some (.pointer p)) (hy : ev L y = some (.pointer none)) (ht : isPt P t te) : OpP P o L (.bool p.isNone) := by
  intro ρ w hρ
  have hg : (eqGuard .eql t x y (.pointer p) (.pointer none)).run P w = .ok () w := by unfold eqGuard; simp
  simp only [execOp, ho, hρ _ _ hx, hρ _ _ hy, Sem.run_bind, hg, run_eql_pointer_nil w t p (ptee ht.1), Result.andThen_ok, Sem.run_pure]
theorem p_ptr_neq_same {t t' te : TypeId} {x y : Operand} {a : Addr} (ho : o.op = .binOp .neq t x y t') (hx : ev L x = some (.pointer (some a))) (hy : ev L y = some (.pointer (some a))) (ht : isPt P t te) : OpP P o L (.bool false) := by
  intro ρ w hρ
  obtain ⟨h1, j, h2, _⟩ := ht
  have hg : (eqGuard .neq t x y (.pointer (some a)) (.pointer (some a))).run P w = .ok () w := by unfold eqGuard; simp
  simp only [execOp, ho, hρ _ _ hx, hρ _ _ hy, Sem.run_bind, hg, Lib.run_neq_ptr_same w a h1 h2, Result.andThen_ok, Sem.run_pure]
theorem q_to_unsafe {src dst te b tot : Nat} {bt : TypeId} {x : Operand} {cs : List Value} (ho : o.op = .convert src dst x) (hx : ev L x = some (.pointer (some ⟨b, 0, none⟩))) (hs : isPt P src te) (hd : P.underlying dst = some .unsafePointer) (hp : Pick As (.blk b bt tot cs) As') (h0 : 0 < tot) : OpQ P o L (HS w0 M As) (.pointer (some ⟨b, 0, none⟩)) := by
  intro ρ w hρ hw
  obtain ⟨h1, j, h2, h3⟩ := hs
  have := (hw.blk_get hp).shape
  simp only [execOp, ho, hρ _ _ hx, Sem.run_bind, Lib.run_to_unsafe w (⟨b, 0, none⟩ : Addr) h1 hd h2 h3 this h0, Result.andThen_ok, Sem.run_pure]
  exact ⟨rfl, Below.refl _ _⟩
theorem q_from_unsafe {src dst te b tot : Nat} {bt : TypeId} {x : Operand} {cs : List Value} (ho : o.op = .convert src dst x) (hx : ev L x = some (.pointer (some ⟨b, 0, none⟩))) (hs : P.underlying src = some .unsafePointer) (hd : isPt P dst te) (hp : Pick As (.blk b bt tot cs) As') (hl : liesAt P P.depth bt (tot / P.cellsOf bt) 0 te 1 = true) : OpQ P o L (HS w0 M As) (.pointer (some ⟨b, 0, none⟩)) := by
  intro ρ w hρ hw
  obtain ⟨h1, j, h2, h3⟩ := hd
  have := (hw.blk_get hp).shape
  simp only [execOp, ho, hρ _ _ hx, Sem.run_bind, Lib.run_from_unsafe w (⟨b, 0, none⟩ : Addr) hs h1 h2 this hl, Result.andThen_ok, Sem.run_pure]
  exact ⟨rfl, Below.refl _ _⟩
def isNE (P : Program) (f : FuncId) : Prop := ∃ fn, P.funcs[f]? = some fn ∧ (fn.name == "runtime.NumGoroutine") = false ∧ fn.body.isNone = true ∧ Extern.findNext fn = none ∧ Extern.find fn = some Extern.AbiNoEscape.same
theorem q_noEscape {f : FuncId} {x : Operand} {v : Value} {at' : Array TypeId} {C : World → Prop} (ho : o.op = .call { callee := .value (.func f), args := #[x], argTypes := at' }) (hx : ev L x = some v) (hf : isNE P f) : OpQ P o L C v := by
  intro ρ w hρ hw
  obtain ⟨fn, h1, h2, h3, h4, h5⟩ := hf
  have hcall := run_callFunc_extern h1 h2 h3 h4 h5 #[v] w
  rw [Lib.run_noEscape w v] at hcall
  have : (execOp ρ o).run P w = .ok (.value v) w := by
    unfold execOp
    simp only [ho, resolve, Sem.run_bind, hρ (.func f) _ rfl, Deferred.ofValue, Sem.run_pure, Result.andThen_ok, invoke, List.map_toArray, List.map_cons, List.map_nil, hρ _ _ hx, Array.empty_append, Array.append_empty, hcall]
  rw [this]
  exact ⟨rfl, Below.refl _ _⟩
theorem p_sliceData {x : Operand} {at' : Array TypeId} {a : Addr} {n cap : Nat} (ho : o.op = .call { callee := .builtin .unsafeSliceData, args := #[x], argTypes := at' }) (hx : ev L x = some (.slice (some a) n cap)) (hc : cap ≠ 0) : OpP P o L (.pointer (some a)) := by
  intro ρ w hρ
  simp only [execOp, ho, resolve, Sem.run_bind, Sem.run_pure, Result.andThen_ok, invoke, builtin, List.map_toArray, List.map_cons, List.map_nil, hρ _ _ hx, Lib.run_unsafeSliceData_row w at' o.type a n cap hc]
/-- The bytes of an own row as a string: the row is given up. -/
theorem h_unsafeString {pt it e g cap : Nat} {x y : Operand} {l : List UInt8} (ho : o.op = .call { callee := .builtin .unsafeString, args := #[x, y], argTypes := #[pt, it] }) (hx : ev L x = some (.pointer (some ⟨g, 0, none⟩))) (hy : ev L y = some (.int .i64 (l.length : Int))) (ht : P.underlying pt = some (.pointer e)) (hce : P.cellsOf e = 1) (h0 : l ≠ [])
    (hp : Pick As (.own (.slice (some ⟨g, 0, none⟩) l.length cap) e 1 l.length (l.map bv)) As') : OpH P o L (HS w0 M As) (fun _ : Unit => .string (bs l)) (fun _ => True) (fun _ => HS w0 M As') := by
  intro ρ w hρ hw
  have hl : 0 < l.length := by cases l with | nil => exact absurd rfl h0 | cons => simp
  obtain ⟨g', e1, _, h1, h2, h3, hb⟩ := hw.own_blk hl hp
  injection e1 with e1
  injection e1 with e1
  subst e1
  have hk := hb.head
  have hr := Lib.run_unsafeString_row (P := P) w pt it o.type e ht hce g (cap * 1) hk.shape l h0 (by omega) (by simp only [maxLen] at h2; omega) (fun j x hx => by
    rw [addr_add]
    show w.cell? ⟨g, 0 + j, none⟩ = _
    rw [Nat.zero_add]
    exact BlkOk.cell hk (by rw [List.getElem?_map, hx]; rfl))
  have hx' : (execOp ρ o).run P w = .ok (.value (.string (bs l))) (w.freeze ⟨g, 0, none⟩ l.length) := by
    simp only [execOp, ho, resolve, Sem.run_bind, Sem.run_pure, Result.andThen_ok, invoke, builtin, List.map_toArray, List.map_cons, List.map_nil, hρ _ _ hx, hρ _ _ hy, hr]
    rfl
  rw [hx']
  refine ⟨(), rfl, trivial, ?_⟩
  have hf : ∀ k, k ≠ g → (w.freeze ⟨g, 0, none⟩ l.length).heap[k]? = w.heap[k]? := fun k hne => by
    simp only [World.freeze]
    split
    · rfl
    · simp [Array.getElem?_modify, Ne.symm hne]
  have h9 : (w.freeze ⟨g, 0, none⟩ l.length).os = w.os ∧ (w.freeze ⟨g, 0, none⟩ l.length).tape = w.tape ∧ (w.freeze ⟨g, 0, none⟩ l.length).output = w.output ∧ (w.freeze ⟨g, 0, none⟩ l.length).heap.size = w.heap.size := by
    simp only [World.freeze]
    split <;> simp
  exact (hb.swap (B := ⟨[g], fun _ => True, fun _ _ _ h => h⟩) (w' := w.freeze ⟨g, 0, none⟩ l.length) (fun _ h => h) h9.1 h9.2.1 h9.2.2.1 h9.2.2.2 (fun k hkk => hf k (by simpa [HA.fp_blk] using hkk)) trivial).tail
theorem h_append_strS {t xt e by' n : Nat} {s x : Operand} {v : Value} {z xs : List Value} {l : List UInt8} (ho : o.op = .call { callee := .builtin .append, args := #[s, x], argTypes := #[t, xt] }) (hs : ev L s = some v) (hx : ev L x = some (.string (bs l))) (ht : tsl P t = some (e, 1, by')) (hxt : P.underlying xt = some .string) (hz : tzero P e = some z) (hzs : z.length = 1)
    (hp : Pick As (.own v e 1 n xs) As') (hroom : (n + l.length) * by' ≤ 140737488355328) (hmax : n + l.length ≤ maxLen) :
    OpH P o L (HS w0 M As) (fun g : Option Addr × Nat => .slice g.1 (n + l.length) g.2) (fun _ => True) (fun g => HS w0 M (.own (.slice g.1 (n + l.length) g.2) e 1 (n + l.length) (xs ++ l.map bv) :: As')) := by
  intro ρ w hρ hw
  refine (h_append_str ho hs hx ht hxt hz hzs hp hroom hmax ρ w hρ hw).mono fun u w' hh => ?_
  obtain ⟨v', rfl, _, h⟩ := hh
  obtain ⟨a', cap', rfl, _⟩ := h.head.form
  exact ⟨(a', cap'), rfl, trivial, h⟩
end
end Gx

/-
  DERIVED: THE SHELF's CONTRACTS AT THIS DUMP, IN PLAIN WORDS (tools/lay-plain.mjs out of 'TryzShelf.lean', which tools/lay-shelf.mjs wrote): THE SAME DECLARATIONS UNDER THE SAME NAMES: 'import', 'namespace', 'open', 'def', 'theorem' AND NOTHING ELSE: no command of the shelf's: FOR A HAND-IN. Each laying: the table of numbers ('.._ren') and one theorem, a field a fact of the dump's own or the kernel's comparison; each contract: ONE APPLICATION.
-/
namespace Go.Proofs
open Go.Shelf
def Tryz.lays170_ren : Go.Shelf.Ren := ⟨fun | 170 => 61 | n => n, fun | 70 => 96 | 3 => 3 | 0 => 0 | 72 => 98 | 37 => 79 | 5 => 5 | n => n, fun | n => n⟩
def Tryz.lays169_ren : Go.Shelf.Ren := ⟨fun | 169 => 57 | n => n, fun | 70 => 96 | 9 => 9 | 0 => 0 | 72 => 98 | 37 => 79 | 127 => 131 | 3 => 3 | 5 => 5 | n => n, fun | n => n⟩
def Tryz.lays241_ren : Go.Shelf.Ren := ⟨fun | 241 => 86 | 277 => 111 | n => n, fun | 70 => 96 | 3 => 3 | 0 => 0 | 72 => 98 | 37 => 79 | 5 => 5 | n => n, fun | n => n⟩
def Tryz.lays165_ren : Go.Shelf.Ren := ⟨fun | 165 => 60 | 240 => 80 | 241 => 86 | 276 => 107 | 277 => 111 | n => n, fun | 70 => 96 | 3 => 3 | 0 => 0 | 4 => 4 | 9 => 9 | 20 => 20 | 72 => 98 | 37 => 79 | 164 => 154 | 5 => 5 | n => n, fun | n => n⟩
def Tryz.lays119_ren : Go.Shelf.Ren := ⟨fun | 119 => 133 | n => n, fun | 21 => 21 | 4 => 4 | n => n, fun | n => n⟩
def Tryz.lays120_ren : Go.Shelf.Ren := ⟨fun | 120 => 124 | n => n, fun | 5 => 5 | 4 => 4 | n => n, fun | n => n⟩
def Tryz.lays137_ren : Go.Shelf.Ren := ⟨fun | 137 => 132 | 217 => 141 | 266 => 144 | n => n, fun | 9 => 9 | 5 => 5 | 3 => 3 | n => n, fun | n => n⟩
def Tryz.lays217_ren : Go.Shelf.Ren := ⟨fun | 217 => 141 | 266 => 144 | n => n, fun | 9 => 9 | 5 => 5 | 3 => 3 | n => n, fun | n => n⟩
def Tryz.lays224_ren : Go.Shelf.Ren := ⟨fun | 224 => 134 | n => n, fun | 3 => 3 | n => n, fun | n => n⟩
def Tryz.lays206_ren : Go.Shelf.Ren := ⟨fun | 206 => 85 | n => n, fun | 9 => 9 | 4 => 4 | 3 => 3 | n => n, fun | n => n⟩
def Tryz.lays99_ren : Go.Shelf.Ren := ⟨fun | 99 => 59 | 206 => 85 | n => n, fun | 9 => 9 | 4 => 4 | 3 => 3 | n => n, fun | n => n⟩
theorem Tryz.lays99 : Go.Proofs.Lays.n99 Tryz.prog Tryz.lays99_ren := {
  mixed := by kernel_rfl
  f99 := Tryz.func59.trans (congrArg some (by kernel_rfl))
  f206 := Tryz.func85.trans (congrArg some (by kernel_rfl))
  t3 := Tryz.underlying3
  a3 := Tryz.isAgg3
  z3 := Tryz.sizeOf3
  v3 := Tryz.zeroValue3
  t4 := Tryz.underlying4
  a4 := Tryz.isAgg4
  z4 := Tryz.sizeOf4
  v4 := Tryz.zeroValue4
  t9 := Tryz.underlying9
  a9 := Tryz.isAgg9
  z9 := Tryz.sizeOf9
  v9 := Tryz.zeroValue9 }
open Go.RowKit Go.Lib in
/-- strings.HasPrefix: "HasPrefix reports whether the string s begins with prefix.": IT RETURNS 'Lib.hasPrefix s prefix'; the world is as it was. (LAID: no walk: one application.) -/
theorem Tryz.strings_HasPrefix (s p : ByteArray) (w : World) :
    Calls Tryz.prog 59 #[.string s, .string p] w fun e w' => e = .returned (.bool (Lib.hasPrefix s.data.toList p.data.toList)) ∧ w' = w := Any.strings_HasPrefix Tryz.lays99 s p w
def Tryz.lays197_ren : Go.Shelf.Ren := ⟨fun | 197 => 113 | 260 => 122 | n => n, fun | 9 => 9 | 21 => 21 | 3 => 3 | 4 => 4 | 5 => 5 | 105 => 159 | 119 => 172 | 0 => 0 | 46 => 104 | 139 => 175 | 138 => 174 | n => n, fun | 3 => 1 | 4 => 2 | n => n⟩
def Tryz.lays152_ren : Go.Shelf.Ren := ⟨fun | 152 => 123 | 137 => 132 | 119 => 133 | 224 => 134 | 225 => 135 | 217 => 141 | 266 => 144 | n => n, fun | 9 => 9 | 21 => 21 | 3 => 3 | 4 => 4 | 5 => 5 | 0 => 0 | 46 => 104 | n => n, fun | n => n⟩
def Tryz.lays151_ren : Go.Shelf.Ren := ⟨fun | 151 => 114 | 152 => 123 | 137 => 132 | 119 => 133 | 224 => 134 | 225 => 135 | 217 => 141 | 266 => 144 | n => n, fun | 9 => 9 | 21 => 21 | 4 => 4 | 3 => 3 | 5 => 5 | 0 => 0 | 46 => 104 | n => n, fun | n => n⟩
def Tryz.lays227_ren : Go.Shelf.Ren := ⟨fun | 227 => 90 | n => n, fun | 9 => 9 | 116 => 141 | 4 => 4 | 0 => 0 | 3 => 3 | 5 => 5 | n => n, fun | n => n⟩
def Tryz.lays228_ren : Go.Shelf.Ren := ⟨fun | 228 => 112 | n => n, fun | 124 => 145 | 5 => 5 | 4 => 4 | 0 => 0 | 116 => 141 | n => n, fun | n => n⟩
def Tryz.lays264_ren : Go.Shelf.Ren := ⟨fun | 264 => 84 | n => n, fun | 53 => 134 | 46 => 104 | n => n, fun | n => n⟩
def Tryz.lays212_ren : Go.Shelf.Ren := ⟨fun | 212 => 58 | 263 => 83 | 264 => 84 | n => n, fun | 46 => 104 | 51 => 110 | 146 => 132 | 53 => 134 | 148 => 135 | n => n, fun | n => n⟩
def Tryz.lays105_ren : Go.Shelf.Ren := ⟨fun | 105 => 27 | 212 => 58 | 99 => 59 | 165 => 60 | 166 => 54 | 170 => 61 | 169 => 57 | 263 => 83 | 264 => 84 | 206 => 85 | 240 => 80 | 241 => 86 | 276 => 107 | 277 => 111 | n => n, fun | 9 => 9 | 3 => 3 | 4 => 4 | 20 => 20 | 0 => 0 | 46 => 104 | 109 => 105 | 5 => 5 | 72 => 98 | 76 => 101 | 51 => 110 | 146 => 132 | 53 => 134 | 148 => 135 | 70 => 96 | 37 => 79 | 75 => 100 | 127 => 131 | 164 => 154 | 80 => 103 | n => n, fun | n => n⟩
theorem Tryz.lays105 : Go.Proofs.Lays.n105 Tryz.prog Tryz.lays105_ren := {
  mixed := by kernel_rfl
  f99 := Tryz.func59.trans (congrArg some (by kernel_rfl))
  f105 := Tryz.func27.trans (congrArg some (by kernel_rfl))
  f165 := Tryz.func60.trans (congrArg some (by kernel_rfl))
  f166 := Tryz.func54.trans (congrArg some (by kernel_rfl))
  f169 := Tryz.func57.trans (congrArg some (by kernel_rfl))
  f170 := Tryz.func61.trans (congrArg some (by kernel_rfl))
  f206 := Tryz.func85.trans (congrArg some (by kernel_rfl))
  f212 := Tryz.func58.trans (congrArg some (by kernel_rfl))
  f240 := Tryz.func80.trans (congrArg some (by kernel_rfl))
  f241 := Tryz.func86.trans (congrArg some (by kernel_rfl))
  f263 := Tryz.func83.trans (congrArg some (by kernel_rfl))
  f264 := Tryz.func84.trans (congrArg some (by kernel_rfl))
  f276 := Tryz.func107.trans (congrArg some (by kernel_rfl))
  f277 := Tryz.func111.trans (congrArg some (by kernel_rfl))
  t0 := Tryz.underlying0
  a0 := Tryz.isAgg0
  z0 := Tryz.sizeOf0
  v0 := Tryz.zeroValue0
  t3 := Tryz.underlying3
  a3 := Tryz.isAgg3
  z3 := Tryz.sizeOf3
  v3 := Tryz.zeroValue3
  t4 := Tryz.underlying4
  a4 := Tryz.isAgg4
  z4 := Tryz.sizeOf4
  v4 := Tryz.zeroValue4
  t5 := Tryz.underlying5
  a5 := Tryz.isAgg5
  z5 := Tryz.sizeOf5
  v5 := Tryz.zeroValue5
  t9 := Tryz.underlying9
  a9 := Tryz.isAgg9
  z9 := Tryz.sizeOf9
  v9 := Tryz.zeroValue9
  t20 := Tryz.underlying20
  a20 := Tryz.isAgg20
  z20 := Tryz.sizeOf20
  v20 := Tryz.zeroValue20
  t37 := Tryz.underlying79
  a37 := Tryz.isAgg79
  z37 := Tryz.sizeOf79
  v37 := Tryz.zeroValue79
  t46 := Tryz.underlying104
  a46 := Tryz.isAgg104
  z46 := Tryz.sizeOf104
  v46 := Tryz.zeroValue104
  t51 := Tryz.underlying110
  a51 := Tryz.isAgg110
  z51 := Tryz.sizeOf110
  v51 := Tryz.zeroValue110
  t53 := Tryz.underlying134
  a53 := Tryz.isAgg134
  z53 := Tryz.sizeOf134
  v53 := Tryz.zeroValue134
  t70 := Tryz.underlying96
  a70 := Tryz.isAgg96
  z70 := Tryz.sizeOf96
  v70 := Tryz.zeroValue96
  t72 := Tryz.underlying98
  a72 := Tryz.isAgg98
  z72 := Tryz.sizeOf98
  v72 := Tryz.zeroValue98
  t75 := Tryz.underlying100
  a75 := Tryz.isAgg100
  z75 := Tryz.sizeOf100
  v75 := Tryz.zeroValue100
  t76 := Tryz.underlying101
  a76 := Tryz.isAgg101
  z76 := Tryz.sizeOf101
  v76 := Tryz.zeroValue101
  t109 := Tryz.underlying105
  a109 := Tryz.isAgg105
  z109 := Tryz.sizeOf105
  v109 := Tryz.zeroValue105
  t127 := Tryz.underlying131
  a127 := Tryz.isAgg131
  z127 := Tryz.sizeOf131
  v127 := Tryz.zeroValue131
  t146 := Tryz.underlying132
  a146 := Tryz.isAgg132
  z146 := Tryz.sizeOf132
  v146 := Tryz.zeroValue132
  t148 := Tryz.underlying135
  a148 := Tryz.isAgg135
  z148 := Tryz.sizeOf135
  v148 := Tryz.zeroValue135
  t164 := Tryz.underlying154
  a164 := Tryz.isAgg154
  z164 := Tryz.sizeOf154
  v164 := Tryz.zeroValue154 }
theorem Tryz.Builder_Extra_105 : Builder.Extra Tryz.prog Tryz.lays105_ren := {
  sizeBuilder := by kernel_rfl
  liesBuilder := by kernel_rfl
  t5 := Tryz.underlying5
  a5 := Tryz.isAgg5
  z5 := Tryz.sizeOf5
  v5 := Tryz.zeroValue5
  infoByte := by kernel_rfl
  cellsByte := by kernel_rfl
  sizeByte := by kernel_rfl
  neB5 := by decide }
open Go.RowKit Go.Lib in
/-- **strings.Repeat: count ≥ 0, the result within one allocation: count copies of s.** (LAID: no walk: one application.) -/
theorem Tryz.strings_Repeat (s : ByteArray) (c : Nat) (w : World) (hc : c ≤ 9223372036854775807) (hlen : s.size * c ≤ 140737488355328) :
    Calls Tryz.prog 27 #[.string s, .int .i64 c] w fun e w' => e = .returned (.string ⟨(Lib.repeatL s.data.toList c).toArray⟩) ∧ Below w.heap.size w w' := Any.strings_Repeat Tryz.lays105 Tryz.Builder_Extra_105 s c w hc hlen
def Tryz.lays260_ren : Go.Shelf.Ren := ⟨fun | 260 => 122 | n => n, fun | 9 => 9 | 21 => 21 | 3 => 3 | 4 => 4 | 5 => 5 | 119 => 172 | 0 => 0 | 46 => 104 | 139 => 175 | 138 => 174 | n => n, fun | 3 => 1 | 4 => 2 | n => n⟩
def Tryz.lays271_ren : Go.Shelf.Ren := ⟨fun | 271 => 115 | 120 => 124 | 197 => 113 | 260 => 122 | n => n, fun | 9 => 9 | 21 => 21 | 3 => 3 | 4 => 4 | 5 => 5 | 105 => 159 | 119 => 172 | 0 => 0 | 46 => 104 | 139 => 175 | 138 => 174 | n => n, fun | 3 => 1 | 4 => 2 | n => n⟩
end Go.Proofs

namespace Go.Proofs
open Go Go.RowKit Gx
set_option linter.unusedVariables false
set_option linter.unusedSimpArgs false
attribute [local irreducible] Go.Calls Gx.S Gx.O Gx.D Gx.OpP Gx.OpQ Gx.OpH

theorem fd_98_0 : tfd Tryz.prog 98 0 = some (0, 96) := by kernel_rfl
theorem sz_96 : tsz Tryz.prog 96 = some (1, false) := by kernel_rfl
theorem sz_98 : tsz Tryz.prog 98 = some (2, true) := by kernel_rfl
theorem ipt_96 : isPt Tryz.prog 96 98 := isPt_of Tryz.underlying96 sz_98 (by decide)
theorem ne_107 : isNE Tryz.prog 107 := ⟨_, Tryz.func107, rfl, rfl, by kernel_rfl, by kernel_rfl⟩
theorem fn_80 : isFn Tryz.prog 80 = true := by kernel_rfl
theorem fd_98_1 : tfd Tryz.prog 98 1 = some (1, 79) := by kernel_rfl


set_option maxRecDepth 20000 in
theorem c80a (w : World) (b : Nat) (v : Value) (hw : HS w (fps [.blk b 98 2 [.pointer none, v]]) [.blk b 98 2 [.pointer none, v]] w) : Calls Tryz.prog 80 #[.pointer (some ⟨b, 0, none⟩)] w fun en w' => ∃ g : Unit, en = .returned (.tuple #[]) ∧ True ∧ HS w (fps [.blk b 98 2 [.pointer none, v]]) [.blk b 98 2 [.pointer (some ⟨b, 0, none⟩), v]] w' := by
  refine enter (args := [_]) Tryz.func80 Tryz.ntmps80 rfl rfl hw ?_
  refine s_seq ?_
  refine s_region ?_
  refine o_p (p_pure rfl) rfl ?_
  refine o_p (p_pure rfl) rfl ?_
  refine o_p (p_fieldAddr rfl rfl fd_98_0 sz_96 rfl) rfl ?_
  refine o_q (q_load rfl rfl sz_96 aPk rfl) rfl ?_
  refine o_p (p_ptr_nil rfl rfl rfl ipt_96) rfl ?_
  refine o_nil ?_
  refine s_cond rfl (fun h1 => ?_) (fun h1 => ?_)
  · try simp only [decide_eq_true_eq, decide_eq_false_iff_not, Bool.not_eq_true', Bool.not_eq_false', Bool.and_eq_true, Bool.or_eq_true, Bool.and_eq_false_iff, Bool.or_eq_false_iff, Bool.not_true, Bool.not_false] at h1
    refine s_region ?_
    refine o_p (p_pure rfl) rfl ?_
    refine o_p (p_pure rfl) rfl ?_
    refine o_q (q_to_unsafe rfl rfl ipt_96 Tryz.underlying154 aPk (by decide)) rfl ?_
    refine o_q (q_noEscape rfl rfl ne_107) rfl ?_
    refine o_q (q_from_unsafe rfl rfl Tryz.underlying154 ipt_96 aPk (by kernel_rfl)) rfl ?_
    refine o_p (p_pure rfl) rfl ?_
    refine o_p (p_fieldAddr rfl rfl fd_98_0 sz_96 rfl) rfl ?_
    refine o_h0 (h_store rfl rfl rfl sz_96 rfl aPt (by simp only [setMany_length, List.length_set, List.length_cons, List.length_nil, List.length_map]; omega) rfl) (fun _ _ => ?_)
    refine o_nil ?_
    exact s_end0 rfl (fun w' h' => ⟨(), rfl, trivial, h'.ent aEt⟩)
  · try simp only [decide_eq_true_eq, decide_eq_false_iff_not, Bool.not_eq_true', Bool.not_eq_false', Bool.and_eq_true, Bool.or_eq_true, Bool.and_eq_false_iff, Bool.or_eq_false_iff, Bool.not_true, Bool.not_false] at h1
    exfalso; first | omega | (simp at h1; done) | (simp_all; done)

set_option maxRecDepth 20000 in
theorem c80b (w : World) (b : Nat) (v : Value) (hw : HS w (fps [.blk b 98 2 [.pointer (some ⟨b, 0, none⟩), v]]) [.blk b 98 2 [.pointer (some ⟨b, 0, none⟩), v]] w) : Calls Tryz.prog 80 #[.pointer (some ⟨b, 0, none⟩)] w fun en w' => ∃ g : Unit, en = .returned (.tuple #[]) ∧ True ∧ HS w (fps [.blk b 98 2 [.pointer (some ⟨b, 0, none⟩), v]]) [.blk b 98 2 [.pointer (some ⟨b, 0, none⟩), v]] w' := by
  refine enter (args := [_]) Tryz.func80 Tryz.ntmps80 rfl rfl hw ?_
  refine s_seq ?_
  refine s_region ?_
  refine o_p (p_pure rfl) rfl ?_
  refine o_p (p_pure rfl) rfl ?_
  refine o_p (p_fieldAddr rfl rfl fd_98_0 sz_96 rfl) rfl ?_
  refine o_q (q_load rfl rfl sz_96 aPk rfl) rfl ?_
  refine o_p (p_ptr_nil rfl rfl rfl ipt_96) rfl ?_
  refine o_nil ?_
  refine s_cond rfl (fun h1 => ?_) (fun h1 => ?_)
  · try simp only [decide_eq_true_eq, decide_eq_false_iff_not, Bool.not_eq_true', Bool.not_eq_false', Bool.and_eq_true, Bool.or_eq_true, Bool.and_eq_false_iff, Bool.or_eq_false_iff, Bool.not_true, Bool.not_false] at h1
    exfalso; first | omega | (simp at h1; done) | (simp_all; done)
  · try simp only [decide_eq_true_eq, decide_eq_false_iff_not, Bool.not_eq_true', Bool.not_eq_false', Bool.and_eq_true, Bool.or_eq_true, Bool.and_eq_false_iff, Bool.or_eq_false_iff, Bool.not_true, Bool.not_false] at h1
    refine s_seq ?_
    refine s_region ?_
    refine o_p (p_pure rfl) rfl ?_
    refine o_p (p_pure rfl) rfl ?_
    refine o_p (p_fieldAddr rfl rfl fd_98_0 sz_96 rfl) rfl ?_
    refine o_q (q_load rfl rfl sz_96 aPk rfl) rfl ?_
    refine o_p (p_pure rfl) rfl ?_
    refine o_p (p_ptr_neq_same rfl rfl rfl ipt_96) rfl ?_
    refine o_nil ?_
    refine s_cond rfl (fun h2 => ?_) (fun h2 => ?_)
    · try simp only [decide_eq_true_eq, decide_eq_false_iff_not, Bool.not_eq_true', Bool.not_eq_false', Bool.and_eq_true, Bool.or_eq_true, Bool.and_eq_false_iff, Bool.or_eq_false_iff, Bool.not_true, Bool.not_false] at h2
      exfalso; first | omega | (simp at h2; done) | (simp_all; done)
    · try simp only [decide_eq_true_eq, decide_eq_false_iff_not, Bool.not_eq_true', Bool.not_eq_false', Bool.and_eq_true, Bool.or_eq_true, Bool.and_eq_false_iff, Bool.or_eq_false_iff, Bool.not_true, Bool.not_false] at h2
      refine s_skip ?_
      exact s_end0 rfl (fun w' h' => ⟨(), rfl, trivial, h'.ent aEt⟩)

set_option maxRecDepth 20000 in
theorem c54a (w : World) (b : Nat) (a : Option Addr) (n cap : Nat) (xs : List Value) (s : List UInt8) (hw : HS w (fps [.blk b 98 2 [.pointer none, .slice a n cap], .own (.slice a n cap) 5 1 n xs]) [.blk b 98 2 [.pointer none, .slice a n cap], .own (.slice a n cap) 5 1 n xs] w) (hl : n + s.length ≤ 1000000000) : Calls Tryz.prog 54 #[.pointer (some ⟨b, 0, none⟩), .string (bs s)] w fun en w' => ∃ g : Option Addr × Nat, en = .returned (.tuple #[.int .i64 (s.length : Int), .nilIface]) ∧ True ∧ HS w (fps [.blk b 98 2 [.pointer none, .slice a n cap], .own (.slice a n cap) 5 1 n xs]) [.blk b 98 2 [.pointer (some ⟨b, 0, none⟩), .slice g.1 (n + s.length) g.2], .own (.slice g.1 (n + s.length) g.2) 5 1 (n + s.length) (xs ++ s.map bv)] w' := by
  refine enter (args := [_, _]) Tryz.func54 Tryz.ntmps54 rfl rfl hw ?_
  refine s_seq ?_
  refine s_region ?_
  refine o_p (p_pure rfl) rfl ?_
  refine o_p (p_pure rfl) rfl ?_
  refine o_nil ?_
  refine s_seq ?_
  refine s_region ?_
  refine o_p (p_pure rfl) rfl ?_
  refine o_h (h_callF (Cs := [.blk b 98 2 [.pointer none, .slice a n cap]]) rfl fn_80 rfl aPs (fun w1 h1 hf => c80a w1 b _ hf)) rfl (fun _ _ => ?_)
  refine o_nil ?_
  refine s_seq ?_
  refine s_region ?_
  refine o_p (p_pure rfl) rfl ?_
  refine o_p (p_pure rfl) rfl ?_
  refine o_p (p_pure rfl) rfl ?_
  refine o_p (p_fieldAddr rfl rfl fd_98_1 sz_79 rfl) rfl ?_
  refine o_q (q_load rfl rfl sz_79 aPk rfl) rfl ?_
  refine o_p (p_pure rfl) rfl ?_
  refine o_h (h_append_strS rfl rfl rfl sl_79 Tryz.underlying9 zr_5 rfl aPk (by omega) (by simp only [maxLen]; omega)) rfl (fun b1 _ => ?_)
  refine o_p (p_pure rfl) rfl ?_
  refine o_p (p_fieldAddr rfl rfl fd_98_1 sz_79 rfl) rfl ?_
  refine o_h0 (h_store rfl rfl rfl sz_79 rfl aPt (by simp only [setMany_length, List.length_set, List.length_cons, List.length_nil, List.length_map]; omega) rfl) (fun _ _ => ?_)
  refine o_nil ?_
  refine s_seq ?_
  refine s_region ?_
  refine o_p (p_pure rfl) rfl ?_
  refine o_p (p_len_str rfl rfl Tryz.underlying9) rfl ?_
  refine o_p (p_pure rfl) rfl ?_
  refine o_p (p_pure rfl) rfl ?_
  refine o_nil ?_
  exact s_retv (rs := [.tmp 4, .tmp 5]) rfl (.tmp rfl (.tmp rfl (.nil))) (fun w' h' => ⟨b1, rfl, trivial, h'.ent aEt⟩)

set_option maxRecDepth 20000 in
theorem c54b (w : World) (b : Nat) (a : Option Addr) (n cap : Nat) (xs : List Value) (s : List UInt8) (hw : HS w (fps [.blk b 98 2 [.pointer (some ⟨b, 0, none⟩), .slice a n cap], .own (.slice a n cap) 5 1 n xs]) [.blk b 98 2 [.pointer (some ⟨b, 0, none⟩), .slice a n cap], .own (.slice a n cap) 5 1 n xs] w) (hl : n + s.length ≤ 1000000000) : Calls Tryz.prog 54 #[.pointer (some ⟨b, 0, none⟩), .string (bs s)] w fun en w' => ∃ g : Option Addr × Nat, en = .returned (.tuple #[.int .i64 (s.length : Int), .nilIface]) ∧ True ∧ HS w (fps [.blk b 98 2 [.pointer (some ⟨b, 0, none⟩), .slice a n cap], .own (.slice a n cap) 5 1 n xs]) [.blk b 98 2 [.pointer (some ⟨b, 0, none⟩), .slice g.1 (n + s.length) g.2], .own (.slice g.1 (n + s.length) g.2) 5 1 (n + s.length) (xs ++ s.map bv)] w' := by
  refine enter (args := [_, _]) Tryz.func54 Tryz.ntmps54 rfl rfl hw ?_
  refine s_seq ?_
  refine s_region ?_
  refine o_p (p_pure rfl) rfl ?_
  refine o_p (p_pure rfl) rfl ?_
  refine o_nil ?_
  refine s_seq ?_
  refine s_region ?_
  refine o_p (p_pure rfl) rfl ?_
  refine o_h (h_callF (Cs := [.blk b 98 2 [.pointer (some ⟨b, 0, none⟩), .slice a n cap]]) rfl fn_80 rfl aPs (fun w1 h1 hf => c80b w1 b _ hf)) rfl (fun _ _ => ?_)
  refine o_nil ?_
  refine s_seq ?_
  refine s_region ?_
  refine o_p (p_pure rfl) rfl ?_
  refine o_p (p_pure rfl) rfl ?_
  refine o_p (p_pure rfl) rfl ?_
  refine o_p (p_fieldAddr rfl rfl fd_98_1 sz_79 rfl) rfl ?_
  refine o_q (q_load rfl rfl sz_79 aPk rfl) rfl ?_
  refine o_p (p_pure rfl) rfl ?_
  refine o_h (h_append_strS rfl rfl rfl sl_79 Tryz.underlying9 zr_5 rfl aPk (by omega) (by simp only [maxLen]; omega)) rfl (fun b1 _ => ?_)
  refine o_p (p_pure rfl) rfl ?_
  refine o_p (p_fieldAddr rfl rfl fd_98_1 sz_79 rfl) rfl ?_
  refine o_h0 (h_store rfl rfl rfl sz_79 rfl aPt (by simp only [setMany_length, List.length_set, List.length_cons, List.length_nil, List.length_map]; omega) rfl) (fun _ _ => ?_)
  refine o_nil ?_
  refine s_seq ?_
  refine s_region ?_
  refine o_p (p_pure rfl) rfl ?_
  refine o_p (p_len_str rfl rfl Tryz.underlying9) rfl ?_
  refine o_p (p_pure rfl) rfl ?_
  refine o_p (p_pure rfl) rfl ?_
  refine o_nil ?_
  exact s_retv (rs := [.tmp 4, .tmp 5]) rfl (.tmp rfl (.tmp rfl (.nil))) (fun w' h' => ⟨b1, rfl, trivial, h'.ent aEt⟩)

set_option maxRecDepth 20000 in
theorem d57 (w : World) (b q cap : Nat) (l : List UInt8) (hw : HS w (fps [.blk b 98 2 [.pointer (some ⟨b, 0, none⟩), .slice (some ⟨q, 0, none⟩) l.length cap], .own (.slice (some ⟨q, 0, none⟩) l.length cap) 5 1 l.length (l.map bv)]) [.blk b 98 2 [.pointer (some ⟨b, 0, none⟩), .slice (some ⟨q, 0, none⟩) l.length cap], .own (.slice (some ⟨q, 0, none⟩) l.length cap) 5 1 l.length (l.map bv)] w) (h0 : l ≠ []) (hcap : l.length ≤ cap) : Calls Tryz.prog 57 #[.pointer (some ⟨b, 0, none⟩)] w fun en w' => ∃ g : Unit, en = .returned (.string (bs l)) ∧ True ∧ HS w (fps [.blk b 98 2 [.pointer (some ⟨b, 0, none⟩), .slice (some ⟨q, 0, none⟩) l.length cap], .own (.slice (some ⟨q, 0, none⟩) l.length cap) 5 1 l.length (l.map bv)]) [] w' := by
  have hl0 : 0 < l.length := by cases l with | nil => exact absurd rfl h0 | cons => simp
  refine enter (args := [_]) Tryz.func57 Tryz.ntmps57 rfl rfl hw ?_
  refine s_seq ?_
  refine s_region ?_
  refine o_p (p_pure rfl) rfl ?_
  refine o_nil ?_
  refine s_seq ?_
  refine s_draw [10] mixed ?_
  refine d_p 0 rfl (p_pure rfl) (by kernel_rfl) rfl rfl ?_
  refine d_p 1 rfl (p_pure rfl) (by kernel_rfl) rfl rfl ?_
  refine d_p 2 rfl (p_fieldAddr rfl rfl fd_98_1 sz_79 rfl) (by kernel_rfl) rfl rfl ?_
  refine d_q 3 [[4]] rfl (q_load rfl rfl sz_79 aPk rfl) (by kernel_rfl) (by kernel_rfl) (by kernel_rfl) rfl ?_
  refine d_p 4 rfl (p_sliceData rfl rfl (by omega)) (by kernel_rfl) rfl rfl ?_
  refine d_p 5 rfl (p_pure rfl) (by kernel_rfl) rfl rfl ?_
  refine d_p 6 rfl (p_pure rfl) (by kernel_rfl) rfl rfl ?_
  refine d_p 7 rfl (p_fieldAddr rfl rfl fd_98_1 sz_79 rfl) (by kernel_rfl) rfl rfl ?_
  refine d_q 8 [[9]] rfl (q_load rfl rfl sz_79 aPk rfl) (by kernel_rfl) (by kernel_rfl) (by kernel_rfl) rfl ?_
  refine d_p 9 rfl (p_len_slice rfl rfl Tryz.underlying79) (by kernel_rfl) rfl rfl ?_
  refine d_h 10 rfl (h_unsafeString rfl rfl rfl Tryz.underlying131 (by kernel_rfl) h0 aPk) (by kernel_rfl) (fun w h => h.ent aEt) rfl (fun _ _ => ?_)
  refine d_turn [] (by kernel_rfl) ?_
  refine d_p 11 rfl (p_pure rfl) (by kernel_rfl) rfl rfl ?_
  refine d_nil (by kernel_rfl) (fun w h => by first | exact h | exact h.ent aEt) ?_
  exact s_retv (rs := [.tmp 2]) rfl (.tmp rfl (.nil)) (fun w' h' => ⟨(), rfl, trivial, h'.nil⟩)

theorem c57 (w : World) (b : Nat) (a : Option Addr) (cap : Nat) (l : List UInt8) (hw : HS w (fps [.blk b 98 2 [.pointer (some ⟨b, 0, none⟩), .slice a l.length cap], .own (.slice a l.length cap) 5 1 l.length (l.map bv)]) [.blk b 98 2 [.pointer (some ⟨b, 0, none⟩), .slice a l.length cap], .own (.slice a l.length cap) 5 1 l.length (l.map bv)] w) (h0 : l ≠ []) : Calls Tryz.prog 57 #[.pointer (some ⟨b, 0, none⟩)] w fun en w' => ∃ g : Unit, en = .returned (.string (bs l)) ∧ True ∧ HS w (fps [.blk b 98 2 [.pointer (some ⟨b, 0, none⟩), .slice a l.length cap], .own (.slice a l.length cap) 5 1 l.length (l.map bv)]) [] w' := by
  have hl : 0 < l.length := by cases l with | nil => exact absurd rfl h0 | cons => simp
  obtain ⟨q, rfl, _, h1, _, _, hb⟩ := HS.own_blk hl (As' := [.blk b 98 2 [.pointer (some ⟨b, 0, none⟩), .slice a l.length cap]]) aPk hw
  exact d57 w b q cap l hw h0 h1

theorem c27 (w : World) (c : Nat) (hc : c ≤ 100000) : Calls Tryz.prog 27 #[.string (bs [0]), .int .i64 (c : Int)] w fun en w' => en = .returned (.string (bs (List.replicate c 0))) ∧ Below w.heap.size w w' := by
  have h := Tryz.strings_Repeat (bs [0]) c w (by omega) (by simp; omega)
  have e : Lib.repeatL (bs [0]).data.toList c = List.replicate c 0 := by
    have := Lib.repeatL_replicate 0 1 c
    simpa using this
  rw [e] at h
  exact h

end Go.Proofs

namespace Go.Proofs
open Go Go.RowKit Gx
set_option linter.unusedVariables false
set_option linter.unusedSimpArgs false
attribute [local irreducible] Go.Calls Gx.S Gx.O Gx.D Gx.OpP Gx.OpQ Gx.OpH

theorem fn_79 : isFn Tryz.prog 79 = true := by kernel_rfl
theorem fn_53 : isFn Tryz.prog 53 = true := by kernel_rfl
theorem zr_98 : tzero Tryz.prog 98 = some [.pointer none, .slice none 0 0] := by kernel_rfl
theorem fn_55 : isFn Tryz.prog 55 = true := by kernel_rfl
theorem fn_54 : isFn Tryz.prog 54 = true := by kernel_rfl
theorem fn_56 : isFn Tryz.prog 56 = true := by kernel_rfl
theorem fn_27 : isFn Tryz.prog 27 = true := by kernel_rfl
theorem fn_57 : isFn Tryz.prog 57 = true := by kernel_rfl


set_option maxRecDepth 20000 in
theorem c53 (w : World) (ua : Option Addr) (uc : Nat) (u : List Int) (hu : Vl w ua (u.map nv)) (hum : u.length ≤ 1000) (hur : ∀ x ∈ u, 0 ≤ x ∧ x < 4294967296) : Calls Tryz.prog 53 #[.slice ua u.length uc] w fun en w' => en = .returned (.string (bs (nmB u))) ∧ Below w.heap.size w w' := by
  refine enter (args := [_]) Tryz.func53 Tryz.ntmps53 rfl rfl (HS.refl w []) ?_
  refine s_seq ?_
  refine s_region ?_
  refine o_p (p_pure rfl) rfl ?_
  refine o_nil ?_
  refine s_seq ?_
  refine s_region ?_
  refine o_p (p_pure rfl) rfl ?_
  refine o_nil ?_
  refine s_seq ?_
  refine s_seq ?_
  refine s_region ?_
  refine o_p (p_pure rfl) rfl ?_
  refine o_p (p_len_slice rfl rfl Tryz.underlying31) rfl ?_
  refine o_p (p_pure rfl) rfl ?_
  refine o_nil ?_
  refine s_block ?_
  refine s_loopI (α := Nat × Option Addr × Nat) [3, 5, 8, 9, 10, 11, 12, 13, 14, 15, 16] (fun y => [(8, .int .i64 (y.1 : Int)), (3, .slice y.2.1 (nmB (u.take y.1)).length y.2.2)]) (fun y => HS w [] [.own (.slice y.2.1 (nmB (u.take y.1)).length y.2.2) 5 1 ((nmB (u.take y.1)).length) (((nmB (u.take y.1))).map bv)]) (fun y => y.1 ≤ u.length) (fun y => u.length - y.1) (0, none, 0) (Nat.zero_le _) aSx (fun w h => (h.own_nil 5 1).ent aEt) (fun ⟨k, ga⟩ hk1 => ?_)
  dsimp only
  simp only [] at hk1
  refine s_seq ?_
  refine s_region ?_
  refine o_p (p_pure rfl) rfl ?_
  refine o_nil ?_
  refine s_seq ?_
  refine s_cond rfl (fun h1 => ?_) (fun h1 => ?_)
  · try simp only [decide_eq_true_eq, decide_eq_false_iff_not, Bool.not_eq_true', Bool.not_eq_false', Bool.and_eq_true, Bool.or_eq_true, Bool.and_eq_false_iff, Bool.or_eq_false_iff, Bool.not_true, Bool.not_false] at h1
    have hk : k < u.length := by omega
    have hst := nmB_succ hk
    have hnl := nmB_len (u.take k)
    rw [List.length_take] at hnl
    have hr9 := hur _ (getD_mem (d := 0) hk)
    refine s_skip ?_
    refine s_seq ?_
    refine s_block ?_
    refine s_seq ?_
    refine s_region ?_
    refine o_p (p_indexAddr rfl rfl rfl sl_31 (k) (by omega) (by omega) (hu.some (by rw [List.length_map]; omega))) rfl ?_
    refine o_q (q_load_old rfl rfl sz_3 ((hu.rd (nv_get hk)))) rfl ?_
    refine o_p (p_pure rfl) rfl ?_
    refine o_nil ?_
    refine s_region ?_
    refine o_p (p_pure rfl) rfl ?_
    refine o_p (p_pure rfl) rfl ?_
    refine o_p (p_conv_int rfl rfl ki_3 ki_110) rfl ?_
    refine o_slot (show _ = Value.int .u32 (u.getD k 0) from by rw [u32wM, Int.emod_eq_of_lt (by omega) (by omega)]) ?_
    refine o_h (h_callF (Cs := [.own (.slice ga.1 (nmB (u.take k)).length ga.2) 5 1 ((nmB (u.take k)).length) (((nmB (u.take k))).map bv)]) rfl fn_79 rfl aPs (fun w1 h1 hf => c79 w1 ga.1 ga.2 (nmB (u.take k)) (u.getD k 0) hf (by omega) (by omega))) rfl (fun gn _ => ?_)
    refine o_p (p_pure rfl) rfl ?_
    refine o_nil ?_
    refine s_blk ?_
    refine s_region ?_
    refine o_p (p_pure rfl) rfl ?_
    try (refine o_slot (i64w (by omega) (by omega)) ?_)
    refine o_p (p_pure rfl) rfl ?_
    refine o_nil ?_
    exact s_backI (k + 1, gn) (by (try simp only []); omega) (by (try simp only []); omega) (by dsimp only; rw [hst]; exact aSx) (fun w h => by dsimp only; rw [hst]; exact h.ent aEt)
  · try simp only [decide_eq_true_eq, decide_eq_false_iff_not, Bool.not_eq_true', Bool.not_eq_false', Bool.and_eq_true, Bool.or_eq_true, Bool.and_eq_false_iff, Bool.or_eq_false_iff, Bool.not_true, Bool.not_false] at h1
    obtain rfl : k = u.length := by omega
    rw [List.take_length]
    refine s_exit_to rfl ?_
    refine s_seq ?_
    refine s_region ?_
    refine o_p (p_pure rfl) rfl ?_
    refine o_q (q_string_own rfl rfl Tryz.underlying79 Tryz.underlying9 Tryz.underlying5 aPk (isU8_bv _)) rfl ?_
    refine o_p (p_pure rfl) rfl ?_
    refine o_nil ?_
    exact s_retv (rs := [.tmp 2]) rfl (.tmp rfl (.nil)) (fun w' h' => ⟨by rw [vByte_bv]; rfl, h'.below⟩)

set_option maxRecDepth 20000 in
set_option maxHeartbeats 2000000 in
theorem c26 (w : World) (nx : Int) (a : Option Addr) (cap : Nat) (l : List SItm) (hs : Rw SItm.vals 2 w [] a l) (hm : l.length ≤ 100000) (hb : ∀ x ∈ l, x.by_.length ≤ 100000) (hst0 : (stoE nx l).2 = 0) : Calls Tryz.prog 26 #[.agg #[.int .i64 nx, .slice a l.length cap]] w fun en w' => en = .returned (.string (bs (halfS nx l))) ∧ Below w.heap.size w w' := by
  obtain ⟨hnx, hl60, hit9, hpl9⟩ := sto_ok hst0
  have hple := pls_le' hb
  have hsu := sumS_le (hd0 nx (plsI l).2)
  have hhl := halfS_len nx l
  have hd0l : (hd0 nx (plsI l).2).length = 12 := rfl
  have hhsl : (headS nx (plsI l).2).length = 16 := rfl
  refine enter (args := [_]) Tryz.func26 Tryz.ntmps26 rfl rfl (HS.refl w []) ?_
  refine s_seq ?_
  refine s_region ?_
  refine o_h (h_box rfl rfl) rfl (fun b1 _ => ?_)
  refine o_p (p_pure rfl) rfl ?_
  refine o_nil ?_
  refine s_seq ?_
  refine s_region ?_
  refine o_p (p_fieldAddr rfl rfl fd_24_1 sz_22 rfl) rfl ?_
  refine o_q (q_load rfl rfl sz_22 aPk rfl) rfl ?_
  refine o_h (h_call rfl fn_45 rfl (fun w1 h1 => c45 w1 a cap l (hs.later h1) hm hb)) rfl (fun gp _ => ?_)
  refine o_p (p_pure rfl) rfl ?_
  refine o_p (p_pure rfl) rfl ?_
  refine o_p (p_pure rfl) rfl ?_
  refine o_p (p_pure rfl) rfl ?_
  refine o_p (p_pure rfl) rfl ?_
  refine o_nil ?_
  refine s_seq ?_
  refine s_region ?_
  refine o_p (p_fieldAddr rfl rfl fd_24_0 sz_3 rfl) rfl ?_
  refine o_q (q_load rfl rfl sz_3 aPk rfl) rfl ?_
  refine o_p (p_pure rfl) rfl ?_
  refine o_h (h_buildSlice (cs := [_, _]) rfl rfl sl_31 zr_3 rfl rfl rfl) rfl (fun b2 _ => ?_)
  refine o_q (q_call rfl fn_53 rfl (fun w1 h1 => c53 w1 _ _ [nx, (plsI l).2] (h1.vl_blk aPk) (by simp) (by intro x hx; simp only [List.mem_cons, List.mem_nil_iff, or_false] at hx; rcases hx with rfl | rfl <;> omega))) rfl ?_
  refine o_p (p_str_add rfl rfl rfl (by (try simp only [List.length_append, List.length_cons, List.length_nil, List.length_replicate, List.length_take, List.length_drop, nmB_len, List.length_cons]); omega)) rfl ?_
  refine o_slot (show _ = Value.string (bs (hd0 nx (plsI l).2)) from rfl) ?_
  refine o_p (p_pure rfl) rfl ?_
  refine o_nil ?_
  refine s_seq ?_
  refine s_region ?_
  refine o_h (h_alloc rfl zr_98) rfl (fun b3 _ => ?_)
  refine o_class (C' := HS w [] [.own (.slice none 0 0) 5 1 0 [], .blk b3 98 2 [.pointer none, .slice none 0 0], .own (.slice gp.1 l.length gp.2) 3 1 l.length ((plsI l).1.map nv), .blk b1 24 2 [.int .i64 nx, .slice a l.length cap]]) (fun w h => (h.own_nil 5 1).ent aEt) ?_
  refine o_nil ?_
  refine s_seq ?_
  refine s_region ?_
  refine o_p (p_pure rfl) rfl ?_
  refine o_p (p_pure rfl) rfl ?_
  refine o_q (q_call rfl fn_55 rfl (fun w1 h1 => c55 w1 (hd0 nx (plsI l).2) (by omega))) rfl ?_
  refine o_h (h_buildSlice (cs := [_]) rfl rfl sl_31 zr_3 rfl rfl rfl) rfl (fun b4 _ => ?_)
  refine o_q (q_call rfl fn_53 rfl (fun w1 h1 => c53 w1 _ _ [sumS (hd0 nx (plsI l).2)] (h1.vl_blk aPk) (by simp) (by intro x hx; simp only [List.mem_cons, List.mem_nil_iff, or_false] at hx; rcases hx with rfl <;> omega))) rfl ?_
  refine o_p (p_str_add rfl rfl rfl (by (try simp only [List.length_append, List.length_cons, List.length_nil, List.length_replicate, List.length_take, List.length_drop, nmB_len, List.length_cons]); omega)) rfl ?_
  refine o_slot (show _ = Value.string (bs (headS nx (plsI l).2)) from rfl) ?_
  refine o_h (h_callF (Cs := [.blk b3 98 2 [.pointer none, .slice none 0 0], .own (.slice none 0 0) 5 1 0 []]) rfl fn_54 rfl aPs (fun w1 h1 hf => c54a w1 b3 none 0 0 [] (headS nx (plsI l).2) hf (by omega))) rfl (fun g1 _ => ?_)
  refine o_nil ?_
  refine s_seq ?_
  refine s_seq ?_
  refine s_region ?_
  refine o_p (p_fieldAddr rfl rfl fd_24_1 sz_22 rfl) rfl ?_
  refine o_q (q_load rfl rfl sz_22 aPk rfl) rfl ?_
  refine o_p (p_len_slice rfl rfl Tryz.underlying22) rfl ?_
  refine o_p (p_pure rfl) rfl ?_
  refine o_nil ?_
  refine s_block ?_
  refine s_weaken (L' := [(2, _), (3, _), (6, _), (30, _), (31, _), (32, _)]) aSx (fun _ h => h) ?_
  refine s_loopI (α := Nat × Option Addr × Nat) [7, 8, 9, 32, 33, 34, 35, 36, 37, 38, 39, 40, 41, 42, 43, 44, 45, 46, 47, 48, 49, 50, 51, 52, 53, 54, 55, 56, 57, 58, 59, 60, 61, 62, 63] (fun y => [(32, .int .i64 (y.1 : Int))]) (fun y => HS w [] [.blk b3 98 2 [.pointer (some ⟨b3, 0, none⟩), .slice y.2.1 (halfK nx l y.1).length y.2.2], .own (.slice y.2.1 (halfK nx l y.1).length y.2.2) 5 1 (halfK nx l y.1).length ((halfK nx l y.1).map bv), .own (.slice gp.1 l.length gp.2) 3 1 l.length ((plsI l).1.map nv), .blk b1 24 2 [.int .i64 nx, .slice a l.length cap]]) (fun y => y.1 ≤ l.length) (fun y => l.length - y.1) (0, g1.1, g1.2) (Nat.zero_le _) aSx (fun w h => by dsimp only; rw [show (halfK nx l 0) = headS nx (plsI l).2 from List.append_nil _]; exact h.ent aEt) (fun ⟨k, ga⟩ hk1 => ?_)
  dsimp only
  simp only [] at hk1
  refine s_seq ?_
  refine s_region ?_
  refine o_p (p_pure rfl) rfl ?_
  refine o_nil ?_
  refine s_seq ?_
  refine s_cond rfl (fun h5 => ?_) (fun h5 => ?_)
  · try simp only [decide_eq_true_eq, decide_eq_false_iff_not, Bool.not_eq_true', Bool.not_eq_false', Bool.and_eq_true, Bool.or_eq_true, Bool.and_eq_false_iff, Bool.or_eq_false_iff, Bool.not_true, Bool.not_false] at h5
    have hk : k < l.length := by omega
    have hrg := (itm_rng (hit9 k hk)).1
    have hbk : (nth l k).by_.length ≤ 100000 := hb _ (getD_mem hk)
    have hpk := pls_le hb k (by omega)
    have hpm := pls_mono hb l.length (Nat.le_refl _) k (by omega)
    rw [List.take_length] at hpm
    have hhk := halfK_len nx l k (by omega)
    have hha := hashS_le (nth l k).by_
    have hup : upT (ilen (nth l k)) - ilen (nth l k) = ((padN (ilen (nth l k)) : Nat) : Int) ∧ padN (ilen (nth l k)) ≤ 16 := by unfold padN upT ilen; omega
    have hil : ilen (nth l k) = 16 + ((nth l k).by_.length : Int) := rfl
    have hpl5 := pls_len' l
    have hsc : halfK nx l (k + 1) = ((halfK nx l k) ++ (nmB [hashS (nth l k).by_, (nth l k).id, (plsI (l.take k)).2, ilen (nth l k)] ++ (nth l k).by_)) ++ (List.replicate (padN (ilen (nth l k))) (0 : UInt8)) := by rw [halfK_succ]; unfold itmS; rw [← List.append_assoc]
    refine s_fact (fun w h => Vl.some (HS.vl_own (a := gp.1) (t := 3) h aPk) (by rw [List.length_map]; omega)) fun hsm => ?_
    refine s_skip ?_
    refine s_seq ?_
    refine s_block ?_
    refine s_seq ?_
    refine s_region ?_
    refine o_p (p_pure rfl) rfl ?_
    refine o_p (p_indexAddr rfl rfl rfl sl_22 (k) (by omega) (by omega) (Rw.some hs (by omega))) rfl ?_
    refine o_q (q_load_oldn _ rfl rfl sz_50 rfl (Rw.rd hs hk)) rfl ?_
    refine o_h (h_alloc rfl zr_50) rfl (fun b6 _ => ?_)
    refine o_p (p_pure rfl) rfl ?_
    refine o_h0 (h_store rfl rfl rfl sz_50 rfl aPt (by simp only [setMany_length, List.length_set, List.length_cons, List.length_nil, List.length_map]; omega) rfl) (fun _ _ => ?_)
    refine o_nil ?_
    refine s_seq ?_
    refine s_region ?_
    refine o_p (p_fieldAddr rfl rfl fd_50_1 sz_9 rfl) rfl ?_
    refine o_q (q_load rfl rfl sz_9 aPk rfl) rfl ?_
    refine o_p (p_len_str rfl rfl Tryz.underlying9) rfl ?_
    refine o_p (p_pure rfl) rfl ?_
    try (refine o_slot (i64w (by omega) (by omega)) ?_)
    refine o_slot (show _ = Value.int .i64 (ilen (nth l k)) from rfl) ?_
    refine o_p (p_pure rfl) rfl ?_
    refine o_nil ?_
    refine s_seq ?_
    refine s_draw [15] mixed ?_
    refine d_p 0 rfl (p_fieldAddr rfl rfl fd_50_1 sz_9 rfl) (by kernel_rfl) rfl rfl ?_
    refine d_q 1 [[11, 2]] rfl (q_load rfl rfl sz_9 aPk rfl) (by kernel_rfl) (by kernel_rfl) (by kernel_rfl) rfl ?_
    refine d_q 2 [[11]] rfl (q_call rfl fn_56 rfl (fun w1 h1 => c56 w1 (nth l k).by_ (by omega))) (by kernel_rfl) (by kernel_rfl) (by kernel_rfl) rfl ?_
    refine d_p 3 rfl (p_fieldAddr rfl rfl fd_50_0 sz_3 rfl) (by kernel_rfl) rfl rfl ?_
    refine d_q 4 [[11, 10]] rfl (q_load rfl rfl sz_3 aPk rfl) (by kernel_rfl) (by kernel_rfl) (by kernel_rfl) rfl ?_
    refine d_p 5 rfl (p_pure rfl) (by kernel_rfl) rfl rfl ?_
    refine d_p 6 rfl (p_pure rfl) (by kernel_rfl) rfl rfl ?_
    refine d_p 7 rfl (p_indexAddr rfl rfl rfl sl_31 (k) (by omega) (by omega) hsm) (by kernel_rfl) rfl rfl ?_
    refine d_q 8 [[11, 10]] rfl (q_load_at rfl rfl sz_3 (fun w h => (HS.vl_own (a := gp.1) (t := 3) h aPk).rd (nv_get (k := k) (by omega)))) (by kernel_rfl) (by kernel_rfl) (by kernel_rfl) rfl ?_
    refine d_slot (show _ = Value.int .i64 (plsI (l.take k)).2 from by rw [pls_get hk]) ?_
    refine d_p 9 rfl (p_pure rfl) (by kernel_rfl) rfl rfl ?_
    refine d_p 12 rfl (p_fieldAddr rfl rfl fd_50_1 sz_9 rfl) (by kernel_rfl) rfl rfl ?_
    refine d_q 13 [[14]] rfl (q_load rfl rfl sz_9 aPk rfl) (by kernel_rfl) (by kernel_rfl) (by kernel_rfl) rfl ?_
    refine d_h 10 rfl (h_buildSlice (cs := [_, _, _, _]) rfl rfl sl_31 zr_3 rfl rfl rfl) (by kernel_rfl) (fun w h => h.ent aEt) rfl (fun b7 _ => ?_)
    refine d_base (fun w h => h.ent aEt) ?_
    refine d_q 11 [[]] rfl (q_call rfl fn_53 rfl (fun w1 h1 => c53 w1 _ _ [hashS (nth l k).by_, (nth l k).id, (plsI (l.take k)).2, ilen (nth l k)] (h1.vl_blk aPk) (by simp) (by intro x hx; simp only [List.mem_cons, List.mem_nil_iff, or_false] at hx; rcases hx with rfl | rfl | rfl | rfl <;> omega))) (by kernel_rfl) (by kernel_rfl) (by kernel_rfl) rfl ?_
    refine d_p 14 rfl (p_str_add rfl rfl rfl (by (try simp only [List.length_append, List.length_cons, List.length_nil, List.length_replicate, List.length_take, List.length_drop, nmB_len, List.length_cons]); omega)) (by kernel_rfl) rfl rfl ?_
    refine d_slot (show _ = Value.string (bs (nmB [hashS (nth l k).by_, (nth l k).id, (plsI (l.take k)).2, ilen (nth l k)] ++ (nth l k).by_)) from rfl) ?_
    refine d_h 15 rfl (h_callF (Cs := [.blk b3 98 2 [.pointer (some ⟨b3, 0, none⟩), .slice ga.1 (halfK nx l k).length ga.2], .own (.slice ga.1 (halfK nx l k).length ga.2) 5 1 (halfK nx l k).length ((halfK nx l k).map bv)]) rfl fn_54 rfl aPs (fun w1 h1 hf => c54b w1 b3 ga.1 (halfK nx l k).length ga.2 ((halfK nx l k).map bv) (nmB [hashS (nth l k).by_, (nth l k).id, (plsI (l.take k)).2, ilen (nth l k)] ++ (nth l k).by_) hf (by simp only [List.length_append, List.length_replicate, nmB_len, List.length_cons, List.length_nil]; omega))) (by kernel_rfl) (fun w h => h.ent aEt) rfl (fun g2 _ => ?_)
    refine d_turn [] (by kernel_rfl) ?_
    refine d_nil (by kernel_rfl) (fun w h => by first | exact h | exact h.ent aEt) ?_
    refine s_weaken (L' := [(2, _), (3, _), (6, _), (9, _), (30, _), (31, _), (32, _)]) aSx (fun _ h => h) ?_
    refine s_region ?_
    refine o_p (p_pure rfl) rfl ?_
    refine o_class (C' := HS w [] [.blk b3 98 2 [.pointer (some ⟨b3, 0, none⟩), .slice g2.1 ((halfK nx l k) ++ (nmB [hashS (nth l k).by_, (nth l k).id, (plsI (l.take k)).2, ilen (nth l k)] ++ (nth l k).by_)).length g2.2], .own (.slice g2.1 ((halfK nx l k) ++ (nmB [hashS (nth l k).by_, (nth l k).id, (plsI (l.take k)).2, ilen (nth l k)] ++ (nth l k).by_)).length g2.2) 5 1 ((halfK nx l k) ++ (nmB [hashS (nth l k).by_, (nth l k).id, (plsI (l.take k)).2, ilen (nth l k)] ++ (nth l k).by_)).length (((halfK nx l k) ++ (nmB [hashS (nth l k).by_, (nth l k).id, (plsI (l.take k)).2, ilen (nth l k)] ++ (nth l k).by_)).map bv), .blk b6 50 2 [.int .i64 (nth l k).id, .string (bs (nth l k).by_)], .own (.slice gp.1 l.length gp.2) 3 1 l.length ((plsI l).1.map nv), .blk b1 24 2 [.int .i64 nx, .slice a l.length cap]]) (fun w h => by rw [List.map_append (l₁ := (halfK nx l k)), @List.length_append _ (halfK nx l k) (nmB [hashS (nth l k).by_, (nth l k).id, (plsI (l.take k)).2, ilen (nth l k)] ++ (nth l k).by_)]; exact h.ent aEt) ?_
    refine o_q (q_call rfl fn_33 rfl (fun w1 h1 => c33 w1 (ilen (nth l k)) (by omega))) rfl ?_
    refine o_p (p_pure rfl) rfl ?_
    refine o_p (p_pure rfl) rfl ?_
    try (refine o_slot (i64w (by omega) (by omega)) ?_)
    refine o_slot (show _ = Value.int .i64 ((padN (ilen (nth l k)) : Nat) : Int) from by rw [hup.1]) ?_
    refine o_q (q_call rfl fn_27 rfl (fun w1 h1 => c27 w1 (padN (ilen (nth l k))) (by omega))) rfl ?_
    refine o_h (h_callF (Cs := [.blk b3 98 2 [.pointer (some ⟨b3, 0, none⟩), .slice g2.1 ((halfK nx l k) ++ (nmB [hashS (nth l k).by_, (nth l k).id, (plsI (l.take k)).2, ilen (nth l k)] ++ (nth l k).by_)).length g2.2], .own (.slice g2.1 ((halfK nx l k) ++ (nmB [hashS (nth l k).by_, (nth l k).id, (plsI (l.take k)).2, ilen (nth l k)] ++ (nth l k).by_)).length g2.2) 5 1 ((halfK nx l k) ++ (nmB [hashS (nth l k).by_, (nth l k).id, (plsI (l.take k)).2, ilen (nth l k)] ++ (nth l k).by_)).length (((halfK nx l k) ++ (nmB [hashS (nth l k).by_, (nth l k).id, (plsI (l.take k)).2, ilen (nth l k)] ++ (nth l k).by_)).map bv)]) rfl fn_54 rfl aPs (fun w1 h1 hf => c54b w1 b3 g2.1 ((halfK nx l k) ++ (nmB [hashS (nth l k).by_, (nth l k).id, (plsI (l.take k)).2, ilen (nth l k)] ++ (nth l k).by_)).length g2.2 (((halfK nx l k) ++ (nmB [hashS (nth l k).by_, (nth l k).id, (plsI (l.take k)).2, ilen (nth l k)] ++ (nth l k).by_)).map bv) (List.replicate (padN (ilen (nth l k))) (0 : UInt8)) hf (by simp only [List.length_append, List.length_replicate, nmB_len, List.length_cons, List.length_nil]; omega))) rfl (fun g3 _ => ?_)
    refine o_class (C' := HS w [] [.blk b3 98 2 [.pointer (some ⟨b3, 0, none⟩), .slice g3.1 (((halfK nx l k) ++ (nmB [hashS (nth l k).by_, (nth l k).id, (plsI (l.take k)).2, ilen (nth l k)] ++ (nth l k).by_)) ++ (List.replicate (padN (ilen (nth l k))) (0 : UInt8))).length g3.2], .own (.slice g3.1 (((halfK nx l k) ++ (nmB [hashS (nth l k).by_, (nth l k).id, (plsI (l.take k)).2, ilen (nth l k)] ++ (nth l k).by_)) ++ (List.replicate (padN (ilen (nth l k))) (0 : UInt8))).length g3.2) 5 1 (((halfK nx l k) ++ (nmB [hashS (nth l k).by_, (nth l k).id, (plsI (l.take k)).2, ilen (nth l k)] ++ (nth l k).by_)) ++ (List.replicate (padN (ilen (nth l k))) (0 : UInt8))).length ((((halfK nx l k) ++ (nmB [hashS (nth l k).by_, (nth l k).id, (plsI (l.take k)).2, ilen (nth l k)] ++ (nth l k).by_)) ++ (List.replicate (padN (ilen (nth l k))) (0 : UInt8))).map bv), .own (.slice gp.1 l.length gp.2) 3 1 l.length ((plsI l).1.map nv), .blk b1 24 2 [.int .i64 nx, .slice a l.length cap]]) (fun w h => by rw [List.map_append (l₁ := ((halfK nx l k) ++ (nmB [hashS (nth l k).by_, (nth l k).id, (plsI (l.take k)).2, ilen (nth l k)] ++ (nth l k).by_))), @List.length_append _ ((halfK nx l k) ++ (nmB [hashS (nth l k).by_, (nth l k).id, (plsI (l.take k)).2, ilen (nth l k)] ++ (nth l k).by_)) (List.replicate (padN (ilen (nth l k))) (0 : UInt8))]; exact h.ent aEt) ?_
    refine o_nil ?_
    refine s_blk ?_
    refine s_region ?_
    refine o_p (p_pure rfl) rfl ?_
    try (refine o_slot (i64w (by omega) (by omega)) ?_)
    refine o_p (p_pure rfl) rfl ?_
    refine o_nil ?_
    exact s_backI (k + 1, g3) (by (try simp only []); omega) (by (try simp only []); omega) aSx (fun w h => by dsimp only; rw [hsc]; exact h.ent aEt)
  · try simp only [decide_eq_true_eq, decide_eq_false_iff_not, Bool.not_eq_true', Bool.not_eq_false', Bool.and_eq_true, Bool.or_eq_true, Bool.and_eq_false_iff, Bool.or_eq_false_iff, Bool.not_true, Bool.not_false] at h5
    obtain rfl : k = l.length := by omega
    refine s_exit_to rfl ?_
    refine s_seq ?_
    refine s_region ?_
    refine o_h (h_callF (Cs := [.blk b3 98 2 [.pointer (some ⟨b3, 0, none⟩), .slice ga.1 (halfS nx l).length ga.2], .own (.slice ga.1 (halfS nx l).length ga.2) 5 1 (halfS nx l).length ((halfS nx l).map bv)]) rfl fn_57 rfl aPs (fun w1 h1 hf => c57 w1 b3 ga.1 ga.2 (halfS nx l) hf (by intro e9; rw [e9] at hhl; simp at hhl; omega))) rfl (fun _ _ => ?_)
    refine o_p (p_pure rfl) rfl ?_
    refine o_nil ?_
    exact s_retv (rs := [.tmp 2]) rfl (.tmp rfl (.nil)) (fun w' h' => ⟨by rfl, h'.below⟩)

end Go.Proofs

namespace Go.Proofs
open Go Go.RowKit Gx
set_option linter.unusedVariables false
set_option linter.unusedSimpArgs false
attribute [local irreducible] Go.Calls Gx.S Gx.O Gx.D Gx.OpP Gx.OpQ Gx.OpH

theorem fn_26 : isFn Tryz.prog 26 = true := by kernel_rfl


set_option maxRecDepth 20000 in
theorem c7 (w : World) (nx : Int) (a : Option Addr) (cap : Nat) (l : List SItm) (hs : Rw SItm.vals 2 w [] a l) (hm : l.length ≤ 100000) (hb : ∀ x ∈ l, x.by_.length ≤ 100000) : Calls Tryz.prog 7 #[.agg #[.int .i64 nx, .slice a l.length cap]] w fun en w' => en = .returned (.tuple #[.string (bs (if (stoE nx l).2 = 0 then streamS nx l else [])), .int .i64 (stoE nx l).2]) ∧ Below w.heap.size w w' := by
  refine enter (args := [_]) Tryz.func7 Tryz.ntmps7 rfl rfl (HS.refl w []) ?_
  refine s_seq ?_
  refine s_region ?_
  refine o_h (h_box rfl rfl) rfl (fun b1 _ => ?_)
  refine o_p (p_pure rfl) rfl ?_
  refine o_p (p_pure rfl) rfl ?_
  refine o_nil ?_
  refine s_seq ?_
  refine s_seq ?_
  refine s_region ?_
  refine o_q (q_loadn rfl rfl sz_24 aPk rfl) rfl ?_
  refine o_q (q_call rfl fn_25 rfl (fun w1 h1 => c25 w1 nx a cap l (hs.later h1) hm hb)) rfl ?_
  refine o_p (p_pure rfl) rfl ?_
  refine o_nil ?_
  refine s_seq ?_
  refine s_region ?_
  refine o_p (p_pure rfl) rfl ?_
  refine o_p (p_pure rfl) rfl ?_
  refine o_nil ?_
  refine s_cond rfl (fun h2 => ?_) (fun h2 => ?_)
  · try simp only [decide_eq_true_eq, decide_eq_false_iff_not, Bool.not_eq_true', Bool.not_eq_false', Bool.and_eq_true, Bool.or_eq_true, Bool.and_eq_false_iff, Bool.or_eq_false_iff, Bool.not_true, Bool.not_false] at h2
    have h0 : ¬ (stoE nx l).2 = 0 := h2
    refine s_seq ?_
    refine s_region ?_
    refine o_p (p_pure rfl) rfl ?_
    refine o_p (p_pure rfl) rfl ?_
    refine o_p (p_pure rfl) rfl ?_
    refine o_nil ?_
    exact s_retv (rs := [.tmp 2, .tmp 3]) rfl (.tmp rfl (.tmp rfl (.nil))) (fun w' h' => ⟨by rw [if_neg h0]; rfl, h'.below⟩)
  · try simp only [decide_eq_true_eq, decide_eq_false_iff_not, Bool.not_eq_true', Bool.not_eq_false', Bool.and_eq_true, Bool.or_eq_true, Bool.and_eq_false_iff, Bool.or_eq_false_iff, Bool.not_true, Bool.not_false] at h2
    have h0 : (stoE nx l).2 = 0 := h2
    obtain ⟨hnx, hl60, hit9, hpl9⟩ := sto_ok h0
    have hhl := halfS_len nx l
    refine s_skip ?_
    refine s_seq ?_
    refine s_region ?_
    refine o_q (q_loadn rfl rfl sz_24 aPk rfl) rfl ?_
    refine o_q (q_call rfl fn_26 rfl (fun w1 h1 => c26 w1 nx a cap l (hs.later h1) hm hb h0)) rfl ?_
    refine o_p (p_pure rfl) rfl ?_
    refine o_nil ?_
    refine s_seq ?_
    refine s_region ?_
    refine o_p (p_pure rfl) rfl ?_
    refine o_p (p_pure rfl) rfl ?_
    refine o_p (p_len_str rfl rfl Tryz.underlying9) rfl ?_
    refine o_p (p_pure rfl) rfl ?_
    try (refine o_slot (i64w (by omega) (by omega)) ?_)
    refine o_slot (show _ = Value.int .i64 ((8192 - (halfS nx l).length : Nat) : Int) from congrArg (Value.int .i64) (by omega)) ?_
    refine o_q (q_call rfl fn_27 rfl (fun w1 h1 => c27 w1 (8192 - (halfS nx l).length) (by omega))) rfl ?_
    refine o_p (p_str_add rfl rfl rfl (by (try simp only [List.length_append, List.length_cons, List.length_nil, List.length_replicate, List.length_take, List.length_drop, List.length_append, List.length_replicate]); omega)) rfl ?_
    refine o_p (p_pure rfl) rfl ?_
    refine o_p (p_str_add rfl rfl rfl (by (try simp only [List.length_append, List.length_cons, List.length_nil, List.length_replicate, List.length_take, List.length_drop, List.length_append, List.length_replicate]); omega)) rfl ?_
    refine o_slot (show _ = Value.string (bs (streamS nx l)) from by rw [streamS]) ?_
    refine o_p (p_pure rfl) rfl ?_
    refine o_p (p_pure rfl) rfl ?_
    refine o_nil ?_
    exact s_retv (rs := [.tmp 2, .tmp 3]) rfl (.tmp rfl (.tmp rfl (.nil))) (fun w' h' => ⟨by rw [if_pos h0, h0]; rfl, h'.below⟩)

end Go.Proofs

namespace Go.Proofs
open Go Go.RowKit Gx
set_option linter.unusedVariables false
set_option linter.unusedSimpArgs false
attribute [local irreducible] Go.Calls Gx.S Gx.O Gx.D Gx.OpP Gx.OpQ Gx.OpH

theorem fn_20 : isFn Tryz.prog 20 = true := by kernel_rfl
theorem fn_21 : isFn Tryz.prog 21 = true := by kernel_rfl
theorem fn_19 : isFn Tryz.prog 19 = true := by kernel_rfl
theorem fn_22 : isFn Tryz.prog 22 = true := by kernel_rfl
theorem fn_23 : isFn Tryz.prog 23 = true := by kernel_rfl
theorem fn_7 : isFn Tryz.prog 7 = true := by kernel_rfl
theorem fn_24 : isFn Tryz.prog 24 = true := by kernel_rfl
theorem fn_12 : isFn Tryz.prog 12 = true := by kernel_rfl


theorem rw_nil {α : Type} [Inhabited α] {vals : α → List Value} {sz : Nat} {w : World} : Rw vals sz w [] none ([] : List α) := ⟨fun h => absurd h (Nat.lt_irrefl 0)⟩

set_option maxRecDepth 20000 in
set_option maxHeartbeats 2000000 in
theorem c5 (w : World)  : Calls Tryz.prog 5 #[] w fun en w' => en = .returned (.bool true) ∧ Below w.heap.size w w' := by
  refine enter (args := []) Tryz.func5 Tryz.ntmps5 rfl rfl (HS.refl w []) ?_
  refine s_seq ?_
  refine s_region ?_
  refine o_p (p_pure rfl) rfl ?_
  refine o_nil ?_
  refine s_seq ?_
  refine s_region ?_
  refine o_q (q_call rfl fn_20 rfl (fun w1 h1 => c20 w1)) rfl ?_
  refine o_q (q_call rfl fn_21 rfl (fun w1 h1 => c21 w1)) rfl ?_
  refine o_h (h_call rfl fn_19 rfl (fun w1 h1 => by have h9 := c19 w1 256 none 0 [] dA none 0 none 0 rw_nil (by decide) (by intro x hx; cases hx) rw_nil rw_nil (by decide) (by decide); rw [aw_1] at h9; exact h9)) rfl (fun gA _ => ?_)
  refine o_p (p_pure rfl) rfl ?_
  refine o_p (p_pure rfl) rfl ?_
  refine o_p (p_pure rfl) rfl ?_
  refine o_p (p_pure rfl) rfl ?_
  refine o_h (h_alloc rfl zr_24) rfl (fun b1 _ => ?_)
  refine o_h0 (h_store rfl rfl rfl sz_24 rfl aPt (by simp only [setMany_length, List.length_set, List.length_cons, List.length_nil, List.length_map]; omega) rfl) (fun _ _ => ?_)
  refine o_p (p_pure rfl) rfl ?_
  refine o_p (p_pure rfl) rfl ?_
  refine o_nil ?_
  refine s_seq ?_
  refine s_cutI (α := Nat × Option Addr × Nat) [4, 5, 6, 22, 23, 24, 25, 26, 27, 28] (fun x => [(4, .pointer (some ⟨x.1, 0, none⟩)), (5, .int .i64 257), (6, .int .i64 0)]) (fun x => HS w [] [.blk x.1 24 2 [.int .i64 258, .slice x.2.1 2 x.2.2], .own (.slice x.2.1 lB.length x.2.2) 50 2 lB.length (lB.flatMap SItm.vals), .blk b1 24 2 [.int .i64 257, .slice gA.1 1 gA.2], .own (.slice gA.1 lA.length gA.2) 50 2 lA.length (lA.flatMap SItm.vals)]) (fun _ => True) ?_ ?_
  · skip
    refine s_draw [8] mixed ?_
    refine d_q 0 [[]] rfl (q_loadn rfl rfl sz_24 aPk rfl) (by kernel_rfl) (by kernel_rfl) (by kernel_rfl) rfl ?_
    refine d_two 1 7 rfl rfl  (h_call rfl fn_22 rfl (fun w1 h1 => c22 w1)) (h_alloc rfl zr_24) (by kernel_rfl) (fun w h => h.ent aEt) rfl rfl  (fun gO _ => ?_) (fun b2 _ => ?_)
    · skip
      refine d_base (fun w h => h.ent aEt) ?_
      refine d_two 2 7 rfl rfl  (h_call rfl fn_19 rfl (fun w1 h1 => by have h9 := c19 w1 257 gA.1 gA.2 lA dB gO.1 gO.2 none 0 (HS.rw_own (l := lA) sv2 h1 aPk rfl) (by decide) (by intro x hx; simp only [lA, lB, List.mem_cons, List.mem_nil_iff, or_false] at hx; subst hx <;> decide) (HS.rw_own (l := dB.en) av4 h1 aPk rfl) rw_nil (by decide) (by decide); rw [aw_2] at h9; exact h9)) (h_alloc rfl zr_24) (by kernel_rfl) (fun w h => h.ent aEt) rfl rfl  (fun gB _ => ?_) (fun b3 _ => ?_)
      · skip
        refine d_base (fun w h => h.ent aEt) ?_
        refine d_p 3 rfl (p_pure rfl) (by kernel_rfl) rfl rfl ?_
        refine d_p 4 rfl (p_pure rfl) (by kernel_rfl) rfl rfl ?_
        refine d_p 5 rfl (p_pure rfl) (by kernel_rfl) rfl rfl ?_
        refine d_p 6 rfl (p_pure rfl) (by kernel_rfl) rfl rfl ?_
        refine d_h 7 rfl (h_alloc rfl zr_24) (by kernel_rfl) (fun w h => h.ent aEt) rfl (fun b4 _ => ?_)
        refine d_base (fun w h => h.ent aEt) ?_
        refine d_h0 8 rfl (h_store rfl rfl rfl sz_24 rfl aPt (by simp only [setMany_length, List.length_set, List.length_cons, List.length_nil, List.length_map]; omega) rfl) (by kernel_rfl) (fun w h => h.ent aEt) (fun _ _ => ?_)
        refine d_turn [] (by kernel_rfl) ?_
        refine d_p 9 rfl (p_pure rfl) (by kernel_rfl) rfl rfl ?_
        refine d_p 10 rfl (p_pure rfl) (by kernel_rfl) rfl rfl ?_
        refine d_nil (by kernel_rfl) (fun w h => by first | exact h | exact h.ent aEt) ?_
        exact s_joinI (b4, gB) trivial aSx (fun w h => h.ent aEt)
      · skip
        refine d_base (fun w h => h.ent aEt) ?_
        refine d_h 2 rfl (h_call rfl fn_19 rfl (fun w1 h1 => by have h9 := c19 w1 257 gA.1 gA.2 lA dB gO.1 gO.2 none 0 (HS.rw_own (l := lA) sv2 h1 aPk rfl) (by decide) (by intro x hx; simp only [lA, lB, List.mem_cons, List.mem_nil_iff, or_false] at hx; subst hx <;> decide) (HS.rw_own (l := dB.en) av4 h1 aPk rfl) rw_nil (by decide) (by decide); rw [aw_2] at h9; exact h9)) (by kernel_rfl) (fun w h => h.ent aEt) rfl (fun gB _ => ?_)
        refine d_base (fun w h => h.ent aEt) ?_
        refine d_p 3 rfl (p_pure rfl) (by kernel_rfl) rfl rfl ?_
        refine d_p 4 rfl (p_pure rfl) (by kernel_rfl) rfl rfl ?_
        refine d_p 5 rfl (p_pure rfl) (by kernel_rfl) rfl rfl ?_
        refine d_p 6 rfl (p_pure rfl) (by kernel_rfl) rfl rfl ?_
        refine d_h0 8 rfl (h_store rfl rfl rfl sz_24 rfl aPt (by simp only [setMany_length, List.length_set, List.length_cons, List.length_nil, List.length_map]; omega) rfl) (by kernel_rfl) (fun w h => h.ent aEt) (fun _ _ => ?_)
        refine d_turn [] (by kernel_rfl) ?_
        refine d_p 9 rfl (p_pure rfl) (by kernel_rfl) rfl rfl ?_
        refine d_p 10 rfl (p_pure rfl) (by kernel_rfl) rfl rfl ?_
        refine d_nil (by kernel_rfl) (fun w h => by first | exact h | exact h.ent aEt) ?_
        exact s_joinI (b3, gB) trivial aSx (fun w h => h.ent aEt)
    · skip
      refine d_base (fun w h => h.ent aEt) ?_
      refine d_h 1 rfl (h_call rfl fn_22 rfl (fun w1 h1 => c22 w1)) (by kernel_rfl) (fun w h => h.ent aEt) rfl (fun gO _ => ?_)
      refine d_base (fun w h => h.ent aEt) ?_
      refine d_h 2 rfl (h_call rfl fn_19 rfl (fun w1 h1 => by have h9 := c19 w1 257 gA.1 gA.2 lA dB gO.1 gO.2 none 0 (HS.rw_own (l := lA) sv2 h1 aPk rfl) (by decide) (by intro x hx; simp only [lA, lB, List.mem_cons, List.mem_nil_iff, or_false] at hx; subst hx <;> decide) (HS.rw_own (l := dB.en) av4 h1 aPk rfl) rw_nil (by decide) (by decide); rw [aw_2] at h9; exact h9)) (by kernel_rfl) (fun w h => h.ent aEt) rfl (fun gB _ => ?_)
      refine d_base (fun w h => h.ent aEt) ?_
      refine d_p 3 rfl (p_pure rfl) (by kernel_rfl) rfl rfl ?_
      refine d_p 4 rfl (p_pure rfl) (by kernel_rfl) rfl rfl ?_
      refine d_p 5 rfl (p_pure rfl) (by kernel_rfl) rfl rfl ?_
      refine d_p 6 rfl (p_pure rfl) (by kernel_rfl) rfl rfl ?_
      refine d_h0 8 rfl (h_store rfl rfl rfl sz_24 rfl aPt (by simp only [setMany_length, List.length_set, List.length_cons, List.length_nil, List.length_map]; omega) rfl) (by kernel_rfl) (fun w h => h.ent aEt) (fun _ _ => ?_)
      refine d_turn [] (by kernel_rfl) ?_
      refine d_p 9 rfl (p_pure rfl) (by kernel_rfl) rfl rfl ?_
      refine d_p 10 rfl (p_pure rfl) (by kernel_rfl) rfl rfl ?_
      refine d_nil (by kernel_rfl) (fun w h => by first | exact h | exact h.ent aEt) ?_
      exact s_joinI (b2, gB) trivial aSx (fun w h => h.ent aEt)
  · intro x hx
    refine s_seq ?_
    refine s_region ?_
    refine o_q (q_loadn rfl rfl sz_24 aPk rfl) rfl ?_
    refine o_h (h_call rfl fn_23 rfl (fun w1 h1 => by have h9 := c23 w1 258 x.2.1 x.2.2 lB (HS.rw_own (l := lB) sv2 h1 aPk rfl) (by decide) (by intro x hx; simp only [lA, lB, List.mem_cons, List.mem_nil_iff, or_false] at hx; rcases hx with rfl | rfl <;> decide); rw [if_pos aw_3, aw_3, aw_4] at h9; exact h9)) rfl (fun gP _ => ?_)
    refine o_p (p_pure rfl) rfl ?_
    refine o_p (p_pure rfl) rfl ?_
    refine o_p (p_pure rfl) rfl ?_
    refine o_p (p_pure rfl) rfl ?_
    refine o_p (p_pure rfl) rfl ?_
    refine o_p (p_pure rfl) rfl ?_
    refine o_p (p_pure rfl) rfl ?_
    refine o_nil ?_
    refine s_seq ?_
    refine s_region ?_
    refine o_q (q_loadn rfl rfl sz_24 aPk rfl) rfl ?_
    refine o_q (q_call rfl fn_7 rfl (fun w1 h1 => by have h9 := c7 w1 257 gA.1 gA.2 lA (HS.rw_own (l := lA) sv2 h1 aPk rfl) (by decide) (by intro x hx; simp only [lA, lB, List.mem_cons, List.mem_nil_iff, or_false] at hx; subst hx <;> decide); rw [if_pos aw_5, aw_5] at h9; exact h9)) rfl ?_
    refine o_p (p_pure rfl) rfl ?_
    refine o_p (p_pure rfl) rfl ?_
    refine o_p (p_pure rfl) rfl ?_
    refine o_p (p_pure rfl) rfl ?_
    refine o_p (p_pure rfl) rfl ?_
    refine o_nil ?_
    refine s_seq ?_
    refine s_weaken (L' := [(0, _), (2, _), (3, _), (4, _), (5, _), (6, _), (7, _), (8, _), (9, _), (10, _), (11, _)]) aSx (fun _ h => h) ?_
    refine s_region ?_
    refine o_q (q_loadn rfl rfl sz_24 aPk rfl) rfl ?_
    refine o_h (h_buildSlice (cs := [_]) rfl rfl sl_31 zr_3 rfl rfl rfl) rfl (fun b5 _ => ?_)
    refine o_h (h_call rfl fn_24 rfl (fun w1 h1 => by have h9 := c24 w1 258 x.2.1 x.2.2 lB (some ⟨b5, 0, none⟩) 1 [257] (HS.rw_own (l := lB) sv2 h1 aPk rfl) (by decide) (by intro x hx; simp only [lA, lB, List.mem_cons, List.mem_nil_iff, or_false] at hx; rcases hx with rfl | rfl <;> decide) (h1.vl_blk aPk) (by decide) (by intro x hx; simp only [List.mem_cons, List.mem_nil_iff, or_false] at hx; subst hx; decide); rw [aw_6, aw_7] at h9; exact h9)) rfl (fun gC _ => ?_)
    refine o_p (p_pure rfl) rfl ?_
    refine o_p (p_pure rfl) rfl ?_
    refine o_p (p_pure rfl) rfl ?_
    refine o_p (p_pure rfl) rfl ?_
    refine o_h (h_alloc rfl zr_24) rfl (fun b6 _ => ?_)
    refine o_h0 (h_store rfl rfl rfl sz_24 rfl aPt (by simp only [setMany_length, List.length_set, List.length_cons, List.length_nil, List.length_map]; omega) rfl) (fun _ _ => ?_)
    refine o_p (p_pure rfl) rfl ?_
    refine o_p (p_pure rfl) rfl ?_
    refine o_nil ?_
    refine s_seq ?_
    refine s_region ?_
    refine o_p (p_pure rfl) rfl ?_
    refine o_p (p_pure rfl) rfl ?_
    refine o_p (p_pure rfl) rfl ?_
    refine o_and 3 49 52 _ _ rfl
      (by
        intro hg7
        have hs8 := hg7; try simp only [decide_eq_true_eq, decide_eq_false_iff_not, Bool.not_eq_true', Bool.not_eq_false', Bool.and_eq_true, Bool.or_eq_true, Bool.and_eq_false_iff, Bool.or_eq_false_iff, Bool.not_true, Bool.not_false] at hs8
        refine o_on 49 _ rfl rfl hg7 ?_
        refine o_p (p_pure rfl) rfl ?_
        refine o_on 49 _ rfl rfl hg7 ?_
        refine o_p (p_pure rfl) rfl ?_
        refine o_p (p_pickt rfl rfl hg7 rfl) rfl ?_
        refine o_nil ?_
        exact s_joinN 3 52 _ rfl rfl rfl (fun w h => by first | exact h | exact h.ent aEt))
      (by
        intro hg9
        have hs10 := hg9; try simp only [decide_eq_true_eq, decide_eq_false_iff_not, Bool.not_eq_true', Bool.not_eq_false', Bool.and_eq_true, Bool.or_eq_true, Bool.and_eq_false_iff, Bool.or_eq_false_iff, Bool.not_true, Bool.not_false] at hs10
        refine o_off 49 _ rfl rfl hg9 rfl ?_
        refine o_off 49 _ rfl rfl hg9 rfl ?_
        refine o_p (p_pickf rfl rfl hg9 rfl) rfl ?_
        refine o_nil ?_
        exact s_joinN 3 52 _ rfl rfl rfl (fun w h => by first | exact h | exact h.ent aEt)) ?_
    refine o_p (p_pure rfl) rfl ?_
    refine o_and 3 53 56 _ _ rfl
      (by
        intro hg11
        have hs12 := hg11; try simp only [decide_eq_true_eq, decide_eq_false_iff_not, Bool.not_eq_true', Bool.not_eq_false', Bool.and_eq_true, Bool.or_eq_true, Bool.and_eq_false_iff, Bool.or_eq_false_iff, Bool.not_true, Bool.not_false] at hs12
        refine o_on 53 _ rfl rfl hg11 ?_
        refine o_p (p_pure rfl) rfl ?_
        refine o_on 53 _ rfl rfl hg11 ?_
        refine o_p (p_pure rfl) rfl ?_
        refine o_p (p_pickt rfl rfl hg11 rfl) rfl ?_
        refine o_nil ?_
        exact s_joinN 3 56 _ rfl rfl rfl (fun w h => by first | exact h | exact h.ent aEt))
      (by
        intro hg13
        have hs14 := hg13; try simp only [decide_eq_true_eq, decide_eq_false_iff_not, Bool.not_eq_true', Bool.not_eq_false', Bool.and_eq_true, Bool.or_eq_true, Bool.and_eq_false_iff, Bool.or_eq_false_iff, Bool.not_true, Bool.not_false] at hs14
        refine o_off 53 _ rfl rfl hg13 rfl ?_
        refine o_off 53 _ rfl rfl hg13 rfl ?_
        refine o_p (p_pickf rfl rfl hg13 rfl) rfl ?_
        refine o_nil ?_
        exact s_joinN 3 56 _ rfl rfl rfl (fun w h => by first | exact h | exact h.ent aEt)) ?_
    refine o_p (p_pure rfl) rfl ?_
    refine o_and 3 57 60 _ _ rfl
      (by
        intro hg15
        have hs16 := hg15; try simp only [decide_eq_true_eq, decide_eq_false_iff_not, Bool.not_eq_true', Bool.not_eq_false', Bool.and_eq_true, Bool.or_eq_true, Bool.and_eq_false_iff, Bool.or_eq_false_iff, Bool.not_true, Bool.not_false] at hs16
        refine o_on 57 _ rfl rfl hg15 ?_
        refine o_p (p_pure rfl) rfl ?_
        refine o_on 57 _ rfl rfl hg15 ?_
        refine o_p (p_pure rfl) rfl ?_
        refine o_p (p_pickt rfl rfl hg15 rfl) rfl ?_
        refine o_nil ?_
        exact s_joinN 3 60 _ rfl rfl rfl (fun w h => by first | exact h | exact h.ent aEt))
      (by
        intro hg17
        have hs18 := hg17; try simp only [decide_eq_true_eq, decide_eq_false_iff_not, Bool.not_eq_true', Bool.not_eq_false', Bool.and_eq_true, Bool.or_eq_true, Bool.and_eq_false_iff, Bool.or_eq_false_iff, Bool.not_true, Bool.not_false] at hs18
        refine o_off 57 _ rfl rfl hg17 rfl ?_
        refine o_off 57 _ rfl rfl hg17 rfl ?_
        refine o_p (p_pickf rfl rfl hg17 rfl) rfl ?_
        refine o_nil ?_
        exact s_joinN 3 60 _ rfl rfl rfl (fun w h => by first | exact h | exact h.ent aEt)) ?_
    refine o_p (p_pure rfl) rfl ?_
    refine o_and 3 61 64 _ _ rfl
      (by
        intro hg19
        have hs20 := hg19; try simp only [decide_eq_true_eq, decide_eq_false_iff_not, Bool.not_eq_true', Bool.not_eq_false', Bool.and_eq_true, Bool.or_eq_true, Bool.and_eq_false_iff, Bool.or_eq_false_iff, Bool.not_true, Bool.not_false] at hs20
        refine o_on 61 _ rfl rfl hg19 ?_
        refine o_p (p_pure rfl) rfl ?_
        refine o_on 61 _ rfl rfl hg19 ?_
        refine o_p (p_pure rfl) rfl ?_
        refine o_p (p_pickt rfl rfl hg19 rfl) rfl ?_
        refine o_nil ?_
        exact s_joinN 3 64 _ rfl rfl rfl (fun w h => by first | exact h | exact h.ent aEt))
      (by
        intro hg21
        have hs22 := hg21; try simp only [decide_eq_true_eq, decide_eq_false_iff_not, Bool.not_eq_true', Bool.not_eq_false', Bool.and_eq_true, Bool.or_eq_true, Bool.and_eq_false_iff, Bool.or_eq_false_iff, Bool.not_true, Bool.not_false] at hs22
        refine o_off 61 _ rfl rfl hg21 rfl ?_
        refine o_off 61 _ rfl rfl hg21 rfl ?_
        refine o_p (p_pickf rfl rfl hg21 rfl) rfl ?_
        refine o_nil ?_
        exact s_joinN 3 64 _ rfl rfl rfl (fun w h => by first | exact h | exact h.ent aEt)) ?_
    refine o_p (p_pure rfl) rfl ?_
    refine o_and 4 65 69 _ _ rfl
      (by
        intro hg23
        have hs24 := hg23; try simp only [decide_eq_true_eq, decide_eq_false_iff_not, Bool.not_eq_true', Bool.not_eq_false', Bool.and_eq_true, Bool.or_eq_true, Bool.and_eq_false_iff, Bool.or_eq_false_iff, Bool.not_true, Bool.not_false] at hs24
        refine o_on 65 _ rfl rfl hg23 ?_
        refine o_p (p_pure rfl) rfl ?_
        refine o_on 65 _ rfl rfl hg23 ?_
        refine o_h (h_buildSlice (cs := [_, _]) rfl rfl sl_31 zr_3 rfl rfl rfl) rfl (fun b25 _ => ?_)
        refine o_on 65 _ rfl rfl hg23 ?_
        refine o_q (q_call rfl fn_12 rfl (fun w1 h1 => c12 w1 gP.1 gP.2 (some ⟨b25, 0, none⟩) 2 [16, 48] (HS.vl_own (cs := [.int .i64 16, .int .i64 48]) h1 aPk) (h1.vl_blk aPk) (by decide))) rfl ?_
        refine o_p (p_pickt rfl rfl hg23 rfl) rfl ?_
        refine o_nil ?_
        exact s_joinN 4 69 _ rfl rfl rfl (fun w h => by first | exact h | exact h.ent aEt))
      (by
        intro hg26
        have hs27 := hg26; try simp only [decide_eq_true_eq, decide_eq_false_iff_not, Bool.not_eq_true', Bool.not_eq_false', Bool.and_eq_true, Bool.or_eq_true, Bool.and_eq_false_iff, Bool.or_eq_false_iff, Bool.not_true, Bool.not_false] at hs27
        refine o_off 65 _ rfl rfl hg26 rfl ?_
        refine o_off 65 _ rfl rfl hg26 rfl ?_
        refine o_off 65 _ rfl rfl hg26 rfl ?_
        refine o_p (p_pickf rfl rfl hg26 rfl) rfl ?_
        refine o_nil ?_
        exact s_joinN 4 69 _ rfl rfl rfl (fun w h => by first | exact h | exact h.ent aEt)) ?_
    refine o_p (p_pure rfl) rfl ?_
    refine o_and 3 70 73 _ _ rfl
      (by
        intro hg28
        have hs29 := hg28; try simp only [decide_eq_true_eq, decide_eq_false_iff_not, Bool.not_eq_true', Bool.not_eq_false', Bool.and_eq_true, Bool.or_eq_true, Bool.and_eq_false_iff, Bool.or_eq_false_iff, Bool.not_true, Bool.not_false] at hs29
        refine o_on 70 _ rfl rfl hg28 ?_
        refine o_p (p_pure rfl) rfl ?_
        refine o_on 70 _ rfl rfl hg28 ?_
        refine o_p (p_pure rfl) rfl ?_
        refine o_p (p_pickt rfl rfl hg28 rfl) rfl ?_
        refine o_nil ?_
        exact s_joinN 3 73 _ rfl rfl rfl (fun w h => by first | exact h | exact h.ent aEt))
      (by
        intro hg30
        have hs31 := hg30; try simp only [decide_eq_true_eq, decide_eq_false_iff_not, Bool.not_eq_true', Bool.not_eq_false', Bool.and_eq_true, Bool.or_eq_true, Bool.and_eq_false_iff, Bool.or_eq_false_iff, Bool.not_true, Bool.not_false] at hs31
        refine o_off 70 _ rfl rfl hg30 rfl ?_
        refine o_off 70 _ rfl rfl hg30 rfl ?_
        refine o_p (p_pickf rfl rfl hg30 rfl) rfl ?_
        refine o_nil ?_
        exact s_joinN 3 73 _ rfl rfl rfl (fun w h => by first | exact h | exact h.ent aEt)) ?_
    refine o_p (p_pure rfl) rfl ?_
    refine o_and 3 74 77 _ _ rfl
      (by
        intro hg32
        have hs33 := hg32; try simp only [decide_eq_true_eq, decide_eq_false_iff_not, Bool.not_eq_true', Bool.not_eq_false', Bool.and_eq_true, Bool.or_eq_true, Bool.and_eq_false_iff, Bool.or_eq_false_iff, Bool.not_true, Bool.not_false] at hs33
        refine o_on 74 _ rfl rfl hg32 ?_
        refine o_p (p_pure rfl) rfl ?_
        refine o_on 74 _ rfl rfl hg32 ?_
        refine o_p (p_pure rfl) rfl ?_
        refine o_p (p_pickt rfl rfl hg32 rfl) rfl ?_
        refine o_nil ?_
        exact s_joinN 3 77 _ rfl rfl rfl (fun w h => by first | exact h | exact h.ent aEt))
      (by
        intro hg34
        have hs35 := hg34; try simp only [decide_eq_true_eq, decide_eq_false_iff_not, Bool.not_eq_true', Bool.not_eq_false', Bool.and_eq_true, Bool.or_eq_true, Bool.and_eq_false_iff, Bool.or_eq_false_iff, Bool.not_true, Bool.not_false] at hs35
        refine o_off 74 _ rfl rfl hg34 rfl ?_
        refine o_off 74 _ rfl rfl hg34 rfl ?_
        refine o_p (p_pickf rfl rfl hg34 rfl) rfl ?_
        refine o_nil ?_
        exact s_joinN 3 77 _ rfl rfl rfl (fun w h => by first | exact h | exact h.ent aEt)) ?_
    refine o_p (p_pure rfl) rfl ?_
    refine o_and 4 78 82 _ _ rfl
      (by
        intro hg36
        have hs37 := hg36; try simp only [decide_eq_true_eq, decide_eq_false_iff_not, Bool.not_eq_true', Bool.not_eq_false', Bool.and_eq_true, Bool.or_eq_true, Bool.and_eq_false_iff, Bool.or_eq_false_iff, Bool.not_true, Bool.not_false] at hs37
        refine o_on 78 _ rfl rfl hg36 ?_
        refine o_p (p_pure rfl) rfl ?_
        refine o_on 78 _ rfl rfl hg36 ?_
        refine o_p (p_len_str rfl rfl Tryz.underlying9) rfl ?_
        refine o_slot (show _ = Value.int .i64 8240 from by rw [aw_8]; rfl) ?_
        refine o_on 78 _ rfl rfl hg36 ?_
        refine o_p (p_pure rfl) rfl ?_
        refine o_p (p_pickt rfl rfl hg36 rfl) rfl ?_
        refine o_nil ?_
        exact s_joinN 4 82 _ rfl rfl rfl (fun w h => by first | exact h | exact h.ent aEt))
      (by
        intro hg38
        have hs39 := hg38; try simp only [decide_eq_true_eq, decide_eq_false_iff_not, Bool.not_eq_true', Bool.not_eq_false', Bool.and_eq_true, Bool.or_eq_true, Bool.and_eq_false_iff, Bool.or_eq_false_iff, Bool.not_true, Bool.not_false] at hs39
        refine o_off 78 _ rfl rfl hg38 rfl ?_
        refine o_off 78 _ rfl rfl hg38 rfl ?_
        refine o_off 78 _ rfl rfl hg38 rfl ?_
        refine o_p (p_pickf rfl rfl hg38 rfl) rfl ?_
        refine o_nil ?_
        exact s_joinN 4 82 _ rfl rfl rfl (fun w h => by first | exact h | exact h.ent aEt)) ?_
    refine o_p (p_pure rfl) rfl ?_
    refine o_and 3 83 86 _ _ rfl
      (by
        intro hg40
        have hs41 := hg40; try simp only [decide_eq_true_eq, decide_eq_false_iff_not, Bool.not_eq_true', Bool.not_eq_false', Bool.and_eq_true, Bool.or_eq_true, Bool.and_eq_false_iff, Bool.or_eq_false_iff, Bool.not_true, Bool.not_false] at hs41
        refine o_on 83 _ rfl rfl hg40 ?_
        refine o_p (p_pure rfl) rfl ?_
        refine o_on 83 _ rfl rfl hg40 ?_
        refine o_p (p_pure rfl) rfl ?_
        refine o_p (p_pickt rfl rfl hg40 rfl) rfl ?_
        refine o_nil ?_
        exact s_joinN 3 86 _ rfl rfl rfl (fun w h => by first | exact h | exact h.ent aEt))
      (by
        intro hg42
        have hs43 := hg42; try simp only [decide_eq_true_eq, decide_eq_false_iff_not, Bool.not_eq_true', Bool.not_eq_false', Bool.and_eq_true, Bool.or_eq_true, Bool.and_eq_false_iff, Bool.or_eq_false_iff, Bool.not_true, Bool.not_false] at hs43
        refine o_off 83 _ rfl rfl hg42 rfl ?_
        refine o_off 83 _ rfl rfl hg42 rfl ?_
        refine o_p (p_pickf rfl rfl hg42 rfl) rfl ?_
        refine o_nil ?_
        exact s_joinN 3 86 _ rfl rfl rfl (fun w h => by first | exact h | exact h.ent aEt)) ?_
    refine o_p (p_pure rfl) rfl ?_
    refine o_and 4 87 91 _ _ rfl
      (by
        intro hg44
        have hs45 := hg44; try simp only [decide_eq_true_eq, decide_eq_false_iff_not, Bool.not_eq_true', Bool.not_eq_false', Bool.and_eq_true, Bool.or_eq_true, Bool.and_eq_false_iff, Bool.or_eq_false_iff, Bool.not_true, Bool.not_false] at hs45
        refine o_on 87 _ rfl rfl hg44 ?_
        refine o_p (p_pure rfl) rfl ?_
        refine o_on 87 _ rfl rfl hg44 ?_
        refine o_h (h_buildSlice (cs := [_]) rfl rfl sl_31 zr_3 rfl rfl rfl) rfl (fun b46 _ => ?_)
        refine o_on 87 _ rfl rfl hg44 ?_
        refine o_q (q_call rfl fn_12 rfl (fun w1 h1 => c12 w1 gC.2.1 gC.2.2 (some ⟨b46, 0, none⟩) 1 [256] (HS.vl_own (cs := [.int .i64 256]) h1 aPk) (h1.vl_blk aPk) (by decide))) rfl ?_
        refine o_p (p_pickt rfl rfl hg44 rfl) rfl ?_
        refine o_nil ?_
        exact s_joinN 4 91 _ rfl rfl rfl (fun w h => by first | exact h | exact h.ent aEt))
      (by
        intro hg47
        have hs48 := hg47; try simp only [decide_eq_true_eq, decide_eq_false_iff_not, Bool.not_eq_true', Bool.not_eq_false', Bool.and_eq_true, Bool.or_eq_true, Bool.and_eq_false_iff, Bool.or_eq_false_iff, Bool.not_true, Bool.not_false] at hs48
        refine o_off 87 _ rfl rfl hg47 rfl ?_
        refine o_off 87 _ rfl rfl hg47 rfl ?_
        refine o_off 87 _ rfl rfl hg47 rfl ?_
        refine o_p (p_pickf rfl rfl hg47 rfl) rfl ?_
        refine o_nil ?_
        exact s_joinN 4 91 _ rfl rfl rfl (fun w h => by first | exact h | exact h.ent aEt)) ?_
    refine o_p (p_pure rfl) rfl ?_
    refine o_and 4 92 96 _ _ rfl
      (by
        intro hg49
        have hs50 := hg49; try simp only [decide_eq_true_eq, decide_eq_false_iff_not, Bool.not_eq_true', Bool.not_eq_false', Bool.and_eq_true, Bool.or_eq_true, Bool.and_eq_false_iff, Bool.or_eq_false_iff, Bool.not_true, Bool.not_false] at hs50
        refine o_on 92 _ rfl rfl hg49 ?_
        refine o_p (p_fieldAddr rfl rfl fd_24_0 sz_3 rfl) rfl ?_
        refine o_on 92 _ rfl rfl hg49 ?_
        refine o_q (q_load rfl rfl sz_3 aPk rfl) rfl ?_
        refine o_on 92 _ rfl rfl hg49 ?_
        refine o_p (p_pure rfl) rfl ?_
        refine o_p (p_pickt rfl rfl hg49 rfl) rfl ?_
        refine o_nil ?_
        exact s_joinN 4 96 _ rfl rfl rfl (fun w h => by first | exact h | exact h.ent aEt))
      (by
        intro hg51
        have hs52 := hg51; try simp only [decide_eq_true_eq, decide_eq_false_iff_not, Bool.not_eq_true', Bool.not_eq_false', Bool.and_eq_true, Bool.or_eq_true, Bool.and_eq_false_iff, Bool.or_eq_false_iff, Bool.not_true, Bool.not_false] at hs52
        refine o_off 92 _ rfl rfl hg51 rfl ?_
        refine o_off 92 _ rfl rfl hg51 rfl ?_
        refine o_off 92 _ rfl rfl hg51 rfl ?_
        refine o_p (p_pickf rfl rfl hg51 rfl) rfl ?_
        refine o_nil ?_
        exact s_joinN 4 96 _ rfl rfl rfl (fun w h => by first | exact h | exact h.ent aEt)) ?_
    refine o_p (p_pure rfl) rfl ?_
    refine o_nil ?_
    exact s_retv (rs := [.tmp 0]) rfl (.tmp rfl (.nil)) (fun w' h' => ⟨by rfl, h'.below⟩)

end Go.Proofs

namespace Go.Proofs
open Go Go.RowKit Gx
set_option linter.unusedVariables false
set_option linter.unusedSimpArgs false
attribute [local irreducible] Go.Calls Gx.S Gx.O Gx.D Gx.OpP Gx.OpQ Gx.OpH

theorem fn_87 : isFn Tryz.prog 87 = true := by kernel_rfl
theorem fn_63 : isFn Tryz.prog 63 = true := by kernel_rfl
theorem zr_65 : tzero Tryz.prog 65 = some [.string (bs []), .string (bs [])] := by kernel_rfl
theorem ar_65 : tar Tryz.prog 65 = some (2, 9, 1) := by kernel_rfl
theorem sz_65 : tsz Tryz.prog 65 = some (2, true) := by kernel_rfl
theorem fn_89 : isFn Tryz.prog 89 = true := by kernel_rfl
theorem fn_88 : isFn Tryz.prog 88 = true := by kernel_rfl
theorem fn_59 : isFn Tryz.prog 59 = true := by kernel_rfl
theorem fn_31 : isFn Tryz.prog 31 = true := by kernel_rfl
theorem fn_64 : isFn Tryz.prog 64 = true := by kernel_rfl


theorem u8z {x : UInt8} : ((x.toNat : Nat) : Int) = 0 ↔ x = 0 := ⟨fun h => UInt8.toNat_inj.1 (by show x.toNat = 0; omega), fun h => by rw [h]; rfl⟩
theorem cutI (h : List UInt8) (i j : Nat) : (h.take j).drop i = (h.drop i).take (j - i) := by rw [List.drop_take]
theorem pre4 {h : List UInt8} : Lib.hasPrefix h signB = decide (h.take 4 = signB) := by
  unfold Lib.hasPrefix signB
  rw [Bool.eq_iff_iff, decide_eq_true_eq, List.isPrefixOf_iff_prefix, List.prefix_iff_eq_take]
  exact eq_comm

set_option maxRecDepth 20000 in
theorem c87 (w : World) (a : Option Addr) (m cap : Nat) (x : List UInt8) (hs : Vl w a (x.map bv)) (hm : x.length = m) (h2 : 2 ≤ m) (hc : m ≤ cap) (hc9 : cap ≤ 9223372036854775807) : Calls Tryz.prog 87 #[.slice a m cap] w fun en w' => en = .returned (.int .u16 (at2 x 0)) ∧ Below w.heap.size w w' := by
  refine enter (args := [_]) Tryz.func87 Tryz.ntmps87 rfl rfl (HS.refl w []) ?_
  refine s_seq ?_
  refine s_region ?_
  refine o_p (p_pure rfl) rfl ?_
  refine o_nil ?_
  refine s_seq ?_
  refine s_draw [] mixed ?_
  refine d_p 0 rfl (p_pure rfl) (by kernel_rfl) rfl rfl ?_
  refine d_p 1 rfl (p_indexAddr rfl rfl rfl sl_79 0 rfl (by omega) (hs.some (by rw [List.length_map]; omega))) (by kernel_rfl) rfl rfl ?_
  refine d_q 2 [] rfl (q_load_old rfl rfl sz_5 ((hs.rd (i := 0) (bv_get (l := x) (k := 0) (by omega))))) (by kernel_rfl) (by kernel_rfl) (by kernel_rfl) rfl ?_
  refine d_p 3 rfl (p_conv_int rfl rfl ki_5 ki_137) (by kernel_rfl) rfl rfl ?_
  refine d_p 4 rfl (p_pure rfl) (by kernel_rfl) rfl rfl ?_
  refine d_p 5 rfl (p_indexAddr rfl rfl rfl sl_79 1 rfl (by omega) (hs.some (by rw [List.length_map]; omega))) (by kernel_rfl) rfl rfl ?_
  refine d_q 6 [] rfl (q_load_old rfl rfl sz_5 ((hs.rd (i := 1) (bv_get (l := x) (k := 1) (by omega))))) (by kernel_rfl) (by kernel_rfl) (by kernel_rfl) rfl ?_
  refine d_p 7 rfl (p_conv_int rfl rfl ki_5 ki_137) (by kernel_rfl) rfl rfl ?_
  refine d_p 8 rfl (p_shl rfl rfl rfl (by decide) 8 rfl) (by kernel_rfl) rfl rfl ?_
  refine d_p 9 rfl (p_pure rfl) (by kernel_rfl) rfl rfl ?_
  refine d_p 10 rfl (p_pure rfl) (by kernel_rfl) rfl rfl ?_
  refine d_nil (by kernel_rfl) (fun w h => by first | exact h | exact h.ent aEt) ?_
  exact s_retv (rs := [.tmp 2]) rfl (.tmp rfl (.nil)) (fun w' h' => ⟨by rw [← g16_slot]; rfl, h'.below⟩)

set_option maxRecDepth 20000 in
theorem c63 (w : World) (a : Option Addr) (m cap : Nat) (x : List UInt8) (hs : Vl w a (x.map bv)) (hm : x.length = m) (h2 : 4 ≤ m) (hc : m ≤ cap) (hc9 : cap ≤ 9223372036854775807) : Calls Tryz.prog 63 #[.slice a m cap] w fun en w' => en = .returned (.int .u32 (at4 x 0)) ∧ Below w.heap.size w w' := by
  have hx2 := at2_le x 0
  have hx3 := at2_le x 2
  refine enter (args := [_]) Tryz.func63 Tryz.ntmps63 rfl rfl (HS.refl w []) ?_
  refine s_seq ?_
  refine s_region ?_
  refine o_p (p_pure rfl) rfl ?_
  refine o_nil ?_
  refine s_seq ?_
  refine s_draw [] mixed ?_
  refine d_p 0 rfl (p_pure rfl) (by kernel_rfl) rfl rfl ?_
  refine d_q 1 [] rfl (q_call rfl fn_87 rfl (fun w1 h1 => c87 w1 a m cap x (hs.later h1) hm (by omega) hc hc9)) (by kernel_rfl) (by kernel_rfl) (by kernel_rfl) rfl ?_
  refine d_p 2 rfl (p_conv_int rfl rfl ki_137 ki_110) (by kernel_rfl) rfl rfl ?_
  refine d_p 3 rfl (p_pure rfl) (by kernel_rfl) rfl rfl ?_
  refine d_p 4 rfl (p_slice _ _ 2 m rfl rfl sl_79 ⟨_, _, rfl, rfl⟩ rfl (by omega) (by omega)) (by kernel_rfl) rfl rfl ?_
  refine d_q 5 [] rfl (q_call rfl fn_87 rfl (fun w1 h1 => c87 w1 (subA a cap 2 1) (m - 2) (cap - 2) (x.drop 2) (by rw [List.map_drop]; exact (hs.later h1).drop (by rw [List.length_map]; omega) (by omega)) (by rw [List.length_drop]; omega) (by omega) (by omega) (by omega))) (by kernel_rfl) (by kernel_rfl) (by kernel_rfl) rfl ?_
  refine d_p 6 rfl (p_conv_int rfl rfl ki_137 ki_110) (by kernel_rfl) rfl rfl ?_
  refine d_p 7 rfl (p_shl rfl rfl rfl (by decide) 16 rfl) (by kernel_rfl) rfl rfl ?_
  refine d_p 8 rfl (p_pure rfl) (by kernel_rfl) rfl rfl ?_
  refine d_p 9 rfl (p_pure rfl) (by kernel_rfl) rfl rfl ?_
  refine d_nil (by kernel_rfl) (fun w h => by first | exact h | exact h.ent aEt) ?_
  exact s_retv (rs := [.tmp 2]) rfl (.tmp rfl (.nil)) (fun w' h' => ⟨by have h9 := g32_slot (at2 x 0) (at2 (x.drop 2) 0) (at2_le _ _) (at2_le _ _); rw [at2_drop] at h9 ⊢; exact (congrArg Ending.returned h9), h'.below⟩)

set_option maxRecDepth 20000 in
theorem c31 (w : World) (s : List UInt8) (p : Nat) (hm : s.length ≤ 1000000) (hp : p + 4 ≤ s.length) : Calls Tryz.prog 31 #[.string (bs s), .int .i64 (p : Int)] w fun en w' => en = .returned (.int .i64 (at4 s p)) ∧ Below w.heap.size w w' := by
  have h4 := at4_le s p
  have hdl : (s.drop p).length = s.length - p := List.length_drop
  refine enter (args := [_, _]) Tryz.func31 Tryz.ntmps31 rfl rfl (HS.refl w []) ?_
  refine s_seq ?_
  refine s_region ?_
  refine o_p (p_pure rfl) rfl ?_
  refine o_nil ?_
  refine s_seq ?_
  refine s_region ?_
  refine o_p (p_pure rfl) rfl ?_
  refine o_p (p_pure rfl) rfl ?_
  refine o_p (p_slice_str_from p rfl rfl rfl Tryz.underlying9 rfl (by omega)) rfl ?_
  refine o_h (h_bytes rfl rfl Tryz.underlying9 Tryz.underlying79 Tryz.underlying5 rfl (by simp only [maxLen]; omega)) rfl (fun ⟨b1, c2⟩ ⟨h3, k4⟩ => ?_)
  refine o_q (q_call rfl fn_63 rfl (fun w1 h1 => by have h9 := c63 w1 (some ⟨b1, 0, none⟩) (s.drop p).length c2 (s.drop p) (h1.vl_blk aPk) rfl (by omega) (by assumption) (by have hq9 : c2 ≤ maxLen := (by assumption); simp only [maxLen] at hq9; omega); rw [at4_drop, Nat.add_zero] at h9; exact h9)) rfl ?_
  refine o_p (p_conv_int rfl rfl ki_110 ki_3) rfl ?_
  try (refine o_slot (i64w (by omega) (by omega)) ?_)
  refine o_p (p_pure rfl) rfl ?_
  refine o_nil ?_
  exact s_retv (rs := [.tmp 4]) rfl (.tmp rfl (.nil)) (fun w' h' => ⟨by rfl, h'.below⟩)

set_option maxRecDepth 20000 in
theorem c28 (w : World) (s : List UInt8) (hm : s.length ≤ 1000000) : Calls Tryz.prog 28 #[.string (bs s)] w fun en w' => en = .returned (.int .i64 (strE s)) ∧ Below w.heap.size w w' := by
  refine enter (args := [_]) Tryz.func28 Tryz.ntmps28 rfl rfl (HS.refl w []) ?_
  refine s_seq ?_
  refine s_region ?_
  refine o_p (p_pure rfl) rfl ?_
  refine o_nil ?_
  refine s_seq ?_
  refine s_region ?_
  refine o_p (p_pure rfl) rfl ?_
  refine o_p (p_len_str rfl rfl Tryz.underlying9) rfl ?_
  refine o_p (p_pure rfl) rfl ?_
  try (refine o_slot (i64w (by omega) (by omega)) ?_)
  refine o_p (p_pure rfl) rfl ?_
  refine o_nil ?_
  refine s_seq ?_
  refine s_region ?_
  refine o_p (p_pure rfl) rfl ?_
  refine o_q (q_call rfl fn_62 rfl (fun w1 h1 => c62 w1 _ _ _)) rfl ?_
  refine o_p (p_pure rfl) rfl ?_
  refine o_and 4 9 13 _ _ rfl
    (by
      intro hg1
      have hs2 := hg1; try simp only [decide_eq_true_eq, decide_eq_false_iff_not, Bool.not_eq_true', Bool.not_eq_false', Bool.and_eq_true, Bool.or_eq_true, Bool.and_eq_false_iff, Bool.or_eq_false_iff, Bool.not_true, Bool.not_false] at hs2
      refine o_on 9 _ rfl rfl hg1 ?_
      refine o_p (p_pure rfl) rfl ?_
      refine o_on 9 _ rfl rfl hg1 ?_
      refine o_p (p_rem_nn rfl rfl rfl (by omega) (by omega)) rfl ?_
      refine o_on 9 _ rfl rfl hg1 ?_
      refine o_p (p_pure rfl) rfl ?_
      refine o_p (p_pickt rfl rfl hg1 rfl) rfl ?_
      refine o_nil ?_
      exact s_joinN 4 13 _ rfl rfl rfl (fun w h => by first | exact h | exact h.ent aEt))
    (by
      intro hg3
      have hs4 := hg3; try simp only [decide_eq_true_eq, decide_eq_false_iff_not, Bool.not_eq_true', Bool.not_eq_false', Bool.and_eq_true, Bool.or_eq_true, Bool.and_eq_false_iff, Bool.or_eq_false_iff, Bool.not_true, Bool.not_false] at hs4
      refine o_off 9 _ rfl rfl hg3 rfl ?_
      refine o_off 9 _ rfl rfl hg3 rfl ?_
      refine o_off 9 _ rfl rfl hg3 rfl ?_
      refine o_p (p_pickf rfl rfl hg3 rfl) rfl ?_
      refine o_nil ?_
      exact s_joinN 4 13 _ rfl rfl rfl (fun w h => by first | exact h | exact h.ent aEt)) ?_
  refine o_q (q_call rfl fn_50 rfl (fun w1 h1 => c50 w1 _ _)) rfl ?_
  refine o_p (p_pure rfl) rfl ?_
  refine o_nil ?_
  exact s_retv (rs := [.tmp 2]) rfl (.tmp rfl (.nil)) (fun w' h' => ⟨by simp only [retV, strE, cond_eq_ite, Bool.and_eq_true, decide_eq_true_eq], h'.below⟩)

set_option maxRecDepth 20000 in
theorem c29 (w : World) (s : List UInt8) (hm : s.length ≤ 1000000) (h8 : 8192 ≤ s.length) : Calls Tryz.prog 29 #[.string (bs s)] w fun en w' => en = .returned (.agg #[.string (bs (h1S s)), .string (bs (h2S s))]) ∧ Below w.heap.size w w' := by
  refine enter (args := [_]) Tryz.func29 Tryz.ntmps29 rfl rfl (HS.refl w []) ?_
  refine s_seq ?_
  refine s_region ?_
  refine o_h (h_alloc rfl zr_65) rfl (fun b1 _ => ?_)
  refine o_nil ?_
  refine s_seq ?_
  refine s_draw [8] mixed ?_
  refine d_p 0 rfl (p_pure rfl) (by kernel_rfl) rfl rfl ?_
  refine d_p 1 rfl (p_pure rfl) (by kernel_rfl) rfl rfl ?_
  refine d_p 2 rfl (p_len_str rfl rfl Tryz.underlying9) (by kernel_rfl) rfl rfl ?_
  refine d_p 3 rfl (p_pure rfl) (by kernel_rfl) rfl rfl ?_
  try (refine d_slot (i64w (by omega) (by omega)) ?_)
  refine d_p 4 rfl (p_slice_str_to (s.length - 8192) rfl rfl rfl Tryz.underlying9 (by omega) (by omega)) (by kernel_rfl) rfl rfl ?_
  refine d_p 5 rfl (p_pure rfl) (by kernel_rfl) rfl rfl ?_
  refine d_p 6 rfl (p_slice_str_from 8192 rfl rfl rfl Tryz.underlying9 rfl (by omega)) (by kernel_rfl) rfl rfl ?_
  refine d_p 7 rfl (p_build_arr (cs := [_, _]) rfl rfl ar_65 zr_65 rfl) (by kernel_rfl) rfl rfl ?_
  refine d_h0 8 rfl (h_store rfl rfl rfl sz_65 rfl aPt (by simp only [setMany_length, List.length_set, List.length_cons, List.length_nil, List.length_map]; omega) rfl) (by kernel_rfl) (fun w h => h.ent aEt) (fun _ _ => ?_)
  refine d_turn [] (by kernel_rfl) ?_
  refine d_nil (by kernel_rfl) (fun w h => by first | exact h | exact h.ent aEt) ?_
  exact s_retv (rs := [.cell 2 65]) rfl (.cell rfl sz_65 aPk rfl (.nil)) (fun w' h' => ⟨by rfl, h'.below⟩)

set_option maxRecDepth 20000 in
theorem c89 (w : World) (s : List UInt8) (hm : s.length ≤ 1000000) : Calls Tryz.prog 89 #[.string (bs s), .int .u8 0] w fun en w' => en = .returned (.string (bs (trimR s))) ∧ Below w.heap.size w w' := by
  refine enter (args := [_, _]) Tryz.func89 Tryz.ntmps89 rfl rfl (HS.refl w []) ?_
  refine s_seq ?_
  refine s_region ?_
  refine o_p (p_pure rfl) rfl ?_
  refine o_nil ?_
  refine s_seq ?_
  refine s_block ?_
  refine s_loopI (α := List UInt8) [0, 5, 6, 7, 8, 9, 10, 11, 12, 13, 14, 15, 16, 17, 18, 19, 20, 21] (fun t => [(0, .string (bs t))]) (fun _ => _) (fun t => t.length ≤ 1000000 ∧ trimR s = trimR t) (fun t => t.length) s ⟨hm, rfl⟩ aSx (fun w h => h) (fun t htt => ?_)
  obtain ⟨ht1, ht2⟩ := htt
  refine s_seq ?_
  refine s_seq ?_
  refine s_region ?_
  refine o_p (p_pure rfl) rfl ?_
  refine o_p (p_len_str rfl rfl Tryz.underlying9) rfl ?_
  refine o_p (p_pure rfl) rfl ?_
  refine o_p (p_pure rfl) rfl ?_
  refine o_and 8 8 16 _ _ rfl
    (by
      intro hg1
      have hs2 := hg1; try simp only [decide_eq_true_eq, decide_eq_false_iff_not, Bool.not_eq_true', Bool.not_eq_false', Bool.and_eq_true, Bool.or_eq_true, Bool.and_eq_false_iff, Bool.or_eq_false_iff, Bool.not_true, Bool.not_false] at hs2
      refine o_on 8 _ rfl rfl hg1 ?_
      refine o_p (p_pure rfl) rfl ?_
      refine o_on 8 _ rfl rfl hg1 ?_
      refine o_p (p_pure rfl) rfl ?_
      refine o_on 8 _ rfl rfl hg1 ?_
      refine o_p (p_len_str rfl rfl Tryz.underlying9) rfl ?_
      refine o_on 8 _ rfl rfl hg1 ?_
      refine o_p (p_pure rfl) rfl ?_
      try (refine o_slot (i64w (by omega) (by omega)) ?_)
      refine o_on 8 _ rfl rfl hg1 ?_
      refine o_p (p_index_str rfl rfl rfl Tryz.underlying9 (t.length - 1) (by omega) (by omega)) rfl ?_
      refine o_on 8 _ rfl rfl hg1 ?_
      refine o_p (p_pure rfl) rfl ?_
      refine o_on 8 _ rfl rfl hg1 ?_
      refine o_p (p_pure rfl) rfl ?_
      refine o_p (p_pickt rfl rfl hg1 rfl) rfl ?_
      refine o_nil ?_
      exact s_joinN 8 16 _ rfl rfl rfl (fun w h => by first | exact h | exact h.ent aEt))
    (by
      intro hg3
      have hs4 := hg3; try simp only [decide_eq_true_eq, decide_eq_false_iff_not, Bool.not_eq_true', Bool.not_eq_false', Bool.and_eq_true, Bool.or_eq_true, Bool.and_eq_false_iff, Bool.or_eq_false_iff, Bool.not_true, Bool.not_false] at hs4
      refine o_off 8 _ rfl rfl hg3 rfl ?_
      refine o_off 8 _ rfl rfl hg3 rfl ?_
      refine o_off 8 _ rfl rfl hg3 rfl ?_
      refine o_off 8 _ rfl rfl hg3 rfl ?_
      refine o_off 8 _ rfl rfl hg3 rfl ?_
      refine o_off 8 _ rfl rfl hg3 rfl ?_
      refine o_off 8 _ rfl rfl hg3 rfl ?_
      refine o_p (p_pickf rfl rfl hg3 rfl) rfl ?_
      refine o_nil ?_
      exact s_joinN 8 16 _ rfl rfl rfl (fun w h => by first | exact h | exact h.ent aEt)) ?_
  refine o_nil ?_
  refine s_cond rfl (fun h5 => ?_) (fun h5 => ?_)
  · try simp only [decide_eq_true_eq, decide_eq_false_iff_not, Bool.not_eq_true', Bool.not_eq_false', Bool.and_eq_true, Bool.or_eq_true, Bool.and_eq_false_iff, Bool.or_eq_false_iff, Bool.not_true, Bool.not_false] at h5
    have hq9 := h5
    have hz9 : t.getD (t.length - 1) 0 = 0 := u8z.1 hq9.2
    have hst := trimR_zero (s := t) (by omega) hz9
    refine s_skip ?_
    refine s_block ?_
    refine s_region ?_
    refine o_p (p_pure rfl) rfl ?_
    refine o_p (p_pure rfl) rfl ?_
    refine o_p (p_len_str rfl rfl Tryz.underlying9) rfl ?_
    refine o_p (p_pure rfl) rfl ?_
    try (refine o_slot (i64w (by omega) (by omega)) ?_)
    refine o_p (p_slice_str_to (t.length - 1) rfl rfl rfl Tryz.underlying9 (by omega) (by omega)) rfl ?_
    refine o_p (p_pure rfl) rfl ?_
    refine o_nil ?_
    refine s_blk ?_
    exact s_backI (t.take (t.length - 1)) (by simp only [List.length_take, List.length_drop]; omega) ⟨by simp only [List.length_take, List.length_drop]; omega, by rw [ht2, hst]⟩ aSx (fun w h => h)
  · try simp only [decide_eq_true_eq, decide_eq_false_iff_not, Bool.not_eq_true', Bool.not_eq_false', Bool.and_eq_true, Bool.or_eq_true, Bool.and_eq_false_iff, Bool.or_eq_false_iff, Bool.not_true, Bool.not_false] at h5
    have hst : trimR t = t := by rcases Nat.eq_zero_or_pos t.length with h9 | h9; (rw [List.eq_nil_of_length_eq_zero h9]; rfl); exact trimR_stop h9 (fun h8 => by have hq := h5; rcases hq with hq | hq; omega; exact hq (u8z.2 h8))
    refine s_exit_to rfl ?_
    refine s_seq ?_
    refine s_region ?_
    refine o_p (p_pure rfl) rfl ?_
    refine o_p (p_pure rfl) rfl ?_
    refine o_nil ?_
    exact s_retv (rs := [.tmp 4]) rfl (.tmp rfl (.nil)) (fun w' h' => ⟨by rw [ht2, hst]; rfl, h'.below⟩)

set_option maxRecDepth 20000 in
theorem c88 (w : World) (s : List UInt8) (hm : s.length ≤ 1000000) : Calls Tryz.prog 88 #[.string (bs s), .int .u8 0] w fun en w' => en = .returned (.string (bs (trimL s))) ∧ Below w.heap.size w w' := by
  refine enter (args := [_, _]) Tryz.func88 Tryz.ntmps88 rfl rfl (HS.refl w []) ?_
  refine s_seq ?_
  refine s_region ?_
  refine o_p (p_pure rfl) rfl ?_
  refine o_nil ?_
  refine s_seq ?_
  refine s_block ?_
  refine s_loopI (α := List UInt8) [0, 5, 6, 7, 8, 9, 10, 11, 12, 13, 14, 15] (fun t => [(0, .string (bs t))]) (fun _ => _) (fun t => t.length ≤ 1000000 ∧ trimL s = trimL t) (fun t => t.length) s ⟨hm, rfl⟩ aSx (fun w h => h) (fun t htt => ?_)
  obtain ⟨ht1, ht2⟩ := htt
  refine s_seq ?_
  refine s_seq ?_
  refine s_region ?_
  refine o_p (p_pure rfl) rfl ?_
  refine o_p (p_len_str rfl rfl Tryz.underlying9) rfl ?_
  refine o_p (p_pure rfl) rfl ?_
  refine o_p (p_pure rfl) rfl ?_
  refine o_and 5 8 13 _ _ rfl
    (by
      intro hg1
      have hs2 := hg1; try simp only [decide_eq_true_eq, decide_eq_false_iff_not, Bool.not_eq_true', Bool.not_eq_false', Bool.and_eq_true, Bool.or_eq_true, Bool.and_eq_false_iff, Bool.or_eq_false_iff, Bool.not_true, Bool.not_false] at hs2
      refine o_on 8 _ rfl rfl hg1 ?_
      refine o_p (p_pure rfl) rfl ?_
      refine o_on 8 _ rfl rfl hg1 ?_
      refine o_p (p_index_str rfl rfl rfl Tryz.underlying9 (0) (by omega) (by omega)) rfl ?_
      refine o_on 8 _ rfl rfl hg1 ?_
      refine o_p (p_pure rfl) rfl ?_
      refine o_on 8 _ rfl rfl hg1 ?_
      refine o_p (p_pure rfl) rfl ?_
      refine o_p (p_pickt rfl rfl hg1 rfl) rfl ?_
      refine o_nil ?_
      exact s_joinN 5 13 _ rfl rfl rfl (fun w h => by first | exact h | exact h.ent aEt))
    (by
      intro hg3
      have hs4 := hg3; try simp only [decide_eq_true_eq, decide_eq_false_iff_not, Bool.not_eq_true', Bool.not_eq_false', Bool.and_eq_true, Bool.or_eq_true, Bool.and_eq_false_iff, Bool.or_eq_false_iff, Bool.not_true, Bool.not_false] at hs4
      refine o_off 8 _ rfl rfl hg3 rfl ?_
      refine o_off 8 _ rfl rfl hg3 rfl ?_
      refine o_off 8 _ rfl rfl hg3 rfl ?_
      refine o_off 8 _ rfl rfl hg3 rfl ?_
      refine o_p (p_pickf rfl rfl hg3 rfl) rfl ?_
      refine o_nil ?_
      exact s_joinN 5 13 _ rfl rfl rfl (fun w h => by first | exact h | exact h.ent aEt)) ?_
  refine o_nil ?_
  refine s_cond rfl (fun h5 => ?_) (fun h5 => ?_)
  · try simp only [decide_eq_true_eq, decide_eq_false_iff_not, Bool.not_eq_true', Bool.not_eq_false', Bool.and_eq_true, Bool.or_eq_true, Bool.and_eq_false_iff, Bool.or_eq_false_iff, Bool.not_true, Bool.not_false] at h5
    have hq9 := h5
    have hz9 : t.getD (0) 0 = 0 := u8z.1 hq9.2
    have hst := trimL_zero (s := t) (by omega) hz9
    refine s_skip ?_
    refine s_block ?_
    refine s_region ?_
    refine o_p (p_pure rfl) rfl ?_
    refine o_p (p_slice_str_from 1 rfl rfl rfl Tryz.underlying9 rfl (by omega)) rfl ?_
    refine o_p (p_pure rfl) rfl ?_
    refine o_nil ?_
    refine s_blk ?_
    exact s_backI (t.drop 1) (by simp only [List.length_take, List.length_drop]; omega) ⟨by simp only [List.length_take, List.length_drop]; omega, by rw [ht2, hst]⟩ aSx (fun w h => h)
  · try simp only [decide_eq_true_eq, decide_eq_false_iff_not, Bool.not_eq_true', Bool.not_eq_false', Bool.and_eq_true, Bool.or_eq_true, Bool.and_eq_false_iff, Bool.or_eq_false_iff, Bool.not_true, Bool.not_false] at h5
    have hst : trimL t = t := by rcases Nat.eq_zero_or_pos t.length with h9 | h9; (rw [List.eq_nil_of_length_eq_zero h9]; rfl); exact trimL_stop h9 (fun h8 => by have hq := h5; rcases hq with hq | hq; omega; exact hq (u8z.2 h8))
    refine s_exit_to rfl ?_
    refine s_seq ?_
    refine s_region ?_
    refine o_p (p_pure rfl) rfl ?_
    refine o_p (p_pure rfl) rfl ?_
    refine o_nil ?_
    exact s_retv (rs := [.tmp 4]) rfl (.tmp rfl (.nil)) (fun w' h' => ⟨by rw [ht2, hst]; rfl, h'.below⟩)

theorem trimR_len (s : List UInt8) : (trimR s).length ≤ s.length := by
  unfold trimR
  rw [List.length_reverse]
  refine Nat.le_trans ?_ (Nat.le_of_eq List.length_reverse)
  exact (List.dropWhile_sublist _).length_le

set_option maxRecDepth 20000 in
theorem c64 (w : World) (s : List UInt8) (hm : s.length ≤ 1000000) : Calls Tryz.prog 64 #[.string (bs s), .string (bs [0])] w fun en w' => en = .returned (.string (bs (trimL (trimR s)))) ∧ Below w.heap.size w w' := by
  refine enter (args := [_, _]) Tryz.func64 Tryz.ntmps64 rfl rfl (HS.refl w []) ?_
  refine s_seq ?_
  refine s_region ?_
  refine o_p (p_pure rfl) rfl ?_
  refine o_nil ?_
  refine s_seq ?_
  refine s_seq ?_
  refine s_region ?_
  refine o_p (p_pure rfl) rfl ?_
  refine o_p (p_pure rfl) rfl ?_
  refine o_p (p_pure rfl) rfl ?_
  refine o_or 3 9 12 _ _ rfl
    (by
      intro hg1
      have hs2 := hg1; try simp only [decide_eq_true_eq, decide_eq_false_iff_not, Bool.not_eq_true', Bool.not_eq_false', Bool.and_eq_true, Bool.or_eq_true, Bool.and_eq_false_iff, Bool.or_eq_false_iff, Bool.not_true, Bool.not_false] at hs2
      refine o_on 9 _ rfl rfl hg1 ?_
      refine o_p (p_pure rfl) rfl ?_
      refine o_on 9 _ rfl rfl hg1 ?_
      refine o_p (p_pure rfl) rfl ?_
      refine o_p (p_pickf rfl rfl hg1 rfl) rfl ?_
      refine o_nil ?_
      exact s_joinN 3 12 _ rfl rfl rfl (fun w h => by first | exact h | exact h.ent aEt))
    (by
      intro hg3
      have hs4 := hg3; try simp only [decide_eq_true_eq, decide_eq_false_iff_not, Bool.not_eq_true', Bool.not_eq_false', Bool.and_eq_true, Bool.or_eq_true, Bool.and_eq_false_iff, Bool.or_eq_false_iff, Bool.not_true, Bool.not_false] at hs4
      refine o_off 9 _ rfl rfl hg3 rfl ?_
      refine o_off 9 _ rfl rfl hg3 rfl ?_
      refine o_p (p_pickt rfl rfl hg3 rfl) rfl ?_
      refine o_nil ?_
      exact s_joinN 3 12 _ rfl rfl rfl (fun w h => by first | exact h | exact h.ent aEt)) ?_
  refine o_nil ?_
  refine s_cond rfl (fun h5 => ?_) (fun h5 => ?_)
  · try simp only [decide_eq_true_eq, decide_eq_false_iff_not, Bool.not_eq_true', Bool.not_eq_false', Bool.and_eq_true, Bool.or_eq_true, Bool.and_eq_false_iff, Bool.or_eq_false_iff, Bool.not_true, Bool.not_false] at h5
    have hs9 : s = [] := by have hq := h5; simpa using hq
    subst hs9
    refine s_seq ?_
    refine s_region ?_
    refine o_p (p_pure rfl) rfl ?_
    refine o_p (p_pure rfl) rfl ?_
    refine o_nil ?_
    exact s_retv (rs := [.tmp 4]) rfl (.tmp rfl (.nil)) (fun w' h' => ⟨by rfl, h'.below⟩)
  · try simp only [decide_eq_true_eq, decide_eq_false_iff_not, Bool.not_eq_true', Bool.not_eq_false', Bool.and_eq_true, Bool.or_eq_true, Bool.and_eq_false_iff, Bool.or_eq_false_iff, Bool.not_true, Bool.not_false] at h5
    refine s_skip ?_
    refine s_seq ?_
    refine s_seq ?_
    refine s_region ?_
    refine o_p (p_pure rfl) rfl ?_
    refine o_p (p_len_str rfl rfl Tryz.underlying9) rfl ?_
    refine o_p (p_pure rfl) rfl ?_
    refine o_p (p_pure rfl) rfl ?_
    refine o_and 4 17 21 _ _ rfl
      (by
        intro hg6
        have hs7 := hg6; try simp only [decide_eq_true_eq, decide_eq_false_iff_not, Bool.not_eq_true', Bool.not_eq_false', Bool.and_eq_true, Bool.or_eq_true, Bool.and_eq_false_iff, Bool.or_eq_false_iff, Bool.not_true, Bool.not_false] at hs7
        refine o_on 17 _ rfl rfl hg6 ?_
        refine o_p (p_pure rfl) rfl ?_
        refine o_on 17 _ rfl rfl hg6 ?_
        refine o_p (p_index_str rfl rfl rfl Tryz.underlying9 (0) (by omega) (by omega)) rfl ?_
        refine o_on 17 _ rfl rfl hg6 ?_
        refine o_p (p_pure rfl) rfl ?_
        refine o_p (p_pickt rfl rfl hg6 rfl) rfl ?_
        refine o_nil ?_
        exact s_joinN 4 21 _ rfl rfl rfl (fun w h => by first | exact h | exact h.ent aEt))
      (by
        intro hg8
        have hs9 := hg8; try simp only [decide_eq_true_eq, decide_eq_false_iff_not, Bool.not_eq_true', Bool.not_eq_false', Bool.and_eq_true, Bool.or_eq_true, Bool.and_eq_false_iff, Bool.or_eq_false_iff, Bool.not_true, Bool.not_false] at hs9
        refine o_off 17 _ rfl rfl hg8 rfl ?_
        refine o_off 17 _ rfl rfl hg8 rfl ?_
        refine o_off 17 _ rfl rfl hg8 rfl ?_
        refine o_p (p_pickf rfl rfl hg8 rfl) rfl ?_
        refine o_nil ?_
        exact s_joinN 4 21 _ rfl rfl rfl (fun w h => by first | exact h | exact h.ent aEt)) ?_
    refine o_nil ?_
    refine s_cond rfl (fun h10 => ?_) (fun h10 => ?_)
    · try simp only [decide_eq_true_eq, decide_eq_false_iff_not, Bool.not_eq_true', Bool.not_eq_false', Bool.and_eq_true, Bool.or_eq_true, Bool.and_eq_false_iff, Bool.or_eq_false_iff, Bool.not_true, Bool.not_false] at h10
      refine s_seq ?_
      refine s_draw [] mixed ?_
      refine d_p 0 rfl (p_pure rfl) (by kernel_rfl) rfl rfl ?_
      refine d_p 1 rfl (p_pure rfl) (by kernel_rfl) rfl rfl ?_
      refine d_p 2 rfl (p_index_str rfl rfl rfl Tryz.underlying9 (0) (by omega) (by omega)) (by kernel_rfl) rfl rfl ?_
      refine d_q 3 [] rfl (q_call rfl fn_89 rfl (fun w1 h1 => c89 w1 s hm)) (by kernel_rfl) (by kernel_rfl) (by kernel_rfl) rfl ?_
      refine d_p 4 rfl (p_pure rfl) (by kernel_rfl) rfl rfl ?_
      refine d_p 5 rfl (p_index_str rfl rfl rfl Tryz.underlying9 (0) (by omega) (by omega)) (by kernel_rfl) rfl rfl ?_
      refine d_q 6 [] rfl (q_call rfl fn_88 rfl (fun w1 h1 => c88 w1 (trimR s) (by have := trimR_len s; omega))) (by kernel_rfl) (by kernel_rfl) (by kernel_rfl) rfl ?_
      refine d_p 7 rfl (p_pure rfl) (by kernel_rfl) rfl rfl ?_
      refine d_nil (by kernel_rfl) (fun w h => by first | exact h | exact h.ent aEt) ?_
      exact s_retv (rs := [.tmp 4]) rfl (.tmp rfl (.nil)) (fun w' h' => ⟨by rfl, h'.below⟩)
    · try simp only [decide_eq_true_eq, decide_eq_false_iff_not, Bool.not_eq_true', Bool.not_eq_false', Bool.and_eq_true, Bool.or_eq_true, Bool.and_eq_false_iff, Bool.or_eq_false_iff, Bool.not_true, Bool.not_false] at h10
      exfalso; have hq := h10; simp at hq

set_option maxRecDepth 20000 in
theorem c30 (w : World) (h : List UInt8) (hm : h.length ≤ 100000) (h16 : 16 ≤ h.length) : Calls Tryz.prog 30 #[.string (bs h)] w fun en w' => en = .returned (.bool (isHd h)) ∧ Below w.heap.size w w' := by
  have hl12 : (h.take 12).length ≤ 200000 := by rw [List.length_take]; omega
  refine enter (args := [_]) Tryz.func30 Tryz.ntmps30 rfl rfl (HS.refl w []) ?_
  refine s_seq ?_
  refine s_region ?_
  refine o_p (p_pure rfl) rfl ?_
  refine o_nil ?_
  refine s_seq ?_
  refine s_region ?_
  refine o_p (p_pure rfl) rfl ?_
  refine o_q (q_call rfl fn_59 rfl (fun w1 h1 => (Tryz.strings_HasPrefix (bs h) (bs signB) w1).mono fun e w2 hh => ⟨hh.1, by rw [hh.2]; exact Below.refl _ _⟩)) rfl ?_
  refine o_p (p_pure rfl) rfl ?_
  refine o_and 7 5 12 _ _ rfl
    (by
      intro hg1
      have hs2 := hg1; try simp only [decide_eq_true_eq, decide_eq_false_iff_not, Bool.not_eq_true', Bool.not_eq_false', Bool.and_eq_true, Bool.or_eq_true, Bool.and_eq_false_iff, Bool.or_eq_false_iff, Bool.not_true, Bool.not_false] at hs2
      refine o_on 5 _ rfl rfl hg1 ?_
      refine o_p (p_pure rfl) rfl ?_
      refine o_on 5 _ rfl rfl hg1 ?_
      refine o_p (p_slice_str_to 12 rfl rfl rfl Tryz.underlying9 rfl (by omega)) rfl ?_
      refine o_on 5 _ rfl rfl hg1 ?_
      refine o_q (q_call rfl fn_55 rfl (fun w1 h1 => c55 w1 (h.take 12) hl12)) rfl ?_
      refine o_on 5 _ rfl rfl hg1 ?_
      refine o_p (p_pure rfl) rfl ?_
      refine o_on 5 _ rfl rfl hg1 ?_
      refine o_q (q_call rfl fn_31 rfl (fun w1 h1 => c31 w1 h 12 (by omega) (by omega))) rfl ?_
      refine o_on 5 _ rfl rfl hg1 ?_
      refine o_p (p_pure rfl) rfl ?_
      refine o_p (p_pickt rfl rfl hg1 rfl) rfl ?_
      refine o_nil ?_
      exact s_joinN 7 12 _ rfl rfl rfl (fun w h => by first | exact h | exact h.ent aEt))
    (by
      intro hg3
      have hs4 := hg3; try simp only [decide_eq_true_eq, decide_eq_false_iff_not, Bool.not_eq_true', Bool.not_eq_false', Bool.and_eq_true, Bool.or_eq_true, Bool.and_eq_false_iff, Bool.or_eq_false_iff, Bool.not_true, Bool.not_false] at hs4
      refine o_off 5 _ rfl rfl hg3 rfl ?_
      refine o_off 5 _ rfl rfl hg3 rfl ?_
      refine o_off 5 _ rfl rfl hg3 rfl ?_
      refine o_off 5 _ rfl rfl hg3 rfl ?_
      refine o_off 5 _ rfl rfl hg3 rfl ?_
      refine o_off 5 _ rfl rfl hg3 rfl ?_
      refine o_p (p_pickf rfl rfl hg3 rfl) rfl ?_
      refine o_nil ?_
      exact s_joinN 7 12 _ rfl rfl rfl (fun w h => by first | exact h | exact h.ent aEt)) ?_
  refine o_p (p_pure rfl) rfl ?_
  refine o_nil ?_
  exact s_retv (rs := [.tmp 2]) rfl (.tmp rfl (.nil)) (fun w' h' => ⟨by unfold isHd; rw [← pre4]; rfl, h'.below⟩)

set_option maxRecDepth 20000 in
set_option maxHeartbeats 1000000 in
theorem c32 (w : World) (h : List UInt8) (p : Nat) (hm : h.length ≤ 100000) (hp : p ≤ 1000000000000) : Calls Tryz.prog 32 #[.string (bs h), .int .i64 (p : Int)] w fun en w' => en = .returned (.tuple #[.agg #[.int .i64 (itA h p).x.id, .string (bs (itA h p).x.by_)], .int .i64 (itA h p).n, .bool (itA h p).ok]) ∧ Below w.heap.size w w' := by
  have hz := at4_le h (p + 12)
  have hu9 := upT_le (at4 h (p + 12))
  have hbl : (bodyI h p).length ≤ 200000 := by unfold bodyI; rw [List.length_take, List.length_drop]; omega
  have hpl : (padI h p).length ≤ 1000000 := by unfold padI; rw [List.length_take, List.length_drop]; omega
  refine enter (args := [_, _]) Tryz.func32 Tryz.ntmps32 rfl rfl (HS.refl w []) ?_
  refine s_seq ?_
  refine s_region ?_
  refine o_h (h_alloc rfl zr_50) rfl (fun b1 _ => ?_)
  refine o_p (p_pure rfl) rfl ?_
  refine o_p (p_pure rfl) rfl ?_
  refine o_nil ?_
  refine s_seq ?_
  refine s_seq ?_
  refine s_region ?_
  refine o_p (p_pure rfl) rfl ?_
  refine o_p (p_pure rfl) rfl ?_
  refine o_p (p_len_str rfl rfl Tryz.underlying9) rfl ?_
  refine o_p (p_pure rfl) rfl ?_
  try (refine o_slot (i64w (by omega) (by omega)) ?_)
  refine o_q (q_call rfl fn_62 rfl (fun w1 h1 => c62 w1 _ _ _)) rfl ?_
  refine o_p (p_pure rfl) rfl ?_
  refine o_nil ?_
  refine s_cond rfl (fun h2 => ?_) (fun h2 => ?_)
  · try simp only [decide_eq_true_eq, decide_eq_false_iff_not, Bool.not_eq_true', Bool.not_eq_false', Bool.and_eq_true, Bool.or_eq_true, Bool.and_eq_false_iff, Bool.or_eq_false_iff, Bool.not_true, Bool.not_false] at h2
    have hno : shpI h p = false := by unfold shpI; rw [decide_eq_false (by have hq := h2; omega)]; rfl
    have hT : itA h p = ⟨⟨0, []⟩, 0, false⟩ := by unfold itA; rw [hno]; rfl
    refine s_seq ?_
    refine s_region ?_
    refine o_p (p_build (cs := [_, _]) rfl rfl pl_50 zr_50 rfl) rfl ?_
    refine o_h0 (h_store rfl rfl rfl sz_50 rfl aPt (by simp only [setMany_length, List.length_set, List.length_cons, List.length_nil, List.length_map]; omega) rfl) (fun _ _ => ?_)
    refine o_p (p_pure rfl) rfl ?_
    refine o_p (p_pure rfl) rfl ?_
    refine o_nil ?_
    exact s_retv (rs := [.cell 4 50, .tmp 5, .tmp 6]) rfl (.cell rfl sz_50 aPk rfl (.tmp rfl (.tmp rfl (.nil)))) (fun w' h' => ⟨by rw [hT]; rfl, h'.below⟩)
  · try simp only [decide_eq_true_eq, decide_eq_false_iff_not, Bool.not_eq_true', Bool.not_eq_false', Bool.and_eq_true, Bool.or_eq_true, Bool.and_eq_false_iff, Bool.or_eq_false_iff, Bool.not_true, Bool.not_false] at h2
    have hl16 : p + 16 ≤ h.length := by have hq := h2; omega
    refine s_skip ?_
    refine s_seq ?_
    refine s_region ?_
    refine o_p (p_pure rfl) rfl ?_
    refine o_p (p_pure rfl) rfl ?_
    refine o_p (p_pure rfl) rfl ?_
    try (refine o_slot (i64w (by omega) (by omega)) ?_)
    refine o_slot (show _ = Value.int .i64 ((p + 12 : Nat) : Int) from by first | rfl | (congr 1; omega)) ?_
    refine o_q (q_call rfl fn_31 rfl (fun w1 h1 => c31 w1 h (p + 12) (by omega) (by omega))) rfl ?_
    refine o_p (p_pure rfl) rfl ?_
    refine o_nil ?_
    refine s_seq ?_
    refine s_seq ?_
    refine s_region ?_
    refine o_p (p_pure rfl) rfl ?_
    refine o_p (p_pure rfl) rfl ?_
    refine o_p (p_pure rfl) rfl ?_
    try (refine o_slot (i64w (by omega) (by omega)) ?_)
    refine o_slot (show _ = Value.int .i64 ((p + 8 : Nat) : Int) from by first | rfl | (congr 1; omega)) ?_
    refine o_q (q_call rfl fn_31 rfl (fun w1 h1 => c31 w1 h (p + 8) (by omega) (by omega))) rfl ?_
    refine o_p (p_pure rfl) rfl ?_
    refine o_p (p_pure rfl) rfl ?_
    refine o_p (p_pure rfl) rfl ?_
    refine o_or 8 27 35 _ _ rfl
      (by
        intro hg3
        have hs4 := hg3; try simp only [decide_eq_true_eq, decide_eq_false_iff_not, Bool.not_eq_true', Bool.not_eq_false', Bool.and_eq_true, Bool.or_eq_true, Bool.and_eq_false_iff, Bool.or_eq_false_iff, Bool.not_true, Bool.not_false] at hs4
        refine o_on 27 _ rfl rfl hg3 ?_
        refine o_p (p_pure rfl) rfl ?_
        refine o_on 27 _ rfl rfl hg3 ?_
        refine o_p (p_pure rfl) rfl ?_
        refine o_on 27 _ rfl rfl hg3 ?_
        refine o_p (p_len_str rfl rfl Tryz.underlying9) rfl ?_
        refine o_on 27 _ rfl rfl hg3 ?_
        refine o_p (p_pure rfl) rfl ?_
        refine o_on 27 _ rfl rfl hg3 ?_
        refine o_p (p_pure rfl) rfl ?_
        try (refine o_slot (i64w (by omega) (by omega)) ?_)
        refine o_on 27 _ rfl rfl hg3 ?_
        refine o_q (q_call rfl fn_62 rfl (fun w1 h1 => c62 w1 _ _ _)) rfl ?_
        refine o_on 27 _ rfl rfl hg3 ?_
        refine o_p (p_pure rfl) rfl ?_
        refine o_p (p_pickf rfl rfl hg3 rfl) rfl ?_
        refine o_nil ?_
        exact s_joinN 8 35 _ rfl rfl rfl (fun w h => by first | exact h | exact h.ent aEt))
      (by
        intro hg5
        have hs6 := hg5; try simp only [decide_eq_true_eq, decide_eq_false_iff_not, Bool.not_eq_true', Bool.not_eq_false', Bool.and_eq_true, Bool.or_eq_true, Bool.and_eq_false_iff, Bool.or_eq_false_iff, Bool.not_true, Bool.not_false] at hs6
        refine o_off 27 _ rfl rfl hg5 rfl ?_
        refine o_off 27 _ rfl rfl hg5 rfl ?_
        refine o_off 27 _ rfl rfl hg5 rfl ?_
        refine o_off 27 _ rfl rfl hg5 rfl ?_
        refine o_off 27 _ rfl rfl hg5 rfl ?_
        refine o_off 27 _ rfl rfl hg5 rfl ?_
        refine o_off 27 _ rfl rfl hg5 rfl ?_
        refine o_p (p_pickt rfl rfl hg5 rfl) rfl ?_
        refine o_nil ?_
        exact s_joinN 8 35 _ rfl rfl rfl (fun w h => by first | exact h | exact h.ent aEt)) ?_
    refine o_p (p_pure rfl) rfl ?_
    refine o_or 8 36 44 _ _ rfl
      (by
        intro hg7
        have hs8 := hg7; try simp only [decide_eq_true_eq, decide_eq_false_iff_not, Bool.not_eq_true', Bool.not_eq_false', Bool.and_eq_true, Bool.or_eq_true, Bool.and_eq_false_iff, Bool.or_eq_false_iff, Bool.not_true, Bool.not_false] at hs8
        refine o_on 36 _ rfl rfl hg7 ?_
        refine o_p (p_pure rfl) rfl ?_
        refine o_on 36 _ rfl rfl hg7 ?_
        refine o_p (p_pure rfl) rfl ?_
        refine o_on 36 _ rfl rfl hg7 ?_
        refine o_q (q_call rfl fn_33 rfl (fun w1 h1 => c33 w1 (at4 h (p + 12)) (by omega))) rfl ?_
        refine o_on 36 _ rfl rfl hg7 ?_
        refine o_p (p_pure rfl) rfl ?_
        try (refine o_slot (i64w (by omega) (by omega)) ?_)
        refine o_on 36 _ rfl rfl hg7 ?_
        refine o_p (p_pure rfl) rfl ?_
        refine o_on 36 _ rfl rfl hg7 ?_
        refine o_p (p_len_str rfl rfl Tryz.underlying9) rfl ?_
        refine o_on 36 _ rfl rfl hg7 ?_
        refine o_p (p_pure rfl) rfl ?_
        refine o_p (p_pickf rfl rfl hg7 rfl) rfl ?_
        refine o_nil ?_
        exact s_joinN 8 44 _ rfl rfl rfl (fun w h => by first | exact h | exact h.ent aEt))
      (by
        intro hg9
        have hs10 := hg9; try simp only [decide_eq_true_eq, decide_eq_false_iff_not, Bool.not_eq_true', Bool.not_eq_false', Bool.and_eq_true, Bool.or_eq_true, Bool.and_eq_false_iff, Bool.or_eq_false_iff, Bool.not_true, Bool.not_false] at hs10
        refine o_off 36 _ rfl rfl hg9 rfl ?_
        refine o_off 36 _ rfl rfl hg9 rfl ?_
        refine o_off 36 _ rfl rfl hg9 rfl ?_
        refine o_off 36 _ rfl rfl hg9 rfl ?_
        refine o_off 36 _ rfl rfl hg9 rfl ?_
        refine o_off 36 _ rfl rfl hg9 rfl ?_
        refine o_off 36 _ rfl rfl hg9 rfl ?_
        refine o_p (p_pickt rfl rfl hg9 rfl) rfl ?_
        refine o_nil ?_
        exact s_joinN 8 44 _ rfl rfl rfl (fun w h => by first | exact h | exact h.ent aEt)) ?_
    refine o_nil ?_
    refine s_cond rfl (fun h11 => ?_) (fun h11 => ?_)
    · try simp only [decide_eq_true_eq, decide_eq_false_iff_not, Bool.not_eq_true', Bool.not_eq_false', Bool.and_eq_true, Bool.or_eq_true, Bool.and_eq_false_iff, Bool.or_eq_false_iff, Bool.not_true, Bool.not_false] at h11
      have hno : ¬ shpI h p = true := by intro h9; obtain ⟨_, k1, k2, k3⟩ := shpI_ok h9; have hu := upT_le (at4 h (p + 12)); have hq := h11; first | omega | (simp at hq; omega) | (rcases hq with (hq | hq) | hq <;> first | omega | exact hq k1)
      have hT : itA h p = ⟨⟨0, []⟩, 0, false⟩ := by unfold itA; rw [if_neg hno]
      refine s_seq ?_
      refine s_region ?_
      refine o_p (p_build (cs := [_, _]) rfl rfl pl_50 zr_50 rfl) rfl ?_
      refine o_h0 (h_store rfl rfl rfl sz_50 rfl aPt (by simp only [setMany_length, List.length_set, List.length_cons, List.length_nil, List.length_map]; omega) rfl) (fun _ _ => ?_)
      refine o_p (p_pure rfl) rfl ?_
      refine o_p (p_pure rfl) rfl ?_
      refine o_nil ?_
      exact s_retv (rs := [.cell 4 50, .tmp 5, .tmp 6]) rfl (.cell rfl sz_50 aPk rfl (.tmp rfl (.tmp rfl (.nil)))) (fun w' h' => ⟨by rw [hT]; rfl, h'.below⟩)
    · try simp only [decide_eq_true_eq, decide_eq_false_iff_not, Bool.not_eq_true', Bool.not_eq_false', Bool.and_eq_true, Bool.or_eq_true, Bool.and_eq_false_iff, Bool.or_eq_false_iff, Bool.not_true, Bool.not_false] at h11
      have hyes : shpI h p = true := by have hq := h11; unfold shpI; simp only [Bool.and_eq_true, decide_eq_true_eq]; first | omega | (simp at hq; omega) | (refine ⟨by omega, ?_, ?_, ?_⟩ <;> first | omega | exact hq.1.1)
      obtain ⟨_, k1, k2, k3⟩ := shpI_ok hyes
      have hu := upT_le (at4 h (p + 12))
      have hzn : (at4 h (p + 12)) = (((at4 h (p + 12)).toNat : Nat) : Int) := by omega
      have hT : itA h p = ⟨⟨at4 h (p + 4), bodyI h p⟩, at4 h (p + 12), allZ (padI h p) && decide (at4 h p = hashS (bodyI h p))⟩ := by unfold itA; rw [if_pos hyes]
      have hpn : upT (at4 h (p + 12)) = (((at4 h (p + 12)).toNat + padN (at4 h (p + 12)) : Nat) : Int) := by unfold padN; omega
      refine s_skip ?_
      refine s_seq ?_
      refine s_draw [13] mixed ?_
      refine d_p 0 rfl (p_pure rfl) (by kernel_rfl) rfl rfl ?_
      refine d_p 1 rfl (p_pure rfl) (by kernel_rfl) rfl rfl ?_
      refine d_p 2 rfl (p_pure rfl) (by kernel_rfl) rfl rfl ?_
      try (refine d_slot (i64w (by omega) (by omega)) ?_)
      refine d_slot (show _ = Value.int .i64 ((p + 4 : Nat) : Int) from by first | rfl | (congr 1; omega)) ?_
      refine d_q 3 [[]] rfl (q_call rfl fn_31 rfl (fun w1 h1 => c31 w1 h (p + 4) (by omega) (by omega))) (by kernel_rfl) (by kernel_rfl) (by kernel_rfl) rfl ?_
      refine d_p 4 rfl (p_pure rfl) (by kernel_rfl) rfl rfl ?_
      refine d_p 5 rfl (p_pure rfl) (by kernel_rfl) rfl rfl ?_
      refine d_p 6 rfl (p_pure rfl) (by kernel_rfl) rfl rfl ?_
      try (refine d_slot (i64w (by omega) (by omega)) ?_)
      refine d_slot (show _ = Value.int .i64 ((p + 16 : Nat) : Int) from by first | rfl | (congr 1; omega)) ?_
      refine d_p 7 rfl (p_pure rfl) (by kernel_rfl) rfl rfl ?_
      refine d_p 8 rfl (p_pure rfl) (by kernel_rfl) rfl rfl ?_
      refine d_p 9 rfl (p_pure rfl) (by kernel_rfl) rfl rfl ?_
      try (refine d_slot (i64w (by omega) (by omega)) ?_)
      refine d_p 10 rfl (p_slice_str _ _ (p + 16) (p + (at4 h (p + 12)).toNat) rfl rfl Tryz.underlying9 ⟨_, _, rfl, rfl⟩ ⟨_, _, rfl, (by omega)⟩ (by omega) (by omega)) (by kernel_rfl) rfl rfl ?_
      refine d_slot (show _ = Value.string (bs (bodyI h p)) from by rw [cutI]; unfold bodyI; congr 3; omega) ?_
      refine d_p 11 rfl (p_build (cs := [_, _]) rfl rfl pl_50 zr_50 rfl) (by kernel_rfl) rfl rfl ?_
      refine d_h 12 rfl (h_alloc rfl zr_50) (by kernel_rfl) (fun w h => h.ent aEt) rfl (fun b12 _ => ?_)
      refine d_base (fun w h => h.ent aEt) ?_
      refine d_h0 13 rfl (h_store rfl rfl rfl sz_50 rfl aPt (by simp only [setMany_length, List.length_set, List.length_cons, List.length_nil, List.length_map]; omega) rfl) (by kernel_rfl) (fun w h => h.ent aEt) (fun _ _ => ?_)
      refine d_turn [] (by kernel_rfl) ?_
      refine d_nil (by kernel_rfl) (fun w h => by first | exact h | exact h.ent aEt) ?_
      refine s_seq ?_
      refine s_weaken (L' := [(0, _), (1, _), (4, _), (5, _), (6, _), (7, _), (8, _)]) aSx (fun _ h => h) ?_
      refine s_region ?_
      refine o_p (p_pure rfl) rfl ?_
      refine o_p (p_pure rfl) rfl ?_
      refine o_p (p_pure rfl) rfl ?_
      refine o_p (p_pure rfl) rfl ?_
      try (refine o_slot (i64w (by omega) (by omega)) ?_)
      refine o_p (p_pure rfl) rfl ?_
      refine o_p (p_pure rfl) rfl ?_
      refine o_q (q_call rfl fn_33 rfl (fun w1 h1 => c33 w1 (at4 h (p + 12)) (by omega))) rfl ?_
      refine o_p (p_pure rfl) rfl ?_
      try (refine o_slot (i64w (by omega) (by omega)) ?_)
      refine o_p (p_slice_str _ _ (p + (at4 h (p + 12)).toNat) (p + ((at4 h (p + 12)).toNat + padN (at4 h (p + 12)))) rfl rfl Tryz.underlying9 ⟨_, _, rfl, (by omega)⟩ ⟨_, _, rfl, (by omega)⟩ (by omega) (by omega)) rfl ?_
      refine o_slot (show _ = Value.string (bs (padI h p)) from by rw [cutI]; unfold padI; congr 3; omega) ?_
      refine o_q (q_call rfl fn_64 rfl (fun w1 h1 => c64 w1 (padI h p) hpl)) rfl ?_
      refine o_p (p_pure rfl) rfl ?_
      refine o_nil ?_
      refine s_seq ?_
      refine s_draw [13] mixed ?_
      refine d_q 0 [[]] rfl (q_loadn rfl rfl sz_50 aPk rfl) (by kernel_rfl) (by kernel_rfl) (by kernel_rfl) rfl ?_
      refine d_p 1 rfl (p_pure rfl) (by kernel_rfl) rfl rfl ?_
      refine d_p 2 rfl (p_pure rfl) (by kernel_rfl) rfl rfl ?_
      refine d_p 3 rfl (p_pure rfl) (by kernel_rfl) rfl rfl ?_
      refine d_p 4 rfl (p_pure rfl) (by kernel_rfl) rfl rfl ?_
      apply d_split 72
      · exact rfl
      · intro hg13
        have hs14 := hg13; try simp only [decide_eq_true_eq, decide_eq_false_iff_not, Bool.not_eq_true', Bool.not_eq_false', Bool.and_eq_true, Bool.or_eq_true, Bool.and_eq_false_iff, Bool.or_eq_false_iff, Bool.not_true, Bool.not_false] at hs14
        refine d_pon 5 72 rfl rfl rfl hg13 (p_pure rfl) (by kernel_rfl) rfl rfl ?_
        refine d_pon 6 72 rfl rfl rfl hg13 (p_pure rfl) (by kernel_rfl) rfl rfl ?_
        refine d_qon 7 72 [[10]] rfl rfl rfl hg13 (q_call rfl fn_31 rfl (fun w1 h1 => c31 w1 h p (by omega) (by omega))) (by kernel_rfl) (by kernel_rfl) (by kernel_rfl) rfl ?_
        refine d_pon 8 72 rfl rfl rfl hg13 (p_fieldAddr rfl rfl fd_50_1 sz_9 rfl) (by kernel_rfl) rfl rfl ?_
        refine d_qon 9 72 [[10]] rfl rfl rfl hg13 (q_load rfl rfl sz_9 aPk rfl) (by kernel_rfl) (by kernel_rfl) (by kernel_rfl) rfl ?_
        refine d_qon 10 72 [[]] rfl rfl rfl hg13 (q_call rfl fn_56 rfl (fun w1 h1 => c56 w1 (bodyI h p) hbl)) (by kernel_rfl) (by kernel_rfl) (by kernel_rfl) rfl ?_
        refine d_pon 11 72 rfl rfl rfl hg13 (p_pure rfl) (by kernel_rfl) rfl rfl ?_
        refine d_p 12 rfl (p_pickt rfl rfl hg13 rfl) (by kernel_rfl) rfl rfl ?_
        refine d_h0 13 rfl (h_store rfl rfl rfl sz_50 rfl aPt (by simp only [setMany_length, List.length_set, List.length_cons, List.length_nil, List.length_map]; omega) rfl) (by kernel_rfl) (fun w h => h.ent aEt) (fun _ _ => ?_)
        refine d_turn [] (by kernel_rfl) ?_
        refine d_p 14 rfl (p_pure rfl) (by kernel_rfl) rfl rfl ?_
        refine d_p 15 rfl (p_pure rfl) (by kernel_rfl) rfl rfl ?_
        refine d_nil (by kernel_rfl) (fun w h => by first | exact h | exact h.ent aEt) ?_
        exact s_retv (rs := [.cell 4 50, .tmp 5, .tmp 6]) rfl (.cell rfl sz_50 aPk rfl (.tmp rfl (.tmp rfl (.nil)))) (fun w' h' => ⟨by rw [hT, ← show decide (trimL (trimR (padI h p)) = []) = allZ (padI h p) from by rw [Bool.eq_iff_iff, decide_eq_true_eq]; exact trim_all _, show decide (trimL (trimR (padI h p)) = []) = _ from hg13]; rfl, h'.below⟩)
      · intro hg15
        have hs16 := hg15; try simp only [decide_eq_true_eq, decide_eq_false_iff_not, Bool.not_eq_true', Bool.not_eq_false', Bool.and_eq_true, Bool.or_eq_true, Bool.and_eq_false_iff, Bool.or_eq_false_iff, Bool.not_true, Bool.not_false] at hs16
        refine d_off 5 72 rfl rfl rfl hg15 (by kernel_rfl) rfl rfl ?_
        refine d_off 6 72 rfl rfl rfl hg15 (by kernel_rfl) rfl rfl ?_
        refine d_off 7 72 rfl rfl rfl hg15 (by kernel_rfl) rfl rfl ?_
        refine d_off 8 72 rfl rfl rfl hg15 (by kernel_rfl) rfl rfl ?_
        refine d_off 9 72 rfl rfl rfl hg15 (by kernel_rfl) rfl rfl ?_
        refine d_off 10 72 rfl rfl rfl hg15 (by kernel_rfl) rfl rfl ?_
        refine d_off 11 72 rfl rfl rfl hg15 (by kernel_rfl) rfl rfl ?_
        refine d_p 12 rfl (p_pickf rfl rfl hg15 rfl) (by kernel_rfl) rfl rfl ?_
        refine d_h0 13 rfl (h_store rfl rfl rfl sz_50 rfl aPt (by simp only [setMany_length, List.length_set, List.length_cons, List.length_nil, List.length_map]; omega) rfl) (by kernel_rfl) (fun w h => h.ent aEt) (fun _ _ => ?_)
        refine d_turn [] (by kernel_rfl) ?_
        refine d_p 14 rfl (p_pure rfl) (by kernel_rfl) rfl rfl ?_
        refine d_p 15 rfl (p_pure rfl) (by kernel_rfl) rfl rfl ?_
        refine d_nil (by kernel_rfl) (fun w h => by first | exact h | exact h.ent aEt) ?_
        exact s_retv (rs := [.cell 4 50, .tmp 5, .tmp 6]) rfl (.cell rfl sz_50 aPk rfl (.tmp rfl (.tmp rfl (.nil)))) (fun w' h' => ⟨by rw [hT, ← show decide (trimL (trimR (padI h p)) = []) = allZ (padI h p) from by rw [Bool.eq_iff_iff, decide_eq_true_eq]; exact trim_all _, show decide (trimL (trimR (padI h p)) = []) = _ from hg15]; rfl, h'.below⟩)

end Go.Proofs

namespace Go.Proofs
open Go Go.RowKit Gx
set_option linter.unusedVariables false
set_option linter.unusedSimpArgs false
attribute [local irreducible] Go.Calls Gx.S Gx.O Gx.D Gx.OpP Gx.OpQ Gx.OpH

theorem fn_28 : isFn Tryz.prog 28 = true := by kernel_rfl
theorem fn_29 : isFn Tryz.prog 29 = true := by kernel_rfl
theorem fn_30 : isFn Tryz.prog 30 = true := by kernel_rfl
theorem fn_32 : isFn Tryz.prog 32 = true := by kernel_rfl


attribute [local irreducible] Gx.h1S Gx.h2S Gx.inS Gx.inB Gx.inL Gx.itA Gx.isHd Gx.stoE Gx.upT Gx.at4 Gx.strE

set_option maxRecDepth 20000 in
set_option maxHeartbeats 4000000 in
theorem c9 (w : World) (s : List UInt8) (hm : s.length ≤ 100000) : Calls Tryz.prog 9 #[.string (bs s)] w fun en w' => ∃ g : (Option Addr × Nat) × (Option Addr × Nat), en = .returned (.tuple #[.agg #[.int .i64 (inS s).nx, .slice g.1.1 (inS s).l.length g.1.2], .slice g.2.1 (inS s).dm.length g.2.2, .int .i64 (inS s).e]) ∧ True ∧ HS w [] [.own (.slice g.1.1 (inS s).l.length g.1.2) 50 2 (inS s).l.length ((inS s).l.flatMap SItm.vals), .own (.slice g.2.1 (inS s).dm.length g.2.2) 3 1 (inS s).dm.length ((inS s).dm.map nv)] w' := by
  refine enter (args := [_]) Tryz.func9 Tryz.ntmps9 rfl rfl (HS.refl w []) ?_
  refine s_seq ?_
  refine s_region ?_
  refine o_h (h_alloc rfl zr_24) rfl (fun b1 _ => ?_)
  refine o_p (p_pure rfl) rfl ?_
  refine o_p (p_pure rfl) rfl ?_
  refine o_nil ?_
  refine s_seq ?_
  refine s_seq ?_
  refine s_region ?_
  refine o_p (p_pure rfl) rfl ?_
  refine o_q (q_call rfl fn_28 rfl (fun w1 h1 => c28 w1 s (by omega))) rfl ?_
  refine o_p (p_pure rfl) rfl ?_
  refine o_nil ?_
  refine s_seq ?_
  refine s_region ?_
  refine o_p (p_pure rfl) rfl ?_
  refine o_p (p_pure rfl) rfl ?_
  refine o_nil ?_
  refine s_cond rfl (fun h2 => ?_) (fun h2 => ?_)
  · try simp only [decide_eq_true_eq, decide_eq_false_iff_not, Bool.not_eq_true', Bool.not_eq_false', Bool.and_eq_true, Bool.or_eq_true, Bool.and_eq_false_iff, Bool.or_eq_false_iff, Bool.not_true, Bool.not_false] at h2
    have h0 : ¬ strE s = 0 := h2
    have hT := inS_0 h0
    refine s_seq ?_
    refine s_region ?_
    refine o_p (p_build (cs := [_, _]) rfl rfl pl_24 zr_24 rfl) rfl ?_
    refine o_p (p_pure rfl) rfl ?_
    refine o_h0 (h_store rfl rfl rfl sz_24 rfl aPt (by simp only [setMany_length, List.length_set, List.length_cons, List.length_nil, List.length_map]; omega) rfl) (fun _ _ => ?_)
    refine o_p (p_pure rfl) rfl ?_
    refine o_p (p_pure rfl) rfl ?_
    refine o_nil ?_
    exact s_retv (rs := [.cell 2 24, .tmp 3, .tmp 4]) rfl (.cell rfl sz_24 aPk rfl (.tmp rfl (.tmp rfl (.nil)))) (fun w' h' => ⟨((none, 0), (none, 0)), by rw [hT]; rfl, trivial, by rw [hT]; exact ((h'.own_nil 50 2).own_nil 3 1).ent aEt⟩)
  · try simp only [decide_eq_true_eq, decide_eq_false_iff_not, Bool.not_eq_true', Bool.not_eq_false', Bool.and_eq_true, Bool.or_eq_true, Bool.and_eq_false_iff, Bool.or_eq_false_iff, Bool.not_true, Bool.not_false] at h2
    have h0 : strE s = 0 := h2
    obtain ⟨hs1, hs2, hs3⟩ := strE_ok h0
    have hl1 := h1S_len (s := s) (by omega)
    have hl2 := h2S_len s
    refine s_skip ?_
    refine s_seq ?_
    refine s_region ?_
    refine o_p (p_pure rfl) rfl ?_
    refine o_q (q_call rfl fn_29 rfl (fun w1 h1 => c29 w1 s (by omega) (by omega))) rfl ?_
    refine o_h (h_alloc rfl zr_65) rfl (fun b3 _ => ?_)
    refine o_h0 (h_store rfl rfl rfl sz_65 rfl aPt (by simp only [setMany_length, List.length_set, List.length_cons, List.length_nil, List.length_map]; omega) rfl) (fun _ _ => ?_)
    refine o_nil ?_
    refine s_seq ?_
    refine s_region ?_
    refine o_p (p_pure rfl) rfl ?_
    try (refine o_class (C' := HS w [] [.own (.slice none 0 0) 3 1 0 [], .blk b3 65 2 [.string (bs (h1S s)), .string (bs (h2S s))], .blk b1 24 2 [.int .i64 0, .slice none 0 0]]) (fun w h => (h.own_nil 3 1).ent aEt) ?_)
    refine o_nil ?_
    refine s_seq ?_
    refine s_region ?_
    refine o_p (p_indexAddr_arr rfl rfl rfl ar_65 (0) (by omega) (by omega)) rfl ?_
    refine o_q (q_load rfl rfl sz_9 aPk rfl) rfl ?_
    refine o_p (p_pure rfl) rfl ?_
    refine o_nil ?_
    refine s_seq ?_
    refine s_seq ?_
    refine s_region ?_
    refine o_p (p_pure rfl) rfl ?_
    refine o_q (q_call rfl fn_30 rfl (fun w1 h1 => c30 w1 (h1S s) (by omega) (by omega))) rfl ?_
    refine o_p (p_pure rfl) rfl ?_
    refine o_nil ?_
    refine s_weaken (L' := [(2, _), (3, _), (4, _), (6, _), (7, _), (8, _), (27, _)]) aSx (fun _ h => h) ?_
    refine s_cutI (α := List UInt8 × List Int × (Option Addr × Nat)) [3, 4, 7, 8, 28, 29, 30, 31, 32, 33, 34, 35, 36] (fun x => [(8, .string (bs x.1)), (7, .slice x.2.2.1 x.2.1.length x.2.2.2)]) (fun x => HS w [] [.own (.slice x.2.2.1 x.2.1.length x.2.2.2) 3 1 x.2.1.length (x.2.1.map nv), .blk b3 65 2 [.string (bs (h1S s)), .string (bs (h2S s))], .blk b1 24 2 [.int .i64 0, .slice none 0 0]]) (fun x => inS s = inB (h1S s) (h2S s) x.1 x.2.1 ∧ x.1.length = (h1S s).length ∧ x.2.1.length ≤ 1) ?_ ?_
    · skip
      refine s_cond rfl (fun h4 => ?_) (fun h4 => ?_)
      · try simp only [decide_eq_true_eq, decide_eq_false_iff_not, Bool.not_eq_true', Bool.not_eq_false', Bool.and_eq_true, Bool.or_eq_true, Bool.and_eq_false_iff, Bool.or_eq_false_iff, Bool.not_true, Bool.not_false] at h4
        have hd1 : ¬ isHd (h1S s) = true := by have hq := h4; simpa using hq
        refine s_seq ?_
        refine s_seq ?_
        refine s_region ?_
        refine o_p (p_indexAddr_arr rfl rfl rfl ar_65 (1) (by omega) (by omega)) rfl ?_
        refine o_q (q_load rfl rfl sz_9 aPk rfl) rfl ?_
        refine o_p (p_pure rfl) rfl ?_
        refine o_nil ?_
        refine s_seq ?_
        refine s_region ?_
        refine o_p (p_pure rfl) rfl ?_
        refine o_q (q_call rfl fn_30 rfl (fun w1 h1 => c30 w1 (h2S s) (by omega) (by omega))) rfl ?_
        refine o_p (p_pure rfl) rfl ?_
        refine o_nil ?_
        refine s_cond rfl (fun h5 => ?_) (fun h5 => ?_)
        · try simp only [decide_eq_true_eq, decide_eq_false_iff_not, Bool.not_eq_true', Bool.not_eq_false', Bool.and_eq_true, Bool.or_eq_true, Bool.and_eq_false_iff, Bool.or_eq_false_iff, Bool.not_true, Bool.not_false] at h5
          have hd2 : ¬ isHd (h2S s) = true := by have hq := h5; simpa using hq
          have hT := inS_3 h0 hd1 hd2
          refine s_seq ?_
          refine s_region ?_
          refine o_p (p_build (cs := [_, _]) rfl rfl pl_24 zr_24 rfl) rfl ?_
          refine o_h0 (h_store rfl rfl rfl sz_24 rfl aPt (by simp only [setMany_length, List.length_set, List.length_cons, List.length_nil, List.length_map]; omega) rfl) (fun _ _ => ?_)
          refine o_p (p_pure rfl) rfl ?_
          refine o_p (p_pure rfl) rfl ?_
          refine o_nil ?_
          exact s_retv (rs := [.cell 2 24, .tmp 3, .tmp 4]) rfl (.cell rfl sz_24 aPk rfl (.tmp rfl (.tmp rfl (.nil)))) (fun w' h' => ⟨((none, 0), (none, 0)), by rw [hT]; rfl, trivial, by rw [hT]; exact ((h'.own_nil 50 2).own_nil 3 1).ent aEt⟩)
        · try simp only [decide_eq_true_eq, decide_eq_false_iff_not, Bool.not_eq_true', Bool.not_eq_false', Bool.and_eq_true, Bool.or_eq_true, Bool.and_eq_false_iff, Bool.or_eq_false_iff, Bool.not_true, Bool.not_false] at h5
          have hd2 : isHd (h2S s) = true := by have hq := h5; simpa using hq
          refine s_skip ?_
          refine s_region ?_
          refine o_p (p_pure rfl) rfl ?_
          refine o_h (h_buildSlice (cs := [_]) rfl rfl sl_31 zr_3 rfl rfl rfl) rfl (fun b6 _ => ?_)
          refine o_h (h_appendS _ rfl rfl rfl sl_31 Tryz.underlying31 zr_3 rfl aPk (src_blk aPk) rfl (by intro u hu; simp only [List.mem_cons, List.mem_nil_iff, or_false] at hu; subst hu; rfl) (by omega) (by simp only [maxLen]; omega)) rfl (fun b7 _ => ?_)
          refine o_p (p_pure rfl) rfl ?_
          refine o_nil ?_
          exact s_joinI ((h2S s), [-1], b7) ⟨inS_2 h0 hd1 hd2, by rw [hl1, hl2], Nat.le_refl _⟩ aSx (fun w h => h.ent aEt)
      · try simp only [decide_eq_true_eq, decide_eq_false_iff_not, Bool.not_eq_true', Bool.not_eq_false', Bool.and_eq_true, Bool.or_eq_true, Bool.and_eq_false_iff, Bool.or_eq_false_iff, Bool.not_true, Bool.not_false] at h4
        have hd1 : isHd (h1S s) = true := by have hq := h4; simpa using hq
        refine s_skip ?_
        exact s_joinI ((h1S s), [], (none, 0)) ⟨inS_1 h0 hd1, rfl, Nat.zero_le _⟩ aSx (fun w h => h.ent aEt)
    · intro x hx
      obtain ⟨hx1, hx2, hx3⟩ := hx
      refine s_seq ?_
      refine s_region ?_
      refine o_p (p_pure rfl) rfl ?_
      refine o_q (q_call rfl fn_31 rfl (fun w1 h1 => c31 w1 x.1 4 (by omega) (by omega))) rfl ?_
      refine o_p (p_build (cs := [_, _]) rfl rfl pl_24 zr_24 rfl) rfl ?_
      refine o_h (h_alloc rfl zr_24) rfl (fun b8 _ => ?_)
      refine o_h0 (h_store rfl rfl rfl sz_24 rfl aPt (by simp only [setMany_length, List.length_set, List.length_cons, List.length_nil, List.length_map]; omega) rfl) (fun _ _ => ?_)
      refine o_nil ?_
      refine s_seq ?_
      refine s_seq ?_
      refine s_region ?_
      refine o_p (p_pure rfl) rfl ?_
      refine o_q (q_call rfl fn_31 rfl (fun w1 h1 => c31 w1 x.1 8 (by omega) (by omega))) rfl ?_
      refine o_p (p_pure rfl) rfl ?_
      refine o_p (p_len_str rfl rfl Tryz.underlying9) rfl ?_
      refine o_p (p_pure rfl) rfl ?_
      refine o_nil ?_
      refine s_cond rfl (fun h9 => ?_) (fun h9 => ?_)
      · try simp only [decide_eq_true_eq, decide_eq_false_iff_not, Bool.not_eq_true', Bool.not_eq_false', Bool.and_eq_true, Bool.or_eq_true, Bool.and_eq_false_iff, Bool.or_eq_false_iff, Bool.not_true, Bool.not_false] at h9
        have h8 : ¬ at4 x.1 8 = (h1S s).length := by have hq := h9; rw [hx2] at hq; exact hq
        have hT : inS s = inE 3 := hx1.trans (inB_form h8)
        refine s_seq ?_
        refine s_region ?_
        refine o_p (p_build (cs := [_, _]) rfl rfl pl_24 zr_24 rfl) rfl ?_
        refine o_h0 (h_store rfl rfl rfl sz_24 rfl aPt (by simp only [setMany_length, List.length_set, List.length_cons, List.length_nil, List.length_map]; omega) rfl) (fun _ _ => ?_)
        refine o_p (p_pure rfl) rfl ?_
        refine o_p (p_pure rfl) rfl ?_
        refine o_nil ?_
        exact s_retv (rs := [.cell 2 24, .tmp 3, .tmp 4]) rfl (.cell rfl sz_24 aPk rfl (.tmp rfl (.tmp rfl (.nil)))) (fun w' h' => ⟨((none, 0), (none, 0)), by rw [hT]; rfl, trivial, by rw [hT]; exact ((h'.own_nil 50 2).own_nil 3 1).ent aEt⟩)
      · try simp only [decide_eq_true_eq, decide_eq_false_iff_not, Bool.not_eq_true', Bool.not_eq_false', Bool.and_eq_true, Bool.or_eq_true, Bool.and_eq_false_iff, Bool.or_eq_false_iff, Bool.not_true, Bool.not_false] at h9
        have h8 : at4 x.1 8 = (h1S s).length := by have hq := h9; rw [hx2] at hq; exact hq
        refine s_skip ?_
        refine s_seq ?_
        refine s_seq ?_
        refine s_region ?_
        refine o_p (p_pure rfl) rfl ?_
        refine o_nil ?_
        refine s_block ?_
        refine s_loopI (α := Nat × Nat × List SItm × List Int × (Option Addr × Nat) × (Option Addr × Nat)) [3, 4, 7, 10, 11, 12, 13, 46, 47, 48, 49, 50, 51, 52, 53, 54, 55, 56, 57, 58, 59, 60, 61, 62, 63, 64, 65, 66, 67, 68, 69, 70, 71, 72, 73, 74, 75, 76, 77, 78, 79, 80, 81, 82, 83, 84, 85, 86] (fun y => [(10, .int .i64 (y.2.1 : Int)), (7, .slice y.2.2.2.2.2.1 y.2.2.2.1.length y.2.2.2.2.2.2)]) (fun y => HS w [] [.blk b8 24 2 [.int .i64 (at4 x.1 4), .slice y.2.2.2.2.1.1 y.2.2.1.length y.2.2.2.2.1.2], .own (.slice y.2.2.2.2.1.1 y.2.2.1.length y.2.2.2.2.1.2) 50 2 y.2.2.1.length (y.2.2.1.flatMap SItm.vals), .own (.slice y.2.2.2.2.2.1 y.2.2.2.1.length y.2.2.2.2.2.2) 3 1 y.2.2.2.1.length (y.2.2.2.1.map nv), .blk b3 65 2 [.string (bs (h1S s)), .string (bs (h2S s))], .blk b1 24 2 [.int .i64 0, .slice none 0 0]]) (fun y => (y.2.1 ≤ (h1S s).length ∧ (h1S s).length - y.2.1 ≤ y.1) ∧ inL (h1S s) (h2S s) (h1S s).length 16 [] x.2.1 = inL (h1S s) (h2S s) y.1 y.2.1 y.2.2.1 y.2.2.2.1 ∧ y.2.2.1.length ≤ y.2.1 ∧ y.2.2.2.1.length ≤ y.2.1 ∧ ∀ q ∈ y.2.2.1, q.by_.length ≤ 100000) (fun y => (h1S s).length - y.2.1) ((h1S s).length, 16, [], x.2.1, (none, 0), x.2.2) ⟨by (try simp only []); omega, rfl, Nat.zero_le _, by (try simp only []); omega, fun q hq => by cases hq⟩ aSx (fun w h => (h.own_nil 50 2).ent aEt) (fun ⟨ff, p, l, dm, gl, gd⟩ hy => ?_)
        dsimp only
        obtain ⟨⟨hk0, hk1⟩, hk2, hk3, hk4, hk5⟩ := hy
        simp only [] at hk0 hk1 hk2 hk3 hk4 hk5
        refine s_seq ?_
        refine s_seq ?_
        refine s_region ?_
        refine o_p (p_pure rfl) rfl ?_
        refine o_p (p_pure rfl) rfl ?_
        refine o_p (p_len_str rfl rfl Tryz.underlying9) rfl ?_
        refine o_p (p_pure rfl) rfl ?_
        refine o_nil ?_
        refine s_cond rfl (fun h10 => ?_) (fun h10 => ?_)
        · try simp only [decide_eq_true_eq, decide_eq_false_iff_not, Bool.not_eq_true', Bool.not_eq_false', Bool.and_eq_true, Bool.or_eq_true, Bool.and_eq_false_iff, Bool.or_eq_false_iff, Bool.not_true, Bool.not_false] at h10
          have hk : p < (h1S s).length := by omega
          obtain ⟨f, rfl⟩ : ∃ f, ff = f + 1 := ⟨ff - 1, by omega⟩
          refine s_skip ?_
          refine s_block ?_
          refine s_seq ?_
          refine s_region ?_
          refine o_p (p_indexAddr_arr rfl rfl rfl ar_65 (0) (by omega) (by omega)) rfl ?_
          refine o_q (q_load rfl rfl sz_9 aPk rfl) rfl ?_
          refine o_p (p_pure rfl) rfl ?_
          refine o_q (q_call rfl fn_32 rfl (fun w1 h1 => c32 w1 (h1S s) p (by omega) (by omega))) rfl ?_
          refine o_p (p_pure rfl) rfl ?_
          refine o_p (p_pure rfl) rfl ?_
          refine o_p (p_pure rfl) rfl ?_
          refine o_p (p_pure rfl) rfl ?_
          refine o_h (h_alloc rfl zr_50) rfl (fun b11 _ => ?_)
          refine o_h0 (h_store rfl rfl rfl sz_50 rfl aPt (by simp only [setMany_length, List.length_set, List.length_cons, List.length_nil, List.length_map]; omega) rfl) (fun _ _ => ?_)
          refine o_p (p_pure rfl) rfl ?_
          refine o_p (p_pure rfl) rfl ?_
          refine o_nil ?_
          refine s_seq ?_
          refine s_seq ?_
          refine s_weaken (L' := [(2, _), (6, _), (7, _), (8, _), (9, _), (10, _), (11, _), (12, _), (13, _), (27, _), (37, _), (38, _), (39, _), (40, _), (41, _), (42, _), (43, _), (44, _)]) aSx (fun _ h => h) ?_
          refine s_region ?_
          refine o_p (p_pure rfl) rfl ?_
          refine o_p (p_pure rfl) rfl ?_
          refine o_nil ?_
          refine s_cutI (α := ItR × List Int × (Option Addr × Nat)) [3, 4, 7, 12, 13, 60, 61, 62, 63, 64, 65, 66, 67, 68, 69, 70, 71, 72, 73, 74, 75, 76] (fun z => [(12, .int .i64 z.1.n), (13, .bool true), (7, .slice z.2.2.1 z.2.1.length z.2.2.2)]) (fun z => HS w [] [.blk b11 50 2 [.int .i64 z.1.x.id, .string (bs z.1.x.by_)], .blk b8 24 2 [.int .i64 (at4 x.1 4), .slice gl.1 l.length gl.2], .own (.slice gl.1 l.length gl.2) 50 2 l.length (l.flatMap SItm.vals), .own (.slice z.2.2.1 z.2.1.length z.2.2.2) 3 1 z.2.1.length (z.2.1.map nv), .blk b3 65 2 [.string (bs (h1S s)), .string (bs (h2S s))], .blk b1 24 2 [.int .i64 0, .slice none 0 0]]) (fun z => Took (h1S s) (h2S s) f p l dm z.1 z.2.1) ?_ ?_
          · skip
            refine s_cond rfl (fun h12 => ?_) (fun h12 => ?_)
            · try simp only [decide_eq_true_eq, decide_eq_false_iff_not, Bool.not_eq_true', Bool.not_eq_false', Bool.and_eq_true, Bool.or_eq_true, Bool.and_eq_false_iff, Bool.or_eq_false_iff, Bool.not_true, Bool.not_false] at h12
              have ho1 : ¬ (itA (h1S s) p).ok = true := by have hq := h12; simpa using hq
              refine s_seq ?_
              refine s_seq ?_
              refine s_region ?_
              refine o_p (p_indexAddr_arr rfl rfl rfl ar_65 (1) (by omega) (by omega)) rfl ?_
              refine o_q (q_load rfl rfl sz_9 aPk rfl) rfl ?_
              refine o_p (p_pure rfl) rfl ?_
              refine o_q (q_call rfl fn_32 rfl (fun w1 h1 => c32 w1 (h2S s) p (by omega) (by omega))) rfl ?_
              refine o_p (p_pure rfl) rfl ?_
              refine o_p (p_pure rfl) rfl ?_
              refine o_p (p_pure rfl) rfl ?_
              refine o_p (p_pure rfl) rfl ?_
              refine o_h0 (h_store rfl rfl rfl sz_50 rfl aPt (by simp only [setMany_length, List.length_set, List.length_cons, List.length_nil, List.length_map]; omega) rfl) (fun _ _ => ?_)
              refine o_p (p_pure rfl) rfl ?_
              refine o_p (p_pure rfl) rfl ?_
              refine o_nil ?_
              refine s_seq ?_
              refine s_region ?_
              refine o_p (p_pure rfl) rfl ?_
              refine o_p (p_pure rfl) rfl ?_
              refine o_nil ?_
              refine s_cond rfl (fun h13 => ?_) (fun h13 => ?_)
              · try simp only [decide_eq_true_eq, decide_eq_false_iff_not, Bool.not_eq_true', Bool.not_eq_false', Bool.and_eq_true, Bool.or_eq_true, Bool.and_eq_false_iff, Bool.or_eq_false_iff, Bool.not_true, Bool.not_false] at h13
                have ho2 : ¬ (itA (h2S s) p).ok = true := by have hq := h13; simpa using hq
                have hT : inS s = inE 31 := hx1.trans (inB_none h8 (hk2.trans (inL_3 hk ho1 ho2)))
                refine s_seq ?_
                refine s_weaken (L' := [(2, _), (6, _), (7, _), (8, _), (9, _), (10, _), (11, _), (12, _), (13, _), (27, _), (37, _), (38, _), (39, _), (40, _), (41, _), (42, _), (43, _), (44, _), (58, _), (59, _)]) aSx (fun _ h => h) ?_
                refine s_region ?_
                refine o_p (p_build (cs := [_, _]) rfl rfl pl_24 zr_24 rfl) rfl ?_
                refine o_h0 (h_store rfl rfl rfl sz_24 rfl aPt (by simp only [setMany_length, List.length_set, List.length_cons, List.length_nil, List.length_map]; omega) rfl) (fun _ _ => ?_)
                refine o_p (p_pure rfl) rfl ?_
                refine o_p (p_pure rfl) rfl ?_
                refine o_nil ?_
                exact s_retv (rs := [.cell 2 24, .tmp 3, .tmp 4]) rfl (.cell rfl sz_24 aPk rfl (.tmp rfl (.tmp rfl (.nil)))) (fun w' h' => ⟨((none, 0), (none, 0)), by rw [hT]; rfl, trivial, by rw [hT]; exact ((h'.own_nil 50 2).own_nil 3 1).ent aEt⟩)
              · try simp only [decide_eq_true_eq, decide_eq_false_iff_not, Bool.not_eq_true', Bool.not_eq_false', Bool.and_eq_true, Bool.or_eq_true, Bool.and_eq_false_iff, Bool.or_eq_false_iff, Bool.not_true, Bool.not_false] at h13
                have ho2 : (itA (h2S s) p).ok = true := by have hq := h13; simpa using hq
                refine s_skip ?_
                refine s_weaken (L' := [(2, _), (6, _), (7, _), (8, _), (9, _), (10, _), (11, _), (12, _), (13, _), (27, _), (37, _), (38, _), (39, _), (40, _), (41, _), (42, _), (43, _), (44, _), (58, _), (59, _)]) aSx (fun _ h => h) ?_
                refine s_region ?_
                refine o_p (p_pure rfl) rfl ?_
                refine o_p (p_fieldAddr rfl rfl fd_24_1 sz_22 rfl) rfl ?_
                refine o_q (q_load rfl rfl sz_22 aPk rfl) rfl ?_
                refine o_p (p_len_slice rfl rfl Tryz.underlying22) rfl ?_
                refine o_h (h_buildSlice (cs := [_]) rfl rfl sl_31 zr_3 rfl rfl rfl) rfl (fun b14 _ => ?_)
                refine o_h (h_appendS [_] rfl rfl rfl sl_31 Tryz.underlying31 zr_3 rfl aPk (src_blk aPk) rfl (by intro u hu; simp only [List.mem_cons, List.mem_nil_iff, or_false] at hu; subst hu; rfl) (by omega) (by simp only [maxLen]; omega)) rfl (fun b15 _ => ?_)
                refine o_p (p_pure rfl) rfl ?_
                refine o_nil ?_
                exact s_joinI (itA (h2S s) p, dm ++ [(l.length : Int)], b15) (took_2 hk (by omega) ho1 ho2) (by dsimp only; rw [ho2, List.length_append]; exact aSx) (fun w h => by dsimp only; rw [List.length_append, List.map_append]; exact h.ent aEt)
            · try simp only [decide_eq_true_eq, decide_eq_false_iff_not, Bool.not_eq_true', Bool.not_eq_false', Bool.and_eq_true, Bool.or_eq_true, Bool.and_eq_false_iff, Bool.or_eq_false_iff, Bool.not_true, Bool.not_false] at h12
              have ho1 : (itA (h1S s) p).ok = true := by have hq := h12; simpa using hq
              refine s_skip ?_
              exact s_joinI (itA (h1S s) p, dm, gd) (took_1 hk ho1) (by dsimp only; rw [ho1]; exact aSx) (fun w h => h.ent aEt)
          · intro z hz
            obtain ⟨ht1, ht2, ht3, ht4, ht5⟩ := hz
            have hu9 := upT_le z.1.n
            refine s_seq ?_
            refine s_region ?_
            refine o_p (p_fieldAddr rfl rfl fd_24_1 sz_22 rfl) rfl ?_
            refine o_q (q_load rfl rfl sz_22 aPk rfl) rfl ?_
            refine o_q (q_loadn rfl rfl sz_50 aPk rfl) rfl ?_
            refine o_h (h_buildSlice (cs := [_, _]) rfl rfl sl_22 zr_50 rfl rfl rfl) rfl (fun b16 _ => ?_)
            refine o_h (h_appendS [_, _] rfl rfl rfl sl_22 Tryz.underlying22 zr_50 rfl aPk (src_blk aPk) rfl (sv1 z.1.x) (by omega) (by simp only [maxLen]; omega)) rfl (fun b17 _ => ?_)
            refine o_p (p_fieldAddr rfl rfl fd_24_1 sz_22 rfl) rfl ?_
            refine o_h0 (h_store rfl rfl rfl sz_22 rfl aPt (by simp only [setMany_length, List.length_set, List.length_cons, List.length_nil, List.length_map]; omega) rfl) (fun _ _ => ?_)
            refine o_nil ?_
            refine s_region ?_
            refine o_p (p_pure rfl) rfl ?_
            refine o_p (p_pure rfl) rfl ?_
            refine o_q (q_call rfl fn_33 rfl (fun w1 h1 => c33 w1 z.1.n (by omega))) rfl ?_
            refine o_p (p_pure rfl) rfl ?_
            try (refine o_slot (i64w (by omega) (by omega)) ?_)
            refine o_p (p_pure rfl) rfl ?_
            refine o_nil ?_
            refine s_blk ?_
            exact s_backI (f, p + (upT z.1.n).toNat, l ++ [z.1.x], z.2.1, b17, z.2.2) (by (try simp only []); omega) ⟨by (try simp only []); omega, by simp only []; rw [hk2]; exact ht1, by simp only [List.length_append, List.length_cons, List.length_nil]; omega, by (try simp only []); omega, fun q hq => by rcases List.mem_append.1 hq with hq | hq; exact hk5 q hq; rw [List.mem_singleton.1 hq]; omega⟩ (by dsimp only; rw [show ((p + (upT z.1.n).toNat : Nat) : Int) = (p : Int) + upT z.1.n from by omega]; exact aSx) (fun w h => by dsimp only; rw [List.length_append, flat_append]; exact h.ent aEt)
        · try simp only [decide_eq_true_eq, decide_eq_false_iff_not, Bool.not_eq_true', Bool.not_eq_false', Bool.and_eq_true, Bool.or_eq_true, Bool.and_eq_false_iff, Bool.or_eq_false_iff, Bool.not_true, Bool.not_false] at h10
          have hk : ¬ p < (h1S s).length := by omega
          have hE := hk2.trans (inL_end hk)
          refine s_exit_to rfl ?_
          refine s_seq ?_
          refine s_seq ?_
          refine s_region ?_
          refine o_q (q_loadn rfl rfl sz_24 aPk rfl) rfl ?_
          refine o_q (q_call rfl fn_25 rfl (fun w1 h1 => c25 w1 (at4 x.1 4) gl.1 gl.2 l (HS.rw_own (a := gl.1) (l := l) sv2 h1 aPk rfl) (by omega) hk5)) rfl ?_
          refine o_p (p_pure rfl) rfl ?_
          refine o_nil ?_
          refine s_seq ?_
          refine s_region ?_
          refine o_p (p_pure rfl) rfl ?_
          refine o_p (p_pure rfl) rfl ?_
          refine o_nil ?_
          refine s_cond rfl (fun h18 => ?_) (fun h18 => ?_)
          · try simp only [decide_eq_true_eq, decide_eq_false_iff_not, Bool.not_eq_true', Bool.not_eq_false', Bool.and_eq_true, Bool.or_eq_true, Bool.and_eq_false_iff, Bool.or_eq_false_iff, Bool.not_true, Bool.not_false] at h18
            have he9 : ¬ (stoE (at4 x.1 4) l).2 = 0 := h18
            have hT : inS s = inE (stoE (at4 x.1 4) l).2 := hx1.trans (inB_bad h8 hE he9)
            refine s_seq ?_
            refine s_region ?_
            refine o_p (p_build (cs := [_, _]) rfl rfl pl_24 zr_24 rfl) rfl ?_
            refine o_p (p_pure rfl) rfl ?_
            refine o_h0 (h_store rfl rfl rfl sz_24 rfl aPt (by simp only [setMany_length, List.length_set, List.length_cons, List.length_nil, List.length_map]; omega) rfl) (fun _ _ => ?_)
            refine o_p (p_pure rfl) rfl ?_
            refine o_p (p_pure rfl) rfl ?_
            refine o_nil ?_
            exact s_retv (rs := [.cell 2 24, .tmp 3, .tmp 4]) rfl (.cell rfl sz_24 aPk rfl (.tmp rfl (.tmp rfl (.nil)))) (fun w' h' => ⟨((none, 0), (none, 0)), by rw [hT]; rfl, trivial, by rw [hT]; exact ((h'.own_nil 50 2).own_nil 3 1).ent aEt⟩)
          · try simp only [decide_eq_true_eq, decide_eq_false_iff_not, Bool.not_eq_true', Bool.not_eq_false', Bool.and_eq_true, Bool.or_eq_true, Bool.and_eq_false_iff, Bool.or_eq_false_iff, Bool.not_true, Bool.not_false] at h18
            have he9 : (stoE (at4 x.1 4) l).2 = 0 := h18
            have hT : inS s = ⟨at4 x.1 4, l, dm, 0⟩ := hx1.trans (inB_ok h8 hE he9)
            refine s_skip ?_
            refine s_seq ?_
            refine s_region ?_
            refine o_q (q_loadn rfl rfl sz_24 aPk rfl) rfl ?_
            refine o_p (p_pure rfl) rfl ?_
            refine o_h0 (h_store rfl rfl rfl sz_24 rfl aPt (by simp only [setMany_length, List.length_set, List.length_cons, List.length_nil, List.length_map]; omega) rfl) (fun _ _ => ?_)
            refine o_p (p_pure rfl) rfl ?_
            refine o_p (p_pure rfl) rfl ?_
            refine o_nil ?_
            exact s_retv (rs := [.cell 2 24, .tmp 3, .tmp 4]) rfl (.cell rfl sz_24 aPk rfl (.tmp rfl (.tmp rfl (.nil)))) (fun w' h' => ⟨(gl, gd), by rw [hT]; rfl, trivial, by rw [hT]; exact h'.ent aEt⟩)

end Go.Proofs

namespace Go.Proofs
open Go Go.RowKit Gx
set_option linter.unusedVariables false
set_option linter.unusedSimpArgs false
attribute [local irreducible] Go.Calls Gx.S Gx.O Gx.D Gx.OpP Gx.OpQ Gx.OpH

theorem fn_68 : isFn Tryz.prog 68 = true := by kernel_rfl
theorem fn_38 : isFn Tryz.prog 38 = true := by kernel_rfl
theorem fn_66 : isFn Tryz.prog 66 = true := by kernel_rfl
theorem fn_39 : isFn Tryz.prog 39 = true := by kernel_rfl


attribute [local irreducible] Gx.h1S Gx.h2S Gx.inS Gx.inB Gx.inL Gx.itA Gx.isHd Gx.stoE Gx.upT Gx.at4 Gx.strE Gx.itR Gx.halfK Gx.halfS Gx.plsI Gx.hashS Gx.sumS

set_option maxRecDepth 20000 in
theorem c68 (w : World) (n m : Int) (hn : 0 ≤ n ∧ n ≤ 1000000000000) (hm : 0 < m ∧ m ≤ 1000000000000) : Calls Tryz.prog 68 #[.int .i64 n, .int .i64 m] w fun en w' => en = .returned (.int .i64 (n % m)) ∧ Below w.heap.size w w' := by
  have h9 := Int.emod_nonneg n (show m ≠ 0 by omega)
  refine enter (args := [_, _]) Tryz.func68 Tryz.ntmps68 rfl rfl (HS.refl w []) ?_
  refine s_seq ?_
  refine s_region ?_
  refine o_p (p_pure rfl) rfl ?_
  refine o_nil ?_
  refine s_seq ?_
  refine s_region ?_
  refine o_p (p_pure rfl) rfl ?_
  refine o_p (p_pure rfl) rfl ?_
  refine o_p (p_rem_nn rfl rfl rfl (by omega) (by omega)) rfl ?_
  refine o_p (p_pure rfl) rfl ?_
  refine o_nil ?_
  refine s_seq ?_
  refine s_seq ?_
  refine s_region ?_
  refine o_p (p_pure rfl) rfl ?_
  refine o_p (p_pure rfl) rfl ?_
  refine o_nil ?_
  refine s_cond rfl (fun h1 => ?_) (fun h1 => ?_)
  · try simp only [decide_eq_true_eq, decide_eq_false_iff_not, Bool.not_eq_true', Bool.not_eq_false', Bool.and_eq_true, Bool.or_eq_true, Bool.and_eq_false_iff, Bool.or_eq_false_iff, Bool.not_true, Bool.not_false] at h1
    exfalso; first | omega | (simp at h1; done) | (simp_all; done)
  · try simp only [decide_eq_true_eq, decide_eq_false_iff_not, Bool.not_eq_true', Bool.not_eq_false', Bool.and_eq_true, Bool.or_eq_true, Bool.and_eq_false_iff, Bool.or_eq_false_iff, Bool.not_true, Bool.not_false] at h1
    refine s_skip ?_
    refine s_seq ?_
    refine s_region ?_
    refine o_p (p_pure rfl) rfl ?_
    refine o_p (p_pure rfl) rfl ?_
    refine o_nil ?_
    exact s_retv (rs := [.tmp 4]) rfl (.tmp rfl (.nil)) (fun w' h' => ⟨by rfl, h'.below⟩)

set_option maxRecDepth 20000 in
theorem c38 (w : World) (s : List UInt8) (hm : s.length ≤ 1000000000) : Calls Tryz.prog 38 #[.string (bs s)] w fun en w' => en = .returned (.int .i64 (sumS s)) ∧ Below w.heap.size w w' := by
  refine enter (args := [_]) Tryz.func38 Tryz.ntmps38 rfl rfl (HS.refl w []) ?_
  refine s_seq ?_
  refine s_region ?_
  refine o_p (p_pure rfl) rfl ?_
  refine o_nil ?_
  refine s_seq ?_
  refine s_region ?_
  refine o_p (p_pure rfl) rfl ?_
  refine o_nil ?_
  refine s_seq ?_
  refine s_seq ?_
  refine s_region ?_
  refine o_p (p_pure rfl) rfl ?_
  refine o_nil ?_
  refine s_block ?_
  refine s_loopI (α := Nat) [3, 4, 5, 6, 7, 8, 9, 10, 11, 12, 13, 14, 15, 16, 17, 18, 19, 20, 21, 22, 23] (fun k => [(4, .int .i64 (k : Int)), (3, .int .i64 ((s.take k).foldl sStep 0))]) (fun _ => _) (fun k => k ≤ s.length) (fun k => s.length - k) 0 (Nat.zero_le _) aSx (fun w h => h) (fun k hk1 => ?_)
  refine s_seq ?_
  refine s_seq ?_
  refine s_region ?_
  refine o_p (p_pure rfl) rfl ?_
  refine o_p (p_pure rfl) rfl ?_
  refine o_p (p_len_str rfl rfl Tryz.underlying9) rfl ?_
  refine o_p (p_pure rfl) rfl ?_
  refine o_nil ?_
  refine s_cond rfl (fun h1 => ?_) (fun h1 => ?_)
  · try simp only [decide_eq_true_eq, decide_eq_false_iff_not, Bool.not_eq_true', Bool.not_eq_false', Bool.and_eq_true, Bool.or_eq_true, Bool.and_eq_false_iff, Bool.or_eq_false_iff, Bool.not_true, Bool.not_false] at h1
    have hk : k < s.length := by omega
    have hs9 := foldl_succ (f := sStep) (a := (0 : Int)) hk
    have hle := foldl_le sStep_le (s.take k) 0 (by omega)
    have hb9 := (s.getD k 0).toNat_lt
    have hst := sum_step ((s.take k).foldl sStep 0) (s.getD k 0) hle
    have hmd := Int.emod_nonneg ((s.take k).foldl sStep 0 * 2) (show (2147483648 : Int) ≠ 0 by omega)
    refine s_skip ?_
    refine s_seq ?_
    refine s_block ?_
    refine s_seq ?_
    refine s_region ?_
    refine o_p (p_pure rfl) rfl ?_
    refine o_p (p_pure rfl) rfl ?_
    try (refine o_slot (i64w (by omega) (by omega)) ?_)
    refine o_q (q_call rfl fn_68 rfl (fun w1 h1 => c68 w1 ((s.take k).foldl sStep 0 * 2) 2147483648 (by omega) (by omega))) rfl ?_
    refine o_p (p_pure rfl) rfl ?_
    refine o_p (p_quo_nn rfl rfl rfl (by omega) (by omega) (by omega)) rfl ?_
    refine o_p (p_pure rfl) rfl ?_
    try (refine o_slot (i64w (by omega) (by omega)) ?_)
    refine o_p (p_pure rfl) rfl ?_
    refine o_nil ?_
    refine s_region ?_
    refine o_p (p_pure rfl) rfl ?_
    refine o_p (p_pure rfl) rfl ?_
    refine o_p (p_pure rfl) rfl ?_
    refine o_p (p_index_str rfl rfl rfl Tryz.underlying9 (k) (by omega) (by omega)) rfl ?_
    refine o_p (p_conv_int rfl rfl ki_5 ki_3) rfl ?_
    try (refine o_slot (i64w (by omega) (by omega)) ?_)
    refine o_p (p_pure rfl) rfl ?_
    try (refine o_slot (i64w (by omega) (by omega)) ?_)
    refine o_q (q_call rfl fn_68 rfl (fun w1 h1 => c68 w1 ((s.take k).foldl sStep 0 * 2 % 2147483648 + (s.take k).foldl sStep 0 / 1073741824 + ((s.getD k 0).toNat : Int)) 2147483648 (by omega) (by omega))) rfl ?_
    refine o_p (p_pure rfl) rfl ?_
    refine o_nil ?_
    refine s_blk ?_
    refine s_region ?_
    refine o_p (p_pure rfl) rfl ?_
    refine o_p (p_pure rfl) rfl ?_
    try (refine o_slot (i64w (by omega) (by omega)) ?_)
    refine o_p (p_pure rfl) rfl ?_
    refine o_nil ?_
    exact s_backI (k + 1) (by omega) (by omega) (by rw [hs9, ← hst]; exact aSx) (fun w h => h)
  · try simp only [decide_eq_true_eq, decide_eq_false_iff_not, Bool.not_eq_true', Bool.not_eq_false', Bool.and_eq_true, Bool.or_eq_true, Bool.and_eq_false_iff, Bool.or_eq_false_iff, Bool.not_true, Bool.not_false] at h1
    obtain rfl : k = s.length := by omega
    rw [List.take_length]
    refine s_exit_to rfl ?_
    refine s_seq ?_
    refine s_region ?_
    refine o_p (p_pure rfl) rfl ?_
    refine o_p (p_pure rfl) rfl ?_
    refine o_nil ?_
    exact s_retv (rs := [.tmp 2]) rfl (.tmp rfl (.nil)) (fun w' h' => ⟨by unfold sumS; rfl, h'.below⟩)

set_option maxRecDepth 20000 in
theorem c66 (w : World) (s : List UInt8) (hm : s.length ≤ 1000000000) : Calls Tryz.prog 66 #[.string (bs s)] w fun en w' => en = .returned (.bool (allZ s)) ∧ Below w.heap.size w w' := by
  refine enter (args := [_]) Tryz.func66 Tryz.ntmps66 rfl rfl (HS.refl w []) ?_
  refine s_seq ?_
  refine s_region ?_
  refine o_p (p_pure rfl) rfl ?_
  refine o_nil ?_
  refine s_seq ?_
  refine s_seq ?_
  refine s_region ?_
  refine o_p (p_pure rfl) rfl ?_
  refine o_nil ?_
  refine s_block ?_
  refine s_loopI (α := Nat) [2, 3, 4, 5, 6, 7, 8, 9, 10, 11, 12, 13] (fun k => [(3, .int .i64 (k : Int))]) (fun _ => _) (fun k => k ≤ s.length ∧ allZ (s.take k) = true) (fun k => s.length - k) 0 ⟨Nat.zero_le _, rfl⟩ aSx (fun w h => h) (fun k hkk => ?_)
  obtain ⟨hk1, hk2⟩ := hkk
  refine s_seq ?_
  refine s_seq ?_
  refine s_region ?_
  refine o_p (p_pure rfl) rfl ?_
  refine o_p (p_pure rfl) rfl ?_
  refine o_p (p_len_str rfl rfl Tryz.underlying9) rfl ?_
  refine o_p (p_pure rfl) rfl ?_
  refine o_nil ?_
  refine s_cond rfl (fun h1 => ?_) (fun h1 => ?_)
  · try simp only [decide_eq_true_eq, decide_eq_false_iff_not, Bool.not_eq_true', Bool.not_eq_false', Bool.and_eq_true, Bool.or_eq_true, Bool.and_eq_false_iff, Bool.or_eq_false_iff, Bool.not_true, Bool.not_false] at h1
    have hk : k < s.length := by omega
    have hst := allZ_succ hk
    refine s_skip ?_
    refine s_seq ?_
    refine s_block ?_
    refine s_seq ?_
    refine s_region ?_
    refine o_p (p_pure rfl) rfl ?_
    refine o_p (p_pure rfl) rfl ?_
    refine o_p (p_index_str rfl rfl rfl Tryz.underlying9 (k) (by omega) (by omega)) rfl ?_
    refine o_p (p_pure rfl) rfl ?_
    refine o_nil ?_
    refine s_cond rfl (fun h2 => ?_) (fun h2 => ?_)
    · try simp only [decide_eq_true_eq, decide_eq_false_iff_not, Bool.not_eq_true', Bool.not_eq_false', Bool.and_eq_true, Bool.or_eq_true, Bool.and_eq_false_iff, Bool.or_eq_false_iff, Bool.not_true, Bool.not_false] at h2
      have hz : ¬ s.getD k 0 = 0 := by have hq := h2; intro h9; exact hq (u8z.2 h9)
      have hf := allZ_no hk hz
      refine s_seq ?_
      refine s_region ?_
      refine o_p (p_pure rfl) rfl ?_
      refine o_nil ?_
      exact s_retv (rs := [.tmp 2]) rfl (.tmp rfl (.nil)) (fun w' h' => ⟨by rw [hf]; rfl, h'.below⟩)
    · try simp only [decide_eq_true_eq, decide_eq_false_iff_not, Bool.not_eq_true', Bool.not_eq_false', Bool.and_eq_true, Bool.or_eq_true, Bool.and_eq_false_iff, Bool.or_eq_false_iff, Bool.not_true, Bool.not_false] at h2
      have hz : s.getD k 0 = 0 := u8z.1 (by have hq := h2; simpa using hq)
      refine s_skip ?_
      refine s_blk ?_
      refine s_region ?_
      refine o_p (p_pure rfl) rfl ?_
      refine o_p (p_pure rfl) rfl ?_
      try (refine o_slot (i64w (by omega) (by omega)) ?_)
      refine o_p (p_pure rfl) rfl ?_
      refine o_nil ?_
      exact s_backI (k + 1) (by omega) ⟨by omega, by rw [hst, hk2, hz]; rfl⟩ aSx (fun w h => h)
  · try simp only [decide_eq_true_eq, decide_eq_false_iff_not, Bool.not_eq_true', Bool.not_eq_false', Bool.and_eq_true, Bool.or_eq_true, Bool.and_eq_false_iff, Bool.or_eq_false_iff, Bool.not_true, Bool.not_false] at h1
    obtain rfl : k = s.length := by omega
    rw [List.take_length] at hk2
    refine s_exit_to rfl ?_
    refine s_seq ?_
    refine s_region ?_
    refine o_p (p_pure rfl) rfl ?_
    refine o_nil ?_
    exact s_retv (rs := [.tmp 2]) rfl (.tmp rfl (.nil)) (fun w' h' => ⟨by rw [hk2]; rfl, h'.below⟩)

set_option maxRecDepth 20000 in
theorem c34 (w : World) (s : List UInt8) (hm : s.length ≤ 1000000) : Calls Tryz.prog 34 #[.string (bs s)] w fun en w' => en = .returned (.int .i64 (strE s)) ∧ Below w.heap.size w w' := by
  refine enter (args := [_]) Tryz.func34 Tryz.ntmps34 rfl rfl (HS.refl w []) ?_
  refine s_seq ?_
  refine s_region ?_
  refine o_p (p_pure rfl) rfl ?_
  refine o_nil ?_
  refine s_seq ?_
  refine s_region ?_
  refine o_p (p_pure rfl) rfl ?_
  refine o_p (p_len_str rfl rfl Tryz.underlying9) rfl ?_
  refine o_p (p_pure rfl) rfl ?_
  try (refine o_slot (i64w (by omega) (by omega)) ?_)
  refine o_p (p_pure rfl) rfl ?_
  refine o_nil ?_
  refine s_seq ?_
  refine s_seq ?_
  refine s_region ?_
  refine o_p (p_pure rfl) rfl ?_
  refine o_q (q_call rfl fn_16 rfl (fun w1 h1 => c16 w1 _ _ _)) rfl ?_
  refine o_p (p_pure rfl) rfl ?_
  refine o_p (p_pure rfl) rfl ?_
  refine o_or 4 10 14 _ _ rfl
    (by
      intro hg1
      have hs2 := hg1; try simp only [decide_eq_true_eq, decide_eq_false_iff_not, Bool.not_eq_true', Bool.not_eq_false', Bool.and_eq_true, Bool.or_eq_true, Bool.and_eq_false_iff, Bool.or_eq_false_iff, Bool.not_true, Bool.not_false] at hs2
      refine o_on 10 _ rfl rfl hg1 ?_
      refine o_p (p_pure rfl) rfl ?_
      refine o_on 10 _ rfl rfl hg1 ?_
      refine o_p (p_rem_nn rfl rfl rfl (by omega) (by omega)) rfl ?_
      refine o_on 10 _ rfl rfl hg1 ?_
      refine o_p (p_pure rfl) rfl ?_
      refine o_p (p_pickf rfl rfl hg1 rfl) rfl ?_
      refine o_nil ?_
      exact s_joinN 4 14 _ rfl rfl rfl (fun w h => by first | exact h | exact h.ent aEt))
    (by
      intro hg3
      have hs4 := hg3; try simp only [decide_eq_true_eq, decide_eq_false_iff_not, Bool.not_eq_true', Bool.not_eq_false', Bool.and_eq_true, Bool.or_eq_true, Bool.and_eq_false_iff, Bool.or_eq_false_iff, Bool.not_true, Bool.not_false] at hs4
      refine o_off 10 _ rfl rfl hg3 rfl ?_
      refine o_off 10 _ rfl rfl hg3 rfl ?_
      refine o_off 10 _ rfl rfl hg3 rfl ?_
      refine o_p (p_pickt rfl rfl hg3 rfl) rfl ?_
      refine o_nil ?_
      exact s_joinN 4 14 _ rfl rfl rfl (fun w h => by first | exact h | exact h.ent aEt)) ?_
  refine o_nil ?_
  refine s_cond rfl (fun h5 => ?_) (fun h5 => ?_)
  · try simp only [decide_eq_true_eq, decide_eq_false_iff_not, Bool.not_eq_true', Bool.not_eq_false', Bool.and_eq_true, Bool.or_eq_true, Bool.and_eq_false_iff, Bool.or_eq_false_iff, Bool.not_true, Bool.not_false] at h5
    have h9 : strE s = 10 := by unfold strE; rw [if_neg]; intro h8; first | (have hq := h5; simp at hq; omega) | (have hq := h5; omega) | (have hg := hg3; simp at hg; omega)
    refine s_seq ?_
    refine s_region ?_
    refine o_p (p_pure rfl) rfl ?_
    refine o_nil ?_
    exact s_retv (rs := [.tmp 2]) rfl (.tmp rfl (.nil)) (fun w' h' => ⟨by rw [h9]; rfl, h'.below⟩)
  · try simp only [decide_eq_true_eq, decide_eq_false_iff_not, Bool.not_eq_true', Bool.not_eq_false', Bool.and_eq_true, Bool.or_eq_true, Bool.and_eq_false_iff, Bool.or_eq_false_iff, Bool.not_true, Bool.not_false] at h5
    have h9 : strE s = 0 := by unfold strE; rw [if_pos]; first | (have hq := h5; simp at hq; omega) | (have hq := h5; omega) | (have hg := hg3; have hq := h5; simp at hg; omega)
    refine s_skip ?_
    refine s_seq ?_
    refine s_region ?_
    refine o_p (p_pure rfl) rfl ?_
    refine o_nil ?_
    exact s_retv (rs := [.tmp 2]) rfl (.tmp rfl (.nil)) (fun w' h' => ⟨by rw [h9]; rfl, h'.below⟩)

set_option maxRecDepth 20000 in
theorem c35 (w : World) (s hf : List UInt8) (a : Nat) (hm : s.length ≤ 1000000) (hs : SegOf s hf a) (h16 : 16 ≤ hf.length) : Calls Tryz.prog 35 #[.string (bs s), .int .i64 (a : Int)] w fun en w' => en = .returned (.tuple #[.int .i64 (at4 hf 4), .int .i64 (at4 hf 8), .bool (isHd hf)]) ∧ Below w.heap.size w w' := by
  have hle := hs.le
  have hl16 : (hf.take 16).length = 16 := by rw [List.length_take]; omega
  have e4 : (hf.take 16).take 4 = hf.take 4 := by rw [List.take_take]; rfl
  have e12 : (hf.take 16).take 12 = hf.take 12 := by rw [List.take_take]; rfl
  have hl12 : (hf.take 12).length ≤ 1000000000 := by rw [List.length_take]; omega
  refine enter (args := [_, _]) Tryz.func35 Tryz.ntmps35 rfl rfl (HS.refl w []) ?_
  refine s_seq ?_
  refine s_region ?_
  refine o_p (p_pure rfl) rfl ?_
  refine o_p (p_pure rfl) rfl ?_
  refine o_p (p_pure rfl) rfl ?_
  refine o_nil ?_
  refine s_seq ?_
  refine s_region ?_
  refine o_p (p_pure rfl) rfl ?_
  refine o_p (p_pure rfl) rfl ?_
  refine o_p (p_pure rfl) rfl ?_
  refine o_p (p_pure rfl) rfl ?_
  try (refine o_slot (i64w (by omega) (by omega)) ?_)
  refine o_p (p_slice_str _ _ a (a + 16) rfl rfl Tryz.underlying9 ⟨_, _, rfl, rfl⟩ ⟨_, _, rfl, (by omega)⟩ (by omega) (by omega)) rfl ?_
  refine o_slot (show _ = Value.string (bs (hf.take 16)) from by have h9 := hs.cut (i := 0) (j := 16) (by omega); rw [Nat.add_zero, List.drop_zero] at h9; rw [h9]) ?_
  refine o_p (p_pure rfl) rfl ?_
  refine o_nil ?_
  refine s_seq ?_
  refine s_draw [] mixed ?_
  refine d_p 0 rfl (p_pure rfl) (by kernel_rfl) rfl rfl ?_
  refine d_q 1 [] rfl (q_call rfl fn_65 rfl (fun w1 h1 => by have h9 := c65 w1 (hf.take 16) 4 4 (by omega) (by omega) (by omega); rw [litN_4, at4_take (by omega)] at h9; exact h9)) (by kernel_rfl) (by kernel_rfl) (by kernel_rfl) rfl ?_
  refine d_p 2 rfl (p_pure rfl) (by kernel_rfl) rfl rfl ?_
  refine d_q 3 [] rfl (q_call rfl fn_65 rfl (fun w1 h1 => by have h9 := c65 w1 (hf.take 16) 8 4 (by omega) (by omega) (by omega); rw [litN_4, at4_take (by omega)] at h9; exact h9)) (by kernel_rfl) (by kernel_rfl) (by kernel_rfl) rfl ?_
  refine d_p 4 rfl (p_pure rfl) (by kernel_rfl) rfl rfl ?_
  refine d_p 5 rfl (p_slice_str_to 4 rfl rfl rfl Tryz.underlying9 rfl (by omega)) (by kernel_rfl) rfl rfl ?_
  refine d_p 6 rfl (p_pure rfl) (by kernel_rfl) rfl rfl ?_
  refine d_p 7 rfl (p_pure rfl) (by kernel_rfl) rfl rfl ?_
  apply d_split 20
  · exact rfl
  · intro hg1
    have hs2 := hg1; try simp only [decide_eq_true_eq, decide_eq_false_iff_not, Bool.not_eq_true', Bool.not_eq_false', Bool.and_eq_true, Bool.or_eq_true, Bool.and_eq_false_iff, Bool.or_eq_false_iff, Bool.not_true, Bool.not_false] at hs2
    refine d_pon 8 20 rfl rfl rfl hg1 (p_pure rfl) (by kernel_rfl) rfl rfl ?_
    refine d_pon 9 20 rfl rfl rfl hg1 (p_slice_str_to 12 rfl rfl rfl Tryz.underlying9 rfl (by omega)) (by kernel_rfl) rfl rfl ?_
    refine d_slot (show _ = Value.string (bs (hf.take 12)) from by rw [e12]) ?_
    refine d_qon 10 20 [] rfl rfl rfl hg1 (q_call rfl fn_38 rfl (fun w1 h1 => c38 w1 (hf.take 12) hl12)) (by kernel_rfl) (by kernel_rfl) (by kernel_rfl) rfl ?_
    refine d_pon 11 20 rfl rfl rfl hg1 (p_pure rfl) (by kernel_rfl) rfl rfl ?_
    refine d_qon 12 20 [] rfl rfl rfl hg1 (q_call rfl fn_65 rfl (fun w1 h1 => by have h9 := c65 w1 (hf.take 16) 12 4 (by omega) (by omega) (by omega); rw [litN_4, at4_take (by omega)] at h9; exact h9)) (by kernel_rfl) (by kernel_rfl) (by kernel_rfl) rfl ?_
    refine d_pon 13 20 rfl rfl rfl hg1 (p_pure rfl) (by kernel_rfl) rfl rfl ?_
    refine d_p 14 rfl (p_pickt rfl rfl hg1 rfl) (by kernel_rfl) rfl rfl ?_
    refine d_p 15 rfl (p_pure rfl) (by kernel_rfl) rfl rfl ?_
    refine d_p 16 rfl (p_pure rfl) (by kernel_rfl) rfl rfl ?_
    refine d_p 17 rfl (p_pure rfl) (by kernel_rfl) rfl rfl ?_
    refine d_nil (by kernel_rfl) (fun w h => by first | exact h | exact h.ent aEt) ?_
    exact s_retv (rs := [.tmp 4, .tmp 5, .tmp 6]) rfl (.tmp rfl (.tmp rfl (.tmp rfl (.nil)))) (fun w' h' => ⟨by unfold isHd; rw [← e4, show decide (List.take 4 (List.take 16 hf) = signB) = _ from hg1]; rfl, h'.below⟩)
  · intro hg3
    have hs4 := hg3; try simp only [decide_eq_true_eq, decide_eq_false_iff_not, Bool.not_eq_true', Bool.not_eq_false', Bool.and_eq_true, Bool.or_eq_true, Bool.and_eq_false_iff, Bool.or_eq_false_iff, Bool.not_true, Bool.not_false] at hs4
    refine d_off 8 20 rfl rfl rfl hg3 (by kernel_rfl) rfl rfl ?_
    refine d_off 9 20 rfl rfl rfl hg3 (by kernel_rfl) rfl rfl ?_
    refine d_off 10 20 rfl rfl rfl hg3 (by kernel_rfl) rfl rfl ?_
    refine d_off 11 20 rfl rfl rfl hg3 (by kernel_rfl) rfl rfl ?_
    refine d_off 12 20 rfl rfl rfl hg3 (by kernel_rfl) rfl rfl ?_
    refine d_off 13 20 rfl rfl rfl hg3 (by kernel_rfl) rfl rfl ?_
    refine d_p 14 rfl (p_pickf rfl rfl hg3 rfl) (by kernel_rfl) rfl rfl ?_
    refine d_p 15 rfl (p_pure rfl) (by kernel_rfl) rfl rfl ?_
    refine d_p 16 rfl (p_pure rfl) (by kernel_rfl) rfl rfl ?_
    refine d_p 17 rfl (p_pure rfl) (by kernel_rfl) rfl rfl ?_
    refine d_nil (by kernel_rfl) (fun w h => by first | exact h | exact h.ent aEt) ?_
    exact s_retv (rs := [.tmp 4, .tmp 5, .tmp 6]) rfl (.tmp rfl (.tmp rfl (.tmp rfl (.nil)))) (fun w' h' => ⟨by unfold isHd; rw [← e4, show decide (List.take 4 (List.take 16 hf) = signB) = _ from hg3]; rfl, h'.below⟩)

set_option maxRecDepth 20000 in
set_option maxHeartbeats 1000000 in
theorem c36 (w : World) (s hf : List UInt8) (a p : Nat) (hm : s.length ≤ 100000) (hs : SegOf s hf a) (hp : p ≤ 1000000) : Calls Tryz.prog 36 #[.string (bs s), .int .i64 (a : Int), .int .i64 (p : Int), .int .i64 (hf.length : Int)] w fun en w' => en = .returned (.tuple #[.agg #[.int .i64 (itR hf p).x.id, .string (bs (itR hf p).x.by_)], .int .i64 (itR hf p).n, .bool (itR hf p).ok]) ∧ Below w.heap.size w w' := by
  have hle := hs.le
  have hz := at4_le hf (p + 12)
  have hu9 := upT_le (at4 hf (p + 12))
  have hbl : (bodyI hf p).length ≤ 200000 := by unfold bodyI; rw [List.length_take, List.length_drop]; omega
  have hpl : (padI hf p).length ≤ 1000000 := by unfold padI; rw [List.length_take, List.length_drop]; omega
  refine enter (args := [_, _, _, _]) Tryz.func36 Tryz.ntmps36 rfl rfl (HS.refl w []) ?_
  refine s_seq ?_
  refine s_region ?_
  refine o_h (h_alloc rfl zr_50) rfl (fun b1 _ => ?_)
  refine o_p (p_pure rfl) rfl ?_
  refine o_p (p_pure rfl) rfl ?_
  refine o_nil ?_
  refine s_seq ?_
  refine s_seq ?_
  refine s_region ?_
  refine o_p (p_pure rfl) rfl ?_
  refine o_p (p_pure rfl) rfl ?_
  try (refine o_slot (i64w (by omega) (by omega)) ?_)
  refine o_p (p_pure rfl) rfl ?_
  refine o_p (p_pure rfl) rfl ?_
  refine o_nil ?_
  refine s_cond rfl (fun h2 => ?_) (fun h2 => ?_)
  · try simp only [decide_eq_true_eq, decide_eq_false_iff_not, Bool.not_eq_true', Bool.not_eq_false', Bool.and_eq_true, Bool.or_eq_true, Bool.and_eq_false_iff, Bool.or_eq_false_iff, Bool.not_true, Bool.not_false] at h2
    have hno : shpI hf p = false := by unfold shpI; rw [decide_eq_false (by have hq := h2; omega)]; rfl
    have hT := itR_no hno
    refine s_seq ?_
    refine s_region ?_
    refine o_p (p_build (cs := [_, _]) rfl rfl pl_50 zr_50 rfl) rfl ?_
    refine o_h0 (h_store rfl rfl rfl sz_50 rfl aPt (by simp only [setMany_length, List.length_set, List.length_cons, List.length_nil, List.length_map]; omega) rfl) (fun _ _ => ?_)
    refine o_p (p_pure rfl) rfl ?_
    refine o_p (p_pure rfl) rfl ?_
    refine o_nil ?_
    exact s_retv (rs := [.cell 8 50, .tmp 9, .tmp 10]) rfl (.cell rfl sz_50 aPk rfl (.tmp rfl (.tmp rfl (.nil)))) (fun w' h' => ⟨by rw [hT]; rfl, h'.below⟩)
  · try simp only [decide_eq_true_eq, decide_eq_false_iff_not, Bool.not_eq_true', Bool.not_eq_false', Bool.and_eq_true, Bool.or_eq_true, Bool.and_eq_false_iff, Bool.or_eq_false_iff, Bool.not_true, Bool.not_false] at h2
    have hl16 : p + 16 ≤ hf.length := by have hq := h2; omega
    refine s_skip ?_
    refine s_seq ?_
    refine s_region ?_
    refine o_p (p_pure rfl) rfl ?_
    refine o_p (p_pure rfl) rfl ?_
    refine o_p (p_pure rfl) rfl ?_
    try (refine o_slot (i64w (by omega) (by omega)) ?_)
    refine o_slot (show _ = Value.int .i64 ((a + p : Nat) : Int) from by first | rfl | (exact congrArg (Value.int .i64) (by omega))) ?_
    refine o_p (p_pure rfl) rfl ?_
    refine o_nil ?_
    refine s_seq ?_
    refine s_region ?_
    refine o_p (p_pure rfl) rfl ?_
    refine o_p (p_pure rfl) rfl ?_
    refine o_p (p_pure rfl) rfl ?_
    try (refine o_slot (i64w (by omega) (by omega)) ?_)
    refine o_slot (show _ = Value.int .i64 ((a + p + 12 : Nat) : Int) from by first | rfl | (exact congrArg (Value.int .i64) (by omega))) ?_
    refine o_q (q_call rfl fn_65 rfl (fun w1 h1 => by have h9 := c65 w1 s (a + p + 12) 4 (by omega) (by omega) (by omega); rw [litN_4, show (a + p + 12) = a + (p + 12) from by omega, hs.at4 (q := p + 12) (by omega)] at h9; exact h9)) rfl ?_
    refine o_p (p_pure rfl) rfl ?_
    refine o_nil ?_
    refine s_seq ?_
    refine s_seq ?_
    refine s_region ?_
    refine o_p (p_pure rfl) rfl ?_
    refine o_p (p_pure rfl) rfl ?_
    refine o_p (p_pure rfl) rfl ?_
    try (refine o_slot (i64w (by omega) (by omega)) ?_)
    refine o_slot (show _ = Value.int .i64 ((a + p + 8 : Nat) : Int) from by first | rfl | (exact congrArg (Value.int .i64) (by omega))) ?_
    refine o_q (q_call rfl fn_65 rfl (fun w1 h1 => by have h9 := c65 w1 s (a + p + 8) 4 (by omega) (by omega) (by omega); rw [litN_4, show (a + p + 8) = a + (p + 8) from by omega, hs.at4 (q := p + 8) (by omega)] at h9; exact h9)) rfl ?_
    refine o_p (p_pure rfl) rfl ?_
    refine o_p (p_pure rfl) rfl ?_
    refine o_p (p_pure rfl) rfl ?_
    refine o_or 3 32 35 _ _ rfl
      (by
        intro hg3
        have hs4 := hg3; try simp only [decide_eq_true_eq, decide_eq_false_iff_not, Bool.not_eq_true', Bool.not_eq_false', Bool.and_eq_true, Bool.or_eq_true, Bool.and_eq_false_iff, Bool.or_eq_false_iff, Bool.not_true, Bool.not_false] at hs4
        refine o_on 32 _ rfl rfl hg3 ?_
        refine o_p (p_pure rfl) rfl ?_
        refine o_on 32 _ rfl rfl hg3 ?_
        refine o_p (p_pure rfl) rfl ?_
        refine o_p (p_pickf rfl rfl hg3 rfl) rfl ?_
        refine o_nil ?_
        exact s_joinN 3 35 _ rfl rfl rfl (fun w h => by first | exact h | exact h.ent aEt))
      (by
        intro hg5
        have hs6 := hg5; try simp only [decide_eq_true_eq, decide_eq_false_iff_not, Bool.not_eq_true', Bool.not_eq_false', Bool.and_eq_true, Bool.or_eq_true, Bool.and_eq_false_iff, Bool.or_eq_false_iff, Bool.not_true, Bool.not_false] at hs6
        refine o_off 32 _ rfl rfl hg5 rfl ?_
        refine o_off 32 _ rfl rfl hg5 rfl ?_
        refine o_p (p_pickt rfl rfl hg5 rfl) rfl ?_
        refine o_nil ?_
        exact s_joinN 3 35 _ rfl rfl rfl (fun w h => by first | exact h | exact h.ent aEt)) ?_
    refine o_p (p_pure rfl) rfl ?_
    refine o_or 4 36 40 _ _ rfl
      (by
        intro hg7
        have hs8 := hg7; try simp only [decide_eq_true_eq, decide_eq_false_iff_not, Bool.not_eq_true', Bool.not_eq_false', Bool.and_eq_true, Bool.or_eq_true, Bool.and_eq_false_iff, Bool.or_eq_false_iff, Bool.not_true, Bool.not_false] at hs8
        refine o_on 36 _ rfl rfl hg7 ?_
        refine o_p (p_pure rfl) rfl ?_
        refine o_on 36 _ rfl rfl hg7 ?_
        refine o_p (p_pure rfl) rfl ?_
        refine o_on 36 _ rfl rfl hg7 ?_
        refine o_p (p_pure rfl) rfl ?_
        refine o_p (p_pickf rfl rfl hg7 rfl) rfl ?_
        refine o_nil ?_
        exact s_joinN 4 40 _ rfl rfl rfl (fun w h => by first | exact h | exact h.ent aEt))
      (by
        intro hg9
        have hs10 := hg9; try simp only [decide_eq_true_eq, decide_eq_false_iff_not, Bool.not_eq_true', Bool.not_eq_false', Bool.and_eq_true, Bool.or_eq_true, Bool.and_eq_false_iff, Bool.or_eq_false_iff, Bool.not_true, Bool.not_false] at hs10
        refine o_off 36 _ rfl rfl hg9 rfl ?_
        refine o_off 36 _ rfl rfl hg9 rfl ?_
        refine o_off 36 _ rfl rfl hg9 rfl ?_
        refine o_p (p_pickt rfl rfl hg9 rfl) rfl ?_
        refine o_nil ?_
        exact s_joinN 4 40 _ rfl rfl rfl (fun w h => by first | exact h | exact h.ent aEt)) ?_
    refine o_p (p_pure rfl) rfl ?_
    refine o_or 7 41 48 _ _ rfl
      (by
        intro hg11
        have hs12 := hg11; try simp only [decide_eq_true_eq, decide_eq_false_iff_not, Bool.not_eq_true', Bool.not_eq_false', Bool.and_eq_true, Bool.or_eq_true, Bool.and_eq_false_iff, Bool.or_eq_false_iff, Bool.not_true, Bool.not_false] at hs12
        refine o_on 41 _ rfl rfl hg11 ?_
        refine o_p (p_pure rfl) rfl ?_
        refine o_on 41 _ rfl rfl hg11 ?_
        refine o_p (p_pure rfl) rfl ?_
        refine o_on 41 _ rfl rfl hg11 ?_
        refine o_q (q_call rfl fn_41 rfl (fun w1 h1 => c41 w1 (at4 hf (p + 12)) (by omega))) rfl ?_
        refine o_on 41 _ rfl rfl hg11 ?_
        refine o_p (p_pure rfl) rfl ?_
        try (refine o_slot (i64w (by omega) (by omega)) ?_)
        refine o_on 41 _ rfl rfl hg11 ?_
        refine o_p (p_pure rfl) rfl ?_
        refine o_on 41 _ rfl rfl hg11 ?_
        refine o_p (p_pure rfl) rfl ?_
        refine o_p (p_pickf rfl rfl hg11 rfl) rfl ?_
        refine o_nil ?_
        exact s_joinN 7 48 _ rfl rfl rfl (fun w h => by first | exact h | exact h.ent aEt))
      (by
        intro hg13
        have hs14 := hg13; try simp only [decide_eq_true_eq, decide_eq_false_iff_not, Bool.not_eq_true', Bool.not_eq_false', Bool.and_eq_true, Bool.or_eq_true, Bool.and_eq_false_iff, Bool.or_eq_false_iff, Bool.not_true, Bool.not_false] at hs14
        refine o_off 41 _ rfl rfl hg13 rfl ?_
        refine o_off 41 _ rfl rfl hg13 rfl ?_
        refine o_off 41 _ rfl rfl hg13 rfl ?_
        refine o_off 41 _ rfl rfl hg13 rfl ?_
        refine o_off 41 _ rfl rfl hg13 rfl ?_
        refine o_off 41 _ rfl rfl hg13 rfl ?_
        refine o_p (p_pickt rfl rfl hg13 rfl) rfl ?_
        refine o_nil ?_
        exact s_joinN 7 48 _ rfl rfl rfl (fun w h => by first | exact h | exact h.ent aEt)) ?_
    refine o_nil ?_
    refine s_cond rfl (fun h15 => ?_) (fun h15 => ?_)
    · try simp only [decide_eq_true_eq, decide_eq_false_iff_not, Bool.not_eq_true', Bool.not_eq_false', Bool.and_eq_true, Bool.or_eq_true, Bool.and_eq_false_iff, Bool.or_eq_false_iff, Bool.not_true, Bool.not_false] at h15
      have hno : ¬ shpI hf p = true := by intro h9; obtain ⟨_, k1, k2, k3⟩ := shpI_ok h9; have hq := h15; first | omega | (simp at hq; omega)
      have hT := itR_no (Bool.eq_false_iff.2 hno)
      refine s_seq ?_
      refine s_weaken (L' := [(0, _), (8, _), (9, _), (10, _), (11, _), (12, _)]) aSx (fun _ h => h) ?_
      refine s_region ?_
      refine o_p (p_build (cs := [_, _]) rfl rfl pl_50 zr_50 rfl) rfl ?_
      refine o_h0 (h_store rfl rfl rfl sz_50 rfl aPt (by simp only [setMany_length, List.length_set, List.length_cons, List.length_nil, List.length_map]; omega) rfl) (fun _ _ => ?_)
      refine o_p (p_pure rfl) rfl ?_
      refine o_p (p_pure rfl) rfl ?_
      refine o_nil ?_
      exact s_retv (rs := [.cell 8 50, .tmp 9, .tmp 10]) rfl (.cell rfl sz_50 aPk rfl (.tmp rfl (.tmp rfl (.nil)))) (fun w' h' => ⟨by rw [hT]; rfl, h'.below⟩)
    · try simp only [decide_eq_true_eq, decide_eq_false_iff_not, Bool.not_eq_true', Bool.not_eq_false', Bool.and_eq_true, Bool.or_eq_true, Bool.and_eq_false_iff, Bool.or_eq_false_iff, Bool.not_true, Bool.not_false] at h15
      have hyes : shpI hf p = true := by have hq := h15; unfold shpI; simp only [Bool.and_eq_true, decide_eq_true_eq]; first | omega | (simp at hq; omega)
      obtain ⟨_, k1, k2, k3⟩ := shpI_ok hyes
      have hzn : (at4 hf (p + 12)) = (((at4 hf (p + 12)).toNat : Nat) : Int) := by omega
      have hpn : upT (at4 hf (p + 12)) = (((at4 hf (p + 12)).toNat + padN (at4 hf (p + 12)) : Nat) : Int) := by unfold padN; omega
      have hT := itR_shp hyes
      refine s_skip ?_
      refine s_seq ?_
      refine s_weaken (L' := [(0, _), (8, _), (9, _), (10, _), (11, _), (12, _)]) aSx (fun _ h => h) ?_
      refine s_region ?_
      refine o_p (p_pure rfl) rfl ?_
      refine o_p (p_pure rfl) rfl ?_
      refine o_p (p_pure rfl) rfl ?_
      try (refine o_slot (i64w (by omega) (by omega)) ?_)
      refine o_slot (show _ = Value.int .i64 ((a + p + 16 : Nat) : Int) from by first | rfl | (exact congrArg (Value.int .i64) (by omega))) ?_
      refine o_p (p_pure rfl) rfl ?_
      refine o_p (p_pure rfl) rfl ?_
      refine o_p (p_pure rfl) rfl ?_
      try (refine o_slot (i64w (by omega) (by omega)) ?_)
      refine o_p (p_slice_str _ _ (a + p + 16) (a + (p + (at4 hf (p + 12)).toNat)) rfl rfl Tryz.underlying9 ⟨_, _, rfl, rfl⟩ ⟨_, _, rfl, (by omega)⟩ (by omega) (by omega)) rfl ?_
      refine o_slot (show _ = Value.string (bs (bodyI hf p)) from by rw [show a + p + 16 = a + (p + 16) from by omega, hs.cut (by omega), cutI]; unfold bodyI; rw [show p + (at4 hf (p + 12)).toNat - (p + 16) = (at4 hf (p + 12)).toNat - 16 from by omega]) ?_
      refine o_p (p_pure rfl) rfl ?_
      refine o_nil ?_
      refine s_seq ?_
      refine s_seq ?_
      refine s_region ?_
      refine o_p (p_pure rfl) rfl ?_
      refine o_p (p_pure rfl) rfl ?_
      refine o_p (p_pure rfl) rfl ?_
      refine o_p (p_pure rfl) rfl ?_
      try (refine o_slot (i64w (by omega) (by omega)) ?_)
      refine o_p (p_pure rfl) rfl ?_
      refine o_p (p_pure rfl) rfl ?_
      refine o_q (q_call rfl fn_41 rfl (fun w1 h1 => c41 w1 (at4 hf (p + 12)) (by omega))) rfl ?_
      refine o_p (p_pure rfl) rfl ?_
      try (refine o_slot (i64w (by omega) (by omega)) ?_)
      refine o_p (p_slice_str _ _ (a + (p + (at4 hf (p + 12)).toNat)) (a + (p + ((at4 hf (p + 12)).toNat + padN (at4 hf (p + 12))))) rfl rfl Tryz.underlying9 ⟨_, _, rfl, (by omega)⟩ ⟨_, _, rfl, (by omega)⟩ (by omega) (by omega)) rfl ?_
      refine o_slot (show _ = Value.string (bs (padI hf p)) from by rw [hs.cut (by omega), cutI]; unfold padI; rw [show p + ((at4 hf (p + 12)).toNat + padN (at4 hf (p + 12))) - (p + (at4 hf (p + 12)).toNat) = padN (at4 hf (p + 12)) from by omega]) ?_
      refine o_q (q_call rfl fn_66 rfl (fun w1 h1 => c66 w1 (padI hf p) (by omega))) rfl ?_
      refine o_p (p_pure rfl) rfl ?_
      refine o_p (p_pure rfl) rfl ?_
      refine o_or 7 68 75 _ _ rfl
        (by
          intro hg16
          have hs17 := hg16; try simp only [decide_eq_true_eq, decide_eq_false_iff_not, Bool.not_eq_true', Bool.not_eq_false', Bool.and_eq_true, Bool.or_eq_true, Bool.and_eq_false_iff, Bool.or_eq_false_iff, Bool.not_true, Bool.not_false] at hs17
          refine o_on 68 _ rfl rfl hg16 ?_
          refine o_p (p_pure rfl) rfl ?_
          refine o_on 68 _ rfl rfl hg16 ?_
          refine o_p (p_pure rfl) rfl ?_
          refine o_on 68 _ rfl rfl hg16 ?_
          refine o_q (q_call rfl fn_65 rfl (fun w1 h1 => by have h9 := c65 w1 s (a + p) 4 (by omega) (by omega) (by omega); rw [litN_4, show (a + p) = a + (p + 0) from by omega, hs.at4 (q := p + 0) (by omega)] at h9; exact h9)) rfl ?_
          refine o_on 68 _ rfl rfl hg16 ?_
          refine o_p (p_pure rfl) rfl ?_
          refine o_on 68 _ rfl rfl hg16 ?_
          refine o_q (q_call rfl fn_39 rfl (fun w1 h1 => c39 w1 (bodyI hf p) (by omega))) rfl ?_
          refine o_on 68 _ rfl rfl hg16 ?_
          refine o_p (p_pure rfl) rfl ?_
          refine o_p (p_pickf rfl rfl hg16 rfl) rfl ?_
          refine o_nil ?_
          exact s_joinN 7 75 _ rfl rfl rfl (fun w h => by first | exact h | exact h.ent aEt))
        (by
          intro hg18
          have hs19 := hg18; try simp only [decide_eq_true_eq, decide_eq_false_iff_not, Bool.not_eq_true', Bool.not_eq_false', Bool.and_eq_true, Bool.or_eq_true, Bool.and_eq_false_iff, Bool.or_eq_false_iff, Bool.not_true, Bool.not_false] at hs19
          refine o_off 68 _ rfl rfl hg18 rfl ?_
          refine o_off 68 _ rfl rfl hg18 rfl ?_
          refine o_off 68 _ rfl rfl hg18 rfl ?_
          refine o_off 68 _ rfl rfl hg18 rfl ?_
          refine o_off 68 _ rfl rfl hg18 rfl ?_
          refine o_off 68 _ rfl rfl hg18 rfl ?_
          refine o_p (p_pickt rfl rfl hg18 rfl) rfl ?_
          refine o_nil ?_
          exact s_joinN 7 75 _ rfl rfl rfl (fun w h => by first | exact h | exact h.ent aEt)) ?_
      refine o_nil ?_
      refine s_cond rfl (fun h20 => ?_) (fun h20 => ?_)
      · try simp only [decide_eq_true_eq, decide_eq_false_iff_not, Bool.not_eq_true', Bool.not_eq_false', Bool.and_eq_true, Bool.or_eq_true, Bool.and_eq_false_iff, Bool.or_eq_false_iff, Bool.not_true, Bool.not_false] at h20
        have hbad : ¬ (allZ (padI hf p) && decide (at4 hf p = hashS (bodyI hf p))) = true := by intro h9; simp only [Bool.and_eq_true, decide_eq_true_eq] at h9; have hq := h20; first | (simp [h9.1, h9.2] at hq; done) | (simp at hq; simp [h9.1, h9.2] at hq; done) | (have hg := hg18; simp [h9.1, h9.2] at hq hg; done)
        rw [if_neg hbad] at hT
        refine s_seq ?_
        refine s_region ?_
        refine o_p (p_build (cs := [_, _]) rfl rfl pl_50 zr_50 rfl) rfl ?_
        refine o_h0 (h_store rfl rfl rfl sz_50 rfl aPt (by simp only [setMany_length, List.length_set, List.length_cons, List.length_nil, List.length_map]; omega) rfl) (fun _ _ => ?_)
        refine o_p (p_pure rfl) rfl ?_
        refine o_p (p_pure rfl) rfl ?_
        refine o_nil ?_
        exact s_retv (rs := [.cell 8 50, .tmp 9, .tmp 10]) rfl (.cell rfl sz_50 aPk rfl (.tmp rfl (.tmp rfl (.nil)))) (fun w' h' => ⟨by rw [hT]; rfl, h'.below⟩)
      · try simp only [decide_eq_true_eq, decide_eq_false_iff_not, Bool.not_eq_true', Bool.not_eq_false', Bool.and_eq_true, Bool.or_eq_true, Bool.and_eq_false_iff, Bool.or_eq_false_iff, Bool.not_true, Bool.not_false] at h20
        have hgood : (allZ (padI hf p) && decide (at4 hf p = hashS (bodyI hf p))) = true := by have hq := h20; first | (simpa using hq) | (simp only [Bool.and_eq_true, decide_eq_true_eq]; simp at hq; exact hq) | (have hg := hg18; simp at hq hg; simp [hq, hg]) | (simp_all; done)
        rw [if_pos hgood] at hT
        refine s_skip ?_
        refine s_seq ?_
        refine s_region ?_
        refine o_p (p_pure rfl) rfl ?_
        refine o_p (p_pure rfl) rfl ?_
        refine o_p (p_pure rfl) rfl ?_
        try (refine o_slot (i64w (by omega) (by omega)) ?_)
        refine o_slot (show _ = Value.int .i64 ((a + p + 4 : Nat) : Int) from by first | rfl | (exact congrArg (Value.int .i64) (by omega))) ?_
        refine o_q (q_call rfl fn_65 rfl (fun w1 h1 => by have h9 := c65 w1 s (a + p + 4) 4 (by omega) (by omega) (by omega); rw [litN_4, show (a + p + 4) = a + (p + 4) from by omega, hs.at4 (q := p + 4) (by omega)] at h9; exact h9)) rfl ?_
        refine o_p (p_pure rfl) rfl ?_
        refine o_p (p_build (cs := [_, _]) rfl rfl pl_50 zr_50 rfl) rfl ?_
        refine o_p (p_pure rfl) rfl ?_
        refine o_q (q_call rfl fn_41 rfl (fun w1 h1 => c41 w1 (at4 hf (p + 12)) (by omega))) rfl ?_
        refine o_h0 (h_store rfl rfl rfl sz_50 rfl aPt (by simp only [setMany_length, List.length_set, List.length_cons, List.length_nil, List.length_map]; omega) rfl) (fun _ _ => ?_)
        refine o_p (p_pure rfl) rfl ?_
        refine o_p (p_pure rfl) rfl ?_
        refine o_nil ?_
        exact s_retv (rs := [.cell 8 50, .tmp 9, .tmp 10]) rfl (.cell rfl sz_50 aPk rfl (.tmp rfl (.tmp rfl (.nil)))) (fun w' h' => ⟨by rw [hT]; rfl, h'.below⟩)

end Go.Proofs

namespace Go.Proofs
open Go Go.RowKit Gx
set_option linter.unusedVariables false
set_option linter.unusedSimpArgs false
attribute [local irreducible] Go.Calls Gx.S Gx.O Gx.D Gx.OpP Gx.OpQ Gx.OpH

theorem fn_34 : isFn Tryz.prog 34 = true := by kernel_rfl
theorem fn_35 : isFn Tryz.prog 35 = true := by kernel_rfl
theorem fn_36 : isFn Tryz.prog 36 = true := by kernel_rfl
theorem fn_13 : isFn Tryz.prog 13 = true := by kernel_rfl
theorem fn_18 : isFn Tryz.prog 18 = true := by kernel_rfl
attribute [local irreducible] Gx.h1S Gx.h2S Gx.inS Gx.inB Gx.inL Gx.itA Gx.isHd Gx.stoE Gx.upT Gx.at4 Gx.strE Gx.itR Gx.halfK Gx.halfS Gx.plsI Gx.hashS Gx.sumS

set_option maxRecDepth 20000 in
set_option maxHeartbeats 4000000 in
theorem c10 (w : World) (s : List UInt8) (hm : s.length ≤ 100000) : Calls Tryz.prog 10 #[.string (bs s)] w fun en w' => ∃ g : (Option Addr × Nat) × (Option Addr × Nat), en = .returned (.tuple #[.agg #[.int .i64 (inS s).nx, .slice g.1.1 (inS s).l.length g.1.2], .slice g.2.1 (inS s).dm.length g.2.2, .int .i64 (inS s).e]) ∧ True ∧ HS w [] [.own (.slice g.1.1 (inS s).l.length g.1.2) 50 2 (inS s).l.length ((inS s).l.flatMap SItm.vals), .own (.slice g.2.1 (inS s).dm.length g.2.2) 3 1 (inS s).dm.length ((inS s).dm.map nv)] w' := by
  refine enter (args := [_]) Tryz.func10 Tryz.ntmps10 rfl rfl (HS.refl w []) ?_
  refine s_seq ?_
  refine s_region ?_
  refine o_h (h_alloc rfl zr_24) rfl (fun b1 _ => ?_)
  refine o_p (p_pure rfl) rfl ?_
  refine o_p (p_pure rfl) rfl ?_
  refine o_nil ?_
  refine s_seq ?_
  refine s_region ?_
  refine o_p (p_build (cs := [_, _]) rfl rfl pl_24 zr_24 rfl) rfl ?_
  refine o_h (h_alloc rfl zr_24) rfl (fun b2 _ => ?_)
  refine o_h0 (h_store rfl rfl rfl sz_24 rfl aPt (by simp only [setMany_length, List.length_set, List.length_cons, List.length_nil, List.length_map]; omega) rfl) (fun _ _ => ?_)
  refine o_nil ?_
  refine s_seq ?_
  refine s_seq ?_
  refine s_region ?_
  refine o_p (p_pure rfl) rfl ?_
  refine o_q (q_call rfl fn_34 rfl (fun w1 h1 => c34 w1 s (by omega))) rfl ?_
  refine o_p (p_pure rfl) rfl ?_
  refine o_nil ?_
  refine s_seq ?_
  refine s_region ?_
  refine o_p (p_pure rfl) rfl ?_
  refine o_p (p_pure rfl) rfl ?_
  refine o_nil ?_
  refine s_cond rfl (fun h3 => ?_) (fun h3 => ?_)
  · try simp only [decide_eq_true_eq, decide_eq_false_iff_not, Bool.not_eq_true', Bool.not_eq_false', Bool.and_eq_true, Bool.or_eq_true, Bool.and_eq_false_iff, Bool.or_eq_false_iff, Bool.not_true, Bool.not_false] at h3
    have h0 : ¬ strE s = 0 := h3
    have hT := inS_0 h0
    refine s_seq ?_
    refine s_region ?_
    refine o_q (q_loadn rfl rfl sz_24 aPk rfl) rfl ?_
    refine o_p (p_pure rfl) rfl ?_
    refine o_h0 (h_store rfl rfl rfl sz_24 rfl aPt (by simp only [setMany_length, List.length_set, List.length_cons, List.length_nil, List.length_map]; omega) rfl) (fun _ _ => ?_)
    refine o_p (p_pure rfl) rfl ?_
    refine o_p (p_pure rfl) rfl ?_
    refine o_nil ?_
    exact s_retv (rs := [.cell 2 24, .tmp 3, .tmp 4]) rfl (.cell rfl sz_24 aPk rfl (.tmp rfl (.tmp rfl (.nil)))) (fun w' h' => ⟨((none, 0), (none, 0)), by rw [hT]; rfl, trivial, by rw [hT]; exact ((h'.own_nil 50 2).own_nil 3 1).ent aEt⟩)
  · try simp only [decide_eq_true_eq, decide_eq_false_iff_not, Bool.not_eq_true', Bool.not_eq_false', Bool.and_eq_true, Bool.or_eq_true, Bool.and_eq_false_iff, Bool.or_eq_false_iff, Bool.not_true, Bool.not_false] at h3
    have h0 : strE s = 0 := h3
    obtain ⟨hs1, hs2, hs3⟩ := strE_ok h0
    have hl1 := h1S_len (s := s) (by omega)
    have hl2 := h2S_len s
    have hl21 : (h2S s).length = (h1S s).length := by rw [hl1, hl2]
    refine s_skip ?_
    refine s_seq ?_
    refine s_region ?_
    refine o_p (p_pure rfl) rfl ?_
    try (refine o_class (C' := HS w [] [.own (.slice none 0 0) 3 1 0 [], .blk b2 24 2 [.int .i64 0, .slice none 0 0], .blk b1 24 2 [.int .i64 0, .slice none 0 0]]) (fun w h => (h.own_nil 3 1).ent aEt) ?_)
    refine o_nil ?_
    refine s_seq ?_
    refine s_region ?_
    refine o_p (p_pure rfl) rfl ?_
    refine o_q (q_call rfl fn_35 rfl (fun w1 h1 => c35 w1 s (h1S s) 0 (by omega) (seg_1 (by omega)) (by omega))) rfl ?_
    refine o_p (p_pure rfl) rfl ?_
    refine o_p (p_pure rfl) rfl ?_
    refine o_p (p_pure rfl) rfl ?_
    refine o_p (p_pure rfl) rfl ?_
    refine o_p (p_pure rfl) rfl ?_
    refine o_p (p_pure rfl) rfl ?_
    refine o_p (p_pure rfl) rfl ?_
    refine o_nil ?_
    refine s_seq ?_
    refine s_seq ?_
    refine s_region ?_
    refine o_p (p_pure rfl) rfl ?_
    refine o_p (p_pure rfl) rfl ?_
    refine o_nil ?_
    refine s_weaken (L' := [(0, _), (2, _), (3, _), (4, _), (5, _), (7, _), (8, _), (9, _), (10, _), (31, _)]) aSx (fun _ h => h) ?_
    refine s_cutI (α := List UInt8 × List Int × (Option Addr × Nat)) [7, 8, 9, 10, 32, 33, 34, 35, 36, 37, 38, 39, 40] (fun x => [(8, .int .i64 (at4 x.1 4)), (9, .int .i64 (at4 x.1 8)), (10, .bool (isHd x.1)), (7, .slice x.2.2.1 x.2.1.length x.2.2.2)]) (fun x => HS w [] [.own (.slice x.2.2.1 x.2.1.length x.2.2.2) 3 1 x.2.1.length (x.2.1.map nv), .blk b2 24 2 [.int .i64 0, .slice none 0 0], .blk b1 24 2 [.int .i64 0, .slice none 0 0]]) (fun x => (isHd x.1 = true → inS s = inB (h1S s) (h2S s) x.1 x.2.1) ∧ (¬ isHd x.1 = true → inS s = inE 31) ∧ x.2.1.length ≤ 1) ?_ ?_
    · skip
      refine s_cond rfl (fun h4 => ?_) (fun h4 => ?_)
      · try simp only [decide_eq_true_eq, decide_eq_false_iff_not, Bool.not_eq_true', Bool.not_eq_false', Bool.and_eq_true, Bool.or_eq_true, Bool.and_eq_false_iff, Bool.or_eq_false_iff, Bool.not_true, Bool.not_false] at h4
        have hd1 : ¬ isHd (h1S s) = true := by have hq := h4; simpa using hq
        refine s_seq ?_
        refine s_region ?_
        refine o_p (p_pure rfl) rfl ?_
        refine o_h (h_buildSlice (cs := [_]) rfl rfl sl_31 zr_3 rfl rfl rfl) rfl (fun b5 _ => ?_)
        refine o_h (h_appendS _ rfl rfl rfl sl_31 Tryz.underlying31 zr_3 rfl aPk (src_blk aPk) rfl (by intro u hu; simp only [List.mem_cons, List.mem_nil_iff, or_false] at hu; subst hu; rfl) (by omega) (by simp only [maxLen]; omega)) rfl (fun b6 _ => ?_)
        refine o_p (p_pure rfl) rfl ?_
        refine o_nil ?_
        refine s_region ?_
        refine o_p (p_pure rfl) rfl ?_
        refine o_q (q_call rfl fn_35 rfl (fun w1 h1 => c35 w1 s (h2S s) 8192 (by omega) (seg_2 (by omega)) (by omega))) rfl ?_
        refine o_p (p_pure rfl) rfl ?_
        refine o_p (p_pure rfl) rfl ?_
        refine o_p (p_pure rfl) rfl ?_
        refine o_p (p_pure rfl) rfl ?_
        refine o_p (p_pure rfl) rfl ?_
        refine o_p (p_pure rfl) rfl ?_
        refine o_p (p_pure rfl) rfl ?_
        refine o_nil ?_
        exact s_joinI ((h2S s), [-1], b6) ⟨fun h9 => inS_2 h0 hd1 h9, fun h9 => inS_3 h0 hd1 h9, Nat.le_refl _⟩ aSx (fun w h => h.ent aEt)
      · try simp only [decide_eq_true_eq, decide_eq_false_iff_not, Bool.not_eq_true', Bool.not_eq_false', Bool.and_eq_true, Bool.or_eq_true, Bool.and_eq_false_iff, Bool.or_eq_false_iff, Bool.not_true, Bool.not_false] at h4
        have hd1 : isHd (h1S s) = true := by have hq := h4; simpa using hq
        refine s_skip ?_
        exact s_joinI ((h1S s), [], (none, 0)) ⟨fun h9 => inS_1 h0 h9, fun h9 => absurd hd1 h9, Nat.zero_le _⟩ aSx (fun w h => h.ent aEt)
    · intro x hx
      obtain ⟨hx1, hx2, hx3⟩ := hx
      refine s_seq ?_
      refine s_seq ?_
      refine s_region ?_
      refine o_p (p_pure rfl) rfl ?_
      refine o_p (p_pure rfl) rfl ?_
      refine o_nil ?_
      refine s_cond rfl (fun h7 => ?_) (fun h7 => ?_)
      · try simp only [decide_eq_true_eq, decide_eq_false_iff_not, Bool.not_eq_true', Bool.not_eq_false', Bool.and_eq_true, Bool.or_eq_true, Bool.and_eq_false_iff, Bool.or_eq_false_iff, Bool.not_true, Bool.not_false] at h7
        have hd2 : ¬ isHd x.1 = true := by have hq := h7; simpa using hq
        have hT := hx2 hd2
        refine s_seq ?_
        refine s_region ?_
        refine o_q (q_loadn rfl rfl sz_24 aPk rfl) rfl ?_
        refine o_h0 (h_store rfl rfl rfl sz_24 rfl aPt (by simp only [setMany_length, List.length_set, List.length_cons, List.length_nil, List.length_map]; omega) rfl) (fun _ _ => ?_)
        refine o_p (p_pure rfl) rfl ?_
        refine o_p (p_pure rfl) rfl ?_
        refine o_nil ?_
        exact s_retv (rs := [.cell 2 24, .tmp 3, .tmp 4]) rfl (.cell rfl sz_24 aPk rfl (.tmp rfl (.tmp rfl (.nil)))) (fun w' h' => ⟨((none, 0), (none, 0)), by rw [hT]; rfl, trivial, by rw [hT]; exact ((h'.own_nil 50 2).own_nil 3 1).ent aEt⟩)
      · try simp only [decide_eq_true_eq, decide_eq_false_iff_not, Bool.not_eq_true', Bool.not_eq_false', Bool.and_eq_true, Bool.or_eq_true, Bool.and_eq_false_iff, Bool.or_eq_false_iff, Bool.not_true, Bool.not_false] at h7
        have hd2 : isHd x.1 = true := by have hq := h7; simpa using hq
        have hx4 := hx1 hd2
        have hx5 := at4_le x.1 8
        refine s_skip ?_
        refine s_seq ?_
        refine s_seq ?_
        refine s_region ?_
        refine o_p (p_pure rfl) rfl ?_
        refine o_q (q_call rfl fn_16 rfl (fun w1 h1 => c16 w1 _ _ _)) rfl ?_
        refine o_p (p_pure rfl) rfl ?_
        refine o_p (p_pure rfl) rfl ?_
        refine o_or 4 47 51 _ _ rfl
          (by
            intro hg8
            have hs9 := hg8; try simp only [decide_eq_true_eq, decide_eq_false_iff_not, Bool.not_eq_true', Bool.not_eq_false', Bool.and_eq_true, Bool.or_eq_true, Bool.and_eq_false_iff, Bool.or_eq_false_iff, Bool.not_true, Bool.not_false] at hs9
            refine o_on 47 _ rfl rfl hg8 ?_
            refine o_p (p_pure rfl) rfl ?_
            refine o_on 47 _ rfl rfl hg8 ?_
            refine o_p (p_rem_nn rfl rfl rfl (by omega) (by omega)) rfl ?_
            refine o_on 47 _ rfl rfl hg8 ?_
            refine o_p (p_pure rfl) rfl ?_
            refine o_p (p_pickf rfl rfl hg8 rfl) rfl ?_
            refine o_nil ?_
            exact s_joinN 4 51 _ rfl rfl rfl (fun w h => by first | exact h | exact h.ent aEt))
          (by
            intro hg10
            have hs11 := hg10; try simp only [decide_eq_true_eq, decide_eq_false_iff_not, Bool.not_eq_true', Bool.not_eq_false', Bool.and_eq_true, Bool.or_eq_true, Bool.and_eq_false_iff, Bool.or_eq_false_iff, Bool.not_true, Bool.not_false] at hs11
            refine o_off 47 _ rfl rfl hg10 rfl ?_
            refine o_off 47 _ rfl rfl hg10 rfl ?_
            refine o_off 47 _ rfl rfl hg10 rfl ?_
            refine o_p (p_pickt rfl rfl hg10 rfl) rfl ?_
            refine o_nil ?_
            exact s_joinN 4 51 _ rfl rfl rfl (fun w h => by first | exact h | exact h.ent aEt)) ?_
        refine o_p (p_pure rfl) rfl ?_
        refine o_or 6 52 58 _ _ rfl
          (by
            intro hg12
            have hs13 := hg12; try simp only [decide_eq_true_eq, decide_eq_false_iff_not, Bool.not_eq_true', Bool.not_eq_false', Bool.and_eq_true, Bool.or_eq_true, Bool.and_eq_false_iff, Bool.or_eq_false_iff, Bool.not_true, Bool.not_false] at hs13
            refine o_on 52 _ rfl rfl hg12 ?_
            refine o_p (p_pure rfl) rfl ?_
            refine o_on 52 _ rfl rfl hg12 ?_
            refine o_p (p_pure rfl) rfl ?_
            refine o_on 52 _ rfl rfl hg12 ?_
            refine o_p (p_len_str rfl rfl Tryz.underlying9) rfl ?_
            refine o_on 52 _ rfl rfl hg12 ?_
            refine o_p (p_pure rfl) rfl ?_
            try (refine o_slot (i64w (by omega) (by omega)) ?_)
            refine o_on 52 _ rfl rfl hg12 ?_
            refine o_p (p_pure rfl) rfl ?_
            refine o_p (p_pickf rfl rfl hg12 rfl) rfl ?_
            refine o_nil ?_
            exact s_joinN 6 58 _ rfl rfl rfl (fun w h => by first | exact h | exact h.ent aEt))
          (by
            intro hg14
            have hs15 := hg14; try simp only [decide_eq_true_eq, decide_eq_false_iff_not, Bool.not_eq_true', Bool.not_eq_false', Bool.and_eq_true, Bool.or_eq_true, Bool.and_eq_false_iff, Bool.or_eq_false_iff, Bool.not_true, Bool.not_false] at hs15
            refine o_off 52 _ rfl rfl hg14 rfl ?_
            refine o_off 52 _ rfl rfl hg14 rfl ?_
            refine o_off 52 _ rfl rfl hg14 rfl ?_
            refine o_off 52 _ rfl rfl hg14 rfl ?_
            refine o_off 52 _ rfl rfl hg14 rfl ?_
            refine o_p (p_pickt rfl rfl hg14 rfl) rfl ?_
            refine o_nil ?_
            exact s_joinN 6 58 _ rfl rfl rfl (fun w h => by first | exact h | exact h.ent aEt)) ?_
        refine o_nil ?_
        refine s_cond rfl (fun h16 => ?_) (fun h16 => ?_)
        · try simp only [decide_eq_true_eq, decide_eq_false_iff_not, Bool.not_eq_true', Bool.not_eq_false', Bool.and_eq_true, Bool.or_eq_true, Bool.and_eq_false_iff, Bool.or_eq_false_iff, Bool.not_true, Bool.not_false] at h16
          have h8 : ¬ at4 x.1 8 = (h1S s).length := by intro h9; first | (have hq := h16; omega) | (have hq := h16; simp at hq; omega)
          have hT : inS s = inE 3 := hx4.trans (inB_form h8)
          refine s_seq ?_
          refine s_region ?_
          refine o_q (q_loadn rfl rfl sz_24 aPk rfl) rfl ?_
          refine o_h0 (h_store rfl rfl rfl sz_24 rfl aPt (by simp only [setMany_length, List.length_set, List.length_cons, List.length_nil, List.length_map]; omega) rfl) (fun _ _ => ?_)
          refine o_p (p_pure rfl) rfl ?_
          refine o_p (p_pure rfl) rfl ?_
          refine o_nil ?_
          exact s_retv (rs := [.cell 2 24, .tmp 3, .tmp 4]) rfl (.cell rfl sz_24 aPk rfl (.tmp rfl (.tmp rfl (.nil)))) (fun w' h' => ⟨((none, 0), (none, 0)), by rw [hT]; rfl, trivial, by rw [hT]; exact ((h'.own_nil 50 2).own_nil 3 1).ent aEt⟩)
        · try simp only [decide_eq_true_eq, decide_eq_false_iff_not, Bool.not_eq_true', Bool.not_eq_false', Bool.and_eq_true, Bool.or_eq_true, Bool.and_eq_false_iff, Bool.or_eq_false_iff, Bool.not_true, Bool.not_false] at h16
          have h8 : at4 x.1 8 = (h1S s).length := by first | (have hq := h16; omega) | (have hq := h16; simp at hq; omega)
          rw [h8]
          refine s_skip ?_
          refine s_seq ?_
          refine s_region ?_
          refine o_p (p_pure rfl) rfl ?_
          refine o_p (p_build (cs := [_, _]) rfl rfl pl_24 zr_24 rfl) rfl ?_
          refine o_h (h_alloc rfl zr_24) rfl (fun b17 _ => ?_)
          refine o_h0 (h_store rfl rfl rfl sz_24 rfl aPt (by simp only [setMany_length, List.length_set, List.length_cons, List.length_nil, List.length_map]; omega) rfl) (fun _ _ => ?_)
          refine o_nil ?_
          refine s_seq ?_
          refine s_seq ?_
          refine s_region ?_
          refine o_p (p_pure rfl) rfl ?_
          refine o_nil ?_
          refine s_block ?_
          refine s_weaken (L' := [(0, _), (2, _), (3, _), (4, _), (5, _), (7, _), (9, _), (11, _), (12, _)]) aSx (fun _ h => h) ?_
          refine s_loopI (α := Nat × Nat × List SItm × List Int × (Option Addr × Nat) × (Option Addr × Nat)) [3, 4, 7, 12, 13, 14, 15, 62, 63, 64, 65, 66, 67, 68, 69, 70, 71, 72, 73, 74, 75, 76, 77, 78, 79, 80, 81, 82, 83, 84, 85, 86, 87, 88, 89, 90, 91, 92, 93, 94, 95, 96, 97, 98, 99, 100] (fun y => [(12, .int .i64 (y.2.1 : Int)), (7, .slice y.2.2.2.2.2.1 y.2.2.2.1.length y.2.2.2.2.2.2)]) (fun y => HS w [] [.blk b17 24 2 [.int .i64 (at4 x.1 4), .slice y.2.2.2.2.1.1 y.2.2.1.length y.2.2.2.2.1.2], .own (.slice y.2.2.2.2.1.1 y.2.2.1.length y.2.2.2.2.1.2) 50 2 y.2.2.1.length (y.2.2.1.flatMap SItm.vals), .own (.slice y.2.2.2.2.2.1 y.2.2.2.1.length y.2.2.2.2.2.2) 3 1 y.2.2.2.1.length (y.2.2.2.1.map nv), .blk b2 24 2 [.int .i64 0, .slice none 0 0], .blk b1 24 2 [.int .i64 0, .slice none 0 0]]) (fun y => (y.2.1 ≤ (h1S s).length ∧ (h1S s).length - y.2.1 ≤ y.1) ∧ inL (h1S s) (h2S s) (h1S s).length 16 [] x.2.1 = inL (h1S s) (h2S s) y.1 y.2.1 y.2.2.1 y.2.2.2.1 ∧ y.2.2.1.length ≤ y.2.1 ∧ y.2.2.2.1.length ≤ y.2.1 ∧ ∀ q ∈ y.2.2.1, q.by_.length ≤ 100000) (fun y => (h1S s).length - y.2.1) ((h1S s).length, 16, [], x.2.1, (none, 0), x.2.2) ⟨by (try simp only []); omega, rfl, Nat.zero_le _, by (try simp only []); omega, fun q hq => by cases hq⟩ aSx (fun w h => (h.own_nil 50 2).ent aEt) (fun ⟨ff, p, l, dm, gl, gd⟩ hy => ?_)
          dsimp only
          obtain ⟨⟨hk0, hk1⟩, hk2, hk3, hk4, hk5⟩ := hy
          simp only [] at hk0 hk1 hk2 hk3 hk4 hk5
          refine s_seq ?_
          refine s_seq ?_
          refine s_region ?_
          refine o_p (p_pure rfl) rfl ?_
          refine o_p (p_pure rfl) rfl ?_
          refine o_p (p_pure rfl) rfl ?_
          refine o_nil ?_
          refine s_cond rfl (fun h18 => ?_) (fun h18 => ?_)
          · try simp only [decide_eq_true_eq, decide_eq_false_iff_not, Bool.not_eq_true', Bool.not_eq_false', Bool.and_eq_true, Bool.or_eq_true, Bool.and_eq_false_iff, Bool.or_eq_false_iff, Bool.not_true, Bool.not_false] at h18
            have hk : p < (h1S s).length := by omega
            obtain ⟨f, rfl⟩ : ∃ f, ff = f + 1 := ⟨ff - 1, by omega⟩
            refine s_skip ?_
            refine s_block ?_
            refine s_seq ?_
            refine s_region ?_
            refine o_p (p_pure rfl) rfl ?_
            refine o_p (p_pure rfl) rfl ?_
            refine o_p (p_pure rfl) rfl ?_
            refine o_q (q_call rfl fn_36 rfl (fun w1 h1 => c36 w1 s (h1S s) 0 p (by omega) (seg_1 (by omega)) (by omega))) rfl ?_
            refine o_p (p_pure rfl) rfl ?_
            refine o_p (p_pure rfl) rfl ?_
            refine o_p (p_pure rfl) rfl ?_
            refine o_p (p_pure rfl) rfl ?_
            refine o_h (h_alloc rfl zr_50) rfl (fun b19 _ => ?_)
            refine o_h0 (h_store rfl rfl rfl sz_50 rfl aPt (by simp only [setMany_length, List.length_set, List.length_cons, List.length_nil, List.length_map]; omega) rfl) (fun _ _ => ?_)
            refine o_p (p_pure rfl) rfl ?_
            refine o_p (p_pure rfl) rfl ?_
            refine o_nil ?_
            refine s_seq ?_
            refine s_seq ?_
            refine s_region ?_
            refine o_p (p_pure rfl) rfl ?_
            refine o_p (p_pure rfl) rfl ?_
            refine o_nil ?_
            refine s_weaken (L' := [(0, _), (2, _), (5, _), (7, _), (9, _), (11, _), (12, _), (13, _), (14, _), (15, _), (74, _)]) aSx (fun _ h => h) ?_
            refine s_cutI (α := ItR × List Int × (Option Addr × Nat)) [7, 14, 15, 75, 76, 77, 78, 79, 80, 81, 82, 83, 84, 85, 86, 87, 88] (fun z => [(14, .int .i64 z.1.n), (15, .bool z.1.ok), (7, .slice z.2.2.1 z.2.1.length z.2.2.2)]) (fun z => HS w [] [.blk b19 50 2 [.int .i64 z.1.x.id, .string (bs z.1.x.by_)], .blk b17 24 2 [.int .i64 (at4 x.1 4), .slice gl.1 l.length gl.2], .own (.slice gl.1 l.length gl.2) 50 2 l.length (l.flatMap SItm.vals), .own (.slice z.2.2.1 z.2.1.length z.2.2.2) 3 1 z.2.1.length (z.2.1.map nv), .blk b2 24 2 [.int .i64 0, .slice none 0 0], .blk b1 24 2 [.int .i64 0, .slice none 0 0]]) (fun z => TookR (h1S s) (h2S s) f p l dm z.1 z.2.1) ?_ ?_
            · skip
              refine s_cond rfl (fun h20 => ?_) (fun h20 => ?_)
              · try simp only [decide_eq_true_eq, decide_eq_false_iff_not, Bool.not_eq_true', Bool.not_eq_false', Bool.and_eq_true, Bool.or_eq_true, Bool.and_eq_false_iff, Bool.or_eq_false_iff, Bool.not_true, Bool.not_false] at h20
                have ho1 : (itR (h1S s) p).ok = false := by have hq := h20; simpa using hq
                refine s_seq ?_
                refine s_region ?_
                refine o_p (p_pure rfl) rfl ?_
                refine o_p (p_fieldAddr rfl rfl fd_24_1 sz_22 rfl) rfl ?_
                refine o_q (q_load rfl rfl sz_22 aPk rfl) rfl ?_
                refine o_p (p_len_slice rfl rfl Tryz.underlying22) rfl ?_
                refine o_h (h_buildSlice (cs := [_]) rfl rfl sl_31 zr_3 rfl rfl rfl) rfl (fun b21 _ => ?_)
                refine o_h (h_appendS [_] rfl rfl rfl sl_31 Tryz.underlying31 zr_3 rfl aPk (src_blk aPk) rfl (by intro u hu; simp only [List.mem_cons, List.mem_nil_iff, or_false] at hu; subst hu; rfl) (by omega) (by simp only [maxLen]; omega)) rfl (fun b22 _ => ?_)
                refine o_p (p_pure rfl) rfl ?_
                refine o_nil ?_
                refine s_region ?_
                refine o_p (p_pure rfl) rfl ?_
                refine o_p (p_pure rfl) rfl ?_
                refine o_p (p_pure rfl) rfl ?_
                refine o_q (q_call rfl fn_36 rfl (fun w1 h1 => by have h9 := c36 w1 s (h2S s) 8192 p (by omega) (seg_2 (by omega)) (by omega); rw [hl21] at h9; exact h9)) rfl ?_
                refine o_p (p_pure rfl) rfl ?_
                refine o_p (p_pure rfl) rfl ?_
                refine o_p (p_pure rfl) rfl ?_
                refine o_p (p_pure rfl) rfl ?_
                refine o_h0 (h_store rfl rfl rfl sz_50 rfl aPt (by simp only [setMany_length, List.length_set, List.length_cons, List.length_nil, List.length_map]; omega) rfl) (fun _ _ => ?_)
                refine o_p (p_pure rfl) rfl ?_
                refine o_p (p_pure rfl) rfl ?_
                refine o_nil ?_
                exact s_joinI (itR (h2S s) p, dm ++ [(l.length : Int)], b22) (tookR_2 hk hl21 ho1) (by dsimp only; rw [List.length_append]; exact aSx) (fun w h => by dsimp only; rw [List.length_append, List.map_append]; exact h.ent aEt)
              · try simp only [decide_eq_true_eq, decide_eq_false_iff_not, Bool.not_eq_true', Bool.not_eq_false', Bool.and_eq_true, Bool.or_eq_true, Bool.and_eq_false_iff, Bool.or_eq_false_iff, Bool.not_true, Bool.not_false] at h20
                have ho1 : (itR (h1S s) p).ok = true := by have hq := h20; simpa using hq
                refine s_skip ?_
                exact s_joinI (itR (h1S s) p, dm, gd) (tookR_1 hk ho1) aSx (fun w h => h.ent aEt)
            · intro z hz
              refine s_seq ?_
              refine s_seq ?_
              refine s_region ?_
              refine o_p (p_pure rfl) rfl ?_
              refine o_p (p_pure rfl) rfl ?_
              refine o_nil ?_
              refine s_cond rfl (fun h23 => ?_) (fun h23 => ?_)
              · try simp only [decide_eq_true_eq, decide_eq_false_iff_not, Bool.not_eq_true', Bool.not_eq_false', Bool.and_eq_true, Bool.or_eq_true, Bool.and_eq_false_iff, Bool.or_eq_false_iff, Bool.not_true, Bool.not_false] at h23
                have ho2 : z.1.ok = false := by have hq := h23; simpa using hq
                have hT : inS s = inE 31 := hx4.trans (inB_none h8 (hk2.trans (tookR_no hz ho2)))
                refine s_seq ?_
                refine s_region ?_
                refine o_q (q_loadn rfl rfl sz_24 aPk rfl) rfl ?_
                refine o_h0 (h_store rfl rfl rfl sz_24 rfl aPt (by simp only [setMany_length, List.length_set, List.length_cons, List.length_nil, List.length_map]; omega) rfl) (fun _ _ => ?_)
                refine o_p (p_pure rfl) rfl ?_
                refine o_p (p_pure rfl) rfl ?_
                refine o_nil ?_
                exact s_retv (rs := [.cell 2 24, .tmp 3, .tmp 4]) rfl (.cell rfl sz_24 aPk rfl (.tmp rfl (.tmp rfl (.nil)))) (fun w' h' => ⟨((none, 0), (none, 0)), by rw [hT]; rfl, trivial, by rw [hT]; exact ((h'.own_nil 50 2).own_nil 3 1).ent aEt⟩)
              · try simp only [decide_eq_true_eq, decide_eq_false_iff_not, Bool.not_eq_true', Bool.not_eq_false', Bool.and_eq_true, Bool.or_eq_true, Bool.and_eq_false_iff, Bool.or_eq_false_iff, Bool.not_true, Bool.not_false] at h23
                have ho2 : z.1.ok = true := by have hq := h23; simpa using hq
                obtain ⟨ht1, ht2, ht3, ht4, ht5⟩ := tookR_ok hz ho2
                refine s_skip ?_
                refine s_seq ?_
                refine s_region ?_
                refine o_p (p_fieldAddr rfl rfl fd_24_1 sz_22 rfl) rfl ?_
                refine o_q (q_load rfl rfl sz_22 aPk rfl) rfl ?_
                refine o_q (q_loadn rfl rfl sz_50 aPk rfl) rfl ?_
                refine o_h (h_buildSlice (cs := [_, _]) rfl rfl sl_22 zr_50 rfl rfl rfl) rfl (fun b24 _ => ?_)
                refine o_h (h_appendS [_, _] rfl rfl rfl sl_22 Tryz.underlying22 zr_50 rfl aPk (src_blk aPk) rfl (sv1 z.1.x) (by omega) (by simp only [maxLen]; omega)) rfl (fun b25 _ => ?_)
                refine o_p (p_fieldAddr rfl rfl fd_24_1 sz_22 rfl) rfl ?_
                refine o_h0 (h_store rfl rfl rfl sz_22 rfl aPt (by simp only [setMany_length, List.length_set, List.length_cons, List.length_nil, List.length_map]; omega) rfl) (fun _ _ => ?_)
                refine o_nil ?_
                refine s_region ?_
                refine o_p (p_pure rfl) rfl ?_
                refine o_p (p_pure rfl) rfl ?_
                refine o_p (p_pure rfl) rfl ?_
                try (refine o_slot (i64w (by omega) (by omega)) ?_)
                refine o_p (p_pure rfl) rfl ?_
                refine o_nil ?_
                refine s_blk ?_
                exact s_backI (f, p + z.1.n.toNat, l ++ [z.1.x], z.2.1, b25, z.2.2) (by (try simp only []); omega) ⟨by (try simp only []); omega, by simp only []; rw [hk2]; exact ht1, by simp only [List.length_append, List.length_cons, List.length_nil]; omega, by (try simp only []); omega, fun q hq => by rcases List.mem_append.1 hq with hq | hq; exact hk5 q hq; rw [List.mem_singleton.1 hq]; omega⟩ (by dsimp only; rw [show ((p + z.1.n.toNat : Nat) : Int) = (p : Int) + z.1.n from by omega]; exact aSx) (fun w h => by dsimp only; rw [List.length_append, flat_append]; exact h.ent aEt)
          · try simp only [decide_eq_true_eq, decide_eq_false_iff_not, Bool.not_eq_true', Bool.not_eq_false', Bool.and_eq_true, Bool.or_eq_true, Bool.and_eq_false_iff, Bool.or_eq_false_iff, Bool.not_true, Bool.not_false] at h18
            have hk : ¬ p < (h1S s).length := by omega
            have hE := hk2.trans (inL_end hk)
            refine s_exit_to rfl ?_
            refine s_seq ?_
            refine s_seq ?_
            refine s_region ?_
            refine o_q (q_loadn rfl rfl sz_24 aPk rfl) rfl ?_
            refine o_q (q_call rfl fn_13 rfl (fun w1 h1 => c13 w1 (at4 x.1 4) gl.1 gl.2 l (HS.rw_own (a := gl.1) (l := l) sv2 h1 aPk rfl) (by omega) hk5)) rfl ?_
            refine o_p (p_pure rfl) rfl ?_
            refine o_nil ?_
            refine s_seq ?_
            refine s_region ?_
            refine o_p (p_pure rfl) rfl ?_
            refine o_p (p_pure rfl) rfl ?_
            refine o_nil ?_
            refine s_cond rfl (fun h26 => ?_) (fun h26 => ?_)
            · try simp only [decide_eq_true_eq, decide_eq_false_iff_not, Bool.not_eq_true', Bool.not_eq_false', Bool.and_eq_true, Bool.or_eq_true, Bool.and_eq_false_iff, Bool.or_eq_false_iff, Bool.not_true, Bool.not_false] at h26
              have he9 : ¬ (stoE (at4 x.1 4) l).2 = 0 := h26
              have hT : inS s = inE (stoE (at4 x.1 4) l).2 := hx4.trans (inB_bad h8 hE he9)
              refine s_seq ?_
              refine s_region ?_
              refine o_q (q_loadn rfl rfl sz_24 aPk rfl) rfl ?_
              refine o_p (p_pure rfl) rfl ?_
              refine o_h0 (h_store rfl rfl rfl sz_24 rfl aPt (by simp only [setMany_length, List.length_set, List.length_cons, List.length_nil, List.length_map]; omega) rfl) (fun _ _ => ?_)
              refine o_p (p_pure rfl) rfl ?_
              refine o_p (p_pure rfl) rfl ?_
              refine o_nil ?_
              exact s_retv (rs := [.cell 2 24, .tmp 3, .tmp 4]) rfl (.cell rfl sz_24 aPk rfl (.tmp rfl (.tmp rfl (.nil)))) (fun w' h' => ⟨((none, 0), (none, 0)), by rw [hT]; rfl, trivial, by rw [hT]; exact ((h'.own_nil 50 2).own_nil 3 1).ent aEt⟩)
            · try simp only [decide_eq_true_eq, decide_eq_false_iff_not, Bool.not_eq_true', Bool.not_eq_false', Bool.and_eq_true, Bool.or_eq_true, Bool.and_eq_false_iff, Bool.or_eq_false_iff, Bool.not_true, Bool.not_false] at h26
              have he9 : (stoE (at4 x.1 4) l).2 = 0 := h26
              have hT : inS s = ⟨at4 x.1 4, l, dm, 0⟩ := hx4.trans (inB_ok h8 hE he9)
              refine s_skip ?_
              refine s_seq ?_
              refine s_region ?_
              refine o_q (q_loadn rfl rfl sz_24 aPk rfl) rfl ?_
              refine o_p (p_pure rfl) rfl ?_
              refine o_h0 (h_store rfl rfl rfl sz_24 rfl aPt (by simp only [setMany_length, List.length_set, List.length_cons, List.length_nil, List.length_map]; omega) rfl) (fun _ _ => ?_)
              refine o_p (p_pure rfl) rfl ?_
              refine o_p (p_pure rfl) rfl ?_
              refine o_nil ?_
              exact s_retv (rs := [.cell 2 24, .tmp 3, .tmp 4]) rfl (.cell rfl sz_24 aPk rfl (.tmp rfl (.tmp rfl (.nil)))) (fun w' h' => ⟨(gl, gd), by rw [hT]; rfl, trivial, by rw [hT]; exact h'.ent aEt⟩)

end Go.Proofs

namespace Go.Proofs
open Go Go.RowKit Gx
set_option linter.unusedVariables false
set_option linter.unusedSimpArgs false
attribute [local irreducible] Go.Calls Gx.S Gx.O Gx.D Gx.OpP Gx.OpQ Gx.OpH

theorem fn_5 : isFn Tryz.prog 5 = true := by kernel_rfl
theorem fn_6 : isFn Tryz.prog 6 = true := by kernel_rfl
theorem fn_8 : isFn Tryz.prog 8 = true := by kernel_rfl
theorem fn_9 : isFn Tryz.prog 9 = true := by kernel_rfl
theorem fn_10 : isFn Tryz.prog 10 = true := by kernel_rfl
theorem fn_11 : isFn Tryz.prog 11 = true := by kernel_rfl
attribute [local irreducible] Gx.inS Gx.streamS Gx.stoE

end Go.Proofs

namespace Go.Proofs
open Go Go.RowKit Gx
set_option linter.unusedVariables false
set_option linter.unusedSimpArgs false
attribute [local irreducible] Go.Calls Gx.S Gx.O Gx.D Gx.OpP Gx.OpQ Gx.OpH



set_option maxRecDepth 20000 in
theorem same_all (w : World) (nx nx2 : Int) (a : Option Addr) (cap : Nat) (a2 : Option Addr) (cap2 : Nat) (l l2 : List SItm) (hs : Rw SItm.vals 2 w [] a l) (hs2 : Rw SItm.vals 2 w [] a2 l2) (hm : l.length ≤ 1000000) (hm2 : l2.length ≤ 1000000) : Calls Tryz.prog 11 #[.agg #[.int .i64 nx, .slice a l.length cap], .agg #[.int .i64 nx2, .slice a2 l2.length cap2]] w fun en w' => en = .returned (.bool (decide (nx = nx2 ∧ l = l2))) ∧ Below w.heap.size w w' := by
  refine enter (args := [_, _]) Tryz.func11 Tryz.ntmps11 rfl rfl (HS.refl w []) ?_
  refine s_seq ?_
  refine s_region ?_
  refine o_h (h_box rfl rfl) rfl (fun b1 _ => ?_)
  refine o_h (h_box rfl rfl) rfl (fun b2 _ => ?_)
  refine o_p (p_pure rfl) rfl ?_
  refine o_nil ?_
  refine s_seq ?_
  refine s_seq ?_
  refine s_region ?_
  refine o_p (p_fieldAddr rfl rfl fd_24_0 sz_3 rfl) rfl ?_
  refine o_q (q_load rfl rfl sz_3 aPk rfl) rfl ?_
  refine o_p (p_fieldAddr rfl rfl fd_24_0 sz_3 rfl) rfl ?_
  refine o_q (q_load rfl rfl sz_3 aPk rfl) rfl ?_
  refine o_p (p_pure rfl) rfl ?_
  refine o_p (p_pure rfl) rfl ?_
  refine o_or 8 11 19 _ _ rfl
    (by
      intro hg3
      have hs4 := hg3; try simp only [decide_eq_true_eq, decide_eq_false_iff_not, Bool.not_eq_true', Bool.not_eq_false', Bool.and_eq_true, Bool.or_eq_true, Bool.and_eq_false_iff, Bool.or_eq_false_iff, Bool.not_true, Bool.not_false] at hs4
      refine o_on 11 _ rfl rfl hg3 ?_
      refine o_p (p_fieldAddr rfl rfl fd_24_1 sz_22 rfl) rfl ?_
      refine o_on 11 _ rfl rfl hg3 ?_
      refine o_q (q_load rfl rfl sz_22 aPk rfl) rfl ?_
      refine o_on 11 _ rfl rfl hg3 ?_
      refine o_p (p_len_slice rfl rfl Tryz.underlying22) rfl ?_
      refine o_on 11 _ rfl rfl hg3 ?_
      refine o_p (p_fieldAddr rfl rfl fd_24_1 sz_22 rfl) rfl ?_
      refine o_on 11 _ rfl rfl hg3 ?_
      refine o_q (q_load rfl rfl sz_22 aPk rfl) rfl ?_
      refine o_on 11 _ rfl rfl hg3 ?_
      refine o_p (p_len_slice rfl rfl Tryz.underlying22) rfl ?_
      refine o_on 11 _ rfl rfl hg3 ?_
      refine o_p (p_pure rfl) rfl ?_
      refine o_p (p_pickf rfl rfl hg3 rfl) rfl ?_
      refine o_nil ?_
      exact s_joinN 8 19 _ rfl rfl rfl (fun w h => by first | exact h | exact h.ent aEt))
    (by
      intro hg5
      have hs6 := hg5; try simp only [decide_eq_true_eq, decide_eq_false_iff_not, Bool.not_eq_true', Bool.not_eq_false', Bool.and_eq_true, Bool.or_eq_true, Bool.and_eq_false_iff, Bool.or_eq_false_iff, Bool.not_true, Bool.not_false] at hs6
      refine o_off 11 _ rfl rfl hg5 rfl ?_
      refine o_off 11 _ rfl rfl hg5 rfl ?_
      refine o_off 11 _ rfl rfl hg5 rfl ?_
      refine o_off 11 _ rfl rfl hg5 rfl ?_
      refine o_off 11 _ rfl rfl hg5 rfl ?_
      refine o_off 11 _ rfl rfl hg5 rfl ?_
      refine o_off 11 _ rfl rfl hg5 rfl ?_
      refine o_p (p_pickt rfl rfl hg5 rfl) rfl ?_
      refine o_nil ?_
      exact s_joinN 8 19 _ rfl rfl rfl (fun w h => by first | exact h | exact h.ent aEt)) ?_
  refine o_nil ?_
  refine s_cond rfl (fun h7 => ?_) (fun h7 => ?_)
  · try simp only [decide_eq_true_eq, decide_eq_false_iff_not, Bool.not_eq_true', Bool.not_eq_false', Bool.and_eq_true, Bool.or_eq_true, Bool.and_eq_false_iff, Bool.or_eq_false_iff, Bool.not_true, Bool.not_false] at h7
    have hne : ¬ (nx = nx2 ∧ l = l2) := by rintro ⟨rfl, rfl⟩; have hq := h7; simp at hq
    refine s_seq ?_
    refine s_region ?_
    refine o_p (p_pure rfl) rfl ?_
    refine o_nil ?_
    exact s_retv (rs := [.tmp 4]) rfl (.tmp rfl (.nil)) (fun w' h' => ⟨by simp [retV, hne], h'.below⟩)
  · try simp only [decide_eq_true_eq, decide_eq_false_iff_not, Bool.not_eq_true', Bool.not_eq_false', Bool.and_eq_true, Bool.or_eq_true, Bool.and_eq_false_iff, Bool.or_eq_false_iff, Bool.not_true, Bool.not_false] at h7
    obtain ⟨hnx, hln⟩ : nx = nx2 ∧ l.length = l2.length := by have hq := h7; exact ⟨hq.1, by omega⟩
    refine s_skip ?_
    refine s_seq ?_
    refine s_seq ?_
    refine s_region ?_
    refine o_p (p_pure rfl) rfl ?_
    refine o_nil ?_
    refine s_block ?_
    refine s_loopI (α := Nat) [4, 5, 20, 21, 22, 23, 24, 25, 26, 27, 28, 29, 30, 31, 32, 33, 34, 35, 36, 37] (fun k => [(5, .int .i64 (k : Int))]) (fun _ => _) (fun k => k ≤ l.length ∧ ∀ j, j < k → nth l j = nth l2 j) (fun k => l.length - k) 0 ⟨Nat.zero_le _, fun j hj => absurd hj (Nat.not_lt_zero _)⟩ aSx (fun w h => h) (fun k hk1 => ?_)
    obtain ⟨hk1, hj⟩ := hk1
    refine s_seq ?_
    refine s_seq ?_
    refine s_region ?_
    refine o_p (p_pure rfl) rfl ?_
    refine o_p (p_fieldAddr rfl rfl fd_24_1 sz_22 rfl) rfl ?_
    refine o_q (q_load rfl rfl sz_22 aPk rfl) rfl ?_
    refine o_p (p_len_slice rfl rfl Tryz.underlying22) rfl ?_
    refine o_p (p_pure rfl) rfl ?_
    refine o_nil ?_
    refine s_cond rfl (fun h8 => ?_) (fun h8 => ?_)
    · try simp only [decide_eq_true_eq, decide_eq_false_iff_not, Bool.not_eq_true', Bool.not_eq_false', Bool.and_eq_true, Bool.or_eq_true, Bool.and_eq_false_iff, Bool.or_eq_false_iff, Bool.not_true, Bool.not_false] at h8
      have hk : k < l.length := by omega
      refine s_skip ?_
      refine s_seq ?_
      refine s_block ?_
      refine s_seq ?_
      refine s_draw [] mixed ?_
      refine d_p 0 rfl (p_fieldAddr rfl rfl fd_24_1 sz_22 rfl) (by kernel_rfl) rfl rfl ?_
      refine d_q 1 [] rfl (q_load rfl rfl sz_22 aPk rfl) (by kernel_rfl) (by kernel_rfl) (by kernel_rfl) rfl ?_
      refine d_p 2 rfl (p_pure rfl) (by kernel_rfl) rfl rfl ?_
      refine d_p 3 rfl (p_indexAddr rfl rfl rfl sl_22 (k) (by omega) (by omega) (Rw.some hs (by omega))) (by kernel_rfl) rfl rfl ?_
      refine d_q 4 [] rfl (q_load_oldn _ rfl rfl sz_50 rfl (Rw.rd hs hk)) (by kernel_rfl) (by kernel_rfl) (by kernel_rfl) rfl ?_
      refine d_p 5 rfl (p_fieldAddr rfl rfl fd_24_1 sz_22 rfl) (by kernel_rfl) rfl rfl ?_
      refine d_q 6 [] rfl (q_load rfl rfl sz_22 aPk rfl) (by kernel_rfl) (by kernel_rfl) (by kernel_rfl) rfl ?_
      refine d_p 7 rfl (p_pure rfl) (by kernel_rfl) rfl rfl ?_
      refine d_p 8 rfl (p_indexAddr rfl rfl rfl sl_22 (k) (by omega) (by omega) (Rw.some hs2 (by omega))) (by kernel_rfl) rfl rfl ?_
      refine d_q 9 [] rfl (q_load_oldn _ rfl rfl sz_50 rfl (Rw.rd hs2 (by omega))) (by kernel_rfl) (by kernel_rfl) (by kernel_rfl) rfl ?_
      refine d_p 10 rfl (p_neq_agg rfl rfl rfl eqk_50 (by rfl) (by rfl) (by rfl)) (by kernel_rfl) rfl rfl ?_
      refine d_nil (by kernel_rfl) (fun w h => by first | exact h | exact h.ent aEt) ?_
      refine s_cond rfl (fun h9 => ?_) (fun h9 => ?_)
      · try simp only [decide_eq_true_eq, decide_eq_false_iff_not, Bool.not_eq_true', Bool.not_eq_false', Bool.and_eq_true, Bool.or_eq_true, Bool.and_eq_false_iff, Bool.or_eq_false_iff, Bool.not_true, Bool.not_false] at h9
        have hne : ¬ (nx = nx2 ∧ l = l2) := by rintro ⟨rfl, rfl⟩; have hq := h9; simp at hq
        refine s_seq ?_
        refine s_region ?_
        refine o_p (p_pure rfl) rfl ?_
        refine o_nil ?_
        exact s_retv (rs := [.tmp 4]) rfl (.tmp rfl (.nil)) (fun w' h' => ⟨by simp [retV, hne], h'.below⟩)
      · try simp only [decide_eq_true_eq, decide_eq_false_iff_not, Bool.not_eq_true', Bool.not_eq_false', Bool.and_eq_true, Bool.or_eq_true, Bool.and_eq_false_iff, Bool.or_eq_false_iff, Bool.not_true, Bool.not_false] at h9
        have hkk : nth l k = nth l2 k := by have hq := h9; exact same_one hq
        refine s_skip ?_
        refine s_blk ?_
        refine s_region ?_
        refine o_p (p_pure rfl) rfl ?_
        refine o_p (p_pure rfl) rfl ?_
        try (refine o_slot (i64w (by omega) (by omega)) ?_)
        refine o_p (p_pure rfl) rfl ?_
        refine o_nil ?_
        exact s_backI (k + 1) (by omega) ⟨by omega, fun j h9 => by rcases Nat.lt_or_ge j k with h8 | h8; exact hj j h8; have h7 : j = k := (by omega); rw [h7]; exact hkk⟩ aSx (fun w h => h)
    · try simp only [decide_eq_true_eq, decide_eq_false_iff_not, Bool.not_eq_true', Bool.not_eq_false', Bool.and_eq_true, Bool.or_eq_true, Bool.and_eq_false_iff, Bool.or_eq_false_iff, Bool.not_true, Bool.not_false] at h8
      obtain rfl : k = l.length := by omega
      have heq : nx = nx2 ∧ l = l2 := ⟨hnx, same_ext hln hj⟩
      refine s_exit_to rfl ?_
      refine s_seq ?_
      refine s_region ?_
      refine o_p (p_pure rfl) rfl ?_
      refine o_nil ?_
      exact s_retv (rs := [.tmp 4]) rfl (.tmp rfl (.nil)) (fun w' h' => ⟨by simp [retV, heq], h'.below⟩)

end Go.Proofs

