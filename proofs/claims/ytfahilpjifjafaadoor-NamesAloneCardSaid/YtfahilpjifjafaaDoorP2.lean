/- Contracts of the program's functions, proved by walking them with the rules of the Gx texts; without conditions beyond those that each contract names. -/
import Derived.WalkKit
import Derived.Deep.Draws
import Derived.Lib.Strings
import Derived.Laws.BytesArg
import Derived.Laws.IdiomStrings
import Derived.Deep.Quiet
import Derived.ProofKit
import Derived.OpenShut
import Derived.Laws.StructEq
import Derived.ChangeKeysEq
import Derived.Laws.Externs
import Derived.Lib.Overlaps
import Derived.Carry
import Derived.Laws.Small
import Derived.Lib.Bytealg
import Derived.Shelf.Small.Strs
import Derived.Shelf.Strconv.Itoa0
import Derived.Shelf.Strconv.Itoa1
import Derived.Shelf.LaysM
import Derived.Shelf.Strconv.Itoa2
import Derived.Shelf.Strconv.Itoa3
import Derived.Shelf.Strings.Search1
import Derived.Shelf.Strings.Search2
import Derived.Shelf.Strings.Cut
import Derived.Shelf.Strings.Shaped
import Derived.Shelf.Strings.LastIndex
import Derived.Shelf.GgClosure.StringsIndexFunc
import Derived.Ground.GgwProg
import Derived.Shelf.GgClosure.StringsIndexFuncTop
import Derived.Shelf.Strings.Prefix
import Derived.Test.YtfahilpjifjafaaDoorProg
import Derived.KernelRfl
import Derived.Lib.LastIndexByte
import Derived.Lib.ItoaNum
import Derived.Lib.SmallJoins
import Derived.Lib.AppendIntMem
import Derived.Test.YtfahilpjifjafaaDoorTie
import Derived.Test.YtfahilpjifjafaaDoorCards
import Derived.SevenTiedAt
import Derived.LaidMore
import Derived.Stop.Joined
import Derived.Lib.LaidTab
import Derived.Test.YtfahilpjifjafaaDoorP1
namespace Go.Proofs
open Go Go.RowKit Gx
set_option linter.unusedVariables false
set_option linter.unusedSimpArgs false
attribute [local irreducible] Go.Calls Gx.S Gx.O Gx.D Gx.OpP Gx.OpQ Gx.OpH

set_option maxRecDepth 20000 in
theorem c27 (w : World) (t : List UInt8) (a : Option Addr) (cap : Nat) (l : List (List UInt8)) (hl : t.length = 128) (hs : Vl w a (l.map strV)) (hln : l.length ≤ 1000000) (hml : ∀ s ∈ l, s.length ≤ 1000000) : Calls Tryd.prog 27 #[.string (bs t), .slice a l.length cap] w fun en w' => en = .returned (.int .i64 (shsE t l)) ∧ Below w.heap.size w w' := by
  refine enter (args := [_, _]) Tryd.func27 Tryd.ntmps27 rfl rfl (HS.refl w []) ?_
  refine s_seq ?_
  refine s_region ?_
  refine o_p (p_pure rfl) rfl ?_
  refine o_nil ?_
  refine s_seq ?_
  refine s_seq ?_
  refine s_region ?_
  refine o_p (p_pure rfl) rfl ?_
  refine o_q (q_call rfl fn_19 rfl (fun w1 h1 => c19 w1 a cap l (hs.later h1) hln hml)) rfl ?_
  refine o_p (p_pure rfl) rfl ?_
  refine o_nil ?_
  refine s_seq ?_
  refine s_region ?_
  refine o_p (p_pure rfl) rfl ?_
  refine o_p (p_pure rfl) rfl ?_
  refine o_nil ?_
  refine s_cond rfl (fun h1 => ?_) (fun h1 => ?_)
  · try simp only [decide_eq_true_eq, decide_eq_false_iff_not, Bool.not_eq_true', Bool.not_eq_false', Bool.and_eq_true, Bool.or_eq_true, Bool.and_eq_false_iff, Bool.or_eq_false_iff, Bool.not_true, Bool.not_false] at h1
    have h0 : ¬ namesE l = 0 := h1
    refine s_seq ?_
    refine s_region ?_
    refine o_p (p_pure rfl) rfl ?_
    refine o_p (p_pure rfl) rfl ?_
    refine o_nil ?_
    exact s_retv (rs := [.tmp 4]) rfl (.tmp rfl (.nil)) (fun w' h' => ⟨by rw [shsE, if_neg h0]; rfl, h'.below⟩)
  · try simp only [decide_eq_true_eq, decide_eq_false_iff_not, Bool.not_eq_true', Bool.not_eq_false', Bool.and_eq_true, Bool.or_eq_true, Bool.and_eq_false_iff, Bool.or_eq_false_iff, Bool.not_true, Bool.not_false] at h1
    have h0 : namesE l = 0 := by have hq := h1; omega
    have hon := namesE_ok h0
    have hlc : ∀ s ∈ l, ∀ c ∈ s, c.toNat < 128 := fun s hA => nameE_lt (hon.2 s hA)
    refine s_skip ?_
    refine s_seq ?_
    refine s_seq ?_
    refine s_region ?_
    refine o_p (p_pure rfl) rfl ?_
    refine o_nil ?_
    refine s_block ?_
    refine s_loopI (α := Nat) [4, 6, 7, 13, 14, 15, 16, 17, 18, 19, 20, 21, 22, 23, 24, 25, 26, 27, 28, 29, 30, 31, 32, 33] (fun i => [(6, .int .i64 (i : Int))]) (fun _ => HS w [] []) (fun i => i ≤ l.length ∧ ((l.take i).map (up t)).Nodup) (fun i => l.length - i) 0 ⟨Nat.zero_le _, by simp⟩ aSx (fun w h => h.ent aEt) (fun i hii => ?_)
    obtain ⟨hi1, hi2⟩ := hii
    refine s_seq ?_
    refine s_seq ?_
    refine s_region ?_
    refine o_p (p_pure rfl) rfl ?_
    refine o_p (p_pure rfl) rfl ?_
    refine o_p (p_len_slice rfl rfl Tryd.underlying29) rfl ?_
    refine o_p (p_pure rfl) rfl ?_
    refine o_nil ?_
    refine s_cond rfl (fun h2 => ?_) (fun h2 => ?_)
    · try simp only [decide_eq_true_eq, decide_eq_false_iff_not, Bool.not_eq_true', Bool.not_eq_false', Bool.and_eq_true, Bool.or_eq_true, Bool.and_eq_false_iff, Bool.or_eq_false_iff, Bool.not_true, Bool.not_false] at h2
      have hi : i < l.length := by omega
      have hgi := getD_mem (d := []) hi
      refine s_skip ?_
      refine s_seq ?_
      refine s_block ?_
      refine s_seq ?_
      refine s_region ?_
      refine o_p (p_pure rfl) rfl ?_
      refine o_nil ?_
      refine s_block ?_
      refine s_loopI (α := Nat) [4, 7, 19, 20, 21, 22, 23, 24, 25, 26, 27, 28, 29, 30, 31, 32, 33] (fun k => [(7, .int .i64 (k : Int))]) (fun _ => HS w [] []) (fun k => k ≤ i ∧ ∀ j, j < k → ¬ up t (l.getD i []) = up t (l.getD j [])) (fun k => i - k) 0 ⟨Nat.zero_le _, fun j h => absurd h (Nat.not_lt_zero j)⟩ aSx (fun w h => h.ent aEt) (fun k hkk => ?_)
      obtain ⟨hk1, hk2⟩ := hkk
      refine s_seq ?_
      refine s_seq ?_
      refine s_region ?_
      refine o_p (p_pure rfl) rfl ?_
      refine o_p (p_pure rfl) rfl ?_
      refine o_p (p_pure rfl) rfl ?_
      refine o_nil ?_
      refine s_cond rfl (fun h3 => ?_) (fun h3 => ?_)
      · try simp only [decide_eq_true_eq, decide_eq_false_iff_not, Bool.not_eq_true', Bool.not_eq_false', Bool.and_eq_true, Bool.or_eq_true, Bool.and_eq_false_iff, Bool.or_eq_false_iff, Bool.not_true, Bool.not_false] at h3
        have hk : k < i := by omega
        have hgk := getD_mem (d := []) (show k < l.length by omega)
        refine s_skip ?_
        refine s_seq ?_
        refine s_block ?_
        refine s_seq ?_
        refine s_draw [] mixed ?_
        refine d_p 0 rfl (p_pure rfl) (by kernel_rfl) rfl rfl ?_
        refine d_p 1 rfl (p_pure rfl) (by kernel_rfl) rfl rfl ?_
        refine d_p 2 rfl (p_pure rfl) (by kernel_rfl) rfl rfl ?_
        refine d_p 3 rfl (p_indexAddr rfl rfl rfl sl_29 (i) (by omega) (by omega) (hs.some (by rw [List.length_map]; omega))) (by kernel_rfl) rfl rfl ?_
        refine d_q 4 [] rfl (q_load_old rfl rfl sz_9 ((hs.rd (str_get' (k := i) hi)))) (by kernel_rfl) (by kernel_rfl) (by kernel_rfl) rfl ?_
        refine d_p 5 rfl (p_pure rfl) (by kernel_rfl) rfl rfl ?_
        refine d_p 6 rfl (p_pure rfl) (by kernel_rfl) rfl rfl ?_
        refine d_p 7 rfl (p_indexAddr rfl rfl rfl sl_29 (k) (by omega) (by omega) (hs.some (by rw [List.length_map]; omega))) (by kernel_rfl) rfl rfl ?_
        refine d_q 8 [] rfl (q_load_old rfl rfl sz_9 ((hs.rd (str_get' (k := k) (by omega))))) (by kernel_rfl) (by kernel_rfl) (by kernel_rfl) rfl ?_
        refine d_q 9 [] rfl (q_call rfl fn_48 rfl (fun w1 h1 => c48 w1 t (l.getD i []) (l.getD k []) hl (hlc _ hgi) (hlc _ hgk) (hml _ hgi) (hml _ hgk))) (by kernel_rfl) (by kernel_rfl) (by kernel_rfl) rfl ?_
        refine d_nil (by kernel_rfl) (fun w h => h.ent aEt) ?_
        refine s_cond rfl (fun h4 => ?_) (fun h4 => ?_)
        · try simp only [decide_eq_true_eq, decide_eq_false_iff_not, Bool.not_eq_true', Bool.not_eq_false', Bool.and_eq_true, Bool.or_eq_true, Bool.and_eq_false_iff, Bool.or_eq_false_iff, Bool.not_true, Bool.not_false] at h4
          have hdh := dup_hit hk hi (by have hq := h4; simpa [sameU] using hq)
          refine s_seq ?_
          refine s_region ?_
          refine o_p (p_pure rfl) rfl ?_
          refine o_nil ?_
          exact s_retv (rs := [.tmp 4]) rfl (.tmp rfl (.nil)) (fun w' h' => ⟨by rw [shsE, if_pos h0, if_pos hdh]; rfl, h'.below⟩)
        · try simp only [decide_eq_true_eq, decide_eq_false_iff_not, Bool.not_eq_true', Bool.not_eq_false', Bool.and_eq_true, Bool.or_eq_true, Bool.and_eq_false_iff, Bool.or_eq_false_iff, Bool.not_true, Bool.not_false] at h4
          have hne : ¬ up t (l.getD i []) = up t (l.getD k []) := by have hq := h4; simpa [sameU] using hq
          refine s_skip ?_
          refine s_blk ?_
          refine s_region ?_
          refine o_p (p_pure rfl) rfl ?_
          refine o_p (p_pure rfl) rfl ?_
          try (refine o_slot (i64w (by omega) (by omega)) ?_)
          refine o_p (p_pure rfl) rfl ?_
          refine o_nil ?_
          exact s_backI (k + 1) (by omega) ⟨by omega, fun j hj => (Nat.lt_succ_iff_lt_or_eq.1 hj).elim (hk2 j) (fun e => by rw [e]; exact hne)⟩ aSx (fun w h => h.ent aEt)
      · try simp only [decide_eq_true_eq, decide_eq_false_iff_not, Bool.not_eq_true', Bool.not_eq_false', Bool.and_eq_true, Bool.or_eq_true, Bool.and_eq_false_iff, Bool.or_eq_false_iff, Bool.not_true, Bool.not_false] at h3
        obtain rfl : k = i := by omega
        have hnx := nodup_take hi hi2 hk2
        refine s_exit_to rfl ?_
        refine s_blk ?_
        refine s_region ?_
        refine o_p (p_pure rfl) rfl ?_
        refine o_p (p_pure rfl) rfl ?_
        try (refine o_slot (i64w (by omega) (by omega)) ?_)
        refine o_p (p_pure rfl) rfl ?_
        refine o_nil ?_
        exact s_backI (k + 1) (by omega) ⟨by omega, hnx⟩ aSx (fun w h => h.ent aEt)
    · try simp only [decide_eq_true_eq, decide_eq_false_iff_not, Bool.not_eq_true', Bool.not_eq_false', Bool.and_eq_true, Bool.or_eq_true, Bool.and_eq_false_iff, Bool.or_eq_false_iff, Bool.not_true, Bool.not_false] at h2
      obtain rfl : i = l.length := by omega
      rw [List.take_length] at hi2
      refine s_exit_to rfl ?_
      refine s_seq ?_
      refine s_region ?_
      refine o_p (p_pure rfl) rfl ?_
      refine o_nil ?_
      exact s_retv (rs := [.tmp 4]) rfl (.tmp rfl (.nil)) (fun w' h' => ⟨by rw [shsE, if_pos h0, if_neg (by unfold dupU; simpa using hi2)]; rfl, h'.below⟩)

end Go.Proofs

namespace Go.Proofs
open Go Go.RowKit Gx
set_option linter.unusedVariables false
set_option linter.unusedSimpArgs false
attribute [local irreducible] Go.Calls Gx.S Gx.O Gx.D Gx.OpP Gx.OpQ Gx.OpH

theorem fn_26 : isFn Tryd.prog 26 = true := by kernel_rfl
theorem fn_27 : isFn Tryd.prog 27 = true := by kernel_rfl
def cSU (t : List UInt8) (l : List (List UInt8)) : Int := if (chkTab t).2 = 0 then shsE t l else (chkTab t).2
theorem cSU_0 {t : List UInt8} {l : List (List UInt8)} (h : cSU t l = 0) : (chkTab t).2 = 0 ∧ namesE l = 0 ∧ shA t l = shF t l (l.map (up t)) [] := by
  unfold cSU shsE at h
  by_cases h1 : (chkTab t).2 = 0
  · rw [if_pos h1] at h
    by_cases h2 : namesE l = 0
    · rw [if_pos h2] at h
      by_cases h3 : dupU t l = true
      · rw [if_pos h3] at h; exact absurd h (by decide)
      · exact ⟨h1, h2, by rw [shA, if_pos (by rw [openL, if_pos h1, h2]), if_neg h3]⟩
    · rw [if_neg h2] at h; exact absurd h h2
  · rw [if_neg h1] at h; exact absurd h h1
end Go.Proofs

/- Chapter 5, plain: short names stand alone (the statement NamesAlone). No program here. -/
namespace Go.Proofs
open Go Go.RowKit Gx
set_option linter.unusedVariables false
set_option linter.unusedSimpArgs false
theorem shF_code {t : List UInt8} : ∀ {l ks acc : List (List UInt8)}, (shF t l ks acc).2 = 0 ∨ (shF t l ks acc).2 = 3 ∨ (shF t l ks acc).2 = 16
  | [], _, _ => .inl rfl
  | s :: l, ks, acc => by
    unfold shF
    split
    · exact shF_code
    · split
      · exact shF_code
      · rename_i h
        have aux : ∀ (f n : Nat), (tryN t s ks n f).2 = 0 ∨ (tryN t s ks n f).2 = 16 := by
          intro f
          induction f with
          | zero => exact fun n => .inr rfl
          | succ f ih =>
            intro n
            unfold tryN
            split
            · exact ih _
            · exact .inl rfl
        show (shortU t s ks).2 = 0 ∨ (shortU t s ks).2 = 3 ∨ (shortU t s ks).2 = 16
        unfold shortU
        split
        · exact .inr (.inl rfl)
        · rcases aux 999 1 with h9 | h9
          · exact .inl h9
          · exact .inr (.inr h9)
/-- What is made of a name: nothing where it is short, else a candidate that stands alone. -/
def Alone (t : List UInt8) (l S ks : List (List UInt8)) (i : Nat) : Prop :=
  (shortS (up t (l.getD i [])) = true → S.getD i [] = []) ∧
  (¬ shortS (up t (l.getD i [])) = true → (¬ keptU t (stemU (l.getD i [])) = [] ∧ ∃ m, 1 ≤ m ∧ m ≤ 999 ∧ S.getD i [] = candU t (l.getD i []) m) ∧ ¬ up t (S.getD i []) ∈ ks ∧ ∀ j, j < i → ¬ shortS (up t (l.getD j [])) = true → ¬ up t (S.getD i []) = up t (S.getD j []))
theorem shF_good {t : List UInt8} : ∀ {l ks acc : List (List UInt8)}, (shF t l ks acc).2 = 0 → ∃ S, (shF t l ks acc).1 = acc ++ S ∧ S.length = l.length ∧ ∀ i, i < l.length → Alone t l S ks i
  | [], ks, acc, _ => ⟨[], by simp [shF], rfl, fun i h => absurd h (Nat.not_lt_zero i)⟩
  | s :: l, ks, acc, h => by
    unfold shF at h ⊢
    by_cases h1 : shortS (up t s) = true
    · rw [if_pos h1] at h ⊢
      obtain ⟨S, e1, e2, e3⟩ := shF_good h
      refine ⟨[] :: S, by rw [e1, List.append_assoc]; rfl, by simp [e2], fun i hi => ?_⟩
      rcases i with _ | i
      · exact ⟨fun _ => rfl, fun h9 => absurd h1 h9⟩
      · obtain ⟨f1, f2⟩ := e3 i (by simpa using hi)
        refine ⟨f1, fun h9 => ?_⟩
        obtain ⟨g1, g2, g3⟩ := f2 h9
        refine ⟨g1, g2, fun j hj hs => ?_⟩
        rcases j with _ | j
        · exact absurd h1 hs
        · exact g3 j (by omega) hs
    · rw [if_neg h1] at h ⊢
      by_cases h2 : (shortU t s ks).2 = 0
      · rw [if_pos h2] at h ⊢
        obtain ⟨S, e1, e2, e3⟩ := shF_good h
        obtain ⟨c1, m, c2, c3, c4, c5⟩ := shortU_cand h2
        refine ⟨(shortU t s ks).1 :: S, by rw [e1, List.append_assoc]; rfl, by simp [e2], fun i hi => ?_⟩
        rcases i with _ | i
        · refine ⟨fun h9 => absurd h9 h1, fun _ => ⟨⟨c1, m, c2, c3, c4⟩, ?_, fun j hj => absurd hj (Nat.not_lt_zero j)⟩⟩
          show ¬ up t (shortU t s ks).1 ∈ ks
          rw [c4]; exact c5
        · obtain ⟨f1, f2⟩ := e3 i (by simpa using hi)
          refine ⟨f1, fun h9 => ?_⟩
          obtain ⟨g1, g2, g3⟩ := f2 h9
          refine ⟨g1, fun hm => g2 (List.mem_cons_of_mem _ hm), fun j hj hs => ?_⟩
          rcases j with _ | j
          · intro e
            refine g2 (List.mem_cons.2 (.inl ?_))
            exact e
          · exact g3 j (by omega) hs
      · rw [if_neg h2] at h
        exact absurd h h2
/-! ## What a candidate looks like, with the standard table -/
theorem kp_short {t s : List UInt8} : ∀ c ∈ keptU t s, shortB c = true := by
  intro c hc
  obtain ⟨x, _, hx⟩ := List.mem_flatMap.1 hc
  unfold kpB at hx
  split at hx
  · cases hx
  · split at hx
    · rename_i h; rw [List.mem_singleton.1 hx]; exact h
    · rw [List.mem_singleton.1 hx]; decide
theorem end_short {n : Nat} : ∀ c ∈ endU n, shortB c = true := by
  intro c hc
  unfold endU at hc
  rcases List.mem_cons.1 hc with rfl | h
  · decide
  · rw [itoa_nat] at h
    have h2 := dec_lt n c h
    unfold shortB
    rw [decide_eq_true h2.1, decide_eq_true h2.2]
    simp
theorem short_ne {c : UInt8} (h : shortB c = true) : c ≠ 46 ∧ c ≠ 32 := by
  constructor
  · rintro rfl; exact absurd h (by decide)
  · rintro rfl; exact absurd h (by decide)
theorem short_legal : ∀ c : UInt8, shortB c = true → legalB c = true := by
  intro c h
  unfold shortB at h
  simp only [Bool.or_eq_true, Bool.and_eq_true, decide_eq_true_eq] at h
  unfold legalB
  have hr : ∀ x : Nat, x < 256 → (65 ≤ x ∧ x ≤ 90 ∨ 48 ≤ x ∧ x ≤ 57) → refusedL.contains (UInt8.ofNat x) = false := by decide +kernel
  rcases h with h | h
  · have h2 := hr c.toNat c.toNat_lt (h.elim .inl .inr)
    rw [UInt8.ofNat_toNat] at h2
    rw [decide_eq_true (show 32 ≤ c.toNat by omega), decide_eq_true (show c.toNat ≤ 126 by omega), h2]
    rfl
  · have : c ∈ signsL := by simpa using h
    simp only [signsL, List.mem_cons, List.mem_nil_iff, or_false] at this
    rcases this with rfl | rfl | rfl | rfl | rfl | rfl | rfl | rfl | rfl | rfl | rfl | rfl | rfl <;> decide
theorem std_fix : ∀ x : Nat, x < 128 → (shortB (UInt8.ofNat x) = true ∨ x = 46) → stdT.getD x 0 = UInt8.ofNat x := by decide +kernel
theorem up_fix {s : List UInt8} (h : ∀ c ∈ s, shortB c = true ∨ c = 46) : up stdT s = s := by
  unfold up
  conv => rhs; rw [← List.map_id s]
  apply List.map_congr_left
  intro c hc
  have h1 := h c hc
  have h2 : c.toNat < 128 := h1.elim shortB_lt (fun e => by rw [e]; decide)
  have h3 := std_fix c.toNat h2 (by rw [UInt8.ofNat_toNat]; exact h1.imp id (fun e => by rw [e]; rfl))
  rw [UInt8.ofNat_toNat] at h3
  exact h3
section
variable {t s : List UInt8} {m : Nat}
theorem cand_cut (hz : ¬ keptU t (stemU s) = []) (hm : m ≤ 999) : cutD (candU t s m) = ((keptU t (stemU s)).take (min 6 (8 - (endU m).length)) ++ endU m, if keptU t (tailU s) = [] then none else some ((keptU t (tailU s)).take 3)) := by
  have aux : ∀ (a b : List UInt8), (∀ c ∈ a, c ≠ 46) → cutD (a ++ b) = (a ++ (cutD b).1, (cutD b).2) := by
    intro a b h
    induction a with
    | nil => simp
    | cons x a ih =>
      rw [List.cons_append, cutD, if_neg (h x (List.mem_cons_self ..)), ih (fun c hc => h c (List.mem_cons_of_mem _ hc))]
      rfl
  unfold candU
  rw [aux _ _ (fun c hc => ?_)]
  · unfold tail3
    by_cases hk : keptU t (tailU s) = []
    · rw [if_pos hk, if_pos hk]; simp [cutD]
    · rw [if_neg hk, if_neg hk]; simp [cutD]
  · rcases List.mem_append.1 hc with h | h
    · exact (short_ne (kp_short c (List.mem_of_mem_take h))).1
    · exact (short_ne (end_short c h)).1
theorem cand_short (hz : ¬ keptU t (stemU s) = []) (hm : m ≤ 999) : shortS (candU t s m) = true := by
  have he := end_len hm
  unfold shortS
  rw [cand_cut hz hm]
  have h1 : partB ((keptU t (stemU s)).take (min 6 (8 - (endU m).length)) ++ endU m) 8 = true := by
    unfold partB
    rw [decide_eq_true (show ((keptU t (stemU s)).take (min 6 (8 - (endU m).length)) ++ endU m).length ≤ 8 by rw [List.length_append, List.length_take]; omega),
      decide_eq_false (show ¬ ((keptU t (stemU s)).take (min 6 (8 - (endU m).length)) ++ endU m) = [] from fun e => by have := (List.append_eq_nil_iff.1 e).2; rw [this] at he; simp at he)]
    rw [show (((keptU t (stemU s)).take (min 6 (8 - (endU m).length)) ++ endU m).all shortB) = true from List.all_eq_true.2 fun c hc => (List.mem_append.1 hc).elim (fun h => kp_short c (List.mem_of_mem_take h)) (end_short c)]
    rfl
  rw [h1]
  by_cases hk : keptU t (tailU s) = []
  · rw [if_pos hk]; rfl
  · simp only [if_neg hk, Bool.true_and]
    have hp := List.length_pos_iff.2 hk
    unfold partB
    rw [decide_eq_true (show ((keptU t (tailU s)).take 3).length ≤ 3 by rw [List.length_take]; omega),
      decide_eq_false (show ¬ (keptU t (tailU s)).take 3 = [] from fun e => by have := congrArg List.length e; rw [List.length_take] at this; simp at this; exact hk this),
      show ((keptU t (tailU s)).take 3).all shortB = true from List.all_eq_true.2 fun c hc => kp_short c (List.mem_of_mem_take hc)]
    rfl
theorem cand_byte : ∀ c ∈ candU t s m, shortB c = true ∨ c = 46 := by
  intro c hc
  unfold candU at hc
  rcases List.mem_append.1 hc with h | h
  · rcases List.mem_append.1 h with h | h
    · exact .inl (kp_short c (List.mem_of_mem_take h))
    · exact .inl (end_short c h)
  · unfold tail3 at h
    split at h
    · cases h
    · rcases List.mem_cons.1 h with h | h
      · exact .inr h
      · exact .inl (kp_short c (List.mem_of_mem_take h))
theorem cand_last : ∃ r c, candU t s m = r ++ [c] ∧ shortB c = true := by
  have aux : ∀ (x : List UInt8), x ≠ [] → (∀ c ∈ x, shortB c = true) → ∃ r c, x = r ++ [c] ∧ shortB c = true := by
    intro x hx h
    refine ⟨x.dropLast, x.getLast hx, (List.dropLast_concat_getLast hx).symm, h _ (List.getLast_mem hx)⟩
  unfold candU tail3
  split
  · obtain ⟨r, c, e, h⟩ := aux (endU m) (by simp [endU]) end_short
    refine ⟨(keptU t (stemU s)).take (min 6 (8 - (endU m).length)) ++ r, c, ?_, h⟩
    rw [List.append_nil, e, List.append_assoc]
  · rename_i hk
    have hne : (keptU t (tailU s)).take 3 ≠ [] := fun e => by have := congrArg List.length e; rw [List.length_take] at this; have := List.length_pos_iff.2 hk; simp at *; exact hk (by assumption)
    obtain ⟨r, c, e, h⟩ := aux _ hne (fun c hc => kp_short c (List.mem_of_mem_take hc))
    refine ⟨(keptU t (stemU s)).take (min 6 (8 - (endU m).length)) ++ endU m ++ (46 :: r), c, ?_, h⟩
    rw [e, List.append_assoc _ (46 :: r), List.cons_append]
theorem cand_name (hz : ¬ keptU t (stemU s) = []) (hm : m ≤ 999) : nameE (candU t s m) = 0 := by
  have hl := cand_len (t := t) (s := s) hm
  obtain ⟨r, c, e, hc⟩ := cand_last (t := t) (s := s) (m := m)
  have hcn := short_ne hc
  unfold nameE
  rw [if_pos (by omega), if_pos]
  unfold legalS
  have hsuf : ∀ x : UInt8, c ≠ x → [x].isSuffixOf (candU t s m) = false := by
    intro x hx
    rw [Bool.eq_false_iff, Ne, List.isSuffixOf_iff_suffix]
    rintro ⟨q, hq⟩
    rw [e] at hq
    have := List.append_inj_right' hq rfl
    exact hx (by simpa using this.symm)
  have hall : (candU t s m).all legalB = true := List.all_eq_true.2 fun x hx => (cand_byte x hx).elim (short_legal x) (fun h => by rw [h]; decide)
  have h46 : ¬ candU t s m = [46, 46] := by
    intro h
    rw [h] at e
    have := List.append_inj_right' (show [46] ++ [46] = r ++ [c] from e) rfl
    exact hcn.1 (by simpa using this.symm)
  have hne : ¬ candU t s m = [] := by rw [e]; simp
  rw [decide_eq_false hne, decide_eq_true (show (candU t s m).length ≤ 32 by omega), hall, decide_eq_false h46, hsuf 32 hcn.2, hsuf 46 hcn.1]
  rfl
theorem cand_ne : ¬ candU t s m = [] := by
  obtain ⟨r, c, e, hc⟩ := cand_last (t := t) (s := s) (m := m)
  rw [e]; simp
end
end Go.Proofs

namespace Go.Proofs
open Go Go.RowKit Gx
set_option linter.unusedVariables false
set_option linter.unusedSimpArgs false
attribute [local irreducible] Go.Calls Gx.S Gx.O Gx.D Gx.OpP Gx.OpQ Gx.OpH



theorem m24 (w : World) (t s : List UInt8) (hmt : t.length ≤ 1000000) (h1 : (chkTab t).2 = 0) (ha : nameE s = 0) {b : Bool} (hb : shortS (up t s) = b) : Calls Tryd.prog 24 #[.string (bs t), .string (bs s)] w fun en w' => en = .returned (.tuple #[.bool !b, .int .i64 0]) ∧ Below w.heap.size w w' := by
  have h := c24 w t s hmt (by have := (nameE_ok ha).1; omega)
  rw [openE_0 h1 (by intro s hs; simp only [List.mem_cons, List.mem_nil_iff, or_false] at hs; subst hs; assumption), if_pos rfl, hb] at h
  exact h
theorem m40f (w : World) (t a b : List UInt8) (hmt : t.length ≤ 1000000) (h1 : (chkTab t).2 = 0) (ha : nameE a = 0) (hb : nameE b = 0) (h : sameU t a b = false) : Calls Tryd.prog 40 #[.string (bs t), .string (bs a), .string (bs b)] w fun en w' => en = .returned (.tuple #[.bool false, .int .i64 0]) ∧ Below w.heap.size w w' := by
  rw [← h]
  exact m40 w t a b hmt h1 ha hb
theorem m36 (w : World) (s : List UInt8) (h : nameE s = 0) : Calls Tryd.prog 36 #[.string (bs s)] w fun en w' => en = .returned (.int .i64 0) ∧ Below w.heap.size w w' := by
  have h2 := c36 w s (by have := (nameE_ok h).1; omega)
  rw [h] at h2
  exact h2
theorem m22 (w : World) (s : List UInt8) (h : nameE s = 0) (h1 : shortS s = true) : Calls Tryd.prog 22 #[.string (bs s)] w fun en w' => en = .returned (.bool true) ∧ Below w.heap.size w w' := by
  have h2 := c22 w s (by have := (nameE_ok h).1; omega)
  rw [h1] at h2
  exact h2
theorem shsE_0 {t : List UInt8} {l : List (List UInt8)} (h1 : (chkTab t).2 = 0) (h : shsE t l = 0) : (∀ s ∈ l, nameE s = 0) ∧ l.length ≤ 200 ∧ shA t l = shF t l (l.map (up t)) [] := by
  have h2 := cSU_0 (t := t) (l := l) (by rw [cSU, if_pos h1]; exact h)
  have h3 := namesE_ok h2.2.1
  exact ⟨h3.2, h3.1, h2.2.2⟩

theorem alone_ne {t : List UInt8} {l S ks : List (List UInt8)} {i k : Nat} (hi : Alone t l S ks i) (hk : Alone t l S ks k) (hs : ¬ shortS (up t (l.getD i [])) = true) (hne : ¬ S.getD i [] = []) (h : ¬ k = i) : ¬ S.getD k [] = S.getD i [] := by
  intro e
  by_cases h2 : shortS (up t (l.getD k [])) = true
  · rw [hk.1 h2] at e; exact hne e.symm
  · rcases Nat.lt_or_ge k i with h3 | h3
    · exact (hi.2 hs).2.2 k h3 h2 (by rw [e])
    · exact (hk.2 h2).2.2 i (by omega) hs (by rw [e])

set_option maxRecDepth 20000 in
set_option maxHeartbeats 4000000 in
theorem c8 (w : World) (a : Option Addr) (cap : Nat) (l : List (List UInt8)) (hs : Vl w a (l.map strV)) (hln : l.length ≤ 9223372036854775807) (hml : ∀ s ∈ l, s.length ≤ 9223372036854775807) (ht : TabOk w) : Calls Tryd.prog 8 #[.slice a l.length cap] w fun en w' => en = .returned (.bool true) ∧ Below w.heap.size w w' := by
  refine enter (args := [_]) Tryd.func8 Tryd.ntmps8 rfl rfl (HS.refl w []) ?_
  refine s_seq ?_
  refine s_region ?_
  refine o_p (p_pure rfl) rfl ?_
  refine o_nil ?_
  refine s_seq ?_
  refine s_seq ?_
  refine s_region ?_
  refine o_q (q_call rfl fn_10 rfl (fun w1 h1 => c10 w1 (ht.later h1))) rfl ?_
  refine o_p (p_pure rfl) rfl ?_
  refine o_nil ?_
  refine s_cond rfl (fun h1 => ?_) (fun h1 => ?_)
  · try simp only [decide_eq_true_eq, decide_eq_false_iff_not, Bool.not_eq_true', Bool.not_eq_false', Bool.and_eq_true, Bool.or_eq_true, Bool.and_eq_false_iff, Bool.or_eq_false_iff, Bool.not_true, Bool.not_false] at h1
    exfalso; cases h1
  · try simp only [decide_eq_true_eq, decide_eq_false_iff_not, Bool.not_eq_true', Bool.not_eq_false', Bool.and_eq_true, Bool.or_eq_true, Bool.and_eq_false_iff, Bool.or_eq_false_iff, Bool.not_true, Bool.not_false] at h1
    refine s_skip ?_
    refine s_seq ?_
    refine s_region ?_
    refine o_q (q_call rfl fn_43 rfl (fun w1 h1 => c43 w1)) rfl ?_
    refine o_p (p_pure rfl) rfl ?_
    refine o_nil ?_
    refine s_seq ?_
    refine s_seq ?_
    refine s_region ?_
    refine o_p (p_pure rfl) rfl ?_
    refine o_p (p_len_slice rfl rfl Tryd.underlying29) rfl ?_
    refine o_p (p_pure rfl) rfl ?_
    refine o_p (p_pure rfl) rfl ?_
    refine o_or 4 20 24 _ _ rfl
      (by
        intro hg2
        have hs3 := hg2; try simp only [decide_eq_true_eq, decide_eq_false_iff_not, Bool.not_eq_true', Bool.not_eq_false', Bool.and_eq_true, Bool.or_eq_true, Bool.and_eq_false_iff, Bool.or_eq_false_iff, Bool.not_true, Bool.not_false] at hs3
        refine o_on 20 _ rfl rfl hg2 ?_
        refine o_p (p_pure rfl) rfl ?_
        refine o_on 20 _ rfl rfl hg2 ?_
        refine o_q (q_call rfl fn_16 rfl (fun w1 h1 => c16 w1 a cap l (hs.later h1) hln hml)) rfl ?_
        refine o_on 20 _ rfl rfl hg2 ?_
        refine o_p (p_pure rfl) rfl ?_
        refine o_p (p_pickf rfl rfl hg2 rfl) rfl ?_
        refine o_nil ?_
        exact s_joinN 4 24 _ rfl rfl rfl (fun w h => by first | exact h | exact h.ent aEt))
      (by
        intro hg4
        have hs5 := hg4; try simp only [decide_eq_true_eq, decide_eq_false_iff_not, Bool.not_eq_true', Bool.not_eq_false', Bool.and_eq_true, Bool.or_eq_true, Bool.and_eq_false_iff, Bool.or_eq_false_iff, Bool.not_true, Bool.not_false] at hs5
        refine o_off 20 _ rfl rfl hg4 rfl ?_
        refine o_off 20 _ rfl rfl hg4 rfl ?_
        refine o_off 20 _ rfl rfl hg4 rfl ?_
        refine o_p (p_pickt rfl rfl hg4 rfl) rfl ?_
        refine o_nil ?_
        exact s_joinN 4 24 _ rfl rfl rfl (fun w h => by first | exact h | exact h.ent aEt)) ?_
    refine o_p (p_pure rfl) rfl ?_
    refine o_or 5 25 30 _ _ rfl
      (by
        intro hg6
        have hs7 := hg6; try simp only [decide_eq_true_eq, decide_eq_false_iff_not, Bool.not_eq_true', Bool.not_eq_false', Bool.and_eq_true, Bool.or_eq_true, Bool.and_eq_false_iff, Bool.or_eq_false_iff, Bool.not_true, Bool.not_false] at hs7
        refine o_on 25 _ rfl rfl hg6 ?_
        refine o_q (q_call rfl fn_38 rfl (fun w1 h1 => c38 w1)) rfl ?_
        refine o_on 25 _ rfl rfl hg6 ?_
        refine o_p (p_pure rfl) rfl ?_
        refine o_on 25 _ rfl rfl hg6 ?_
        refine o_q (q_call rfl fn_27 rfl (fun w1 h1 => by have hq := hg6; have hfw := few_ok (l := l) (by simp at hq; grind); exact c27 w1 stdT a cap l stdT_len (hs.later h1) (by omega) (fun s hA => by have := hfw.2 s hA; omega))) rfl ?_
        refine o_on 25 _ rfl rfl hg6 ?_
        refine o_p (p_pure rfl) rfl ?_
        refine o_p (p_pickf rfl rfl hg6 rfl) rfl ?_
        refine o_nil ?_
        exact s_joinN 5 30 _ rfl rfl rfl (fun w h => by first | exact h | exact h.ent aEt))
      (by
        intro hg8
        have hs9 := hg8; try simp only [decide_eq_true_eq, decide_eq_false_iff_not, Bool.not_eq_true', Bool.not_eq_false', Bool.and_eq_true, Bool.or_eq_true, Bool.and_eq_false_iff, Bool.or_eq_false_iff, Bool.not_true, Bool.not_false] at hs9
        refine o_off 25 _ rfl rfl hg8 rfl ?_
        refine o_off 25 _ rfl rfl hg8 rfl ?_
        refine o_off 25 _ rfl rfl hg8 rfl ?_
        refine o_off 25 _ rfl rfl hg8 rfl ?_
        refine o_p (p_pickt rfl rfl hg8 rfl) rfl ?_
        refine o_nil ?_
        exact s_joinN 5 30 _ rfl rfl rfl (fun w h => by first | exact h | exact h.ent aEt)) ?_
    refine o_nil ?_
    refine s_cond rfl (fun h10 => ?_) (fun h10 => ?_)
    · try simp only [decide_eq_true_eq, decide_eq_false_iff_not, Bool.not_eq_true', Bool.not_eq_false', Bool.and_eq_true, Bool.or_eq_true, Bool.and_eq_false_iff, Bool.or_eq_false_iff, Bool.not_true, Bool.not_false] at h10
      refine s_seq ?_
      refine s_region ?_
      refine o_p (p_pure rfl) rfl ?_
      refine o_nil ?_
      exact s_retv (rs := [.tmp 2]) rfl (.tmp rfl (.nil)) (fun w' h' => ⟨by rfl, h'.below⟩)
    · try simp only [decide_eq_true_eq, decide_eq_false_iff_not, Bool.not_eq_true', Bool.not_eq_false', Bool.and_eq_true, Bool.or_eq_true, Bool.and_eq_false_iff, Bool.or_eq_false_iff, Bool.not_true, Bool.not_false] at h10
      have hq0 := h10
      have hf0 : l.length ≤ 60 ∧ fewU l = true ∧ shsE stdT l = 0 := by have hq := h10; grind
      have hfw := few_ok hf0.2.1
      have hct : (chkTab stdT).2 = 0 := by rw [stdT_ok]
      have hf := shsE_0 hct hf0.2.2
      have hml6 : ∀ s ∈ l, s.length ≤ 1000000 := fun s hA => by have := hfw.2 s hA; omega
      refine s_skip ?_
      refine s_seq ?_
      refine s_region ?_
      refine o_p (p_pure rfl) rfl ?_
      refine o_p (p_pure rfl) rfl ?_
      refine o_h (h_call rfl fn_18 rfl (fun w1 h1 => c18 w1 a cap l (hs.later h1) (by omega))) rfl (fun gc _ => ?_)
      refine o_h (h_call rfl fn_26 rfl (fun w1 h1 => c26 w1 stdT gc.1 gc.2 l (by rw [stdT_len]; decide) (h1.vl_own (a := gc.1) aPk) (by omega) hml6 (ht.later h1))) rfl (fun ga _ => ?_)
      refine o_p (p_pure rfl) rfl ?_
      refine o_p (p_pure rfl) rfl ?_
      refine o_p (p_pure rfl) rfl ?_
      refine o_p (p_pure rfl) rfl ?_
      refine o_p (p_pure rfl) rfl ?_
      refine o_nil ?_
      refine s_seq ?_
      refine s_seq ?_
      refine s_region ?_
      refine o_p (p_pure rfl) rfl ?_
      refine o_p (p_pure rfl) rfl ?_
      refine o_nil ?_
      refine s_cond rfl (fun h11 => ?_) (fun h11 => ?_)
      · try simp only [decide_eq_true_eq, decide_eq_false_iff_not, Bool.not_eq_true', Bool.not_eq_false', Bool.and_eq_true, Bool.or_eq_true, Bool.and_eq_false_iff, Bool.or_eq_false_iff, Bool.not_true, Bool.not_false] at h11
        have hcd := shF_code (t := stdT) (l := l) (ks := l.map (up stdT)) (acc := [])
        have hA := hf.2.2
        have hz : ¬ (shF stdT l (l.map (up stdT)) []).2 = 0 := by have hq := h11; rw [hA] at hq; exact hq
        refine s_seq ?_
        refine s_region ?_
        refine o_p (p_pure rfl) rfl ?_
        refine o_p (p_pure rfl) rfl ?_
        refine o_p (p_pure rfl) rfl ?_
        refine o_or 3 42 45 _ _ rfl
          (by
            intro hg12
            have hs13 := hg12; try simp only [decide_eq_true_eq, decide_eq_false_iff_not, Bool.not_eq_true', Bool.not_eq_false', Bool.and_eq_true, Bool.or_eq_true, Bool.and_eq_false_iff, Bool.or_eq_false_iff, Bool.not_true, Bool.not_false] at hs13
            refine o_on 42 _ rfl rfl hg12 ?_
            refine o_p (p_pure rfl) rfl ?_
            refine o_on 42 _ rfl rfl hg12 ?_
            refine o_p (p_pure rfl) rfl ?_
            refine o_p (p_pickf rfl rfl hg12 rfl) rfl ?_
            refine o_nil ?_
            exact s_joinN 3 45 _ rfl rfl rfl (fun w h => by first | exact h | exact h.ent aEt))
          (by
            intro hg14
            have hs15 := hg14; try simp only [decide_eq_true_eq, decide_eq_false_iff_not, Bool.not_eq_true', Bool.not_eq_false', Bool.and_eq_true, Bool.or_eq_true, Bool.and_eq_false_iff, Bool.or_eq_false_iff, Bool.not_true, Bool.not_false] at hs15
            refine o_off 42 _ rfl rfl hg14 rfl ?_
            refine o_off 42 _ rfl rfl hg14 rfl ?_
            refine o_p (p_pickt rfl rfl hg14 rfl) rfl ?_
            refine o_nil ?_
            exact s_joinN 3 45 _ rfl rfl rfl (fun w h => by first | exact h | exact h.ent aEt)) ?_
        refine o_p (p_pure rfl) rfl ?_
        refine o_nil ?_
        exact s_retv (rs := [.tmp 2]) rfl (.tmp rfl (.nil)) (fun w' h' => ⟨by rw [hA]; rcases hcd with hq | hq | hq; (exact absurd hq hz); (rw [hq]; rfl); (rw [hq]; rfl), h'.below⟩)
      · try simp only [decide_eq_true_eq, decide_eq_false_iff_not, Bool.not_eq_true', Bool.not_eq_false', Bool.and_eq_true, Bool.or_eq_true, Bool.and_eq_false_iff, Bool.or_eq_false_iff, Bool.not_true, Bool.not_false] at h11
        have hA := hf.2.2
        have hz : (shF stdT l (l.map (up stdT)) []).2 = 0 := by have hq := h11; rw [hA] at hq; omega
        obtain ⟨S, hS1, hSl, hSg⟩ := shF_good hz
        rw [List.nil_append] at hS1
        rw [hA, hS1]
        refine s_skip ?_
        refine s_seq ?_
        refine s_seq ?_
        refine s_region ?_
        refine o_p (p_pure rfl) rfl ?_
        refine o_p (p_len_slice rfl rfl Tryd.underlying29) rfl ?_
        refine o_p (p_pure rfl) rfl ?_
        refine o_p (p_len_slice rfl rfl Tryd.underlying29) rfl ?_
        refine o_p (p_pure rfl) rfl ?_
        refine o_nil ?_
        refine s_cond rfl (fun h16 => ?_) (fun h16 => ?_)
        · try simp only [decide_eq_true_eq, decide_eq_false_iff_not, Bool.not_eq_true', Bool.not_eq_false', Bool.and_eq_true, Bool.or_eq_true, Bool.and_eq_false_iff, Bool.or_eq_false_iff, Bool.not_true, Bool.not_false] at h16
          exfalso; have hq := h16; rw [hSl] at hq; exact hq rfl
        · try simp only [decide_eq_true_eq, decide_eq_false_iff_not, Bool.not_eq_true', Bool.not_eq_false', Bool.and_eq_true, Bool.or_eq_true, Bool.and_eq_false_iff, Bool.or_eq_false_iff, Bool.not_true, Bool.not_false] at h16
          refine s_skip ?_
          refine s_seq ?_
          refine s_seq ?_
          refine s_region ?_
          refine o_p (p_pure rfl) rfl ?_
          refine o_nil ?_
          refine s_block ?_
          refine s_weaken (L' := [(0, _), (2, _), (3, _), (4, _), (6, _)]) aSx (fun _ h => h) ?_
          refine s_loopI (α := Nat) [2, 6, 7, 8, 9, 10, 11, 12, 13, 51, 52, 53, 54, 55, 56, 57, 58, 59, 60, 61, 62, 63, 64, 65, 66, 67, 68, 69, 70, 71, 72, 73, 74, 75, 76, 77, 78, 79, 80, 81, 82, 83, 84, 85, 86, 87, 88, 89, 90, 91, 92, 93, 94, 95, 96, 97, 98, 99, 100, 101, 102, 103, 104, 105, 106, 107, 108, 109, 110, 111, 112, 113, 114, 115, 116, 117, 118, 119, 120, 121, 122, 123, 124, 125, 126, 127, 128, 129, 130, 131, 132, 133, 134, 135, 136, 137, 138, 139, 140, 141, 142, 143, 144, 145, 146, 147, 148] (fun i => [(6, .int .i64 (i : Int))]) (fun _ => HS w [] [.own (.slice ga.1 S.length ga.2) 9 1 S.length (S.map strV)]) (fun i => i ≤ S.length) (fun i => S.length - i) 0 (Nat.zero_le _) aSx (fun w h => h.ent aEt) (fun i hi1 => ?_)
          refine s_seq ?_
          refine s_seq ?_
          refine s_region ?_
          refine o_p (p_pure rfl) rfl ?_
          refine o_p (p_pure rfl) rfl ?_
          refine o_p (p_len_slice rfl rfl Tryd.underlying29) rfl ?_
          refine o_p (p_pure rfl) rfl ?_
          refine o_nil ?_
          refine s_cond rfl (fun h17 => ?_) (fun h17 => ?_)
          · try simp only [decide_eq_true_eq, decide_eq_false_iff_not, Bool.not_eq_true', Bool.not_eq_false', Bool.and_eq_true, Bool.or_eq_true, Bool.and_eq_false_iff, Bool.or_eq_false_iff, Bool.not_true, Bool.not_false] at h17
            have hi : i < l.length := by omega
            have hni := hf.1 _ (getD_mem (d := []) hi)
            have hal := hSg i hi
            have hiS : i < S.length := by omega
            refine s_fact (fun w h => (h.vl_own (a := ga.1) aPk).some (by rw [List.length_map]; omega)) (fun hsm => ?_)
            refine s_skip ?_
            refine s_seq ?_
            refine s_block ?_
            refine s_seq ?_
            refine s_region ?_
            refine o_p (p_pure rfl) rfl ?_
            refine o_p (p_pure rfl) rfl ?_
            refine o_p (p_pure rfl) rfl ?_
            refine o_p (p_indexAddr rfl rfl rfl sl_29 (i) (by omega) (by omega) (hs.some (by rw [List.length_map]; omega))) rfl ?_
            refine o_q (q_load_old rfl rfl sz_9 ((hs.rd (str_get' (k := i) hi)))) rfl ?_
            refine o_q (q_call rfl fn_24 rfl (fun w1 h1 => m24 w1 stdT (l.getD i []) (by rw [stdT_len]; decide) hct hni rfl)) rfl ?_
            refine o_p (p_pure rfl) rfl ?_
            refine o_p (p_pure rfl) rfl ?_
            refine o_p (p_pure rfl) rfl ?_
            refine o_p (p_pure rfl) rfl ?_
            refine o_p (p_pure rfl) rfl ?_
            refine o_nil ?_
            refine s_seq ?_
            refine s_seq ?_
            refine s_region ?_
            refine o_p (p_pure rfl) rfl ?_
            refine o_p (p_pure rfl) rfl ?_
            refine o_p (p_pure rfl) rfl ?_
            refine o_or 8 68 76 _ _ rfl
              (by
                intro hg18
                have hs19 := hg18; try simp only [decide_eq_true_eq, decide_eq_false_iff_not, Bool.not_eq_true', Bool.not_eq_false', Bool.and_eq_true, Bool.or_eq_true, Bool.and_eq_false_iff, Bool.or_eq_false_iff, Bool.not_true, Bool.not_false] at hs19
                refine o_on 68 _ rfl rfl hg18 ?_
                refine o_p (p_pure rfl) rfl ?_
                refine o_on 68 _ rfl rfl hg18 ?_
                refine o_p (p_pure rfl) rfl ?_
                refine o_on 68 _ rfl rfl hg18 ?_
                refine o_p (p_pure rfl) rfl ?_
                refine o_on 68 _ rfl rfl hg18 ?_
                refine o_p (p_indexAddr rfl rfl rfl sl_29 (i) (by omega) (by omega) hsm) rfl ?_
                refine o_on 68 _ rfl rfl hg18 ?_
                refine o_q (q_load_at rfl rfl sz_9 (fun w h => (h.vl_own (a := ga.1) aPk).rd (str_get' (k := i) hiS))) rfl ?_
                refine o_on 68 _ rfl rfl hg18 ?_
                refine o_p (p_pure rfl) rfl ?_
                refine o_on 68 _ rfl rfl hg18 ?_
                refine o_p (p_neq_bool rfl rfl rfl Tryd.underlying4) rfl ?_
                refine o_p (p_pickf rfl rfl hg18 rfl) rfl ?_
                refine o_nil ?_
                exact s_joinN 8 76 _ rfl rfl rfl (fun w h => by first | exact h | exact h.ent aEt))
              (by
                intro hg20
                have hs21 := hg20; try simp only [decide_eq_true_eq, decide_eq_false_iff_not, Bool.not_eq_true', Bool.not_eq_false', Bool.and_eq_true, Bool.or_eq_true, Bool.and_eq_false_iff, Bool.or_eq_false_iff, Bool.not_true, Bool.not_false] at hs21
                refine o_off 68 _ rfl rfl hg20 rfl ?_
                refine o_off 68 _ rfl rfl hg20 rfl ?_
                refine o_off 68 _ rfl rfl hg20 rfl ?_
                refine o_off 68 _ rfl rfl hg20 rfl ?_
                refine o_off 68 _ rfl rfl hg20 rfl ?_
                refine o_off 68 _ rfl rfl hg20 rfl ?_
                refine o_off 68 _ rfl rfl hg20 rfl ?_
                refine o_p (p_pickt rfl rfl hg20 rfl) rfl ?_
                refine o_nil ?_
                exact s_joinN 8 76 _ rfl rfl rfl (fun w h => by first | exact h | exact h.ent aEt)) ?_
            refine o_nil ?_
            refine s_cond rfl (fun h22 => ?_) (fun h22 => ?_)
            · try simp only [decide_eq_true_eq, decide_eq_false_iff_not, Bool.not_eq_true', Bool.not_eq_false', Bool.and_eq_true, Bool.or_eq_true, Bool.and_eq_false_iff, Bool.or_eq_false_iff, Bool.not_true, Bool.not_false] at h22
              exfalso; have hq := h22; by_cases hA : shortS (up stdT (l.getD i [])) = true; (have h8 := hal.1 hA; rw [hA, h8] at hq; simp at hq); (have h7 : ¬ S.getD i [] = [] := (by obtain ⟨⟨hz9, m, hm1, hm2, hm3⟩, hnk, hnj⟩ := hal.2 hA; rw [hm3]; exact cand_ne); rw [Bool.not_eq_true] at hA; rw [hA] at hq; generalize S.getD i [] = XX at hq h7; simp [h7] at hq)
            · try simp only [decide_eq_true_eq, decide_eq_false_iff_not, Bool.not_eq_true', Bool.not_eq_false', Bool.and_eq_true, Bool.or_eq_true, Bool.and_eq_false_iff, Bool.or_eq_false_iff, Bool.not_true, Bool.not_false] at h22
              refine s_skip ?_
              refine s_seq ?_
              refine s_seq ?_
              refine s_region ?_
              refine o_p (p_pure rfl) rfl ?_
              refine o_p (p_pure rfl) rfl ?_
              refine o_nil ?_
              refine s_cond rfl (fun h23 => ?_) (fun h23 => ?_)
              · try simp only [decide_eq_true_eq, decide_eq_false_iff_not, Bool.not_eq_true', Bool.not_eq_false', Bool.and_eq_true, Bool.or_eq_true, Bool.and_eq_false_iff, Bool.or_eq_false_iff, Bool.not_true, Bool.not_false] at h23
                have hsi : shortS (up stdT (l.getD i [])) = true := by have hq := h23; simpa using hq
                refine s_exit_to rfl ?_
                refine s_region ?_
                refine o_p (p_pure rfl) rfl ?_
                refine o_p (p_pure rfl) rfl ?_
                try (refine o_slot (i64w (by omega) (by omega)) ?_)
                refine o_p (p_pure rfl) rfl ?_
                refine o_nil ?_
                exact s_backI (i + 1) (by omega) (by omega) aSx (fun w h => h.ent aEt)
              · try simp only [decide_eq_true_eq, decide_eq_false_iff_not, Bool.not_eq_true', Bool.not_eq_false', Bool.and_eq_true, Bool.or_eq_true, Bool.and_eq_false_iff, Bool.or_eq_false_iff, Bool.not_true, Bool.not_false] at h23
                have hsi : ¬ shortS (up stdT (l.getD i [])) = true := by have hq := h23; simpa using hq
                obtain ⟨⟨hz9, m, hm1, hm2, hm3⟩, hnk, hnj⟩ := hal.2 hsi
                have hno : nameE (S.getD i []) = 0 := by rw [hm3]; exact cand_name hz9 hm2
                have hsh : shortS (S.getD i []) = true := by rw [hm3]; exact cand_short hz9 hm2
                have hfx : up stdT (S.getD i []) = (S.getD i []) := by rw [hm3]; exact up_fix cand_byte
                have hne9 : ¬ (S.getD i []) = [] := by rw [hm3]; exact cand_ne
                refine s_skip ?_
                refine s_seq ?_
                refine s_region ?_
                refine o_p (p_pure rfl) rfl ?_
                refine o_p (p_pure rfl) rfl ?_
                refine o_p (p_pure rfl) rfl ?_
                refine o_p (p_indexAddr rfl rfl rfl sl_29 (i) (by omega) (by omega) hsm) rfl ?_
                refine o_q (q_load_at rfl rfl sz_9 (fun w h => (h.vl_own (a := ga.1) aPk).rd (str_get' (k := i) hiS))) rfl ?_
                refine o_q (q_call rfl fn_24 rfl (fun w1 h1 => m24 w1 stdT (S.getD i []) (by rw [stdT_len]; decide) hct hno (b := true) (by rw [hfx]; exact hsh))) rfl ?_
                refine o_p (p_pure rfl) rfl ?_
                refine o_p (p_pure rfl) rfl ?_
                refine o_p (p_pure rfl) rfl ?_
                refine o_p (p_pure rfl) rfl ?_
                refine o_p (p_pure rfl) rfl ?_
                refine o_nil ?_
                refine s_seq ?_
                refine s_seq ?_
                refine s_weaken (L' := [(0, _), (3, _), (4, _), (6, _), (9, _), (10, _)]) aSx (fun _ h => h) ?_
                refine s_region ?_
                refine o_p (p_pure rfl) rfl ?_
                refine o_p (p_pure rfl) rfl ?_
                refine o_p (p_indexAddr rfl rfl rfl sl_29 (i) (by omega) (by omega) hsm) rfl ?_
                refine o_q (q_load_at rfl rfl sz_9 (fun w h => (h.vl_own (a := ga.1) aPk).rd (str_get' (k := i) hiS))) rfl ?_
                refine o_q (q_call rfl fn_22 rfl (fun w1 h1 => m22 w1 (S.getD i []) hno hsh)) rfl ?_
                refine o_p (p_pure rfl) rfl ?_
                refine o_p (p_pure rfl) rfl ?_
                refine o_or 7 94 101 _ _ rfl
                  (by
                    intro hg24
                    have hs25 := hg24; try simp only [decide_eq_true_eq, decide_eq_false_iff_not, Bool.not_eq_true', Bool.not_eq_false', Bool.and_eq_true, Bool.or_eq_true, Bool.and_eq_false_iff, Bool.or_eq_false_iff, Bool.not_true, Bool.not_false] at hs25
                    refine o_on 94 _ rfl rfl hg24 ?_
                    refine o_p (p_pure rfl) rfl ?_
                    refine o_on 94 _ rfl rfl hg24 ?_
                    refine o_p (p_pure rfl) rfl ?_
                    refine o_on 94 _ rfl rfl hg24 ?_
                    refine o_p (p_indexAddr rfl rfl rfl sl_29 (i) (by omega) (by omega) hsm) rfl ?_
                    refine o_on 94 _ rfl rfl hg24 ?_
                    refine o_q (q_load_at rfl rfl sz_9 (fun w h => (h.vl_own (a := ga.1) aPk).rd (str_get' (k := i) hiS))) rfl ?_
                    refine o_on 94 _ rfl rfl hg24 ?_
                    refine o_q (q_call rfl fn_36 rfl (fun w1 h1 => m36 w1 (S.getD i []) hno)) rfl ?_
                    refine o_on 94 _ rfl rfl hg24 ?_
                    refine o_p (p_pure rfl) rfl ?_
                    refine o_p (p_pickf rfl rfl hg24 rfl) rfl ?_
                    refine o_nil ?_
                    exact s_joinN 7 101 _ rfl rfl rfl (fun w h => by first | exact h | exact h.ent aEt))
                  (by
                    intro hg26
                    have hs27 := hg26; try simp only [decide_eq_true_eq, decide_eq_false_iff_not, Bool.not_eq_true', Bool.not_eq_false', Bool.and_eq_true, Bool.or_eq_true, Bool.and_eq_false_iff, Bool.or_eq_false_iff, Bool.not_true, Bool.not_false] at hs27
                    refine o_off 94 _ rfl rfl hg26 rfl ?_
                    refine o_off 94 _ rfl rfl hg26 rfl ?_
                    refine o_off 94 _ rfl rfl hg26 rfl ?_
                    refine o_off 94 _ rfl rfl hg26 rfl ?_
                    refine o_off 94 _ rfl rfl hg26 rfl ?_
                    refine o_off 94 _ rfl rfl hg26 rfl ?_
                    refine o_p (p_pickt rfl rfl hg26 rfl) rfl ?_
                    refine o_nil ?_
                    exact s_joinN 7 101 _ rfl rfl rfl (fun w h => by first | exact h | exact h.ent aEt)) ?_
                refine o_p (p_pure rfl) rfl ?_
                refine o_or 3 102 105 _ _ rfl
                  (by
                    intro hg28
                    have hs29 := hg28; try simp only [decide_eq_true_eq, decide_eq_false_iff_not, Bool.not_eq_true', Bool.not_eq_false', Bool.and_eq_true, Bool.or_eq_true, Bool.and_eq_false_iff, Bool.or_eq_false_iff, Bool.not_true, Bool.not_false] at hs29
                    refine o_on 102 _ rfl rfl hg28 ?_
                    refine o_p (p_pure rfl) rfl ?_
                    refine o_on 102 _ rfl rfl hg28 ?_
                    refine o_p (p_pure rfl) rfl ?_
                    refine o_p (p_pickf rfl rfl hg28 rfl) rfl ?_
                    refine o_nil ?_
                    exact s_joinN 3 105 _ rfl rfl rfl (fun w h => by first | exact h | exact h.ent aEt))
                  (by
                    intro hg30
                    have hs31 := hg30; try simp only [decide_eq_true_eq, decide_eq_false_iff_not, Bool.not_eq_true', Bool.not_eq_false', Bool.and_eq_true, Bool.or_eq_true, Bool.and_eq_false_iff, Bool.or_eq_false_iff, Bool.not_true, Bool.not_false] at hs31
                    refine o_off 102 _ rfl rfl hg30 rfl ?_
                    refine o_off 102 _ rfl rfl hg30 rfl ?_
                    refine o_p (p_pickt rfl rfl hg30 rfl) rfl ?_
                    refine o_nil ?_
                    exact s_joinN 3 105 _ rfl rfl rfl (fun w h => by first | exact h | exact h.ent aEt)) ?_
                refine o_p (p_pure rfl) rfl ?_
                refine o_or 2 106 108 _ _ rfl
                  (by
                    intro hg32
                    have hs33 := hg32; try simp only [decide_eq_true_eq, decide_eq_false_iff_not, Bool.not_eq_true', Bool.not_eq_false', Bool.and_eq_true, Bool.or_eq_true, Bool.and_eq_false_iff, Bool.or_eq_false_iff, Bool.not_true, Bool.not_false] at hs33
                    refine o_on 106 _ rfl rfl hg32 ?_
                    refine o_p (p_pure rfl) rfl ?_
                    refine o_p (p_pickf rfl rfl hg32 rfl) rfl ?_
                    refine o_nil ?_
                    exact s_joinN 2 108 _ rfl rfl rfl (fun w h => by first | exact h | exact h.ent aEt))
                  (by
                    intro hg34
                    have hs35 := hg34; try simp only [decide_eq_true_eq, decide_eq_false_iff_not, Bool.not_eq_true', Bool.not_eq_false', Bool.and_eq_true, Bool.or_eq_true, Bool.and_eq_false_iff, Bool.or_eq_false_iff, Bool.not_true, Bool.not_false] at hs35
                    refine o_off 106 _ rfl rfl hg34 rfl ?_
                    refine o_p (p_pickt rfl rfl hg34 rfl) rfl ?_
                    refine o_nil ?_
                    exact s_joinN 2 108 _ rfl rfl rfl (fun w h => by first | exact h | exact h.ent aEt)) ?_
                refine o_nil ?_
                refine s_cond rfl (fun h36 => ?_) (fun h36 => ?_)
                · try simp only [decide_eq_true_eq, decide_eq_false_iff_not, Bool.not_eq_true', Bool.not_eq_false', Bool.and_eq_true, Bool.or_eq_true, Bool.and_eq_false_iff, Bool.or_eq_false_iff, Bool.not_true, Bool.not_false] at h36
                  exfalso; simp at h36
                · try simp only [decide_eq_true_eq, decide_eq_false_iff_not, Bool.not_eq_true', Bool.not_eq_false', Bool.and_eq_true, Bool.or_eq_true, Bool.and_eq_false_iff, Bool.or_eq_false_iff, Bool.not_true, Bool.not_false] at h36
                  refine s_skip ?_
                  refine s_seq ?_
                  refine s_region ?_
                  refine o_p (p_pure rfl) rfl ?_
                  refine o_nil ?_
                  refine s_block ?_
                  refine s_weaken (L' := [(0, _), (3, _), (4, _), (6, _), (11, _)]) aSx (fun _ h => h) ?_
                  refine s_loopI (α := Nat) [2, 11, 12, 13, 109, 110, 111, 112, 113, 114, 115, 116, 117, 118, 119, 120, 121, 122, 123, 124, 125, 126, 127, 128, 129, 130, 131, 132, 133, 134, 135, 136, 137, 138, 139, 140, 141, 142, 143, 144, 145, 146, 147, 148] (fun k => [(11, .int .i64 (k : Int))]) (fun _ => HS w [] [.own (.slice ga.1 S.length ga.2) 9 1 S.length (S.map strV)]) (fun k => k ≤ l.length) (fun k => l.length - k) 0 (Nat.zero_le _) aSx (fun w h => h.ent aEt) (fun k hk1 => ?_)
                  refine s_seq ?_
                  refine s_seq ?_
                  refine s_region ?_
                  refine o_p (p_pure rfl) rfl ?_
                  refine o_p (p_pure rfl) rfl ?_
                  refine o_p (p_len_slice rfl rfl Tryd.underlying29) rfl ?_
                  refine o_p (p_pure rfl) rfl ?_
                  refine o_nil ?_
                  refine s_cond rfl (fun h37 => ?_) (fun h37 => ?_)
                  · try simp only [decide_eq_true_eq, decide_eq_false_iff_not, Bool.not_eq_true', Bool.not_eq_false', Bool.and_eq_true, Bool.or_eq_true, Bool.and_eq_false_iff, Bool.or_eq_false_iff, Bool.not_true, Bool.not_false] at h37
                    have hk : k < l.length := by omega
                    have hkS : k < S.length := by omega
                    have hsm9 : sameU stdT (S.getD i []) (l.getD k []) = false := by unfold sameU; exact decide_eq_false (fun e => hnk (List.mem_map.2 ⟨_, getD_mem hk, e.symm⟩))
                    have hal2 := hSg k hk
                    have hdif : ¬ k = i → ¬ S.getD k [] = (S.getD i []) := alone_ne hal hal2 hsi hne9
                    refine s_skip ?_
                    refine s_seq ?_
                    refine s_block ?_
                    refine s_seq ?_
                    refine s_draw [] mixed ?_
                    refine d_p 0 rfl (p_pure rfl) (by kernel_rfl) rfl rfl ?_
                    refine d_p 1 rfl (p_pure rfl) (by kernel_rfl) rfl rfl ?_
                    refine d_p 2 rfl (p_pure rfl) (by kernel_rfl) rfl rfl ?_
                    refine d_p 3 rfl (p_indexAddr rfl rfl rfl sl_29 (i) (by omega) (by omega) hsm) (by kernel_rfl) rfl rfl ?_
                    refine d_q 4 [] rfl (q_load_at rfl rfl sz_9 (fun w h => (h.vl_own (a := ga.1) aPk).rd (str_get' (k := i) hiS))) (by kernel_rfl) (by kernel_rfl) (by kernel_rfl) rfl ?_
                    refine d_p 5 rfl (p_pure rfl) (by kernel_rfl) rfl rfl ?_
                    refine d_p 6 rfl (p_pure rfl) (by kernel_rfl) rfl rfl ?_
                    refine d_p 7 rfl (p_indexAddr rfl rfl rfl sl_29 (k) (by omega) (by omega) (hs.some (by rw [List.length_map]; omega))) (by kernel_rfl) rfl rfl ?_
                    refine d_q 8 [] rfl (q_load_old rfl rfl sz_9 ((hs.rd (str_get' (k := k) hk)))) (by kernel_rfl) (by kernel_rfl) (by kernel_rfl) rfl ?_
                    refine d_q 9 [] rfl (q_call rfl fn_40 rfl (fun w1 h1 => m40f w1 stdT (S.getD i []) (l.getD k []) (by rw [stdT_len]; decide) hct hno (hf.1 _ (getD_mem hk)) hsm9)) (by kernel_rfl) (by kernel_rfl) (by kernel_rfl) rfl ?_
                    refine d_p 10 rfl (p_pure rfl) (by kernel_rfl) rfl rfl ?_
                    refine d_p 11 rfl (p_pure rfl) (by kernel_rfl) rfl rfl ?_
                    refine d_p 12 rfl (p_pure rfl) (by kernel_rfl) rfl rfl ?_
                    refine d_p 13 rfl (p_pure rfl) (by kernel_rfl) rfl rfl ?_
                    refine d_p 14 rfl (p_pure rfl) (by kernel_rfl) rfl rfl ?_
                    refine d_nil (by kernel_rfl) (fun w h => h.ent aEt) ?_
                    refine s_seq ?_
                    refine s_draw [] mixed ?_
                    refine d_p 0 rfl (p_pure rfl) (by kernel_rfl) rfl rfl ?_
                    refine d_p 1 rfl (p_pure rfl) (by kernel_rfl) rfl rfl ?_
                    refine d_p 2 rfl (p_pure rfl) (by kernel_rfl) rfl rfl ?_
                    apply d_split 130
                    · exact rfl
                    · intro hg38
                      have hs39 := hg38; try simp only [decide_eq_true_eq, decide_eq_false_iff_not, Bool.not_eq_true', Bool.not_eq_false', Bool.and_eq_true, Bool.or_eq_true, Bool.and_eq_false_iff, Bool.or_eq_false_iff, Bool.not_true, Bool.not_false] at hs39
                      refine d_off 3 130 rfl rfl rfl hg38 (by kernel_rfl) rfl rfl ?_
                      refine d_p 4 rfl (p_pickt rfl rfl hg38 rfl) (by kernel_rfl) rfl rfl ?_
                      refine d_p 5 rfl (p_pure rfl) (by kernel_rfl) rfl rfl ?_
                      apply d_split 133
                      · exact rfl
                      · intro hg40
                        have hs41 := hg40; try simp only [decide_eq_true_eq, decide_eq_false_iff_not, Bool.not_eq_true', Bool.not_eq_false', Bool.and_eq_true, Bool.or_eq_true, Bool.and_eq_false_iff, Bool.or_eq_false_iff, Bool.not_true, Bool.not_false] at hs41
                        refine d_off 6 133 rfl rfl rfl hg40 (by kernel_rfl) rfl rfl ?_
                        refine d_off 7 133 rfl rfl rfl hg40 (by kernel_rfl) rfl rfl ?_
                        refine d_off 8 133 rfl rfl rfl hg40 (by kernel_rfl) rfl rfl ?_
                        refine d_off 9 133 rfl rfl rfl hg40 (by kernel_rfl) rfl rfl ?_
                        refine d_offU 10 137 rfl rfl rfl (by kernel_rfl) rfl rfl ?_
                        refine d_offU 11 137 rfl rfl rfl (by kernel_rfl) rfl rfl ?_
                        refine d_offU 12 137 rfl rfl rfl (by kernel_rfl) rfl rfl ?_
                        refine d_offU 13 137 rfl rfl rfl (by kernel_rfl) rfl rfl ?_
                        refine d_offU 14 137 rfl rfl rfl (by kernel_rfl) rfl rfl ?_
                        refine d_offU 15 137 rfl rfl rfl (by kernel_rfl) rfl rfl ?_
                        refine d_offU 16 137 rfl rfl rfl (by kernel_rfl) rfl rfl ?_
                        refine d_offU 17 137 rfl rfl rfl (by kernel_rfl) rfl rfl ?_
                        refine d_offU 18 137 rfl rfl rfl (by kernel_rfl) rfl rfl ?_
                        refine d_off 19 133 rfl rfl rfl hg40 (by kernel_rfl) rfl rfl ?_
                        refine d_p 20 rfl (p_pickt rfl rfl hg40 rfl) (by kernel_rfl) rfl rfl ?_
                        refine d_nil (by kernel_rfl) (fun w h => h.ent aEt) ?_
                        refine s_cond rfl (fun h42 => ?_) (fun h42 => ?_)
                        · try simp only [decide_eq_true_eq, decide_eq_false_iff_not, Bool.not_eq_true', Bool.not_eq_false', Bool.and_eq_true, Bool.or_eq_true, Bool.and_eq_false_iff, Bool.or_eq_false_iff, Bool.not_true, Bool.not_false] at h42
                          exfalso; simp_all
                        · try simp only [decide_eq_true_eq, decide_eq_false_iff_not, Bool.not_eq_true', Bool.not_eq_false', Bool.and_eq_true, Bool.or_eq_true, Bool.and_eq_false_iff, Bool.or_eq_false_iff, Bool.not_true, Bool.not_false] at h42
                          refine s_skip ?_
                          refine s_blk ?_
                          refine s_weaken (L' := [(0, _), (3, _), (4, _), (6, _), (11, _)]) aSx (fun _ h => h) ?_
                          refine s_region ?_
                          refine o_p (p_pure rfl) rfl ?_
                          refine o_p (p_pure rfl) rfl ?_
                          try (refine o_slot (i64w (by omega) (by omega)) ?_)
                          refine o_p (p_pure rfl) rfl ?_
                          refine o_nil ?_
                          exact s_backI (k + 1) (by omega) (by omega) aSx (fun w h => h.ent aEt)
                      · intro hg43
                        have hs44 := hg43; try simp only [decide_eq_true_eq, decide_eq_false_iff_not, Bool.not_eq_true', Bool.not_eq_false', Bool.and_eq_true, Bool.or_eq_true, Bool.and_eq_false_iff, Bool.or_eq_false_iff, Bool.not_true, Bool.not_false] at hs44
                        refine d_pon 6 133 rfl rfl rfl hg43 (p_pure rfl) (by kernel_rfl) rfl rfl ?_
                        refine d_pon 7 133 rfl rfl rfl hg43 (p_pure rfl) (by kernel_rfl) rfl rfl ?_
                        refine d_pon 8 133 rfl rfl rfl hg43 (p_pure rfl) (by kernel_rfl) rfl rfl ?_
                        refine d_pon 9 133 rfl rfl rfl hg43 (p_pure rfl) (by kernel_rfl) rfl rfl ?_
                        apply d_split 137
                        · exact rfl
                        · intro hg45
                          have hs46 := hg45; try simp only [decide_eq_true_eq, decide_eq_false_iff_not, Bool.not_eq_true', Bool.not_eq_false', Bool.and_eq_true, Bool.or_eq_true, Bool.and_eq_false_iff, Bool.or_eq_false_iff, Bool.not_true, Bool.not_false] at hs46
                          refine d_pon 10 137 rfl rfl rfl hg45 (p_pure rfl) (by kernel_rfl) rfl rfl ?_
                          refine d_pon 11 137 rfl rfl rfl hg45 (p_pure rfl) (by kernel_rfl) rfl rfl ?_
                          refine d_pon 12 137 rfl rfl rfl hg45 (p_indexAddr rfl rfl rfl sl_29 (k) (by omega) (by omega) hsm) (by kernel_rfl) rfl rfl ?_
                          refine d_qon 13 137 [] rfl rfl rfl hg45 (q_load_at rfl rfl sz_9 (fun w h => (h.vl_own (a := ga.1) aPk).rd (str_get' (k := k) hkS))) (by kernel_rfl) (by kernel_rfl) (by kernel_rfl) rfl ?_
                          refine d_pon 14 137 rfl rfl rfl hg45 (p_pure rfl) (by kernel_rfl) rfl rfl ?_
                          refine d_pon 15 137 rfl rfl rfl hg45 (p_pure rfl) (by kernel_rfl) rfl rfl ?_
                          refine d_pon 16 137 rfl rfl rfl hg45 (p_indexAddr rfl rfl rfl sl_29 (i) (by omega) (by omega) hsm) (by kernel_rfl) rfl rfl ?_
                          refine d_qon 17 137 [] rfl rfl rfl hg45 (q_load_at rfl rfl sz_9 (fun w h => (h.vl_own (a := ga.1) aPk).rd (str_get' (k := i) hiS))) (by kernel_rfl) (by kernel_rfl) (by kernel_rfl) rfl ?_
                          refine d_pon 18 137 rfl rfl rfl hg45 (p_pure rfl) (by kernel_rfl) rfl rfl ?_
                          refine d_pon 19 133 rfl rfl rfl hg43 (p_pickt rfl rfl hg45 rfl) (by kernel_rfl) rfl rfl ?_
                          refine d_p 20 rfl (p_pickf rfl rfl hg43 rfl) (by kernel_rfl) rfl rfl ?_
                          refine d_nil (by kernel_rfl) (fun w h => h.ent aEt) ?_
                          refine s_cond rfl (fun h47 => ?_) (fun h47 => ?_)
                          · try simp only [decide_eq_true_eq, decide_eq_false_iff_not, Bool.not_eq_true', Bool.not_eq_false', Bool.and_eq_true, Bool.or_eq_true, Bool.and_eq_false_iff, Bool.or_eq_false_iff, Bool.not_true, Bool.not_false] at h47
                            exfalso; simp_all
                          · try simp only [decide_eq_true_eq, decide_eq_false_iff_not, Bool.not_eq_true', Bool.not_eq_false', Bool.and_eq_true, Bool.or_eq_true, Bool.and_eq_false_iff, Bool.or_eq_false_iff, Bool.not_true, Bool.not_false] at h47
                            refine s_skip ?_
                            refine s_blk ?_
                            refine s_weaken (L' := [(0, _), (3, _), (4, _), (6, _), (11, _)]) aSx (fun _ h => h) ?_
                            refine s_region ?_
                            refine o_p (p_pure rfl) rfl ?_
                            refine o_p (p_pure rfl) rfl ?_
                            try (refine o_slot (i64w (by omega) (by omega)) ?_)
                            refine o_p (p_pure rfl) rfl ?_
                            refine o_nil ?_
                            exact s_backI (k + 1) (by omega) (by omega) aSx (fun w h => h.ent aEt)
                        · intro hg48
                          have hs49 := hg48; try simp only [decide_eq_true_eq, decide_eq_false_iff_not, Bool.not_eq_true', Bool.not_eq_false', Bool.and_eq_true, Bool.or_eq_true, Bool.and_eq_false_iff, Bool.or_eq_false_iff, Bool.not_true, Bool.not_false] at hs49
                          refine d_off 10 137 rfl rfl rfl hg48 (by kernel_rfl) rfl rfl ?_
                          refine d_off 11 137 rfl rfl rfl hg48 (by kernel_rfl) rfl rfl ?_
                          refine d_off 12 137 rfl rfl rfl hg48 (by kernel_rfl) rfl rfl ?_
                          refine d_off 13 137 rfl rfl rfl hg48 (by kernel_rfl) rfl rfl ?_
                          refine d_off 14 137 rfl rfl rfl hg48 (by kernel_rfl) rfl rfl ?_
                          refine d_off 15 137 rfl rfl rfl hg48 (by kernel_rfl) rfl rfl ?_
                          refine d_off 16 137 rfl rfl rfl hg48 (by kernel_rfl) rfl rfl ?_
                          refine d_off 17 137 rfl rfl rfl hg48 (by kernel_rfl) rfl rfl ?_
                          refine d_off 18 137 rfl rfl rfl hg48 (by kernel_rfl) rfl rfl ?_
                          refine d_pon 19 133 rfl rfl rfl hg43 (p_pickf rfl rfl hg48 rfl) (by kernel_rfl) rfl rfl ?_
                          refine d_p 20 rfl (p_pickf rfl rfl hg43 rfl) (by kernel_rfl) rfl rfl ?_
                          refine d_nil (by kernel_rfl) (fun w h => h.ent aEt) ?_
                          refine s_cond rfl (fun h50 => ?_) (fun h50 => ?_)
                          · try simp only [decide_eq_true_eq, decide_eq_false_iff_not, Bool.not_eq_true', Bool.not_eq_false', Bool.and_eq_true, Bool.or_eq_true, Bool.and_eq_false_iff, Bool.or_eq_false_iff, Bool.not_true, Bool.not_false] at h50
                            exfalso; simp_all
                          · try simp only [decide_eq_true_eq, decide_eq_false_iff_not, Bool.not_eq_true', Bool.not_eq_false', Bool.and_eq_true, Bool.or_eq_true, Bool.and_eq_false_iff, Bool.or_eq_false_iff, Bool.not_true, Bool.not_false] at h50
                            refine s_skip ?_
                            refine s_blk ?_
                            refine s_weaken (L' := [(0, _), (3, _), (4, _), (6, _), (11, _)]) aSx (fun _ h => h) ?_
                            refine s_region ?_
                            refine o_p (p_pure rfl) rfl ?_
                            refine o_p (p_pure rfl) rfl ?_
                            try (refine o_slot (i64w (by omega) (by omega)) ?_)
                            refine o_p (p_pure rfl) rfl ?_
                            refine o_nil ?_
                            exact s_backI (k + 1) (by omega) (by omega) aSx (fun w h => h.ent aEt)
                    · intro hg51
                      have hs52 := hg51; try simp only [decide_eq_true_eq, decide_eq_false_iff_not, Bool.not_eq_true', Bool.not_eq_false', Bool.and_eq_true, Bool.or_eq_true, Bool.and_eq_false_iff, Bool.or_eq_false_iff, Bool.not_true, Bool.not_false] at hs52
                      refine d_pon 3 130 rfl rfl rfl hg51 (p_pure rfl) (by kernel_rfl) rfl rfl ?_
                      refine d_p 4 rfl (p_pickf rfl rfl hg51 rfl) (by kernel_rfl) rfl rfl ?_
                      refine d_p 5 rfl (p_pure rfl) (by kernel_rfl) rfl rfl ?_
                      apply d_split 133
                      · exact rfl
                      · intro hg53
                        have hs54 := hg53; try simp only [decide_eq_true_eq, decide_eq_false_iff_not, Bool.not_eq_true', Bool.not_eq_false', Bool.and_eq_true, Bool.or_eq_true, Bool.and_eq_false_iff, Bool.or_eq_false_iff, Bool.not_true, Bool.not_false] at hs54
                        refine d_off 6 133 rfl rfl rfl hg53 (by kernel_rfl) rfl rfl ?_
                        refine d_off 7 133 rfl rfl rfl hg53 (by kernel_rfl) rfl rfl ?_
                        refine d_off 8 133 rfl rfl rfl hg53 (by kernel_rfl) rfl rfl ?_
                        refine d_off 9 133 rfl rfl rfl hg53 (by kernel_rfl) rfl rfl ?_
                        refine d_offU 10 137 rfl rfl rfl (by kernel_rfl) rfl rfl ?_
                        refine d_offU 11 137 rfl rfl rfl (by kernel_rfl) rfl rfl ?_
                        refine d_offU 12 137 rfl rfl rfl (by kernel_rfl) rfl rfl ?_
                        refine d_offU 13 137 rfl rfl rfl (by kernel_rfl) rfl rfl ?_
                        refine d_offU 14 137 rfl rfl rfl (by kernel_rfl) rfl rfl ?_
                        refine d_offU 15 137 rfl rfl rfl (by kernel_rfl) rfl rfl ?_
                        refine d_offU 16 137 rfl rfl rfl (by kernel_rfl) rfl rfl ?_
                        refine d_offU 17 137 rfl rfl rfl (by kernel_rfl) rfl rfl ?_
                        refine d_offU 18 137 rfl rfl rfl (by kernel_rfl) rfl rfl ?_
                        refine d_off 19 133 rfl rfl rfl hg53 (by kernel_rfl) rfl rfl ?_
                        refine d_p 20 rfl (p_pickt rfl rfl hg53 rfl) (by kernel_rfl) rfl rfl ?_
                        refine d_nil (by kernel_rfl) (fun w h => h.ent aEt) ?_
                        refine s_cond rfl (fun h55 => ?_) (fun h55 => ?_)
                        · try simp only [decide_eq_true_eq, decide_eq_false_iff_not, Bool.not_eq_true', Bool.not_eq_false', Bool.and_eq_true, Bool.or_eq_true, Bool.and_eq_false_iff, Bool.or_eq_false_iff, Bool.not_true, Bool.not_false] at h55
                          exfalso; simp_all
                        · try simp only [decide_eq_true_eq, decide_eq_false_iff_not, Bool.not_eq_true', Bool.not_eq_false', Bool.and_eq_true, Bool.or_eq_true, Bool.and_eq_false_iff, Bool.or_eq_false_iff, Bool.not_true, Bool.not_false] at h55
                          refine s_skip ?_
                          refine s_blk ?_
                          refine s_weaken (L' := [(0, _), (3, _), (4, _), (6, _), (11, _)]) aSx (fun _ h => h) ?_
                          refine s_region ?_
                          refine o_p (p_pure rfl) rfl ?_
                          refine o_p (p_pure rfl) rfl ?_
                          try (refine o_slot (i64w (by omega) (by omega)) ?_)
                          refine o_p (p_pure rfl) rfl ?_
                          refine o_nil ?_
                          exact s_backI (k + 1) (by omega) (by omega) aSx (fun w h => h.ent aEt)
                      · intro hg56
                        have hs57 := hg56; try simp only [decide_eq_true_eq, decide_eq_false_iff_not, Bool.not_eq_true', Bool.not_eq_false', Bool.and_eq_true, Bool.or_eq_true, Bool.and_eq_false_iff, Bool.or_eq_false_iff, Bool.not_true, Bool.not_false] at hs57
                        refine d_pon 6 133 rfl rfl rfl hg56 (p_pure rfl) (by kernel_rfl) rfl rfl ?_
                        refine d_pon 7 133 rfl rfl rfl hg56 (p_pure rfl) (by kernel_rfl) rfl rfl ?_
                        refine d_pon 8 133 rfl rfl rfl hg56 (p_pure rfl) (by kernel_rfl) rfl rfl ?_
                        refine d_pon 9 133 rfl rfl rfl hg56 (p_pure rfl) (by kernel_rfl) rfl rfl ?_
                        apply d_split 137
                        · exact rfl
                        · intro hg58
                          have hs59 := hg58; try simp only [decide_eq_true_eq, decide_eq_false_iff_not, Bool.not_eq_true', Bool.not_eq_false', Bool.and_eq_true, Bool.or_eq_true, Bool.and_eq_false_iff, Bool.or_eq_false_iff, Bool.not_true, Bool.not_false] at hs59
                          refine d_pon 10 137 rfl rfl rfl hg58 (p_pure rfl) (by kernel_rfl) rfl rfl ?_
                          refine d_pon 11 137 rfl rfl rfl hg58 (p_pure rfl) (by kernel_rfl) rfl rfl ?_
                          refine d_pon 12 137 rfl rfl rfl hg58 (p_indexAddr rfl rfl rfl sl_29 (k) (by omega) (by omega) hsm) (by kernel_rfl) rfl rfl ?_
                          refine d_qon 13 137 [] rfl rfl rfl hg58 (q_load_at rfl rfl sz_9 (fun w h => (h.vl_own (a := ga.1) aPk).rd (str_get' (k := k) hkS))) (by kernel_rfl) (by kernel_rfl) (by kernel_rfl) rfl ?_
                          refine d_pon 14 137 rfl rfl rfl hg58 (p_pure rfl) (by kernel_rfl) rfl rfl ?_
                          refine d_pon 15 137 rfl rfl rfl hg58 (p_pure rfl) (by kernel_rfl) rfl rfl ?_
                          refine d_pon 16 137 rfl rfl rfl hg58 (p_indexAddr rfl rfl rfl sl_29 (i) (by omega) (by omega) hsm) (by kernel_rfl) rfl rfl ?_
                          refine d_qon 17 137 [] rfl rfl rfl hg58 (q_load_at rfl rfl sz_9 (fun w h => (h.vl_own (a := ga.1) aPk).rd (str_get' (k := i) hiS))) (by kernel_rfl) (by kernel_rfl) (by kernel_rfl) rfl ?_
                          refine d_pon 18 137 rfl rfl rfl hg58 (p_pure rfl) (by kernel_rfl) rfl rfl ?_
                          refine d_pon 19 133 rfl rfl rfl hg56 (p_pickt rfl rfl hg58 rfl) (by kernel_rfl) rfl rfl ?_
                          refine d_p 20 rfl (p_pickf rfl rfl hg56 rfl) (by kernel_rfl) rfl rfl ?_
                          refine d_nil (by kernel_rfl) (fun w h => h.ent aEt) ?_
                          refine s_cond rfl (fun h60 => ?_) (fun h60 => ?_)
                          · try simp only [decide_eq_true_eq, decide_eq_false_iff_not, Bool.not_eq_true', Bool.not_eq_false', Bool.and_eq_true, Bool.or_eq_true, Bool.and_eq_false_iff, Bool.or_eq_false_iff, Bool.not_true, Bool.not_false] at h60
                            exfalso; simp_all
                          · try simp only [decide_eq_true_eq, decide_eq_false_iff_not, Bool.not_eq_true', Bool.not_eq_false', Bool.and_eq_true, Bool.or_eq_true, Bool.and_eq_false_iff, Bool.or_eq_false_iff, Bool.not_true, Bool.not_false] at h60
                            refine s_skip ?_
                            refine s_blk ?_
                            refine s_weaken (L' := [(0, _), (3, _), (4, _), (6, _), (11, _)]) aSx (fun _ h => h) ?_
                            refine s_region ?_
                            refine o_p (p_pure rfl) rfl ?_
                            refine o_p (p_pure rfl) rfl ?_
                            try (refine o_slot (i64w (by omega) (by omega)) ?_)
                            refine o_p (p_pure rfl) rfl ?_
                            refine o_nil ?_
                            exact s_backI (k + 1) (by omega) (by omega) aSx (fun w h => h.ent aEt)
                        · intro hg61
                          have hs62 := hg61; try simp only [decide_eq_true_eq, decide_eq_false_iff_not, Bool.not_eq_true', Bool.not_eq_false', Bool.and_eq_true, Bool.or_eq_true, Bool.and_eq_false_iff, Bool.or_eq_false_iff, Bool.not_true, Bool.not_false] at hs62
                          refine d_off 10 137 rfl rfl rfl hg61 (by kernel_rfl) rfl rfl ?_
                          refine d_off 11 137 rfl rfl rfl hg61 (by kernel_rfl) rfl rfl ?_
                          refine d_off 12 137 rfl rfl rfl hg61 (by kernel_rfl) rfl rfl ?_
                          refine d_off 13 137 rfl rfl rfl hg61 (by kernel_rfl) rfl rfl ?_
                          refine d_off 14 137 rfl rfl rfl hg61 (by kernel_rfl) rfl rfl ?_
                          refine d_off 15 137 rfl rfl rfl hg61 (by kernel_rfl) rfl rfl ?_
                          refine d_off 16 137 rfl rfl rfl hg61 (by kernel_rfl) rfl rfl ?_
                          refine d_off 17 137 rfl rfl rfl hg61 (by kernel_rfl) rfl rfl ?_
                          refine d_off 18 137 rfl rfl rfl hg61 (by kernel_rfl) rfl rfl ?_
                          refine d_pon 19 133 rfl rfl rfl hg56 (p_pickf rfl rfl hg61 rfl) (by kernel_rfl) rfl rfl ?_
                          refine d_p 20 rfl (p_pickf rfl rfl hg56 rfl) (by kernel_rfl) rfl rfl ?_
                          refine d_nil (by kernel_rfl) (fun w h => h.ent aEt) ?_
                          refine s_cond rfl (fun h63 => ?_) (fun h63 => ?_)
                          · try simp only [decide_eq_true_eq, decide_eq_false_iff_not, Bool.not_eq_true', Bool.not_eq_false', Bool.and_eq_true, Bool.or_eq_true, Bool.and_eq_false_iff, Bool.or_eq_false_iff, Bool.not_true, Bool.not_false] at h63
                            exfalso; simp_all
                          · try simp only [decide_eq_true_eq, decide_eq_false_iff_not, Bool.not_eq_true', Bool.not_eq_false', Bool.and_eq_true, Bool.or_eq_true, Bool.and_eq_false_iff, Bool.or_eq_false_iff, Bool.not_true, Bool.not_false] at h63
                            refine s_skip ?_
                            refine s_blk ?_
                            refine s_weaken (L' := [(0, _), (3, _), (4, _), (6, _), (11, _)]) aSx (fun _ h => h) ?_
                            refine s_region ?_
                            refine o_p (p_pure rfl) rfl ?_
                            refine o_p (p_pure rfl) rfl ?_
                            try (refine o_slot (i64w (by omega) (by omega)) ?_)
                            refine o_p (p_pure rfl) rfl ?_
                            refine o_nil ?_
                            exact s_backI (k + 1) (by omega) (by omega) aSx (fun w h => h.ent aEt)
                  · try simp only [decide_eq_true_eq, decide_eq_false_iff_not, Bool.not_eq_true', Bool.not_eq_false', Bool.and_eq_true, Bool.or_eq_true, Bool.and_eq_false_iff, Bool.or_eq_false_iff, Bool.not_true, Bool.not_false] at h37
                    refine s_exit_to rfl ?_
                    refine s_blk ?_
                    refine s_region ?_
                    refine o_p (p_pure rfl) rfl ?_
                    refine o_p (p_pure rfl) rfl ?_
                    try (refine o_slot (i64w (by omega) (by omega)) ?_)
                    refine o_p (p_pure rfl) rfl ?_
                    refine o_nil ?_
                    exact s_backI (i + 1) (by omega) (by omega) aSx (fun w h => h.ent aEt)
          · try simp only [decide_eq_true_eq, decide_eq_false_iff_not, Bool.not_eq_true', Bool.not_eq_false', Bool.and_eq_true, Bool.or_eq_true, Bool.and_eq_false_iff, Bool.or_eq_false_iff, Bool.not_true, Bool.not_false] at h17
            refine s_exit_to rfl ?_
            refine s_seq ?_
            refine s_region ?_
            refine o_p (p_pure rfl) rfl ?_
            refine o_nil ?_
            exact s_retv (rs := [.tmp 2]) rfl (.tmp rfl (.nil)) (fun w' h' => ⟨by rfl, h'.below⟩)

end Go.Proofs

