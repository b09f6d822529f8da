/- Contracts of the program's functions, proved by walking them with the rules of the Gx texts; without conditions beyond those that each contract names. -/
import Derived.WalkKit
import Derived.Deep.Draws
import Derived.Lib.Strings
import Derived.Laws.BytesArg
import Derived.Laws.IdiomStrings
import Derived.Deep.Quiet
import Derived.ProofKit
import Derived.OpenShut
import Derived.Laws.StructEq
import Derived.ChangeKeysEq
import Derived.Laws.Externs
import Derived.Lib.Overlaps
import Derived.Carry
import Derived.Laws.Small
import Derived.Lib.Bytealg
import Derived.Shelf.Small.Strs
import Derived.Shelf.Strconv.Itoa0
import Derived.Shelf.Strconv.Itoa1
import Derived.Shelf.LaysM
import Derived.Shelf.Strconv.Itoa2
import Derived.Shelf.Strconv.Itoa3
import Derived.Shelf.Strings.Search1
import Derived.Shelf.Strings.Search2
import Derived.Shelf.Strings.Cut
import Derived.Shelf.Strings.Shaped
import Derived.Shelf.Strings.LastIndex
import Derived.Shelf.GgClosure.StringsIndexFunc
import Derived.Ground.GgwProg
import Derived.Shelf.GgClosure.StringsIndexFuncTop
import Derived.Shelf.Strings.Prefix
import Derived.Test.YtfahilpjifjafaaDoorProg
import Derived.KernelRfl
import Derived.Lib.LastIndexByte
import Derived.Lib.ItoaNum
import Derived.Lib.SmallJoins
import Derived.Lib.AppendIntMem
import Derived.Test.YtfahilpjifjafaaDoorTie
import Derived.Test.YtfahilpjifjafaaDoorCards
import Derived.SevenTiedAt
import Derived.LaidMore
import Derived.Stop.Joined
import Derived.Lib.LaidTab
import Derived.Test.YtfahilpjifjafaaDoorP1
namespace Go.Proofs
open Go Go.RowKit Gx
set_option linter.unusedVariables false
set_option linter.unusedSimpArgs false
attribute [local irreducible] Go.Calls Gx.S Gx.O Gx.D Gx.OpP Gx.OpQ Gx.OpH

theorem fn_57 : isFn Tryd.prog 57 = true := by kernel_rfl
theorem fn_58 : isFn Tryd.prog 58 = true := by kernel_rfl
theorem fn_23 : isFn Tryd.prog 23 = true := by kernel_rfl


theorem split_go {s : List UInt8} {j k : Nat} (hj : j ≤ k) (hk : k < s.length) (h : s.getD k 0 = 46) (hn : ∀ x, j ≤ x → x < k → s.getD x 0 ≠ 46) : splitD (s.drop j) = (s.take k).drop j :: splitD (s.drop (k + 1)) := by
  have hg : ∀ x, (s.drop j).getD x 0 = s.getD (j + x) 0 := fun x => by rw [List.getD_eq_getElem?_getD, List.getD_eq_getElem?_getD, List.getElem?_drop]
  rw [split_at (i := k - j) (by rw [List.length_drop]; omega) (by rw [hg, show j + (k - j) = k by omega]; exact h) (fun x hx => by rw [hg]; exact hn _ (by omega) (by omega)), List.drop_drop, show j + (k - j + 1) = k + 1 by omega, List.drop_take]
theorem split_stop {s : List UInt8} {j : Nat} (hn : ∀ x, j ≤ x → x < s.length → s.getD x 0 ≠ 46) : splitD (s.drop j) = [s.drop j] := split_no fun hm => by
  obtain ⟨x, hx, e⟩ := mem_getD (d := 0) hm
  rw [List.length_drop] at hx
  refine hn (j + x) (by omega) (by omega) ?_
  rw [← e, List.getD_eq_getElem?_getD, List.getD_eq_getElem?_getD, List.getElem?_drop]
theorem split_len : ∀ s : List UInt8, (splitD s).length ≤ s.length + 1
  | [] => by simp [splitD]
  | c :: s => by
    have := split_len s
    unfold splitD
    split
    · simp; omega
    · have h2 := List.length_pos_iff.2 (split_ne s)
      simp only [List.length_cons, List.length_tail]
      omega
theorem split_part : ∀ (s : List UInt8), ∀ p ∈ splitD s, p.length ≤ s.length
  | [], p, h => by simp [splitD] at h; simp [h]
  | c :: s, p, h => by
    unfold splitD at h
    split at h
    · rcases List.mem_cons.1 h with rfl | h
      · simp
      · have := split_part s p h; simp; omega
    · rcases List.mem_cons.1 h with rfl | h
      · have h2 := split_ne s
        have h3 : (splitD s).head! ∈ splitD s := by
          cases hA : splitD s with
          | nil => exact absurd hA h2
          | cons a l => simp [List.head!]
        have := split_part s _ h3
        simp only [List.length_cons]
        omega
      · have := split_part s p (List.mem_of_mem_tail h)
        simp; omega
theorem shR_no {s : List UInt8} (h : (2 < ((splitD s).length : Int) ∨ ¬ 1 ≤ (((splitD s).getD 0 []).length : Int) ∨ ¬ (((splitD s).getD 0 []).length : Int) ≤ 8) ∨ ((splitD s).length : Int) = 2 ∧ (¬ 1 ≤ (((splitD s).getD 1 []).length : Int) ∨ ¬ (((splitD s).getD 1 []).length : Int) ≤ 3)) : shR s = false := by
  rw [Bool.eq_false_iff]
  intro hA
  unfold shR at hA
  simp only [Bool.and_eq_true, Bool.or_eq_true, Bool.not_eq_true', decide_eq_true_eq, decide_eq_false_iff_not] at hA
  obtain ⟨⟨⟨h1, h2⟩, h3⟩, _⟩ := hA
  omega
theorem shR_yes {s : List UInt8} (h : (¬ 2 < ((splitD s).length : Int) ∧ 1 ≤ (((splitD s).getD 0 []).length : Int) ∧ (((splitD s).getD 0 []).length : Int) ≤ 8) ∧ (¬ ((splitD s).length : Int) = 2 ∨ 1 ≤ (((splitD s).getD 1 []).length : Int) ∧ (((splitD s).getD 1 []).length : Int) ≤ 3)) : shR s = s.all fun c => decide (c = 46) || shortB c := by
  unfold shR
  have hA : (decide ((splitD s).length ≤ 2) && (decide (1 ≤ ((splitD s).getD 0 []).length) && decide (((splitD s).getD 0 []).length ≤ 8)) && (!decide ((splitD s).length = 2) || (decide (1 ≤ ((splitD s).getD 1 []).length) && decide (((splitD s).getD 1 []).length ≤ 3)))) = true := by
    simp only [Bool.and_eq_true, Bool.or_eq_true, Bool.not_eq_true', decide_eq_true_eq, decide_eq_false_iff_not]
    omega
  rw [hA, Bool.true_and]

set_option maxRecDepth 20000 in
theorem c57 (w : World) (s : List UInt8) (hm : s.length ≤ 1000000) : Calls Tryd.prog 57 #[.string (bs s), .int .u8 46] w fun en w' => ∃ g : Option Addr × Nat, en = .returned (.slice g.1 (splitD s).length g.2) ∧ True ∧ HS w [] [.own (.slice g.1 (splitD s).length g.2) 9 1 (splitD s).length ((splitD s).map strV)] w' := by
  refine enter (args := [_, _]) Tryd.func57 Tryd.ntmps57 rfl rfl (HS.refl w []) ?_
  refine s_seq ?_
  refine s_region ?_
  refine o_p (p_pure rfl) rfl ?_
  refine o_nil ?_
  refine s_seq ?_
  refine s_region ?_
  refine o_p (p_pure rfl) rfl ?_
  refine o_nil ?_
  refine s_seq ?_
  refine s_region ?_
  refine o_p (p_pure rfl) rfl ?_
  refine o_nil ?_
  refine s_seq ?_
  refine s_seq ?_
  refine s_region ?_
  refine o_p (p_pure rfl) rfl ?_
  refine o_nil ?_
  refine s_block ?_
  refine s_loopI (α := Nat × Nat × (Option Addr × Nat) × List (List UInt8)) [5, 6, 7, 8, 9, 10, 11, 12, 13, 14, 15, 16, 17, 18, 19, 20, 21, 22, 23, 24, 25, 26, 27] (fun y => [(7, .int .i64 (y.1 : Int)), (6, .int .i64 (y.2.1 : Int)), (5, .slice y.2.2.1.1 y.2.2.2.length y.2.2.1.2)]) (fun y => HS w [] [.own (.slice y.2.2.1.1 y.2.2.2.length y.2.2.1.2) 9 1 y.2.2.2.length (y.2.2.2.map strV)]) (fun y => y.2.1 ≤ y.1 ∧ y.1 ≤ s.length ∧ (splitD s = y.2.2.2 ++ splitD (s.drop y.2.1) ∧ y.2.2.2.length ≤ y.2.1) ∧ ∀ x, y.2.1 ≤ x → x < y.1 → s.getD x 0 ≠ 46) (fun y => s.length - y.1) (0, 0, (none, 0), []) ⟨Nat.le_refl _, Nat.zero_le _, ⟨rfl, Nat.le_refl _⟩, fun x _ h => absurd h (Nat.not_lt_zero x)⟩ aSx (fun w h => (h.own_nil 9 1).ent aEt) (fun ⟨k, j, A, P⟩ hy => ?_)
  dsimp only at hy ⊢
  obtain ⟨hy1, hy2, ⟨hy3, hyl⟩, hy4⟩ := hy
  refine s_seq ?_
  refine s_seq ?_
  refine s_region ?_
  refine o_p (p_pure rfl) rfl ?_
  refine o_p (p_pure rfl) rfl ?_
  refine o_p (p_len_str rfl rfl Tryd.underlying9) rfl ?_
  refine o_p (p_pure rfl) rfl ?_
  refine o_nil ?_
  refine s_cond rfl (fun h1 => ?_) (fun h1 => ?_)
  · try simp only [decide_eq_true_eq, decide_eq_false_iff_not, Bool.not_eq_true', Bool.not_eq_false', Bool.and_eq_true, Bool.or_eq_true, Bool.and_eq_false_iff, Bool.or_eq_false_iff, Bool.not_true, Bool.not_false] at h1
    have hk : k < s.length := by omega
    have e46 : ((s.getD k 0).toNat : Int) = 46 ↔ s.getD k 0 = 46 := ⟨fun h => UInt8.toNat_inj.1 (by show (s.getD k 0).toNat = 46; omega), fun h => by rw [h]; rfl⟩
    refine s_skip ?_
    refine s_seq ?_
    refine s_block ?_
    refine s_seq ?_
    refine s_region ?_
    refine o_p (p_pure rfl) rfl ?_
    refine o_p (p_pure rfl) rfl ?_
    refine o_p (p_index_str rfl rfl rfl Tryd.underlying9 (k) (by omega) (by omega)) rfl ?_
    refine o_p (p_pure rfl) rfl ?_
    refine o_p (p_pure rfl) rfl ?_
    refine o_nil ?_
    refine s_cond rfl (fun h2 => ?_) (fun h2 => ?_)
    · try simp only [decide_eq_true_eq, decide_eq_false_iff_not, Bool.not_eq_true', Bool.not_eq_false', Bool.and_eq_true, Bool.or_eq_true, Bool.and_eq_false_iff, Bool.or_eq_false_iff, Bool.not_true, Bool.not_false] at h2
      have hc46 : s.getD k 0 = 46 := e46.1 h2
      have hsg := split_go hy1 hk hc46 hy4
      refine s_seq ?_
      refine s_region ?_
      refine o_p (p_pure rfl) rfl ?_
      refine o_p (p_pure rfl) rfl ?_
      refine o_p (p_pure rfl) rfl ?_
      refine o_p (p_pure rfl) rfl ?_
      refine o_p (p_slice_str _ _ j k rfl rfl Tryd.underlying9 ⟨_, _, rfl, rfl⟩ ⟨_, _, rfl, rfl⟩ (by omega) (by omega)) rfl ?_
      refine o_h (h_buildSlice (cs := [_]) rfl rfl sl_29 zr_9 rfl rfl rfl) rfl (fun b3 _ => ?_)
      refine o_h (h_appendS (n := P.length) [.string (bs ((s.take k).drop j))] rfl rfl rfl sl_29 Tryd.underlying29 zr_9 rfl aPk (src_blk aPk) rfl (by intro u hu; simp only [List.mem_cons, List.mem_nil_iff, or_false] at hu; subst hu; rfl) (by omega) (by simp only [maxLen]; omega)) rfl (fun b4 _ => ?_)
      refine o_p (p_pure rfl) rfl ?_
      refine o_nil ?_
      refine s_region ?_
      refine o_p (p_pure rfl) rfl ?_
      refine o_p (p_pure rfl) rfl ?_
      try (refine o_slot (i64w (by omega) (by omega)) ?_)
      refine o_p (p_pure rfl) rfl ?_
      refine o_nil ?_
      refine s_blk ?_
      refine s_region ?_
      refine o_p (p_pure rfl) rfl ?_
      refine o_p (p_pure rfl) rfl ?_
      try (refine o_slot (i64w (by omega) (by omega)) ?_)
      refine o_p (p_pure rfl) rfl ?_
      refine o_nil ?_
      exact s_backI (k + 1, k + 1, b4, P ++ [(s.take k).drop j]) (by show s.length - (k + 1) < s.length - k; omega) ⟨Nat.le_refl _, by show k + 1 ≤ s.length; omega, ⟨by dsimp only; rw [hy3, hsg, List.append_assoc]; rfl, by dsimp only; rw [List.length_append, List.length_singleton]; omega⟩, fun x h1 h2 => absurd (Nat.lt_of_lt_of_le h2 h1) (Nat.lt_irrefl _)⟩ (by (try dsimp only); rw [List.length_append]; exact aSx) (fun w h => by dsimp only; rw [List.length_append, List.map_append]; exact h.ent aEt)
    · try simp only [decide_eq_true_eq, decide_eq_false_iff_not, Bool.not_eq_true', Bool.not_eq_false', Bool.and_eq_true, Bool.or_eq_true, Bool.and_eq_false_iff, Bool.or_eq_false_iff, Bool.not_true, Bool.not_false] at h2
      have hc46 : ¬ s.getD k 0 = 46 := fun hA => h2 (e46.2 hA)
      refine s_skip ?_
      refine s_blk ?_
      refine s_region ?_
      refine o_p (p_pure rfl) rfl ?_
      refine o_p (p_pure rfl) rfl ?_
      try (refine o_slot (i64w (by omega) (by omega)) ?_)
      refine o_p (p_pure rfl) rfl ?_
      refine o_nil ?_
      exact s_backI (k + 1, j, A, P) (by show s.length - (k + 1) < s.length - k; omega) ⟨by show j ≤ k + 1; omega, by show k + 1 ≤ s.length; omega, ⟨hy3, hyl⟩, fun x h1 h2 => (Nat.lt_succ_iff_lt_or_eq.1 h2).elim (hy4 x h1) (fun e => by rw [e]; exact hc46)⟩ aSx (fun w h => h.ent aEt)
  · try simp only [decide_eq_true_eq, decide_eq_false_iff_not, Bool.not_eq_true', Bool.not_eq_false', Bool.and_eq_true, Bool.or_eq_true, Bool.and_eq_false_iff, Bool.or_eq_false_iff, Bool.not_true, Bool.not_false] at h1
    obtain rfl : k = s.length := by omega
    have hse := split_stop (s := s) (j := j) hy4
    refine s_exit_to rfl ?_
    refine s_seq ?_
    refine s_region ?_
    refine o_p (p_pure rfl) rfl ?_
    refine o_p (p_pure rfl) rfl ?_
    refine o_p (p_pure rfl) rfl ?_
    refine o_p (p_slice_str_from j rfl rfl rfl Tryd.underlying9 rfl (by omega)) rfl ?_
    refine o_h (h_buildSlice (cs := [_]) rfl rfl sl_29 zr_9 rfl rfl rfl) rfl (fun b5 _ => ?_)
    refine o_h (h_appendS (n := P.length) [.string (bs (s.drop j))] rfl rfl rfl sl_29 Tryd.underlying29 zr_9 rfl aPk (src_blk aPk) rfl (by intro u hu; simp only [List.mem_cons, List.mem_nil_iff, or_false] at hu; subst hu; rfl) (by omega) (by simp only [maxLen]; omega)) rfl (fun b6 _ => ?_)
    refine o_p (p_pure rfl) rfl ?_
    refine o_nil ?_
    exact s_retv (rs := [.tmp 4]) rfl (.tmp rfl (.nil)) (fun w' h' => ⟨b6, by simp only [retV]; rw [hy3, hse, List.length_append]; rfl, trivial, by rw [hy3, hse, List.length_append, List.map_append]; exact h'.ent aEt⟩)

set_option maxRecDepth 20000 in
set_option maxHeartbeats 2000000 in
theorem c23 (w : World) (s : List UInt8) (hm : s.length ≤ 100000) : Calls Tryd.prog 23 #[.string (bs s)] w fun en w' => en = .returned (.bool (shortS s)) ∧ Below w.heap.size w w' := by
  have hpl := split_len s
  have hp0 := List.length_pos_iff.2 (split_ne s)
  have hx0 : ((splitD s).getD 0 []).length ≤ s.length := split_part s _ (getD_mem hp0)
  have e46 : ∀ k : Nat, ((s.getD k 0).toNat : Int) = 46 ↔ s.getD k 0 = 46 := fun k => ⟨fun h => UInt8.toNat_inj.1 (by show (s.getD k 0).toNat = 46; omega), fun h => by rw [h]; rfl⟩
  refine enter (args := [_]) Tryd.func23 Tryd.ntmps23 rfl rfl (HS.refl w []) ?_
  refine s_seq ?_
  refine s_region ?_
  refine o_p (p_pure rfl) rfl ?_
  refine o_nil ?_
  refine s_seq ?_
  refine s_region ?_
  refine o_p (p_pure rfl) rfl ?_
  refine o_h (h_call rfl fn_57 rfl (fun w1 h1 => c57 w1 s (by omega))) rfl (fun gs _ => ?_)
  refine o_p (p_pure rfl) rfl ?_
  refine o_fact (fun w h => (h.vl_own aPk).some (by rw [List.length_map]; exact hp0)) (fun hsm => ?_)
  refine o_nil ?_
  refine s_seq ?_
  refine s_seq ?_
  refine s_region ?_
  refine o_p (p_pure rfl) rfl ?_
  refine o_p (p_len_slice rfl rfl Tryd.underlying29) rfl ?_
  refine o_p (p_pure rfl) rfl ?_
  refine o_p (p_pure rfl) rfl ?_
  refine o_or 7 10 17 _ _ rfl
    (by
      intro hg1
      have hs2 := hg1; try simp only [decide_eq_true_eq, decide_eq_false_iff_not, Bool.not_eq_true', Bool.not_eq_false', Bool.and_eq_true, Bool.or_eq_true, Bool.and_eq_false_iff, Bool.or_eq_false_iff, Bool.not_true, Bool.not_false] at hs2
      refine o_on 10 _ rfl rfl hg1 ?_
      refine o_p (p_pure rfl) rfl ?_
      refine o_on 10 _ rfl rfl hg1 ?_
      refine o_p (p_indexAddr rfl rfl rfl sl_29 (0) (by omega) (by omega) hsm) rfl ?_
      refine o_on 10 _ rfl rfl hg1 ?_
      refine o_q (q_load_at rfl rfl sz_9 (fun w h => (h.vl_own aPk).rd (str_get' (k := 0) hp0))) rfl ?_
      refine o_on 10 _ rfl rfl hg1 ?_
      refine o_p (p_len_str rfl rfl Tryd.underlying9) rfl ?_
      refine o_on 10 _ rfl rfl hg1 ?_
      refine o_q (q_call rfl fn_41 rfl (fun w1 h1 => c41 w1 _ _ _)) rfl ?_
      refine o_on 10 _ rfl rfl hg1 ?_
      refine o_p (p_pure rfl) rfl ?_
      refine o_p (p_pickf rfl rfl hg1 rfl) rfl ?_
      refine o_nil ?_
      exact s_joinN 7 17 _ rfl rfl rfl (fun w h => by first | exact h | exact h.ent aEt))
    (by
      intro hg3
      have hs4 := hg3; try simp only [decide_eq_true_eq, decide_eq_false_iff_not, Bool.not_eq_true', Bool.not_eq_false', Bool.and_eq_true, Bool.or_eq_true, Bool.and_eq_false_iff, Bool.or_eq_false_iff, Bool.not_true, Bool.not_false] at hs4
      refine o_off 10 _ rfl rfl hg3 rfl ?_
      refine o_off 10 _ rfl rfl hg3 rfl ?_
      refine o_off 10 _ rfl rfl hg3 rfl ?_
      refine o_off 10 _ rfl rfl hg3 rfl ?_
      refine o_off 10 _ rfl rfl hg3 rfl ?_
      refine o_off 10 _ rfl rfl hg3 rfl ?_
      refine o_p (p_pickt rfl rfl hg3 rfl) rfl ?_
      refine o_nil ?_
      exact s_joinN 7 17 _ rfl rfl rfl (fun w h => by first | exact h | exact h.ent aEt)) ?_
  refine o_p (p_pure rfl) rfl ?_
  refine o_or 12 18 30 _ _ rfl
    (by
      intro hg5
      have hs6 := hg5; try simp only [decide_eq_true_eq, decide_eq_false_iff_not, Bool.not_eq_true', Bool.not_eq_false', Bool.and_eq_true, Bool.or_eq_true, Bool.and_eq_false_iff, Bool.or_eq_false_iff, Bool.not_true, Bool.not_false] at hs6
      refine o_on 18 _ rfl rfl hg5 ?_
      refine o_p (p_pure rfl) rfl ?_
      refine o_on 18 _ rfl rfl hg5 ?_
      refine o_p (p_len_slice rfl rfl Tryd.underlying29) rfl ?_
      refine o_on 18 _ rfl rfl hg5 ?_
      refine o_p (p_pure rfl) rfl ?_
      refine o_on 18 _ rfl rfl hg5 ?_
      refine o_p (p_pure rfl) rfl ?_
      refine o_and 7 22 29 _ _ rfl
        (by
          intro hg7
          have hs8 := hg7; try simp only [decide_eq_true_eq, decide_eq_false_iff_not, Bool.not_eq_true', Bool.not_eq_false', Bool.and_eq_true, Bool.or_eq_true, Bool.and_eq_false_iff, Bool.or_eq_false_iff, Bool.not_true, Bool.not_false] at hs8
          refine o_on 22 _ rfl rfl hg7 ?_
          refine o_p (p_pure rfl) rfl ?_
          refine o_on 22 _ rfl rfl hg7 ?_
          refine o_p (p_indexAddr rfl rfl rfl sl_29 (1) (by omega) (by omega) hsm) rfl ?_
          refine o_on 22 _ rfl rfl hg7 ?_
          refine o_q (q_load_at rfl rfl sz_9 (fun w h => (h.vl_own aPk).rd (str_get' (k := 1) (by have hq := hg7; simp at hq; omega)))) rfl ?_
          refine o_on 22 _ rfl rfl hg7 ?_
          refine o_p (p_len_str rfl rfl Tryd.underlying9) rfl ?_
          refine o_on 22 _ rfl rfl hg7 ?_
          refine o_q (q_call rfl fn_41 rfl (fun w1 h1 => c41 w1 _ _ _)) rfl ?_
          refine o_on 22 _ rfl rfl hg7 ?_
          refine o_p (p_pure rfl) rfl ?_
          refine o_on 18 _ rfl rfl hg5 ?_
          refine o_p (p_pickt rfl rfl hg7 rfl) rfl ?_
          refine o_nil ?_
          exact s_joinN 7 29 _ rfl rfl rfl (fun w h => by first | exact h | exact h.ent aEt))
        (by
          intro hg9
          have hs10 := hg9; try simp only [decide_eq_true_eq, decide_eq_false_iff_not, Bool.not_eq_true', Bool.not_eq_false', Bool.and_eq_true, Bool.or_eq_true, Bool.and_eq_false_iff, Bool.or_eq_false_iff, Bool.not_true, Bool.not_false] at hs10
          refine o_off 22 _ rfl rfl hg9 rfl ?_
          refine o_off 22 _ rfl rfl hg9 rfl ?_
          refine o_off 22 _ rfl rfl hg9 rfl ?_
          refine o_off 22 _ rfl rfl hg9 rfl ?_
          refine o_off 22 _ rfl rfl hg9 rfl ?_
          refine o_off 22 _ rfl rfl hg9 rfl ?_
          refine o_on 18 _ rfl rfl hg5 ?_
          refine o_p (p_pickf rfl rfl hg9 rfl) rfl ?_
          refine o_nil ?_
          exact s_joinN 7 29 _ rfl rfl rfl (fun w h => by first | exact h | exact h.ent aEt)) ?_
      refine o_p (p_pickf rfl rfl hg5 rfl) rfl ?_
      refine o_nil ?_
      exact s_joinN 6 30 _ rfl rfl rfl (fun w h => by first | exact h | exact h.ent aEt))
    (by
      intro hg11
      have hs12 := hg11; try simp only [decide_eq_true_eq, decide_eq_false_iff_not, Bool.not_eq_true', Bool.not_eq_false', Bool.and_eq_true, Bool.or_eq_true, Bool.and_eq_false_iff, Bool.or_eq_false_iff, Bool.not_true, Bool.not_false] at hs12
      refine o_off 18 _ rfl rfl hg11 rfl ?_
      refine o_off 18 _ rfl rfl hg11 rfl ?_
      refine o_off 18 _ rfl rfl hg11 rfl ?_
      refine o_off 18 _ rfl rfl hg11 rfl ?_
      refine o_off' 22 rfl rfl rfl ?_
      refine o_off' 22 rfl rfl rfl ?_
      refine o_off' 22 rfl rfl rfl ?_
      refine o_off' 22 rfl rfl rfl ?_
      refine o_off' 22 rfl rfl rfl ?_
      refine o_off' 22 rfl rfl rfl ?_
      refine o_off 18 _ rfl rfl hg11 rfl ?_
      refine o_p (p_pickt rfl rfl hg11 rfl) rfl ?_
      refine o_nil ?_
      exact s_joinN 12 30 _ rfl rfl rfl (fun w h => by first | exact h | exact h.ent aEt)) ?_
  refine o_nil ?_
  refine s_cond rfl (fun h13 => ?_) (fun h13 => ?_)
  · try simp only [decide_eq_true_eq, decide_eq_false_iff_not, Bool.not_eq_true', Bool.not_eq_false', Bool.and_eq_true, Bool.or_eq_true, Bool.and_eq_false_iff, Bool.or_eq_false_iff, Bool.not_true, Bool.not_false] at h13
    have hf : shR s = false := shR_no h13
    refine s_seq ?_
    refine s_region ?_
    refine o_p (p_pure rfl) rfl ?_
    refine o_nil ?_
    exact s_retv (rs := [.tmp 2]) rfl (.tmp rfl (.nil)) (fun w' h' => ⟨by rw [← shR_eq, hf]; rfl, h'.below⟩)
  · try simp only [decide_eq_true_eq, decide_eq_false_iff_not, Bool.not_eq_true', Bool.not_eq_false', Bool.and_eq_true, Bool.or_eq_true, Bool.and_eq_false_iff, Bool.or_eq_false_iff, Bool.not_true, Bool.not_false] at h13
    have hr : shR s = s.all fun c => decide (c = 46) || shortB c := shR_yes h13
    refine s_skip ?_
    refine s_seq ?_
    refine s_seq ?_
    refine s_region ?_
    refine o_p (p_pure rfl) rfl ?_
    refine o_nil ?_
    refine s_block ?_
    refine s_weaken (L' := [(0, _), (2, _), (4, _)]) aSx (fun _ h => h) ?_
    refine s_loopI (α := Nat) [2, 4, 31, 32, 33, 34, 35, 36, 37, 38, 39, 40, 41, 42, 43, 44, 45, 46, 47] (fun k => [(4, .int .i64 (k : Int))]) (fun _ => HS w [] []) (fun k => k ≤ s.length ∧ (s.take k).all (fun c => decide (c = 46) || shortB c) = true) (fun k => s.length - k) 0 ⟨Nat.zero_le _, rfl⟩ aSx (fun w h => h.ent aEt) (fun k hkk => ?_)
    obtain ⟨hk1, hk2⟩ := hkk
    refine s_seq ?_
    refine s_seq ?_
    refine s_region ?_
    refine o_p (p_pure rfl) rfl ?_
    refine o_p (p_pure rfl) rfl ?_
    refine o_p (p_len_str rfl rfl Tryd.underlying9) rfl ?_
    refine o_p (p_pure rfl) rfl ?_
    refine o_nil ?_
    refine s_cond rfl (fun h14 => ?_) (fun h14 => ?_)
    · try simp only [decide_eq_true_eq, decide_eq_false_iff_not, Bool.not_eq_true', Bool.not_eq_false', Bool.and_eq_true, Bool.or_eq_true, Bool.and_eq_false_iff, Bool.or_eq_false_iff, Bool.not_true, Bool.not_false] at h14
      have hk : k < s.length := by omega
      have hst := all_step (p := fun c => decide (c = 46) || shortB c) hk
      refine s_skip ?_
      refine s_seq ?_
      refine s_block ?_
      refine s_seq ?_
      refine s_region ?_
      refine o_p (p_pure rfl) rfl ?_
      refine o_p (p_pure rfl) rfl ?_
      refine o_p (p_index_str rfl rfl rfl Tryd.underlying9 (k) (by omega) (by omega)) rfl ?_
      refine o_p (p_pure rfl) rfl ?_
      refine o_p (p_pure rfl) rfl ?_
      refine o_and 6 41 47 _ _ rfl
        (by
          intro hg15
          have hs16 := hg15; try simp only [decide_eq_true_eq, decide_eq_false_iff_not, Bool.not_eq_true', Bool.not_eq_false', Bool.and_eq_true, Bool.or_eq_true, Bool.and_eq_false_iff, Bool.or_eq_false_iff, Bool.not_true, Bool.not_false] at hs16
          refine o_on 41 _ rfl rfl hg15 ?_
          refine o_p (p_pure rfl) rfl ?_
          refine o_on 41 _ rfl rfl hg15 ?_
          refine o_p (p_pure rfl) rfl ?_
          refine o_on 41 _ rfl rfl hg15 ?_
          refine o_p (p_index_str rfl rfl rfl Tryd.underlying9 (k) (by omega) (by omega)) rfl ?_
          refine o_on 41 _ rfl rfl hg15 ?_
          refine o_q (q_call rfl fn_58 rfl (fun w1 h1 => c58 w1 (s.getD k 0))) rfl ?_
          refine o_on 41 _ rfl rfl hg15 ?_
          refine o_p (p_pure rfl) rfl ?_
          refine o_p (p_pickt rfl rfl hg15 rfl) rfl ?_
          refine o_nil ?_
          exact s_joinN 6 47 _ rfl rfl rfl (fun w h => by first | exact h | exact h.ent aEt))
        (by
          intro hg17
          have hs18 := hg17; try simp only [decide_eq_true_eq, decide_eq_false_iff_not, Bool.not_eq_true', Bool.not_eq_false', Bool.and_eq_true, Bool.or_eq_true, Bool.and_eq_false_iff, Bool.or_eq_false_iff, Bool.not_true, Bool.not_false] at hs18
          refine o_off 41 _ rfl rfl hg17 rfl ?_
          refine o_off 41 _ rfl rfl hg17 rfl ?_
          refine o_off 41 _ rfl rfl hg17 rfl ?_
          refine o_off 41 _ rfl rfl hg17 rfl ?_
          refine o_off 41 _ rfl rfl hg17 rfl ?_
          refine o_p (p_pickf rfl rfl hg17 rfl) rfl ?_
          refine o_nil ?_
          exact s_joinN 6 47 _ rfl rfl rfl (fun w h => by first | exact h | exact h.ent aEt)) ?_
      refine o_nil ?_
      refine s_cond rfl (fun h19 => ?_) (fun h19 => ?_)
      · try simp only [decide_eq_true_eq, decide_eq_false_iff_not, Bool.not_eq_true', Bool.not_eq_false', Bool.and_eq_true, Bool.or_eq_true, Bool.and_eq_false_iff, Bool.or_eq_false_iff, Bool.not_true, Bool.not_false] at h19
        have hf : shR s = false := by rw [hr]; exact all_hit hk (by have hq := h19; simp only [e46] at hq; simp; exact hq)
        refine s_seq ?_
        refine s_region ?_
        refine o_p (p_pure rfl) rfl ?_
        refine o_nil ?_
        exact s_retv (rs := [.tmp 2]) rfl (.tmp rfl (.nil)) (fun w' h' => ⟨by rw [← shR_eq, hf]; rfl, h'.below⟩)
      · try simp only [decide_eq_true_eq, decide_eq_false_iff_not, Bool.not_eq_true', Bool.not_eq_false', Bool.and_eq_true, Bool.or_eq_true, Bool.and_eq_false_iff, Bool.or_eq_false_iff, Bool.not_true, Bool.not_false] at h19
        have hk3 : (decide (s.getD k 0 = 46) || shortB (s.getD k 0)) = true := by have hq := h19; simp only [e46] at hq; simp; grind
        refine s_skip ?_
        refine s_blk ?_
        refine s_region ?_
        refine o_p (p_pure rfl) rfl ?_
        refine o_p (p_pure rfl) rfl ?_
        try (refine o_slot (i64w (by omega) (by omega)) ?_)
        refine o_p (p_pure rfl) rfl ?_
        refine o_nil ?_
        exact s_backI (k + 1) (by omega) ⟨by omega, by rw [hst, hk2, hk3]; rfl⟩ aSx (fun w h => h.ent aEt)
    · try simp only [decide_eq_true_eq, decide_eq_false_iff_not, Bool.not_eq_true', Bool.not_eq_false', Bool.and_eq_true, Bool.or_eq_true, Bool.and_eq_false_iff, Bool.or_eq_false_iff, Bool.not_true, Bool.not_false] at h14
      obtain rfl : k = s.length := by omega
      refine s_exit_to rfl ?_
      refine s_seq ?_
      refine s_region ?_
      refine o_p (p_pure rfl) rfl ?_
      refine o_nil ?_
      exact s_retv (rs := [.tmp 2]) rfl (.tmp rfl (.nil)) (fun w' h' => ⟨by rw [List.take_length] at hk2; rw [← shR_eq, hr, hk2]; rfl, h'.below⟩)

set_option maxRecDepth 20000 in
theorem c30 (w : World) (t s : List UInt8) (hl : t.length = 128) (hc : ∀ c ∈ s, c.toNat < 128) (hm : s.length ≤ 100000) : Calls Tryd.prog 30 #[.string (bs t), .string (bs s)] w fun en w' => en = .returned (.bool (!shortS (up t s))) ∧ Below w.heap.size w w' := by
  have hul := up_len t s
  refine enter (args := [_, _]) Tryd.func30 Tryd.ntmps30 rfl rfl (HS.refl w []) ?_
  refine s_seq ?_
  refine s_region ?_
  refine o_p (p_pure rfl) rfl ?_
  refine o_nil ?_
  refine s_seq ?_
  refine s_region ?_
  refine o_p (p_pure rfl) rfl ?_
  refine o_p (p_pure rfl) rfl ?_
  refine o_q (q_call rfl fn_37 rfl (fun w1 h1 => c37 w1 t s hl hc (by omega))) rfl ?_
  refine o_q (q_call rfl fn_23 rfl (fun w1 h1 => c23 w1 (up t s) (by omega))) rfl ?_
  refine o_p (p_pure rfl) rfl ?_
  refine o_p (p_pure rfl) rfl ?_
  refine o_nil ?_
  exact s_retv (rs := [.tmp 4]) rfl (.tmp rfl (.nil)) (fun w' h' => ⟨rfl, h'.below⟩)

end Go.Proofs

namespace Go.Proofs
open Go Go.RowKit Gx
set_option linter.unusedVariables false
set_option linter.unusedSimpArgs false
attribute [local irreducible] Go.Calls Gx.S Gx.O Gx.D Gx.OpP Gx.OpQ Gx.OpH

theorem fn_89 : isFn Tryd.prog 89 = true := by kernel_rfl


set_option maxRecDepth 20000 in
theorem c48 (w : World) (t a b : List UInt8) (hl : t.length = 128) (ha : ∀ c ∈ a, c.toNat < 128) (hb : ∀ c ∈ b, c.toNat < 128) (hma : a.length ≤ 1000000) (hmb : b.length ≤ 1000000) : Calls Tryd.prog 48 #[.string (bs t), .string (bs a), .string (bs b)] w fun en w' => en = .returned (.bool (sameU t a b)) ∧ Below w.heap.size w w' := by
  refine enter (args := [_, _, _]) Tryd.func48 Tryd.ntmps48 rfl rfl (HS.refl w []) ?_
  refine s_seq ?_
  refine s_region ?_
  refine o_p (p_pure rfl) rfl ?_
  refine o_nil ?_
  refine s_seq ?_
  refine s_region ?_
  refine o_p (p_pure rfl) rfl ?_
  refine o_p (p_pure rfl) rfl ?_
  refine o_q (q_call rfl fn_37 rfl (fun w1 h1 => c37 w1 t a hl ha hma)) rfl ?_
  refine o_p (p_pure rfl) rfl ?_
  refine o_p (p_pure rfl) rfl ?_
  refine o_q (q_call rfl fn_37 rfl (fun w1 h1 => c37 w1 t b hl hb hmb)) rfl ?_
  refine o_p (p_pure rfl) rfl ?_
  refine o_p (p_pure rfl) rfl ?_
  refine o_nil ?_
  exact s_retv (rs := [.tmp 6]) rfl (.tmp rfl (.nil)) (fun w' h' => ⟨rfl, h'.below⟩)

set_option maxRecDepth 20000 in
theorem c67 (w : World) (s : List UInt8) (m : Nat) (hm : s.length ≤ 1000000) (hk : m ≤ 1000000) : Calls Tryd.prog 67 #[.string (bs s), .int .i64 (m : Int)] w fun en w' => en = .returned (.string (bs (s.take m))) ∧ Below w.heap.size w w' := by
  refine enter (args := [_, _]) Tryd.func67 Tryd.ntmps67 rfl rfl (HS.refl w []) ?_
  refine s_seq ?_
  refine s_region ?_
  refine o_p (p_pure rfl) rfl ?_
  refine o_nil ?_
  refine s_seq ?_
  refine s_region ?_
  refine o_p (p_pure rfl) rfl ?_
  refine o_p (p_pure rfl) rfl ?_
  refine o_p (p_len_str rfl rfl Tryd.underlying9) rfl ?_
  refine o_p (p_pure rfl) rfl ?_
  refine o_p (p_min2 rfl rfl rfl ) rfl ?_
  refine o_slot (show _ = Value.int .i64 ((min s.length m : Nat) : Int) from by congr 1; split <;> omega) ?_
  refine o_p (p_slice_str_to (min s.length m) rfl rfl rfl Tryd.underlying9 rfl (by omega)) rfl ?_
  refine o_p (p_pure rfl) rfl ?_
  refine o_nil ?_
  exact s_retv (rs := [.tmp 4]) rfl (.tmp rfl (.nil)) (fun w' h' => ⟨by simp only [retV]; rw [Nat.min_comm, ← List.take_eq_take_min], h'.below⟩)

set_option maxRecDepth 20000 in
theorem c89 (w : World) (n : Int) (hn : 0 ≤ n ∧ n ≤ 1000) : Calls Tryd.prog 89 #[.int .i64 n] w fun en w' => en = .returned (.int .i64 n) ∧ Below w.heap.size w w' := by
  refine enter (args := [_]) Tryd.func89 Tryd.ntmps89 rfl rfl (HS.refl w []) ?_
  refine s_seq ?_
  refine s_region ?_
  refine o_p (p_pure rfl) rfl ?_
  refine o_nil ?_
  refine s_seq ?_
  refine s_region ?_
  refine o_p (p_pure rfl) rfl ?_
  refine o_p (p_pure rfl) rfl ?_
  refine o_p (p_pure rfl) rfl ?_
  try (refine o_slot (i64w (by omega) (by omega)) ?_)
  refine o_p (p_max2 rfl rfl rfl ) rfl ?_
  refine o_p (p_pure rfl) rfl ?_
  refine o_nil ?_
  exact s_retv (rs := [.tmp 2]) rfl (.tmp rfl (.nil)) (fun w' h' => ⟨by simp only [retV]; rw [if_neg (by omega)], h'.below⟩)

def dgU (m : Nat) : List UInt8 := if m = 0 then [] else Lib.decDigits m
theorem dgU_step {m : Nat} (h : 0 < m) : dgU m = dgU (m / 10) ++ [UInt8.ofNat (48 + m % 10)] := by
  unfold dgU
  rw [if_neg (by omega), Lib.decDigits]
  split
  · rw [if_pos (by omega), show m % 10 = m by omega]; rfl
  · rw [if_neg (by omega)]

set_option maxRecDepth 20000 in
theorem c66 (w : World) (n : Nat) (hn : 1 ≤ n ∧ n ≤ 999) : Calls Tryd.prog 66 #[.int .i64 (n : Int)] w fun en w' => en = .returned (.string (bs (Lib.itoa (n : Int)))) ∧ Below w.heap.size w w' := by
  refine enter (args := [_]) Tryd.func66 Tryd.ntmps66 rfl rfl (HS.refl w []) ?_
  refine s_seq ?_
  refine s_region ?_
  refine o_p (p_pure rfl) rfl ?_
  refine o_nil ?_
  refine s_seq ?_
  refine s_seq ?_
  refine s_region ?_
  refine o_p (p_pure rfl) rfl ?_
  refine o_p (p_pure rfl) rfl ?_
  refine o_nil ?_
  refine s_cond rfl (fun h1 => ?_) (fun h1 => ?_)
  · try simp only [decide_eq_true_eq, decide_eq_false_iff_not, Bool.not_eq_true', Bool.not_eq_false', Bool.and_eq_true, Bool.or_eq_true, Bool.and_eq_false_iff, Bool.or_eq_false_iff, Bool.not_true, Bool.not_false] at h1
    exfalso; first | omega | (simp at h1; done) | (simp_all; done)
  · try simp only [decide_eq_true_eq, decide_eq_false_iff_not, Bool.not_eq_true', Bool.not_eq_false', Bool.and_eq_true, Bool.or_eq_true, Bool.and_eq_false_iff, Bool.or_eq_false_iff, Bool.not_true, Bool.not_false] at h1
    refine s_skip ?_
    refine s_seq ?_
    refine s_region ?_
    refine o_p (p_pure rfl) rfl ?_
    refine o_p (p_pure rfl) rfl ?_
    refine o_nil ?_
    refine s_seq ?_
    refine s_seq ?_
    refine s_region ?_
    refine o_p (p_pure rfl) rfl ?_
    refine o_p (p_pure rfl) rfl ?_
    refine o_nil ?_
    refine s_cond rfl (fun h2 => ?_) (fun h2 => ?_)
    · try simp only [decide_eq_true_eq, decide_eq_false_iff_not, Bool.not_eq_true', Bool.not_eq_false', Bool.and_eq_true, Bool.or_eq_true, Bool.and_eq_false_iff, Bool.or_eq_false_iff, Bool.not_true, Bool.not_false] at h2
      exfalso; first | omega | (simp at h2; done) | (simp_all; done)
    · try simp only [decide_eq_true_eq, decide_eq_false_iff_not, Bool.not_eq_true', Bool.not_eq_false', Bool.and_eq_true, Bool.or_eq_true, Bool.and_eq_false_iff, Bool.or_eq_false_iff, Bool.not_true, Bool.not_false] at h2
      refine s_skip ?_
      refine s_seq ?_
      refine s_block ?_
      refine s_loopI (α := Nat × List UInt8) [0, 3, 5, 10, 11, 12, 13, 14, 15, 16, 17, 18, 19, 20, 21, 22, 23] (fun y => [(0, .int .i64 (y.1 : Int)), (3, .string (bs y.2))]) (fun _ => HS w [] []) (fun y => y.1 ≤ 999 ∧ dgU n = dgU y.1 ++ y.2 ∧ y.2.length + y.1 ≤ 2000) (fun y => y.1) (n, []) ⟨by show n ≤ 999; omega, (List.append_nil _).symm, by show 0 + n ≤ 2000; omega⟩ aSx (fun w h => h.ent aEt) (fun ⟨m, o⟩ hy => ?_)
      dsimp only at hy ⊢
      obtain ⟨hy1, hy2, hy3⟩ := hy
      refine s_seq ?_
      refine s_seq ?_
      refine s_region ?_
      refine o_p (p_pure rfl) rfl ?_
      refine o_p (p_pure rfl) rfl ?_
      refine o_nil ?_
      refine s_cond rfl (fun h3 => ?_) (fun h3 => ?_)
      · try simp only [decide_eq_true_eq, decide_eq_false_iff_not, Bool.not_eq_true', Bool.not_eq_false', Bool.and_eq_true, Bool.or_eq_true, Bool.and_eq_false_iff, Bool.or_eq_false_iff, Bool.not_true, Bool.not_false] at h3
        have hm0 : 0 < m := by have hq := h3; omega
        refine s_skip ?_
        refine s_block ?_
        refine s_seq ?_
        refine s_region ?_
        refine o_p (p_pure rfl) rfl ?_
        refine o_p (p_rem_nn rfl rfl rfl (by omega) (by omega)) rfl ?_
        refine o_slot (show _ = Value.int .i64 ((m % 10 : Nat) : Int) from by congr 1) ?_
        refine o_p (p_pure rfl) rfl ?_
        refine o_nil ?_
        refine s_seq ?_
        refine s_region ?_
        refine o_p (p_pure rfl) rfl ?_
        refine o_q (q_call rfl fn_89 rfl (fun w1 h1 => c89 w1 ((m % 10 : Nat) : Int) (by omega))) rfl ?_
        refine o_p (p_pure rfl) rfl ?_
        try (refine o_slot (i64w (by omega) (by omega)) ?_)
        refine o_p (p_conv_int rfl rfl ki_3 ki_5) rfl ?_
        refine o_slot (show _ = bv (UInt8.ofNat (48 + m % 10)) from by unfold bv; congr 1 <;> (rw [UInt8.toNat_ofNat', show ((48 : Int) + ((m % 10 : Nat) : Int)) = ((48 + m % 10 : Nat) : Int) from by omega, wrap_u8 _ (by omega)]; omega)) ?_
        refine o_h (h_buildSlice (cs := [_]) rfl rfl sl_92 zr_5 rfl rfl rfl) rfl (fun b4 _ => ?_)
        refine o_q (q_string_blk rfl rfl Tryd.underlying92 Tryd.underlying9 Tryd.underlying5 aPk (by simp) (by intro v hv; simp only [List.mem_cons, List.mem_nil_iff, or_false] at hv; subst hv; rfl)) rfl ?_
        refine o_slot (show _ = Value.string (bs [UInt8.ofNat (48 + m % 10)]) from by show Value.string (bs (([UInt8.ofNat (48 + m % 10)].map bv).map vByte)) = _; rw [vByte_bv]) ?_
        refine o_p (p_pure rfl) rfl ?_
        refine o_p (p_str_add rfl rfl rfl (by (try simp only [List.length_append, List.length_cons, List.length_nil, List.length_replicate, List.length_take, List.length_drop]); omega)) rfl ?_
        refine o_p (p_pure rfl) rfl ?_
        refine o_nil ?_
        refine s_region ?_
        refine o_p (p_pure rfl) rfl ?_
        refine o_p (p_quo_nn rfl rfl rfl (by omega) (by omega) (by omega)) rfl ?_
        refine o_slot (show _ = Value.int .i64 ((m / 10 : Nat) : Int) from by congr 1) ?_
        refine o_p (p_pure rfl) rfl ?_
        refine o_nil ?_
        refine s_blk ?_
        exact s_backI (m / 10, UInt8.ofNat (48 + m % 10) :: o) (by show m / 10 < m; omega) ⟨by show m / 10 ≤ 999; omega, by dsimp only; rw [hy2, dgU_step hm0, List.append_assoc]; rfl, by show (o.length + 1) + m / 10 ≤ 2000; omega⟩ aSx (fun w h => h.ent aEt)
      · try simp only [decide_eq_true_eq, decide_eq_false_iff_not, Bool.not_eq_true', Bool.not_eq_false', Bool.and_eq_true, Bool.or_eq_true, Bool.and_eq_false_iff, Bool.or_eq_false_iff, Bool.not_true, Bool.not_false] at h3
        obtain rfl : m = 0 := by have hq := h3; omega
        refine s_exit_to rfl ?_
        refine s_seq ?_
        refine s_region ?_
        refine o_p (p_pure rfl) rfl ?_
        refine o_p (p_pure rfl) rfl ?_
        refine o_p (p_str_add rfl rfl rfl (by (try simp only [List.length_append, List.length_cons, List.length_nil, List.length_replicate, List.length_take, List.length_drop]); omega)) rfl ?_
        refine o_p (p_pure rfl) rfl ?_
        refine o_nil ?_
        exact s_retv (rs := [.tmp 2]) rfl (.tmp rfl (.nil)) (fun w' h' => ⟨by rw [show Lib.itoa (n : Int) = o from by rw [itoa_nat, ← show dgU n = Lib.decDigits n from by unfold dgU; rw [if_neg (by omega)], hy2]; rfl]; rfl, h'.below⟩)

set_option maxRecDepth 20000 in
theorem c65 (w : World) (t s : List UInt8) (hl : t.length = 128) (hc : ∀ c ∈ s, c.toNat < 128) (hm : s.length ≤ 1000000) : Calls Tryd.prog 65 #[.string (bs t), .string (bs s)] w fun en w' => en = .returned (.string (bs (keptU t s))) ∧ Below w.heap.size w w' := by
  have hul := up_len t s
  refine enter (args := [_, _]) Tryd.func65 Tryd.ntmps65 rfl rfl (HS.refl w []) ?_
  refine s_seq ?_
  refine s_region ?_
  refine o_p (p_pure rfl) rfl ?_
  refine o_nil ?_
  refine s_seq ?_
  refine s_region ?_
  refine o_p (p_pure rfl) rfl ?_
  refine o_p (p_pure rfl) rfl ?_
  refine o_q (q_call rfl fn_37 rfl (fun w1 h1 => c37 w1 t s hl hc hm)) rfl ?_
  refine o_p (p_pure rfl) rfl ?_
  refine o_nil ?_
  refine s_seq ?_
  refine s_region ?_
  refine o_p (p_pure rfl) rfl ?_
  refine o_nil ?_
  refine s_seq ?_
  refine s_seq ?_
  refine s_region ?_
  refine o_p (p_pure rfl) rfl ?_
  refine o_nil ?_
  refine s_block ?_
  refine s_loopI (α := Nat) [5, 6, 10, 11, 12, 13, 14, 15, 16, 17, 18, 19, 20, 21, 22, 23, 24, 25, 26, 27, 28, 29, 30, 31, 32, 33, 34, 35, 36, 37, 38] (fun k => [(6, .int .i64 (k : Int)), (5, .string (bs (((up t s).take k).flatMap kpB)))]) (fun _ => HS w [] []) (fun k => k ≤ (up t s).length) (fun k => (up t s).length - k) 0 (Nat.zero_le _) aSx (fun w h => h.ent aEt) (fun k hk1 => ?_)
  refine s_seq ?_
  refine s_seq ?_
  refine s_region ?_
  refine o_p (p_pure rfl) rfl ?_
  refine o_p (p_pure rfl) rfl ?_
  refine o_p (p_len_str rfl rfl Tryd.underlying9) rfl ?_
  refine o_p (p_pure rfl) rfl ?_
  refine o_nil ?_
  refine s_cond rfl (fun h1 => ?_) (fun h1 => ?_)
  · try simp only [decide_eq_true_eq, decide_eq_false_iff_not, Bool.not_eq_true', Bool.not_eq_false', Bool.and_eq_true, Bool.or_eq_true, Bool.and_eq_false_iff, Bool.or_eq_false_iff, Bool.not_true, Bool.not_false] at h1
    have hk : k < (up t s).length := by omega
    have e32 : (((up t s).getD k 0).toNat : Int) = 32 ↔ (up t s).getD k 0 = 32 := ⟨fun h => UInt8.toNat_inj.1 (by show ((up t s).getD k 0).toNat = 32; omega), fun h => by rw [h]; rfl⟩
    have e46 : (((up t s).getD k 0).toNat : Int) = 46 ↔ (up t s).getD k 0 = 46 := ⟨fun h => UInt8.toNat_inj.1 (by show ((up t s).getD k 0).toNat = 46; omega), fun h => by rw [h]; rfl⟩
    have hst : ((up t s).take (k + 1)).flatMap kpB = ((up t s).take k).flatMap kpB ++ kpB ((up t s).getD k 0) := by rw [take_succ_getD (d := 0) hk, List.flatMap_append]; simp
    have hkl := kept_take_len ((up t s).take k)
    have htl : ((up t s).take k).length ≤ k := by simp; omega
    refine s_skip ?_
    refine s_seq ?_
    refine s_block ?_
    refine s_seq ?_
    refine s_seq ?_
    refine s_region ?_
    refine o_p (p_pure rfl) rfl ?_
    refine o_p (p_pure rfl) rfl ?_
    refine o_p (p_index_str rfl rfl rfl Tryd.underlying9 (k) (by omega) (by omega)) rfl ?_
    refine o_p (p_pure rfl) rfl ?_
    refine o_p (p_pure rfl) rfl ?_
    refine o_or 5 20 25 _ _ rfl
      (by
        intro hg2
        have hs3 := hg2; try simp only [decide_eq_true_eq, decide_eq_false_iff_not, Bool.not_eq_true', Bool.not_eq_false', Bool.and_eq_true, Bool.or_eq_true, Bool.and_eq_false_iff, Bool.or_eq_false_iff, Bool.not_true, Bool.not_false] at hs3
        refine o_on 20 _ rfl rfl hg2 ?_
        refine o_p (p_pure rfl) rfl ?_
        refine o_on 20 _ rfl rfl hg2 ?_
        refine o_p (p_pure rfl) rfl ?_
        refine o_on 20 _ rfl rfl hg2 ?_
        refine o_p (p_index_str rfl rfl rfl Tryd.underlying9 (k) (by omega) (by omega)) rfl ?_
        refine o_on 20 _ rfl rfl hg2 ?_
        refine o_p (p_pure rfl) rfl ?_
        refine o_p (p_pickf rfl rfl hg2 rfl) rfl ?_
        refine o_nil ?_
        exact s_joinN 5 25 _ rfl rfl rfl (fun w h => by first | exact h | exact h.ent aEt))
      (by
        intro hg4
        have hs5 := hg4; try simp only [decide_eq_true_eq, decide_eq_false_iff_not, Bool.not_eq_true', Bool.not_eq_false', Bool.and_eq_true, Bool.or_eq_true, Bool.and_eq_false_iff, Bool.or_eq_false_iff, Bool.not_true, Bool.not_false] at hs5
        refine o_off 20 _ rfl rfl hg4 rfl ?_
        refine o_off 20 _ rfl rfl hg4 rfl ?_
        refine o_off 20 _ rfl rfl hg4 rfl ?_
        refine o_off 20 _ rfl rfl hg4 rfl ?_
        refine o_p (p_pickt rfl rfl hg4 rfl) rfl ?_
        refine o_nil ?_
        exact s_joinN 5 25 _ rfl rfl rfl (fun w h => by first | exact h | exact h.ent aEt)) ?_
    refine o_nil ?_
    refine s_cond rfl (fun h6 => ?_) (fun h6 => ?_)
    · try simp only [decide_eq_true_eq, decide_eq_false_iff_not, Bool.not_eq_true', Bool.not_eq_false', Bool.and_eq_true, Bool.or_eq_true, Bool.and_eq_false_iff, Bool.or_eq_false_iff, Bool.not_true, Bool.not_false] at h6
      have hkp : kpB ((up t s).getD k 0) = [] := by have hq := h6; rw [e32, e46] at hq; unfold kpB; rw [if_pos hq]
      refine s_exit_to rfl ?_
      refine s_region ?_
      refine o_p (p_pure rfl) rfl ?_
      refine o_p (p_pure rfl) rfl ?_
      try (refine o_slot (i64w (by omega) (by omega)) ?_)
      refine o_p (p_pure rfl) rfl ?_
      refine o_nil ?_
      exact s_backI (k + 1) (by omega) (by omega) (by (try dsimp only); rw [hst, hkp, List.append_nil]; exact aSx) (fun w h => h.ent aEt)
    · try simp only [decide_eq_true_eq, decide_eq_false_iff_not, Bool.not_eq_true', Bool.not_eq_false', Bool.and_eq_true, Bool.or_eq_true, Bool.and_eq_false_iff, Bool.or_eq_false_iff, Bool.not_true, Bool.not_false] at h6
      have hq1 := h6
      rw [e32, e46] at hq1
      refine s_skip ?_
      refine s_seq ?_
      refine s_region ?_
      refine o_p (p_pure rfl) rfl ?_
      refine o_p (p_pure rfl) rfl ?_
      refine o_p (p_index_str rfl rfl rfl Tryd.underlying9 (k) (by omega) (by omega)) rfl ?_
      refine o_q (q_call rfl fn_58 rfl (fun w1 h1 => c58 w1 ((up t s).getD k 0))) rfl ?_
      refine o_nil ?_
      refine s_cond rfl (fun h7 => ?_) (fun h7 => ?_)
      · try simp only [decide_eq_true_eq, decide_eq_false_iff_not, Bool.not_eq_true', Bool.not_eq_false', Bool.and_eq_true, Bool.or_eq_true, Bool.and_eq_false_iff, Bool.or_eq_false_iff, Bool.not_true, Bool.not_false] at h7
        have hkp : kpB ((up t s).getD k 0) = [(up t s).getD k 0] := by unfold kpB; rw [if_neg (by rintro (hA | hA); exact hq1.1 hA; exact hq1.2 hA), if_pos h7]
        refine s_region ?_
        refine o_p (p_pure rfl) rfl ?_
        refine o_p (p_pure rfl) rfl ?_
        refine o_p (p_pure rfl) rfl ?_
        refine o_p (p_pure rfl) rfl ?_
        refine o_p (p_pure rfl) rfl ?_
        try (refine o_slot (i64w (by omega) (by omega)) ?_)
        refine o_p (p_slice_str _ _ k (k + 1) rfl rfl Tryd.underlying9 ⟨_, _, rfl, rfl⟩ ⟨_, _, rfl, rfl⟩ (by omega) (by omega)) rfl ?_
        refine o_slot (show _ = Value.string (bs [(up t s).getD k 0]) from by rw [one_byte hk]) ?_
        refine o_p (p_str_add rfl rfl rfl (by (try simp only [List.length_append, List.length_cons, List.length_nil, List.length_replicate, List.length_take, List.length_drop]); omega)) rfl ?_
        refine o_p (p_pure rfl) rfl ?_
        refine o_nil ?_
        refine s_blk ?_
        refine s_region ?_
        refine o_p (p_pure rfl) rfl ?_
        refine o_p (p_pure rfl) rfl ?_
        try (refine o_slot (i64w (by omega) (by omega)) ?_)
        refine o_p (p_pure rfl) rfl ?_
        refine o_nil ?_
        exact s_backI (k + 1) (by omega) (by omega) (by (try dsimp only); rw [hst, hkp]; exact aSx) (fun w h => h.ent aEt)
      · try simp only [decide_eq_true_eq, decide_eq_false_iff_not, Bool.not_eq_true', Bool.not_eq_false', Bool.and_eq_true, Bool.or_eq_true, Bool.and_eq_false_iff, Bool.or_eq_false_iff, Bool.not_true, Bool.not_false] at h7
        have hkp : kpB ((up t s).getD k 0) = [95] := by unfold kpB; rw [if_neg (by rintro (hA | hA); exact hq1.1 hA; exact hq1.2 hA), if_neg (by rw [h7]; simp)]
        refine s_region ?_
        refine o_p (p_pure rfl) rfl ?_
        refine o_p (p_str_add rfl rfl rfl (by (try simp only [List.length_append, List.length_cons, List.length_nil, List.length_replicate, List.length_take, List.length_drop]); omega)) rfl ?_
        refine o_p (p_pure rfl) rfl ?_
        refine o_nil ?_
        refine s_blk ?_
        refine s_region ?_
        refine o_p (p_pure rfl) rfl ?_
        refine o_p (p_pure rfl) rfl ?_
        try (refine o_slot (i64w (by omega) (by omega)) ?_)
        refine o_p (p_pure rfl) rfl ?_
        refine o_nil ?_
        exact s_backI (k + 1) (by omega) (by omega) (by (try dsimp only); rw [hst, hkp]; exact aSx) (fun w h => h.ent aEt)
  · try simp only [decide_eq_true_eq, decide_eq_false_iff_not, Bool.not_eq_true', Bool.not_eq_false', Bool.and_eq_true, Bool.or_eq_true, Bool.and_eq_false_iff, Bool.or_eq_false_iff, Bool.not_true, Bool.not_false] at h1
    obtain rfl : k = (up t s).length := by omega
    rw [List.take_length]
    refine s_exit_to rfl ?_
    refine s_seq ?_
    refine s_region ?_
    refine o_p (p_pure rfl) rfl ?_
    refine o_p (p_pure rfl) rfl ?_
    refine o_nil ?_
    exact s_retv (rs := [.tmp 4]) rfl (.tmp rfl (.nil)) (fun w' h' => ⟨by rfl, h'.below⟩)

end Go.Proofs

namespace Go.Proofs
open Go Go.RowKit Gx
set_option linter.unusedVariables false
set_option linter.unusedSimpArgs false
attribute [local irreducible] Go.Calls Gx.S Gx.O Gx.D Gx.OpP Gx.OpQ Gx.OpH

theorem fn_65 : isFn Tryd.prog 65 = true := by kernel_rfl
theorem fn_66 : isFn Tryd.prog 66 = true := by kernel_rfl
theorem fn_67 : isFn Tryd.prog 67 = true := by kernel_rfl
theorem fn_48 : isFn Tryd.prog 48 = true := by kernel_rfl


def dI (s : List UInt8) (k : Nat) : Int := if 0 < dotTo s k then (dotTo s k : Int) else -1
theorem dI_succ {s : List UInt8} {k : Nat} (h : 1 ≤ k) : dI s (k + 1) = if s.getD k 0 = 46 then (k : Int) else dI s k := by
  have e : dotTo s (k + 1) = if s.getD k 0 = 46 then k else dotTo s k := by
    rw [dotTo]
    by_cases h2 : s.getD k 0 = 46
    · rw [if_pos (show 1 ≤ k ∧ s.getD k 0 = 46 from ⟨h, h2⟩), if_pos h2]
    · rw [if_neg (show ¬ (1 ≤ k ∧ s.getD k 0 = 46) from fun h9 => h2 h9.2), if_neg h2]
  unfold dI
  rw [e]
  by_cases h2 : s.getD k 0 = 46
  · simp only [if_pos h2]
    rw [if_pos (show 0 < k by omega)]
  · simp only [if_neg h2]
theorem free_succ {t x : List UInt8} {l : List (List UInt8)} {i : Nat} (h : i < l.length) : (l.take (i + 1)).all (fun y => !sameU t x y) = ((l.take i).all (fun y => !sameU t x y) && !sameU t x (l.getD i [])) := by
  rw [take_succ_getD (d := []) h, List.all_append]
  simp
theorem free_end {t x : List UInt8} {l : List (List UInt8)} : l.all (fun y => !sameU t x y) = decide (¬ up t x ∈ l.map (up t)) := by
  rw [Bool.eq_iff_iff, List.all_eq_true, decide_eq_true_eq]
  constructor
  · intro h hm
    obtain ⟨y, hy, e⟩ := List.mem_map.1 hm
    have := h y hy
    simp [sameU, e] at this
  · intro h y hy
    have : ¬ up t x = up t y := fun e => h (List.mem_map.2 ⟨y, hy, e.symm⟩)
    simp [sameU, this]

set_option maxRecDepth 20000 in
set_option maxHeartbeats 2000000 in
theorem c31 (w : World) (t s : List UInt8) (a : Option Addr) (cap : Nat) (l : List (List UInt8)) (hl : t.length = 128) (hc : ∀ c ∈ s, c.toNat < 128) (hp : 0 < s.length) (hm : s.length ≤ 100000) (hs : Vl w a (l.map strV)) (hln : l.length ≤ 1000000) (hlc : ∀ x ∈ l, ∀ c ∈ x, c.toNat < 128) (hml : ∀ x ∈ l, x.length ≤ 1000000) : Calls Tryd.prog 31 #[.string (bs t), .string (bs s), .slice a l.length cap] w fun en w' => en = .returned (.tuple #[.string (bs (shortU t s (l.map (up t))).1), .int .i64 (shortU t s (l.map (up t))).2]) ∧ Below w.heap.size w w' := by
  have hcs : ∀ c ∈ stemU s, c.toNat < 128 := by intro c hA; unfold stemU at hA; split at hA; exact hc c (List.mem_of_mem_take hA); exact hc c hA
  have hct : ∀ c ∈ tailU s, c.toNat < 128 := by intro c hA; unfold tailU at hA; split at hA; exact hc c (List.mem_of_mem_drop hA); cases hA
  have hms : (stemU s).length ≤ 100000 := by unfold stemU; split; (rw [List.length_take]; omega); exact hm
  have hmt : (tailU s).length ≤ 100000 := by unfold tailU; split; (rw [List.length_drop]; omega); exact Nat.zero_le _
  have hks := kept_len (t := t) (s := stemU s)
  have hkt := kept_len (t := t) (s := tailU s)
  have h3 := tail3_len (t := t) (s := s)
  have e46 : ∀ k : Nat, ((s.getD k 0).toNat : Int) = 46 ↔ s.getD k 0 = 46 := fun k => ⟨fun h => UInt8.toNat_inj.1 (by show (s.getD k 0).toNat = 46; omega), fun h => by rw [h]; rfl⟩
  refine enter (args := [_, _, _]) Tryd.func31 Tryd.ntmps31 rfl rfl (HS.refl w []) ?_
  refine s_seq ?_
  refine s_region ?_
  refine o_p (p_pure rfl) rfl ?_
  refine o_p (p_pure rfl) rfl ?_
  refine o_nil ?_
  refine s_seq ?_
  refine s_region ?_
  refine o_p (p_pure rfl) rfl ?_
  refine o_nil ?_
  refine s_seq ?_
  refine s_seq ?_
  refine s_region ?_
  refine o_p (p_pure rfl) rfl ?_
  refine o_nil ?_
  refine s_block ?_
  refine s_loopI (α := Nat) [8, 9, 17, 18, 19, 20, 21, 22, 23, 24, 25, 26, 27] (fun k => [(9, .int .i64 (k : Int)), (8, .int .i64 (dI s k))]) (fun _ => HS w [] []) (fun k => 1 ≤ k ∧ k ≤ s.length) (fun k => s.length - k) 1 ⟨Nat.le_refl _, hp⟩ aSx (fun w h => h.ent aEt) (fun k hk1 => ?_)
  refine s_seq ?_
  refine s_seq ?_
  refine s_region ?_
  refine o_p (p_pure rfl) rfl ?_
  refine o_p (p_pure rfl) rfl ?_
  refine o_p (p_len_str rfl rfl Tryd.underlying9) rfl ?_
  refine o_p (p_pure rfl) rfl ?_
  refine o_nil ?_
  refine s_cond rfl (fun h1 => ?_) (fun h1 => ?_)
  · try simp only [decide_eq_true_eq, decide_eq_false_iff_not, Bool.not_eq_true', Bool.not_eq_false', Bool.and_eq_true, Bool.or_eq_true, Bool.and_eq_false_iff, Bool.or_eq_false_iff, Bool.not_true, Bool.not_false] at h1
    have hk : k < s.length := by omega
    have hds := dI_succ (s := s) hk1.1
    refine s_skip ?_
    refine s_seq ?_
    refine s_block ?_
    refine s_seq ?_
    refine s_region ?_
    refine o_p (p_pure rfl) rfl ?_
    refine o_p (p_pure rfl) rfl ?_
    refine o_p (p_index_str rfl rfl rfl Tryd.underlying9 (k) (by omega) (by omega)) rfl ?_
    refine o_p (p_pure rfl) rfl ?_
    refine o_nil ?_
    refine s_cutI (α := Unit) [8, 27] (fun _ => [(8, .int .i64 (dI s (k + 1)))]) (fun _ => HS w [] []) (fun _ => True) ?_ ?_
    · skip
      refine s_cond rfl (fun h2 => ?_) (fun h2 => ?_)
      · try simp only [decide_eq_true_eq, decide_eq_false_iff_not, Bool.not_eq_true', Bool.not_eq_false', Bool.and_eq_true, Bool.or_eq_true, Bool.and_eq_false_iff, Bool.or_eq_false_iff, Bool.not_true, Bool.not_false] at h2
        have hd9 : dI s (k + 1) = (k : Int) := by rw [hds, if_pos ((e46 k).1 h2)]
        refine s_region ?_
        refine o_p (p_pure rfl) rfl ?_
        refine o_p (p_pure rfl) rfl ?_
        refine o_nil ?_
        exact s_joinI () trivial (by (try dsimp only); rw [hd9]; exact aSx) (fun w h => h.ent aEt)
      · try simp only [decide_eq_true_eq, decide_eq_false_iff_not, Bool.not_eq_true', Bool.not_eq_false', Bool.and_eq_true, Bool.or_eq_true, Bool.and_eq_false_iff, Bool.or_eq_false_iff, Bool.not_true, Bool.not_false] at h2
        have hd9 : dI s (k + 1) = dI s k := by rw [hds, if_neg (fun hA => h2 ((e46 k).2 hA))]
        refine s_skip ?_
        exact s_joinI () trivial (by (try dsimp only); rw [hd9]; exact aSx) (fun w h => h.ent aEt)
    · intro _ _
      refine s_blk ?_
      refine s_region ?_
      refine o_p (p_pure rfl) rfl ?_
      refine o_p (p_pure rfl) rfl ?_
      try (refine o_slot (i64w (by omega) (by omega)) ?_)
      refine o_p (p_pure rfl) rfl ?_
      refine o_nil ?_
      exact s_backI (k + 1) (by omega) (by omega) aSx (fun w h => h.ent aEt)
  · try simp only [decide_eq_true_eq, decide_eq_false_iff_not, Bool.not_eq_true', Bool.not_eq_false', Bool.and_eq_true, Bool.or_eq_true, Bool.and_eq_false_iff, Bool.or_eq_false_iff, Bool.not_true, Bool.not_false] at h1
    obtain rfl : k = s.length := by omega
    refine s_exit_to rfl ?_
    refine s_seq ?_
    refine s_region ?_
    refine o_p (p_pure rfl) rfl ?_
    refine o_p (p_pure rfl) rfl ?_
    refine o_p (p_pure rfl) rfl ?_
    refine o_nil ?_
    refine s_seq ?_
    refine s_seq ?_
    refine s_region ?_
    refine o_p (p_pure rfl) rfl ?_
    refine o_p (p_pure rfl) rfl ?_
    refine o_nil ?_
    refine s_cutI (α := Unit) [10, 11, 31, 32, 33, 34, 35, 36, 37] (fun _ => [(10, .string (bs (stemU s))), (11, .string (bs (tailU s)))]) (fun _ => HS w [] []) (fun _ => True) ?_ ?_
    · skip
      refine s_cond rfl (fun h3 => ?_) (fun h3 => ?_)
      · try simp only [decide_eq_true_eq, decide_eq_false_iff_not, Bool.not_eq_true', Bool.not_eq_false', Bool.and_eq_true, Bool.or_eq_true, Bool.and_eq_false_iff, Bool.or_eq_false_iff, Bool.not_true, Bool.not_false] at h3
        have hq := h3
        have hd2 : 0 < dotAt s := by unfold dI at hq; split at hq; assumption; omega
        have hd1 : dI s s.length = (dotAt s : Int) := by unfold dI; rw [if_pos (show 0 < dotTo s s.length from hd2)]; rfl
        have hd3 : dotAt s < s.length := dotTo_lt s s.length hp
        have hst : stemU s = s.take (dotAt s) := by rw [stemU, if_pos hd2]
        have htl : tailU s = s.drop (dotAt s + 1) := by rw [tailU, if_pos hd2]
        refine s_draw [] mixed ?_
        refine d_p 0 rfl (p_pure rfl) (by kernel_rfl) rfl rfl ?_
        refine d_p 1 rfl (p_pure rfl) (by kernel_rfl) rfl rfl ?_
        refine d_p 2 rfl (p_slice_str_to (dotAt s) rfl rfl rfl Tryd.underlying9 hd1 (by omega)) (by kernel_rfl) rfl rfl ?_
        refine d_p 3 rfl (p_pure rfl) (by kernel_rfl) rfl rfl ?_
        refine d_p 4 rfl (p_pure rfl) (by kernel_rfl) rfl rfl ?_
        refine d_p 5 rfl (p_pure rfl) (by kernel_rfl) rfl rfl ?_
        try (refine d_slot (i64w (by omega) (by omega)) ?_)
        refine d_slot (show _ = Value.int .i64 ((dotAt s + 1 : Nat) : Int) from by rw [hd1]; rfl) ?_
        refine d_p 6 rfl (p_slice_str_from (dotAt s + 1) rfl rfl rfl Tryd.underlying9 rfl (by omega)) (by kernel_rfl) rfl rfl ?_
        refine d_p 7 rfl (p_pure rfl) (by kernel_rfl) rfl rfl ?_
        refine d_p 8 rfl (p_pure rfl) (by kernel_rfl) rfl rfl ?_
        refine d_nil (by kernel_rfl) (fun w h => h.ent aEt) ?_
        exact s_joinI () trivial (by (try dsimp only); rw [hst, htl]; exact aSx) (fun w h => h.ent aEt)
      · try simp only [decide_eq_true_eq, decide_eq_false_iff_not, Bool.not_eq_true', Bool.not_eq_false', Bool.and_eq_true, Bool.or_eq_true, Bool.and_eq_false_iff, Bool.or_eq_false_iff, Bool.not_true, Bool.not_false] at h3
        have hq := h3
        have hd2 : dotAt s = 0 := by unfold dI at hq; split at hq; (omega); (show dotTo s s.length = 0; omega)
        have hst : stemU s = s := by rw [stemU, if_neg (by omega)]
        have htl : tailU s = [] := by rw [tailU, if_neg (by omega)]
        refine s_skip ?_
        exact s_joinI () trivial (by (try dsimp only); rw [hst, htl]; exact aSx) (fun w h => h.ent aEt)
    · intro _ _
      refine s_seq ?_
      refine s_region ?_
      refine o_p (p_pure rfl) rfl ?_
      refine o_p (p_pure rfl) rfl ?_
      refine o_q (q_call rfl fn_65 rfl (fun w1 h1 => c65 w1 t (stemU s) hl hcs (by omega))) rfl ?_
      refine o_p (p_pure rfl) rfl ?_
      refine o_p (p_pure rfl) rfl ?_
      refine o_q (q_call rfl fn_65 rfl (fun w1 h1 => c65 w1 t (tailU s) hl hct (by omega))) rfl ?_
      refine o_p (p_pure rfl) rfl ?_
      refine o_p (p_pure rfl) rfl ?_
      refine o_nil ?_
      refine s_seq ?_
      refine s_seq ?_
      refine s_region ?_
      refine o_p (p_pure rfl) rfl ?_
      refine o_p (p_pure rfl) rfl ?_
      refine o_nil ?_
      refine s_cond rfl (fun h4 => ?_) (fun h4 => ?_)
      · try simp only [decide_eq_true_eq, decide_eq_false_iff_not, Bool.not_eq_true', Bool.not_eq_false', Bool.and_eq_true, Bool.or_eq_true, Bool.and_eq_false_iff, Bool.or_eq_false_iff, Bool.not_true, Bool.not_false] at h4
        have hz : keptU t (stemU s) = [] := h4
        refine s_seq ?_
        refine s_region ?_
        refine o_p (p_pure rfl) rfl ?_
        refine o_p (p_pure rfl) rfl ?_
        refine o_nil ?_
        exact s_retv (rs := [.tmp 6, .tmp 7]) rfl (.tmp rfl (.tmp rfl (.nil))) (fun w' h' => ⟨by rw [shortU, if_pos hz]; rfl, h'.below⟩)
      · try simp only [decide_eq_true_eq, decide_eq_false_iff_not, Bool.not_eq_true', Bool.not_eq_false', Bool.and_eq_true, Bool.or_eq_true, Bool.and_eq_false_iff, Bool.or_eq_false_iff, Bool.not_true, Bool.not_false] at h4
        have hz : ¬ keptU t (stemU s) = [] := h4
        refine s_skip ?_
        refine s_seq ?_
        refine s_seq ?_
        refine s_region ?_
        refine o_p (p_pure rfl) rfl ?_
        refine o_nil ?_
        refine s_block ?_
        refine s_weaken (L' := [(0, _), (1, _), (2, _), (6, _), (7, _), (8, _), (9, _), (10, _), (11, _), (12, _)]) aSx (fun _ h => h) ?_
        refine s_loopI (α := Nat) [6, 7, 12, 13, 14, 15, 16, 46, 47, 48, 49, 50, 51, 52, 53, 54, 55, 56, 57, 58, 59, 60, 61, 62, 63, 64, 65, 66, 67, 68, 69, 70, 71, 72, 73, 74, 75, 76, 77, 78, 79, 80, 81, 82, 83, 84, 85, 86] (fun n => [(12, .int .i64 (n : Int))]) (fun _ => HS w [] []) (fun n => 1 ≤ n ∧ n ≤ 1000 ∧ tryN t s (l.map (up t)) 1 999 = tryN t s (l.map (up t)) n (1000 - n)) (fun n => 1000 - n) 1 ⟨by omega, by omega, rfl⟩ aSx (fun w h => h.ent aEt) (fun n hnn => ?_)
        obtain ⟨hn0, hn1, hn2⟩ := hnn
        refine s_seq ?_
        refine s_seq ?_
        refine s_region ?_
        refine o_p (p_pure rfl) rfl ?_
        refine o_p (p_pure rfl) rfl ?_
        refine o_nil ?_
        refine s_cond rfl (fun h5 => ?_) (fun h5 => ?_)
        · try simp only [decide_eq_true_eq, decide_eq_false_iff_not, Bool.not_eq_true', Bool.not_eq_false', Bool.and_eq_true, Bool.or_eq_true, Bool.and_eq_false_iff, Bool.or_eq_false_iff, Bool.not_true, Bool.not_false] at h5
          have hn9 : n ≤ 999 := by omega
          have hel := end_len hn9
          have hel2 : (Lib.itoa (n : Int)).length + 1 = (endU n).length := rfl
          obtain ⟨f, hf⟩ : ∃ f, 1000 - n = f + 1 := ⟨999 - n, by omega⟩
          have hcl := cand_len (t := t) (s := s) hn9
          refine s_skip ?_
          refine s_seq ?_
          refine s_block ?_
          refine s_seq ?_
          refine s_region ?_
          refine o_p (p_pure rfl) rfl ?_
          refine o_q (q_call rfl fn_66 rfl (fun w1 h1 => c66 w1 n (by omega))) rfl ?_
          refine o_p (p_str_add rfl rfl rfl (by (try simp only [List.length_append, List.length_cons, List.length_nil, List.length_replicate, List.length_take, List.length_drop]); omega)) rfl ?_
          refine o_slot (show _ = Value.string (bs (endU n)) from rfl) ?_
          refine o_p (p_pure rfl) rfl ?_
          refine o_nil ?_
          refine s_seq ?_
          refine s_region ?_
          refine o_p (p_pure rfl) rfl ?_
          refine o_p (p_pure rfl) rfl ?_
          refine o_p (p_len_str rfl rfl Tryd.underlying9) rfl ?_
          refine o_p (p_pure rfl) rfl ?_
          try (refine o_slot (i64w (by omega) (by omega)) ?_)
          refine o_p (p_min2 rfl rfl rfl ) rfl ?_
          refine o_slot (show _ = Value.int .i64 ((min 6 (8 - (endU n).length) : Nat) : Int) from by congr 1; split <;> omega) ?_
          refine o_q (q_call rfl fn_67 rfl (fun w1 h1 => c67 w1 (keptU t (stemU s)) (min 6 (8 - (endU n).length)) (by omega) (by omega))) rfl ?_
          refine o_p (p_pure rfl) rfl ?_
          refine o_p (p_str_add rfl rfl rfl (by (try simp only [List.length_append, List.length_cons, List.length_nil, List.length_replicate, List.length_take, List.length_drop]); omega)) rfl ?_
          refine o_p (p_pure rfl) rfl ?_
          refine o_nil ?_
          refine s_seq ?_
          refine s_seq ?_
          refine s_region ?_
          refine o_p (p_pure rfl) rfl ?_
          refine o_p (p_pure rfl) rfl ?_
          refine o_nil ?_
          refine s_weaken (L' := [(0, _), (1, _), (2, _), (8, _), (9, _), (10, _), (11, _), (12, _), (14, _), (62, _)]) aSx (fun _ h => h) ?_
          refine s_cutI (α := Unit) [14, 63, 64, 65, 66, 67] (fun _ => [(14, .string (bs (candU t s n)))]) (fun _ => HS w [] []) (fun _ => True) ?_ ?_
          · skip
            refine s_cond rfl (fun h6 => ?_) (fun h6 => ?_)
            · try simp only [decide_eq_true_eq, decide_eq_false_iff_not, Bool.not_eq_true', Bool.not_eq_false', Bool.and_eq_true, Bool.or_eq_true, Bool.and_eq_false_iff, Bool.or_eq_false_iff, Bool.not_true, Bool.not_false] at h6
              have h3e : candU t s n = (keptU t (stemU s)).take (min 6 (8 - (endU n).length)) ++ endU n ++ [46] ++ (keptU t (tailU s)).take 3 := by rw [candU, tail3, if_neg h6, List.append_assoc _ [46] _]; rfl
              refine s_region ?_
              refine o_p (p_pure rfl) rfl ?_
              refine o_p (p_str_add rfl rfl rfl (by (try simp only [List.length_append, List.length_cons, List.length_nil, List.length_replicate, List.length_take, List.length_drop]); omega)) rfl ?_
              refine o_p (p_pure rfl) rfl ?_
              refine o_q (q_call rfl fn_67 rfl (fun w1 h1 => c67 w1 (keptU t (tailU s)) 3 (by omega) (by omega))) rfl ?_
              refine o_p (p_str_add rfl rfl rfl (by (try simp only [List.length_append, List.length_cons, List.length_nil, List.length_replicate, List.length_take, List.length_drop]); omega)) rfl ?_
              refine o_p (p_pure rfl) rfl ?_
              refine o_nil ?_
              exact s_joinI () trivial (by (try dsimp only); rw [h3e]; exact aSx) (fun w h => h.ent aEt)
            · try simp only [decide_eq_true_eq, decide_eq_false_iff_not, Bool.not_eq_true', Bool.not_eq_false', Bool.and_eq_true, Bool.or_eq_true, Bool.and_eq_false_iff, Bool.or_eq_false_iff, Bool.not_true, Bool.not_false] at h6
              have h3e : candU t s n = (keptU t (stemU s)).take (min 6 (8 - (endU n).length)) ++ endU n := by rw [candU, tail3, if_pos h6, List.append_nil]
              refine s_skip ?_
              exact s_joinI () trivial (by (try dsimp only); rw [h3e]; exact aSx) (fun w h => h.ent aEt)
          · intro _ _
            refine s_seq ?_
            refine s_region ?_
            refine o_p (p_pure rfl) rfl ?_
            refine o_nil ?_
            refine s_seq ?_
            refine s_seq ?_
            refine s_region ?_
            refine o_p (p_pure rfl) rfl ?_
            refine o_nil ?_
            refine s_block ?_
            refine s_loopI (α := Nat) [15, 16, 68, 69, 70, 71, 72, 73, 74, 75, 76, 77, 78, 79, 80, 81, 82, 83, 84] (fun i => [(16, .int .i64 (i : Int)), (15, .bool ((l.take i).all fun y => !sameU t (candU t s n) y))]) (fun _ => HS w [] []) (fun i => i ≤ l.length) (fun i => l.length - i) 0 (Nat.zero_le _) aSx (fun w h => h.ent aEt) (fun i hi1 => ?_)
            refine s_seq ?_
            refine s_seq ?_
            refine s_region ?_
            refine o_p (p_pure rfl) rfl ?_
            refine o_p (p_pure rfl) rfl ?_
            refine o_p (p_len_slice rfl rfl Tryd.underlying29) rfl ?_
            refine o_p (p_pure rfl) rfl ?_
            refine o_nil ?_
            refine s_cond rfl (fun h7 => ?_) (fun h7 => ?_)
            · try simp only [decide_eq_true_eq, decide_eq_false_iff_not, Bool.not_eq_true', Bool.not_eq_false', Bool.and_eq_true, Bool.or_eq_true, Bool.and_eq_false_iff, Bool.or_eq_false_iff, Bool.not_true, Bool.not_false] at h7
              have hi : i < l.length := by omega
              have hfs := free_succ (t := t) (x := (candU t s n)) hi
              refine s_skip ?_
              refine s_seq ?_
              refine s_block ?_
              refine s_region ?_
              refine o_p (p_pure rfl) rfl ?_
              refine o_p (p_pure rfl) rfl ?_
              refine o_and 9 75 84 _ _ rfl
                (by
                  intro hg8
                  have hs9 := hg8; try simp only [decide_eq_true_eq, decide_eq_false_iff_not, Bool.not_eq_true', Bool.not_eq_false', Bool.and_eq_true, Bool.or_eq_true, Bool.and_eq_false_iff, Bool.or_eq_false_iff, Bool.not_true, Bool.not_false] at hs9
                  refine o_on 75 _ rfl rfl hg8 ?_
                  refine o_p (p_pure rfl) rfl ?_
                  refine o_on 75 _ rfl rfl hg8 ?_
                  refine o_p (p_pure rfl) rfl ?_
                  refine o_on 75 _ rfl rfl hg8 ?_
                  refine o_p (p_pure rfl) rfl ?_
                  refine o_on 75 _ rfl rfl hg8 ?_
                  refine o_p (p_pure rfl) rfl ?_
                  refine o_on 75 _ rfl rfl hg8 ?_
                  refine o_p (p_indexAddr rfl rfl rfl sl_29 (i) (by omega) (by omega) (hs.some (by rw [List.length_map]; omega))) rfl ?_
                  refine o_on 75 _ rfl rfl hg8 ?_
                  refine o_q (q_load_old rfl rfl sz_9 ((hs.rd (str_get' (k := i) hi)))) rfl ?_
                  refine o_on 75 _ rfl rfl hg8 ?_
                  refine o_q (q_call rfl fn_48 rfl (fun w1 h1 => c48 w1 t (candU t s n) (l.getD i []) hl cand_lt (hlc _ (getD_mem hi)) (by omega) (hml _ (getD_mem hi)))) rfl ?_
                  refine o_on 75 _ rfl rfl hg8 ?_
                  refine o_p (p_pure rfl) rfl ?_
                  refine o_p (p_pickt rfl rfl hg8 rfl) rfl ?_
                  refine o_nil ?_
                  exact s_joinN 9 84 _ rfl rfl rfl (fun w h => by first | exact h | exact h.ent aEt))
                (by
                  intro hg10
                  have hs11 := hg10; try simp only [decide_eq_true_eq, decide_eq_false_iff_not, Bool.not_eq_true', Bool.not_eq_false', Bool.and_eq_true, Bool.or_eq_true, Bool.and_eq_false_iff, Bool.or_eq_false_iff, Bool.not_true, Bool.not_false] at hs11
                  refine o_off 75 _ rfl rfl hg10 rfl ?_
                  refine o_off 75 _ rfl rfl hg10 rfl ?_
                  refine o_off 75 _ rfl rfl hg10 rfl ?_
                  refine o_off 75 _ rfl rfl hg10 rfl ?_
                  refine o_off 75 _ rfl rfl hg10 rfl ?_
                  refine o_off 75 _ rfl rfl hg10 rfl ?_
                  refine o_off 75 _ rfl rfl hg10 rfl ?_
                  refine o_off 75 _ rfl rfl hg10 rfl ?_
                  refine o_p (p_pickf rfl rfl hg10 rfl) rfl ?_
                  refine o_nil ?_
                  exact s_joinN 9 84 _ rfl rfl rfl (fun w h => by first | exact h | exact h.ent aEt)) ?_
              refine o_slot (show _ = Value.bool ((l.take (i + 1)).all fun y => !sameU t (candU t s n) y) from by rw [hfs]) ?_
              refine o_p (p_pure rfl) rfl ?_
              refine o_nil ?_
              refine s_blk ?_
              refine s_region ?_
              refine o_p (p_pure rfl) rfl ?_
              refine o_p (p_pure rfl) rfl ?_
              try (refine o_slot (i64w (by omega) (by omega)) ?_)
              refine o_p (p_pure rfl) rfl ?_
              refine o_nil ?_
              exact s_backI (i + 1) (by omega) (by omega) aSx (fun w h => h.ent aEt)
            · try simp only [decide_eq_true_eq, decide_eq_false_iff_not, Bool.not_eq_true', Bool.not_eq_false', Bool.and_eq_true, Bool.or_eq_true, Bool.and_eq_false_iff, Bool.or_eq_false_iff, Bool.not_true, Bool.not_false] at h7
              obtain rfl : i = l.length := by omega
              have hfe := free_end (t := t) (x := (candU t s n)) (l := l)
              rw [List.take_length]
              refine s_exit_to rfl ?_
              refine s_seq ?_
              refine s_region ?_
              refine o_p (p_pure rfl) rfl ?_
              refine o_nil ?_
              refine s_cond rfl (fun h12 => ?_) (fun h12 => ?_)
              · try simp only [decide_eq_true_eq, decide_eq_false_iff_not, Bool.not_eq_true', Bool.not_eq_false', Bool.and_eq_true, Bool.or_eq_true, Bool.and_eq_false_iff, Bool.or_eq_false_iff, Bool.not_true, Bool.not_false] at h12
                have hin : ¬ up t (candU t s n) ∈ (l.map (up t)) := by have hq := h12; rw [hfe] at hq; simpa using hq
                refine s_seq ?_
                refine s_region ?_
                refine o_p (p_pure rfl) rfl ?_
                refine o_p (p_pure rfl) rfl ?_
                refine o_p (p_pure rfl) rfl ?_
                refine o_nil ?_
                exact s_retv (rs := [.tmp 6, .tmp 7]) rfl (.tmp rfl (.tmp rfl (.nil))) (fun w' h' => ⟨by rw [shortU, if_neg hz, hn2, hf, tryN, if_neg hin]; rfl, h'.below⟩)
              · try simp only [decide_eq_true_eq, decide_eq_false_iff_not, Bool.not_eq_true', Bool.not_eq_false', Bool.and_eq_true, Bool.or_eq_true, Bool.and_eq_false_iff, Bool.or_eq_false_iff, Bool.not_true, Bool.not_false] at h12
                have hin : up t (candU t s n) ∈ (l.map (up t)) := by have hq := h12; rw [hfe] at hq; simpa using hq
                refine s_skip ?_
                refine s_blk ?_
                refine s_region ?_
                refine o_p (p_pure rfl) rfl ?_
                refine o_p (p_pure rfl) rfl ?_
                try (refine o_slot (i64w (by omega) (by omega)) ?_)
                refine o_p (p_pure rfl) rfl ?_
                refine o_nil ?_
                exact s_backI (n + 1) (by omega) ⟨by omega, by omega, by rw [hn2, hf, tryN, if_pos hin, show 1000 - (n + 1) = f by omega]⟩ aSx (fun w h => h.ent aEt)
        · try simp only [decide_eq_true_eq, decide_eq_false_iff_not, Bool.not_eq_true', Bool.not_eq_false', Bool.and_eq_true, Bool.or_eq_true, Bool.and_eq_false_iff, Bool.or_eq_false_iff, Bool.not_true, Bool.not_false] at h5
          obtain rfl : n = 1000 := by omega
          refine s_exit_to rfl ?_
          refine s_seq ?_
          refine s_region ?_
          refine o_p (p_pure rfl) rfl ?_
          refine o_p (p_pure rfl) rfl ?_
          refine o_nil ?_
          exact s_retv (rs := [.tmp 6, .tmp 7]) rfl (.tmp rfl (.tmp rfl (.nil))) (fun w' h' => ⟨by rw [shortU, if_neg hz, hn2]; rfl, h'.below⟩)

end Go.Proofs

/- Chapter 5, plain: short names of lists. No program here. -/
namespace Go.Proofs
open Go Go.RowKit Gx
set_option linter.unusedVariables false
/-- The short names of names, beside upper cases that are taken; behind those already made. -/
def shF (t : List UInt8) : List (List UInt8) → List (List UInt8) → List (List UInt8) → List (List UInt8) × Int
  | [], _, acc => (acc, 0)
  | s :: l, ks, acc => if shortS (up t s) = true then shF t l ks (acc ++ [[]]) else if (shortU t s ks).2 = 0 then shF t l (up t (shortU t s ks).1 :: ks) (acc ++ [(shortU t s ks).1]) else ([], (shortU t s ks).2)
theorem shF_congr {t : List UInt8} : ∀ {l ks ks' acc : List (List UInt8)}, (∀ a, a ∈ ks ↔ a ∈ ks') → shF t l ks acc = shF t l ks' acc
  | [], _, _, _, _ => rfl
  | s :: l, ks, ks', acc, h => by
    unfold shF
    rw [shF_congr (l := l) h, shortU_congr h]
    split
    · rfl
    · split
      · exact shF_congr (l := l) fun a => by rw [List.mem_cons, List.mem_cons, h]
      · rfl
theorem shF_err {t : List UInt8} : ∀ {l ks acc : List (List UInt8)}, ¬ (shF t l ks acc).2 = 0 → (shF t l ks acc).1 = []
  | [], _, _, h => absurd rfl h
  | s :: l, ks, acc, h => by
    unfold shF at h ⊢
    split at h
    · rename_i h1; rw [if_pos h1]; exact shF_err h
    · rename_i h1
      rw [if_neg h1]
      split at h
      · rename_i h2; rw [if_pos h2]; exact shF_err h
      · rename_i h2; rw [if_neg h2]
theorem drop_getD {l : List (List UInt8)} {k : Nat} (h : k < l.length) : l.drop k = l.getD k [] :: l.drop (k + 1) := by
  rw [List.drop_eq_getElem_cons h, List.getD_eq_getElem?_getD, List.getElem?_eq_getElem h]
  rfl
theorem shF_short {t : List UInt8} {l ks acc : List (List UInt8)} {k : Nat} (h : k < l.length) (h1 : shortS (up t (l.getD k [])) = true) : shF t (l.drop k) ks acc = shF t (l.drop (k + 1)) ks (acc ++ [[]]) := by
  rw [drop_getD h, shF, if_pos h1]
theorem shF_long {t : List UInt8} {l ks acc : List (List UInt8)} {k : Nat} (h : k < l.length) (h1 : ¬ shortS (up t (l.getD k [])) = true) (h2 : (shortU t (l.getD k []) ks).2 = 0) : shF t (l.drop k) ks acc = shF t (l.drop (k + 1)) (up t (shortU t (l.getD k []) ks).1 :: ks) (acc ++ [(shortU t (l.getD k []) ks).1]) := by
  rw [drop_getD h, shF, if_neg h1, if_pos h2]
theorem shF_bad {t : List UInt8} {l ks acc : List (List UInt8)} {k : Nat} (h : k < l.length) (h1 : ¬ shortS (up t (l.getD k [])) = true) (h2 : ¬ (shortU t (l.getD k []) ks).2 = 0) : shF t (l.drop k) ks acc = ([], (shortU t (l.getD k []) ks).2) := by
  rw [drop_getD h, shF, if_neg h1, if_neg h2]
theorem shF_end {t : List UInt8} {l ks acc : List (List UInt8)} : shF t (l.drop l.length) ks acc = (acc, 0) := by
  rw [List.drop_length]; rfl
/-- What is found is a candidate. -/
theorem tryN_cand {t s : List UInt8} {ks : List (List UInt8)} : ∀ {f n : Nat}, n + f ≤ 1000 → (tryN t s ks n f).2 = 0 → ∃ m, n ≤ m ∧ m ≤ 999 ∧ (tryN t s ks n f).1 = candU t s m ∧ ¬ up t (candU t s m) ∈ ks
  | 0, n, _, h => absurd h (by simp [tryN])
  | f + 1, n, hn, h => by
    unfold tryN at h ⊢
    by_cases hm : up t (candU t s n) ∈ ks
    · rw [if_pos hm] at h ⊢
      obtain ⟨m, h1, h2⟩ := tryN_cand (by omega) h
      exact ⟨m, by omega, h2⟩
    · rw [if_neg hm]
      exact ⟨n, Nat.le_refl _, by omega, rfl, hm⟩
theorem shortU_cand {t s : List UInt8} {ks : List (List UInt8)} (h : (shortU t s ks).2 = 0) : ¬ keptU t (stemU s) = [] ∧ ∃ m, 1 ≤ m ∧ m ≤ 999 ∧ (shortU t s ks).1 = candU t s m ∧ ¬ up t (candU t s m) ∈ ks := by
  unfold shortU at h ⊢
  by_cases hz : keptU t (stemU s) = []
  · rw [if_pos hz] at h; exact absurd h (by decide)
  · rw [if_neg hz] at h ⊢
    exact ⟨hz, tryN_cand (by omega) h⟩
theorem shortU_lt {t s : List UInt8} {ks : List (List UInt8)} (h : (shortU t s ks).2 = 0) : (∀ c ∈ (shortU t s ks).1, c.toNat < 128) ∧ (shortU t s ks).1.length ≤ 14 := by
  obtain ⟨_, m, h1, h2, h3, _⟩ := shortU_cand h
  rw [h3]
  exact ⟨cand_lt, cand_len h2⟩
/-! ## Names of which two are the same -/
def dupU (t : List UInt8) (l : List (List UInt8)) : Bool := decide (¬ (l.map (up t)).Nodup)
theorem ins_len : ∀ {l ks : List (List UInt8)}, (l.foldl insK' ks).length ≤ ks.length + l.length ∧ ((l.foldl insK' ks).length = ks.length + l.length ↔ l.Nodup ∧ ∀ x ∈ l, x ∉ ks)
  | [], ks => by simp
  | a :: l, ks => by
    rw [List.foldl_cons, List.length_cons]
    by_cases h : a ∈ ks
    · have e : insK' ks a = ks := by unfold insK'; rw [if_pos h]
      rw [e]
      have ih := (ins_len (l := l) (ks := ks)).1
      refine ⟨by omega, fun h9 => absurd h9 (by omega), fun h9 => absurd h (h9.2 a (List.mem_cons_self ..))⟩
    · have e : insK' ks a = ks ++ [a] := by unfold insK'; rw [if_neg h]
      rw [e]
      have ih := ins_len (l := l) (ks := ks ++ [a])
      rw [List.length_append, List.length_singleton] at ih
      refine ⟨by omega, ?_⟩
      rw [show ks.length + (l.length + 1) = ks.length + 1 + l.length by omega, ih.2, List.nodup_cons]
      constructor
      · rintro ⟨h1, h2⟩
        refine ⟨⟨fun hm => h2 a hm (by simp), h1⟩, fun x hx => ?_⟩
        rcases List.mem_cons.1 hx with rfl | hx
        · exact h
        · exact fun hm => h2 x hx (by simp [hm])
      · rintro ⟨⟨h1, h2⟩, h3⟩
        refine ⟨h2, fun x hx hm => ?_⟩
        rcases List.mem_append.1 hm with hm | hm
        · exact h3 x (List.mem_cons_of_mem _ hx) hm
        · rw [List.mem_singleton.1 hm] at hx; exact h1 hx
def shsE (t : List UInt8) (l : List (List UInt8)) : Int := if namesE l = 0 then if dupU t l = true then 5 else 0 else namesE l
theorem nodup_take {t : List UInt8} {l : List (List UInt8)} {i : Nat} (h : i < l.length) (h1 : ((l.take i).map (up t)).Nodup) (h2 : ∀ k, k < i → ¬ up t (l.getD i []) = up t (l.getD k [])) : ((l.take (i + 1)).map (up t)).Nodup := by
  rw [take_succ_getD (d := []) h, List.map_append, List.nodup_append]
  refine ⟨h1, by simp, fun a ha b hb e => ?_⟩
  simp only [List.map_cons, List.map_nil, List.mem_singleton] at hb
  obtain ⟨x, hx, e2⟩ := List.mem_map.1 ha
  obtain ⟨k, hk, e3⟩ := mem_getD (d := []) hx
  rw [List.length_take] at hk
  refine h2 k (by omega) ?_
  rw [← hb, ← e, ← e2, ← e3, List.getD_eq_getElem?_getD, List.getD_eq_getElem?_getD, List.getElem?_take, if_pos (by omega)]
theorem dup_hit {t : List UInt8} {l : List (List UInt8)} {i k : Nat} (hk : k < i) (hi : i < l.length) (h : up t (l.getD i []) = up t (l.getD k [])) : dupU t l = true := by
  unfold dupU
  rw [decide_eq_true_eq]
  intro hn
  have h2 := List.pairwise_iff_getElem.1 hn k i (by rw [List.length_map]; omega) (by rw [List.length_map]; exact hi) hk
  rw [List.getElem_map, List.getElem_map] at h2
  rw [List.getD_eq_getElem?_getD, List.getD_eq_getElem?_getD, List.getElem?_eq_getElem hi, List.getElem?_eq_getElem (by omega : k < l.length)] at h
  exact h2 h.symm
end Go.Proofs

namespace Go.Proofs
open Go Go.RowKit Gx
set_option linter.unusedVariables false
set_option linter.unusedSimpArgs false
attribute [local irreducible] Go.Calls Gx.S Gx.O Gx.D Gx.OpP Gx.OpQ Gx.OpH

theorem fn_64 : isFn Tryd.prog 64 = true := by kernel_rfl


def shA (t : List UInt8) (l : List (List UInt8)) : List (List UInt8) × Int := if openL t l = 0 then if dupU t l = true then ([], 5) else shF t l (l.map (up t)) [] else ([], openL t l)
theorem mem_ins {ks : List (List UInt8)} {a x : List UInt8} : x ∈ a :: ks ↔ x ∈ insK' ks a := by
  unfold insK'
  by_cases h : a ∈ ks
  · rw [if_pos h, List.mem_cons]
    exact ⟨fun h2 => h2.elim (fun e => e ▸ h) id, .inr⟩
  · rw [if_neg h, List.mem_cons, List.mem_append, List.mem_singleton]
    exact or_comm
theorem openL_ok {t : List UInt8} {l : List (List UInt8)} (h : openL t l = 0) : (chkTab t).2 = 0 ∧ namesE l = 0 := by
  unfold openL at h
  split at h
  · rename_i h1; exact ⟨h1, h⟩
  · rename_i h1; exact absurd h h1
theorem ups_len {t : List UInt8} {l : List (List UInt8)} : (upsU t l).length < l.length ↔ dupU t l = true := by
  have h := ins_len (l := l.map (up t)) (ks := [])
  simp only [List.length_nil, List.length_map, Nat.zero_add, List.not_mem_nil, not_false_eq_true, implies_true, and_true] at h
  unfold upsU dupU
  rw [decide_eq_true_eq, ← h.2]
  omega

set_option maxRecDepth 20000 in
theorem c29 (w : World) (a b : Option Addr) (ca cb : Nat) (l : List (List UInt8)) (ha : Vl w a (l.map strV)) (hb : Vl w b (l.map strV)) (hm : l.length ≤ 1000000) : Calls Tryd.prog 29 #[.slice a l.length ca, .slice b l.length cb] w fun en w' => en = .returned (.bool true) ∧ Below w.heap.size w w' := by
  refine enter (args := [_, _]) Tryd.func29 Tryd.ntmps29 rfl rfl (HS.refl w []) ?_
  refine s_seq ?_
  refine s_region ?_
  refine o_p (p_pure rfl) rfl ?_
  refine o_nil ?_
  refine s_seq ?_
  refine s_seq ?_
  refine s_region ?_
  refine o_p (p_pure rfl) rfl ?_
  refine o_p (p_len_slice rfl rfl Tryd.underlying29) rfl ?_
  refine o_p (p_pure rfl) rfl ?_
  refine o_p (p_len_slice rfl rfl Tryd.underlying29) rfl ?_
  refine o_p (p_pure rfl) rfl ?_
  refine o_nil ?_
  refine s_cond rfl (fun h1 => ?_) (fun h1 => ?_)
  · try simp only [decide_eq_true_eq, decide_eq_false_iff_not, Bool.not_eq_true', Bool.not_eq_false', Bool.and_eq_true, Bool.or_eq_true, Bool.and_eq_false_iff, Bool.or_eq_false_iff, Bool.not_true, Bool.not_false] at h1
    exfalso; first | omega | (simp at h1; done) | (simp_all; done)
  · try simp only [decide_eq_true_eq, decide_eq_false_iff_not, Bool.not_eq_true', Bool.not_eq_false', Bool.and_eq_true, Bool.or_eq_true, Bool.and_eq_false_iff, Bool.or_eq_false_iff, Bool.not_true, Bool.not_false] at h1
    refine s_skip ?_
    refine s_seq ?_
    refine s_seq ?_
    refine s_region ?_
    refine o_p (p_pure rfl) rfl ?_
    refine o_nil ?_
    refine s_block ?_
    refine s_loopI (α := Nat) [4, 5, 11, 12, 13, 14, 15, 16, 17, 18, 19, 20, 21, 22, 23, 24, 25] (fun k => [(5, .int .i64 (k : Int))]) (fun _ => HS w [] []) (fun k => k ≤ l.length) (fun k => l.length - k) 0 (by simp) aSx (fun w h => h.ent aEt) (fun k hk => ?_)
    refine s_seq ?_
    refine s_seq ?_
    refine s_region ?_
    refine o_p (p_pure rfl) rfl ?_
    refine o_p (p_pure rfl) rfl ?_
    refine o_p (p_len_slice rfl rfl Tryd.underlying29) rfl ?_
    refine o_p (p_pure rfl) rfl ?_
    refine o_nil ?_
    refine s_cond rfl (fun h2 => ?_) (fun h2 => ?_)
    · try simp only [decide_eq_true_eq, decide_eq_false_iff_not, Bool.not_eq_true', Bool.not_eq_false', Bool.and_eq_true, Bool.or_eq_true, Bool.and_eq_false_iff, Bool.or_eq_false_iff, Bool.not_true, Bool.not_false] at h2
      have hkl : k < l.length := by omega
      refine s_skip ?_
      refine s_seq ?_
      refine s_block ?_
      refine s_seq ?_
      refine s_draw [] mixed ?_
      refine d_p 0 rfl (p_pure rfl) (by kernel_rfl) rfl rfl ?_
      refine d_p 1 rfl (p_pure rfl) (by kernel_rfl) rfl rfl ?_
      refine d_p 2 rfl (p_indexAddr rfl rfl rfl sl_29 (k) (by omega) (by omega) (ha.some (by rw [List.length_map]; omega))) (by kernel_rfl) rfl rfl ?_
      refine d_q 3 [] rfl (q_load_old rfl rfl sz_9 ((ha.rd (str_get' (k := k) hkl)))) (by kernel_rfl) (by kernel_rfl) (by kernel_rfl) rfl ?_
      refine d_p 4 rfl (p_pure rfl) (by kernel_rfl) rfl rfl ?_
      refine d_p 5 rfl (p_pure rfl) (by kernel_rfl) rfl rfl ?_
      refine d_p 6 rfl (p_indexAddr rfl rfl rfl sl_29 (k) (by omega) (by omega) (hb.some (by rw [List.length_map]; omega))) (by kernel_rfl) rfl rfl ?_
      refine d_q 7 [] rfl (q_load_old rfl rfl sz_9 ((hb.rd (str_get' (k := k) hkl)))) (by kernel_rfl) (by kernel_rfl) (by kernel_rfl) rfl ?_
      refine d_p 8 rfl (p_pure rfl) (by kernel_rfl) rfl rfl ?_
      refine d_nil (by kernel_rfl) (fun w h => h.ent aEt) ?_
      refine s_cond rfl (fun h3 => ?_) (fun h3 => ?_)
      · try simp only [decide_eq_true_eq, decide_eq_false_iff_not, Bool.not_eq_true', Bool.not_eq_false', Bool.and_eq_true, Bool.or_eq_true, Bool.and_eq_false_iff, Bool.or_eq_false_iff, Bool.not_true, Bool.not_false] at h3
        exfalso; first | omega | (simp at h3; done) | (simp_all; done)
      · try simp only [decide_eq_true_eq, decide_eq_false_iff_not, Bool.not_eq_true', Bool.not_eq_false', Bool.and_eq_true, Bool.or_eq_true, Bool.and_eq_false_iff, Bool.or_eq_false_iff, Bool.not_true, Bool.not_false] at h3
        refine s_skip ?_
        refine s_blk ?_
        refine s_region ?_
        refine o_p (p_pure rfl) rfl ?_
        refine o_p (p_pure rfl) rfl ?_
        try (refine o_slot (i64w (by omega) (by omega)) ?_)
        refine o_p (p_pure rfl) rfl ?_
        refine o_nil ?_
        exact s_backI (k + 1) (by omega) (by omega) aSx (fun w h => h.ent aEt)
    · try simp only [decide_eq_true_eq, decide_eq_false_iff_not, Bool.not_eq_true', Bool.not_eq_false', Bool.and_eq_true, Bool.or_eq_true, Bool.and_eq_false_iff, Bool.or_eq_false_iff, Bool.not_true, Bool.not_false] at h2
      refine s_exit_to rfl ?_
      refine s_seq ?_
      refine s_region ?_
      refine o_p (p_pure rfl) rfl ?_
      refine o_nil ?_
      exact s_retv (rs := [.tmp 4]) rfl (.tmp rfl (.nil)) (fun w' h' => ⟨rfl, h'.below⟩)

set_option maxRecDepth 20000 in
set_option maxHeartbeats 2000000 in
theorem c26 (w : World) (t : List UInt8) (a : Option Addr) (cap : Nat) (l : List (List UInt8)) (hmt : t.length ≤ 1000000) (hs : Vl w a (l.map strV)) (hln : l.length ≤ 1000000) (hml : ∀ s ∈ l, s.length ≤ 1000000) (ht : TabOk w) : Calls Tryd.prog 26 #[.string (bs t), .slice a l.length cap] w fun en w' => ∃ g : Option Addr × Nat, en = .returned (.tuple #[.slice g.1 (shA t l).1.length g.2, .int .i64 (shA t l).2]) ∧ True ∧ HS w [] [.own (.slice g.1 (shA t l).1.length g.2) 9 1 (shA t l).1.length ((shA t l).1.map strV)] w' := by
  refine enter (args := [_, _]) Tryd.func26 Tryd.ntmps26 rfl rfl (HS.refl w []) ?_
  refine s_seq ?_
  refine s_region ?_
  refine o_p (p_pure rfl) rfl ?_
  refine o_p (p_pure rfl) rfl ?_
  refine o_nil ?_
  refine s_seq ?_
  refine s_region ?_
  refine o_p (p_pure rfl) rfl ?_
  refine o_p (p_pure rfl) rfl ?_
  refine o_q (q_call rfl fn_64 rfl (fun w1 h1 => c64 w1 t a cap l hmt (hs.later h1) hln hml)) rfl ?_
  refine o_p (p_pure rfl) rfl ?_
  refine o_p (p_pure rfl) rfl ?_
  refine o_p (p_pure rfl) rfl ?_
  refine o_p (p_pure rfl) rfl ?_
  refine o_p (p_pure rfl) rfl ?_
  refine o_nil ?_
  refine s_seq ?_
  refine s_seq ?_
  refine s_region ?_
  refine o_p (p_pure rfl) rfl ?_
  refine o_p (p_pure rfl) rfl ?_
  refine o_nil ?_
  refine s_cond rfl (fun h1 => ?_) (fun h1 => ?_)
  · try simp only [decide_eq_true_eq, decide_eq_false_iff_not, Bool.not_eq_true', Bool.not_eq_false', Bool.and_eq_true, Bool.or_eq_true, Bool.and_eq_false_iff, Bool.or_eq_false_iff, Bool.not_true, Bool.not_false] at h1
    have h0 : ¬ openL t l = 0 := h1
    have hA : shA t l = ([], openL t l) := by rw [shA, if_neg h0]
    refine s_seq ?_
    refine s_region ?_
    refine o_p (p_pure rfl) rfl ?_
    refine o_p (p_pure rfl) rfl ?_
    refine o_p (p_pure rfl) rfl ?_
    refine o_nil ?_
    exact s_retv (rs := [.tmp 4, .tmp 5]) rfl (.tmp rfl (.tmp rfl (.nil))) (fun w' h' => ⟨(none, 0), by rw [hA]; rfl, trivial, by rw [hA]; exact (h'.own_nil 9 1).ent aEt⟩)
  · try simp only [decide_eq_true_eq, decide_eq_false_iff_not, Bool.not_eq_true', Bool.not_eq_false', Bool.and_eq_true, Bool.or_eq_true, Bool.and_eq_false_iff, Bool.or_eq_false_iff, Bool.not_true, Bool.not_false] at h1
    have h0 : openL t l = 0 := h1
    have ho := openL_ok h0
    have hon := namesE_ok ho.2
    have hl := (chkTab_ok ho.1).1
    have hlc : ∀ s ∈ l, ∀ c ∈ s, c.toNat < 128 := fun s hA => nameE_lt (hon.2 s hA)
    have hul := ups_len (t := t) (l := l)
    refine s_skip ?_
    refine s_seq ?_
    refine s_region ?_
    refine o_p (p_pure rfl) rfl ?_
    refine o_p (p_pure rfl) rfl ?_
    refine o_h (h_call rfl fn_63 rfl (fun w1 h1 => c63 w1 t a cap l hl hlc (hs.later h1) hln hml)) rfl (fun rr _ => ?_)
    refine o_p (p_pure rfl) rfl ?_
    refine o_nil ?_
    refine s_seq ?_
    refine s_seq ?_
    refine s_region ?_
    refine o_p (p_pure rfl) rfl ?_
    refine o_q (q_len_map (K := KS) rfl rfl Tryd.underlying86 aPk) rfl ?_
    refine o_p (p_pure rfl) rfl ?_
    refine o_p (p_len_slice rfl rfl Tryd.underlying29) rfl ?_
    refine o_p (p_pure rfl) rfl ?_
    refine o_nil ?_
    refine s_cond rfl (fun h2 => ?_) (fun h2 => ?_)
    · try simp only [decide_eq_true_eq, decide_eq_false_iff_not, Bool.not_eq_true', Bool.not_eq_false', Bool.and_eq_true, Bool.or_eq_true, Bool.and_eq_false_iff, Bool.or_eq_false_iff, Bool.not_true, Bool.not_false] at h2
      have hdp : dupU t l = true := hul.1 (by have hq := h2; omega)
      have hA : shA t l = ([], 5) := by rw [shA, if_pos h0, if_pos hdp]
      refine s_seq ?_
      refine s_region ?_
      refine o_p (p_pure rfl) rfl ?_
      refine o_p (p_pure rfl) rfl ?_
      refine o_nil ?_
      exact s_retv (rs := [.tmp 4, .tmp 5]) rfl (.tmp rfl (.tmp rfl (.nil))) (fun w' h' => ⟨(none, 0), by rw [hA]; rfl, trivial, by rw [hA]; exact (h'.own_nil 9 1).ent aEt⟩)
    · try simp only [decide_eq_true_eq, decide_eq_false_iff_not, Bool.not_eq_true', Bool.not_eq_false', Bool.and_eq_true, Bool.or_eq_true, Bool.and_eq_false_iff, Bool.or_eq_false_iff, Bool.not_true, Bool.not_false] at h2
      have hdp : ¬ dupU t l = true := fun hB => by have hq := h2; have := hul.2 hB; omega
      have hA : shA t l = shF t l (l.map (up t)) [] := by rw [shA, if_pos h0, if_neg hdp]
      refine s_skip ?_
      refine s_seq ?_
      refine s_region ?_
      refine o_p (p_pure rfl) rfl ?_
      refine o_nil ?_
      refine s_seq ?_
      refine s_seq ?_
      refine s_region ?_
      refine o_p (p_pure rfl) rfl ?_
      refine o_p (p_len_slice rfl rfl Tryd.underlying29) rfl ?_
      refine o_p (p_pure rfl) rfl ?_
      refine o_nil ?_
      refine s_block ?_
      refine s_weaken (L' := [(4, _), (5, _), (6, _), (7, _), (8, _), (9, _), (30, _), (31, _), (32, _)]) aSx (fun _ h => h) ?_
      refine s_loopI (α := Nat × (Option Addr × Nat) × List (List UInt8) × List (List UInt8)) [4, 5, 7, 9, 11, 12, 32, 33, 34, 35, 36, 37, 38, 39, 40, 41, 42, 43, 44, 45, 46, 47, 48, 49, 50, 51, 52, 53, 54, 55, 56, 57, 58, 59] (fun y => [(32, .int .i64 (y.1 : Int)), (9, .slice y.2.1.1 y.2.2.2.length y.2.1.2)]) (fun y => HS w [] [.mp rr KS y.2.2.1, .own (.slice y.2.1.1 y.2.2.2.length y.2.1.2) 9 1 y.2.2.2.length (y.2.2.2.map strV)]) (fun y => y.1 ≤ l.length ∧ y.2.2.2.length ≤ y.1 ∧ shF t l (l.map (up t)) [] = shF t (l.drop y.1) y.2.2.1 y.2.2.2) (fun y => l.length - y.1) (0, (none, 0), upsU t l, []) ⟨Nat.zero_le _, Nat.le_refl _, shF_congr (fun x => (mem_ups x).symm)⟩ aSx (fun w h => (h.own_nil 9 1).ent aEt) (fun ⟨k, A, ks, acc⟩ hy => ?_)
      dsimp only at hy ⊢
      obtain ⟨hk1, hk2, hk3⟩ := hy
      refine s_seq ?_
      refine s_region ?_
      refine o_p (p_pure rfl) rfl ?_
      refine o_nil ?_
      refine s_seq ?_
      refine s_cond rfl (fun h3 => ?_) (fun h3 => ?_)
      · try simp only [decide_eq_true_eq, decide_eq_false_iff_not, Bool.not_eq_true', Bool.not_eq_false', Bool.and_eq_true, Bool.or_eq_true, Bool.and_eq_false_iff, Bool.or_eq_false_iff, Bool.not_true, Bool.not_false] at h3
        have hk : k < l.length := by omega
        have hgm := getD_mem (d := []) hk
        refine s_skip ?_
        refine s_seq ?_
        refine s_block ?_
        refine s_seq ?_
        refine s_region ?_
        refine o_p (p_indexAddr rfl rfl rfl sl_29 (k) (by omega) (by omega) (hs.some (by rw [List.length_map]; omega))) rfl ?_
        refine o_q (q_load_old rfl rfl sz_9 ((hs.rd (str_get' (k := k) hk)))) rfl ?_
        refine o_p (p_pure rfl) rfl ?_
        refine o_nil ?_
        refine s_seq ?_
        refine s_region ?_
        refine o_p (p_pure rfl) rfl ?_
        refine o_nil ?_
        refine s_seq ?_
        refine s_seq ?_
        refine s_region ?_
        refine o_p (p_pure rfl) rfl ?_
        refine o_p (p_pure rfl) rfl ?_
        refine o_q (q_call rfl fn_60 rfl (fun w1 h1 => c60 w1 t (l.getD k []) hl (hlc _ hgm) (hml _ hgm))) rfl ?_
        refine o_q (q_call rfl fn_22 rfl (fun w1 h1 => c22 w1 (up t (l.getD k [])) (by have := up_len t (l.getD k []); have := hml _ hgm; omega))) rfl ?_
        refine o_p (p_pure rfl) rfl ?_
        refine o_nil ?_
        refine s_cutI (α := List UInt8 × List (List UInt8)) [4, 5, 7, 12, 41, 42, 43, 44, 45, 46, 47, 48, 49, 50, 51, 52, 53, 54] (fun x => [(12, .string (bs x.1))]) (fun x => HS w [] [.mp rr KS x.2, .own (.slice A.1 acc.length A.2) 9 1 acc.length (acc.map strV)]) (fun x => shF t (l.drop k) ks acc = shF t (l.drop (k + 1)) x.2 (acc ++ [x.1])) ?_ ?_
        · skip
          refine s_cond rfl (fun h4 => ?_) (fun h4 => ?_)
          · try simp only [decide_eq_true_eq, decide_eq_false_iff_not, Bool.not_eq_true', Bool.not_eq_false', Bool.and_eq_true, Bool.or_eq_true, Bool.and_eq_false_iff, Bool.or_eq_false_iff, Bool.not_true, Bool.not_false] at h4
            have h1z : ¬ shortS (up t (l.getD k [])) = true := by have hq := h4; simpa using hq
            refine s_seq ?_
            refine s_seq ?_
            refine s_region ?_
            refine o_p (p_pure rfl) rfl ?_
            refine o_p (p_pure rfl) rfl ?_
            refine o_p (p_pure rfl) rfl ?_
            refine o_q (q_call rfl fn_62 rfl (fun w1 h1 => c62 w1 t (l.getD k []) rr ks hl (hlc _ hgm) (hml _ hgm) (h1.mpr aPk) (ht.later h1))) rfl ?_
            refine o_p (p_pure rfl) rfl ?_
            refine o_p (p_pure rfl) rfl ?_
            refine o_p (p_pure rfl) rfl ?_
            refine o_p (p_pure rfl) rfl ?_
            refine o_p (p_pure rfl) rfl ?_
            refine o_nil ?_
            refine s_seq ?_
            refine s_region ?_
            refine o_p (p_pure rfl) rfl ?_
            refine o_p (p_pure rfl) rfl ?_
            refine o_nil ?_
            refine s_cond rfl (fun h5 => ?_) (fun h5 => ?_)
            · try simp only [decide_eq_true_eq, decide_eq_false_iff_not, Bool.not_eq_true', Bool.not_eq_false', Bool.and_eq_true, Bool.or_eq_true, Bool.and_eq_false_iff, Bool.or_eq_false_iff, Bool.not_true, Bool.not_false] at h5
              have h2z : ¬ (shortU t (l.getD k []) ks).2 = 0 := h5
              have hbad : shA t l = ([], (shortU t (l.getD k []) ks).2) := by rw [hA, hk3, shF_bad hk h1z h2z]
              refine s_seq ?_
              refine s_region ?_
              refine o_p (p_pure rfl) rfl ?_
              refine o_p (p_pure rfl) rfl ?_
              refine o_p (p_pure rfl) rfl ?_
              refine o_nil ?_
              exact s_retv (rs := [.tmp 4, .tmp 5]) rfl (.tmp rfl (.tmp rfl (.nil))) (fun w' h' => ⟨(none, 0), by rw [hbad]; rfl, trivial, by rw [hbad]; exact (h'.own_nil 9 1).ent aEt⟩)
            · try simp only [decide_eq_true_eq, decide_eq_false_iff_not, Bool.not_eq_true', Bool.not_eq_false', Bool.and_eq_true, Bool.or_eq_true, Bool.and_eq_false_iff, Bool.or_eq_false_iff, Bool.not_true, Bool.not_false] at h5
              have h2z : (shortU t (l.getD k []) ks).2 = 0 := h5
              refine s_skip ?_
              refine s_region ?_
              refine o_p (p_pure rfl) rfl ?_
              refine o_p (p_pure rfl) rfl ?_
              refine o_p (p_pure rfl) rfl ?_
              refine o_q (q_call rfl fn_60 rfl (fun w1 h1 => c60 w1 t (shortU t (l.getD k []) ks).1 hl (shortU_lt h2z).1 (by have := (shortU_lt h2z).2; omega))) rfl ?_
              refine o_h0 (h_mapUpdate (K := KS) (.inl rfl) rfl rfl rfl Tryd.underlying86 (key_str Tryd.underlying9) aPt) (fun _ _ => ?_)
              refine o_nil ?_
              exact s_joinI ((shortU t (l.getD k []) ks).1, insK' ks (up t (shortU t (l.getD k []) ks).1)) (by dsimp only; rw [shF_long hk h1z h2z]; exact shF_congr (fun x => mem_ins)) aSx (fun w h => h.ent aEt)
          · try simp only [decide_eq_true_eq, decide_eq_false_iff_not, Bool.not_eq_true', Bool.not_eq_false', Bool.and_eq_true, Bool.or_eq_true, Bool.and_eq_false_iff, Bool.or_eq_false_iff, Bool.not_true, Bool.not_false] at h4
            have h1z : shortS (up t (l.getD k [])) = true := by have hq := h4; simpa using hq
            refine s_skip ?_
            exact s_joinI ([], ks) (shF_short hk h1z) aSx (fun w h => h.ent aEt)
        · intro ⟨o, ks2⟩ hx
          dsimp only at hx ⊢
          refine s_region ?_
          refine o_p (p_pure rfl) rfl ?_
          refine o_p (p_pure rfl) rfl ?_
          refine o_h (h_buildSlice (cs := [_]) rfl rfl sl_29 zr_9 rfl rfl rfl) rfl (fun b6 _ => ?_)
          refine o_h (h_appendS (n := acc.length) [.string (bs o)] rfl rfl rfl sl_29 Tryd.underlying29 zr_9 rfl aPk (src_blk aPk) rfl (by intro u hu; simp only [List.mem_cons, List.mem_nil_iff, or_false] at hu; subst hu; rfl) (by omega) (by simp only [maxLen]; omega)) rfl (fun b7 _ => ?_)
          refine o_p (p_pure rfl) rfl ?_
          refine o_nil ?_
          refine s_blk ?_
          refine s_region ?_
          refine o_p (p_pure rfl) rfl ?_
          try (refine o_slot (i64w (by omega) (by omega)) ?_)
          refine o_p (p_pure rfl) rfl ?_
          refine o_nil ?_
          exact s_backI (k + 1, b7, ks2, acc ++ [o]) (by show l.length - (k + 1) < l.length - k; omega) ⟨by show k + 1 ≤ l.length; omega, by dsimp only; rw [List.length_append, List.length_singleton]; omega, by dsimp only; rw [hk3, hx]⟩ (by (try dsimp only); rw [List.length_append]; exact aSx) (fun w h => by dsimp only; rw [List.length_append, List.map_append]; exact h.ent aEt)
      · try simp only [decide_eq_true_eq, decide_eq_false_iff_not, Bool.not_eq_true', Bool.not_eq_false', Bool.and_eq_true, Bool.or_eq_true, Bool.and_eq_false_iff, Bool.or_eq_false_iff, Bool.not_true, Bool.not_false] at h3
        obtain rfl : k = l.length := by omega
        have hfin : shA t l = (acc, 0) := by rw [hA, hk3, shF_end]
        refine s_exit_to rfl ?_
        refine s_seq ?_
        refine s_region ?_
        refine o_p (p_pure rfl) rfl ?_
        refine o_p (p_pure rfl) rfl ?_
        refine o_p (p_pure rfl) rfl ?_
        refine o_nil ?_
        exact s_retv (rs := [.tmp 4, .tmp 5]) rfl (.tmp rfl (.tmp rfl (.nil))) (fun w' h' => ⟨A, by rw [hfin]; rfl, trivial, by rw [hfin]; exact h'.ent aEt⟩)

end Go.Proofs

namespace Go.Proofs
open Go Go.RowKit Gx
set_option linter.unusedVariables false
set_option linter.unusedSimpArgs false
attribute [local irreducible] Go.Calls Gx.S Gx.O Gx.D Gx.OpP Gx.OpQ Gx.OpH

theorem fn_30 : isFn Tryd.prog 30 = true := by kernel_rfl
theorem fn_31 : isFn Tryd.prog 31 = true := by kernel_rfl


set_option maxRecDepth 20000 in
theorem c27 (w : World) (t : List UInt8) (a : Option Addr) (cap : Nat) (l : List (List UInt8)) (hl : t.length = 128) (hs : Vl w a (l.map strV)) (hln : l.length ≤ 1000000) (hml : ∀ s ∈ l, s.length ≤ 1000000) : Calls Tryd.prog 27 #[.string (bs t), .slice a l.length cap] w fun en w' => en = .returned (.int .i64 (shsE t l)) ∧ Below w.heap.size w w' := by
  refine enter (args := [_, _]) Tryd.func27 Tryd.ntmps27 rfl rfl (HS.refl w []) ?_
  refine s_seq ?_
  refine s_region ?_
  refine o_p (p_pure rfl) rfl ?_
  refine o_nil ?_
  refine s_seq ?_
  refine s_seq ?_
  refine s_region ?_
  refine o_p (p_pure rfl) rfl ?_
  refine o_q (q_call rfl fn_19 rfl (fun w1 h1 => c19 w1 a cap l (hs.later h1) hln hml)) rfl ?_
  refine o_p (p_pure rfl) rfl ?_
  refine o_nil ?_
  refine s_seq ?_
  refine s_region ?_
  refine o_p (p_pure rfl) rfl ?_
  refine o_p (p_pure rfl) rfl ?_
  refine o_nil ?_
  refine s_cond rfl (fun h1 => ?_) (fun h1 => ?_)
  · try simp only [decide_eq_true_eq, decide_eq_false_iff_not, Bool.not_eq_true', Bool.not_eq_false', Bool.and_eq_true, Bool.or_eq_true, Bool.and_eq_false_iff, Bool.or_eq_false_iff, Bool.not_true, Bool.not_false] at h1
    have h0 : ¬ namesE l = 0 := h1
    refine s_seq ?_
    refine s_region ?_
    refine o_p (p_pure rfl) rfl ?_
    refine o_p (p_pure rfl) rfl ?_
    refine o_nil ?_
    exact s_retv (rs := [.tmp 4]) rfl (.tmp rfl (.nil)) (fun w' h' => ⟨by rw [shsE, if_neg h0]; rfl, h'.below⟩)
  · try simp only [decide_eq_true_eq, decide_eq_false_iff_not, Bool.not_eq_true', Bool.not_eq_false', Bool.and_eq_true, Bool.or_eq_true, Bool.and_eq_false_iff, Bool.or_eq_false_iff, Bool.not_true, Bool.not_false] at h1
    have h0 : namesE l = 0 := by have hq := h1; omega
    have hon := namesE_ok h0
    have hlc : ∀ s ∈ l, ∀ c ∈ s, c.toNat < 128 := fun s hA => nameE_lt (hon.2 s hA)
    refine s_skip ?_
    refine s_seq ?_
    refine s_seq ?_
    refine s_region ?_
    refine o_p (p_pure rfl) rfl ?_
    refine o_nil ?_
    refine s_block ?_
    refine s_loopI (α := Nat) [4, 6, 7, 13, 14, 15, 16, 17, 18, 19, 20, 21, 22, 23, 24, 25, 26, 27, 28, 29, 30, 31, 32, 33] (fun i => [(6, .int .i64 (i : Int))]) (fun _ => HS w [] []) (fun i => i ≤ l.length ∧ ((l.take i).map (up t)).Nodup) (fun i => l.length - i) 0 ⟨Nat.zero_le _, by simp⟩ aSx (fun w h => h.ent aEt) (fun i hii => ?_)
    obtain ⟨hi1, hi2⟩ := hii
    refine s_seq ?_
    refine s_seq ?_
    refine s_region ?_
    refine o_p (p_pure rfl) rfl ?_
    refine o_p (p_pure rfl) rfl ?_
    refine o_p (p_len_slice rfl rfl Tryd.underlying29) rfl ?_
    refine o_p (p_pure rfl) rfl ?_
    refine o_nil ?_
    refine s_cond rfl (fun h2 => ?_) (fun h2 => ?_)
    · try simp only [decide_eq_true_eq, decide_eq_false_iff_not, Bool.not_eq_true', Bool.not_eq_false', Bool.and_eq_true, Bool.or_eq_true, Bool.and_eq_false_iff, Bool.or_eq_false_iff, Bool.not_true, Bool.not_false] at h2
      have hi : i < l.length := by omega
      have hgi := getD_mem (d := []) hi
      refine s_skip ?_
      refine s_seq ?_
      refine s_block ?_
      refine s_seq ?_
      refine s_region ?_
      refine o_p (p_pure rfl) rfl ?_
      refine o_nil ?_
      refine s_block ?_
      refine s_loopI (α := Nat) [4, 7, 19, 20, 21, 22, 23, 24, 25, 26, 27, 28, 29, 30, 31, 32, 33] (fun k => [(7, .int .i64 (k : Int))]) (fun _ => HS w [] []) (fun k => k ≤ i ∧ ∀ j, j < k → ¬ up t (l.getD i []) = up t (l.getD j [])) (fun k => i - k) 0 ⟨Nat.zero_le _, fun j h => absurd h (Nat.not_lt_zero j)⟩ aSx (fun w h => h.ent aEt) (fun k hkk => ?_)
      obtain ⟨hk1, hk2⟩ := hkk
      refine s_seq ?_
      refine s_seq ?_
      refine s_region ?_
      refine o_p (p_pure rfl) rfl ?_
      refine o_p (p_pure rfl) rfl ?_
      refine o_p (p_pure rfl) rfl ?_
      refine o_nil ?_
      refine s_cond rfl (fun h3 => ?_) (fun h3 => ?_)
      · try simp only [decide_eq_true_eq, decide_eq_false_iff_not, Bool.not_eq_true', Bool.not_eq_false', Bool.and_eq_true, Bool.or_eq_true, Bool.and_eq_false_iff, Bool.or_eq_false_iff, Bool.not_true, Bool.not_false] at h3
        have hk : k < i := by omega
        have hgk := getD_mem (d := []) (show k < l.length by omega)
        refine s_skip ?_
        refine s_seq ?_
        refine s_block ?_
        refine s_seq ?_
        refine s_draw [] mixed ?_
        refine d_p 0 rfl (p_pure rfl) (by kernel_rfl) rfl rfl ?_
        refine d_p 1 rfl (p_pure rfl) (by kernel_rfl) rfl rfl ?_
        refine d_p 2 rfl (p_pure rfl) (by kernel_rfl) rfl rfl ?_
        refine d_p 3 rfl (p_indexAddr rfl rfl rfl sl_29 (i) (by omega) (by omega) (hs.some (by rw [List.length_map]; omega))) (by kernel_rfl) rfl rfl ?_
        refine d_q 4 [] rfl (q_load_old rfl rfl sz_9 ((hs.rd (str_get' (k := i) hi)))) (by kernel_rfl) (by kernel_rfl) (by kernel_rfl) rfl ?_
        refine d_p 5 rfl (p_pure rfl) (by kernel_rfl) rfl rfl ?_
        refine d_p 6 rfl (p_pure rfl) (by kernel_rfl) rfl rfl ?_
        refine d_p 7 rfl (p_indexAddr rfl rfl rfl sl_29 (k) (by omega) (by omega) (hs.some (by rw [List.length_map]; omega))) (by kernel_rfl) rfl rfl ?_
        refine d_q 8 [] rfl (q_load_old rfl rfl sz_9 ((hs.rd (str_get' (k := k) (by omega))))) (by kernel_rfl) (by kernel_rfl) (by kernel_rfl) rfl ?_
        refine d_q 9 [] rfl (q_call rfl fn_48 rfl (fun w1 h1 => c48 w1 t (l.getD i []) (l.getD k []) hl (hlc _ hgi) (hlc _ hgk) (hml _ hgi) (hml _ hgk))) (by kernel_rfl) (by kernel_rfl) (by kernel_rfl) rfl ?_
        refine d_nil (by kernel_rfl) (fun w h => h.ent aEt) ?_
        refine s_cond rfl (fun h4 => ?_) (fun h4 => ?_)
        · try simp only [decide_eq_true_eq, decide_eq_false_iff_not, Bool.not_eq_true', Bool.not_eq_false', Bool.and_eq_true, Bool.or_eq_true, Bool.and_eq_false_iff, Bool.or_eq_false_iff, Bool.not_true, Bool.not_false] at h4
          have hdh := dup_hit hk hi (by have hq := h4; simpa [sameU] using hq)
          refine s_seq ?_
          refine s_region ?_
          refine o_p (p_pure rfl) rfl ?_
          refine o_nil ?_
          exact s_retv (rs := [.tmp 4]) rfl (.tmp rfl (.nil)) (fun w' h' => ⟨by rw [shsE, if_pos h0, if_pos hdh]; rfl, h'.below⟩)
        · try simp only [decide_eq_true_eq, decide_eq_false_iff_not, Bool.not_eq_true', Bool.not_eq_false', Bool.and_eq_true, Bool.or_eq_true, Bool.and_eq_false_iff, Bool.or_eq_false_iff, Bool.not_true, Bool.not_false] at h4
          have hne : ¬ up t (l.getD i []) = up t (l.getD k []) := by have hq := h4; simpa [sameU] using hq
          refine s_skip ?_
          refine s_blk ?_
          refine s_region ?_
          refine o_p (p_pure rfl) rfl ?_
          refine o_p (p_pure rfl) rfl ?_
          try (refine o_slot (i64w (by omega) (by omega)) ?_)
          refine o_p (p_pure rfl) rfl ?_
          refine o_nil ?_
          exact s_backI (k + 1) (by omega) ⟨by omega, fun j hj => (Nat.lt_succ_iff_lt_or_eq.1 hj).elim (hk2 j) (fun e => by rw [e]; exact hne)⟩ aSx (fun w h => h.ent aEt)
      · try simp only [decide_eq_true_eq, decide_eq_false_iff_not, Bool.not_eq_true', Bool.not_eq_false', Bool.and_eq_true, Bool.or_eq_true, Bool.and_eq_false_iff, Bool.or_eq_false_iff, Bool.not_true, Bool.not_false] at h3
        obtain rfl : k = i := by omega
        have hnx := nodup_take hi hi2 hk2
        refine s_exit_to rfl ?_
        refine s_blk ?_
        refine s_region ?_
        refine o_p (p_pure rfl) rfl ?_
        refine o_p (p_pure rfl) rfl ?_
        try (refine o_slot (i64w (by omega) (by omega)) ?_)
        refine o_p (p_pure rfl) rfl ?_
        refine o_nil ?_
        exact s_backI (k + 1) (by omega) ⟨by omega, hnx⟩ aSx (fun w h => h.ent aEt)
    · try simp only [decide_eq_true_eq, decide_eq_false_iff_not, Bool.not_eq_true', Bool.not_eq_false', Bool.and_eq_true, Bool.or_eq_true, Bool.and_eq_false_iff, Bool.or_eq_false_iff, Bool.not_true, Bool.not_false] at h2
      obtain rfl : i = l.length := by omega
      rw [List.take_length] at hi2
      refine s_exit_to rfl ?_
      refine s_seq ?_
      refine s_region ?_
      refine o_p (p_pure rfl) rfl ?_
      refine o_nil ?_
      exact s_retv (rs := [.tmp 4]) rfl (.tmp rfl (.nil)) (fun w' h' => ⟨by rw [shsE, if_pos h0, if_neg (by unfold dupU; simpa using hi2)]; rfl, h'.below⟩)

set_option maxRecDepth 20000 in
set_option maxHeartbeats 2000000 in
theorem c28 (w : World) (t : List UInt8) (a : Option Addr) (cap : Nat) (l : List (List UInt8)) (hl : t.length = 128) (hs : Vl w a (l.map strV)) (hln : l.length ≤ 1000000) (hml : ∀ s ∈ l, s.length ≤ 1000000) (hn : ∀ s ∈ l, nameE s = 0) (hl2 : l.length ≤ 200) : Calls Tryd.prog 28 #[.string (bs t), .slice a l.length cap] w fun en w' => ∃ g : Option Addr × Nat, en = .returned (.tuple #[.slice g.1 (shF t l (l.map (up t)) []).1.length g.2, .int .i64 (shF t l (l.map (up t)) []).2]) ∧ True ∧ HS w [] [.own (.slice g.1 (shF t l (l.map (up t)) []).1.length g.2) 9 1 (shF t l (l.map (up t)) []).1.length ((shF t l (l.map (up t)) []).1.map strV)] w' := by
  refine enter (args := [_, _]) Tryd.func28 Tryd.ntmps28 rfl rfl (HS.refl w []) ?_
  refine s_seq ?_
  refine s_region ?_
  refine o_p (p_pure rfl) rfl ?_
  refine o_p (p_pure rfl) rfl ?_
  refine o_nil ?_
  refine s_seq ?_
  refine s_region ?_
  refine o_p (p_pure rfl) rfl ?_
  refine o_h (h_call rfl fn_18 rfl (fun w1 h1 => c18 w1 a cap l (hs.later h1) hln)) rfl (fun gc _ => ?_)
  refine o_p (p_pure rfl) rfl ?_
  refine o_nil ?_
  refine s_seq ?_
  refine s_region ?_
  refine o_p (p_pure rfl) rfl ?_
  refine o_nil ?_
  refine s_seq ?_
  refine s_seq ?_
  refine s_region ?_
  refine o_p (p_pure rfl) rfl ?_
  refine o_nil ?_
  refine s_block ?_
  refine s_loopI (α := Nat × ((Option Addr × Nat) × List (List UInt8)) × (Option Addr × Nat) × List (List UInt8)) [4, 5, 6, 7, 8, 9, 10, 11, 14, 15, 16, 17, 18, 19, 20, 21, 22, 23, 24, 25, 26, 27, 28, 29, 30, 31, 32, 33, 34, 35, 36, 37, 38, 39, 40, 41, 42, 43, 44, 45, 46, 47] (fun y => [(8, .int .i64 (y.1 : Int)), (6, .slice y.2.1.1.1 y.2.1.2.length y.2.1.1.2), (7, .slice y.2.2.1.1 y.2.2.2.length y.2.2.1.2)]) (fun y => HS w [] [.own (.slice y.2.1.1.1 y.2.1.2.length y.2.1.1.2) 9 1 y.2.1.2.length (y.2.1.2.map strV), .own (.slice y.2.2.1.1 y.2.2.2.length y.2.2.1.2) 9 1 y.2.2.2.length (y.2.2.2.map strV)]) (fun y => (y.1 ≤ l.length ∧ y.2.1.2.length ≤ l.length + y.1 ∧ y.2.2.2.length ≤ y.1) ∧ (shF t l (l.map (up t)) []) = shF t (l.drop y.1) (y.2.1.2.map (up t)) y.2.2.2 ∧ (∀ q ∈ y.2.1.2, ∀ c ∈ q, c.toNat < 128) ∧ ∀ q ∈ y.2.1.2, q.length ≤ 1000000) (fun y => l.length - y.1) (0, (gc, l), (none, 0), []) ⟨⟨Nat.zero_le _, Nat.le_refl _, Nat.le_refl _⟩, rfl, fun q hq => nameE_lt (hn q hq), hml⟩ aSx (fun w h => (h.own_nil 9 1).ent aEt) (fun ⟨k, ⟨B, T⟩, A, acc⟩ hy => ?_)
  dsimp only at hy ⊢
  obtain ⟨⟨hy1, hy2, hy3⟩, hy4, hy5, hy6⟩ := hy
  refine s_seq ?_
  refine s_seq ?_
  refine s_region ?_
  refine o_p (p_pure rfl) rfl ?_
  refine o_p (p_pure rfl) rfl ?_
  refine o_p (p_len_slice rfl rfl Tryd.underlying29) rfl ?_
  refine o_p (p_pure rfl) rfl ?_
  refine o_nil ?_
  refine s_cond rfl (fun h1 => ?_) (fun h1 => ?_)
  · try simp only [decide_eq_true_eq, decide_eq_false_iff_not, Bool.not_eq_true', Bool.not_eq_false', Bool.and_eq_true, Bool.or_eq_true, Bool.and_eq_false_iff, Bool.or_eq_false_iff, Bool.not_true, Bool.not_false] at h1
    have hk : k < l.length := by omega
    have hnk := hn _ (getD_mem (d := []) hk)
    refine s_skip ?_
    refine s_seq ?_
    refine s_block ?_
    refine s_seq ?_
    refine s_region ?_
    refine o_p (p_pure rfl) rfl ?_
    refine o_nil ?_
    refine s_seq ?_
    refine s_seq ?_
    refine s_region ?_
    refine o_p (p_pure rfl) rfl ?_
    refine o_p (p_pure rfl) rfl ?_
    refine o_p (p_pure rfl) rfl ?_
    refine o_p (p_indexAddr rfl rfl rfl sl_29 (k) (by omega) (by omega) (hs.some (by rw [List.length_map]; omega))) rfl ?_
    refine o_q (q_load_old rfl rfl sz_9 ((hs.rd (str_get' (k := k) hk)))) rfl ?_
    refine o_q (q_call rfl fn_30 rfl (fun w1 h1 => c30 w1 t (l.getD k []) hl (nameE_lt hnk) (by have := (nameE_ok hnk).1; omega))) rfl ?_
    refine o_nil ?_
    refine s_cutI (α := List UInt8 × (Option Addr × Nat) × List (List UInt8)) [4, 5, 6, 9, 10, 11, 26, 27, 28, 29, 30, 31, 32, 33, 34, 35, 36, 37, 38, 39, 40, 41, 42, 43] (fun x => [(9, .string (bs x.1)), (6, .slice x.2.1.1 x.2.2.length x.2.1.2)]) (fun x => HS w [] [.own (.slice x.2.1.1 x.2.2.length x.2.1.2) 9 1 x.2.2.length (x.2.2.map strV), .own (.slice A.1 acc.length A.2) 9 1 acc.length (acc.map strV)]) (fun x => (shF t (l.drop k) (T.map (up t)) acc = shF t (l.drop (k + 1)) (x.2.2.map (up t)) (acc ++ [x.1]) ∧ x.2.2.length ≤ l.length + (k + 1)) ∧ (∀ q ∈ x.2.2, ∀ c ∈ q, c.toNat < 128) ∧ ∀ q ∈ x.2.2, q.length ≤ 1000000) ?_ ?_
    · skip
      refine s_cond rfl (fun h2 => ?_) (fun h2 => ?_)
      · try simp only [decide_eq_true_eq, decide_eq_false_iff_not, Bool.not_eq_true', Bool.not_eq_false', Bool.and_eq_true, Bool.or_eq_true, Bool.and_eq_false_iff, Bool.or_eq_false_iff, Bool.not_true, Bool.not_false] at h2
        have h1z : ¬ shortS (up t (l.getD k [])) = true := by have hq := h2; simpa using hq
        refine s_seq ?_
        refine s_region ?_
        refine o_p (p_pure rfl) rfl ?_
        refine o_p (p_pure rfl) rfl ?_
        refine o_p (p_pure rfl) rfl ?_
        refine o_p (p_indexAddr rfl rfl rfl sl_29 (k) (by omega) (by omega) (hs.some (by rw [List.length_map]; omega))) rfl ?_
        refine o_q (q_load_old rfl rfl sz_9 ((hs.rd (str_get' (k := k) hk)))) rfl ?_
        refine o_p (p_pure rfl) rfl ?_
        refine o_q (q_call rfl fn_31 rfl (fun w1 h1 => c31 w1 t (l.getD k []) B.1 _ T hl (nameE_lt hnk) (nameE_ok hnk).2.1 (by have := (nameE_ok hnk).1; omega) (h1.vl_own (a := B.1) aPk) (by omega) hy5 hy6)) rfl ?_
        refine o_p (p_pure rfl) rfl ?_
        refine o_p (p_pure rfl) rfl ?_
        refine o_p (p_pure rfl) rfl ?_
        refine o_p (p_pure rfl) rfl ?_
        refine o_p (p_pure rfl) rfl ?_
        refine o_nil ?_
        refine s_seq ?_
        refine s_seq ?_
        refine s_weaken (L' := [(0, _), (1, _), (6, _), (7, _), (8, _), (9, _), (10, _), (11, _), (12, _), (13, _), (14, _), (15, _), (16, _), (17, _), (20, _), (21, _), (22, _), (23, _), (24, _), (25, _)]) aSx (fun _ h => h) ?_
        refine s_region ?_
        refine o_p (p_pure rfl) rfl ?_
        refine o_p (p_pure rfl) rfl ?_
        refine o_nil ?_
        refine s_cond rfl (fun h3 => ?_) (fun h3 => ?_)
        · try simp only [decide_eq_true_eq, decide_eq_false_iff_not, Bool.not_eq_true', Bool.not_eq_false', Bool.and_eq_true, Bool.or_eq_true, Bool.and_eq_false_iff, Bool.or_eq_false_iff, Bool.not_true, Bool.not_false] at h3
          have h2z : ¬ (shortU t (l.getD k []) (T.map (up t))).2 = 0 := by have hq := h3; omega
          have hbad : (shF t l (l.map (up t)) []) = ([], (shortU t (l.getD k []) (T.map (up t))).2) := by rw [hy4, shF_bad hk h1z h2z]
          refine s_seq ?_
          refine s_region ?_
          refine o_p (p_pure rfl) rfl ?_
          refine o_p (p_pure rfl) rfl ?_
          refine o_p (p_pure rfl) rfl ?_
          refine o_nil ?_
          exact s_retv (rs := [.tmp 4, .tmp 5]) rfl (.tmp rfl (.tmp rfl (.nil))) (fun w' h' => ⟨(none, 0), by rw [hbad]; rfl, trivial, by rw [hbad]; exact (h'.own_nil 9 1).ent aEt⟩)
        · try simp only [decide_eq_true_eq, decide_eq_false_iff_not, Bool.not_eq_true', Bool.not_eq_false', Bool.and_eq_true, Bool.or_eq_true, Bool.and_eq_false_iff, Bool.or_eq_false_iff, Bool.not_true, Bool.not_false] at h3
          have h2z : (shortU t (l.getD k []) (T.map (up t))).2 = 0 := by have hq := h3; omega
          refine s_skip ?_
          refine s_seq ?_
          refine s_region ?_
          refine o_p (p_pure rfl) rfl ?_
          refine o_p (p_pure rfl) rfl ?_
          refine o_nil ?_
          refine s_region ?_
          refine o_p (p_pure rfl) rfl ?_
          refine o_p (p_pure rfl) rfl ?_
          refine o_h (h_buildSlice (cs := [_]) rfl rfl sl_29 zr_9 rfl rfl rfl) rfl (fun b4 _ => ?_)
          refine o_h (h_appendS (n := T.length) [.string (bs (shortU t (l.getD k []) (T.map (up t))).1)] rfl rfl rfl sl_29 Tryd.underlying29 zr_9 rfl aPk (src_blk aPk) rfl (by intro u hu; simp only [List.mem_cons, List.mem_nil_iff, or_false] at hu; subst hu; rfl) (by omega) (by simp only [maxLen]; omega)) rfl (fun b5 _ => ?_)
          refine o_p (p_pure rfl) rfl ?_
          refine o_nil ?_
          exact s_joinI ((shortU t (l.getD k []) (T.map (up t))).1, b5, T ++ [(shortU t (l.getD k []) (T.map (up t))).1]) ⟨⟨by dsimp only; rw [shF_long hk h1z h2z, List.map_append]; exact shF_congr (fun x => by simp [or_comm]), by dsimp only; rw [List.length_append, List.length_singleton]; omega⟩, fun q hq => (List.mem_append.1 hq).elim (hy5 q) (fun e => by rw [List.mem_singleton.1 e]; exact (shortU_lt h2z).1), fun q hq => (List.mem_append.1 hq).elim (hy6 q) (fun e => by rw [List.mem_singleton.1 e]; have := (shortU_lt h2z).2; omega)⟩ (by (try dsimp only); rw [List.length_append]; exact aSx) (fun w h => by dsimp only; rw [List.length_append, List.map_append]; exact h.ent aEt)
      · try simp only [decide_eq_true_eq, decide_eq_false_iff_not, Bool.not_eq_true', Bool.not_eq_false', Bool.and_eq_true, Bool.or_eq_true, Bool.and_eq_false_iff, Bool.or_eq_false_iff, Bool.not_true, Bool.not_false] at h2
        have h1z : shortS (up t (l.getD k [])) = true := by have hq := h2; simpa using hq
        refine s_skip ?_
        exact s_joinI ([], B, T) ⟨⟨shF_short hk h1z, by show T.length ≤ _; omega⟩, hy5, hy6⟩ aSx (fun w h => h.ent aEt)
    · intro ⟨o, B2, T2⟩ hx
      dsimp only at hx ⊢
      obtain ⟨⟨hx1, hx2⟩, hx3, hx4⟩ := hx
      refine s_region ?_
      refine o_p (p_pure rfl) rfl ?_
      refine o_p (p_pure rfl) rfl ?_
      refine o_h (h_buildSlice (cs := [_]) rfl rfl sl_29 zr_9 rfl rfl rfl) rfl (fun b6 _ => ?_)
      refine o_h (h_appendS (n := acc.length) [.string (bs o)] rfl rfl rfl sl_29 Tryd.underlying29 zr_9 rfl aPk (src_blk aPk) rfl (by intro u hu; simp only [List.mem_cons, List.mem_nil_iff, or_false] at hu; subst hu; rfl) (by omega) (by simp only [maxLen]; omega)) rfl (fun b7 _ => ?_)
      refine o_p (p_pure rfl) rfl ?_
      refine o_nil ?_
      refine s_blk ?_
      refine s_region ?_
      refine o_p (p_pure rfl) rfl ?_
      refine o_p (p_pure rfl) rfl ?_
      try (refine o_slot (i64w (by omega) (by omega)) ?_)
      refine o_p (p_pure rfl) rfl ?_
      refine o_nil ?_
      exact s_backI (k + 1, (B2, T2), b7, acc ++ [o]) (by show l.length - (k + 1) < l.length - k; omega) ⟨⟨by show k + 1 ≤ l.length; omega, hx2, by dsimp only; rw [List.length_append, List.length_singleton]; omega⟩, by dsimp only; rw [hy4, hx1], hx3, hx4⟩ (by (try dsimp only); rw [List.length_append]; exact aSx) (fun w h => by dsimp only; rw [List.length_append, List.map_append]; exact h.ent aEt)
  · try simp only [decide_eq_true_eq, decide_eq_false_iff_not, Bool.not_eq_true', Bool.not_eq_false', Bool.and_eq_true, Bool.or_eq_true, Bool.and_eq_false_iff, Bool.or_eq_false_iff, Bool.not_true, Bool.not_false] at h1
    obtain rfl : k = l.length := by omega
    have hfin : (shF t l (l.map (up t)) []) = (acc, 0) := by rw [hy4, shF_end]
    refine s_exit_to rfl ?_
    refine s_seq ?_
    refine s_region ?_
    refine o_p (p_pure rfl) rfl ?_
    refine o_p (p_pure rfl) rfl ?_
    refine o_p (p_pure rfl) rfl ?_
    refine o_nil ?_
    exact s_retv (rs := [.tmp 4, .tmp 5]) rfl (.tmp rfl (.tmp rfl (.nil))) (fun w' h' => ⟨A, by rw [hfin]; rfl, trivial, by rw [hfin]; exact h'.ent aEt⟩)

end Go.Proofs

namespace Go.Proofs
open Go Go.RowKit Gx
set_option linter.unusedVariables false
set_option linter.unusedSimpArgs false
attribute [local irreducible] Go.Calls Gx.S Gx.O Gx.D Gx.OpP Gx.OpQ Gx.OpH

theorem fn_26 : isFn Tryd.prog 26 = true := by kernel_rfl
theorem fn_27 : isFn Tryd.prog 27 = true := by kernel_rfl
theorem fn_28 : isFn Tryd.prog 28 = true := by kernel_rfl
theorem fn_29 : isFn Tryd.prog 29 = true := by kernel_rfl


theorem openE_1 {t s : List UInt8} : openE t [s] = if (chkTab t).2 = 0 then nameE s else (chkTab t).2 := by
  unfold openE
  split
  · simp only [List.map_cons, List.map_nil, firstI]
    split
    · rename_i h; rw [h]
    · rfl
  · rfl
def cSU (t : List UInt8) (l : List (List UInt8)) : Int := if (chkTab t).2 = 0 then shsE t l else (chkTab t).2
theorem cSU_0 {t : List UInt8} {l : List (List UInt8)} (h : cSU t l = 0) : (chkTab t).2 = 0 ∧ namesE l = 0 ∧ shA t l = shF t l (l.map (up t)) [] := by
  unfold cSU shsE at h
  by_cases h1 : (chkTab t).2 = 0
  · rw [if_pos h1] at h
    by_cases h2 : namesE l = 0
    · rw [if_pos h2] at h
      by_cases h3 : dupU t l = true
      · rw [if_pos h3] at h; exact absurd h (by decide)
      · exact ⟨h1, h2, by rw [shA, if_pos (by rw [openL, if_pos h1, h2]), if_neg h3]⟩
    · rw [if_neg h2] at h; exact absurd h h2
  · rw [if_neg h1] at h; exact absurd h h1
theorem cSU_1 {t : List UInt8} {l : List (List UInt8)} (h : ¬ cSU t l = 0) : shA t l = ([], cSU t l) := by
  unfold cSU shsE at h ⊢
  unfold shA openL
  by_cases h1 : (chkTab t).2 = 0
  · rw [if_pos h1] at h
    rw [if_pos h1, if_pos h1]
    by_cases h2 : namesE l = 0
    · rw [if_pos h2] at h
      rw [if_pos h2, if_pos h2]
      by_cases h3 : dupU t l = true
      · rw [if_pos h3, if_pos h3]
      · rw [if_neg h3] at h; exact absurd rfl h
    · rw [if_neg h2, if_neg h2]
  · rw [if_neg h1, if_neg h1, if_neg h1]

theorem shF_len {t : List UInt8} : ∀ {l ks acc : List (List UInt8)}, (shF t l ks acc).1.length ≤ acc.length + l.length
  | [], _, _ => by simp [shF]
  | s :: l, ks, acc => by
    unfold shF
    rw [List.length_cons]
    split
    · have := shF_len (t := t) (l := l) (ks := ks) (acc := acc ++ [[]])
      rw [List.length_append, List.length_singleton] at this
      omega
    · split
      · have := shF_len (t := t) (l := l) (ks := up t (shortU t s ks).1 :: ks) (acc := acc ++ [(shortU t s ks).1])
        rw [List.length_append, List.length_singleton] at this
        omega
      · simp

set_option maxRecDepth 20000 in
set_option maxHeartbeats 4000000 in
theorem c5 (w : World) (t s : List UInt8) (a : Option Addr) (cap : Nat) (l : List (List UInt8)) (hmt : t.length ≤ 9223372036854775807) (hms : s.length ≤ 9223372036854775807) (hs : Vl w a (l.map strV)) (hln : l.length ≤ 9223372036854775807) (hml : ∀ s ∈ l, s.length ≤ 9223372036854775807) (ht : TabOk w) : Calls Tryd.prog 5 #[.string (bs t), .string (bs s), .slice a l.length cap] w fun en w' => en = .returned (.bool true) ∧ Below w.heap.size w w' := by
  refine enter (args := [_, _, _]) Tryd.func5 Tryd.ntmps5 rfl rfl (HS.refl w []) ?_
  refine s_seq ?_
  refine s_region ?_
  refine o_p (p_pure rfl) rfl ?_
  refine o_nil ?_
  refine s_seq ?_
  refine s_seq ?_
  refine s_region ?_
  refine o_q (q_call rfl fn_10 rfl (fun w1 h1 => c10 w1 (ht.later h1))) rfl ?_
  refine o_p (p_pure rfl) rfl ?_
  refine o_nil ?_
  refine s_cond rfl (fun h1 => ?_) (fun h1 => ?_)
  · try simp only [decide_eq_true_eq, decide_eq_false_iff_not, Bool.not_eq_true', Bool.not_eq_false', Bool.and_eq_true, Bool.or_eq_true, Bool.and_eq_false_iff, Bool.or_eq_false_iff, Bool.not_true, Bool.not_false] at h1
    exfalso; cases h1
  · try simp only [decide_eq_true_eq, decide_eq_false_iff_not, Bool.not_eq_true', Bool.not_eq_false', Bool.and_eq_true, Bool.or_eq_true, Bool.and_eq_false_iff, Bool.or_eq_false_iff, Bool.not_true, Bool.not_false] at h1
    refine s_skip ?_
    refine s_seq ?_
    refine s_seq ?_
    refine s_region ?_
    refine o_p (p_pure rfl) rfl ?_
    refine o_p (p_pure rfl) rfl ?_
    refine o_h (h_buildSlice (cs := [_, _]) rfl rfl sl_29 zr_9 rfl rfl rfl) rfl (fun b2 _ => ?_)
    refine o_q (q_call rfl fn_11 rfl (fun w1 h1 => c11 w1 _ _ [t, s] (h1.vl_blk aPk) (by simp) (by intro x hx; simp only [List.mem_cons, List.mem_nil_iff, or_false] at hx; rcases hx with rfl | rfl <;> assumption))) rfl ?_
    refine o_p (p_pure rfl) rfl ?_
    refine o_p (p_pure rfl) rfl ?_
    refine o_or 4 27 31 _ _ rfl
      (by
        intro hg3
        have hs4 := hg3; try simp only [decide_eq_true_eq, decide_eq_false_iff_not, Bool.not_eq_true', Bool.not_eq_false', Bool.and_eq_true, Bool.or_eq_true, Bool.and_eq_false_iff, Bool.or_eq_false_iff, Bool.not_true, Bool.not_false] at hs4
        refine o_on 27 _ rfl rfl hg3 ?_
        refine o_p (p_pure rfl) rfl ?_
        refine o_on 27 _ rfl rfl hg3 ?_
        refine o_q (q_call rfl fn_16 rfl (fun w1 h1 => c16 w1 a cap l (hs.later h1) hln hml)) rfl ?_
        refine o_on 27 _ rfl rfl hg3 ?_
        refine o_p (p_pure rfl) rfl ?_
        refine o_p (p_pickf rfl rfl hg3 rfl) rfl ?_
        refine o_nil ?_
        exact s_joinN 4 31 _ rfl rfl rfl (fun w h => by first | exact h | exact h.ent aEt))
      (by
        intro hg5
        have hs6 := hg5; try simp only [decide_eq_true_eq, decide_eq_false_iff_not, Bool.not_eq_true', Bool.not_eq_false', Bool.and_eq_true, Bool.or_eq_true, Bool.and_eq_false_iff, Bool.or_eq_false_iff, Bool.not_true, Bool.not_false] at hs6
        refine o_off 27 _ rfl rfl hg5 rfl ?_
        refine o_off 27 _ rfl rfl hg5 rfl ?_
        refine o_off 27 _ rfl rfl hg5 rfl ?_
        refine o_p (p_pickt rfl rfl hg5 rfl) rfl ?_
        refine o_nil ?_
        exact s_joinN 4 31 _ rfl rfl rfl (fun w h => by first | exact h | exact h.ent aEt)) ?_
    refine o_nil ?_
    refine s_cond rfl (fun h7 => ?_) (fun h7 => ?_)
    · try simp only [decide_eq_true_eq, decide_eq_false_iff_not, Bool.not_eq_true', Bool.not_eq_false', Bool.and_eq_true, Bool.or_eq_true, Bool.and_eq_false_iff, Bool.or_eq_false_iff, Bool.not_true, Bool.not_false] at h7
      refine s_seq ?_
      refine s_region ?_
      refine o_p (p_pure rfl) rfl ?_
      refine o_nil ?_
      exact s_retv (rs := [.tmp 6]) rfl (.tmp rfl (.nil)) (fun w' h' => ⟨by rfl, h'.below⟩)
    · try simp only [decide_eq_true_eq, decide_eq_false_iff_not, Bool.not_eq_true', Bool.not_eq_false', Bool.and_eq_true, Bool.or_eq_true, Bool.and_eq_false_iff, Bool.or_eq_false_iff, Bool.not_true, Bool.not_false] at h7
      have hf : smallU [t, s] = true ∧ fewU l = true := by have hq := h7; grind
      have hsz := sm2 hf.1
      have hfw := few_ok hf.2
      have hml6 : ∀ s ∈ l, s.length ≤ 1000000 := fun s hA => by have := hfw.2 s hA; omega
      refine s_skip ?_
      refine s_seq ?_
      refine s_seq ?_
      refine s_region ?_
      refine o_p (p_pure rfl) rfl ?_
      refine o_q (q_call rfl fn_22 rfl (fun w1 h1 => c22 w1 s (by omega))) rfl ?_
      refine o_p (p_pure rfl) rfl ?_
      refine o_q (q_call rfl fn_23 rfl (fun w1 h1 => c23 w1 s (by omega))) rfl ?_
      refine o_p (p_neq_bool rfl rfl rfl Tryd.underlying4) rfl ?_
      refine o_nil ?_
      refine s_cond rfl (fun h8 => ?_) (fun h8 => ?_)
      · try simp only [decide_eq_true_eq, decide_eq_false_iff_not, Bool.not_eq_true', Bool.not_eq_false', Bool.and_eq_true, Bool.or_eq_true, Bool.and_eq_false_iff, Bool.or_eq_false_iff, Bool.not_true, Bool.not_false] at h8
        exfalso; simp at h8
      · try simp only [decide_eq_true_eq, decide_eq_false_iff_not, Bool.not_eq_true', Bool.not_eq_false', Bool.and_eq_true, Bool.or_eq_true, Bool.and_eq_false_iff, Bool.or_eq_false_iff, Bool.not_true, Bool.not_false] at h8
        refine s_skip ?_
        refine s_seq ?_
        refine s_region ?_
        refine o_p (p_pure rfl) rfl ?_
        refine o_p (p_pure rfl) rfl ?_
        refine o_q (q_call rfl fn_24 rfl (fun w1 h1 => c24 w1 t s (by omega) (by omega))) rfl ?_
        refine o_p (p_pure rfl) rfl ?_
        refine o_p (p_pure rfl) rfl ?_
        refine o_p (p_pure rfl) rfl ?_
        refine o_p (p_pure rfl) rfl ?_
        refine o_p (p_pure rfl) rfl ?_
        refine o_nil ?_
        refine s_seq ?_
        refine s_region ?_
        refine o_p (p_pure rfl) rfl ?_
        refine o_p (p_pure rfl) rfl ?_
        refine o_p (p_pure rfl) rfl ?_
        refine o_h (h_call rfl fn_18 rfl (fun w1 h1 => c18 w1 a cap l (hs.later h1) (by omega))) rfl (fun gc _ => ?_)
        refine o_q (q_call rfl fn_25 rfl (fun w1 h1 => c25 w1 t s gc.1 gc.2 l (by omega) (by omega) (h1.vl_own (a := gc.1) aPk) (by omega) hml6 (ht.later h1))) rfl ?_
        refine o_p (p_pure rfl) rfl ?_
        refine o_p (p_pure rfl) rfl ?_
        refine o_p (p_pure rfl) rfl ?_
        refine o_p (p_pure rfl) rfl ?_
        refine o_p (p_pure rfl) rfl ?_
        refine o_nil ?_
        refine s_seq ?_
        refine s_weaken (L' := [(0, _), (1, _), (2, _), (6, _), (7, _), (8, _), (9, _), (10, _)]) aSx (fun _ h => h) ?_
        refine s_region ?_
        refine o_p (p_pure rfl) rfl ?_
        refine o_p (p_pure rfl) rfl ?_
        refine o_h (h_call rfl fn_18 rfl (fun w1 h1 => c18 w1 a cap l (hs.later h1) (by omega))) rfl (fun gd _ => ?_)
        refine o_h (h_call rfl fn_26 rfl (fun w1 h1 => c26 w1 t gd.1 gd.2 l (by omega) (h1.vl_own (a := gd.1) aPk) (by omega) hml6 (ht.later h1))) rfl (fun ga _ => ?_)
        refine o_p (p_pure rfl) rfl ?_
        refine o_p (p_pure rfl) rfl ?_
        refine o_p (p_pure rfl) rfl ?_
        refine o_p (p_pure rfl) rfl ?_
        refine o_p (p_pure rfl) rfl ?_
        refine o_nil ?_
        refine s_seq ?_
        refine s_region ?_
        refine o_p (p_pure rfl) rfl ?_
        refine o_q (q_call rfl fn_12 rfl (fun w1 h1 => c12 w1 t (by omega))) rfl ?_
        refine o_p (p_pure rfl) rfl ?_
        refine o_nil ?_
        refine s_seq ?_
        refine s_region ?_
        refine o_p (p_pure rfl) rfl ?_
        refine o_p (p_pure rfl) rfl ?_
        refine o_nil ?_
        refine s_seq ?_
        refine s_seq ?_
        refine s_region ?_
        refine o_p (p_pure rfl) rfl ?_
        refine o_p (p_pure rfl) rfl ?_
        refine o_nil ?_
        refine s_weaken (L' := [(0, _), (1, _), (2, _), (6, _), (7, _), (8, _), (9, _), (10, _), (11, _), (12, _), (13, _), (14, _), (62, _)]) aSx (fun _ h => h) ?_
        refine s_cutI (α := Unit) [13, 14, 63, 64, 65, 66, 67] (fun _ => [(13, .int .i64 (openE t [s])), (14, .int .i64 (cSU t l))]) (fun _ => HS w [] [.own (.slice ga.1 (shA t l).1.length ga.2) 9 1 (shA t l).1.length ((shA t l).1.map strV)]) (fun _ => True) ?_ ?_
        · skip
          refine s_cond rfl (fun h9 => ?_) (fun h9 => ?_)
          · try simp only [decide_eq_true_eq, decide_eq_false_iff_not, Bool.not_eq_true', Bool.not_eq_false', Bool.and_eq_true, Bool.or_eq_true, Bool.and_eq_false_iff, Bool.or_eq_false_iff, Bool.not_true, Bool.not_false] at h9
            have hT : (chkTab t).2 = 0 := h9
            have h9 : openE t [s] = nameE s := by rw [openE_1, if_pos hT]
            have h8 : cSU t l = shsE t l := by rw [cSU, if_pos hT]
            refine s_region ?_
            refine o_p (p_pure rfl) rfl ?_
            refine o_q (q_call rfl fn_14 rfl (fun w1 h1 => c14 w1 s hms)) rfl ?_
            refine o_p (p_pure rfl) rfl ?_
            refine o_p (p_pure rfl) rfl ?_
            refine o_q (q_call rfl fn_27 rfl (fun w1 h1 => c27 w1 t a cap l (chkTab_ok hT).1 (hs.later h1) (by omega) hml6)) rfl ?_
            refine o_p (p_pure rfl) rfl ?_
            refine o_p (p_pure rfl) rfl ?_
            refine o_nil ?_
            exact s_joinI () trivial (by (try dsimp only); rw [h9, h8]; exact aSx) (fun w h => h.ent aEt)
          · try simp only [decide_eq_true_eq, decide_eq_false_iff_not, Bool.not_eq_true', Bool.not_eq_false', Bool.and_eq_true, Bool.or_eq_true, Bool.and_eq_false_iff, Bool.or_eq_false_iff, Bool.not_true, Bool.not_false] at h9
            have hT : ¬ (chkTab t).2 = 0 := h9
            have h9 : openE t [s] = (chkTab t).2 := by rw [openE_1, if_neg hT]
            have h8 : cSU t l = (chkTab t).2 := by rw [cSU, if_neg hT]
            refine s_skip ?_
            exact s_joinI () trivial (by (try dsimp only); rw [h9, h8]; exact aSx) (fun w h => h.ent aEt)
        · intro _ _
          refine s_seq ?_
          refine s_seq ?_
          refine s_region ?_
          refine o_p (p_pure rfl) rfl ?_
          refine o_p (p_pure rfl) rfl ?_
          refine o_nil ?_
          refine s_cutI (α := Unit) [6, 15, 16, 70, 71, 72, 73, 74, 75, 76, 77, 78, 79, 80, 81, 82, 83, 84, 85, 86, 87, 88, 89, 90, 91, 92, 93, 94, 95, 96, 97, 98, 99, 100, 101, 102, 103, 104, 105] (fun _ => []) (fun _ => HS w [] []) (fun _ => True) ?_ ?_
          · skip
            refine s_cond rfl (fun h10 => ?_) (fun h10 => ?_)
            · try simp only [decide_eq_true_eq, decide_eq_false_iff_not, Bool.not_eq_true', Bool.not_eq_false', Bool.and_eq_true, Bool.or_eq_true, Bool.and_eq_false_iff, Bool.or_eq_false_iff, Bool.not_true, Bool.not_false] at h10
              have hc0 := cSU_0 h10
              have hon := namesE_ok hc0.2.1
              have hfl := shF_len (t := t) (l := l) (ks := l.map (up t)) (acc := [])
              simp only [List.length_nil, Nat.zero_add] at hfl
              rw [hc0.2.2]
              refine s_seq ?_
              refine s_region ?_
              refine o_p (p_pure rfl) rfl ?_
              refine o_p (p_pure rfl) rfl ?_
              refine o_h (h_call rfl fn_28 rfl (fun w1 h1 => c28 w1 t a cap l (chkTab_ok hc0.1).1 (hs.later h1) (by omega) hml6 hon.2 hon.1)) rfl (fun gw _ => ?_)
              refine o_p (p_pure rfl) rfl ?_
              refine o_p (p_pure rfl) rfl ?_
              refine o_p (p_pure rfl) rfl ?_
              refine o_p (p_pure rfl) rfl ?_
              refine o_p (p_pure rfl) rfl ?_
              refine o_nil ?_
              refine s_seq ?_
              refine s_region ?_
              refine o_p (p_pure rfl) rfl ?_
              refine o_p (p_pure rfl) rfl ?_
              refine o_p (p_pure rfl) rfl ?_
              refine o_p (p_pure rfl) rfl ?_
              refine o_or 8 79 87 _ _ rfl
                (by
                  intro hg11
                  have hs12 := hg11; try simp only [decide_eq_true_eq, decide_eq_false_iff_not, Bool.not_eq_true', Bool.not_eq_false', Bool.and_eq_true, Bool.or_eq_true, Bool.and_eq_false_iff, Bool.or_eq_false_iff, Bool.not_true, Bool.not_false] at hs12
                  refine o_on 79 _ rfl rfl hg11 ?_
                  refine o_p (p_pure rfl) rfl ?_
                  refine o_on 79 _ rfl rfl hg11 ?_
                  refine o_p (p_pure rfl) rfl ?_
                  refine o_on 79 _ rfl rfl hg11 ?_
                  refine o_p (p_pure rfl) rfl ?_
                  refine o_and 4 82 86 _ _ rfl
                    (by
                      intro hg13
                      have hs14 := hg13; try simp only [decide_eq_true_eq, decide_eq_false_iff_not, Bool.not_eq_true', Bool.not_eq_false', Bool.and_eq_true, Bool.or_eq_true, Bool.and_eq_false_iff, Bool.or_eq_false_iff, Bool.not_true, Bool.not_false] at hs14
                      refine o_on 82 _ rfl rfl hg13 ?_
                      refine o_p (p_pure rfl) rfl ?_
                      refine o_on 82 _ rfl rfl hg13 ?_
                      refine o_p (p_len_slice rfl rfl Tryd.underlying29) rfl ?_
                      refine o_on 82 _ rfl rfl hg13 ?_
                      refine o_p (p_pure rfl) rfl ?_
                      refine o_on 79 _ rfl rfl hg11 ?_
                      refine o_p (p_pickt rfl rfl hg13 rfl) rfl ?_
                      refine o_nil ?_
                      exact s_joinN 4 86 _ rfl rfl rfl (fun w h => by first | exact h | exact h.ent aEt))
                    (by
                      intro hg15
                      have hs16 := hg15; try simp only [decide_eq_true_eq, decide_eq_false_iff_not, Bool.not_eq_true', Bool.not_eq_false', Bool.and_eq_true, Bool.or_eq_true, Bool.and_eq_false_iff, Bool.or_eq_false_iff, Bool.not_true, Bool.not_false] at hs16
                      refine o_off 82 _ rfl rfl hg15 rfl ?_
                      refine o_off 82 _ rfl rfl hg15 rfl ?_
                      refine o_off 82 _ rfl rfl hg15 rfl ?_
                      refine o_on 79 _ rfl rfl hg11 ?_
                      refine o_p (p_pickf rfl rfl hg15 rfl) rfl ?_
                      refine o_nil ?_
                      exact s_joinN 4 86 _ rfl rfl rfl (fun w h => by first | exact h | exact h.ent aEt)) ?_
                  refine o_p (p_pickf rfl rfl hg11 rfl) rfl ?_
                  refine o_nil ?_
                  exact s_joinN 5 87 _ rfl rfl rfl (fun w h => by first | exact h | exact h.ent aEt))
                (by
                  intro hg17
                  have hs18 := hg17; try simp only [decide_eq_true_eq, decide_eq_false_iff_not, Bool.not_eq_true', Bool.not_eq_false', Bool.and_eq_true, Bool.or_eq_true, Bool.and_eq_false_iff, Bool.or_eq_false_iff, Bool.not_true, Bool.not_false] at hs18
                  refine o_off 79 _ rfl rfl hg17 rfl ?_
                  refine o_off 79 _ rfl rfl hg17 rfl ?_
                  refine o_off 79 _ rfl rfl hg17 rfl ?_
                  refine o_off' 82 rfl rfl rfl ?_
                  refine o_off' 82 rfl rfl rfl ?_
                  refine o_off' 82 rfl rfl rfl ?_
                  refine o_off 79 _ rfl rfl hg17 rfl ?_
                  refine o_p (p_pickt rfl rfl hg17 rfl) rfl ?_
                  refine o_nil ?_
                  exact s_joinN 8 87 _ rfl rfl rfl (fun w h => by first | exact h | exact h.ent aEt)) ?_
              refine o_p (p_pure rfl) rfl ?_
              refine o_or 9 88 97 _ _ rfl
                (by
                  intro hg19
                  have hs20 := hg19; try simp only [decide_eq_true_eq, decide_eq_false_iff_not, Bool.not_eq_true', Bool.not_eq_false', Bool.and_eq_true, Bool.or_eq_true, Bool.and_eq_false_iff, Bool.or_eq_false_iff, Bool.not_true, Bool.not_false] at hs20
                  refine o_on 88 _ rfl rfl hg19 ?_
                  refine o_p (p_pure rfl) rfl ?_
                  refine o_on 88 _ rfl rfl hg19 ?_
                  refine o_p (p_pure rfl) rfl ?_
                  refine o_on 88 _ rfl rfl hg19 ?_
                  refine o_p (p_pure rfl) rfl ?_
                  refine o_and 5 91 96 _ _ rfl
                    (by
                      intro hg21
                      have hs22 := hg21; try simp only [decide_eq_true_eq, decide_eq_false_iff_not, Bool.not_eq_true', Bool.not_eq_false', Bool.and_eq_true, Bool.or_eq_true, Bool.and_eq_false_iff, Bool.or_eq_false_iff, Bool.not_true, Bool.not_false] at hs22
                      refine o_on 91 _ rfl rfl hg21 ?_
                      refine o_p (p_pure rfl) rfl ?_
                      refine o_on 91 _ rfl rfl hg21 ?_
                      refine o_p (p_pure rfl) rfl ?_
                      refine o_on 91 _ rfl rfl hg21 ?_
                      refine o_q (q_call rfl fn_29 rfl (fun w1 h1 => c29 w1 ga.1 gw.1 _ _ (shF t l (l.map (up t)) []).1 (h1.vl_own (a := ga.1) aPk) (h1.vl_own (a := gw.1) aPk) (by omega))) rfl ?_
                      refine o_on 91 _ rfl rfl hg21 ?_
                      refine o_p (p_pure rfl) rfl ?_
                      refine o_on 88 _ rfl rfl hg19 ?_
                      refine o_p (p_pickt rfl rfl hg21 rfl) rfl ?_
                      refine o_nil ?_
                      exact s_joinN 5 96 _ rfl rfl rfl (fun w h => by first | exact h | exact h.ent aEt))
                    (by
                      intro hg23
                      have hs24 := hg23; try simp only [decide_eq_true_eq, decide_eq_false_iff_not, Bool.not_eq_true', Bool.not_eq_false', Bool.and_eq_true, Bool.or_eq_true, Bool.and_eq_false_iff, Bool.or_eq_false_iff, Bool.not_true, Bool.not_false] at hs24
                      refine o_off 91 _ rfl rfl hg23 rfl ?_
                      refine o_off 91 _ rfl rfl hg23 rfl ?_
                      refine o_off 91 _ rfl rfl hg23 rfl ?_
                      refine o_off 91 _ rfl rfl hg23 rfl ?_
                      refine o_on 88 _ rfl rfl hg19 ?_
                      refine o_p (p_pickf rfl rfl hg23 rfl) rfl ?_
                      refine o_nil ?_
                      exact s_joinN 5 96 _ rfl rfl rfl (fun w h => by first | exact h | exact h.ent aEt)) ?_
                  refine o_p (p_pickf rfl rfl hg19 rfl) rfl ?_
                  refine o_nil ?_
                  exact s_joinN 5 97 _ rfl rfl rfl (fun w h => by first | exact h | exact h.ent aEt))
                (by
                  intro hg25
                  have hs26 := hg25; try simp only [decide_eq_true_eq, decide_eq_false_iff_not, Bool.not_eq_true', Bool.not_eq_false', Bool.and_eq_true, Bool.or_eq_true, Bool.and_eq_false_iff, Bool.or_eq_false_iff, Bool.not_true, Bool.not_false] at hs26
                  refine o_off 88 _ rfl rfl hg25 rfl ?_
                  refine o_off 88 _ rfl rfl hg25 rfl ?_
                  refine o_off 88 _ rfl rfl hg25 rfl ?_
                  refine o_off' 91 rfl rfl rfl ?_
                  refine o_off' 91 rfl rfl rfl ?_
                  refine o_off' 91 rfl rfl rfl ?_
                  refine o_off' 91 rfl rfl rfl ?_
                  refine o_off 88 _ rfl rfl hg25 rfl ?_
                  refine o_p (p_pickt rfl rfl hg25 rfl) rfl ?_
                  refine o_nil ?_
                  exact s_joinN 9 97 _ rfl rfl rfl (fun w h => by first | exact h | exact h.ent aEt)) ?_
              refine o_nil ?_
              refine s_cond rfl (fun h27 => ?_) (fun h27 => ?_)
              · try simp only [decide_eq_true_eq, decide_eq_false_iff_not, Bool.not_eq_true', Bool.not_eq_false', Bool.and_eq_true, Bool.or_eq_true, Bool.and_eq_false_iff, Bool.or_eq_false_iff, Bool.not_true, Bool.not_false] at h27
                exfalso; have hE := shF_err (t := t) (l := l) (ks := l.map (up t)) (acc := []); by_cases hz : (shF t l (l.map (up t)) []).2 = 0 <;> simp_all
              · try simp only [decide_eq_true_eq, decide_eq_false_iff_not, Bool.not_eq_true', Bool.not_eq_false', Bool.and_eq_true, Bool.or_eq_true, Bool.and_eq_false_iff, Bool.or_eq_false_iff, Bool.not_true, Bool.not_false] at h27
                refine s_skip ?_
                exact s_joinI () trivial aSx (fun w h => h.ent aEt)
            · try simp only [decide_eq_true_eq, decide_eq_false_iff_not, Bool.not_eq_true', Bool.not_eq_false', Bool.and_eq_true, Bool.or_eq_true, Bool.and_eq_false_iff, Bool.or_eq_false_iff, Bool.not_true, Bool.not_false] at h10
              rw [cSU_1 h10]
              refine s_seq ?_
              refine s_region ?_
              refine o_p (p_pure rfl) rfl ?_
              refine o_p (p_pure rfl) rfl ?_
              refine o_p (p_pure rfl) rfl ?_
              refine o_p (p_pure rfl) rfl ?_
              refine o_or 4 101 105 _ _ rfl
                (by
                  intro hg28
                  have hs29 := hg28; try simp only [decide_eq_true_eq, decide_eq_false_iff_not, Bool.not_eq_true', Bool.not_eq_false', Bool.and_eq_true, Bool.or_eq_true, Bool.and_eq_false_iff, Bool.or_eq_false_iff, Bool.not_true, Bool.not_false] at hs29
                  refine o_on 101 _ rfl rfl hg28 ?_
                  refine o_p (p_pure rfl) rfl ?_
                  refine o_on 101 _ rfl rfl hg28 ?_
                  refine o_p (p_len_slice rfl rfl Tryd.underlying29) rfl ?_
                  refine o_on 101 _ rfl rfl hg28 ?_
                  refine o_p (p_pure rfl) rfl ?_
                  refine o_p (p_pickf rfl rfl hg28 rfl) rfl ?_
                  refine o_nil ?_
                  exact s_joinN 4 105 _ rfl rfl rfl (fun w h => by first | exact h | exact h.ent aEt))
                (by
                  intro hg30
                  have hs31 := hg30; try simp only [decide_eq_true_eq, decide_eq_false_iff_not, Bool.not_eq_true', Bool.not_eq_false', Bool.and_eq_true, Bool.or_eq_true, Bool.and_eq_false_iff, Bool.or_eq_false_iff, Bool.not_true, Bool.not_false] at hs31
                  refine o_off 101 _ rfl rfl hg30 rfl ?_
                  refine o_off 101 _ rfl rfl hg30 rfl ?_
                  refine o_off 101 _ rfl rfl hg30 rfl ?_
                  refine o_p (p_pickt rfl rfl hg30 rfl) rfl ?_
                  refine o_nil ?_
                  exact s_joinN 4 105 _ rfl rfl rfl (fun w h => by first | exact h | exact h.ent aEt)) ?_
              refine o_nil ?_
              refine s_cond rfl (fun h32 => ?_) (fun h32 => ?_)
              · try simp only [decide_eq_true_eq, decide_eq_false_iff_not, Bool.not_eq_true', Bool.not_eq_false', Bool.and_eq_true, Bool.or_eq_true, Bool.and_eq_false_iff, Bool.or_eq_false_iff, Bool.not_true, Bool.not_false] at h32
                exfalso; simp at h32
              · try simp only [decide_eq_true_eq, decide_eq_false_iff_not, Bool.not_eq_true', Bool.not_eq_false', Bool.and_eq_true, Bool.or_eq_true, Bool.and_eq_false_iff, Bool.or_eq_false_iff, Bool.not_true, Bool.not_false] at h32
                refine s_skip ?_
                exact s_joinI () trivial aSx (fun w h => h.ent aEt)
          · intro _ _
            refine s_seq ?_
            refine s_seq ?_
            refine s_region ?_
            refine o_p (p_pure rfl) rfl ?_
            refine o_p (p_pure rfl) rfl ?_
            refine o_nil ?_
            refine s_cond rfl (fun h33 => ?_) (fun h33 => ?_)
            · try simp only [decide_eq_true_eq, decide_eq_false_iff_not, Bool.not_eq_true', Bool.not_eq_false', Bool.and_eq_true, Bool.or_eq_true, Bool.and_eq_false_iff, Bool.or_eq_false_iff, Bool.not_true, Bool.not_false] at h33
              have h0 : ¬ openE t [s] = 0 := h33
              have hse : shOfE t s l = openE t [s] := by rw [shOfE, if_neg h0]
              refine s_seq ?_
              refine s_region ?_
              refine o_p (p_pure rfl) rfl ?_
              refine o_p (p_pure rfl) rfl ?_
              refine o_p (p_pure rfl) rfl ?_
              refine o_p (p_pure rfl) rfl ?_
              refine o_and 4 111 115 _ _ rfl
                (by
                  intro hg34
                  have hs35 := hg34; try simp only [decide_eq_true_eq, decide_eq_false_iff_not, Bool.not_eq_true', Bool.not_eq_false', Bool.and_eq_true, Bool.or_eq_true, Bool.and_eq_false_iff, Bool.or_eq_false_iff, Bool.not_true, Bool.not_false] at hs35
                  refine o_on 111 _ rfl rfl hg34 ?_
                  refine o_p (p_pure rfl) rfl ?_
                  refine o_on 111 _ rfl rfl hg34 ?_
                  refine o_p (p_pure rfl) rfl ?_
                  refine o_on 111 _ rfl rfl hg34 ?_
                  refine o_p (p_pure rfl) rfl ?_
                  refine o_p (p_pickt rfl rfl hg34 rfl) rfl ?_
                  refine o_nil ?_
                  exact s_joinN 4 115 _ rfl rfl rfl (fun w h => by first | exact h | exact h.ent aEt))
                (by
                  intro hg36
                  have hs37 := hg36; try simp only [decide_eq_true_eq, decide_eq_false_iff_not, Bool.not_eq_true', Bool.not_eq_false', Bool.and_eq_true, Bool.or_eq_true, Bool.and_eq_false_iff, Bool.or_eq_false_iff, Bool.not_true, Bool.not_false] at hs37
                  refine o_off 111 _ rfl rfl hg36 rfl ?_
                  refine o_off 111 _ rfl rfl hg36 rfl ?_
                  refine o_off 111 _ rfl rfl hg36 rfl ?_
                  refine o_p (p_pickf rfl rfl hg36 rfl) rfl ?_
                  refine o_nil ?_
                  exact s_joinN 4 115 _ rfl rfl rfl (fun w h => by first | exact h | exact h.ent aEt)) ?_
              refine o_p (p_pure rfl) rfl ?_
              refine o_and 3 116 119 _ _ rfl
                (by
                  intro hg38
                  have hs39 := hg38; try simp only [decide_eq_true_eq, decide_eq_false_iff_not, Bool.not_eq_true', Bool.not_eq_false', Bool.and_eq_true, Bool.or_eq_true, Bool.and_eq_false_iff, Bool.or_eq_false_iff, Bool.not_true, Bool.not_false] at hs39
                  refine o_on 116 _ rfl rfl hg38 ?_
                  refine o_p (p_pure rfl) rfl ?_
                  refine o_on 116 _ rfl rfl hg38 ?_
                  refine o_p (p_pure rfl) rfl ?_
                  refine o_p (p_pickt rfl rfl hg38 rfl) rfl ?_
                  refine o_nil ?_
                  exact s_joinN 3 119 _ rfl rfl rfl (fun w h => by first | exact h | exact h.ent aEt))
                (by
                  intro hg40
                  have hs41 := hg40; try simp only [decide_eq_true_eq, decide_eq_false_iff_not, Bool.not_eq_true', Bool.not_eq_false', Bool.and_eq_true, Bool.or_eq_true, Bool.and_eq_false_iff, Bool.or_eq_false_iff, Bool.not_true, Bool.not_false] at hs41
                  refine o_off 116 _ rfl rfl hg40 rfl ?_
                  refine o_off 116 _ rfl rfl hg40 rfl ?_
                  refine o_p (p_pickf rfl rfl hg40 rfl) rfl ?_
                  refine o_nil ?_
                  exact s_joinN 3 119 _ rfl rfl rfl (fun w h => by first | exact h | exact h.ent aEt)) ?_
              refine o_p (p_pure rfl) rfl ?_
              refine o_and 3 120 123 _ _ rfl
                (by
                  intro hg42
                  have hs43 := hg42; try simp only [decide_eq_true_eq, decide_eq_false_iff_not, Bool.not_eq_true', Bool.not_eq_false', Bool.and_eq_true, Bool.or_eq_true, Bool.and_eq_false_iff, Bool.or_eq_false_iff, Bool.not_true, Bool.not_false] at hs43
                  refine o_on 120 _ rfl rfl hg42 ?_
                  refine o_p (p_pure rfl) rfl ?_
                  refine o_on 120 _ rfl rfl hg42 ?_
                  refine o_p (p_pure rfl) rfl ?_
                  refine o_p (p_pickt rfl rfl hg42 rfl) rfl ?_
                  refine o_nil ?_
                  exact s_joinN 3 123 _ rfl rfl rfl (fun w h => by first | exact h | exact h.ent aEt))
                (by
                  intro hg44
                  have hs45 := hg44; try simp only [decide_eq_true_eq, decide_eq_false_iff_not, Bool.not_eq_true', Bool.not_eq_false', Bool.and_eq_true, Bool.or_eq_true, Bool.and_eq_false_iff, Bool.or_eq_false_iff, Bool.not_true, Bool.not_false] at hs45
                  refine o_off 120 _ rfl rfl hg44 rfl ?_
                  refine o_off 120 _ rfl rfl hg44 rfl ?_
                  refine o_p (p_pickf rfl rfl hg44 rfl) rfl ?_
                  refine o_nil ?_
                  exact s_joinN 3 123 _ rfl rfl rfl (fun w h => by first | exact h | exact h.ent aEt)) ?_
              refine o_p (p_pure rfl) rfl ?_
              refine o_nil ?_
              exact s_retv (rs := [.tmp 6]) rfl (.tmp rfl (.nil)) (fun w' h' => ⟨by rw [hse]; simp [h0, retV], h'.below⟩)
            · try simp only [decide_eq_true_eq, decide_eq_false_iff_not, Bool.not_eq_true', Bool.not_eq_false', Bool.and_eq_true, Bool.or_eq_true, Bool.and_eq_false_iff, Bool.or_eq_false_iff, Bool.not_true, Bool.not_false] at h33
              have h0 : openE t [s] = 0 := by have hq := h33; omega
              have ho := openE_ok h0
              have hx := ho.2 s (by simp)
              refine s_skip ?_
              refine s_seq ?_
              refine s_seq ?_
              refine s_region ?_
              refine o_p (p_pure rfl) rfl ?_
              refine o_p (p_pure rfl) rfl ?_
              refine o_p (p_pure rfl) rfl ?_
              refine o_or 6 126 132 _ _ rfl
                (by
                  intro hg46
                  have hs47 := hg46; try simp only [decide_eq_true_eq, decide_eq_false_iff_not, Bool.not_eq_true', Bool.not_eq_false', Bool.and_eq_true, Bool.or_eq_true, Bool.and_eq_false_iff, Bool.or_eq_false_iff, Bool.not_true, Bool.not_false] at hs47
                  refine o_on 126 _ rfl rfl hg46 ?_
                  refine o_p (p_pure rfl) rfl ?_
                  refine o_on 126 _ rfl rfl hg46 ?_
                  refine o_p (p_pure rfl) rfl ?_
                  refine o_on 126 _ rfl rfl hg46 ?_
                  refine o_p (p_pure rfl) rfl ?_
                  refine o_on 126 _ rfl rfl hg46 ?_
                  refine o_q (q_call rfl fn_30 rfl (fun w1 h1 => c30 w1 t s (chkTab_ok ho.1).1 (nameE_lt hx) (by omega))) rfl ?_
                  refine o_on 126 _ rfl rfl hg46 ?_
                  refine o_p (p_neq_bool rfl rfl rfl Tryd.underlying4) rfl ?_
                  refine o_p (p_pickf rfl rfl hg46 rfl) rfl ?_
                  refine o_nil ?_
                  exact s_joinN 6 132 _ rfl rfl rfl (fun w h => by first | exact h | exact h.ent aEt))
                (by
                  intro hg48
                  have hs49 := hg48; try simp only [decide_eq_true_eq, decide_eq_false_iff_not, Bool.not_eq_true', Bool.not_eq_false', Bool.and_eq_true, Bool.or_eq_true, Bool.and_eq_false_iff, Bool.or_eq_false_iff, Bool.not_true, Bool.not_false] at hs49
                  refine o_off 126 _ rfl rfl hg48 rfl ?_
                  refine o_off 126 _ rfl rfl hg48 rfl ?_
                  refine o_off 126 _ rfl rfl hg48 rfl ?_
                  refine o_off 126 _ rfl rfl hg48 rfl ?_
                  refine o_off 126 _ rfl rfl hg48 rfl ?_
                  refine o_p (p_pickt rfl rfl hg48 rfl) rfl ?_
                  refine o_nil ?_
                  exact s_joinN 6 132 _ rfl rfl rfl (fun w h => by first | exact h | exact h.ent aEt)) ?_
              refine o_nil ?_
              refine s_cond rfl (fun h50 => ?_) (fun h50 => ?_)
              · try simp only [decide_eq_true_eq, decide_eq_false_iff_not, Bool.not_eq_true', Bool.not_eq_false', Bool.and_eq_true, Bool.or_eq_true, Bool.and_eq_false_iff, Bool.or_eq_false_iff, Bool.not_true, Bool.not_false] at h50
                exfalso; simp_all
              · try simp only [decide_eq_true_eq, decide_eq_false_iff_not, Bool.not_eq_true', Bool.not_eq_false', Bool.and_eq_true, Bool.or_eq_true, Bool.and_eq_false_iff, Bool.or_eq_false_iff, Bool.not_true, Bool.not_false] at h50
                refine s_skip ?_
                refine s_seq ?_
                refine s_seq ?_
                refine s_region ?_
                refine o_p (p_pure rfl) rfl ?_
                refine o_p (p_pure rfl) rfl ?_
                refine o_nil ?_
                refine s_cond rfl (fun h51 => ?_) (fun h51 => ?_)
                · try simp only [decide_eq_true_eq, decide_eq_false_iff_not, Bool.not_eq_true', Bool.not_eq_false', Bool.and_eq_true, Bool.or_eq_true, Bool.and_eq_false_iff, Bool.or_eq_false_iff, Bool.not_true, Bool.not_false] at h51
                  have hsh : shortS (up t s) = true := by have hq := h51; rw [if_pos h0] at hq; simpa using hq
                  have hse : shOfE t s l = 12 := by rw [shOfE, if_pos h0, if_pos hsh]
                  refine s_seq ?_
                  refine s_region ?_
                  refine o_p (p_pure rfl) rfl ?_
                  refine o_p (p_pure rfl) rfl ?_
                  refine o_p (p_pure rfl) rfl ?_
                  refine o_and 3 137 140 _ _ rfl
                    (by
                      intro hg52
                      have hs53 := hg52; try simp only [decide_eq_true_eq, decide_eq_false_iff_not, Bool.not_eq_true', Bool.not_eq_false', Bool.and_eq_true, Bool.or_eq_true, Bool.and_eq_false_iff, Bool.or_eq_false_iff, Bool.not_true, Bool.not_false] at hs53
                      refine o_on 137 _ rfl rfl hg52 ?_
                      refine o_p (p_pure rfl) rfl ?_
                      refine o_on 137 _ rfl rfl hg52 ?_
                      refine o_p (p_pure rfl) rfl ?_
                      refine o_p (p_pickt rfl rfl hg52 rfl) rfl ?_
                      refine o_nil ?_
                      exact s_joinN 3 140 _ rfl rfl rfl (fun w h => by first | exact h | exact h.ent aEt))
                    (by
                      intro hg54
                      have hs55 := hg54; try simp only [decide_eq_true_eq, decide_eq_false_iff_not, Bool.not_eq_true', Bool.not_eq_false', Bool.and_eq_true, Bool.or_eq_true, Bool.and_eq_false_iff, Bool.or_eq_false_iff, Bool.not_true, Bool.not_false] at hs55
                      refine o_off 137 _ rfl rfl hg54 rfl ?_
                      refine o_off 137 _ rfl rfl hg54 rfl ?_
                      refine o_p (p_pickf rfl rfl hg54 rfl) rfl ?_
                      refine o_nil ?_
                      exact s_joinN 3 140 _ rfl rfl rfl (fun w h => by first | exact h | exact h.ent aEt)) ?_
                  refine o_p (p_pure rfl) rfl ?_
                  refine o_nil ?_
                  exact s_retv (rs := [.tmp 6]) rfl (.tmp rfl (.nil)) (fun w' h' => ⟨by rw [hse]; simp [retV], h'.below⟩)
                · try simp only [decide_eq_true_eq, decide_eq_false_iff_not, Bool.not_eq_true', Bool.not_eq_false', Bool.and_eq_true, Bool.or_eq_true, Bool.and_eq_false_iff, Bool.or_eq_false_iff, Bool.not_true, Bool.not_false] at h51
                  have hsh : ¬ shortS (up t s) = true := by have hq := h51; rw [if_pos h0] at hq; simpa using hq
                  have hse : shOfE t s l = namesE l := by rw [shOfE, if_pos h0, if_neg hsh]
                  refine s_skip ?_
                  refine s_seq ?_
                  refine s_seq ?_
                  refine s_region ?_
                  refine o_p (p_pure rfl) rfl ?_
                  refine o_q (q_call rfl fn_19 rfl (fun w1 h1 => c19 w1 a cap l (hs.later h1) (by omega) hml6)) rfl ?_
                  refine o_p (p_pure rfl) rfl ?_
                  refine o_nil ?_
                  refine s_seq ?_
                  refine s_region ?_
                  refine o_p (p_pure rfl) rfl ?_
                  refine o_p (p_pure rfl) rfl ?_
                  refine o_nil ?_
                  refine s_cond rfl (fun h56 => ?_) (fun h56 => ?_)
                  · try simp only [decide_eq_true_eq, decide_eq_false_iff_not, Bool.not_eq_true', Bool.not_eq_false', Bool.and_eq_true, Bool.or_eq_true, Bool.and_eq_false_iff, Bool.or_eq_false_iff, Bool.not_true, Bool.not_false] at h56
                    have hnz : ¬ namesE l = 0 := h56
                    refine s_seq ?_
                    refine s_region ?_
                    refine o_p (p_pure rfl) rfl ?_
                    refine o_p (p_pure rfl) rfl ?_
                    refine o_p (p_pure rfl) rfl ?_
                    refine o_p (p_pure rfl) rfl ?_
                    refine o_and 3 148 151 _ _ rfl
                      (by
                        intro hg57
                        have hs58 := hg57; try simp only [decide_eq_true_eq, decide_eq_false_iff_not, Bool.not_eq_true', Bool.not_eq_false', Bool.and_eq_true, Bool.or_eq_true, Bool.and_eq_false_iff, Bool.or_eq_false_iff, Bool.not_true, Bool.not_false] at hs58
                        refine o_on 148 _ rfl rfl hg57 ?_
                        refine o_p (p_pure rfl) rfl ?_
                        refine o_on 148 _ rfl rfl hg57 ?_
                        refine o_p (p_pure rfl) rfl ?_
                        refine o_p (p_pickt rfl rfl hg57 rfl) rfl ?_
                        refine o_nil ?_
                        exact s_joinN 3 151 _ rfl rfl rfl (fun w h => by first | exact h | exact h.ent aEt))
                      (by
                        intro hg59
                        have hs60 := hg59; try simp only [decide_eq_true_eq, decide_eq_false_iff_not, Bool.not_eq_true', Bool.not_eq_false', Bool.and_eq_true, Bool.or_eq_true, Bool.and_eq_false_iff, Bool.or_eq_false_iff, Bool.not_true, Bool.not_false] at hs60
                        refine o_off 148 _ rfl rfl hg59 rfl ?_
                        refine o_off 148 _ rfl rfl hg59 rfl ?_
                        refine o_p (p_pickf rfl rfl hg59 rfl) rfl ?_
                        refine o_nil ?_
                        exact s_joinN 3 151 _ rfl rfl rfl (fun w h => by first | exact h | exact h.ent aEt)) ?_
                    refine o_p (p_pure rfl) rfl ?_
                    refine o_nil ?_
                    exact s_retv (rs := [.tmp 6]) rfl (.tmp rfl (.nil)) (fun w' h' => ⟨by rw [hse]; simp [hnz, retV], h'.below⟩)
                  · try simp only [decide_eq_true_eq, decide_eq_false_iff_not, Bool.not_eq_true', Bool.not_eq_false', Bool.and_eq_true, Bool.or_eq_true, Bool.and_eq_false_iff, Bool.or_eq_false_iff, Bool.not_true, Bool.not_false] at h56
                    have hnz : namesE l = 0 := by have hq := h56; omega
                    refine s_skip ?_
                    refine s_seq ?_
                    refine s_region ?_
                    refine o_p (p_pure rfl) rfl ?_
                    refine o_p (p_pure rfl) rfl ?_
                    refine o_p (p_pure rfl) rfl ?_
                    refine o_q (q_call rfl fn_31 rfl (fun w1 h1 => c31 w1 t s a cap l (chkTab_ok ho.1).1 (nameE_lt hx) (nameE_ok hx).2.1 (by omega) (hs.later h1) (by omega) (fun x hA => nameE_lt ((namesE_ok hnz).2 x hA)) hml6)) rfl ?_
                    refine o_p (p_pure rfl) rfl ?_
                    refine o_p (p_pure rfl) rfl ?_
                    refine o_p (p_pure rfl) rfl ?_
                    refine o_p (p_pure rfl) rfl ?_
                    refine o_p (p_pure rfl) rfl ?_
                    refine o_nil ?_
                    refine s_seq ?_
                    refine s_weaken (L' := [(9, _), (10, _), (18, _), (19, _)]) aSx (fun _ h => h) ?_
                    refine s_region ?_
                    refine o_p (p_pure rfl) rfl ?_
                    refine o_p (p_pure rfl) rfl ?_
                    refine o_p (p_pure rfl) rfl ?_
                    refine o_p (p_pure rfl) rfl ?_
                    refine o_and 4 162 166 _ _ rfl
                      (by
                        intro hg61
                        have hs62 := hg61; try simp only [decide_eq_true_eq, decide_eq_false_iff_not, Bool.not_eq_true', Bool.not_eq_false', Bool.and_eq_true, Bool.or_eq_true, Bool.and_eq_false_iff, Bool.or_eq_false_iff, Bool.not_true, Bool.not_false] at hs62
                        refine o_on 162 _ rfl rfl hg61 ?_
                        refine o_p (p_pure rfl) rfl ?_
                        refine o_on 162 _ rfl rfl hg61 ?_
                        refine o_p (p_pure rfl) rfl ?_
                        refine o_on 162 _ rfl rfl hg61 ?_
                        refine o_p (p_pure rfl) rfl ?_
                        refine o_p (p_pickt rfl rfl hg61 rfl) rfl ?_
                        refine o_nil ?_
                        exact s_joinN 4 166 _ rfl rfl rfl (fun w h => by first | exact h | exact h.ent aEt))
                      (by
                        intro hg63
                        have hs64 := hg63; try simp only [decide_eq_true_eq, decide_eq_false_iff_not, Bool.not_eq_true', Bool.not_eq_false', Bool.and_eq_true, Bool.or_eq_true, Bool.and_eq_false_iff, Bool.or_eq_false_iff, Bool.not_true, Bool.not_false] at hs64
                        refine o_off 162 _ rfl rfl hg63 rfl ?_
                        refine o_off 162 _ rfl rfl hg63 rfl ?_
                        refine o_off 162 _ rfl rfl hg63 rfl ?_
                        refine o_p (p_pickf rfl rfl hg63 rfl) rfl ?_
                        refine o_nil ?_
                        exact s_joinN 4 166 _ rfl rfl rfl (fun w h => by first | exact h | exact h.ent aEt)) ?_
                    refine o_p (p_pure rfl) rfl ?_
                    refine o_nil ?_
                    exact s_retv (rs := [.tmp 6]) rfl (.tmp rfl (.nil)) (fun w' h' => ⟨by rw [hse]; simp [hnz, retV], h'.below⟩)

end Go.Proofs

