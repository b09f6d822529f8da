/- Contracts of the program's functions, proved by walking them with the rules of the Gx texts; without conditions beyond those that each contract names. -/
import Derived.WalkKit
import Derived.Deep.Draws
import Derived.Lib.Strings
import Derived.Laws.BytesArg
import Derived.Laws.IdiomStrings
import Derived.Deep.Quiet
import Derived.Laws.StructEq
import Derived.ChangeKeysEq
import Derived.Laws.Externs
import Derived.Lib.Overlaps
import Derived.Carry
import Derived.Laws.Small
import Derived.Test.YtgdigngojonbhaaProg
import Derived.KernelRfl
import Derived.ProofKit
import Derived.OpenShut
import Derived.Test.YtgdigngojonbhaaP3
namespace Go.Proofs
open Go Go.RowKit Gx
set_option linter.unusedVariables false
set_option linter.unusedSimpArgs false
attribute [local irreducible] Go.Calls Gx.S Gx.O Gx.D Gx.OpP Gx.OpQ Gx.OpH



set_option maxRecDepth 20000 in
set_option maxHeartbeats 4000000 in
theorem c8 (w : World) (next : Int) (a : Option Addr) (cap : Nat) (L : List LFil) (rc sq : Int) (x y : LOpn) (hs : Ft w [] a L) : Calls Try.prog 8 #[.agg #[.int .i64 next, .slice a L.length cap], .agg #[.int .i64 rc, .int .i64 sq], .agg #[.int .i64 x.hd, .int .i64 x.ac, .int .i64 x.sh, .bool x.dl, .slice x.la x.lk.length x.lc, .int .i64 y.hd, .int .i64 y.ac, .int .i64 y.sh, .bool y.dl, .slice y.la y.lk.length y.lc]] w fun en w' => en = .returned (.bool true) ∧ Below w.heap.size w w' := by
  refine enter (args := [_, _, _]) Try.func8 Try.ntmps8 rfl rfl (HS.refl w []) ?_
  refine s_seq ?_
  refine s_region ?_
  refine o_h (h_box rfl rfl) rfl (fun b1 _ => ?_)
  refine o_h (h_box rfl rfl) rfl (fun b2 _ => ?_)
  refine o_h (h_box rfl rfl) rfl (fun b3 _ => ?_)
  refine o_p (p_pure rfl) rfl ?_
  refine o_nil ?_
  refine s_seq ?_
  refine s_seq ?_
  refine s_region ?_
  refine o_q (q_call rfl fn_11 rfl (fun w1 h1 => c11 w1)) rfl ?_
  refine o_p (p_pure rfl) rfl ?_
  refine o_nil ?_
  refine s_cond rfl (fun h4 => ?_) (fun h4 => ?_)
  · try simp only [decide_eq_true_eq, decide_eq_false_iff_not, Bool.not_eq_true', Bool.not_eq_false', Bool.and_eq_true, Bool.or_eq_true, Bool.and_eq_false_iff, Bool.or_eq_false_iff, Bool.not_true, Bool.not_false] at h4
    exfalso; first | omega | (simp at h4; done) | (simp_all; done)
  · try simp only [decide_eq_true_eq, decide_eq_false_iff_not, Bool.not_eq_true', Bool.not_eq_false', Bool.and_eq_true, Bool.or_eq_true, Bool.and_eq_false_iff, Bool.or_eq_false_iff, Bool.not_true, Bool.not_false] at h4
    refine s_skip ?_
    refine s_seq ?_
    refine s_seq ?_
    refine s_region ?_
    refine o_q (q_loadn rfl rfl sz_26 aPk rfl) rfl ?_
    refine o_q (q_call rfl fn_17 rfl (fun w1 h1 => c17 w1 next a cap L (hs.later h1))) rfl ?_
    refine o_p (p_pure rfl) rfl ?_
    refine o_p (p_pure rfl) rfl ?_
    refine o_or 4 26 30 _ _ rfl
      (by
        intro hg5
        have hs6 := hg5; try simp only [decide_eq_true_eq, decide_eq_false_iff_not, Bool.not_eq_true', Bool.not_eq_false', Bool.and_eq_true, Bool.or_eq_true, Bool.and_eq_false_iff, Bool.or_eq_false_iff, Bool.not_true, Bool.not_false] at hs6
        refine o_on 26 _ rfl rfl hg5 ?_
        refine o_q (q_loadn rfl rfl sz_26 aPk rfl) rfl ?_
        refine o_on 26 _ rfl rfl hg5 ?_
        refine o_q (q_call rfl fn_31 rfl (fun w1 h1 => c31 w1 next a cap L (hs.later h1) (fewT_b (by have hq := hg5; simp at hq; grind)).1 (fewT_b (by have hq := hg5; simp at hq; grind)).2.1)) rfl ?_
        refine o_on 26 _ rfl rfl hg5 ?_
        refine o_p (p_pure rfl) rfl ?_
        refine o_p (p_pickf rfl rfl hg5 rfl) rfl ?_
        refine o_nil ?_
        exact s_joinN 4 30 _ rfl rfl rfl (fun w h => by first | exact h | exact h.ent aEt))
      (by
        intro hg7
        have hs8 := hg7; try simp only [decide_eq_true_eq, decide_eq_false_iff_not, Bool.not_eq_true', Bool.not_eq_false', Bool.and_eq_true, Bool.or_eq_true, Bool.and_eq_false_iff, Bool.or_eq_false_iff, Bool.not_true, Bool.not_false] at hs8
        refine o_off 26 _ rfl rfl hg7 rfl ?_
        refine o_off 26 _ rfl rfl hg7 rfl ?_
        refine o_off 26 _ rfl rfl hg7 rfl ?_
        refine o_p (p_pickt rfl rfl hg7 rfl) rfl ?_
        refine o_nil ?_
        exact s_joinN 4 30 _ rfl rfl rfl (fun w h => by first | exact h | exact h.ent aEt)) ?_
    refine o_p (p_pure rfl) rfl ?_
    refine o_or 4 31 35 _ _ rfl
      (by
        intro hg9
        have hs10 := hg9; try simp only [decide_eq_true_eq, decide_eq_false_iff_not, Bool.not_eq_true', Bool.not_eq_false', Bool.and_eq_true, Bool.or_eq_true, Bool.and_eq_false_iff, Bool.or_eq_false_iff, Bool.not_true, Bool.not_false] at hs10
        refine o_on 31 _ rfl rfl hg9 ?_
        refine o_q (q_loadn rfl rfl sz_42 aPk rfl) rfl ?_
        refine o_on 31 _ rfl rfl hg9 ?_
        refine o_q (q_call rfl fn_32 rfl (fun w1 h1 => c32 w1 rc sq)) rfl ?_
        refine o_on 31 _ rfl rfl hg9 ?_
        refine o_p (p_pure rfl) rfl ?_
        refine o_p (p_pickf rfl rfl hg9 rfl) rfl ?_
        refine o_nil ?_
        exact s_joinN 4 35 _ rfl rfl rfl (fun w h => by first | exact h | exact h.ent aEt))
      (by
        intro hg11
        have hs12 := hg11; try simp only [decide_eq_true_eq, decide_eq_false_iff_not, Bool.not_eq_true', Bool.not_eq_false', Bool.and_eq_true, Bool.or_eq_true, Bool.and_eq_false_iff, Bool.or_eq_false_iff, Bool.not_true, Bool.not_false] at hs12
        refine o_off 31 _ rfl rfl hg11 rfl ?_
        refine o_off 31 _ rfl rfl hg11 rfl ?_
        refine o_off 31 _ rfl rfl hg11 rfl ?_
        refine o_p (p_pickt rfl rfl hg11 rfl) rfl ?_
        refine o_nil ?_
        exact s_joinN 4 35 _ rfl rfl rfl (fun w h => by first | exact h | exact h.ent aEt)) ?_
    refine o_p (p_pure rfl) rfl ?_
    refine o_or 5 36 41 _ _ rfl
      (by
        intro hg13
        have hs14 := hg13; try simp only [decide_eq_true_eq, decide_eq_false_iff_not, Bool.not_eq_true', Bool.not_eq_false', Bool.and_eq_true, Bool.or_eq_true, Bool.and_eq_false_iff, Bool.or_eq_false_iff, Bool.not_true, Bool.not_false] at hs14
        refine o_on 36 _ rfl rfl hg13 ?_
        refine o_q (q_loadn rfl rfl sz_26 aPk rfl) rfl ?_
        refine o_on 36 _ rfl rfl hg13 ?_
        refine o_q (q_loadn rfl rfl sz_42 aPk rfl) rfl ?_
        refine o_on 36 _ rfl rfl hg13 ?_
        refine o_q (q_call rfl fn_33 rfl (fun w1 h1 => c33 w1 next a cap L rc sq (hs.later h1) (fewT_b (by have hq := hg13; simp at hq; grind)).1 (fewT_b (by have hq := hg13; simp at hq; grind)).2.1)) rfl ?_
        refine o_on 36 _ rfl rfl hg13 ?_
        refine o_p (p_pure rfl) rfl ?_
        refine o_p (p_pickf rfl rfl hg13 rfl) rfl ?_
        refine o_nil ?_
        exact s_joinN 5 41 _ rfl rfl rfl (fun w h => by first | exact h | exact h.ent aEt))
      (by
        intro hg15
        have hs16 := hg15; try simp only [decide_eq_true_eq, decide_eq_false_iff_not, Bool.not_eq_true', Bool.not_eq_false', Bool.and_eq_true, Bool.or_eq_true, Bool.and_eq_false_iff, Bool.or_eq_false_iff, Bool.not_true, Bool.not_false] at hs16
        refine o_off 36 _ rfl rfl hg15 rfl ?_
        refine o_off 36 _ rfl rfl hg15 rfl ?_
        refine o_off 36 _ rfl rfl hg15 rfl ?_
        refine o_off 36 _ rfl rfl hg15 rfl ?_
        refine o_p (p_pickt rfl rfl hg15 rfl) rfl ?_
        refine o_nil ?_
        exact s_joinN 5 41 _ rfl rfl rfl (fun w h => by first | exact h | exact h.ent aEt)) ?_
    refine o_p (p_pure rfl) rfl ?_
    refine o_or 4 42 46 _ _ rfl
      (by
        intro hg17
        have hs18 := hg17; try simp only [decide_eq_true_eq, decide_eq_false_iff_not, Bool.not_eq_true', Bool.not_eq_false', Bool.and_eq_true, Bool.or_eq_true, Bool.and_eq_false_iff, Bool.or_eq_false_iff, Bool.not_true, Bool.not_false] at hs18
        refine o_on 42 _ rfl rfl hg17 ?_
        refine o_q (q_loadn rfl rfl sz_26 aPk rfl) rfl ?_
        refine o_on 42 _ rfl rfl hg17 ?_
        refine o_q (q_call rfl fn_34 rfl (fun w1 h1 => c34 w1 next a cap L (hs.later h1) (fewT_b (by have hq := hg17; simp at hq; grind)).1 (fewT_b (by have hq := hg17; simp at hq; grind)).2.1)) rfl ?_
        refine o_on 42 _ rfl rfl hg17 ?_
        refine o_p (p_pure rfl) rfl ?_
        refine o_p (p_pickf rfl rfl hg17 rfl) rfl ?_
        refine o_nil ?_
        exact s_joinN 4 46 _ rfl rfl rfl (fun w h => by first | exact h | exact h.ent aEt))
      (by
        intro hg19
        have hs20 := hg19; try simp only [decide_eq_true_eq, decide_eq_false_iff_not, Bool.not_eq_true', Bool.not_eq_false', Bool.and_eq_true, Bool.or_eq_true, Bool.and_eq_false_iff, Bool.or_eq_false_iff, Bool.not_true, Bool.not_false] at hs20
        refine o_off 42 _ rfl rfl hg19 rfl ?_
        refine o_off 42 _ rfl rfl hg19 rfl ?_
        refine o_off 42 _ rfl rfl hg19 rfl ?_
        refine o_p (p_pickt rfl rfl hg19 rfl) rfl ?_
        refine o_nil ?_
        exact s_joinN 4 46 _ rfl rfl rfl (fun w h => by first | exact h | exact h.ent aEt)) ?_
    refine o_p (p_pure rfl) rfl ?_
    refine o_or 4 47 51 _ _ rfl
      (by
        intro hg21
        have hs22 := hg21; try simp only [decide_eq_true_eq, decide_eq_false_iff_not, Bool.not_eq_true', Bool.not_eq_false', Bool.and_eq_true, Bool.or_eq_true, Bool.and_eq_false_iff, Bool.or_eq_false_iff, Bool.not_true, Bool.not_false] at hs22
        refine o_on 47 _ rfl rfl hg21 ?_
        refine o_p (p_fieldAddr rfl rfl fd_26_0 sz_3 rfl) rfl ?_
        refine o_on 47 _ rfl rfl hg21 ?_
        refine o_q (q_load rfl rfl sz_3 aPk rfl) rfl ?_
        refine o_on 47 _ rfl rfl hg21 ?_
        refine o_p (p_pure rfl) rfl ?_
        refine o_p (p_pickf rfl rfl hg21 rfl) rfl ?_
        refine o_nil ?_
        exact s_joinN 4 51 _ rfl rfl rfl (fun w h => by first | exact h | exact h.ent aEt))
      (by
        intro hg23
        have hs24 := hg23; try simp only [decide_eq_true_eq, decide_eq_false_iff_not, Bool.not_eq_true', Bool.not_eq_false', Bool.and_eq_true, Bool.or_eq_true, Bool.and_eq_false_iff, Bool.or_eq_false_iff, Bool.not_true, Bool.not_false] at hs24
        refine o_off 47 _ rfl rfl hg23 rfl ?_
        refine o_off 47 _ rfl rfl hg23 rfl ?_
        refine o_off 47 _ rfl rfl hg23 rfl ?_
        refine o_p (p_pickt rfl rfl hg23 rfl) rfl ?_
        refine o_nil ?_
        exact s_joinN 4 51 _ rfl rfl rfl (fun w h => by first | exact h | exact h.ent aEt)) ?_
    refine o_nil ?_
    refine s_cond rfl (fun h25 => ?_) (fun h25 => ?_)
    · try simp only [decide_eq_true_eq, decide_eq_false_iff_not, Bool.not_eq_true', Bool.not_eq_false', Bool.and_eq_true, Bool.or_eq_true, Bool.and_eq_false_iff, Bool.or_eq_false_iff, Bool.not_true, Bool.not_false] at h25
      refine s_seq ?_
      refine s_region ?_
      refine o_p (p_pure rfl) rfl ?_
      refine o_nil ?_
      exact s_retv (rs := [.tmp 6]) rfl (.tmp rfl (.nil)) (fun w' h' => ⟨by rfl, h'.below⟩)
    · try simp only [decide_eq_true_eq, decide_eq_false_iff_not, Bool.not_eq_true', Bool.not_eq_false', Bool.and_eq_true, Bool.or_eq_true, Bool.and_eq_false_iff, Bool.or_eq_false_iff, Bool.not_true, Bool.not_false] at h25
      have hq := h25
      have hfw : fewT L = true := by simp at hq; grind
      have hb := fewT_b hfw
      have hck : (chkT next (pls L)).2 = 0 := by simp at hq; grind
      have hrf : refE rc sq = 0 := by simp at hq; grind
      have hat : ¬ 0 ≤ ixI (atB (pls L) rc sq) := by simp at hq; grind
      have hcn : cntT (pls L) ≤ 30 := by simp at hq; grind
      have hnx : next ≤ 2147483642 := by simp at hq; grind
      have hok := chk_ok hck
      have hnx1 := hok.nx
      have hnb := at_miss hok hat
      refine s_skip ?_
      refine s_seq ?_
      refine s_seq ?_
      refine s_region ?_
      refine o_p (p_indexAddr_arr rfl rfl rfl ar_49 (Int.toNat _) (Int.toNat_of_nonneg (by omega)).symm (by omega)) rfl ?_
      refine o_p (p_fieldAddr rfl rfl fd_48_4 sz_46 rfl) rfl ?_
      refine o_q (q_load rfl rfl sz_46 aPk rfl) rfl ?_
      refine o_p (p_len_slice rfl rfl Try.underlying46) rfl ?_
      refine o_p (p_pure rfl) rfl ?_
      refine o_p (p_pure rfl) rfl ?_
      refine o_or 6 57 63 _ _ rfl
        (by
          intro hg26
          have hs27 := hg26; try simp only [decide_eq_true_eq, decide_eq_false_iff_not, Bool.not_eq_true', Bool.not_eq_false', Bool.and_eq_true, Bool.or_eq_true, Bool.and_eq_false_iff, Bool.or_eq_false_iff, Bool.not_true, Bool.not_false] at hs27
          refine o_on 57 _ rfl rfl hg26 ?_
          refine o_p (p_indexAddr_arr rfl rfl rfl ar_49 (Int.toNat _) (Int.toNat_of_nonneg (by omega)).symm (by omega)) rfl ?_
          refine o_on 57 _ rfl rfl hg26 ?_
          refine o_p (p_fieldAddr rfl rfl fd_48_4 sz_46 rfl) rfl ?_
          refine o_on 57 _ rfl rfl hg26 ?_
          refine o_q (q_load rfl rfl sz_46 aPk rfl) rfl ?_
          refine o_on 57 _ rfl rfl hg26 ?_
          refine o_p (p_len_slice rfl rfl Try.underlying46) rfl ?_
          refine o_on 57 _ rfl rfl hg26 ?_
          refine o_p (p_pure rfl) rfl ?_
          refine o_p (p_pickf rfl rfl hg26 rfl) rfl ?_
          refine o_nil ?_
          exact s_joinN 6 63 _ rfl rfl rfl (fun w h => by first | exact h | exact h.ent aEt))
        (by
          intro hg28
          have hs29 := hg28; try simp only [decide_eq_true_eq, decide_eq_false_iff_not, Bool.not_eq_true', Bool.not_eq_false', Bool.and_eq_true, Bool.or_eq_true, Bool.and_eq_false_iff, Bool.or_eq_false_iff, Bool.not_true, Bool.not_false] at hs29
          refine o_off 57 _ rfl rfl hg28 rfl ?_
          refine o_off 57 _ rfl rfl hg28 rfl ?_
          refine o_off 57 _ rfl rfl hg28 rfl ?_
          refine o_off 57 _ rfl rfl hg28 rfl ?_
          refine o_off 57 _ rfl rfl hg28 rfl ?_
          refine o_p (p_pickt rfl rfl hg28 rfl) rfl ?_
          refine o_nil ?_
          exact s_joinN 6 63 _ rfl rfl rfl (fun w h => by first | exact h | exact h.ent aEt)) ?_
      refine o_p (p_pure rfl) rfl ?_
      refine o_or 5 64 69 _ _ rfl
        (by
          intro hg30
          have hs31 := hg30; try simp only [decide_eq_true_eq, decide_eq_false_iff_not, Bool.not_eq_true', Bool.not_eq_false', Bool.and_eq_true, Bool.or_eq_true, Bool.and_eq_false_iff, Bool.or_eq_false_iff, Bool.not_true, Bool.not_false] at hs31
          refine o_on 64 _ rfl rfl hg30 ?_
          refine o_p (p_indexAddr_arr rfl rfl rfl ar_49 (Int.toNat _) (Int.toNat_of_nonneg (by omega)).symm (by omega)) rfl ?_
          refine o_on 64 _ rfl rfl hg30 ?_
          refine o_q (q_loadn rfl rfl sz_48 aPk rfl) rfl ?_
          refine o_on 64 _ rfl rfl hg30 ?_
          refine o_q (q_call rfl fn_22 rfl (fun w1 h1 => c22 w1 x)) rfl ?_
          refine o_on 64 _ rfl rfl hg30 ?_
          refine o_p (p_pure rfl) rfl ?_
          refine o_p (p_pickf rfl rfl hg30 rfl) rfl ?_
          refine o_nil ?_
          exact s_joinN 5 69 _ rfl rfl rfl (fun w h => by first | exact h | exact h.ent aEt))
        (by
          intro hg32
          have hs33 := hg32; try simp only [decide_eq_true_eq, decide_eq_false_iff_not, Bool.not_eq_true', Bool.not_eq_false', Bool.and_eq_true, Bool.or_eq_true, Bool.and_eq_false_iff, Bool.or_eq_false_iff, Bool.not_true, Bool.not_false] at hs33
          refine o_off 64 _ rfl rfl hg32 rfl ?_
          refine o_off 64 _ rfl rfl hg32 rfl ?_
          refine o_off 64 _ rfl rfl hg32 rfl ?_
          refine o_off 64 _ rfl rfl hg32 rfl ?_
          refine o_p (p_pickt rfl rfl hg32 rfl) rfl ?_
          refine o_nil ?_
          exact s_joinN 5 69 _ rfl rfl rfl (fun w h => by first | exact h | exact h.ent aEt)) ?_
      refine o_p (p_pure rfl) rfl ?_
      refine o_or 5 70 75 _ _ rfl
        (by
          intro hg34
          have hs35 := hg34; try simp only [decide_eq_true_eq, decide_eq_false_iff_not, Bool.not_eq_true', Bool.not_eq_false', Bool.and_eq_true, Bool.or_eq_true, Bool.and_eq_false_iff, Bool.or_eq_false_iff, Bool.not_true, Bool.not_false] at hs35
          refine o_on 70 _ rfl rfl hg34 ?_
          refine o_p (p_indexAddr_arr rfl rfl rfl ar_49 (Int.toNat _) (Int.toNat_of_nonneg (by omega)).symm (by omega)) rfl ?_
          refine o_on 70 _ rfl rfl hg34 ?_
          refine o_q (q_loadn rfl rfl sz_48 aPk rfl) rfl ?_
          refine o_on 70 _ rfl rfl hg34 ?_
          refine o_q (q_call rfl fn_22 rfl (fun w1 h1 => c22 w1 y)) rfl ?_
          refine o_on 70 _ rfl rfl hg34 ?_
          refine o_p (p_pure rfl) rfl ?_
          refine o_p (p_pickf rfl rfl hg34 rfl) rfl ?_
          refine o_nil ?_
          exact s_joinN 5 75 _ rfl rfl rfl (fun w h => by first | exact h | exact h.ent aEt))
        (by
          intro hg36
          have hs37 := hg36; try simp only [decide_eq_true_eq, decide_eq_false_iff_not, Bool.not_eq_true', Bool.not_eq_false', Bool.and_eq_true, Bool.or_eq_true, Bool.and_eq_false_iff, Bool.or_eq_false_iff, Bool.not_true, Bool.not_false] at hs37
          refine o_off 70 _ rfl rfl hg36 rfl ?_
          refine o_off 70 _ rfl rfl hg36 rfl ?_
          refine o_off 70 _ rfl rfl hg36 rfl ?_
          refine o_off 70 _ rfl rfl hg36 rfl ?_
          refine o_p (p_pickt rfl rfl hg36 rfl) rfl ?_
          refine o_nil ?_
          exact s_joinN 5 75 _ rfl rfl rfl (fun w h => by first | exact h | exact h.ent aEt)) ?_
      refine o_nil ?_
      refine s_cond rfl (fun h38 => ?_) (fun h38 => ?_)
      · try simp only [decide_eq_true_eq, decide_eq_false_iff_not, Bool.not_eq_true', Bool.not_eq_false', Bool.and_eq_true, Bool.or_eq_true, Bool.and_eq_false_iff, Bool.or_eq_false_iff, Bool.not_true, Bool.not_false] at h38
        refine s_seq ?_
        refine s_weaken (L' := [(3, _), (4, _), (5, _), (6, _)]) aSx (fun _ h => h) ?_
        refine s_region ?_
        refine o_p (p_pure rfl) rfl ?_
        refine o_nil ?_
        exact s_retv (rs := [.tmp 6]) rfl (.tmp rfl (.nil)) (fun w' h' => ⟨by rfl, h'.below⟩)
      · try simp only [decide_eq_true_eq, decide_eq_false_iff_not, Bool.not_eq_true', Bool.not_eq_false', Bool.and_eq_true, Bool.or_eq_true, Bool.and_eq_false_iff, Bool.or_eq_false_iff, Bool.not_true, Bool.not_false] at h38
        have hq := h38
        have ho1 : openE x.ac x.sh = 0 := by simp at hq; grind
        have ho2 : openE y.ac y.sh = 0 := by simp at hq; grind
        have hc1 : cflT x.pl y.pl = (cfl x.pl y.pl, 0) := cflT_0 ⟨ho1, ho2⟩
        have hc2 : cflT y.pl x.pl = (cfl x.pl y.pl, 0) := by rw [cfl_comm]; exact cflT_0 ⟨ho2, ho1⟩
        obtain ⟨L1, hA1, hA2, hA3⟩ := sym (x := x.pl) (y := y.pl) hok hrf hnb hcn hnx ho1 ho2
        obtain ⟨L2, hB1, hB2, hB3⟩ := sym (x := y.pl) (y := x.pl) hok hrf hnb hcn hnx ho2 ho1
        rw [cfl_comm] at hB2
        refine s_skip ?_
        refine s_seq ?_
        refine s_weaken (L' := [(3, _), (4, _), (5, _), (6, _)]) aSx (fun _ h => h) ?_
        refine s_region ?_
        refine o_p (p_indexAddr_arr rfl rfl rfl ar_49 (Int.toNat _) (Int.toNat_of_nonneg (by omega)).symm (by omega)) rfl ?_
        refine o_q (q_loadn rfl rfl sz_48 aPk rfl) rfl ?_
        refine o_p (p_indexAddr_arr rfl rfl rfl ar_49 (Int.toNat _) (Int.toNat_of_nonneg (by omega)).symm (by omega)) rfl ?_
        refine o_q (q_loadn rfl rfl sz_48 aPk rfl) rfl ?_
        refine o_q (q_call rfl fn_21 rfl (fun w1 h1 => c21 w1 x y)) rfl ?_
        rw [hc1]
        refine o_p (p_pure rfl) rfl ?_
        refine o_p (p_pure rfl) rfl ?_
        refine o_p (p_pure rfl) rfl ?_
        refine o_p (p_pure rfl) rfl ?_
        refine o_p (p_pure rfl) rfl ?_
        refine o_nil ?_
        refine s_seq ?_
        refine s_region ?_
        refine o_p (p_indexAddr_arr rfl rfl rfl ar_49 (Int.toNat _) (Int.toNat_of_nonneg (by omega)).symm (by omega)) rfl ?_
        refine o_q (q_loadn rfl rfl sz_48 aPk rfl) rfl ?_
        refine o_p (p_indexAddr_arr rfl rfl rfl ar_49 (Int.toNat _) (Int.toNat_of_nonneg (by omega)).symm (by omega)) rfl ?_
        refine o_q (q_loadn rfl rfl sz_48 aPk rfl) rfl ?_
        refine o_q (q_call rfl fn_21 rfl (fun w1 h1 => c21 w1 y x)) rfl ?_
        rw [hc2]
        refine o_p (p_pure rfl) rfl ?_
        refine o_p (p_pure rfl) rfl ?_
        refine o_p (p_pure rfl) rfl ?_
        refine o_p (p_pure rfl) rfl ?_
        refine o_p (p_pure rfl) rfl ?_
        refine o_nil ?_
        refine s_seq ?_
        refine s_seq ?_
        refine s_region ?_
        refine o_p (p_pure rfl) rfl ?_
        refine o_p (p_pure rfl) rfl ?_
        refine o_p (p_pure rfl) rfl ?_
        refine o_or 3 94 97 _ _ rfl
          (by
            intro hg39
            have hs40 := hg39; try simp only [decide_eq_true_eq, decide_eq_false_iff_not, Bool.not_eq_true', Bool.not_eq_false', Bool.and_eq_true, Bool.or_eq_true, Bool.and_eq_false_iff, Bool.or_eq_false_iff, Bool.not_true, Bool.not_false] at hs40
            refine o_on 94 _ rfl rfl hg39 ?_
            refine o_p (p_pure rfl) rfl ?_
            refine o_on 94 _ rfl rfl hg39 ?_
            refine o_p (p_pure rfl) rfl ?_
            refine o_p (p_pickf rfl rfl hg39 rfl) rfl ?_
            refine o_nil ?_
            exact s_joinN 3 97 _ rfl rfl rfl (fun w h => by first | exact h | exact h.ent aEt))
          (by
            intro hg41
            have hs42 := hg41; try simp only [decide_eq_true_eq, decide_eq_false_iff_not, Bool.not_eq_true', Bool.not_eq_false', Bool.and_eq_true, Bool.or_eq_true, Bool.and_eq_false_iff, Bool.or_eq_false_iff, Bool.not_true, Bool.not_false] at hs42
            refine o_off 94 _ rfl rfl hg41 rfl ?_
            refine o_off 94 _ rfl rfl hg41 rfl ?_
            refine o_p (p_pickt rfl rfl hg41 rfl) rfl ?_
            refine o_nil ?_
            exact s_joinN 3 97 _ rfl rfl rfl (fun w h => by first | exact h | exact h.ent aEt)) ?_
        refine o_p (p_pure rfl) rfl ?_
        refine o_or 4 98 102 _ _ rfl
          (by
            intro hg43
            have hs44 := hg43; try simp only [decide_eq_true_eq, decide_eq_false_iff_not, Bool.not_eq_true', Bool.not_eq_false', Bool.and_eq_true, Bool.or_eq_true, Bool.and_eq_false_iff, Bool.or_eq_false_iff, Bool.not_true, Bool.not_false] at hs44
            refine o_on 98 _ rfl rfl hg43 ?_
            refine o_p (p_pure rfl) rfl ?_
            refine o_on 98 _ rfl rfl hg43 ?_
            refine o_p (p_pure rfl) rfl ?_
            refine o_on 98 _ rfl rfl hg43 ?_
            refine o_p (p_neq_bool rfl rfl rfl Try.underlying4) rfl ?_
            refine o_p (p_pickf rfl rfl hg43 rfl) rfl ?_
            refine o_nil ?_
            exact s_joinN 4 102 _ rfl rfl rfl (fun w h => by first | exact h | exact h.ent aEt))
          (by
            intro hg45
            have hs46 := hg45; try simp only [decide_eq_true_eq, decide_eq_false_iff_not, Bool.not_eq_true', Bool.not_eq_false', Bool.and_eq_true, Bool.or_eq_true, Bool.and_eq_false_iff, Bool.or_eq_false_iff, Bool.not_true, Bool.not_false] at hs46
            refine o_off 98 _ rfl rfl hg45 rfl ?_
            refine o_off 98 _ rfl rfl hg45 rfl ?_
            refine o_off 98 _ rfl rfl hg45 rfl ?_
            refine o_p (p_pickt rfl rfl hg45 rfl) rfl ?_
            refine o_nil ?_
            exact s_joinN 4 102 _ rfl rfl rfl (fun w h => by first | exact h | exact h.ent aEt)) ?_
        refine o_nil ?_
        refine s_cond rfl (fun h47 => ?_) (fun h47 => ?_)
        · try simp only [decide_eq_true_eq, decide_eq_false_iff_not, Bool.not_eq_true', Bool.not_eq_false', Bool.and_eq_true, Bool.or_eq_true, Bool.and_eq_false_iff, Bool.or_eq_false_iff, Bool.not_true, Bool.not_false] at h47
          exfalso; have hq := h47; simp at hq
        · try simp only [decide_eq_true_eq, decide_eq_false_iff_not, Bool.not_eq_true', Bool.not_eq_false', Bool.and_eq_true, Bool.or_eq_true, Bool.and_eq_false_iff, Bool.or_eq_false_iff, Bool.not_true, Bool.not_false] at h47
          refine s_skip ?_
          refine s_seq ?_
          refine s_seq ?_
          refine s_weaken (L' := [(3, _), (4, _), (5, _), (6, _), (7, _)]) aSx (fun _ h => h) ?_
          refine s_region ?_
          refine o_p (p_pure rfl) rfl ?_
          refine o_nil ?_
          refine s_block ?_
          refine s_loopI (α := Nat) [6, 11, 12, 13, 14, 15, 16, 17, 18, 19, 20, 103, 104, 105, 106, 107, 108, 109, 110, 111, 112, 113, 114, 115, 116, 117, 118, 119, 120, 121, 122, 123, 124, 125, 126, 127, 128, 129, 130, 131, 132, 133, 134, 135, 136, 137, 138, 139, 140, 141, 142, 143, 144, 145, 146, 147, 148, 149, 150, 151, 152, 153, 154, 155, 156, 157, 158, 159, 160, 161, 162, 163, 164, 165, 166, 167, 168, 169, 170, 171, 172, 173, 174, 175, 176, 177, 178, 179, 180, 181, 182, 183, 184] (fun k => [(11, .int .i64 (k : Int))]) (fun _ => HS w [] [.blk b1 26 2 [.int .i64 next, .slice a L.length cap], .blk b2 42 2 [.int .i64 rc, .int .i64 sq], .blk b3 49 10 [.int .i64 x.hd, .int .i64 x.ac, .int .i64 x.sh, .bool x.dl, .slice x.la x.lk.length x.lc, .int .i64 y.hd, .int .i64 y.ac, .int .i64 y.sh, .bool y.dl, .slice y.la y.lk.length y.lc]]) (fun k => k ≤ 2) (fun k => 2 - k) 0 (by simp) aSx (fun w h => h.ent aEt) (fun k hk => ?_)
          rcases k with _ | _ | _ | k
          · skip
            refine s_seq ?_
            refine s_seq ?_
            refine s_region ?_
            refine o_p (p_pure rfl) rfl ?_
            refine o_p (p_pure rfl) rfl ?_
            refine o_nil ?_
            refine s_cond rfl (fun h48 => ?_) (fun h48 => ?_)
            · try simp only [decide_eq_true_eq, decide_eq_false_iff_not, Bool.not_eq_true', Bool.not_eq_false', Bool.and_eq_true, Bool.or_eq_true, Bool.and_eq_false_iff, Bool.or_eq_false_iff, Bool.not_true, Bool.not_false] at h48
              refine s_skip ?_
              refine s_seq ?_
              refine s_block ?_
              refine s_seq ?_
              refine s_cutI (α := Nat × (Option Addr × Nat) × List LFil) [12, 13, 14, 107, 108, 109, 110, 111, 112, 113, 114, 115, 116, 117] (fun q => [(12, .pointer (some ⟨q.1, 0, none⟩)), (13, .int .i64 next), (14, .int .i64 0)]) (fun q => HS w [] [.blk q.1 26 2 [.int .i64 (next + 1), .slice q.2.1.1 q.2.2.length q.2.1.2], .files q.2.1.1 q.2.1.2 q.2.2, .blk b1 26 2 [.int .i64 next, .slice a L.length cap], .blk b2 42 2 [.int .i64 rc, .int .i64 sq], .blk b3 49 10 [.int .i64 x.hd, .int .i64 x.ac, .int .i64 x.sh, .bool x.dl, .slice x.la x.lk.length x.lc, .int .i64 y.hd, .int .i64 y.ac, .int .i64 y.sh, .bool y.dl, .slice y.la y.lk.length y.lc]]) (fun q => pls q.2.2 = L1) ?_ ?_
              · skip
                refine s_draw [12] mixed ?_
                refine d_q 0 [[]] rfl (q_loadn rfl rfl sz_26 aPk rfl) (by kernel_rfl) (by kernel_rfl) (by kernel_rfl) rfl ?_
                refine d_q 2 [[]] rfl (q_loadn rfl rfl sz_42 aPk rfl) (by kernel_rfl) (by kernel_rfl) (by kernel_rfl) rfl ?_
                refine d_p 3 rfl (p_pure rfl) (by kernel_rfl) rfl rfl ?_
                refine d_p 4 rfl (p_indexAddr_arr rfl rfl rfl ar_49 _ rfl (by omega)) (by kernel_rfl) rfl rfl ?_
                refine d_q 5 [[]] rfl (q_loadn rfl rfl sz_48 aPk rfl) (by kernel_rfl) (by kernel_rfl) (by kernel_rfl) rfl ?_
                refine d_two 1 11 rfl rfl  (h_call rfl fn_19 rfl (fun w1 h1 => c19 w1 next a cap L (hs.later h1) hb.1 hb.2.1 hb.2.2)) (h_alloc rfl zr_26) (by kernel_rfl) (fun w h => h.ent aEt) rfl rfl  (fun ⟨⟨ca, cc⟩, N⟩ hgc => ?_) (fun b49 _ => ?_)
                · skip
                  refine d_base (fun w h => h.ent aEt) ?_
                  dsimp only at hgc ⊢
                  have nb := same_b hgc hb
                  refine d_two 6 11 rfl rfl  (h_call rfl fn_35 rfl (fun w1 h1 => c35 w1 next ca cc N rc sq x (HS.ft (a := ca) (cap := cc) (l := N) h1 aPk) nb.1 nb.2.1)) (h_alloc rfl zr_26) (by kernel_rfl) (fun w h => h.ent aEt) rfl rfl  (fun ⟨⟨ga, gc⟩, G⟩ hgL => ?_) (fun b50 _ => ?_)
                  · skip
                    refine d_base (fun w h => h.ent aEt) ?_
                    dsimp only at hgL ⊢
                    rw [hgc, hA1] at hgL ⊢
                    refine d_p 7 rfl (p_pure rfl) (by kernel_rfl) rfl rfl ?_
                    refine d_p 8 rfl (p_pure rfl) (by kernel_rfl) rfl rfl ?_
                    refine d_p 9 rfl (p_pure rfl) (by kernel_rfl) rfl rfl ?_
                    refine d_p 10 rfl (p_pure rfl) (by kernel_rfl) rfl rfl ?_
                    refine d_h 11 rfl (h_alloc rfl zr_26) (by kernel_rfl) (fun w h => h.ent aEt) rfl (fun b51 _ => ?_)
                    refine d_base (fun w h => h.ent aEt) ?_
                    refine d_h0 12 rfl (h_store rfl rfl rfl sz_26 rfl aPt (by simp only [setMany_length, List.length_set, List.length_cons, List.length_nil, List.length_map]; omega) rfl) (by kernel_rfl) (fun w h => h.ent aEt) (fun _ _ => ?_)
                    refine d_turn [] (by kernel_rfl) ?_
                    refine d_p 13 rfl (p_pure rfl) (by kernel_rfl) rfl rfl ?_
                    refine d_p 14 rfl (p_pure rfl) (by kernel_rfl) rfl rfl ?_
                    refine d_nil (by kernel_rfl) (fun w h => h.ent aEt) ?_
                    exact s_joinI (_, (ga, gc), G) hgL aSx (fun w h => h.ent aEt)
                  · skip
                    refine d_base (fun w h => h.ent aEt) ?_
                    refine d_h 6 rfl (h_call rfl fn_35 rfl (fun w1 h1 => c35 w1 next ca cc N rc sq x (HS.ft (a := ca) (cap := cc) (l := N) h1 aPk) nb.1 nb.2.1)) (by kernel_rfl) (fun w h => h.ent aEt) rfl (fun ⟨⟨ga, gc⟩, G⟩ hgL => ?_)
                    refine d_base (fun w h => h.ent aEt) ?_
                    dsimp only at hgL ⊢
                    rw [hgc, hA1] at hgL ⊢
                    refine d_p 7 rfl (p_pure rfl) (by kernel_rfl) rfl rfl ?_
                    refine d_p 8 rfl (p_pure rfl) (by kernel_rfl) rfl rfl ?_
                    refine d_p 9 rfl (p_pure rfl) (by kernel_rfl) rfl rfl ?_
                    refine d_p 10 rfl (p_pure rfl) (by kernel_rfl) rfl rfl ?_
                    refine d_h0 12 rfl (h_store rfl rfl rfl sz_26 rfl aPt (by simp only [setMany_length, List.length_set, List.length_cons, List.length_nil, List.length_map]; omega) rfl) (by kernel_rfl) (fun w h => h.ent aEt) (fun _ _ => ?_)
                    refine d_turn [] (by kernel_rfl) ?_
                    refine d_p 13 rfl (p_pure rfl) (by kernel_rfl) rfl rfl ?_
                    refine d_p 14 rfl (p_pure rfl) (by kernel_rfl) rfl rfl ?_
                    refine d_nil (by kernel_rfl) (fun w h => h.ent aEt) ?_
                    exact s_joinI (_, (ga, gc), G) hgL aSx (fun w h => h.ent aEt)
                · skip
                  refine d_base (fun w h => h.ent aEt) ?_
                  refine d_h 1 rfl (h_call rfl fn_19 rfl (fun w1 h1 => c19 w1 next a cap L (hs.later h1) hb.1 hb.2.1 hb.2.2)) (by kernel_rfl) (fun w h => h.ent aEt) rfl (fun ⟨⟨ca, cc⟩, N⟩ hgc => ?_)
                  refine d_base (fun w h => h.ent aEt) ?_
                  dsimp only at hgc ⊢
                  have nb := same_b hgc hb
                  refine d_h 6 rfl (h_call rfl fn_35 rfl (fun w1 h1 => c35 w1 next ca cc N rc sq x (HS.ft (a := ca) (cap := cc) (l := N) h1 aPk) nb.1 nb.2.1)) (by kernel_rfl) (fun w h => h.ent aEt) rfl (fun ⟨⟨ga, gc⟩, G⟩ hgL => ?_)
                  refine d_base (fun w h => h.ent aEt) ?_
                  dsimp only at hgL ⊢
                  rw [hgc, hA1] at hgL ⊢
                  refine d_p 7 rfl (p_pure rfl) (by kernel_rfl) rfl rfl ?_
                  refine d_p 8 rfl (p_pure rfl) (by kernel_rfl) rfl rfl ?_
                  refine d_p 9 rfl (p_pure rfl) (by kernel_rfl) rfl rfl ?_
                  refine d_p 10 rfl (p_pure rfl) (by kernel_rfl) rfl rfl ?_
                  refine d_h0 12 rfl (h_store rfl rfl rfl sz_26 rfl aPt (by simp only [setMany_length, List.length_set, List.length_cons, List.length_nil, List.length_map]; omega) rfl) (by kernel_rfl) (fun w h => h.ent aEt) (fun _ _ => ?_)
                  refine d_turn [] (by kernel_rfl) ?_
                  refine d_p 13 rfl (p_pure rfl) (by kernel_rfl) rfl rfl ?_
                  refine d_p 14 rfl (p_pure rfl) (by kernel_rfl) rfl rfl ?_
                  refine d_nil (by kernel_rfl) (fun w h => h.ent aEt) ?_
                  exact s_joinI (_, (ga, gc), G) hgL aSx (fun w h => h.ent aEt)
              · intro ⟨p5, ⟨ga, gc⟩, G⟩ hG
                dsimp only at hG ⊢
                have gb := openR_b (next := next) (L := pls L) (rc := rc) (sq := sq) (x := x.pl) (G := G) (by rw [hA1]; exact hG)
                refine s_seq ?_
                refine s_cutI (α := Unit) [15, 16, 17, 118, 119, 120, 121, 122, 123, 124, 125, 126, 127, 128, 129] (fun _ => [(17, .int .i64 (if cfl x.pl y.pl = true then 28 else 0))]) (fun _ => HS w [] [.blk p5 26 2 [.int .i64 (next + 1), .slice ga G.length gc], .files ga gc G, .blk b1 26 2 [.int .i64 next, .slice a L.length cap], .blk b2 42 2 [.int .i64 rc, .int .i64 sq], .blk b3 49 10 [.int .i64 x.hd, .int .i64 x.ac, .int .i64 x.sh, .bool x.dl, .slice x.la x.lk.length x.lc, .int .i64 y.hd, .int .i64 y.ac, .int .i64 y.sh, .bool y.dl, .slice y.la y.lk.length y.lc]]) (fun _ => True) ?_ ?_
                · skip
                  refine s_draw [13] mixed ?_
                  refine d_q 0 [[]] rfl (q_loadn rfl rfl sz_26 aPk rfl) (by kernel_rfl) (by kernel_rfl) (by kernel_rfl) rfl ?_
                  refine d_q 2 [[]] rfl (q_loadn rfl rfl sz_42 aPk rfl) (by kernel_rfl) (by kernel_rfl) (by kernel_rfl) rfl ?_
                  refine d_p 3 rfl (p_pure rfl) (by kernel_rfl) rfl rfl ?_
                  refine d_p 4 rfl (p_pure rfl) (by kernel_rfl) rfl rfl ?_
                  try (refine d_slot (i64w (by omega) (by omega)) ?_)
                  refine d_p 5 rfl (p_indexAddr_arr rfl rfl rfl ar_49 (Int.toNat _) (Int.toNat_of_nonneg (by omega)).symm (by omega)) (by kernel_rfl) rfl rfl ?_
                  refine d_q 6 [[]] rfl (q_loadn rfl rfl sz_48 aPk rfl) (by kernel_rfl) (by kernel_rfl) (by kernel_rfl) rfl ?_
                  refine d_two 1 12 rfl rfl  (h_call rfl fn_19 rfl (fun w1 h1 => c19 w1 (next + 1) ga gc G (HS.ft (a := ga) (cap := gc) (l := G) h1 aPk) gb.1 gb.2.1 gb.2.2)) (h_alloc rfl zr_26) (by kernel_rfl) (fun w h => h.ent aEt) rfl rfl  (fun ⟨⟨da, dc⟩, N2⟩ hgd => ?_) (fun b52 _ => ?_)
                  · skip
                    refine d_base (fun w h => h.ent aEt) ?_
                    dsimp only at hgd ⊢
                    have nd := same_b hgd gb
                    refine d_two 7 12 rfl rfl  (h_call rfl fn_35 rfl (fun w1 h1 => c35 w1 (next + 1) da dc N2 rc sq y (HS.ft (a := da) (cap := dc) (l := N2) h1 aPk) nd.1 nd.2.1)) (h_alloc rfl zr_26) (by kernel_rfl) (fun w h => h.ent aEt) rfl rfl  (fun ⟨⟨ea, ec⟩, G2⟩ hgE => ?_) (fun b53 _ => ?_)
                    · skip
                      refine d_base (fun w h => h.ent aEt) ?_
                      dsimp only at hgE ⊢
                      rw [hgd, hG] at hgE ⊢
                      rw [hA2]
                      refine d_p 8 rfl (p_pure rfl) (by kernel_rfl) rfl rfl ?_
                      refine d_p 9 rfl (p_pure rfl) (by kernel_rfl) rfl rfl ?_
                      refine d_p 10 rfl (p_pure rfl) (by kernel_rfl) rfl rfl ?_
                      refine d_p 11 rfl (p_pure rfl) (by kernel_rfl) rfl rfl ?_
                      refine d_h 12 rfl (h_alloc rfl zr_26) (by kernel_rfl) (fun w h => h.ent aEt) rfl (fun b54 _ => ?_)
                      refine d_base (fun w h => h.ent aEt) ?_
                      refine d_h0 13 rfl (h_store rfl rfl rfl sz_26 rfl aPt (by simp only [setMany_length, List.length_set, List.length_cons, List.length_nil, List.length_map]; omega) rfl) (by kernel_rfl) (fun w h => h.ent aEt) (fun _ _ => ?_)
                      refine d_turn [] (by kernel_rfl) ?_
                      refine d_p 14 rfl (p_pure rfl) (by kernel_rfl) rfl rfl ?_
                      refine d_p 15 rfl (p_pure rfl) (by kernel_rfl) rfl rfl ?_
                      refine d_nil (by kernel_rfl) (fun w h => h.ent aEt) ?_
                      exact s_joinI () trivial aSx (fun w h => h.ent aEt)
                    · skip
                      refine d_base (fun w h => h.ent aEt) ?_
                      refine d_h 7 rfl (h_call rfl fn_35 rfl (fun w1 h1 => c35 w1 (next + 1) da dc N2 rc sq y (HS.ft (a := da) (cap := dc) (l := N2) h1 aPk) nd.1 nd.2.1)) (by kernel_rfl) (fun w h => h.ent aEt) rfl (fun ⟨⟨ea, ec⟩, G2⟩ hgE => ?_)
                      refine d_base (fun w h => h.ent aEt) ?_
                      dsimp only at hgE ⊢
                      rw [hgd, hG] at hgE ⊢
                      rw [hA2]
                      refine d_p 8 rfl (p_pure rfl) (by kernel_rfl) rfl rfl ?_
                      refine d_p 9 rfl (p_pure rfl) (by kernel_rfl) rfl rfl ?_
                      refine d_p 10 rfl (p_pure rfl) (by kernel_rfl) rfl rfl ?_
                      refine d_p 11 rfl (p_pure rfl) (by kernel_rfl) rfl rfl ?_
                      refine d_h0 13 rfl (h_store rfl rfl rfl sz_26 rfl aPt (by simp only [setMany_length, List.length_set, List.length_cons, List.length_nil, List.length_map]; omega) rfl) (by kernel_rfl) (fun w h => h.ent aEt) (fun _ _ => ?_)
                      refine d_turn [] (by kernel_rfl) ?_
                      refine d_p 14 rfl (p_pure rfl) (by kernel_rfl) rfl rfl ?_
                      refine d_p 15 rfl (p_pure rfl) (by kernel_rfl) rfl rfl ?_
                      refine d_nil (by kernel_rfl) (fun w h => h.ent aEt) ?_
                      exact s_joinI () trivial aSx (fun w h => h.ent aEt)
                  · skip
                    refine d_base (fun w h => h.ent aEt) ?_
                    refine d_h 1 rfl (h_call rfl fn_19 rfl (fun w1 h1 => c19 w1 (next + 1) ga gc G (HS.ft (a := ga) (cap := gc) (l := G) h1 aPk) gb.1 gb.2.1 gb.2.2)) (by kernel_rfl) (fun w h => h.ent aEt) rfl (fun ⟨⟨da, dc⟩, N2⟩ hgd => ?_)
                    refine d_base (fun w h => h.ent aEt) ?_
                    dsimp only at hgd ⊢
                    have nd := same_b hgd gb
                    refine d_h 7 rfl (h_call rfl fn_35 rfl (fun w1 h1 => c35 w1 (next + 1) da dc N2 rc sq y (HS.ft (a := da) (cap := dc) (l := N2) h1 aPk) nd.1 nd.2.1)) (by kernel_rfl) (fun w h => h.ent aEt) rfl (fun ⟨⟨ea, ec⟩, G2⟩ hgE => ?_)
                    refine d_base (fun w h => h.ent aEt) ?_
                    dsimp only at hgE ⊢
                    rw [hgd, hG] at hgE ⊢
                    rw [hA2]
                    refine d_p 8 rfl (p_pure rfl) (by kernel_rfl) rfl rfl ?_
                    refine d_p 9 rfl (p_pure rfl) (by kernel_rfl) rfl rfl ?_
                    refine d_p 10 rfl (p_pure rfl) (by kernel_rfl) rfl rfl ?_
                    refine d_p 11 rfl (p_pure rfl) (by kernel_rfl) rfl rfl ?_
                    refine d_h0 13 rfl (h_store rfl rfl rfl sz_26 rfl aPt (by simp only [setMany_length, List.length_set, List.length_cons, List.length_nil, List.length_map]; omega) rfl) (by kernel_rfl) (fun w h => h.ent aEt) (fun _ _ => ?_)
                    refine d_turn [] (by kernel_rfl) ?_
                    refine d_p 14 rfl (p_pure rfl) (by kernel_rfl) rfl rfl ?_
                    refine d_p 15 rfl (p_pure rfl) (by kernel_rfl) rfl rfl ?_
                    refine d_nil (by kernel_rfl) (fun w h => h.ent aEt) ?_
                    exact s_joinI () trivial aSx (fun w h => h.ent aEt)
                · intro _ _
                  refine s_seq ?_
                  refine s_seq ?_
                  refine s_region ?_
                  refine o_p (p_pure rfl) rfl ?_
                  refine o_p (p_pure rfl) rfl ?_
                  refine o_p (p_pure rfl) rfl ?_
                  refine o_or 5 132 137 _ _ rfl
                    (by
                      intro hg55
                      have hs56 := hg55; try simp only [decide_eq_true_eq, decide_eq_false_iff_not, Bool.not_eq_true', Bool.not_eq_false', Bool.and_eq_true, Bool.or_eq_true, Bool.and_eq_false_iff, Bool.or_eq_false_iff, Bool.not_true, Bool.not_false] at hs56
                      refine o_on 132 _ rfl rfl hg55 ?_
                      refine o_p (p_pure rfl) rfl ?_
                      refine o_on 132 _ rfl rfl hg55 ?_
                      refine o_p (p_fieldAddr rfl rfl fd_26_0 sz_3 rfl) rfl ?_
                      refine o_on 132 _ rfl rfl hg55 ?_
                      refine o_q (q_load rfl rfl sz_3 aPk rfl) rfl ?_
                      refine o_on 132 _ rfl rfl hg55 ?_
                      refine o_p (p_pure rfl) rfl ?_
                      refine o_p (p_pickf rfl rfl hg55 rfl) rfl ?_
                      refine o_nil ?_
                      exact s_joinN 5 137 _ rfl rfl rfl (fun w h => by first | exact h | exact h.ent aEt))
                    (by
                      intro hg57
                      have hs58 := hg57; try simp only [decide_eq_true_eq, decide_eq_false_iff_not, Bool.not_eq_true', Bool.not_eq_false', Bool.and_eq_true, Bool.or_eq_true, Bool.and_eq_false_iff, Bool.or_eq_false_iff, Bool.not_true, Bool.not_false] at hs58
                      refine o_off 132 _ rfl rfl hg57 rfl ?_
                      refine o_off 132 _ rfl rfl hg57 rfl ?_
                      refine o_off 132 _ rfl rfl hg57 rfl ?_
                      refine o_off 132 _ rfl rfl hg57 rfl ?_
                      refine o_p (p_pickt rfl rfl hg57 rfl) rfl ?_
                      refine o_nil ?_
                      exact s_joinN 5 137 _ rfl rfl rfl (fun w h => by first | exact h | exact h.ent aEt)) ?_
                  refine o_p (p_pure rfl) rfl ?_
                  refine o_or 6 138 144 _ _ rfl
                    (by
                      intro hg59
                      have hs60 := hg59; try simp only [decide_eq_true_eq, decide_eq_false_iff_not, Bool.not_eq_true', Bool.not_eq_false', Bool.and_eq_true, Bool.or_eq_true, Bool.and_eq_false_iff, Bool.or_eq_false_iff, Bool.not_true, Bool.not_false] at hs60
                      refine o_on 138 _ rfl rfl hg59 ?_
                      refine o_p (p_pure rfl) rfl ?_
                      refine o_on 138 _ rfl rfl hg59 ?_
                      refine o_p (p_pure rfl) rfl ?_
                      refine o_and 3 140 143 _ _ rfl
                        (by
                          intro hg61
                          have hs62 := hg61; try simp only [decide_eq_true_eq, decide_eq_false_iff_not, Bool.not_eq_true', Bool.not_eq_false', Bool.and_eq_true, Bool.or_eq_true, Bool.and_eq_false_iff, Bool.or_eq_false_iff, Bool.not_true, Bool.not_false] at hs62
                          refine o_on 140 _ rfl rfl hg61 ?_
                          refine o_p (p_pure rfl) rfl ?_
                          refine o_on 140 _ rfl rfl hg61 ?_
                          refine o_p (p_pure rfl) rfl ?_
                          refine o_on 138 _ rfl rfl hg59 ?_
                          refine o_p (p_pickt rfl rfl hg61 rfl) rfl ?_
                          refine o_nil ?_
                          exact s_joinN 3 143 _ rfl rfl rfl (fun w h => by first | exact h | exact h.ent aEt))
                        (by
                          intro hg63
                          have hs64 := hg63; try simp only [decide_eq_true_eq, decide_eq_false_iff_not, Bool.not_eq_true', Bool.not_eq_false', Bool.and_eq_true, Bool.or_eq_true, Bool.and_eq_false_iff, Bool.or_eq_false_iff, Bool.not_true, Bool.not_false] at hs64
                          refine o_off 140 _ rfl rfl hg63 rfl ?_
                          refine o_off 140 _ rfl rfl hg63 rfl ?_
                          refine o_on 138 _ rfl rfl hg59 ?_
                          refine o_p (p_pickf rfl rfl hg63 rfl) rfl ?_
                          refine o_nil ?_
                          exact s_joinN 3 143 _ rfl rfl rfl (fun w h => by first | exact h | exact h.ent aEt)) ?_
                      refine o_p (p_pickf rfl rfl hg59 rfl) rfl ?_
                      refine o_nil ?_
                      exact s_joinN 4 144 _ rfl rfl rfl (fun w h => by first | exact h | exact h.ent aEt))
                    (by
                      intro hg65
                      have hs66 := hg65; try simp only [decide_eq_true_eq, decide_eq_false_iff_not, Bool.not_eq_true', Bool.not_eq_false', Bool.and_eq_true, Bool.or_eq_true, Bool.and_eq_false_iff, Bool.or_eq_false_iff, Bool.not_true, Bool.not_false] at hs66
                      refine o_off 138 _ rfl rfl hg65 rfl ?_
                      refine o_off 138 _ rfl rfl hg65 rfl ?_
                      refine o_off' 140 rfl rfl rfl ?_
                      refine o_off' 140 rfl rfl rfl ?_
                      refine o_off 138 _ rfl rfl hg65 rfl ?_
                      refine o_p (p_pickt rfl rfl hg65 rfl) rfl ?_
                      refine o_nil ?_
                      exact s_joinN 6 144 _ rfl rfl rfl (fun w h => by first | exact h | exact h.ent aEt)) ?_
                  refine o_p (p_pure rfl) rfl ?_
                  refine o_or 7 145 152 _ _ rfl
                    (by
                      intro hg67
                      have hs68 := hg67; try simp only [decide_eq_true_eq, decide_eq_false_iff_not, Bool.not_eq_true', Bool.not_eq_false', Bool.and_eq_true, Bool.or_eq_true, Bool.and_eq_false_iff, Bool.or_eq_false_iff, Bool.not_true, Bool.not_false] at hs68
                      refine o_on 145 _ rfl rfl hg67 ?_
                      refine o_p (p_pure rfl) rfl ?_
                      refine o_on 145 _ rfl rfl hg67 ?_
                      refine o_p (p_pure rfl) rfl ?_
                      refine o_on 145 _ rfl rfl hg67 ?_
                      refine o_p (p_pure rfl) rfl ?_
                      refine o_and 3 148 151 _ _ rfl
                        (by
                          intro hg69
                          have hs70 := hg69; try simp only [decide_eq_true_eq, decide_eq_false_iff_not, Bool.not_eq_true', Bool.not_eq_false', Bool.and_eq_true, Bool.or_eq_true, Bool.and_eq_false_iff, Bool.or_eq_false_iff, Bool.not_true, Bool.not_false] at hs70
                          refine o_on 148 _ rfl rfl hg69 ?_
                          refine o_p (p_pure rfl) rfl ?_
                          refine o_on 148 _ rfl rfl hg69 ?_
                          refine o_p (p_pure rfl) rfl ?_
                          refine o_on 145 _ rfl rfl hg67 ?_
                          refine o_p (p_pickt rfl rfl hg69 rfl) rfl ?_
                          refine o_nil ?_
                          exact s_joinN 3 151 _ rfl rfl rfl (fun w h => by first | exact h | exact h.ent aEt))
                        (by
                          intro hg71
                          have hs72 := hg71; try simp only [decide_eq_true_eq, decide_eq_false_iff_not, Bool.not_eq_true', Bool.not_eq_false', Bool.and_eq_true, Bool.or_eq_true, Bool.and_eq_false_iff, Bool.or_eq_false_iff, Bool.not_true, Bool.not_false] at hs72
                          refine o_off 148 _ rfl rfl hg71 rfl ?_
                          refine o_off 148 _ rfl rfl hg71 rfl ?_
                          refine o_on 145 _ rfl rfl hg67 ?_
                          refine o_p (p_pickf rfl rfl hg71 rfl) rfl ?_
                          refine o_nil ?_
                          exact s_joinN 3 151 _ rfl rfl rfl (fun w h => by first | exact h | exact h.ent aEt)) ?_
                      refine o_p (p_pickf rfl rfl hg67 rfl) rfl ?_
                      refine o_nil ?_
                      exact s_joinN 5 152 _ rfl rfl rfl (fun w h => by first | exact h | exact h.ent aEt))
                    (by
                      intro hg73
                      have hs74 := hg73; try simp only [decide_eq_true_eq, decide_eq_false_iff_not, Bool.not_eq_true', Bool.not_eq_false', Bool.and_eq_true, Bool.or_eq_true, Bool.and_eq_false_iff, Bool.or_eq_false_iff, Bool.not_true, Bool.not_false] at hs74
                      refine o_off 145 _ rfl rfl hg73 rfl ?_
                      refine o_off 145 _ rfl rfl hg73 rfl ?_
                      refine o_off 145 _ rfl rfl hg73 rfl ?_
                      refine o_off' 148 rfl rfl rfl ?_
                      refine o_off' 148 rfl rfl rfl ?_
                      refine o_off 145 _ rfl rfl hg73 rfl ?_
                      refine o_p (p_pickt rfl rfl hg73 rfl) rfl ?_
                      refine o_nil ?_
                      exact s_joinN 7 152 _ rfl rfl rfl (fun w h => by first | exact h | exact h.ent aEt)) ?_
                  refine o_nil ?_
                  refine s_cond rfl (fun h75 => ?_) (fun h75 => ?_)
                  · try simp only [decide_eq_true_eq, decide_eq_false_iff_not, Bool.not_eq_true', Bool.not_eq_false', Bool.and_eq_true, Bool.or_eq_true, Bool.and_eq_false_iff, Bool.or_eq_false_iff, Bool.not_true, Bool.not_false] at h75
                    exfalso; have hq := h75; revert hq; cases cfl x.pl y.pl <;> simp
                  · try simp only [decide_eq_true_eq, decide_eq_false_iff_not, Bool.not_eq_true', Bool.not_eq_false', Bool.and_eq_true, Bool.or_eq_true, Bool.and_eq_false_iff, Bool.or_eq_false_iff, Bool.not_true, Bool.not_false] at h75
                    refine s_skip ?_
                    refine s_seq ?_
                    refine s_region ?_
                    refine o_q (q_loadn rfl rfl sz_26 aPk rfl) rfl ?_
                    refine o_p (p_pure rfl) rfl ?_
                    refine o_h (h_call rfl fn_36 rfl (fun w1 h1 => c36 w1 (next + 1) ga gc G next (HS.ft (a := ga) (cap := gc) (l := G) h1 aPk) gb.1 gb.2.1)) rfl (fun ⟨⟨ka, kc⟩, K⟩ hgK => ?_)
                    dsimp only at hgK ⊢
                    rw [hG, hA3] at hgK ⊢
                    have kb := same_b hgK hb
                    refine o_p (p_pure rfl) rfl ?_
                    refine o_p (p_pure rfl) rfl ?_
                    refine o_p (p_pure rfl) rfl ?_
                    refine o_p (p_pure rfl) rfl ?_
                    refine o_h (h_alloc rfl zr_26) rfl (fun b76 _ => ?_)
                    refine o_h0 (h_store rfl rfl rfl sz_26 rfl aPt (by simp only [setMany_length, List.length_set, List.length_cons, List.length_nil, List.length_map]; omega) rfl) (fun _ _ => ?_)
                    refine o_p (p_pure rfl) rfl ?_
                    refine o_p (p_pure rfl) rfl ?_
                    refine o_nil ?_
                    refine s_seq ?_
                    refine s_seq ?_
                    refine s_region ?_
                    refine o_p (p_pure rfl) rfl ?_
                    refine o_p (p_pure rfl) rfl ?_
                    refine o_p (p_pure rfl) rfl ?_
                    refine o_or 7 162 169 _ _ rfl
                      (by
                        intro hg77
                        have hs78 := hg77; try simp only [decide_eq_true_eq, decide_eq_false_iff_not, Bool.not_eq_true', Bool.not_eq_false', Bool.and_eq_true, Bool.or_eq_true, Bool.and_eq_false_iff, Bool.or_eq_false_iff, Bool.not_true, Bool.not_false] at hs78
                        refine o_on 162 _ rfl rfl hg77 ?_
                        refine o_p (p_pure rfl) rfl ?_
                        refine o_on 162 _ rfl rfl hg77 ?_
                        refine o_p (p_pure rfl) rfl ?_
                        refine o_on 162 _ rfl rfl hg77 ?_
                        refine o_p (p_indexAddr_arr rfl rfl rfl ar_49 _ rfl (by omega)) rfl ?_
                        refine o_on 162 _ rfl rfl hg77 ?_
                        refine o_p (p_fieldAddr rfl rfl fd_48_3 sz_4 rfl) rfl ?_
                        refine o_on 162 _ rfl rfl hg77 ?_
                        refine o_q (q_load rfl rfl sz_4 aPk rfl) rfl ?_
                        refine o_on 162 _ rfl rfl hg77 ?_
                        refine o_p (p_neq_bool rfl rfl rfl Try.underlying4) rfl ?_
                        refine o_p (p_pickf rfl rfl hg77 rfl) rfl ?_
                        refine o_nil ?_
                        exact s_joinN 7 169 _ rfl rfl rfl (fun w h => by first | exact h | exact h.ent aEt))
                      (by
                        intro hg79
                        have hs80 := hg79; try simp only [decide_eq_true_eq, decide_eq_false_iff_not, Bool.not_eq_true', Bool.not_eq_false', Bool.and_eq_true, Bool.or_eq_true, Bool.and_eq_false_iff, Bool.or_eq_false_iff, Bool.not_true, Bool.not_false] at hs80
                        refine o_off 162 _ rfl rfl hg79 rfl ?_
                        refine o_off 162 _ rfl rfl hg79 rfl ?_
                        refine o_off 162 _ rfl rfl hg79 rfl ?_
                        refine o_off 162 _ rfl rfl hg79 rfl ?_
                        refine o_off 162 _ rfl rfl hg79 rfl ?_
                        refine o_off 162 _ rfl rfl hg79 rfl ?_
                        refine o_p (p_pickt rfl rfl hg79 rfl) rfl ?_
                        refine o_nil ?_
                        exact s_joinN 7 169 _ rfl rfl rfl (fun w h => by first | exact h | exact h.ent aEt)) ?_
                    refine o_p (p_pure rfl) rfl ?_
                    refine o_or 7 170 177 _ _ rfl
                      (by
                        intro hg81
                        have hs82 := hg81; try simp only [decide_eq_true_eq, decide_eq_false_iff_not, Bool.not_eq_true', Bool.not_eq_false', Bool.and_eq_true, Bool.or_eq_true, Bool.and_eq_false_iff, Bool.or_eq_false_iff, Bool.not_true, Bool.not_false] at hs82
                        refine o_on 170 _ rfl rfl hg81 ?_
                        refine o_p (p_fieldAddr rfl rfl fd_26_0 sz_3 rfl) rfl ?_
                        refine o_on 170 _ rfl rfl hg81 ?_
                        refine o_q (q_load rfl rfl sz_3 aPk rfl) rfl ?_
                        refine o_on 170 _ rfl rfl hg81 ?_
                        refine o_p (p_fieldAddr rfl rfl fd_26_0 sz_3 rfl) rfl ?_
                        refine o_on 170 _ rfl rfl hg81 ?_
                        refine o_q (q_load rfl rfl sz_3 aPk rfl) rfl ?_
                        refine o_on 170 _ rfl rfl hg81 ?_
                        refine o_p (p_pure rfl) rfl ?_
                        try (refine o_slot (i64w (by omega) (by omega)) ?_)
                        refine o_on 170 _ rfl rfl hg81 ?_
                        refine o_p (p_pure rfl) rfl ?_
                        refine o_p (p_pickf rfl rfl hg81 rfl) rfl ?_
                        refine o_nil ?_
                        exact s_joinN 7 177 _ rfl rfl rfl (fun w h => by first | exact h | exact h.ent aEt))
                      (by
                        intro hg83
                        have hs84 := hg83; try simp only [decide_eq_true_eq, decide_eq_false_iff_not, Bool.not_eq_true', Bool.not_eq_false', Bool.and_eq_true, Bool.or_eq_true, Bool.and_eq_false_iff, Bool.or_eq_false_iff, Bool.not_true, Bool.not_false] at hs84
                        refine o_off 170 _ rfl rfl hg83 rfl ?_
                        refine o_off 170 _ rfl rfl hg83 rfl ?_
                        refine o_off 170 _ rfl rfl hg83 rfl ?_
                        refine o_off 170 _ rfl rfl hg83 rfl ?_
                        refine o_off 170 _ rfl rfl hg83 rfl ?_
                        refine o_off 170 _ rfl rfl hg83 rfl ?_
                        refine o_p (p_pickt rfl rfl hg83 rfl) rfl ?_
                        refine o_nil ?_
                        exact s_joinN 7 177 _ rfl rfl rfl (fun w h => by first | exact h | exact h.ent aEt)) ?_
                    refine o_nil ?_
                    refine s_cond rfl (fun h85 => ?_) (fun h85 => ?_)
                    · try simp only [decide_eq_true_eq, decide_eq_false_iff_not, Bool.not_eq_true', Bool.not_eq_false', Bool.and_eq_true, Bool.or_eq_true, Bool.and_eq_false_iff, Bool.or_eq_false_iff, Bool.not_true, Bool.not_false] at h85
                      exfalso; have hq := h85; simp [LOpn.pl] at hq
                    · try simp only [decide_eq_true_eq, decide_eq_false_iff_not, Bool.not_eq_true', Bool.not_eq_false', Bool.and_eq_true, Bool.or_eq_true, Bool.and_eq_false_iff, Bool.or_eq_false_iff, Bool.not_true, Bool.not_false] at h85
                      refine s_skip ?_
                      refine s_seq ?_
                      refine s_weaken (L' := [(3, _), (4, _), (5, _), (7, _), (11, _), (18, _)]) aSx (fun _ h => h) ?_
                      refine s_region ?_
                      refine o_p (p_fieldAddr rfl rfl fd_26_0 sz_3 rfl) rfl ?_
                      refine o_q (q_load rfl rfl sz_3 aPk rfl) rfl ?_
                      refine o_p (p_fieldAddr rfl rfl fd_26_0 sz_3 rfl) rfl ?_
                      refine o_h0 (h_store rfl rfl rfl sz_3 rfl aPt (by simp only [setMany_length, List.length_set, List.length_cons, List.length_nil, List.length_map]; omega) rfl) (fun _ _ => ?_)
                      refine o_nil ?_
                      refine s_seq ?_
                      refine s_region ?_
                      refine o_q (q_loadn rfl rfl sz_26 aPk rfl) rfl ?_
                      refine o_q (q_loadn rfl rfl sz_26 aPk rfl) rfl ?_
                      refine o_q (q_call rfl fn_14 rfl (fun w1 h1 => c14 w1 next ka a kc cap K L (HS.ft (a := ka) (cap := kc) (l := K) h1 aPk) (hs.later h1) (by rw [hgK]) kb.1 kb.2.1 kb.2.2)) rfl ?_
                      refine o_p (p_pure rfl) rfl ?_
                      refine o_nil ?_
                      refine s_cond rfl (fun h86 => ?_) (fun h86 => ?_)
                      · try simp only [decide_eq_true_eq, decide_eq_false_iff_not, Bool.not_eq_true', Bool.not_eq_false', Bool.and_eq_true, Bool.or_eq_true, Bool.and_eq_false_iff, Bool.or_eq_false_iff, Bool.not_true, Bool.not_false] at h86
                        exfalso; simp at h86
                      · try simp only [decide_eq_true_eq, decide_eq_false_iff_not, Bool.not_eq_true', Bool.not_eq_false', Bool.and_eq_true, Bool.or_eq_true, Bool.and_eq_false_iff, Bool.or_eq_false_iff, Bool.not_true, Bool.not_false] at h86
                        refine s_skip ?_
                        refine s_blk ?_
                        refine s_region ?_
                        refine o_p (p_pure rfl) rfl ?_
                        refine o_p (p_pure rfl) rfl ?_
                        try (refine o_slot (i64w (by omega) (by omega)) ?_)
                        refine o_p (p_pure rfl) rfl ?_
                        refine o_nil ?_
                        exact s_backI 1 (by omega) (by omega) aSx (fun w h => h.ent aEt)
            · try simp only [decide_eq_true_eq, decide_eq_false_iff_not, Bool.not_eq_true', Bool.not_eq_false', Bool.and_eq_true, Bool.or_eq_true, Bool.and_eq_false_iff, Bool.or_eq_false_iff, Bool.not_true, Bool.not_false] at h48
              exfalso; first | omega | (simp at h48; done) | (simp_all; done)
          · skip
            refine s_seq ?_
            refine s_seq ?_
            refine s_region ?_
            refine o_p (p_pure rfl) rfl ?_
            refine o_p (p_pure rfl) rfl ?_
            refine o_nil ?_
            refine s_cond rfl (fun h87 => ?_) (fun h87 => ?_)
            · try simp only [decide_eq_true_eq, decide_eq_false_iff_not, Bool.not_eq_true', Bool.not_eq_false', Bool.and_eq_true, Bool.or_eq_true, Bool.and_eq_false_iff, Bool.or_eq_false_iff, Bool.not_true, Bool.not_false] at h87
              refine s_skip ?_
              refine s_seq ?_
              refine s_block ?_
              refine s_seq ?_
              refine s_cutI (α := Nat × (Option Addr × Nat) × List LFil) [12, 13, 14, 107, 108, 109, 110, 111, 112, 113, 114, 115, 116, 117] (fun q => [(12, .pointer (some ⟨q.1, 0, none⟩)), (13, .int .i64 next), (14, .int .i64 0)]) (fun q => HS w [] [.blk q.1 26 2 [.int .i64 (next + 1), .slice q.2.1.1 q.2.2.length q.2.1.2], .files q.2.1.1 q.2.1.2 q.2.2, .blk b1 26 2 [.int .i64 next, .slice a L.length cap], .blk b2 42 2 [.int .i64 rc, .int .i64 sq], .blk b3 49 10 [.int .i64 x.hd, .int .i64 x.ac, .int .i64 x.sh, .bool x.dl, .slice x.la x.lk.length x.lc, .int .i64 y.hd, .int .i64 y.ac, .int .i64 y.sh, .bool y.dl, .slice y.la y.lk.length y.lc]]) (fun q => pls q.2.2 = L2) ?_ ?_
              · skip
                refine s_draw [12] mixed ?_
                refine d_q 0 [[]] rfl (q_loadn rfl rfl sz_26 aPk rfl) (by kernel_rfl) (by kernel_rfl) (by kernel_rfl) rfl ?_
                refine d_q 2 [[]] rfl (q_loadn rfl rfl sz_42 aPk rfl) (by kernel_rfl) (by kernel_rfl) (by kernel_rfl) rfl ?_
                refine d_p 3 rfl (p_pure rfl) (by kernel_rfl) rfl rfl ?_
                refine d_p 4 rfl (p_indexAddr_arr rfl rfl rfl ar_49 _ rfl (by omega)) (by kernel_rfl) rfl rfl ?_
                refine d_q 5 [[]] rfl (q_loadn rfl rfl sz_48 aPk rfl) (by kernel_rfl) (by kernel_rfl) (by kernel_rfl) rfl ?_
                refine d_two 1 11 rfl rfl  (h_call rfl fn_19 rfl (fun w1 h1 => c19 w1 next a cap L (hs.later h1) hb.1 hb.2.1 hb.2.2)) (h_alloc rfl zr_26) (by kernel_rfl) (fun w h => h.ent aEt) rfl rfl  (fun ⟨⟨ca, cc⟩, N⟩ hgc => ?_) (fun b88 _ => ?_)
                · skip
                  refine d_base (fun w h => h.ent aEt) ?_
                  dsimp only at hgc ⊢
                  have nb := same_b hgc hb
                  refine d_two 6 11 rfl rfl  (h_call rfl fn_35 rfl (fun w1 h1 => c35 w1 next ca cc N rc sq y (HS.ft (a := ca) (cap := cc) (l := N) h1 aPk) nb.1 nb.2.1)) (h_alloc rfl zr_26) (by kernel_rfl) (fun w h => h.ent aEt) rfl rfl  (fun ⟨⟨ga, gc⟩, G⟩ hgL => ?_) (fun b89 _ => ?_)
                  · skip
                    refine d_base (fun w h => h.ent aEt) ?_
                    dsimp only at hgL ⊢
                    rw [hgc, hB1] at hgL ⊢
                    refine d_p 7 rfl (p_pure rfl) (by kernel_rfl) rfl rfl ?_
                    refine d_p 8 rfl (p_pure rfl) (by kernel_rfl) rfl rfl ?_
                    refine d_p 9 rfl (p_pure rfl) (by kernel_rfl) rfl rfl ?_
                    refine d_p 10 rfl (p_pure rfl) (by kernel_rfl) rfl rfl ?_
                    refine d_h 11 rfl (h_alloc rfl zr_26) (by kernel_rfl) (fun w h => h.ent aEt) rfl (fun b90 _ => ?_)
                    refine d_base (fun w h => h.ent aEt) ?_
                    refine d_h0 12 rfl (h_store rfl rfl rfl sz_26 rfl aPt (by simp only [setMany_length, List.length_set, List.length_cons, List.length_nil, List.length_map]; omega) rfl) (by kernel_rfl) (fun w h => h.ent aEt) (fun _ _ => ?_)
                    refine d_turn [] (by kernel_rfl) ?_
                    refine d_p 13 rfl (p_pure rfl) (by kernel_rfl) rfl rfl ?_
                    refine d_p 14 rfl (p_pure rfl) (by kernel_rfl) rfl rfl ?_
                    refine d_nil (by kernel_rfl) (fun w h => h.ent aEt) ?_
                    exact s_joinI (_, (ga, gc), G) hgL aSx (fun w h => h.ent aEt)
                  · skip
                    refine d_base (fun w h => h.ent aEt) ?_
                    refine d_h 6 rfl (h_call rfl fn_35 rfl (fun w1 h1 => c35 w1 next ca cc N rc sq y (HS.ft (a := ca) (cap := cc) (l := N) h1 aPk) nb.1 nb.2.1)) (by kernel_rfl) (fun w h => h.ent aEt) rfl (fun ⟨⟨ga, gc⟩, G⟩ hgL => ?_)
                    refine d_base (fun w h => h.ent aEt) ?_
                    dsimp only at hgL ⊢
                    rw [hgc, hB1] at hgL ⊢
                    refine d_p 7 rfl (p_pure rfl) (by kernel_rfl) rfl rfl ?_
                    refine d_p 8 rfl (p_pure rfl) (by kernel_rfl) rfl rfl ?_
                    refine d_p 9 rfl (p_pure rfl) (by kernel_rfl) rfl rfl ?_
                    refine d_p 10 rfl (p_pure rfl) (by kernel_rfl) rfl rfl ?_
                    refine d_h0 12 rfl (h_store rfl rfl rfl sz_26 rfl aPt (by simp only [setMany_length, List.length_set, List.length_cons, List.length_nil, List.length_map]; omega) rfl) (by kernel_rfl) (fun w h => h.ent aEt) (fun _ _ => ?_)
                    refine d_turn [] (by kernel_rfl) ?_
                    refine d_p 13 rfl (p_pure rfl) (by kernel_rfl) rfl rfl ?_
                    refine d_p 14 rfl (p_pure rfl) (by kernel_rfl) rfl rfl ?_
                    refine d_nil (by kernel_rfl) (fun w h => h.ent aEt) ?_
                    exact s_joinI (_, (ga, gc), G) hgL aSx (fun w h => h.ent aEt)
                · skip
                  refine d_base (fun w h => h.ent aEt) ?_
                  refine d_h 1 rfl (h_call rfl fn_19 rfl (fun w1 h1 => c19 w1 next a cap L (hs.later h1) hb.1 hb.2.1 hb.2.2)) (by kernel_rfl) (fun w h => h.ent aEt) rfl (fun ⟨⟨ca, cc⟩, N⟩ hgc => ?_)
                  refine d_base (fun w h => h.ent aEt) ?_
                  dsimp only at hgc ⊢
                  have nb := same_b hgc hb
                  refine d_h 6 rfl (h_call rfl fn_35 rfl (fun w1 h1 => c35 w1 next ca cc N rc sq y (HS.ft (a := ca) (cap := cc) (l := N) h1 aPk) nb.1 nb.2.1)) (by kernel_rfl) (fun w h => h.ent aEt) rfl (fun ⟨⟨ga, gc⟩, G⟩ hgL => ?_)
                  refine d_base (fun w h => h.ent aEt) ?_
                  dsimp only at hgL ⊢
                  rw [hgc, hB1] at hgL ⊢
                  refine d_p 7 rfl (p_pure rfl) (by kernel_rfl) rfl rfl ?_
                  refine d_p 8 rfl (p_pure rfl) (by kernel_rfl) rfl rfl ?_
                  refine d_p 9 rfl (p_pure rfl) (by kernel_rfl) rfl rfl ?_
                  refine d_p 10 rfl (p_pure rfl) (by kernel_rfl) rfl rfl ?_
                  refine d_h0 12 rfl (h_store rfl rfl rfl sz_26 rfl aPt (by simp only [setMany_length, List.length_set, List.length_cons, List.length_nil, List.length_map]; omega) rfl) (by kernel_rfl) (fun w h => h.ent aEt) (fun _ _ => ?_)
                  refine d_turn [] (by kernel_rfl) ?_
                  refine d_p 13 rfl (p_pure rfl) (by kernel_rfl) rfl rfl ?_
                  refine d_p 14 rfl (p_pure rfl) (by kernel_rfl) rfl rfl ?_
                  refine d_nil (by kernel_rfl) (fun w h => h.ent aEt) ?_
                  exact s_joinI (_, (ga, gc), G) hgL aSx (fun w h => h.ent aEt)
              · intro ⟨p5, ⟨ga, gc⟩, G⟩ hG
                dsimp only at hG ⊢
                have gb := openR_b (next := next) (L := pls L) (rc := rc) (sq := sq) (x := y.pl) (G := G) (by rw [hB1]; exact hG)
                refine s_seq ?_
                refine s_cutI (α := Unit) [15, 16, 17, 118, 119, 120, 121, 122, 123, 124, 125, 126, 127, 128, 129] (fun _ => [(17, .int .i64 (if cfl x.pl y.pl = true then 28 else 0))]) (fun _ => HS w [] [.blk p5 26 2 [.int .i64 (next + 1), .slice ga G.length gc], .files ga gc G, .blk b1 26 2 [.int .i64 next, .slice a L.length cap], .blk b2 42 2 [.int .i64 rc, .int .i64 sq], .blk b3 49 10 [.int .i64 x.hd, .int .i64 x.ac, .int .i64 x.sh, .bool x.dl, .slice x.la x.lk.length x.lc, .int .i64 y.hd, .int .i64 y.ac, .int .i64 y.sh, .bool y.dl, .slice y.la y.lk.length y.lc]]) (fun _ => True) ?_ ?_
                · skip
                  refine s_draw [13] mixed ?_
                  refine d_q 0 [[]] rfl (q_loadn rfl rfl sz_26 aPk rfl) (by kernel_rfl) (by kernel_rfl) (by kernel_rfl) rfl ?_
                  refine d_q 2 [[]] rfl (q_loadn rfl rfl sz_42 aPk rfl) (by kernel_rfl) (by kernel_rfl) (by kernel_rfl) rfl ?_
                  refine d_p 3 rfl (p_pure rfl) (by kernel_rfl) rfl rfl ?_
                  refine d_p 4 rfl (p_pure rfl) (by kernel_rfl) rfl rfl ?_
                  try (refine d_slot (i64w (by omega) (by omega)) ?_)
                  refine d_p 5 rfl (p_indexAddr_arr rfl rfl rfl ar_49 (Int.toNat _) (Int.toNat_of_nonneg (by omega)).symm (by omega)) (by kernel_rfl) rfl rfl ?_
                  refine d_q 6 [[]] rfl (q_loadn rfl rfl sz_48 aPk rfl) (by kernel_rfl) (by kernel_rfl) (by kernel_rfl) rfl ?_
                  refine d_two 1 12 rfl rfl  (h_call rfl fn_19 rfl (fun w1 h1 => c19 w1 (next + 1) ga gc G (HS.ft (a := ga) (cap := gc) (l := G) h1 aPk) gb.1 gb.2.1 gb.2.2)) (h_alloc rfl zr_26) (by kernel_rfl) (fun w h => h.ent aEt) rfl rfl  (fun ⟨⟨da, dc⟩, N2⟩ hgd => ?_) (fun b91 _ => ?_)
                  · skip
                    refine d_base (fun w h => h.ent aEt) ?_
                    dsimp only at hgd ⊢
                    have nd := same_b hgd gb
                    refine d_two 7 12 rfl rfl  (h_call rfl fn_35 rfl (fun w1 h1 => c35 w1 (next + 1) da dc N2 rc sq x (HS.ft (a := da) (cap := dc) (l := N2) h1 aPk) nd.1 nd.2.1)) (h_alloc rfl zr_26) (by kernel_rfl) (fun w h => h.ent aEt) rfl rfl  (fun ⟨⟨ea, ec⟩, G2⟩ hgE => ?_) (fun b92 _ => ?_)
                    · skip
                      refine d_base (fun w h => h.ent aEt) ?_
                      dsimp only at hgE ⊢
                      rw [hgd, hG] at hgE ⊢
                      rw [hB2]
                      refine d_p 8 rfl (p_pure rfl) (by kernel_rfl) rfl rfl ?_
                      refine d_p 9 rfl (p_pure rfl) (by kernel_rfl) rfl rfl ?_
                      refine d_p 10 rfl (p_pure rfl) (by kernel_rfl) rfl rfl ?_
                      refine d_p 11 rfl (p_pure rfl) (by kernel_rfl) rfl rfl ?_
                      refine d_h 12 rfl (h_alloc rfl zr_26) (by kernel_rfl) (fun w h => h.ent aEt) rfl (fun b93 _ => ?_)
                      refine d_base (fun w h => h.ent aEt) ?_
                      refine d_h0 13 rfl (h_store rfl rfl rfl sz_26 rfl aPt (by simp only [setMany_length, List.length_set, List.length_cons, List.length_nil, List.length_map]; omega) rfl) (by kernel_rfl) (fun w h => h.ent aEt) (fun _ _ => ?_)
                      refine d_turn [] (by kernel_rfl) ?_
                      refine d_p 14 rfl (p_pure rfl) (by kernel_rfl) rfl rfl ?_
                      refine d_p 15 rfl (p_pure rfl) (by kernel_rfl) rfl rfl ?_
                      refine d_nil (by kernel_rfl) (fun w h => h.ent aEt) ?_
                      exact s_joinI () trivial aSx (fun w h => h.ent aEt)
                    · skip
                      refine d_base (fun w h => h.ent aEt) ?_
                      refine d_h 7 rfl (h_call rfl fn_35 rfl (fun w1 h1 => c35 w1 (next + 1) da dc N2 rc sq x (HS.ft (a := da) (cap := dc) (l := N2) h1 aPk) nd.1 nd.2.1)) (by kernel_rfl) (fun w h => h.ent aEt) rfl (fun ⟨⟨ea, ec⟩, G2⟩ hgE => ?_)
                      refine d_base (fun w h => h.ent aEt) ?_
                      dsimp only at hgE ⊢
                      rw [hgd, hG] at hgE ⊢
                      rw [hB2]
                      refine d_p 8 rfl (p_pure rfl) (by kernel_rfl) rfl rfl ?_
                      refine d_p 9 rfl (p_pure rfl) (by kernel_rfl) rfl rfl ?_
                      refine d_p 10 rfl (p_pure rfl) (by kernel_rfl) rfl rfl ?_
                      refine d_p 11 rfl (p_pure rfl) (by kernel_rfl) rfl rfl ?_
                      refine d_h0 13 rfl (h_store rfl rfl rfl sz_26 rfl aPt (by simp only [setMany_length, List.length_set, List.length_cons, List.length_nil, List.length_map]; omega) rfl) (by kernel_rfl) (fun w h => h.ent aEt) (fun _ _ => ?_)
                      refine d_turn [] (by kernel_rfl) ?_
                      refine d_p 14 rfl (p_pure rfl) (by kernel_rfl) rfl rfl ?_
                      refine d_p 15 rfl (p_pure rfl) (by kernel_rfl) rfl rfl ?_
                      refine d_nil (by kernel_rfl) (fun w h => h.ent aEt) ?_
                      exact s_joinI () trivial aSx (fun w h => h.ent aEt)
                  · skip
                    refine d_base (fun w h => h.ent aEt) ?_
                    refine d_h 1 rfl (h_call rfl fn_19 rfl (fun w1 h1 => c19 w1 (next + 1) ga gc G (HS.ft (a := ga) (cap := gc) (l := G) h1 aPk) gb.1 gb.2.1 gb.2.2)) (by kernel_rfl) (fun w h => h.ent aEt) rfl (fun ⟨⟨da, dc⟩, N2⟩ hgd => ?_)
                    refine d_base (fun w h => h.ent aEt) ?_
                    dsimp only at hgd ⊢
                    have nd := same_b hgd gb
                    refine d_h 7 rfl (h_call rfl fn_35 rfl (fun w1 h1 => c35 w1 (next + 1) da dc N2 rc sq x (HS.ft (a := da) (cap := dc) (l := N2) h1 aPk) nd.1 nd.2.1)) (by kernel_rfl) (fun w h => h.ent aEt) rfl (fun ⟨⟨ea, ec⟩, G2⟩ hgE => ?_)
                    refine d_base (fun w h => h.ent aEt) ?_
                    dsimp only at hgE ⊢
                    rw [hgd, hG] at hgE ⊢
                    rw [hB2]
                    refine d_p 8 rfl (p_pure rfl) (by kernel_rfl) rfl rfl ?_
                    refine d_p 9 rfl (p_pure rfl) (by kernel_rfl) rfl rfl ?_
                    refine d_p 10 rfl (p_pure rfl) (by kernel_rfl) rfl rfl ?_
                    refine d_p 11 rfl (p_pure rfl) (by kernel_rfl) rfl rfl ?_
                    refine d_h0 13 rfl (h_store rfl rfl rfl sz_26 rfl aPt (by simp only [setMany_length, List.length_set, List.length_cons, List.length_nil, List.length_map]; omega) rfl) (by kernel_rfl) (fun w h => h.ent aEt) (fun _ _ => ?_)
                    refine d_turn [] (by kernel_rfl) ?_
                    refine d_p 14 rfl (p_pure rfl) (by kernel_rfl) rfl rfl ?_
                    refine d_p 15 rfl (p_pure rfl) (by kernel_rfl) rfl rfl ?_
                    refine d_nil (by kernel_rfl) (fun w h => h.ent aEt) ?_
                    exact s_joinI () trivial aSx (fun w h => h.ent aEt)
                · intro _ _
                  refine s_seq ?_
                  refine s_seq ?_
                  refine s_region ?_
                  refine o_p (p_pure rfl) rfl ?_
                  refine o_p (p_pure rfl) rfl ?_
                  refine o_p (p_pure rfl) rfl ?_
                  refine o_or 5 132 137 _ _ rfl
                    (by
                      intro hg94
                      have hs95 := hg94; try simp only [decide_eq_true_eq, decide_eq_false_iff_not, Bool.not_eq_true', Bool.not_eq_false', Bool.and_eq_true, Bool.or_eq_true, Bool.and_eq_false_iff, Bool.or_eq_false_iff, Bool.not_true, Bool.not_false] at hs95
                      refine o_on 132 _ rfl rfl hg94 ?_
                      refine o_p (p_pure rfl) rfl ?_
                      refine o_on 132 _ rfl rfl hg94 ?_
                      refine o_p (p_fieldAddr rfl rfl fd_26_0 sz_3 rfl) rfl ?_
                      refine o_on 132 _ rfl rfl hg94 ?_
                      refine o_q (q_load rfl rfl sz_3 aPk rfl) rfl ?_
                      refine o_on 132 _ rfl rfl hg94 ?_
                      refine o_p (p_pure rfl) rfl ?_
                      refine o_p (p_pickf rfl rfl hg94 rfl) rfl ?_
                      refine o_nil ?_
                      exact s_joinN 5 137 _ rfl rfl rfl (fun w h => by first | exact h | exact h.ent aEt))
                    (by
                      intro hg96
                      have hs97 := hg96; try simp only [decide_eq_true_eq, decide_eq_false_iff_not, Bool.not_eq_true', Bool.not_eq_false', Bool.and_eq_true, Bool.or_eq_true, Bool.and_eq_false_iff, Bool.or_eq_false_iff, Bool.not_true, Bool.not_false] at hs97
                      refine o_off 132 _ rfl rfl hg96 rfl ?_
                      refine o_off 132 _ rfl rfl hg96 rfl ?_
                      refine o_off 132 _ rfl rfl hg96 rfl ?_
                      refine o_off 132 _ rfl rfl hg96 rfl ?_
                      refine o_p (p_pickt rfl rfl hg96 rfl) rfl ?_
                      refine o_nil ?_
                      exact s_joinN 5 137 _ rfl rfl rfl (fun w h => by first | exact h | exact h.ent aEt)) ?_
                  refine o_p (p_pure rfl) rfl ?_
                  refine o_or 6 138 144 _ _ rfl
                    (by
                      intro hg98
                      have hs99 := hg98; try simp only [decide_eq_true_eq, decide_eq_false_iff_not, Bool.not_eq_true', Bool.not_eq_false', Bool.and_eq_true, Bool.or_eq_true, Bool.and_eq_false_iff, Bool.or_eq_false_iff, Bool.not_true, Bool.not_false] at hs99
                      refine o_on 138 _ rfl rfl hg98 ?_
                      refine o_p (p_pure rfl) rfl ?_
                      refine o_on 138 _ rfl rfl hg98 ?_
                      refine o_p (p_pure rfl) rfl ?_
                      refine o_and 3 140 143 _ _ rfl
                        (by
                          intro hg100
                          have hs101 := hg100; try simp only [decide_eq_true_eq, decide_eq_false_iff_not, Bool.not_eq_true', Bool.not_eq_false', Bool.and_eq_true, Bool.or_eq_true, Bool.and_eq_false_iff, Bool.or_eq_false_iff, Bool.not_true, Bool.not_false] at hs101
                          refine o_on 140 _ rfl rfl hg100 ?_
                          refine o_p (p_pure rfl) rfl ?_
                          refine o_on 140 _ rfl rfl hg100 ?_
                          refine o_p (p_pure rfl) rfl ?_
                          refine o_on 138 _ rfl rfl hg98 ?_
                          refine o_p (p_pickt rfl rfl hg100 rfl) rfl ?_
                          refine o_nil ?_
                          exact s_joinN 3 143 _ rfl rfl rfl (fun w h => by first | exact h | exact h.ent aEt))
                        (by
                          intro hg102
                          have hs103 := hg102; try simp only [decide_eq_true_eq, decide_eq_false_iff_not, Bool.not_eq_true', Bool.not_eq_false', Bool.and_eq_true, Bool.or_eq_true, Bool.and_eq_false_iff, Bool.or_eq_false_iff, Bool.not_true, Bool.not_false] at hs103
                          refine o_off 140 _ rfl rfl hg102 rfl ?_
                          refine o_off 140 _ rfl rfl hg102 rfl ?_
                          refine o_on 138 _ rfl rfl hg98 ?_
                          refine o_p (p_pickf rfl rfl hg102 rfl) rfl ?_
                          refine o_nil ?_
                          exact s_joinN 3 143 _ rfl rfl rfl (fun w h => by first | exact h | exact h.ent aEt)) ?_
                      refine o_p (p_pickf rfl rfl hg98 rfl) rfl ?_
                      refine o_nil ?_
                      exact s_joinN 4 144 _ rfl rfl rfl (fun w h => by first | exact h | exact h.ent aEt))
                    (by
                      intro hg104
                      have hs105 := hg104; try simp only [decide_eq_true_eq, decide_eq_false_iff_not, Bool.not_eq_true', Bool.not_eq_false', Bool.and_eq_true, Bool.or_eq_true, Bool.and_eq_false_iff, Bool.or_eq_false_iff, Bool.not_true, Bool.not_false] at hs105
                      refine o_off 138 _ rfl rfl hg104 rfl ?_
                      refine o_off 138 _ rfl rfl hg104 rfl ?_
                      refine o_off' 140 rfl rfl rfl ?_
                      refine o_off' 140 rfl rfl rfl ?_
                      refine o_off 138 _ rfl rfl hg104 rfl ?_
                      refine o_p (p_pickt rfl rfl hg104 rfl) rfl ?_
                      refine o_nil ?_
                      exact s_joinN 6 144 _ rfl rfl rfl (fun w h => by first | exact h | exact h.ent aEt)) ?_
                  refine o_p (p_pure rfl) rfl ?_
                  refine o_or 7 145 152 _ _ rfl
                    (by
                      intro hg106
                      have hs107 := hg106; try simp only [decide_eq_true_eq, decide_eq_false_iff_not, Bool.not_eq_true', Bool.not_eq_false', Bool.and_eq_true, Bool.or_eq_true, Bool.and_eq_false_iff, Bool.or_eq_false_iff, Bool.not_true, Bool.not_false] at hs107
                      refine o_on 145 _ rfl rfl hg106 ?_
                      refine o_p (p_pure rfl) rfl ?_
                      refine o_on 145 _ rfl rfl hg106 ?_
                      refine o_p (p_pure rfl) rfl ?_
                      refine o_on 145 _ rfl rfl hg106 ?_
                      refine o_p (p_pure rfl) rfl ?_
                      refine o_and 3 148 151 _ _ rfl
                        (by
                          intro hg108
                          have hs109 := hg108; try simp only [decide_eq_true_eq, decide_eq_false_iff_not, Bool.not_eq_true', Bool.not_eq_false', Bool.and_eq_true, Bool.or_eq_true, Bool.and_eq_false_iff, Bool.or_eq_false_iff, Bool.not_true, Bool.not_false] at hs109
                          refine o_on 148 _ rfl rfl hg108 ?_
                          refine o_p (p_pure rfl) rfl ?_
                          refine o_on 148 _ rfl rfl hg108 ?_
                          refine o_p (p_pure rfl) rfl ?_
                          refine o_on 145 _ rfl rfl hg106 ?_
                          refine o_p (p_pickt rfl rfl hg108 rfl) rfl ?_
                          refine o_nil ?_
                          exact s_joinN 3 151 _ rfl rfl rfl (fun w h => by first | exact h | exact h.ent aEt))
                        (by
                          intro hg110
                          have hs111 := hg110; try simp only [decide_eq_true_eq, decide_eq_false_iff_not, Bool.not_eq_true', Bool.not_eq_false', Bool.and_eq_true, Bool.or_eq_true, Bool.and_eq_false_iff, Bool.or_eq_false_iff, Bool.not_true, Bool.not_false] at hs111
                          refine o_off 148 _ rfl rfl hg110 rfl ?_
                          refine o_off 148 _ rfl rfl hg110 rfl ?_
                          refine o_on 145 _ rfl rfl hg106 ?_
                          refine o_p (p_pickf rfl rfl hg110 rfl) rfl ?_
                          refine o_nil ?_
                          exact s_joinN 3 151 _ rfl rfl rfl (fun w h => by first | exact h | exact h.ent aEt)) ?_
                      refine o_p (p_pickf rfl rfl hg106 rfl) rfl ?_
                      refine o_nil ?_
                      exact s_joinN 5 152 _ rfl rfl rfl (fun w h => by first | exact h | exact h.ent aEt))
                    (by
                      intro hg112
                      have hs113 := hg112; try simp only [decide_eq_true_eq, decide_eq_false_iff_not, Bool.not_eq_true', Bool.not_eq_false', Bool.and_eq_true, Bool.or_eq_true, Bool.and_eq_false_iff, Bool.or_eq_false_iff, Bool.not_true, Bool.not_false] at hs113
                      refine o_off 145 _ rfl rfl hg112 rfl ?_
                      refine o_off 145 _ rfl rfl hg112 rfl ?_
                      refine o_off 145 _ rfl rfl hg112 rfl ?_
                      refine o_off' 148 rfl rfl rfl ?_
                      refine o_off' 148 rfl rfl rfl ?_
                      refine o_off 145 _ rfl rfl hg112 rfl ?_
                      refine o_p (p_pickt rfl rfl hg112 rfl) rfl ?_
                      refine o_nil ?_
                      exact s_joinN 7 152 _ rfl rfl rfl (fun w h => by first | exact h | exact h.ent aEt)) ?_
                  refine o_nil ?_
                  refine s_cond rfl (fun h114 => ?_) (fun h114 => ?_)
                  · try simp only [decide_eq_true_eq, decide_eq_false_iff_not, Bool.not_eq_true', Bool.not_eq_false', Bool.and_eq_true, Bool.or_eq_true, Bool.and_eq_false_iff, Bool.or_eq_false_iff, Bool.not_true, Bool.not_false] at h114
                    exfalso; have hq := h114; revert hq; cases cfl x.pl y.pl <;> simp
                  · try simp only [decide_eq_true_eq, decide_eq_false_iff_not, Bool.not_eq_true', Bool.not_eq_false', Bool.and_eq_true, Bool.or_eq_true, Bool.and_eq_false_iff, Bool.or_eq_false_iff, Bool.not_true, Bool.not_false] at h114
                    refine s_skip ?_
                    refine s_seq ?_
                    refine s_region ?_
                    refine o_q (q_loadn rfl rfl sz_26 aPk rfl) rfl ?_
                    refine o_p (p_pure rfl) rfl ?_
                    refine o_h (h_call rfl fn_36 rfl (fun w1 h1 => c36 w1 (next + 1) ga gc G next (HS.ft (a := ga) (cap := gc) (l := G) h1 aPk) gb.1 gb.2.1)) rfl (fun ⟨⟨ka, kc⟩, K⟩ hgK => ?_)
                    dsimp only at hgK ⊢
                    rw [hG, hB3] at hgK ⊢
                    have kb := same_b hgK hb
                    refine o_p (p_pure rfl) rfl ?_
                    refine o_p (p_pure rfl) rfl ?_
                    refine o_p (p_pure rfl) rfl ?_
                    refine o_p (p_pure rfl) rfl ?_
                    refine o_h (h_alloc rfl zr_26) rfl (fun b115 _ => ?_)
                    refine o_h0 (h_store rfl rfl rfl sz_26 rfl aPt (by simp only [setMany_length, List.length_set, List.length_cons, List.length_nil, List.length_map]; omega) rfl) (fun _ _ => ?_)
                    refine o_p (p_pure rfl) rfl ?_
                    refine o_p (p_pure rfl) rfl ?_
                    refine o_nil ?_
                    refine s_seq ?_
                    refine s_seq ?_
                    refine s_region ?_
                    refine o_p (p_pure rfl) rfl ?_
                    refine o_p (p_pure rfl) rfl ?_
                    refine o_p (p_pure rfl) rfl ?_
                    refine o_or 7 162 169 _ _ rfl
                      (by
                        intro hg116
                        have hs117 := hg116; try simp only [decide_eq_true_eq, decide_eq_false_iff_not, Bool.not_eq_true', Bool.not_eq_false', Bool.and_eq_true, Bool.or_eq_true, Bool.and_eq_false_iff, Bool.or_eq_false_iff, Bool.not_true, Bool.not_false] at hs117
                        refine o_on 162 _ rfl rfl hg116 ?_
                        refine o_p (p_pure rfl) rfl ?_
                        refine o_on 162 _ rfl rfl hg116 ?_
                        refine o_p (p_pure rfl) rfl ?_
                        refine o_on 162 _ rfl rfl hg116 ?_
                        refine o_p (p_indexAddr_arr rfl rfl rfl ar_49 _ rfl (by omega)) rfl ?_
                        refine o_on 162 _ rfl rfl hg116 ?_
                        refine o_p (p_fieldAddr rfl rfl fd_48_3 sz_4 rfl) rfl ?_
                        refine o_on 162 _ rfl rfl hg116 ?_
                        refine o_q (q_load rfl rfl sz_4 aPk rfl) rfl ?_
                        refine o_on 162 _ rfl rfl hg116 ?_
                        refine o_p (p_neq_bool rfl rfl rfl Try.underlying4) rfl ?_
                        refine o_p (p_pickf rfl rfl hg116 rfl) rfl ?_
                        refine o_nil ?_
                        exact s_joinN 7 169 _ rfl rfl rfl (fun w h => by first | exact h | exact h.ent aEt))
                      (by
                        intro hg118
                        have hs119 := hg118; try simp only [decide_eq_true_eq, decide_eq_false_iff_not, Bool.not_eq_true', Bool.not_eq_false', Bool.and_eq_true, Bool.or_eq_true, Bool.and_eq_false_iff, Bool.or_eq_false_iff, Bool.not_true, Bool.not_false] at hs119
                        refine o_off 162 _ rfl rfl hg118 rfl ?_
                        refine o_off 162 _ rfl rfl hg118 rfl ?_
                        refine o_off 162 _ rfl rfl hg118 rfl ?_
                        refine o_off 162 _ rfl rfl hg118 rfl ?_
                        refine o_off 162 _ rfl rfl hg118 rfl ?_
                        refine o_off 162 _ rfl rfl hg118 rfl ?_
                        refine o_p (p_pickt rfl rfl hg118 rfl) rfl ?_
                        refine o_nil ?_
                        exact s_joinN 7 169 _ rfl rfl rfl (fun w h => by first | exact h | exact h.ent aEt)) ?_
                    refine o_p (p_pure rfl) rfl ?_
                    refine o_or 7 170 177 _ _ rfl
                      (by
                        intro hg120
                        have hs121 := hg120; try simp only [decide_eq_true_eq, decide_eq_false_iff_not, Bool.not_eq_true', Bool.not_eq_false', Bool.and_eq_true, Bool.or_eq_true, Bool.and_eq_false_iff, Bool.or_eq_false_iff, Bool.not_true, Bool.not_false] at hs121
                        refine o_on 170 _ rfl rfl hg120 ?_
                        refine o_p (p_fieldAddr rfl rfl fd_26_0 sz_3 rfl) rfl ?_
                        refine o_on 170 _ rfl rfl hg120 ?_
                        refine o_q (q_load rfl rfl sz_3 aPk rfl) rfl ?_
                        refine o_on 170 _ rfl rfl hg120 ?_
                        refine o_p (p_fieldAddr rfl rfl fd_26_0 sz_3 rfl) rfl ?_
                        refine o_on 170 _ rfl rfl hg120 ?_
                        refine o_q (q_load rfl rfl sz_3 aPk rfl) rfl ?_
                        refine o_on 170 _ rfl rfl hg120 ?_
                        refine o_p (p_pure rfl) rfl ?_
                        try (refine o_slot (i64w (by omega) (by omega)) ?_)
                        refine o_on 170 _ rfl rfl hg120 ?_
                        refine o_p (p_pure rfl) rfl ?_
                        refine o_p (p_pickf rfl rfl hg120 rfl) rfl ?_
                        refine o_nil ?_
                        exact s_joinN 7 177 _ rfl rfl rfl (fun w h => by first | exact h | exact h.ent aEt))
                      (by
                        intro hg122
                        have hs123 := hg122; try simp only [decide_eq_true_eq, decide_eq_false_iff_not, Bool.not_eq_true', Bool.not_eq_false', Bool.and_eq_true, Bool.or_eq_true, Bool.and_eq_false_iff, Bool.or_eq_false_iff, Bool.not_true, Bool.not_false] at hs123
                        refine o_off 170 _ rfl rfl hg122 rfl ?_
                        refine o_off 170 _ rfl rfl hg122 rfl ?_
                        refine o_off 170 _ rfl rfl hg122 rfl ?_
                        refine o_off 170 _ rfl rfl hg122 rfl ?_
                        refine o_off 170 _ rfl rfl hg122 rfl ?_
                        refine o_off 170 _ rfl rfl hg122 rfl ?_
                        refine o_p (p_pickt rfl rfl hg122 rfl) rfl ?_
                        refine o_nil ?_
                        exact s_joinN 7 177 _ rfl rfl rfl (fun w h => by first | exact h | exact h.ent aEt)) ?_
                    refine o_nil ?_
                    refine s_cond rfl (fun h124 => ?_) (fun h124 => ?_)
                    · try simp only [decide_eq_true_eq, decide_eq_false_iff_not, Bool.not_eq_true', Bool.not_eq_false', Bool.and_eq_true, Bool.or_eq_true, Bool.and_eq_false_iff, Bool.or_eq_false_iff, Bool.not_true, Bool.not_false] at h124
                      exfalso; have hq := h124; simp [LOpn.pl] at hq
                    · try simp only [decide_eq_true_eq, decide_eq_false_iff_not, Bool.not_eq_true', Bool.not_eq_false', Bool.and_eq_true, Bool.or_eq_true, Bool.and_eq_false_iff, Bool.or_eq_false_iff, Bool.not_true, Bool.not_false] at h124
                      refine s_skip ?_
                      refine s_seq ?_
                      refine s_weaken (L' := [(3, _), (4, _), (5, _), (7, _), (11, _), (18, _)]) aSx (fun _ h => h) ?_
                      refine s_region ?_
                      refine o_p (p_fieldAddr rfl rfl fd_26_0 sz_3 rfl) rfl ?_
                      refine o_q (q_load rfl rfl sz_3 aPk rfl) rfl ?_
                      refine o_p (p_fieldAddr rfl rfl fd_26_0 sz_3 rfl) rfl ?_
                      refine o_h0 (h_store rfl rfl rfl sz_3 rfl aPt (by simp only [setMany_length, List.length_set, List.length_cons, List.length_nil, List.length_map]; omega) rfl) (fun _ _ => ?_)
                      refine o_nil ?_
                      refine s_seq ?_
                      refine s_region ?_
                      refine o_q (q_loadn rfl rfl sz_26 aPk rfl) rfl ?_
                      refine o_q (q_loadn rfl rfl sz_26 aPk rfl) rfl ?_
                      refine o_q (q_call rfl fn_14 rfl (fun w1 h1 => c14 w1 next ka a kc cap K L (HS.ft (a := ka) (cap := kc) (l := K) h1 aPk) (hs.later h1) (by rw [hgK]) kb.1 kb.2.1 kb.2.2)) rfl ?_
                      refine o_p (p_pure rfl) rfl ?_
                      refine o_nil ?_
                      refine s_cond rfl (fun h125 => ?_) (fun h125 => ?_)
                      · try simp only [decide_eq_true_eq, decide_eq_false_iff_not, Bool.not_eq_true', Bool.not_eq_false', Bool.and_eq_true, Bool.or_eq_true, Bool.and_eq_false_iff, Bool.or_eq_false_iff, Bool.not_true, Bool.not_false] at h125
                        exfalso; simp at h125
                      · try simp only [decide_eq_true_eq, decide_eq_false_iff_not, Bool.not_eq_true', Bool.not_eq_false', Bool.and_eq_true, Bool.or_eq_true, Bool.and_eq_false_iff, Bool.or_eq_false_iff, Bool.not_true, Bool.not_false] at h125
                        refine s_skip ?_
                        refine s_blk ?_
                        refine s_region ?_
                        refine o_p (p_pure rfl) rfl ?_
                        refine o_p (p_pure rfl) rfl ?_
                        try (refine o_slot (i64w (by omega) (by omega)) ?_)
                        refine o_p (p_pure rfl) rfl ?_
                        refine o_nil ?_
                        exact s_backI 2 (by omega) (by omega) aSx (fun w h => h.ent aEt)
            · try simp only [decide_eq_true_eq, decide_eq_false_iff_not, Bool.not_eq_true', Bool.not_eq_false', Bool.and_eq_true, Bool.or_eq_true, Bool.and_eq_false_iff, Bool.or_eq_false_iff, Bool.not_true, Bool.not_false] at h87
              exfalso; first | omega | (simp at h87; done) | (simp_all; done)
          · skip
            refine s_seq ?_
            refine s_seq ?_
            refine s_region ?_
            refine o_p (p_pure rfl) rfl ?_
            refine o_p (p_pure rfl) rfl ?_
            refine o_nil ?_
            refine s_cond rfl (fun h126 => ?_) (fun h126 => ?_)
            · try simp only [decide_eq_true_eq, decide_eq_false_iff_not, Bool.not_eq_true', Bool.not_eq_false', Bool.and_eq_true, Bool.or_eq_true, Bool.and_eq_false_iff, Bool.or_eq_false_iff, Bool.not_true, Bool.not_false] at h126
              exfalso; first | omega | (simp at h126; done) | (simp_all; done)
            · try simp only [decide_eq_true_eq, decide_eq_false_iff_not, Bool.not_eq_true', Bool.not_eq_false', Bool.and_eq_true, Bool.or_eq_true, Bool.and_eq_false_iff, Bool.or_eq_false_iff, Bool.not_true, Bool.not_false] at h126
              refine s_exit_to rfl ?_
              refine s_seq ?_
              refine s_region ?_
              refine o_p (p_pure rfl) rfl ?_
              refine o_nil ?_
              exact s_retv (rs := [.tmp 6]) rfl (.tmp rfl (.nil)) (fun w' h' => ⟨by rfl, h'.below⟩)
          · exfalso; omega

end Go.Proofs

