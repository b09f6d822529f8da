/- Contracts of the program's functions, proved by walking them with the rules of the Gx texts; without conditions beyond those that each contract names. -/
import Derived.WalkKit
import Derived.Deep.Draws
import Derived.TacticsIn
import Derived.OrdersIn
import Derived.RangeFuncLeaves
import Derived.Lib.Strings
import Derived.Laws.BytesArg
import Derived.Laws.IdiomStrings
import Derived.Deep.Quiet
import Derived.ProofKit
import Derived.OpenShut
import Derived.Laws.StructEq
import Derived.ChangeKeysEq
import Derived.Laws.Externs
import Derived.Lib.Overlaps
import Derived.Carry
import Derived.Laws.Small
import Derived.Lib.Bytealg
import Derived.Test.YtfappgmkbnddiaaGreatProg
import Derived.KernelRfl
import Derived.Lib.Builder
import Derived.Laws.Pointers
import Derived.RangeFuncRecord
import Derived.Test.YtfappgmkbnddiaaGreatP4
namespace Go.Proofs
open Go Go.RowKit Gx
set_option linter.unusedVariables false
set_option linter.unusedSimpArgs false
attribute [local irreducible] Go.Calls Gx.S Gx.O Gx.D Gx.OpP Gx.OpQ Gx.OpH

theorem fn_13 : isFn Tryz.prog 13 = true := by kernel_rfl
theorem ar_48 : tar Tryz.prog 48 = some (2, 9, 1) := by kernel_rfl
theorem ar_49 : tar Tryz.prog 49 = some (2, 3, 1) := by kernel_rfl
theorem fn_29 : isFn Tryz.prog 29 = true := by kernel_rfl
theorem fn_30 : isFn Tryz.prog 30 = true := by kernel_rfl
theorem fn_31 : isFn Tryz.prog 31 = true := by kernel_rfl
theorem fn_21 : isFn Tryz.prog 21 = true := by kernel_rfl


set_option maxRecDepth 20000 in
set_option maxHeartbeats 400000 in
theorem c5a (w : World) (co mo rm : Int) (k0 k1 : List UInt8) (hE : ¬ (siz0 co mo rm) = 0) : Calls Tryz.prog 5 #[.int .i64 co, .agg #[.string (bs k0), .string (bs k1)], .agg #[.int .i64 mo, .int .i64 rm]] w fun en w' => en = .returned (.bool true) ∧ Below w.heap.size w w' := by
  refine enter (args := [_, _, _]) Tryz.func5 Tryz.ntmps5 rfl rfl (HS.refl w []) ?_
  refine s_seq ?_
  refine s_region ?_
  refine o_h (h_box rfl rfl) rfl (fun b1 _ => ?_)
  refine o_h (h_box rfl rfl) rfl (fun b2 _ => ?_)
  refine o_p (p_pure rfl) rfl ?_
  refine o_nil ?_
  refine s_seq ?_
  refine s_seq ?_
  refine s_region ?_
  refine o_q (q_call rfl fn_13 rfl (fun w1 h1 => c13 w1)) rfl ?_
  refine o_p (p_pure rfl) rfl ?_
  refine o_nil ?_
  refine s_cond rfl (fun h3 => ?_) (fun h3 => ?_)
  · try simp only [decide_eq_true_eq, decide_eq_false_iff_not, Bool.not_eq_true', Bool.not_eq_false', Bool.and_eq_true, Bool.or_eq_true, Bool.and_eq_false_iff, Bool.or_eq_false_iff, Bool.not_true, Bool.not_false] at h3
    exfalso; simp at h3
  · try simp only [decide_eq_true_eq, decide_eq_false_iff_not, Bool.not_eq_true', Bool.not_eq_false', Bool.and_eq_true, Bool.or_eq_true, Bool.and_eq_false_iff, Bool.or_eq_false_iff, Bool.not_true, Bool.not_false] at h3
    refine s_skip ?_
    refine s_seq ?_
    refine s_seq ?_
    refine s_region ?_
    refine o_p (p_indexAddr_arr rfl rfl rfl ar_48 (0) (by omega) (by omega)) rfl ?_
    refine o_q (q_load rfl rfl sz_9 aPk rfl) rfl ?_
    refine o_p (p_len_str rfl rfl Tryz.underlying9) rfl ?_
    refine o_p (p_pure rfl) rfl ?_
    refine o_p (p_pure rfl) rfl ?_
    refine o_or 5 21 26 _ _ rfl
      (by
        intro hg4
        have hs5 := hg4; try simp only [decide_eq_true_eq, decide_eq_false_iff_not, Bool.not_eq_true', Bool.not_eq_false', Bool.and_eq_true, Bool.or_eq_true, Bool.and_eq_false_iff, Bool.or_eq_false_iff, Bool.not_true, Bool.not_false] at hs5
        refine o_on 21 _ rfl rfl hg4 ?_
        refine o_p (p_indexAddr_arr rfl rfl rfl ar_48 (1) (by omega) (by omega)) rfl ?_
        refine o_on 21 _ rfl rfl hg4 ?_
        refine o_q (q_load rfl rfl sz_9 aPk rfl) rfl ?_
        refine o_on 21 _ rfl rfl hg4 ?_
        refine o_p (p_len_str rfl rfl Tryz.underlying9) rfl ?_
        refine o_on 21 _ rfl rfl hg4 ?_
        refine o_p (p_pure rfl) rfl ?_
        refine o_p (p_pickf rfl rfl hg4 rfl) rfl ?_
        refine o_nil ?_
        exact s_joinN 5 26 _ rfl rfl rfl (fun w h => by first | exact h | exact h.ent aEt))
      (by
        intro hg6
        have hs7 := hg6; try simp only [decide_eq_true_eq, decide_eq_false_iff_not, Bool.not_eq_true', Bool.not_eq_false', Bool.and_eq_true, Bool.or_eq_true, Bool.and_eq_false_iff, Bool.or_eq_false_iff, Bool.not_true, Bool.not_false] at hs7
        refine o_off 21 _ rfl rfl hg6 rfl ?_
        refine o_off 21 _ rfl rfl hg6 rfl ?_
        refine o_off 21 _ rfl rfl hg6 rfl ?_
        refine o_off 21 _ rfl rfl hg6 rfl ?_
        refine o_p (p_pickt rfl rfl hg6 rfl) rfl ?_
        refine o_nil ?_
        exact s_joinN 5 26 _ rfl rfl rfl (fun w h => by first | exact h | exact h.ent aEt)) ?_
    refine o_nil ?_
    refine s_cond rfl (fun h8 => ?_) (fun h8 => ?_)
    · try simp only [decide_eq_true_eq, decide_eq_false_iff_not, Bool.not_eq_true', Bool.not_eq_false', Bool.and_eq_true, Bool.or_eq_true, Bool.and_eq_false_iff, Bool.or_eq_false_iff, Bool.not_true, Bool.not_false] at h8
      refine s_seq ?_
      refine s_region ?_
      refine o_p (p_pure rfl) rfl ?_
      refine o_nil ?_
      exact s_retv (rs := [.tmp 6]) rfl (.tmp rfl (.nil)) (fun w' h' => ⟨by rfl, h'.below⟩)
    · try simp only [decide_eq_true_eq, decide_eq_false_iff_not, Bool.not_eq_true', Bool.not_eq_false', Bool.and_eq_true, Bool.or_eq_true, Bool.and_eq_false_iff, Bool.or_eq_false_iff, Bool.not_true, Bool.not_false] at h8
      have hkl : k0.length ≤ 1000000 ∧ k1.length ≤ 1000000 := by have hq := h8; omega
      refine s_skip ?_
      refine s_seq ?_
      refine s_region ?_
      refine o_p (p_pure rfl) rfl ?_
      refine o_p (p_indexAddr_arr rfl rfl rfl ar_48 (0) (by omega) (by omega)) rfl ?_
      refine o_q (q_load rfl rfl sz_9 aPk rfl) rfl ?_
      refine o_p (p_indexAddr_arr rfl rfl rfl ar_48 (1) (by omega) (by omega)) rfl ?_
      refine o_q (q_load rfl rfl sz_9 aPk rfl) rfl ?_
      refine o_q (q_call rfl fn_28 rfl (fun w1 h1 => c28 w1 co k0 k1 hkl.1 hkl.2)) rfl ?_
      refine o_p (p_pure rfl) rfl ?_
      refine o_p (p_pure rfl) rfl ?_
      refine o_p (p_pure rfl) rfl ?_
      refine o_p (p_pure rfl) rfl ?_
      refine o_p (p_pure rfl) rfl ?_
      refine o_nil ?_
      refine s_seq ?_
      refine s_region ?_
      refine o_p (p_pure rfl) rfl ?_
      refine o_p (p_indexAddr_arr rfl rfl rfl ar_49 (0) (by omega) (by omega)) rfl ?_
      refine o_q (q_load rfl rfl sz_3 aPk rfl) rfl ?_
      refine o_p (p_indexAddr_arr rfl rfl rfl ar_49 (1) (by omega) (by omega)) rfl ?_
      refine o_q (q_load rfl rfl sz_3 aPk rfl) rfl ?_
      refine o_h (h_call rfl fn_29 rfl (fun w1 h1 => c29 w1 co mo rm)) rfl (fun ⟨⟨ga, gc⟩, L⟩ hL => ?_)
      dsimp only
      refine o_p (p_pure rfl) rfl ?_
      refine o_p (p_pure rfl) rfl ?_
      refine o_p (p_pure rfl) rfl ?_
      refine o_h (h_alloc rfl zr_24) rfl (fun b9 _ => ?_)
      refine o_h0 (h_store rfl rfl rfl sz_24 rfl aPt (by show 4 ≤ 4; omega) rfl) (fun _ _ => ?_)
      refine o_p (p_pure rfl) rfl ?_
      refine o_nil ?_
      refine s_seq ?_
      refine s_weaken (L' := [(0, _), (4, _), (5, _), (6, _), (7, _), (8, _), (9, _), (10, _)]) aSx (fun _ h => h) ?_
      refine s_region ?_
      refine o_p (p_pure rfl) rfl ?_
      refine o_q (q_call rfl fn_30 rfl (fun w1 h1 => c30 w1 co)) rfl ?_
      refine o_p (p_pure rfl) rfl ?_
      refine o_nil ?_
      refine s_seq ?_
      refine s_region ?_
      refine o_p (p_pure rfl) rfl ?_
      refine o_p (p_pure rfl) rfl ?_
      refine o_nil ?_
      refine s_seq ?_
      refine s_seq ?_
      refine s_region ?_
      refine o_p (p_pure rfl) rfl ?_
      refine o_p (p_pure rfl) rfl ?_
      refine o_nil ?_
      refine s_cutS (α := Unit) [12, 50, 51, 52, 53, 54] (fun _ => [(12, .int .i64 (siz0 co mo rm))]) (fun _ => True) ?_ ?_
      · skip
        refine s_cond rfl (fun h10 => ?_) (fun h10 => ?_)
        · try simp only [decide_eq_true_eq, decide_eq_false_iff_not, Bool.not_eq_true', Bool.not_eq_false', Bool.and_eq_true, Bool.or_eq_true, Bool.and_eq_false_iff, Bool.or_eq_false_iff, Bool.not_true, Bool.not_false] at h10
          have hcz : colE12 co = 0 := h10
          refine s_region ?_
          refine o_p (p_indexAddr_arr rfl rfl rfl ar_49 (0) (by omega) (by omega)) rfl ?_
          refine o_q (q_load rfl rfl sz_3 aPk rfl) rfl ?_
          refine o_p (p_indexAddr_arr rfl rfl rfl ar_49 (1) (by omega) (by omega)) rfl ?_
          refine o_q (q_load rfl rfl sz_3 aPk rfl) rfl ?_
          refine o_q (q_call rfl fn_31 rfl (fun w1 h1 => c31 w1 mo rm)) rfl ?_
          refine o_p (p_pure rfl) rfl ?_
          refine o_nil ?_
          exact s_joinI () trivial (by rw [show (siz0 co mo rm) = sizE mo rm from if_pos hcz]; exact aSx) (fun w h => h)
        · try simp only [decide_eq_true_eq, decide_eq_false_iff_not, Bool.not_eq_true', Bool.not_eq_false', Bool.and_eq_true, Bool.or_eq_true, Bool.and_eq_false_iff, Bool.or_eq_false_iff, Bool.not_true, Bool.not_false] at h10
          have hcz : ¬ colE12 co = 0 := h10
          refine s_skip ?_
          exact s_joinI () trivial (by rw [show (siz0 co mo rm) = colE12 co from if_neg hcz]; exact aSx) (fun w h => h)
      · intro _ _
        refine s_seq ?_
        refine s_seq ?_
        refine s_cutI (α := Unit) [55, 56, 57, 58, 59, 60, 61, 62, 63, 64, 65, 66, 67, 68, 69, 70, 71, 72, 73, 74, 75, 76, 77, 78, 79, 80, 81, 82, 83, 84, 85, 86] (fun _ => [(86, .bool false)]) (fun _ => HS w [] [.blk b1 48 2 [.string (bs k0), .string (bs k1)]]) (fun _ => True) ?_ ?_
        · skip
          refine s_draw [] mixed ?_
          refine d_p 0 rfl (p_pure rfl) (by kernel_rfl) rfl rfl ?_
          refine d_p 1 rfl (p_pure rfl) (by kernel_rfl) rfl rfl ?_
          refine d_p 2 rfl (p_pure rfl) (by kernel_rfl) rfl rfl ?_
          apply d_split 57
          · exact rfl
          · intro hg11
            have hs12 := hg11; try simp only [decide_eq_true_eq, decide_eq_false_iff_not, Bool.not_eq_true', Bool.not_eq_false', Bool.and_eq_true, Bool.or_eq_true, Bool.and_eq_false_iff, Bool.or_eq_false_iff, Bool.not_true, Bool.not_false] at hs12
            refine d_pon 3 57 rfl rfl rfl hg11 (p_pure rfl) (by kernel_rfl) rfl rfl ?_
            refine d_pon 4 57 rfl rfl rfl hg11 (p_pure rfl) (by kernel_rfl) rfl rfl ?_
            refine d_pon 5 57 rfl rfl rfl hg11 (p_pure rfl) (by kernel_rfl) rfl rfl ?_
            refine d_pon 6 57 rfl rfl rfl hg11 (p_pure rfl) (by kernel_rfl) rfl rfl ?_
            apply d_split 61
            · exact rfl
            · intro hg13
              have hs14 := hg13; try simp only [decide_eq_true_eq, decide_eq_false_iff_not, Bool.not_eq_true', Bool.not_eq_false', Bool.and_eq_true, Bool.or_eq_true, Bool.and_eq_false_iff, Bool.or_eq_false_iff, Bool.not_true, Bool.not_false] at hs14
              exfalso; simp at hg13
            · intro hg15
              have hs16 := hg15; try simp only [decide_eq_true_eq, decide_eq_false_iff_not, Bool.not_eq_true', Bool.not_eq_false', Bool.and_eq_true, Bool.or_eq_true, Bool.and_eq_false_iff, Bool.or_eq_false_iff, Bool.not_true, Bool.not_false] at hs16
              refine d_qon 7 61 [] rfl rfl rfl hg15 (q_loadn rfl rfl sz_24 aPk rfl) (by kernel_rfl) (by kernel_rfl) (by kernel_rfl) rfl ?_
              refine d_slot (show _ = Value.agg #[.int .i64 0, .int .i64 0, .int .i64 0, .slice ga L.length gc] from by rw [show setMany _ _ _ = _ from rfl]; simp only [empT_bad hE]; rfl) ?_
              refine d_pon 8 61 rfl rfl rfl hg15 (p_build (cs := [_, _, _, _]) rfl rfl pl_24 zr_24 rfl) (by kernel_rfl) rfl rfl ?_
              refine d_qon 9 61 [] rfl rfl rfl hg15 (q_call rfl fn_21 rfl (fun w1 h1 => c21 w1 0 0 0 ga none gc 0 L [] (HS.nt h1 aPk) nt_nil (by rw [← pln_len, hL, empT_bad hE]; decide) (by decide) (by rw [hL, empT_bad hE]; exact sm_nil) sm_nil (by rw [hL, empT_bad hE]; rfl))) (by kernel_rfl) (by kernel_rfl) (by kernel_rfl) rfl ?_
              refine d_pon 10 61 rfl rfl rfl hg15 (p_pure rfl) (by kernel_rfl) rfl rfl ?_
              refine d_pon 11 57 rfl rfl rfl hg11 (p_pickf rfl rfl hg15 rfl) (by kernel_rfl) rfl rfl ?_
              refine d_p 12 rfl (p_pickt rfl rfl hg11 rfl) (by kernel_rfl) rfl rfl ?_
              refine d_p 13 rfl (p_pure rfl) (by kernel_rfl) rfl rfl ?_
              apply d_split 68
              · exact rfl
              · intro hg17
                have hs18 := hg17; try simp only [decide_eq_true_eq, decide_eq_false_iff_not, Bool.not_eq_true', Bool.not_eq_false', Bool.and_eq_true, Bool.or_eq_true, Bool.and_eq_false_iff, Bool.or_eq_false_iff, Bool.not_true, Bool.not_false] at hs18
                exfalso; simp at hg17
              · intro hg19
                have hs20 := hg19; try simp only [decide_eq_true_eq, decide_eq_false_iff_not, Bool.not_eq_true', Bool.not_eq_false', Bool.and_eq_true, Bool.or_eq_true, Bool.and_eq_false_iff, Bool.or_eq_false_iff, Bool.not_true, Bool.not_false] at hs20
                refine d_pon 14 68 rfl rfl rfl hg19 (p_pure rfl) (by kernel_rfl) rfl rfl ?_
                refine d_pon 15 68 rfl rfl rfl hg19 (p_pure rfl) (by kernel_rfl) rfl rfl ?_
                refine d_pon 16 68 rfl rfl rfl hg19 (p_pure rfl) (by kernel_rfl) rfl rfl ?_
                apply d_split 71
                · exact rfl
                · intro hg21
                  have hs22 := hg21; try simp only [decide_eq_true_eq, decide_eq_false_iff_not, Bool.not_eq_true', Bool.not_eq_false', Bool.and_eq_true, Bool.or_eq_true, Bool.and_eq_false_iff, Bool.or_eq_false_iff, Bool.not_true, Bool.not_false] at hs22
                  exfalso; exact absurd hg21 (by simp [hE])
                · intro hg23
                  have hs24 := hg23; try simp only [decide_eq_true_eq, decide_eq_false_iff_not, Bool.not_eq_true', Bool.not_eq_false', Bool.and_eq_true, Bool.or_eq_true, Bool.and_eq_false_iff, Bool.or_eq_false_iff, Bool.not_true, Bool.not_false] at hs24
                  refine d_off 17 71 rfl rfl rfl hg23 (by kernel_rfl) rfl rfl ?_
                  refine d_off 18 71 rfl rfl rfl hg23 (by kernel_rfl) rfl rfl ?_
                  refine d_off 19 71 rfl rfl rfl hg23 (by kernel_rfl) rfl rfl ?_
                  refine d_offU 20 74 rfl rfl rfl (by kernel_rfl) rfl rfl ?_
                  refine d_offU 21 74 rfl rfl rfl (by kernel_rfl) rfl rfl ?_
                  refine d_offU 22 74 rfl rfl rfl (by kernel_rfl) rfl rfl ?_
                  refine d_offU 23 74 rfl rfl rfl (by kernel_rfl) rfl rfl ?_
                  refine d_offU 24 74 rfl rfl rfl (by kernel_rfl) rfl rfl ?_
                  refine d_offU 25 74 rfl rfl rfl (by kernel_rfl) rfl rfl ?_
                  refine d_offU 26 74 rfl rfl rfl (by kernel_rfl) rfl rfl ?_
                  refine d_offU 27 74 rfl rfl rfl (by kernel_rfl) rfl rfl ?_
                  refine d_offU 28 74 rfl rfl rfl (by kernel_rfl) rfl rfl ?_
                  refine d_off 29 71 rfl rfl rfl hg23 (by kernel_rfl) rfl rfl ?_
                  refine d_pon 30 68 rfl rfl rfl hg19 (p_pickf rfl rfl hg23 rfl) (by kernel_rfl) rfl rfl ?_
                  refine d_p 31 rfl (p_pickf rfl rfl hg19 rfl) (by kernel_rfl) rfl rfl ?_
                  refine d_nil (by kernel_rfl) (fun w h => by first | exact h | exact h.ent aEt) ?_
                  exact s_joinI () trivial aSx (fun w h => h.ent aEt)
          · intro hg25
            have hs26 := hg25; try simp only [decide_eq_true_eq, decide_eq_false_iff_not, Bool.not_eq_true', Bool.not_eq_false', Bool.and_eq_true, Bool.or_eq_true, Bool.and_eq_false_iff, Bool.or_eq_false_iff, Bool.not_true, Bool.not_false] at hs26
            exfalso; exact absurd hg25 (by simp [hE])
        · intro _ _
          refine s_cond rfl (fun h27 => ?_) (fun h27 => ?_)
          · try simp only [decide_eq_true_eq, decide_eq_false_iff_not, Bool.not_eq_true', Bool.not_eq_false', Bool.and_eq_true, Bool.or_eq_true, Bool.and_eq_false_iff, Bool.or_eq_false_iff, Bool.not_true, Bool.not_false] at h27
            exfalso; simp at h27
          · try simp only [decide_eq_true_eq, decide_eq_false_iff_not, Bool.not_eq_true', Bool.not_eq_false', Bool.and_eq_true, Bool.or_eq_true, Bool.and_eq_false_iff, Bool.or_eq_false_iff, Bool.not_true, Bool.not_false] at h27
            refine s_skip ?_
            refine s_seq ?_
            refine s_seq ?_
            refine s_region ?_
            refine o_p (p_pure rfl) rfl ?_
            refine o_p (p_pure rfl) rfl ?_
            refine o_nil ?_
            refine s_weaken (L' := [(0, _), (4, _), (6, _), (7, _), (8, _), (11, _), (88, _)]) aSx (fun _ h => h) ?_
            refine s_cutS (α := Unit) [11, 89, 90, 91, 92] (fun _ => [(11, .int .i64 (cE1 co k0))]) (fun _ => True) ?_ ?_
            · skip
              refine s_cond rfl (fun h28 => ?_) (fun h28 => ?_)
              · try simp only [decide_eq_true_eq, decide_eq_false_iff_not, Bool.not_eq_true', Bool.not_eq_false', Bool.and_eq_true, Bool.or_eq_true, Bool.and_eq_false_iff, Bool.or_eq_false_iff, Bool.not_true, Bool.not_false] at h28
                have hcy : colE12 co = 0 := h28
                obtain ⟨j, rfl, hj⟩ := col_ok hcy
                refine s_region ?_
                refine o_p (p_pure rfl) rfl ?_
                refine o_p (p_indexAddr_arr rfl rfl rfl ar_48 (0) (by omega) (by omega)) rfl ?_
                refine o_q (q_load rfl rfl sz_9 aPk rfl) rfl ?_
                refine o_q (q_call rfl fn_26 rfl (fun w1 h1 => c26 w1 j k0 hj hkl.1)) rfl ?_
                refine o_p (p_pure rfl) rfl ?_
                refine o_nil ?_
                exact s_joinI () trivial (by rw [show cE1 (j : Int) k0 = keyE (j : Int) k0 from if_pos hcy]; exact aSx) (fun w h => h)
              · try simp only [decide_eq_true_eq, decide_eq_false_iff_not, Bool.not_eq_true', Bool.not_eq_false', Bool.and_eq_true, Bool.or_eq_true, Bool.and_eq_false_iff, Bool.or_eq_false_iff, Bool.not_true, Bool.not_false] at h28
                have hcy : ¬ colE12 co = 0 := h28
                refine s_skip ?_
                exact s_joinI () trivial (by rw [show (cE1 co k0) = colE12 co from if_neg hcy]; exact aSx) (fun w h => h)
            · intro _ _
              refine s_seq ?_
              refine s_seq ?_
              refine s_region ?_
              refine o_p (p_pure rfl) rfl ?_
              refine o_p (p_pure rfl) rfl ?_
              refine o_nil ?_
              refine s_cutS (α := Unit) [11, 95, 96, 97, 98] (fun _ => [(11, .int .i64 (cmpE co k0 k1))]) (fun _ => True) ?_ ?_
              · skip
                refine s_cond rfl (fun h29 => ?_) (fun h29 => ?_)
                · try simp only [decide_eq_true_eq, decide_eq_false_iff_not, Bool.not_eq_true', Bool.not_eq_false', Bool.and_eq_true, Bool.or_eq_true, Bool.and_eq_false_iff, Bool.or_eq_false_iff, Bool.not_true, Bool.not_false] at h29
                  have hcx : (cE1 co k0) = 0 := h29
                  obtain ⟨hcx1, hcx2⟩ := cE1_0 hcx
                  obtain ⟨j, rfl, hj⟩ := col_ok hcx1
                  refine s_region ?_
                  refine o_p (p_pure rfl) rfl ?_
                  refine o_p (p_indexAddr_arr rfl rfl rfl ar_48 (1) (by omega) (by omega)) rfl ?_
                  refine o_q (q_load rfl rfl sz_9 aPk rfl) rfl ?_
                  refine o_q (q_call rfl fn_26 rfl (fun w1 h1 => c26 w1 j k1 hj hkl.2)) rfl ?_
                  refine o_p (p_pure rfl) rfl ?_
                  refine o_nil ?_
                  exact s_joinI () trivial (by rw [cmpE_1, if_pos hcx]; exact aSx) (fun w h => h)
                · try simp only [decide_eq_true_eq, decide_eq_false_iff_not, Bool.not_eq_true', Bool.not_eq_false', Bool.and_eq_true, Bool.or_eq_true, Bool.and_eq_false_iff, Bool.or_eq_false_iff, Bool.not_true, Bool.not_false] at h29
                  have hcx : ¬ (cE1 co k0) = 0 := h29
                  refine s_skip ?_
                  exact s_joinI () trivial (by rw [cmpE_1, if_neg hcx]; exact aSx) (fun w h => h)
              · intro _ _
                refine s_seq ?_
                refine s_seq ?_
                refine s_region ?_
                refine o_p (p_pure rfl) rfl ?_
                refine o_p (p_pure rfl) rfl ?_
                refine o_nil ?_
                refine s_cond rfl (fun h30 => ?_) (fun h30 => ?_)
                · try simp only [decide_eq_true_eq, decide_eq_false_iff_not, Bool.not_eq_true', Bool.not_eq_false', Bool.and_eq_true, Bool.or_eq_true, Bool.and_eq_false_iff, Bool.or_eq_false_iff, Bool.not_true, Bool.not_false] at h30
                  have hcw : ¬ (cmpE co k0 k1) = 0 := h30
                  refine s_seq ?_
                  refine s_region ?_
                  refine o_p (p_pure rfl) rfl ?_
                  refine o_p (p_pure rfl) rfl ?_
                  refine o_p (p_pure rfl) rfl ?_
                  refine o_p (p_pure rfl) rfl ?_
                  refine o_and 3 104 107 _ _ rfl
                    (by
                      intro hg31
                      have hs32 := hg31; try simp only [decide_eq_true_eq, decide_eq_false_iff_not, Bool.not_eq_true', Bool.not_eq_false', Bool.and_eq_true, Bool.or_eq_true, Bool.and_eq_false_iff, Bool.or_eq_false_iff, Bool.not_true, Bool.not_false] at hs32
                      refine o_on 104 _ rfl rfl hg31 ?_
                      refine o_p (p_pure rfl) rfl ?_
                      refine o_on 104 _ rfl rfl hg31 ?_
                      refine o_p (p_pure rfl) rfl ?_
                      refine o_p (p_pickt rfl rfl hg31 rfl) rfl ?_
                      refine o_nil ?_
                      exact s_joinN 3 107 _ rfl rfl rfl (fun w h => by first | exact h | exact h.ent aEt))
                    (by
                      intro hg33
                      have hs34 := hg33; try simp only [decide_eq_true_eq, decide_eq_false_iff_not, Bool.not_eq_true', Bool.not_eq_false', Bool.and_eq_true, Bool.or_eq_true, Bool.and_eq_false_iff, Bool.or_eq_false_iff, Bool.not_true, Bool.not_false] at hs34
                      refine o_off 104 _ rfl rfl hg33 rfl ?_
                      refine o_off 104 _ rfl rfl hg33 rfl ?_
                      refine o_p (p_pickf rfl rfl hg33 rfl) rfl ?_
                      refine o_nil ?_
                      exact s_joinN 3 107 _ rfl rfl rfl (fun w h => by first | exact h | exact h.ent aEt)) ?_
                  refine o_p (p_pure rfl) rfl ?_
                  refine o_nil ?_
                  exact s_retv (rs := [.tmp 6]) rfl (.tmp rfl (.nil)) (fun w' h' => ⟨by simp only [retV]; simp [hcw], h'.below⟩)
                · try simp only [decide_eq_true_eq, decide_eq_false_iff_not, Bool.not_eq_true', Bool.not_eq_false', Bool.and_eq_true, Bool.or_eq_true, Bool.and_eq_false_iff, Bool.or_eq_false_iff, Bool.not_true, Bool.not_false] at h30
                  have hcw : (cmpE co k0 k1) = 0 := by have hq := h30; omega
                  have hcw2 := cmpE_swap hcw
                  have hcv := hcw
                  rw [cmpE_1] at hcv
                  have hcu : (cE1 co k0) = 0 := by by_cases h9 : (cE1 co k0) = 0; exact h9; rw [if_neg h9] at hcv; exact absurd hcv h9
                  rw [if_pos hcu] at hcv
                  obtain ⟨hcx1, hcx2⟩ := cE1_0 hcu
                  obtain ⟨j, rfl, hj⟩ := col_ok hcx1
                  refine s_skip ?_
                  refine s_seq ?_
                  refine s_region ?_
                  refine o_p (p_pure rfl) rfl ?_
                  refine o_p (p_indexAddr_arr rfl rfl rfl ar_48 (1) (by omega) (by omega)) rfl ?_
                  refine o_q (q_load rfl rfl sz_9 aPk rfl) rfl ?_
                  refine o_p (p_indexAddr_arr rfl rfl rfl ar_48 (0) (by omega) (by omega)) rfl ?_
                  refine o_q (q_load rfl rfl sz_9 aPk rfl) rfl ?_
                  refine o_q (q_call rfl fn_28 rfl (fun w1 h1 => c28 w1 (j : Int) k1 k0 hkl.2 hkl.1)) rfl ?_
                  refine o_p (p_pure rfl) rfl ?_
                  refine o_p (p_pure rfl) rfl ?_
                  refine o_p (p_pure rfl) rfl ?_
                  refine o_p (p_pure rfl) rfl ?_
                  refine o_p (p_pure rfl) rfl ?_
                  refine o_nil ?_
                  refine s_seq ?_
                  refine s_region ?_
                  refine o_p (p_pure rfl) rfl ?_
                  refine o_p (p_pure rfl) rfl ?_
                  refine o_p (p_pure rfl) rfl ?_
                  refine o_and 9 119 128 _ _ rfl
                    (by
                      intro hg35
                      have hs36 := hg35; try simp only [decide_eq_true_eq, decide_eq_false_iff_not, Bool.not_eq_true', Bool.not_eq_false', Bool.and_eq_true, Bool.or_eq_true, Bool.and_eq_false_iff, Bool.or_eq_false_iff, Bool.not_true, Bool.not_false] at hs36
                      refine o_on 119 _ rfl rfl hg35 ?_
                      refine o_p (p_pure rfl) rfl ?_
                      refine o_on 119 _ rfl rfl hg35 ?_
                      refine o_p (p_pure rfl) rfl ?_
                      refine o_on 119 _ rfl rfl hg35 ?_
                      refine o_p (p_indexAddr_arr rfl rfl rfl ar_48 (0) (by omega) (by omega)) rfl ?_
                      refine o_on 119 _ rfl rfl hg35 ?_
                      refine o_q (q_load rfl rfl sz_9 aPk rfl) rfl ?_
                      refine o_on 119 _ rfl rfl hg35 ?_
                      refine o_p (p_indexAddr_arr rfl rfl rfl ar_48 (1) (by omega) (by omega)) rfl ?_
                      refine o_on 119 _ rfl rfl hg35 ?_
                      refine o_q (q_load rfl rfl sz_9 aPk rfl) rfl ?_
                      refine o_on 119 _ rfl rfl hg35 ?_
                      refine o_q (q_call rfl fn_33 rfl (fun w1 h1 => c33 w1 j k0 k1 hj (keyE_ok hcx2) (keyE_ok hcv) hkl.1 hkl.2)) rfl ?_
                      refine o_on 119 _ rfl rfl hg35 ?_
                      refine o_p (p_pure rfl) rfl ?_
                      refine o_p (p_pickt rfl rfl hg35 rfl) rfl ?_
                      refine o_nil ?_
                      exact s_joinN 9 128 _ rfl rfl rfl (fun w h => by first | exact h | exact h.ent aEt))
                    (by
                      intro hg37
                      have hs38 := hg37; try simp only [decide_eq_true_eq, decide_eq_false_iff_not, Bool.not_eq_true', Bool.not_eq_false', Bool.and_eq_true, Bool.or_eq_true, Bool.and_eq_false_iff, Bool.or_eq_false_iff, Bool.not_true, Bool.not_false] at hs38
                      refine o_off 119 _ rfl rfl hg37 rfl ?_
                      refine o_off 119 _ rfl rfl hg37 rfl ?_
                      refine o_off 119 _ rfl rfl hg37 rfl ?_
                      refine o_off 119 _ rfl rfl hg37 rfl ?_
                      refine o_off 119 _ rfl rfl hg37 rfl ?_
                      refine o_off 119 _ rfl rfl hg37 rfl ?_
                      refine o_off 119 _ rfl rfl hg37 rfl ?_
                      refine o_off 119 _ rfl rfl hg37 rfl ?_
                      refine o_p (p_pickf rfl rfl hg37 rfl) rfl ?_
                      refine o_nil ?_
                      exact s_joinN 9 128 _ rfl rfl rfl (fun w h => by first | exact h | exact h.ent aEt)) ?_
                  refine o_p (p_pure rfl) rfl ?_
                  refine o_and 3 129 132 _ _ rfl
                    (by
                      intro hg39
                      have hs40 := hg39; try simp only [decide_eq_true_eq, decide_eq_false_iff_not, Bool.not_eq_true', Bool.not_eq_false', Bool.and_eq_true, Bool.or_eq_true, Bool.and_eq_false_iff, Bool.or_eq_false_iff, Bool.not_true, Bool.not_false] at hs40
                      refine o_on 129 _ rfl rfl hg39 ?_
                      refine o_p (p_pure rfl) rfl ?_
                      refine o_on 129 _ rfl rfl hg39 ?_
                      refine o_p (p_pure rfl) rfl ?_
                      refine o_p (p_pickt rfl rfl hg39 rfl) rfl ?_
                      refine o_nil ?_
                      exact s_joinN 3 132 _ rfl rfl rfl (fun w h => by first | exact h | exact h.ent aEt))
                    (by
                      intro hg41
                      have hs42 := hg41; try simp only [decide_eq_true_eq, decide_eq_false_iff_not, Bool.not_eq_true', Bool.not_eq_false', Bool.and_eq_true, Bool.or_eq_true, Bool.and_eq_false_iff, Bool.or_eq_false_iff, Bool.not_true, Bool.not_false] at hs42
                      refine o_off 129 _ rfl rfl hg41 rfl ?_
                      refine o_off 129 _ rfl rfl hg41 rfl ?_
                      refine o_p (p_pickf rfl rfl hg41 rfl) rfl ?_
                      refine o_nil ?_
                      exact s_joinN 3 132 _ rfl rfl rfl (fun w h => by first | exact h | exact h.ent aEt)) ?_
                  refine o_p (p_pure rfl) rfl ?_
                  refine o_and 5 133 138 _ _ rfl
                    (by
                      intro hg43
                      have hs44 := hg43; try simp only [decide_eq_true_eq, decide_eq_false_iff_not, Bool.not_eq_true', Bool.not_eq_false', Bool.and_eq_true, Bool.or_eq_true, Bool.and_eq_false_iff, Bool.or_eq_false_iff, Bool.not_true, Bool.not_false] at hs44
                      refine o_on 133 _ rfl rfl hg43 ?_
                      refine o_p (p_pure rfl) rfl ?_
                      refine o_on 133 _ rfl rfl hg43 ?_
                      refine o_p (p_pure rfl) rfl ?_
                      refine o_on 133 _ rfl rfl hg43 ?_
                      refine o_p (p_pure rfl) rfl ?_
                      try (refine o_slot (i64w (by omega) (by omega)) ?_)
                      refine o_on 133 _ rfl rfl hg43 ?_
                      refine o_p (p_pure rfl) rfl ?_
                      refine o_p (p_pickt rfl rfl hg43 rfl) rfl ?_
                      refine o_nil ?_
                      exact s_joinN 5 138 _ rfl rfl rfl (fun w h => by first | exact h | exact h.ent aEt))
                    (by
                      intro hg45
                      have hs46 := hg45; try simp only [decide_eq_true_eq, decide_eq_false_iff_not, Bool.not_eq_true', Bool.not_eq_false', Bool.and_eq_true, Bool.or_eq_true, Bool.and_eq_false_iff, Bool.or_eq_false_iff, Bool.not_true, Bool.not_false] at hs46
                      refine o_off 133 _ rfl rfl hg45 rfl ?_
                      refine o_off 133 _ rfl rfl hg45 rfl ?_
                      refine o_off 133 _ rfl rfl hg45 rfl ?_
                      refine o_off 133 _ rfl rfl hg45 rfl ?_
                      refine o_p (p_pickf rfl rfl hg45 rfl) rfl ?_
                      refine o_nil ?_
                      exact s_joinN 5 138 _ rfl rfl rfl (fun w h => by first | exact h | exact h.ent aEt)) ?_
                  refine o_p (p_pure rfl) rfl ?_
                  refine o_nil ?_
                  exact s_retv (rs := [.tmp 6]) rfl (.tmp rfl (.nil)) (fun w' h' => ⟨by simp only [retV]; have hsw := cmpK_swap (j : Int) k0 k1; simp [hcw, hcw2, hsw]; rcases cmpK_rng (j : Int) k0 k1 with e | e | e <;> rw [e] <;> decide, h'.below⟩)

set_option maxRecDepth 20000 in
set_option maxHeartbeats 400000 in
theorem c5b (w : World) (co mo rm : Int) (k0 k1 : List UInt8) (hE : (siz0 co mo rm) = 0) : Calls Tryz.prog 5 #[.int .i64 co, .agg #[.string (bs k0), .string (bs k1)], .agg #[.int .i64 mo, .int .i64 rm]] w fun en w' => en = .returned (.bool true) ∧ Below w.heap.size w w' := by
  refine enter (args := [_, _, _]) Tryz.func5 Tryz.ntmps5 rfl rfl (HS.refl w []) ?_
  refine s_seq ?_
  refine s_region ?_
  refine o_h (h_box rfl rfl) rfl (fun b1 _ => ?_)
  refine o_h (h_box rfl rfl) rfl (fun b2 _ => ?_)
  refine o_p (p_pure rfl) rfl ?_
  refine o_nil ?_
  refine s_seq ?_
  refine s_seq ?_
  refine s_region ?_
  refine o_q (q_call rfl fn_13 rfl (fun w1 h1 => c13 w1)) rfl ?_
  refine o_p (p_pure rfl) rfl ?_
  refine o_nil ?_
  refine s_cond rfl (fun h3 => ?_) (fun h3 => ?_)
  · try simp only [decide_eq_true_eq, decide_eq_false_iff_not, Bool.not_eq_true', Bool.not_eq_false', Bool.and_eq_true, Bool.or_eq_true, Bool.and_eq_false_iff, Bool.or_eq_false_iff, Bool.not_true, Bool.not_false] at h3
    exfalso; simp at h3
  · try simp only [decide_eq_true_eq, decide_eq_false_iff_not, Bool.not_eq_true', Bool.not_eq_false', Bool.and_eq_true, Bool.or_eq_true, Bool.and_eq_false_iff, Bool.or_eq_false_iff, Bool.not_true, Bool.not_false] at h3
    refine s_skip ?_
    refine s_seq ?_
    refine s_seq ?_
    refine s_region ?_
    refine o_p (p_indexAddr_arr rfl rfl rfl ar_48 (0) (by omega) (by omega)) rfl ?_
    refine o_q (q_load rfl rfl sz_9 aPk rfl) rfl ?_
    refine o_p (p_len_str rfl rfl Tryz.underlying9) rfl ?_
    refine o_p (p_pure rfl) rfl ?_
    refine o_p (p_pure rfl) rfl ?_
    refine o_or 5 21 26 _ _ rfl
      (by
        intro hg4
        have hs5 := hg4; try simp only [decide_eq_true_eq, decide_eq_false_iff_not, Bool.not_eq_true', Bool.not_eq_false', Bool.and_eq_true, Bool.or_eq_true, Bool.and_eq_false_iff, Bool.or_eq_false_iff, Bool.not_true, Bool.not_false] at hs5
        refine o_on 21 _ rfl rfl hg4 ?_
        refine o_p (p_indexAddr_arr rfl rfl rfl ar_48 (1) (by omega) (by omega)) rfl ?_
        refine o_on 21 _ rfl rfl hg4 ?_
        refine o_q (q_load rfl rfl sz_9 aPk rfl) rfl ?_
        refine o_on 21 _ rfl rfl hg4 ?_
        refine o_p (p_len_str rfl rfl Tryz.underlying9) rfl ?_
        refine o_on 21 _ rfl rfl hg4 ?_
        refine o_p (p_pure rfl) rfl ?_
        refine o_p (p_pickf rfl rfl hg4 rfl) rfl ?_
        refine o_nil ?_
        exact s_joinN 5 26 _ rfl rfl rfl (fun w h => by first | exact h | exact h.ent aEt))
      (by
        intro hg6
        have hs7 := hg6; try simp only [decide_eq_true_eq, decide_eq_false_iff_not, Bool.not_eq_true', Bool.not_eq_false', Bool.and_eq_true, Bool.or_eq_true, Bool.and_eq_false_iff, Bool.or_eq_false_iff, Bool.not_true, Bool.not_false] at hs7
        refine o_off 21 _ rfl rfl hg6 rfl ?_
        refine o_off 21 _ rfl rfl hg6 rfl ?_
        refine o_off 21 _ rfl rfl hg6 rfl ?_
        refine o_off 21 _ rfl rfl hg6 rfl ?_
        refine o_p (p_pickt rfl rfl hg6 rfl) rfl ?_
        refine o_nil ?_
        exact s_joinN 5 26 _ rfl rfl rfl (fun w h => by first | exact h | exact h.ent aEt)) ?_
    refine o_nil ?_
    refine s_cond rfl (fun h8 => ?_) (fun h8 => ?_)
    · try simp only [decide_eq_true_eq, decide_eq_false_iff_not, Bool.not_eq_true', Bool.not_eq_false', Bool.and_eq_true, Bool.or_eq_true, Bool.and_eq_false_iff, Bool.or_eq_false_iff, Bool.not_true, Bool.not_false] at h8
      refine s_seq ?_
      refine s_region ?_
      refine o_p (p_pure rfl) rfl ?_
      refine o_nil ?_
      exact s_retv (rs := [.tmp 6]) rfl (.tmp rfl (.nil)) (fun w' h' => ⟨by rfl, h'.below⟩)
    · try simp only [decide_eq_true_eq, decide_eq_false_iff_not, Bool.not_eq_true', Bool.not_eq_false', Bool.and_eq_true, Bool.or_eq_true, Bool.and_eq_false_iff, Bool.or_eq_false_iff, Bool.not_true, Bool.not_false] at h8
      have hkl : k0.length ≤ 1000000 ∧ k1.length ≤ 1000000 := by have hq := h8; omega
      refine s_skip ?_
      refine s_seq ?_
      refine s_region ?_
      refine o_p (p_pure rfl) rfl ?_
      refine o_p (p_indexAddr_arr rfl rfl rfl ar_48 (0) (by omega) (by omega)) rfl ?_
      refine o_q (q_load rfl rfl sz_9 aPk rfl) rfl ?_
      refine o_p (p_indexAddr_arr rfl rfl rfl ar_48 (1) (by omega) (by omega)) rfl ?_
      refine o_q (q_load rfl rfl sz_9 aPk rfl) rfl ?_
      refine o_q (q_call rfl fn_28 rfl (fun w1 h1 => c28 w1 co k0 k1 hkl.1 hkl.2)) rfl ?_
      refine o_p (p_pure rfl) rfl ?_
      refine o_p (p_pure rfl) rfl ?_
      refine o_p (p_pure rfl) rfl ?_
      refine o_p (p_pure rfl) rfl ?_
      refine o_p (p_pure rfl) rfl ?_
      refine o_nil ?_
      refine s_seq ?_
      refine s_region ?_
      refine o_p (p_pure rfl) rfl ?_
      refine o_p (p_indexAddr_arr rfl rfl rfl ar_49 (0) (by omega) (by omega)) rfl ?_
      refine o_q (q_load rfl rfl sz_3 aPk rfl) rfl ?_
      refine o_p (p_indexAddr_arr rfl rfl rfl ar_49 (1) (by omega) (by omega)) rfl ?_
      refine o_q (q_load rfl rfl sz_3 aPk rfl) rfl ?_
      refine o_h (h_call rfl fn_29 rfl (fun w1 h1 => c29 w1 co mo rm)) rfl (fun ⟨⟨ga, gc⟩, L⟩ hL => ?_)
      dsimp only
      refine o_p (p_pure rfl) rfl ?_
      refine o_p (p_pure rfl) rfl ?_
      refine o_p (p_pure rfl) rfl ?_
      refine o_h (h_alloc rfl zr_24) rfl (fun b9 _ => ?_)
      refine o_h0 (h_store rfl rfl rfl sz_24 rfl aPt (by show 4 ≤ 4; omega) rfl) (fun _ _ => ?_)
      refine o_p (p_pure rfl) rfl ?_
      refine o_nil ?_
      refine s_seq ?_
      refine s_weaken (L' := [(0, _), (4, _), (5, _), (6, _), (7, _), (8, _), (9, _), (10, _)]) aSx (fun _ h => h) ?_
      refine s_region ?_
      refine o_p (p_pure rfl) rfl ?_
      refine o_q (q_call rfl fn_30 rfl (fun w1 h1 => c30 w1 co)) rfl ?_
      refine o_p (p_pure rfl) rfl ?_
      refine o_nil ?_
      refine s_seq ?_
      refine s_region ?_
      refine o_p (p_pure rfl) rfl ?_
      refine o_p (p_pure rfl) rfl ?_
      refine o_nil ?_
      refine s_seq ?_
      refine s_seq ?_
      refine s_region ?_
      refine o_p (p_pure rfl) rfl ?_
      refine o_p (p_pure rfl) rfl ?_
      refine o_nil ?_
      refine s_cutS (α := Unit) [12, 50, 51, 52, 53, 54] (fun _ => [(12, .int .i64 (siz0 co mo rm))]) (fun _ => True) ?_ ?_
      · skip
        refine s_cond rfl (fun h10 => ?_) (fun h10 => ?_)
        · try simp only [decide_eq_true_eq, decide_eq_false_iff_not, Bool.not_eq_true', Bool.not_eq_false', Bool.and_eq_true, Bool.or_eq_true, Bool.and_eq_false_iff, Bool.or_eq_false_iff, Bool.not_true, Bool.not_false] at h10
          have hcz : colE12 co = 0 := h10
          refine s_region ?_
          refine o_p (p_indexAddr_arr rfl rfl rfl ar_49 (0) (by omega) (by omega)) rfl ?_
          refine o_q (q_load rfl rfl sz_3 aPk rfl) rfl ?_
          refine o_p (p_indexAddr_arr rfl rfl rfl ar_49 (1) (by omega) (by omega)) rfl ?_
          refine o_q (q_load rfl rfl sz_3 aPk rfl) rfl ?_
          refine o_q (q_call rfl fn_31 rfl (fun w1 h1 => c31 w1 mo rm)) rfl ?_
          refine o_p (p_pure rfl) rfl ?_
          refine o_nil ?_
          exact s_joinI () trivial (by rw [show (siz0 co mo rm) = sizE mo rm from if_pos hcz]; exact aSx) (fun w h => h)
        · try simp only [decide_eq_true_eq, decide_eq_false_iff_not, Bool.not_eq_true', Bool.not_eq_false', Bool.and_eq_true, Bool.or_eq_true, Bool.and_eq_false_iff, Bool.or_eq_false_iff, Bool.not_true, Bool.not_false] at h10
          have hcz : ¬ colE12 co = 0 := h10
          refine s_skip ?_
          exact s_joinI () trivial (by rw [show (siz0 co mo rm) = colE12 co from if_neg hcz]; exact aSx) (fun w h => h)
      · intro _ _
        refine s_seq ?_
        refine s_seq ?_
        refine s_cutI (α := Unit) [55, 56, 57, 58, 59, 60, 61, 62, 63, 64, 65, 66, 67, 68, 69, 70, 71, 72, 73, 74, 75, 76, 77, 78, 79, 80, 81, 82, 83, 84, 85, 86] (fun _ => [(86, .bool false)]) (fun _ => HS w [] [.blk b1 48 2 [.string (bs k0), .string (bs k1)]]) (fun _ => True) ?_ ?_
        · skip
          refine s_draw [] mixed ?_
          refine d_p 0 rfl (p_pure rfl) (by kernel_rfl) rfl rfl ?_
          refine d_p 1 rfl (p_pure rfl) (by kernel_rfl) rfl rfl ?_
          refine d_p 2 rfl (p_pure rfl) (by kernel_rfl) rfl rfl ?_
          apply d_split 57
          · exact rfl
          · intro hg11
            have hs12 := hg11; try simp only [decide_eq_true_eq, decide_eq_false_iff_not, Bool.not_eq_true', Bool.not_eq_false', Bool.and_eq_true, Bool.or_eq_true, Bool.and_eq_false_iff, Bool.or_eq_false_iff, Bool.not_true, Bool.not_false] at hs12
            exfalso; exact absurd hg11 (by simp [hE])
          · intro hg13
            have hs14 := hg13; try simp only [decide_eq_true_eq, decide_eq_false_iff_not, Bool.not_eq_true', Bool.not_eq_false', Bool.and_eq_true, Bool.or_eq_true, Bool.and_eq_false_iff, Bool.or_eq_false_iff, Bool.not_true, Bool.not_false] at hs14
            refine d_off 3 57 rfl rfl rfl hg13 (by kernel_rfl) rfl rfl ?_
            refine d_off 4 57 rfl rfl rfl hg13 (by kernel_rfl) rfl rfl ?_
            refine d_off 5 57 rfl rfl rfl hg13 (by kernel_rfl) rfl rfl ?_
            refine d_off 6 57 rfl rfl rfl hg13 (by kernel_rfl) rfl rfl ?_
            refine d_offU 7 61 rfl rfl rfl (by kernel_rfl) rfl rfl ?_
            refine d_offU 8 61 rfl rfl rfl (by kernel_rfl) rfl rfl ?_
            refine d_offU 9 61 rfl rfl rfl (by kernel_rfl) rfl rfl ?_
            refine d_offU 10 61 rfl rfl rfl (by kernel_rfl) rfl rfl ?_
            refine d_off 11 57 rfl rfl rfl hg13 (by kernel_rfl) rfl rfl ?_
            refine d_p 12 rfl (p_pickf rfl rfl hg13 rfl) (by kernel_rfl) rfl rfl ?_
            refine d_p 13 rfl (p_pure rfl) (by kernel_rfl) rfl rfl ?_
            apply d_split 68
            · exact rfl
            · intro hg15
              have hs16 := hg15; try simp only [decide_eq_true_eq, decide_eq_false_iff_not, Bool.not_eq_true', Bool.not_eq_false', Bool.and_eq_true, Bool.or_eq_true, Bool.and_eq_false_iff, Bool.or_eq_false_iff, Bool.not_true, Bool.not_false] at hs16
              exfalso; simp at hg15
            · intro hg17
              have hs18 := hg17; try simp only [decide_eq_true_eq, decide_eq_false_iff_not, Bool.not_eq_true', Bool.not_eq_false', Bool.and_eq_true, Bool.or_eq_true, Bool.and_eq_false_iff, Bool.or_eq_false_iff, Bool.not_true, Bool.not_false] at hs18
              refine d_pon 14 68 rfl rfl rfl hg17 (p_pure rfl) (by kernel_rfl) rfl rfl ?_
              refine d_pon 15 68 rfl rfl rfl hg17 (p_pure rfl) (by kernel_rfl) rfl rfl ?_
              refine d_pon 16 68 rfl rfl rfl hg17 (p_pure rfl) (by kernel_rfl) rfl rfl ?_
              apply d_split 71
              · exact rfl
              · intro hg19
                have hs20 := hg19; try simp only [decide_eq_true_eq, decide_eq_false_iff_not, Bool.not_eq_true', Bool.not_eq_false', Bool.and_eq_true, Bool.or_eq_true, Bool.and_eq_false_iff, Bool.or_eq_false_iff, Bool.not_true, Bool.not_false] at hs20
                refine d_pon 17 71 rfl rfl rfl hg19 (p_pure rfl) (by kernel_rfl) rfl rfl ?_
                refine d_pon 18 71 rfl rfl rfl hg19 (p_pure rfl) (by kernel_rfl) rfl rfl ?_
                refine d_pon 19 71 rfl rfl rfl hg19 (p_pure rfl) (by kernel_rfl) rfl rfl ?_
                apply d_split 74
                · exact rfl
                · intro hg21
                  have hs22 := hg21; try simp only [decide_eq_true_eq, decide_eq_false_iff_not, Bool.not_eq_true', Bool.not_eq_false', Bool.and_eq_true, Bool.or_eq_true, Bool.and_eq_false_iff, Bool.or_eq_false_iff, Bool.not_true, Bool.not_false] at hs22
                  exfalso; exact absurd hg21 (by simp [hE])
                · intro hg23
                  have hs24 := hg23; try simp only [decide_eq_true_eq, decide_eq_false_iff_not, Bool.not_eq_true', Bool.not_eq_false', Bool.and_eq_true, Bool.or_eq_true, Bool.and_eq_false_iff, Bool.or_eq_false_iff, Bool.not_true, Bool.not_false] at hs24
                  refine d_qon 20 74 [] rfl rfl rfl hg23 (q_loadn rfl rfl sz_24 aPk rfl) (by kernel_rfl) (by kernel_rfl) (by kernel_rfl) rfl ?_
                  refine d_slot (show _ = Value.agg #[.int .i64 co, .int .i64 mo, .int .i64 rm, .slice ga L.length gc] from by rw [show setMany _ _ _ = _ from rfl]; simp only [empT_ok hE]; rfl) ?_
                  refine d_pon 21 74 rfl rfl rfl hg23 (p_pure rfl) (by kernel_rfl) rfl rfl ?_
                  refine d_pon 22 74 rfl rfl rfl hg23 (p_indexAddr_arr rfl rfl rfl ar_49 (0) (by omega) (by omega)) (by kernel_rfl) rfl rfl ?_
                  refine d_qon 23 74 [] rfl rfl rfl hg23 (q_load rfl rfl sz_3 aPk rfl) (by kernel_rfl) (by kernel_rfl) (by kernel_rfl) rfl ?_
                  refine d_pon 24 74 rfl rfl rfl hg23 (p_indexAddr_arr rfl rfl rfl ar_49 (1) (by omega) (by omega)) (by kernel_rfl) rfl rfl ?_
                  refine d_qon 25 74 [] rfl rfl rfl hg23 (q_load rfl rfl sz_3 aPk rfl) (by kernel_rfl) (by kernel_rfl) (by kernel_rfl) rfl ?_
                  refine d_hon 26 74 rfl rfl rfl hg23 (h_call rfl fn_32 rfl (fun w1 h1 => c32 w1 co mo rm)) (by kernel_rfl) (fun w h => h.ent aEt) rfl (fun ⟨ge, ce⟩ _ => ?_)
                  refine d_base (fun w h => h.ent aEt) ?_
                  dsimp only
                  refine d_qon 27 74 [] rfl rfl rfl hg23 (q_call rfl fn_21 rfl (fun w1 h1 => c21 w1 co mo rm ga ge gc ce L [(LNd.fre : LNd)] (HS.nt h1 aPk) (HS.nt_one h1 aPk) (by rw [← pln_len, hL, empT_ok hE]; show 1 ≤ 1000; decide) (by decide) (by rw [hL, empT_ok hE]; exact sm_root) sm_root (by rw [hL, empT_ok hE]; rfl))) (by kernel_rfl) (by kernel_rfl) (by kernel_rfl) rfl ?_
                  refine d_pon 28 74 rfl rfl rfl hg23 (p_pure rfl) (by kernel_rfl) rfl rfl ?_
                  refine d_pon 29 71 rfl rfl rfl hg19 (p_pickf rfl rfl hg23 rfl) (by kernel_rfl) rfl rfl ?_
                  refine d_pon 30 68 rfl rfl rfl hg17 (p_pickt rfl rfl hg19 rfl) (by kernel_rfl) rfl rfl ?_
                  refine d_p 31 rfl (p_pickf rfl rfl hg17 rfl) (by kernel_rfl) rfl rfl ?_
                  refine d_nil (by kernel_rfl) (fun w h => by first | exact h | exact h.ent aEt) ?_
                  exact s_joinI () trivial aSx (fun w h => h.ent aEt)
              · intro hg25
                have hs26 := hg25; try simp only [decide_eq_true_eq, decide_eq_false_iff_not, Bool.not_eq_true', Bool.not_eq_false', Bool.and_eq_true, Bool.or_eq_true, Bool.and_eq_false_iff, Bool.or_eq_false_iff, Bool.not_true, Bool.not_false] at hs26
                exfalso; exact absurd hg25 (by simp [hE])
        · intro _ _
          refine s_cond rfl (fun h27 => ?_) (fun h27 => ?_)
          · try simp only [decide_eq_true_eq, decide_eq_false_iff_not, Bool.not_eq_true', Bool.not_eq_false', Bool.and_eq_true, Bool.or_eq_true, Bool.and_eq_false_iff, Bool.or_eq_false_iff, Bool.not_true, Bool.not_false] at h27
            exfalso; simp at h27
          · try simp only [decide_eq_true_eq, decide_eq_false_iff_not, Bool.not_eq_true', Bool.not_eq_false', Bool.and_eq_true, Bool.or_eq_true, Bool.and_eq_false_iff, Bool.or_eq_false_iff, Bool.not_true, Bool.not_false] at h27
            refine s_skip ?_
            refine s_seq ?_
            refine s_seq ?_
            refine s_region ?_
            refine o_p (p_pure rfl) rfl ?_
            refine o_p (p_pure rfl) rfl ?_
            refine o_nil ?_
            refine s_weaken (L' := [(0, _), (4, _), (6, _), (7, _), (8, _), (11, _), (88, _)]) aSx (fun _ h => h) ?_
            refine s_cutS (α := Unit) [11, 89, 90, 91, 92] (fun _ => [(11, .int .i64 (cE1 co k0))]) (fun _ => True) ?_ ?_
            · skip
              refine s_cond rfl (fun h28 => ?_) (fun h28 => ?_)
              · try simp only [decide_eq_true_eq, decide_eq_false_iff_not, Bool.not_eq_true', Bool.not_eq_false', Bool.and_eq_true, Bool.or_eq_true, Bool.and_eq_false_iff, Bool.or_eq_false_iff, Bool.not_true, Bool.not_false] at h28
                have hcy : colE12 co = 0 := h28
                obtain ⟨j, rfl, hj⟩ := col_ok hcy
                refine s_region ?_
                refine o_p (p_pure rfl) rfl ?_
                refine o_p (p_indexAddr_arr rfl rfl rfl ar_48 (0) (by omega) (by omega)) rfl ?_
                refine o_q (q_load rfl rfl sz_9 aPk rfl) rfl ?_
                refine o_q (q_call rfl fn_26 rfl (fun w1 h1 => c26 w1 j k0 hj hkl.1)) rfl ?_
                refine o_p (p_pure rfl) rfl ?_
                refine o_nil ?_
                exact s_joinI () trivial (by rw [show cE1 (j : Int) k0 = keyE (j : Int) k0 from if_pos hcy]; exact aSx) (fun w h => h)
              · try simp only [decide_eq_true_eq, decide_eq_false_iff_not, Bool.not_eq_true', Bool.not_eq_false', Bool.and_eq_true, Bool.or_eq_true, Bool.and_eq_false_iff, Bool.or_eq_false_iff, Bool.not_true, Bool.not_false] at h28
                have hcy : ¬ colE12 co = 0 := h28
                refine s_skip ?_
                exact s_joinI () trivial (by rw [show (cE1 co k0) = colE12 co from if_neg hcy]; exact aSx) (fun w h => h)
            · intro _ _
              refine s_seq ?_
              refine s_seq ?_
              refine s_region ?_
              refine o_p (p_pure rfl) rfl ?_
              refine o_p (p_pure rfl) rfl ?_
              refine o_nil ?_
              refine s_cutS (α := Unit) [11, 95, 96, 97, 98] (fun _ => [(11, .int .i64 (cmpE co k0 k1))]) (fun _ => True) ?_ ?_
              · skip
                refine s_cond rfl (fun h29 => ?_) (fun h29 => ?_)
                · try simp only [decide_eq_true_eq, decide_eq_false_iff_not, Bool.not_eq_true', Bool.not_eq_false', Bool.and_eq_true, Bool.or_eq_true, Bool.and_eq_false_iff, Bool.or_eq_false_iff, Bool.not_true, Bool.not_false] at h29
                  have hcx : (cE1 co k0) = 0 := h29
                  obtain ⟨hcx1, hcx2⟩ := cE1_0 hcx
                  obtain ⟨j, rfl, hj⟩ := col_ok hcx1
                  refine s_region ?_
                  refine o_p (p_pure rfl) rfl ?_
                  refine o_p (p_indexAddr_arr rfl rfl rfl ar_48 (1) (by omega) (by omega)) rfl ?_
                  refine o_q (q_load rfl rfl sz_9 aPk rfl) rfl ?_
                  refine o_q (q_call rfl fn_26 rfl (fun w1 h1 => c26 w1 j k1 hj hkl.2)) rfl ?_
                  refine o_p (p_pure rfl) rfl ?_
                  refine o_nil ?_
                  exact s_joinI () trivial (by rw [cmpE_1, if_pos hcx]; exact aSx) (fun w h => h)
                · try simp only [decide_eq_true_eq, decide_eq_false_iff_not, Bool.not_eq_true', Bool.not_eq_false', Bool.and_eq_true, Bool.or_eq_true, Bool.and_eq_false_iff, Bool.or_eq_false_iff, Bool.not_true, Bool.not_false] at h29
                  have hcx : ¬ (cE1 co k0) = 0 := h29
                  refine s_skip ?_
                  exact s_joinI () trivial (by rw [cmpE_1, if_neg hcx]; exact aSx) (fun w h => h)
              · intro _ _
                refine s_seq ?_
                refine s_seq ?_
                refine s_region ?_
                refine o_p (p_pure rfl) rfl ?_
                refine o_p (p_pure rfl) rfl ?_
                refine o_nil ?_
                refine s_cond rfl (fun h30 => ?_) (fun h30 => ?_)
                · try simp only [decide_eq_true_eq, decide_eq_false_iff_not, Bool.not_eq_true', Bool.not_eq_false', Bool.and_eq_true, Bool.or_eq_true, Bool.and_eq_false_iff, Bool.or_eq_false_iff, Bool.not_true, Bool.not_false] at h30
                  have hcw : ¬ (cmpE co k0 k1) = 0 := h30
                  refine s_seq ?_
                  refine s_region ?_
                  refine o_p (p_pure rfl) rfl ?_
                  refine o_p (p_pure rfl) rfl ?_
                  refine o_p (p_pure rfl) rfl ?_
                  refine o_p (p_pure rfl) rfl ?_
                  refine o_and 3 104 107 _ _ rfl
                    (by
                      intro hg31
                      have hs32 := hg31; try simp only [decide_eq_true_eq, decide_eq_false_iff_not, Bool.not_eq_true', Bool.not_eq_false', Bool.and_eq_true, Bool.or_eq_true, Bool.and_eq_false_iff, Bool.or_eq_false_iff, Bool.not_true, Bool.not_false] at hs32
                      refine o_on 104 _ rfl rfl hg31 ?_
                      refine o_p (p_pure rfl) rfl ?_
                      refine o_on 104 _ rfl rfl hg31 ?_
                      refine o_p (p_pure rfl) rfl ?_
                      refine o_p (p_pickt rfl rfl hg31 rfl) rfl ?_
                      refine o_nil ?_
                      exact s_joinN 3 107 _ rfl rfl rfl (fun w h => by first | exact h | exact h.ent aEt))
                    (by
                      intro hg33
                      have hs34 := hg33; try simp only [decide_eq_true_eq, decide_eq_false_iff_not, Bool.not_eq_true', Bool.not_eq_false', Bool.and_eq_true, Bool.or_eq_true, Bool.and_eq_false_iff, Bool.or_eq_false_iff, Bool.not_true, Bool.not_false] at hs34
                      refine o_off 104 _ rfl rfl hg33 rfl ?_
                      refine o_off 104 _ rfl rfl hg33 rfl ?_
                      refine o_p (p_pickf rfl rfl hg33 rfl) rfl ?_
                      refine o_nil ?_
                      exact s_joinN 3 107 _ rfl rfl rfl (fun w h => by first | exact h | exact h.ent aEt)) ?_
                  refine o_p (p_pure rfl) rfl ?_
                  refine o_nil ?_
                  exact s_retv (rs := [.tmp 6]) rfl (.tmp rfl (.nil)) (fun w' h' => ⟨by simp only [retV]; simp [hcw], h'.below⟩)
                · try simp only [decide_eq_true_eq, decide_eq_false_iff_not, Bool.not_eq_true', Bool.not_eq_false', Bool.and_eq_true, Bool.or_eq_true, Bool.and_eq_false_iff, Bool.or_eq_false_iff, Bool.not_true, Bool.not_false] at h30
                  have hcw : (cmpE co k0 k1) = 0 := by have hq := h30; omega
                  have hcw2 := cmpE_swap hcw
                  have hcv := hcw
                  rw [cmpE_1] at hcv
                  have hcu : (cE1 co k0) = 0 := by by_cases h9 : (cE1 co k0) = 0; exact h9; rw [if_neg h9] at hcv; exact absurd hcv h9
                  rw [if_pos hcu] at hcv
                  obtain ⟨hcx1, hcx2⟩ := cE1_0 hcu
                  obtain ⟨j, rfl, hj⟩ := col_ok hcx1
                  refine s_skip ?_
                  refine s_seq ?_
                  refine s_region ?_
                  refine o_p (p_pure rfl) rfl ?_
                  refine o_p (p_indexAddr_arr rfl rfl rfl ar_48 (1) (by omega) (by omega)) rfl ?_
                  refine o_q (q_load rfl rfl sz_9 aPk rfl) rfl ?_
                  refine o_p (p_indexAddr_arr rfl rfl rfl ar_48 (0) (by omega) (by omega)) rfl ?_
                  refine o_q (q_load rfl rfl sz_9 aPk rfl) rfl ?_
                  refine o_q (q_call rfl fn_28 rfl (fun w1 h1 => c28 w1 (j : Int) k1 k0 hkl.2 hkl.1)) rfl ?_
                  refine o_p (p_pure rfl) rfl ?_
                  refine o_p (p_pure rfl) rfl ?_
                  refine o_p (p_pure rfl) rfl ?_
                  refine o_p (p_pure rfl) rfl ?_
                  refine o_p (p_pure rfl) rfl ?_
                  refine o_nil ?_
                  refine s_seq ?_
                  refine s_region ?_
                  refine o_p (p_pure rfl) rfl ?_
                  refine o_p (p_pure rfl) rfl ?_
                  refine o_p (p_pure rfl) rfl ?_
                  refine o_and 9 119 128 _ _ rfl
                    (by
                      intro hg35
                      have hs36 := hg35; try simp only [decide_eq_true_eq, decide_eq_false_iff_not, Bool.not_eq_true', Bool.not_eq_false', Bool.and_eq_true, Bool.or_eq_true, Bool.and_eq_false_iff, Bool.or_eq_false_iff, Bool.not_true, Bool.not_false] at hs36
                      refine o_on 119 _ rfl rfl hg35 ?_
                      refine o_p (p_pure rfl) rfl ?_
                      refine o_on 119 _ rfl rfl hg35 ?_
                      refine o_p (p_pure rfl) rfl ?_
                      refine o_on 119 _ rfl rfl hg35 ?_
                      refine o_p (p_indexAddr_arr rfl rfl rfl ar_48 (0) (by omega) (by omega)) rfl ?_
                      refine o_on 119 _ rfl rfl hg35 ?_
                      refine o_q (q_load rfl rfl sz_9 aPk rfl) rfl ?_
                      refine o_on 119 _ rfl rfl hg35 ?_
                      refine o_p (p_indexAddr_arr rfl rfl rfl ar_48 (1) (by omega) (by omega)) rfl ?_
                      refine o_on 119 _ rfl rfl hg35 ?_
                      refine o_q (q_load rfl rfl sz_9 aPk rfl) rfl ?_
                      refine o_on 119 _ rfl rfl hg35 ?_
                      refine o_q (q_call rfl fn_33 rfl (fun w1 h1 => c33 w1 j k0 k1 hj (keyE_ok hcx2) (keyE_ok hcv) hkl.1 hkl.2)) rfl ?_
                      refine o_on 119 _ rfl rfl hg35 ?_
                      refine o_p (p_pure rfl) rfl ?_
                      refine o_p (p_pickt rfl rfl hg35 rfl) rfl ?_
                      refine o_nil ?_
                      exact s_joinN 9 128 _ rfl rfl rfl (fun w h => by first | exact h | exact h.ent aEt))
                    (by
                      intro hg37
                      have hs38 := hg37; try simp only [decide_eq_true_eq, decide_eq_false_iff_not, Bool.not_eq_true', Bool.not_eq_false', Bool.and_eq_true, Bool.or_eq_true, Bool.and_eq_false_iff, Bool.or_eq_false_iff, Bool.not_true, Bool.not_false] at hs38
                      refine o_off 119 _ rfl rfl hg37 rfl ?_
                      refine o_off 119 _ rfl rfl hg37 rfl ?_
                      refine o_off 119 _ rfl rfl hg37 rfl ?_
                      refine o_off 119 _ rfl rfl hg37 rfl ?_
                      refine o_off 119 _ rfl rfl hg37 rfl ?_
                      refine o_off 119 _ rfl rfl hg37 rfl ?_
                      refine o_off 119 _ rfl rfl hg37 rfl ?_
                      refine o_off 119 _ rfl rfl hg37 rfl ?_
                      refine o_p (p_pickf rfl rfl hg37 rfl) rfl ?_
                      refine o_nil ?_
                      exact s_joinN 9 128 _ rfl rfl rfl (fun w h => by first | exact h | exact h.ent aEt)) ?_
                  refine o_p (p_pure rfl) rfl ?_
                  refine o_and 3 129 132 _ _ rfl
                    (by
                      intro hg39
                      have hs40 := hg39; try simp only [decide_eq_true_eq, decide_eq_false_iff_not, Bool.not_eq_true', Bool.not_eq_false', Bool.and_eq_true, Bool.or_eq_true, Bool.and_eq_false_iff, Bool.or_eq_false_iff, Bool.not_true, Bool.not_false] at hs40
                      refine o_on 129 _ rfl rfl hg39 ?_
                      refine o_p (p_pure rfl) rfl ?_
                      refine o_on 129 _ rfl rfl hg39 ?_
                      refine o_p (p_pure rfl) rfl ?_
                      refine o_p (p_pickt rfl rfl hg39 rfl) rfl ?_
                      refine o_nil ?_
                      exact s_joinN 3 132 _ rfl rfl rfl (fun w h => by first | exact h | exact h.ent aEt))
                    (by
                      intro hg41
                      have hs42 := hg41; try simp only [decide_eq_true_eq, decide_eq_false_iff_not, Bool.not_eq_true', Bool.not_eq_false', Bool.and_eq_true, Bool.or_eq_true, Bool.and_eq_false_iff, Bool.or_eq_false_iff, Bool.not_true, Bool.not_false] at hs42
                      refine o_off 129 _ rfl rfl hg41 rfl ?_
                      refine o_off 129 _ rfl rfl hg41 rfl ?_
                      refine o_p (p_pickf rfl rfl hg41 rfl) rfl ?_
                      refine o_nil ?_
                      exact s_joinN 3 132 _ rfl rfl rfl (fun w h => by first | exact h | exact h.ent aEt)) ?_
                  refine o_p (p_pure rfl) rfl ?_
                  refine o_and 5 133 138 _ _ rfl
                    (by
                      intro hg43
                      have hs44 := hg43; try simp only [decide_eq_true_eq, decide_eq_false_iff_not, Bool.not_eq_true', Bool.not_eq_false', Bool.and_eq_true, Bool.or_eq_true, Bool.and_eq_false_iff, Bool.or_eq_false_iff, Bool.not_true, Bool.not_false] at hs44
                      refine o_on 133 _ rfl rfl hg43 ?_
                      refine o_p (p_pure rfl) rfl ?_
                      refine o_on 133 _ rfl rfl hg43 ?_
                      refine o_p (p_pure rfl) rfl ?_
                      refine o_on 133 _ rfl rfl hg43 ?_
                      refine o_p (p_pure rfl) rfl ?_
                      try (refine o_slot (i64w (by omega) (by omega)) ?_)
                      refine o_on 133 _ rfl rfl hg43 ?_
                      refine o_p (p_pure rfl) rfl ?_
                      refine o_p (p_pickt rfl rfl hg43 rfl) rfl ?_
                      refine o_nil ?_
                      exact s_joinN 5 138 _ rfl rfl rfl (fun w h => by first | exact h | exact h.ent aEt))
                    (by
                      intro hg45
                      have hs46 := hg45; try simp only [decide_eq_true_eq, decide_eq_false_iff_not, Bool.not_eq_true', Bool.not_eq_false', Bool.and_eq_true, Bool.or_eq_true, Bool.and_eq_false_iff, Bool.or_eq_false_iff, Bool.not_true, Bool.not_false] at hs46
                      refine o_off 133 _ rfl rfl hg45 rfl ?_
                      refine o_off 133 _ rfl rfl hg45 rfl ?_
                      refine o_off 133 _ rfl rfl hg45 rfl ?_
                      refine o_off 133 _ rfl rfl hg45 rfl ?_
                      refine o_p (p_pickf rfl rfl hg45 rfl) rfl ?_
                      refine o_nil ?_
                      exact s_joinN 5 138 _ rfl rfl rfl (fun w h => by first | exact h | exact h.ent aEt)) ?_
                  refine o_p (p_pure rfl) rfl ?_
                  refine o_nil ?_
                  exact s_retv (rs := [.tmp 6]) rfl (.tmp rfl (.nil)) (fun w' h' => ⟨by simp only [retV]; have hsw := cmpK_swap (j : Int) k0 k1; simp [hcw, hcw2, hsw]; rcases cmpK_rng (j : Int) k0 k1 with e | e | e <;> rw [e] <;> decide, h'.below⟩)

theorem c5 (w : World) (co mo rm : Int) (k0 k1 : List UInt8) : Calls Tryz.prog 5 #[.int .i64 co, .agg #[.string (bs k0), .string (bs k1)], .agg #[.int .i64 mo, .int .i64 rm]] w fun en w' => en = .returned (.bool true) ∧ Below w.heap.size w w' := by
  by_cases h : siz0 co mo rm = 0
  · exact c5b w co mo rm k0 k1 h
  · exact c5a w co mo rm k0 k1 h

end Go.Proofs

