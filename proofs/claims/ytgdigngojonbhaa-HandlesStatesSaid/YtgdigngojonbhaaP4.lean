/- Contracts of the program's functions, proved by walking them with the rules of the Gx texts; without conditions beyond those that each contract names. -/
import Derived.WalkKit
import Derived.Deep.Draws
import Derived.Lib.Strings
import Derived.Laws.BytesArg
import Derived.Laws.IdiomStrings
import Derived.Deep.Quiet
import Derived.Laws.StructEq
import Derived.ChangeKeysEq
import Derived.Laws.Externs
import Derived.Lib.Overlaps
import Derived.Carry
import Derived.Laws.Small
import Derived.Test.YtgdigngojonbhaaProg
import Derived.KernelRfl
import Derived.ProofKit
import Derived.OpenShut
import Derived.Test.YtgdigngojonbhaaP3
namespace Go.Proofs
open Go Go.RowKit Gx
set_option linter.unusedVariables false
set_option linter.unusedSimpArgs false
attribute [local irreducible] Go.Calls Gx.S Gx.O Gx.D Gx.OpP Gx.OpQ Gx.OpH



set_option maxRecDepth 20000 in
set_option maxHeartbeats 2000000 in
theorem c45 (w : World) (next : Int) (a : Option Addr) (cap : Nat) (L : List LFil) (rc sq : Int) (hs : Ft w [] a L) (hm : L.length ≤ 1000) (hmo : ∀ f ∈ L, f.op.length ≤ 1000) (h0 : (fErr next (pls L) rc sq) = 0) : Calls Try.prog 45 #[.agg #[.int .i64 next, .slice a L.length cap], .agg #[.int .i64 rc, .int .i64 sq]] w fun en w' => en = .returned (.agg #[.bool (nth (pls L) (bsL (cmps (pls L) rc sq))).pd, .int .i64 ((nth (pls L) (bsL (cmps (pls L) rc sq))).op.length : Int), .int .i64 (orA (nth (pls L) (bsL (cmps (pls L) rc sq))).op), .int .i64 (anS (nth (pls L) (bsL (cmps (pls L) rc sq))).op)]) ∧ Below w.heap.size w w' := by
  obtain ⟨hz, hr, hb, hp, hix⟩ := fErr_f h0
  have hpp := nth_pls hp
  obtain ⟨hf0, hf32, hfV⟩ := file_V (f := nth L (bsL (cmps (pls L) rc sq))) (chk_ok hz) (by simpa using hp) hpp.symm
  refine enter (args := [_, _]) Try.func45 Try.ntmps45 rfl rfl (HS.refl w []) ?_
  refine s_seq ?_
  refine s_region ?_
  refine o_h (h_box rfl rfl) rfl (fun b1 _ => ?_)
  refine o_h (h_box rfl rfl) rfl (fun b2 _ => ?_)
  refine o_h (h_alloc rfl zr_92) rfl (fun b3 _ => ?_)
  refine o_nil ?_
  refine s_seq ?_
  refine s_draw [8] mixed ?_
  refine d_p 0 rfl (p_fieldAddr rfl rfl fd_26_1 sz_24 rfl) (by kernel_rfl) rfl rfl ?_
  refine d_q 1 [[]] rfl (q_load rfl rfl sz_24 aPk rfl) (by kernel_rfl) (by kernel_rfl) (by kernel_rfl) rfl ?_
  refine d_q 2 [[]] rfl (q_loadn rfl rfl sz_26 aPk rfl) (by kernel_rfl) (by kernel_rfl) (by kernel_rfl) rfl ?_
  refine d_q 3 [[]] rfl (q_loadn rfl rfl sz_42 aPk rfl) (by kernel_rfl) (by kernel_rfl) (by kernel_rfl) rfl ?_
  refine d_q 4 [[]] rfl (q_call rfl fn_33 rfl (fun w1 h1 => c33 w1 next a cap L rc sq (hs.later h1) hm hmo)) (by kernel_rfl) (by kernel_rfl) (by kernel_rfl) rfl ?_
  rw [hix]
  refine d_p 5 rfl (p_indexAddr rfl rfl rfl sl_24 ((bsL (cmps (pls L) rc sq))) (by omega) (by omega) (Rw.some hs.1 (by omega))) (by kernel_rfl) rfl rfl ?_
  refine d_q 6 [[]] rfl (q_load_oldn _ rfl rfl sz_77 rfl (Rw.rd hs.1 hp)) (by kernel_rfl) (by kernel_rfl) (by kernel_rfl) rfl ?_
  refine d_h 7 rfl (h_alloc rfl zr_77) (by kernel_rfl) (fun w h => h.ent aEt) rfl (fun b4 _ => ?_)
  refine d_base (fun w h => h.ent aEt) ?_
  refine d_h0 8 rfl (h_store rfl rfl rfl sz_77 rfl aPt (by simp only [setMany_length, List.length_set, List.length_cons, List.length_nil, List.length_map]; omega) rfl) (by kernel_rfl) (fun w h => h.ent aEt) (fun _ _ => ?_)
  refine d_turn [] (by kernel_rfl) ?_
  refine d_nil (by kernel_rfl) (fun w h => h.ent aEt) ?_
  refine s_seq ?_
  refine s_region ?_
  refine o_p (p_fieldAddr rfl rfl fd_77_1 sz_4 rfl) rfl ?_
  refine o_q (q_load rfl rfl sz_4 aPk rfl) rfl ?_
  refine o_p (p_fieldAddr rfl rfl fd_77_2 sz_75 rfl) rfl ?_
  refine o_q (q_load rfl rfl sz_75 aPk rfl) rfl ?_
  refine o_p (p_len_slice rfl rfl Try.underlying75) rfl ?_
  refine o_p (p_build (cs := [_, _, _, _]) rfl rfl pl_92 zr_92 rfl) rfl ?_
  refine o_h (h_alloc rfl zr_92) rfl (fun b5 _ => ?_)
  refine o_h0 (h_store rfl rfl rfl sz_92 rfl aPt (by simp only [setMany_length, List.length_set, List.length_cons, List.length_nil, List.length_map]; omega) rfl) (fun _ _ => ?_)
  refine o_nil ?_
  refine s_seq ?_
  refine s_seq ?_
  refine s_region ?_
  refine o_p (p_pure rfl) rfl ?_
  refine o_nil ?_
  refine s_block ?_
  refine s_weaken (L' := [(4, _), (5, _), (6, _), (7, _)]) aSx (fun _ h => h) ?_
  refine s_loopI (α := Nat) [7, 8, 9, 10, 24, 25, 26, 27, 28, 29, 30, 31, 32, 33, 34, 35, 36, 37, 38, 39, 40, 41, 42, 43, 44, 45, 46, 47, 48, 49, 50, 51, 52, 53, 54, 55, 56, 57, 58, 59, 60, 61, 62, 63, 64, 65, 66, 67, 68, 69, 70, 71, 72] (fun j => [(7, .int .i64 (pk3 j))]) (fun j => HS w [] [.blk b5 92 4 [.bool (nth L (bsL (cmps (pls L) rc sq))).pd, .int .i64 ((nth L (bsL (cmps (pls L) rc sq))).op.length : Int), .int .i64 (pbI (anyA (plo (nth L (bsL (cmps (pls L) rc sq))).op)) j), .int .i64 (pbI (allS (plo (nth L (bsL (cmps (pls L) rc sq))).op)) j)], .blk b4 77 4 [.int .i64 (nth L (bsL (cmps (pls L) rc sq))).rc, .int .i64 (nth L (bsL (cmps (pls L) rc sq))).sq, .bool (nth L (bsL (cmps (pls L) rc sq))).pd, .slice (nth L (bsL (cmps (pls L) rc sq))).oa (nth L (bsL (cmps (pls L) rc sq))).op.length (nth L (bsL (cmps (pls L) rc sq))).oc], .blk b3 92 4 [.bool false, .int .i64 0, .int .i64 0, .int .i64 0], .blk b1 26 2 [.int .i64 next, .slice a L.length cap], .blk b2 42 2 [.int .i64 rc, .int .i64 sq]]) (fun j => j ≤ 3) (fun j => 3 - j) 0 (by simp) aSx (fun w h => h.ent aEt) (fun j hj => ?_)
  rcases j with _ | _ | _ | _ | j
  · skip
    refine s_seq ?_
    refine s_seq ?_
    refine s_region ?_
    refine o_p (p_pure rfl) rfl ?_
    refine o_p (p_pure rfl) rfl ?_
    refine o_nil ?_
    refine s_cond rfl (fun h6 => ?_) (fun h6 => ?_)
    · try simp only [decide_eq_true_eq, decide_eq_false_iff_not, Bool.not_eq_true', Bool.not_eq_false', Bool.and_eq_true, Bool.or_eq_true, Bool.and_eq_false_iff, Bool.or_eq_false_iff, Bool.not_true, Bool.not_false] at h6
      refine s_skip ?_
      refine s_seq ?_
      refine s_block ?_
      refine s_seq ?_
      refine s_region ?_
      refine o_p (p_pure rfl) rfl ?_
      refine o_p (p_pure rfl) rfl ?_
      refine o_nil ?_
      refine s_seq ?_
      refine s_seq ?_
      refine s_region ?_
      refine o_p (p_pure rfl) rfl ?_
      refine o_nil ?_
      refine s_block ?_
      refine s_loopI (α := Nat) [8, 9, 10, 28, 29, 30, 31, 32, 33, 34, 35, 36, 37, 38, 39, 40, 41, 42, 43, 44, 45, 46, 47, 48, 49, 50, 51, 52, 53, 54, 55, 56] (fun k => [(10, .int .i64 (k : Int)), (8, .bool (anyA ((plo (nth L (bsL (cmps (pls L) rc sq))).op).take k) 1)), (9, .bool (allS ((plo (nth L (bsL (cmps (pls L) rc sq))).op).take k) 1))]) (fun _ => _) (fun k => k ≤ (nth L (bsL (cmps (pls L) rc sq))).op.length) (fun k => (nth L (bsL (cmps (pls L) rc sq))).op.length - k) 0 (Nat.zero_le _) aSx (fun w h => h) (fun k hk1 => ?_)
      refine s_seq ?_
      refine s_seq ?_
      refine s_region ?_
      refine o_p (p_pure rfl) rfl ?_
      refine o_p (p_fieldAddr rfl rfl fd_77_2 sz_75 rfl) rfl ?_
      refine o_q (q_load rfl rfl sz_75 aPk rfl) rfl ?_
      refine o_p (p_len_slice rfl rfl Try.underlying75) rfl ?_
      refine o_p (p_pure rfl) rfl ?_
      refine o_nil ?_
      refine s_cond rfl (fun h7 => ?_) (fun h7 => ?_)
      · try simp only [decide_eq_true_eq, decide_eq_false_iff_not, Bool.not_eq_true', Bool.not_eq_false', Bool.and_eq_true, Bool.or_eq_true, Bool.and_eq_false_iff, Bool.or_eq_false_iff, Bool.not_true, Bool.not_false] at h7
        have hk : k < (nth L (bsL (cmps (pls L) rc sq))).op.length := by omega
        obtain ⟨hv1, hv2, hv3⟩ := hfV k hk
        have e1 : anyA ((plo (nth L (bsL (cmps (pls L) rc sq))).op).take (k + 1)) 1 = (anyA ((plo (nth L (bsL (cmps (pls L) rc sq))).op).take k) 1 || hasB (nth (nth L (bsL (cmps (pls L) rc sq))).op k).ac 1) := by rw [take_succ_nth (by simpa using hk), anyA_app, nth_plo hk]; rfl
        have e2 : allS ((plo (nth L (bsL (cmps (pls L) rc sq))).op).take (k + 1)) 1 = (allS ((plo (nth L (bsL (cmps (pls L) rc sq))).op).take k) 1 && hasB (nth (nth L (bsL (cmps (pls L) rc sq))).op k).sh 1) := by rw [take_succ_nth (by simpa using hk), allS_app, nth_plo hk]; rfl
        refine s_skip ?_
        refine s_seq ?_
        refine s_block ?_
        refine s_seq ?_
        refine s_region ?_
        refine o_p (p_pure rfl) rfl ?_
        refine o_p (p_pure rfl) rfl ?_
        refine o_or 9 36 45 _ _ rfl
          (by
            intro hg8
            have hs9 := hg8; try simp only [decide_eq_true_eq, decide_eq_false_iff_not, Bool.not_eq_true', Bool.not_eq_false', Bool.and_eq_true, Bool.or_eq_true, Bool.and_eq_false_iff, Bool.or_eq_false_iff, Bool.not_true, Bool.not_false] at hs9
            refine o_on 36 _ rfl rfl hg8 ?_
            refine o_p (p_fieldAddr rfl rfl fd_77_2 sz_75 rfl) rfl ?_
            refine o_on 36 _ rfl rfl hg8 ?_
            refine o_q (q_load rfl rfl sz_75 aPk rfl) rfl ?_
            refine o_on 36 _ rfl rfl hg8 ?_
            refine o_p (p_pure rfl) rfl ?_
            refine o_on 36 _ rfl rfl hg8 ?_
            refine o_p (p_indexAddr rfl rfl rfl sl_75 (k) (by omega) (by omega) (Rw.some (hs.at hp).1 (by omega))) rfl ?_
            refine o_on 36 _ rfl rfl hg8 ?_
            refine o_p (p_fieldAddr rfl rfl fd_48_1 sz_3 rfl) rfl ?_
            refine o_on 36 _ rfl rfl hg8 ?_
            refine o_q (q_load_old rfl rfl sz_3 (((hs.at hp).1.rdj 1 hk rfl))) rfl ?_
            refine o_on 36 _ rfl rfl hg8 ?_
            refine o_p (p_pure rfl) rfl ?_
            refine o_on 36 _ rfl rfl hg8 ?_
            refine o_q (q_call rfl fn_71 rfl (fun w1 h1 => c71 w1 _ 1 hv1 (by simp))) rfl ?_
            refine o_p (p_pickf rfl rfl hg8 rfl) rfl ?_
            refine o_nil ?_
            exact s_joinN 9 45 _ rfl rfl rfl (fun w h => by first | exact h | exact h.ent aEt))
          (by
            intro hg10
            have hs11 := hg10; try simp only [decide_eq_true_eq, decide_eq_false_iff_not, Bool.not_eq_true', Bool.not_eq_false', Bool.and_eq_true, Bool.or_eq_true, Bool.and_eq_false_iff, Bool.or_eq_false_iff, Bool.not_true, Bool.not_false] at hs11
            refine o_off 36 _ rfl rfl hg10 rfl ?_
            refine o_off 36 _ rfl rfl hg10 rfl ?_
            refine o_off 36 _ rfl rfl hg10 rfl ?_
            refine o_off 36 _ rfl rfl hg10 rfl ?_
            refine o_off 36 _ rfl rfl hg10 rfl ?_
            refine o_off 36 _ rfl rfl hg10 rfl ?_
            refine o_off 36 _ rfl rfl hg10 rfl ?_
            refine o_off 36 _ rfl rfl hg10 rfl ?_
            refine o_p (p_pickt rfl rfl hg10 rfl) rfl ?_
            refine o_nil ?_
            exact s_joinN 9 45 _ rfl rfl rfl (fun w h => by first | exact h | exact h.ent aEt)) ?_
        refine o_p (p_pure rfl) rfl ?_
        refine o_nil ?_
        refine s_region ?_
        refine o_p (p_pure rfl) rfl ?_
        refine o_p (p_pure rfl) rfl ?_
        refine o_and 9 47 56 _ _ rfl
          (by
            intro hg12
            have hs13 := hg12; try simp only [decide_eq_true_eq, decide_eq_false_iff_not, Bool.not_eq_true', Bool.not_eq_false', Bool.and_eq_true, Bool.or_eq_true, Bool.and_eq_false_iff, Bool.or_eq_false_iff, Bool.not_true, Bool.not_false] at hs13
            refine o_on 47 _ rfl rfl hg12 ?_
            refine o_p (p_fieldAddr rfl rfl fd_77_2 sz_75 rfl) rfl ?_
            refine o_on 47 _ rfl rfl hg12 ?_
            refine o_q (q_load rfl rfl sz_75 aPk rfl) rfl ?_
            refine o_on 47 _ rfl rfl hg12 ?_
            refine o_p (p_pure rfl) rfl ?_
            refine o_on 47 _ rfl rfl hg12 ?_
            refine o_p (p_indexAddr rfl rfl rfl sl_75 (k) (by omega) (by omega) (Rw.some (hs.at hp).1 (by omega))) rfl ?_
            refine o_on 47 _ rfl rfl hg12 ?_
            refine o_p (p_fieldAddr rfl rfl fd_48_2 sz_3 rfl) rfl ?_
            refine o_on 47 _ rfl rfl hg12 ?_
            refine o_q (q_load_old rfl rfl sz_3 (((hs.at hp).1.rdj 2 hk rfl))) rfl ?_
            refine o_on 47 _ rfl rfl hg12 ?_
            refine o_p (p_pure rfl) rfl ?_
            refine o_on 47 _ rfl rfl hg12 ?_
            refine o_q (q_call rfl fn_71 rfl (fun w1 h1 => c71 w1 _ 1 hv2 (by simp))) rfl ?_
            refine o_p (p_pickt rfl rfl hg12 rfl) rfl ?_
            refine o_nil ?_
            exact s_joinN 9 56 _ rfl rfl rfl (fun w h => by first | exact h | exact h.ent aEt))
          (by
            intro hg14
            have hs15 := hg14; try simp only [decide_eq_true_eq, decide_eq_false_iff_not, Bool.not_eq_true', Bool.not_eq_false', Bool.and_eq_true, Bool.or_eq_true, Bool.and_eq_false_iff, Bool.or_eq_false_iff, Bool.not_true, Bool.not_false] at hs15
            refine o_off 47 _ rfl rfl hg14 rfl ?_
            refine o_off 47 _ rfl rfl hg14 rfl ?_
            refine o_off 47 _ rfl rfl hg14 rfl ?_
            refine o_off 47 _ rfl rfl hg14 rfl ?_
            refine o_off 47 _ rfl rfl hg14 rfl ?_
            refine o_off 47 _ rfl rfl hg14 rfl ?_
            refine o_off 47 _ rfl rfl hg14 rfl ?_
            refine o_off 47 _ rfl rfl hg14 rfl ?_
            refine o_p (p_pickf rfl rfl hg14 rfl) rfl ?_
            refine o_nil ?_
            exact s_joinN 9 56 _ rfl rfl rfl (fun w h => by first | exact h | exact h.ent aEt)) ?_
        refine o_p (p_pure rfl) rfl ?_
        refine o_nil ?_
        refine s_blk ?_
        refine s_region ?_
        refine o_p (p_pure rfl) rfl ?_
        refine o_p (p_pure rfl) rfl ?_
        try (refine o_slot (i64w (by omega) (by omega)) ?_)
        refine o_p (p_pure rfl) rfl ?_
        refine o_nil ?_
        exact s_backI (k + 1) (by omega) (by omega) (by (try dsimp only); rw [e1, e2]; exact aSx) (fun w h => h)
      · try simp only [decide_eq_true_eq, decide_eq_false_iff_not, Bool.not_eq_true', Bool.not_eq_false', Bool.and_eq_true, Bool.or_eq_true, Bool.and_eq_false_iff, Bool.or_eq_false_iff, Bool.not_true, Bool.not_false] at h7
        have ek : k = (plo (nth L (bsL (cmps (pls L) rc sq))).op).length := by simp; omega
        rw [ek, List.take_length]
        refine s_exit_to rfl ?_
        refine s_seq ?_
        refine s_draw [8] mixed ?_
        refine d_p 0 rfl (p_fieldAddr rfl rfl fd_92_2 sz_3 rfl) (by kernel_rfl) rfl rfl ?_
        refine d_q 1 [[]] rfl (q_load rfl rfl sz_3 aPk rfl) (by kernel_rfl) (by kernel_rfl) (by kernel_rfl) rfl ?_
        refine d_p 2 rfl (p_pure rfl) (by kernel_rfl) rfl rfl ?_
        refine d_p 3 rfl (p_pure rfl) (by kernel_rfl) rfl rfl ?_
        refine d_q 4 [[]] rfl (q_call rfl fn_89 rfl (fun w1 h1 => c89 w1 _)) (by kernel_rfl) (by kernel_rfl) (by kernel_rfl) rfl ?_
        refine d_p 5 rfl (p_pure rfl) (by kernel_rfl) rfl rfl ?_
        try (refine d_slot (i64w (by omega) (by omega)) ?_)
        refine d_p 6 rfl (p_pure rfl) (by kernel_rfl) rfl rfl ?_
        try (refine d_slot (i64w (by omega) (by omega)) ?_)
        refine d_slot (show _ = Value.int .i64 (pbI (anyA (plo (nth L (bsL (cmps (pls L) rc sq))).op)) 1) from by simp only [pbI, bitsI]; congr 1; generalize anyA (plo (nth L (bsL (cmps (pls L) rc sq))).op) 1 = x1; generalize anyA (plo (nth L (bsL (cmps (pls L) rc sq))).op) 2 = x2; generalize anyA (plo (nth L (bsL (cmps (pls L) rc sq))).op) 4 = x4; cases x1 <;> cases x2 <;> cases x4 <;> decide) ?_
        refine d_p 7 rfl (p_fieldAddr rfl rfl fd_92_2 sz_3 rfl) (by kernel_rfl) rfl rfl ?_
        refine d_h0 8 rfl (h_store rfl rfl rfl sz_3 rfl aPt (by simp only [setMany_length, List.length_set, List.length_cons, List.length_nil, List.length_map]; omega) rfl) (by kernel_rfl) (fun w h => h.ent aEt) (fun _ _ => ?_)
        refine d_turn [] (by kernel_rfl) ?_
        refine d_nil (by kernel_rfl) (fun w h => h.ent aEt) ?_
        refine s_draw [8] mixed ?_
        refine d_p 0 rfl (p_fieldAddr rfl rfl fd_92_3 sz_3 rfl) (by kernel_rfl) rfl rfl ?_
        refine d_q 1 [[]] rfl (q_load rfl rfl sz_3 aPk rfl) (by kernel_rfl) (by kernel_rfl) (by kernel_rfl) rfl ?_
        refine d_p 2 rfl (p_pure rfl) (by kernel_rfl) rfl rfl ?_
        refine d_p 3 rfl (p_pure rfl) (by kernel_rfl) rfl rfl ?_
        refine d_q 4 [[]] rfl (q_call rfl fn_89 rfl (fun w1 h1 => c89 w1 _)) (by kernel_rfl) (by kernel_rfl) (by kernel_rfl) rfl ?_
        refine d_p 5 rfl (p_pure rfl) (by kernel_rfl) rfl rfl ?_
        try (refine d_slot (i64w (by omega) (by omega)) ?_)
        refine d_p 6 rfl (p_pure rfl) (by kernel_rfl) rfl rfl ?_
        try (refine d_slot (i64w (by omega) (by omega)) ?_)
        refine d_slot (show _ = Value.int .i64 (pbI (allS (plo (nth L (bsL (cmps (pls L) rc sq))).op)) 1) from by simp only [pbI, bitsI]; congr 1; generalize allS (plo (nth L (bsL (cmps (pls L) rc sq))).op) 1 = x1; generalize allS (plo (nth L (bsL (cmps (pls L) rc sq))).op) 2 = x2; generalize allS (plo (nth L (bsL (cmps (pls L) rc sq))).op) 4 = x4; cases x1 <;> cases x2 <;> cases x4 <;> decide) ?_
        refine d_p 7 rfl (p_fieldAddr rfl rfl fd_92_3 sz_3 rfl) (by kernel_rfl) rfl rfl ?_
        refine d_h0 8 rfl (h_store rfl rfl rfl sz_3 rfl aPt (by simp only [setMany_length, List.length_set, List.length_cons, List.length_nil, List.length_map]; omega) rfl) (by kernel_rfl) (fun w h => h.ent aEt) (fun _ _ => ?_)
        refine d_turn [] (by kernel_rfl) ?_
        refine d_nil (by kernel_rfl) (fun w h => h.ent aEt) ?_
        refine s_blk ?_
        refine s_weaken (L' := [(4, _), (5, _), (6, _), (7, _), (8, _), (9, _), (10, _), (24, _), (25, _)]) aSx (fun _ h => h) ?_
        refine s_region ?_
        refine o_p (p_pure rfl) rfl ?_
        refine o_p (p_pure rfl) rfl ?_
        try (refine o_slot (i64w (by omega) (by omega)) ?_)
        refine o_p (p_pure rfl) rfl ?_
        refine o_nil ?_
        exact s_backI 1 (by omega) (by omega) aSx (fun w h => h.ent aEt)
    · try simp only [decide_eq_true_eq, decide_eq_false_iff_not, Bool.not_eq_true', Bool.not_eq_false', Bool.and_eq_true, Bool.or_eq_true, Bool.and_eq_false_iff, Bool.or_eq_false_iff, Bool.not_true, Bool.not_false] at h6
      exfalso; have hq := h6; simp [pk3] at hq
  · skip
    refine s_seq ?_
    refine s_seq ?_
    refine s_region ?_
    refine o_p (p_pure rfl) rfl ?_
    refine o_p (p_pure rfl) rfl ?_
    refine o_nil ?_
    refine s_cond rfl (fun h16 => ?_) (fun h16 => ?_)
    · try simp only [decide_eq_true_eq, decide_eq_false_iff_not, Bool.not_eq_true', Bool.not_eq_false', Bool.and_eq_true, Bool.or_eq_true, Bool.and_eq_false_iff, Bool.or_eq_false_iff, Bool.not_true, Bool.not_false] at h16
      refine s_skip ?_
      refine s_seq ?_
      refine s_block ?_
      refine s_seq ?_
      refine s_region ?_
      refine o_p (p_pure rfl) rfl ?_
      refine o_p (p_pure rfl) rfl ?_
      refine o_nil ?_
      refine s_seq ?_
      refine s_seq ?_
      refine s_region ?_
      refine o_p (p_pure rfl) rfl ?_
      refine o_nil ?_
      refine s_block ?_
      refine s_loopI (α := Nat) [8, 9, 10, 28, 29, 30, 31, 32, 33, 34, 35, 36, 37, 38, 39, 40, 41, 42, 43, 44, 45, 46, 47, 48, 49, 50, 51, 52, 53, 54, 55, 56] (fun k => [(10, .int .i64 (k : Int)), (8, .bool (anyA ((plo (nth L (bsL (cmps (pls L) rc sq))).op).take k) 2)), (9, .bool (allS ((plo (nth L (bsL (cmps (pls L) rc sq))).op).take k) 2))]) (fun _ => _) (fun k => k ≤ (nth L (bsL (cmps (pls L) rc sq))).op.length) (fun k => (nth L (bsL (cmps (pls L) rc sq))).op.length - k) 0 (Nat.zero_le _) aSx (fun w h => h) (fun k hk1 => ?_)
      refine s_seq ?_
      refine s_seq ?_
      refine s_region ?_
      refine o_p (p_pure rfl) rfl ?_
      refine o_p (p_fieldAddr rfl rfl fd_77_2 sz_75 rfl) rfl ?_
      refine o_q (q_load rfl rfl sz_75 aPk rfl) rfl ?_
      refine o_p (p_len_slice rfl rfl Try.underlying75) rfl ?_
      refine o_p (p_pure rfl) rfl ?_
      refine o_nil ?_
      refine s_cond rfl (fun h17 => ?_) (fun h17 => ?_)
      · try simp only [decide_eq_true_eq, decide_eq_false_iff_not, Bool.not_eq_true', Bool.not_eq_false', Bool.and_eq_true, Bool.or_eq_true, Bool.and_eq_false_iff, Bool.or_eq_false_iff, Bool.not_true, Bool.not_false] at h17
        have hk : k < (nth L (bsL (cmps (pls L) rc sq))).op.length := by omega
        obtain ⟨hv1, hv2, hv3⟩ := hfV k hk
        have e1 : anyA ((plo (nth L (bsL (cmps (pls L) rc sq))).op).take (k + 1)) 2 = (anyA ((plo (nth L (bsL (cmps (pls L) rc sq))).op).take k) 2 || hasB (nth (nth L (bsL (cmps (pls L) rc sq))).op k).ac 2) := by rw [take_succ_nth (by simpa using hk), anyA_app, nth_plo hk]; rfl
        have e2 : allS ((plo (nth L (bsL (cmps (pls L) rc sq))).op).take (k + 1)) 2 = (allS ((plo (nth L (bsL (cmps (pls L) rc sq))).op).take k) 2 && hasB (nth (nth L (bsL (cmps (pls L) rc sq))).op k).sh 2) := by rw [take_succ_nth (by simpa using hk), allS_app, nth_plo hk]; rfl
        refine s_skip ?_
        refine s_seq ?_
        refine s_block ?_
        refine s_seq ?_
        refine s_region ?_
        refine o_p (p_pure rfl) rfl ?_
        refine o_p (p_pure rfl) rfl ?_
        refine o_or 9 36 45 _ _ rfl
          (by
            intro hg18
            have hs19 := hg18; try simp only [decide_eq_true_eq, decide_eq_false_iff_not, Bool.not_eq_true', Bool.not_eq_false', Bool.and_eq_true, Bool.or_eq_true, Bool.and_eq_false_iff, Bool.or_eq_false_iff, Bool.not_true, Bool.not_false] at hs19
            refine o_on 36 _ rfl rfl hg18 ?_
            refine o_p (p_fieldAddr rfl rfl fd_77_2 sz_75 rfl) rfl ?_
            refine o_on 36 _ rfl rfl hg18 ?_
            refine o_q (q_load rfl rfl sz_75 aPk rfl) rfl ?_
            refine o_on 36 _ rfl rfl hg18 ?_
            refine o_p (p_pure rfl) rfl ?_
            refine o_on 36 _ rfl rfl hg18 ?_
            refine o_p (p_indexAddr rfl rfl rfl sl_75 (k) (by omega) (by omega) (Rw.some (hs.at hp).1 (by omega))) rfl ?_
            refine o_on 36 _ rfl rfl hg18 ?_
            refine o_p (p_fieldAddr rfl rfl fd_48_1 sz_3 rfl) rfl ?_
            refine o_on 36 _ rfl rfl hg18 ?_
            refine o_q (q_load_old rfl rfl sz_3 (((hs.at hp).1.rdj 1 hk rfl))) rfl ?_
            refine o_on 36 _ rfl rfl hg18 ?_
            refine o_p (p_pure rfl) rfl ?_
            refine o_on 36 _ rfl rfl hg18 ?_
            refine o_q (q_call rfl fn_71 rfl (fun w1 h1 => c71 w1 _ 2 hv1 (by simp))) rfl ?_
            refine o_p (p_pickf rfl rfl hg18 rfl) rfl ?_
            refine o_nil ?_
            exact s_joinN 9 45 _ rfl rfl rfl (fun w h => by first | exact h | exact h.ent aEt))
          (by
            intro hg20
            have hs21 := hg20; try simp only [decide_eq_true_eq, decide_eq_false_iff_not, Bool.not_eq_true', Bool.not_eq_false', Bool.and_eq_true, Bool.or_eq_true, Bool.and_eq_false_iff, Bool.or_eq_false_iff, Bool.not_true, Bool.not_false] at hs21
            refine o_off 36 _ rfl rfl hg20 rfl ?_
            refine o_off 36 _ rfl rfl hg20 rfl ?_
            refine o_off 36 _ rfl rfl hg20 rfl ?_
            refine o_off 36 _ rfl rfl hg20 rfl ?_
            refine o_off 36 _ rfl rfl hg20 rfl ?_
            refine o_off 36 _ rfl rfl hg20 rfl ?_
            refine o_off 36 _ rfl rfl hg20 rfl ?_
            refine o_off 36 _ rfl rfl hg20 rfl ?_
            refine o_p (p_pickt rfl rfl hg20 rfl) rfl ?_
            refine o_nil ?_
            exact s_joinN 9 45 _ rfl rfl rfl (fun w h => by first | exact h | exact h.ent aEt)) ?_
        refine o_p (p_pure rfl) rfl ?_
        refine o_nil ?_
        refine s_region ?_
        refine o_p (p_pure rfl) rfl ?_
        refine o_p (p_pure rfl) rfl ?_
        refine o_and 9 47 56 _ _ rfl
          (by
            intro hg22
            have hs23 := hg22; try simp only [decide_eq_true_eq, decide_eq_false_iff_not, Bool.not_eq_true', Bool.not_eq_false', Bool.and_eq_true, Bool.or_eq_true, Bool.and_eq_false_iff, Bool.or_eq_false_iff, Bool.not_true, Bool.not_false] at hs23
            refine o_on 47 _ rfl rfl hg22 ?_
            refine o_p (p_fieldAddr rfl rfl fd_77_2 sz_75 rfl) rfl ?_
            refine o_on 47 _ rfl rfl hg22 ?_
            refine o_q (q_load rfl rfl sz_75 aPk rfl) rfl ?_
            refine o_on 47 _ rfl rfl hg22 ?_
            refine o_p (p_pure rfl) rfl ?_
            refine o_on 47 _ rfl rfl hg22 ?_
            refine o_p (p_indexAddr rfl rfl rfl sl_75 (k) (by omega) (by omega) (Rw.some (hs.at hp).1 (by omega))) rfl ?_
            refine o_on 47 _ rfl rfl hg22 ?_
            refine o_p (p_fieldAddr rfl rfl fd_48_2 sz_3 rfl) rfl ?_
            refine o_on 47 _ rfl rfl hg22 ?_
            refine o_q (q_load_old rfl rfl sz_3 (((hs.at hp).1.rdj 2 hk rfl))) rfl ?_
            refine o_on 47 _ rfl rfl hg22 ?_
            refine o_p (p_pure rfl) rfl ?_
            refine o_on 47 _ rfl rfl hg22 ?_
            refine o_q (q_call rfl fn_71 rfl (fun w1 h1 => c71 w1 _ 2 hv2 (by simp))) rfl ?_
            refine o_p (p_pickt rfl rfl hg22 rfl) rfl ?_
            refine o_nil ?_
            exact s_joinN 9 56 _ rfl rfl rfl (fun w h => by first | exact h | exact h.ent aEt))
          (by
            intro hg24
            have hs25 := hg24; try simp only [decide_eq_true_eq, decide_eq_false_iff_not, Bool.not_eq_true', Bool.not_eq_false', Bool.and_eq_true, Bool.or_eq_true, Bool.and_eq_false_iff, Bool.or_eq_false_iff, Bool.not_true, Bool.not_false] at hs25
            refine o_off 47 _ rfl rfl hg24 rfl ?_
            refine o_off 47 _ rfl rfl hg24 rfl ?_
            refine o_off 47 _ rfl rfl hg24 rfl ?_
            refine o_off 47 _ rfl rfl hg24 rfl ?_
            refine o_off 47 _ rfl rfl hg24 rfl ?_
            refine o_off 47 _ rfl rfl hg24 rfl ?_
            refine o_off 47 _ rfl rfl hg24 rfl ?_
            refine o_off 47 _ rfl rfl hg24 rfl ?_
            refine o_p (p_pickf rfl rfl hg24 rfl) rfl ?_
            refine o_nil ?_
            exact s_joinN 9 56 _ rfl rfl rfl (fun w h => by first | exact h | exact h.ent aEt)) ?_
        refine o_p (p_pure rfl) rfl ?_
        refine o_nil ?_
        refine s_blk ?_
        refine s_region ?_
        refine o_p (p_pure rfl) rfl ?_
        refine o_p (p_pure rfl) rfl ?_
        try (refine o_slot (i64w (by omega) (by omega)) ?_)
        refine o_p (p_pure rfl) rfl ?_
        refine o_nil ?_
        exact s_backI (k + 1) (by omega) (by omega) (by (try dsimp only); rw [e1, e2]; exact aSx) (fun w h => h)
      · try simp only [decide_eq_true_eq, decide_eq_false_iff_not, Bool.not_eq_true', Bool.not_eq_false', Bool.and_eq_true, Bool.or_eq_true, Bool.and_eq_false_iff, Bool.or_eq_false_iff, Bool.not_true, Bool.not_false] at h17
        have ek : k = (plo (nth L (bsL (cmps (pls L) rc sq))).op).length := by simp; omega
        rw [ek, List.take_length]
        refine s_exit_to rfl ?_
        refine s_seq ?_
        refine s_draw [8] mixed ?_
        refine d_p 0 rfl (p_fieldAddr rfl rfl fd_92_2 sz_3 rfl) (by kernel_rfl) rfl rfl ?_
        refine d_q 1 [[]] rfl (q_load rfl rfl sz_3 aPk rfl) (by kernel_rfl) (by kernel_rfl) (by kernel_rfl) rfl ?_
        refine d_p 2 rfl (p_pure rfl) (by kernel_rfl) rfl rfl ?_
        refine d_p 3 rfl (p_pure rfl) (by kernel_rfl) rfl rfl ?_
        refine d_q 4 [[]] rfl (q_call rfl fn_89 rfl (fun w1 h1 => c89 w1 _)) (by kernel_rfl) (by kernel_rfl) (by kernel_rfl) rfl ?_
        refine d_p 5 rfl (p_pure rfl) (by kernel_rfl) rfl rfl ?_
        try (refine d_slot (i64w (by omega) (by omega)) ?_)
        refine d_p 6 rfl (p_pure rfl) (by kernel_rfl) rfl rfl ?_
        try (refine d_slot (i64w (by omega) (by omega)) ?_)
        refine d_slot (show _ = Value.int .i64 (pbI (anyA (plo (nth L (bsL (cmps (pls L) rc sq))).op)) 2) from by simp only [pbI, bitsI]; congr 1; generalize anyA (plo (nth L (bsL (cmps (pls L) rc sq))).op) 1 = x1; generalize anyA (plo (nth L (bsL (cmps (pls L) rc sq))).op) 2 = x2; generalize anyA (plo (nth L (bsL (cmps (pls L) rc sq))).op) 4 = x4; cases x1 <;> cases x2 <;> cases x4 <;> decide) ?_
        refine d_p 7 rfl (p_fieldAddr rfl rfl fd_92_2 sz_3 rfl) (by kernel_rfl) rfl rfl ?_
        refine d_h0 8 rfl (h_store rfl rfl rfl sz_3 rfl aPt (by simp only [setMany_length, List.length_set, List.length_cons, List.length_nil, List.length_map]; omega) rfl) (by kernel_rfl) (fun w h => h.ent aEt) (fun _ _ => ?_)
        refine d_turn [] (by kernel_rfl) ?_
        refine d_nil (by kernel_rfl) (fun w h => h.ent aEt) ?_
        refine s_draw [8] mixed ?_
        refine d_p 0 rfl (p_fieldAddr rfl rfl fd_92_3 sz_3 rfl) (by kernel_rfl) rfl rfl ?_
        refine d_q 1 [[]] rfl (q_load rfl rfl sz_3 aPk rfl) (by kernel_rfl) (by kernel_rfl) (by kernel_rfl) rfl ?_
        refine d_p 2 rfl (p_pure rfl) (by kernel_rfl) rfl rfl ?_
        refine d_p 3 rfl (p_pure rfl) (by kernel_rfl) rfl rfl ?_
        refine d_q 4 [[]] rfl (q_call rfl fn_89 rfl (fun w1 h1 => c89 w1 _)) (by kernel_rfl) (by kernel_rfl) (by kernel_rfl) rfl ?_
        refine d_p 5 rfl (p_pure rfl) (by kernel_rfl) rfl rfl ?_
        try (refine d_slot (i64w (by omega) (by omega)) ?_)
        refine d_p 6 rfl (p_pure rfl) (by kernel_rfl) rfl rfl ?_
        try (refine d_slot (i64w (by omega) (by omega)) ?_)
        refine d_slot (show _ = Value.int .i64 (pbI (allS (plo (nth L (bsL (cmps (pls L) rc sq))).op)) 2) from by simp only [pbI, bitsI]; congr 1; generalize allS (plo (nth L (bsL (cmps (pls L) rc sq))).op) 1 = x1; generalize allS (plo (nth L (bsL (cmps (pls L) rc sq))).op) 2 = x2; generalize allS (plo (nth L (bsL (cmps (pls L) rc sq))).op) 4 = x4; cases x1 <;> cases x2 <;> cases x4 <;> decide) ?_
        refine d_p 7 rfl (p_fieldAddr rfl rfl fd_92_3 sz_3 rfl) (by kernel_rfl) rfl rfl ?_
        refine d_h0 8 rfl (h_store rfl rfl rfl sz_3 rfl aPt (by simp only [setMany_length, List.length_set, List.length_cons, List.length_nil, List.length_map]; omega) rfl) (by kernel_rfl) (fun w h => h.ent aEt) (fun _ _ => ?_)
        refine d_turn [] (by kernel_rfl) ?_
        refine d_nil (by kernel_rfl) (fun w h => h.ent aEt) ?_
        refine s_blk ?_
        refine s_weaken (L' := [(4, _), (5, _), (6, _), (7, _), (8, _), (9, _), (10, _), (24, _), (25, _)]) aSx (fun _ h => h) ?_
        refine s_region ?_
        refine o_p (p_pure rfl) rfl ?_
        refine o_p (p_pure rfl) rfl ?_
        try (refine o_slot (i64w (by omega) (by omega)) ?_)
        refine o_p (p_pure rfl) rfl ?_
        refine o_nil ?_
        exact s_backI 2 (by omega) (by omega) aSx (fun w h => h.ent aEt)
    · try simp only [decide_eq_true_eq, decide_eq_false_iff_not, Bool.not_eq_true', Bool.not_eq_false', Bool.and_eq_true, Bool.or_eq_true, Bool.and_eq_false_iff, Bool.or_eq_false_iff, Bool.not_true, Bool.not_false] at h16
      exfalso; have hq := h16; simp [pk3] at hq
  · skip
    refine s_seq ?_
    refine s_seq ?_
    refine s_region ?_
    refine o_p (p_pure rfl) rfl ?_
    refine o_p (p_pure rfl) rfl ?_
    refine o_nil ?_
    refine s_cond rfl (fun h26 => ?_) (fun h26 => ?_)
    · try simp only [decide_eq_true_eq, decide_eq_false_iff_not, Bool.not_eq_true', Bool.not_eq_false', Bool.and_eq_true, Bool.or_eq_true, Bool.and_eq_false_iff, Bool.or_eq_false_iff, Bool.not_true, Bool.not_false] at h26
      refine s_skip ?_
      refine s_seq ?_
      refine s_block ?_
      refine s_seq ?_
      refine s_region ?_
      refine o_p (p_pure rfl) rfl ?_
      refine o_p (p_pure rfl) rfl ?_
      refine o_nil ?_
      refine s_seq ?_
      refine s_seq ?_
      refine s_region ?_
      refine o_p (p_pure rfl) rfl ?_
      refine o_nil ?_
      refine s_block ?_
      refine s_loopI (α := Nat) [8, 9, 10, 28, 29, 30, 31, 32, 33, 34, 35, 36, 37, 38, 39, 40, 41, 42, 43, 44, 45, 46, 47, 48, 49, 50, 51, 52, 53, 54, 55, 56] (fun k => [(10, .int .i64 (k : Int)), (8, .bool (anyA ((plo (nth L (bsL (cmps (pls L) rc sq))).op).take k) 4)), (9, .bool (allS ((plo (nth L (bsL (cmps (pls L) rc sq))).op).take k) 4))]) (fun _ => _) (fun k => k ≤ (nth L (bsL (cmps (pls L) rc sq))).op.length) (fun k => (nth L (bsL (cmps (pls L) rc sq))).op.length - k) 0 (Nat.zero_le _) aSx (fun w h => h) (fun k hk1 => ?_)
      refine s_seq ?_
      refine s_seq ?_
      refine s_region ?_
      refine o_p (p_pure rfl) rfl ?_
      refine o_p (p_fieldAddr rfl rfl fd_77_2 sz_75 rfl) rfl ?_
      refine o_q (q_load rfl rfl sz_75 aPk rfl) rfl ?_
      refine o_p (p_len_slice rfl rfl Try.underlying75) rfl ?_
      refine o_p (p_pure rfl) rfl ?_
      refine o_nil ?_
      refine s_cond rfl (fun h27 => ?_) (fun h27 => ?_)
      · try simp only [decide_eq_true_eq, decide_eq_false_iff_not, Bool.not_eq_true', Bool.not_eq_false', Bool.and_eq_true, Bool.or_eq_true, Bool.and_eq_false_iff, Bool.or_eq_false_iff, Bool.not_true, Bool.not_false] at h27
        have hk : k < (nth L (bsL (cmps (pls L) rc sq))).op.length := by omega
        obtain ⟨hv1, hv2, hv3⟩ := hfV k hk
        have e1 : anyA ((plo (nth L (bsL (cmps (pls L) rc sq))).op).take (k + 1)) 4 = (anyA ((plo (nth L (bsL (cmps (pls L) rc sq))).op).take k) 4 || hasB (nth (nth L (bsL (cmps (pls L) rc sq))).op k).ac 4) := by rw [take_succ_nth (by simpa using hk), anyA_app, nth_plo hk]; rfl
        have e2 : allS ((plo (nth L (bsL (cmps (pls L) rc sq))).op).take (k + 1)) 4 = (allS ((plo (nth L (bsL (cmps (pls L) rc sq))).op).take k) 4 && hasB (nth (nth L (bsL (cmps (pls L) rc sq))).op k).sh 4) := by rw [take_succ_nth (by simpa using hk), allS_app, nth_plo hk]; rfl
        refine s_skip ?_
        refine s_seq ?_
        refine s_block ?_
        refine s_seq ?_
        refine s_region ?_
        refine o_p (p_pure rfl) rfl ?_
        refine o_p (p_pure rfl) rfl ?_
        refine o_or 9 36 45 _ _ rfl
          (by
            intro hg28
            have hs29 := hg28; try simp only [decide_eq_true_eq, decide_eq_false_iff_not, Bool.not_eq_true', Bool.not_eq_false', Bool.and_eq_true, Bool.or_eq_true, Bool.and_eq_false_iff, Bool.or_eq_false_iff, Bool.not_true, Bool.not_false] at hs29
            refine o_on 36 _ rfl rfl hg28 ?_
            refine o_p (p_fieldAddr rfl rfl fd_77_2 sz_75 rfl) rfl ?_
            refine o_on 36 _ rfl rfl hg28 ?_
            refine o_q (q_load rfl rfl sz_75 aPk rfl) rfl ?_
            refine o_on 36 _ rfl rfl hg28 ?_
            refine o_p (p_pure rfl) rfl ?_
            refine o_on 36 _ rfl rfl hg28 ?_
            refine o_p (p_indexAddr rfl rfl rfl sl_75 (k) (by omega) (by omega) (Rw.some (hs.at hp).1 (by omega))) rfl ?_
            refine o_on 36 _ rfl rfl hg28 ?_
            refine o_p (p_fieldAddr rfl rfl fd_48_1 sz_3 rfl) rfl ?_
            refine o_on 36 _ rfl rfl hg28 ?_
            refine o_q (q_load_old rfl rfl sz_3 (((hs.at hp).1.rdj 1 hk rfl))) rfl ?_
            refine o_on 36 _ rfl rfl hg28 ?_
            refine o_p (p_pure rfl) rfl ?_
            refine o_on 36 _ rfl rfl hg28 ?_
            refine o_q (q_call rfl fn_71 rfl (fun w1 h1 => c71 w1 _ 4 hv1 (by simp))) rfl ?_
            refine o_p (p_pickf rfl rfl hg28 rfl) rfl ?_
            refine o_nil ?_
            exact s_joinN 9 45 _ rfl rfl rfl (fun w h => by first | exact h | exact h.ent aEt))
          (by
            intro hg30
            have hs31 := hg30; try simp only [decide_eq_true_eq, decide_eq_false_iff_not, Bool.not_eq_true', Bool.not_eq_false', Bool.and_eq_true, Bool.or_eq_true, Bool.and_eq_false_iff, Bool.or_eq_false_iff, Bool.not_true, Bool.not_false] at hs31
            refine o_off 36 _ rfl rfl hg30 rfl ?_
            refine o_off 36 _ rfl rfl hg30 rfl ?_
            refine o_off 36 _ rfl rfl hg30 rfl ?_
            refine o_off 36 _ rfl rfl hg30 rfl ?_
            refine o_off 36 _ rfl rfl hg30 rfl ?_
            refine o_off 36 _ rfl rfl hg30 rfl ?_
            refine o_off 36 _ rfl rfl hg30 rfl ?_
            refine o_off 36 _ rfl rfl hg30 rfl ?_
            refine o_p (p_pickt rfl rfl hg30 rfl) rfl ?_
            refine o_nil ?_
            exact s_joinN 9 45 _ rfl rfl rfl (fun w h => by first | exact h | exact h.ent aEt)) ?_
        refine o_p (p_pure rfl) rfl ?_
        refine o_nil ?_
        refine s_region ?_
        refine o_p (p_pure rfl) rfl ?_
        refine o_p (p_pure rfl) rfl ?_
        refine o_and 9 47 56 _ _ rfl
          (by
            intro hg32
            have hs33 := hg32; try simp only [decide_eq_true_eq, decide_eq_false_iff_not, Bool.not_eq_true', Bool.not_eq_false', Bool.and_eq_true, Bool.or_eq_true, Bool.and_eq_false_iff, Bool.or_eq_false_iff, Bool.not_true, Bool.not_false] at hs33
            refine o_on 47 _ rfl rfl hg32 ?_
            refine o_p (p_fieldAddr rfl rfl fd_77_2 sz_75 rfl) rfl ?_
            refine o_on 47 _ rfl rfl hg32 ?_
            refine o_q (q_load rfl rfl sz_75 aPk rfl) rfl ?_
            refine o_on 47 _ rfl rfl hg32 ?_
            refine o_p (p_pure rfl) rfl ?_
            refine o_on 47 _ rfl rfl hg32 ?_
            refine o_p (p_indexAddr rfl rfl rfl sl_75 (k) (by omega) (by omega) (Rw.some (hs.at hp).1 (by omega))) rfl ?_
            refine o_on 47 _ rfl rfl hg32 ?_
            refine o_p (p_fieldAddr rfl rfl fd_48_2 sz_3 rfl) rfl ?_
            refine o_on 47 _ rfl rfl hg32 ?_
            refine o_q (q_load_old rfl rfl sz_3 (((hs.at hp).1.rdj 2 hk rfl))) rfl ?_
            refine o_on 47 _ rfl rfl hg32 ?_
            refine o_p (p_pure rfl) rfl ?_
            refine o_on 47 _ rfl rfl hg32 ?_
            refine o_q (q_call rfl fn_71 rfl (fun w1 h1 => c71 w1 _ 4 hv2 (by simp))) rfl ?_
            refine o_p (p_pickt rfl rfl hg32 rfl) rfl ?_
            refine o_nil ?_
            exact s_joinN 9 56 _ rfl rfl rfl (fun w h => by first | exact h | exact h.ent aEt))
          (by
            intro hg34
            have hs35 := hg34; try simp only [decide_eq_true_eq, decide_eq_false_iff_not, Bool.not_eq_true', Bool.not_eq_false', Bool.and_eq_true, Bool.or_eq_true, Bool.and_eq_false_iff, Bool.or_eq_false_iff, Bool.not_true, Bool.not_false] at hs35
            refine o_off 47 _ rfl rfl hg34 rfl ?_
            refine o_off 47 _ rfl rfl hg34 rfl ?_
            refine o_off 47 _ rfl rfl hg34 rfl ?_
            refine o_off 47 _ rfl rfl hg34 rfl ?_
            refine o_off 47 _ rfl rfl hg34 rfl ?_
            refine o_off 47 _ rfl rfl hg34 rfl ?_
            refine o_off 47 _ rfl rfl hg34 rfl ?_
            refine o_off 47 _ rfl rfl hg34 rfl ?_
            refine o_p (p_pickf rfl rfl hg34 rfl) rfl ?_
            refine o_nil ?_
            exact s_joinN 9 56 _ rfl rfl rfl (fun w h => by first | exact h | exact h.ent aEt)) ?_
        refine o_p (p_pure rfl) rfl ?_
        refine o_nil ?_
        refine s_blk ?_
        refine s_region ?_
        refine o_p (p_pure rfl) rfl ?_
        refine o_p (p_pure rfl) rfl ?_
        try (refine o_slot (i64w (by omega) (by omega)) ?_)
        refine o_p (p_pure rfl) rfl ?_
        refine o_nil ?_
        exact s_backI (k + 1) (by omega) (by omega) (by (try dsimp only); rw [e1, e2]; exact aSx) (fun w h => h)
      · try simp only [decide_eq_true_eq, decide_eq_false_iff_not, Bool.not_eq_true', Bool.not_eq_false', Bool.and_eq_true, Bool.or_eq_true, Bool.and_eq_false_iff, Bool.or_eq_false_iff, Bool.not_true, Bool.not_false] at h27
        have ek : k = (plo (nth L (bsL (cmps (pls L) rc sq))).op).length := by simp; omega
        rw [ek, List.take_length]
        refine s_exit_to rfl ?_
        refine s_seq ?_
        refine s_draw [8] mixed ?_
        refine d_p 0 rfl (p_fieldAddr rfl rfl fd_92_2 sz_3 rfl) (by kernel_rfl) rfl rfl ?_
        refine d_q 1 [[]] rfl (q_load rfl rfl sz_3 aPk rfl) (by kernel_rfl) (by kernel_rfl) (by kernel_rfl) rfl ?_
        refine d_p 2 rfl (p_pure rfl) (by kernel_rfl) rfl rfl ?_
        refine d_p 3 rfl (p_pure rfl) (by kernel_rfl) rfl rfl ?_
        refine d_q 4 [[]] rfl (q_call rfl fn_89 rfl (fun w1 h1 => c89 w1 _)) (by kernel_rfl) (by kernel_rfl) (by kernel_rfl) rfl ?_
        refine d_p 5 rfl (p_pure rfl) (by kernel_rfl) rfl rfl ?_
        try (refine d_slot (i64w (by omega) (by omega)) ?_)
        refine d_p 6 rfl (p_pure rfl) (by kernel_rfl) rfl rfl ?_
        try (refine d_slot (i64w (by omega) (by omega)) ?_)
        refine d_slot (show _ = Value.int .i64 (pbI (anyA (plo (nth L (bsL (cmps (pls L) rc sq))).op)) 3) from by simp only [pbI, bitsI]; congr 1; generalize anyA (plo (nth L (bsL (cmps (pls L) rc sq))).op) 1 = x1; generalize anyA (plo (nth L (bsL (cmps (pls L) rc sq))).op) 2 = x2; generalize anyA (plo (nth L (bsL (cmps (pls L) rc sq))).op) 4 = x4; cases x1 <;> cases x2 <;> cases x4 <;> decide) ?_
        refine d_p 7 rfl (p_fieldAddr rfl rfl fd_92_2 sz_3 rfl) (by kernel_rfl) rfl rfl ?_
        refine d_h0 8 rfl (h_store rfl rfl rfl sz_3 rfl aPt (by simp only [setMany_length, List.length_set, List.length_cons, List.length_nil, List.length_map]; omega) rfl) (by kernel_rfl) (fun w h => h.ent aEt) (fun _ _ => ?_)
        refine d_turn [] (by kernel_rfl) ?_
        refine d_nil (by kernel_rfl) (fun w h => h.ent aEt) ?_
        refine s_draw [8] mixed ?_
        refine d_p 0 rfl (p_fieldAddr rfl rfl fd_92_3 sz_3 rfl) (by kernel_rfl) rfl rfl ?_
        refine d_q 1 [[]] rfl (q_load rfl rfl sz_3 aPk rfl) (by kernel_rfl) (by kernel_rfl) (by kernel_rfl) rfl ?_
        refine d_p 2 rfl (p_pure rfl) (by kernel_rfl) rfl rfl ?_
        refine d_p 3 rfl (p_pure rfl) (by kernel_rfl) rfl rfl ?_
        refine d_q 4 [[]] rfl (q_call rfl fn_89 rfl (fun w1 h1 => c89 w1 _)) (by kernel_rfl) (by kernel_rfl) (by kernel_rfl) rfl ?_
        refine d_p 5 rfl (p_pure rfl) (by kernel_rfl) rfl rfl ?_
        try (refine d_slot (i64w (by omega) (by omega)) ?_)
        refine d_p 6 rfl (p_pure rfl) (by kernel_rfl) rfl rfl ?_
        try (refine d_slot (i64w (by omega) (by omega)) ?_)
        refine d_slot (show _ = Value.int .i64 (pbI (allS (plo (nth L (bsL (cmps (pls L) rc sq))).op)) 3) from by simp only [pbI, bitsI]; congr 1; generalize allS (plo (nth L (bsL (cmps (pls L) rc sq))).op) 1 = x1; generalize allS (plo (nth L (bsL (cmps (pls L) rc sq))).op) 2 = x2; generalize allS (plo (nth L (bsL (cmps (pls L) rc sq))).op) 4 = x4; cases x1 <;> cases x2 <;> cases x4 <;> decide) ?_
        refine d_p 7 rfl (p_fieldAddr rfl rfl fd_92_3 sz_3 rfl) (by kernel_rfl) rfl rfl ?_
        refine d_h0 8 rfl (h_store rfl rfl rfl sz_3 rfl aPt (by simp only [setMany_length, List.length_set, List.length_cons, List.length_nil, List.length_map]; omega) rfl) (by kernel_rfl) (fun w h => h.ent aEt) (fun _ _ => ?_)
        refine d_turn [] (by kernel_rfl) ?_
        refine d_nil (by kernel_rfl) (fun w h => h.ent aEt) ?_
        refine s_blk ?_
        refine s_weaken (L' := [(4, _), (5, _), (6, _), (7, _), (8, _), (9, _), (10, _), (24, _), (25, _)]) aSx (fun _ h => h) ?_
        refine s_region ?_
        refine o_p (p_pure rfl) rfl ?_
        refine o_p (p_pure rfl) rfl ?_
        try (refine o_slot (i64w (by omega) (by omega)) ?_)
        refine o_p (p_pure rfl) rfl ?_
        refine o_nil ?_
        exact s_backI 3 (by omega) (by omega) aSx (fun w h => h.ent aEt)
    · try simp only [decide_eq_true_eq, decide_eq_false_iff_not, Bool.not_eq_true', Bool.not_eq_false', Bool.and_eq_true, Bool.or_eq_true, Bool.and_eq_false_iff, Bool.or_eq_false_iff, Bool.not_true, Bool.not_false] at h26
      exfalso; have hq := h26; simp [pk3] at hq
  · skip
    refine s_seq ?_
    refine s_seq ?_
    refine s_region ?_
    refine o_p (p_pure rfl) rfl ?_
    refine o_p (p_pure rfl) rfl ?_
    refine o_nil ?_
    refine s_cond rfl (fun h36 => ?_) (fun h36 => ?_)
    · try simp only [decide_eq_true_eq, decide_eq_false_iff_not, Bool.not_eq_true', Bool.not_eq_false', Bool.and_eq_true, Bool.or_eq_true, Bool.and_eq_false_iff, Bool.or_eq_false_iff, Bool.not_true, Bool.not_false] at h36
      exfalso; have hq := h36; simp [pk3] at hq
    · try simp only [decide_eq_true_eq, decide_eq_false_iff_not, Bool.not_eq_true', Bool.not_eq_false', Bool.and_eq_true, Bool.or_eq_true, Bool.and_eq_false_iff, Bool.or_eq_false_iff, Bool.not_true, Bool.not_false] at h36
      refine s_exit_to rfl ?_
      refine s_seq ?_
      refine s_region ?_
      refine o_q (q_loadn rfl rfl sz_92 aPk rfl) rfl ?_
      refine o_h0 (h_store rfl rfl rfl sz_92 rfl aPt (by simp only [setMany_length, List.length_set, List.length_cons, List.length_nil, List.length_map]; omega) rfl) (fun _ _ => ?_)
      refine o_nil ?_
      exact s_retv (rs := [.cell 4 92]) rfl (.cell rfl sz_92 aPk rfl (.nil)) (fun w' h' => ⟨by simp only [hpp]; simp [LFil.pl]; rfl, h'.below⟩)
  · exfalso; omega

end Go.Proofs

namespace Go.Proofs
open Go Go.RowKit Gx
set_option linter.unusedVariables false
set_option linter.unusedSimpArgs false
attribute [local irreducible] Go.Calls Gx.S Gx.O Gx.D Gx.OpP Gx.OpQ Gx.OpH



set_option maxRecDepth 20000 in
set_option maxHeartbeats 2000000 in
theorem c44 (w : World) (next : Int) (a : Option Addr) (cap : Nat) (L : List LFil) (rc sq : Int) (hs : Ft w [] a L) (hm : L.length ≤ 1000) (hmo : ∀ f ∈ L, f.op.length ≤ 1000) (h0 : (fErr next (pls L) rc sq) = 0) : Calls Try.prog 44 #[.agg #[.int .i64 next, .slice a L.length cap], .agg #[.int .i64 rc, .int .i64 sq]] w fun en w' => ∃ g : (Option Addr × Nat) × List BR, en = .returned (.slice g.1.1 g.2.length g.1.2) ∧ (g.2.length = (nth (pls L) (bsL (cmps (pls L) rc sq))).op.length ∧ ∀ j, j < (nth (pls L) (bsL (cmps (pls L) rc sq))).op.length → (nth g.2 j).l = rowF (nth (pls L) (bsL (cmps (pls L) rc sq))).op j) ∧ HS w [] [.own (.slice g.1.1 g.2.length g.1.2) 37 1 g.2.length (g.2.flatMap brV), .star (g.2.map brS)] w' := by
  obtain ⟨hz, hr, hb, hp, hix⟩ := fErr_f h0
  have hpp := nth_pls hp
  obtain ⟨hf0, hf32, hfV⟩ := file_V (f := nth L (bsL (cmps (pls L) rc sq))) (chk_ok hz) (by simpa using hp) hpp.symm
  have hpl : (plo (nth L (bsL (cmps (pls L) rc sq))).op).length = (nth L (bsL (cmps (pls L) rc sq))).op.length := by simp
  refine enter (args := [_, _]) Try.func44 Try.ntmps44 rfl rfl (HS.refl w []) ?_
  refine s_seq ?_
  refine s_region ?_
  refine o_h (h_box rfl rfl) rfl (fun b1 _ => ?_)
  refine o_h (h_box rfl rfl) rfl (fun b2 _ => ?_)
  refine o_p (p_pure rfl) rfl ?_
  refine o_nil ?_
  refine s_seq ?_
  refine s_draw [8] mixed ?_
  refine d_p 0 rfl (p_fieldAddr rfl rfl fd_26_1 sz_24 rfl) (by kernel_rfl) rfl rfl ?_
  refine d_q 1 [[]] rfl (q_load rfl rfl sz_24 aPk rfl) (by kernel_rfl) (by kernel_rfl) (by kernel_rfl) rfl ?_
  refine d_q 2 [[]] rfl (q_loadn rfl rfl sz_26 aPk rfl) (by kernel_rfl) (by kernel_rfl) (by kernel_rfl) rfl ?_
  refine d_q 3 [[]] rfl (q_loadn rfl rfl sz_42 aPk rfl) (by kernel_rfl) (by kernel_rfl) (by kernel_rfl) rfl ?_
  refine d_q 4 [[]] rfl (q_call rfl fn_33 rfl (fun w1 h1 => c33 w1 next a cap L rc sq (hs.later h1) hm hmo)) (by kernel_rfl) (by kernel_rfl) (by kernel_rfl) rfl ?_
  rw [hix]
  refine d_p 5 rfl (p_indexAddr rfl rfl rfl sl_24 ((bsL (cmps (pls L) rc sq))) (by omega) (by omega) (Rw.some hs.1 (by omega))) (by kernel_rfl) rfl rfl ?_
  refine d_q 6 [[]] rfl (q_load_oldn _ rfl rfl sz_77 rfl (Rw.rd hs.1 hp)) (by kernel_rfl) (by kernel_rfl) (by kernel_rfl) rfl ?_
  refine d_h 7 rfl (h_alloc rfl zr_77) (by kernel_rfl) (fun w h => h.ent aEt) rfl (fun b3 _ => ?_)
  refine d_base (fun w h => h.ent aEt) ?_
  refine d_h0 8 rfl (h_store rfl rfl rfl sz_77 rfl aPt (by simp only [setMany_length, List.length_set, List.length_cons, List.length_nil, List.length_map]; omega) rfl) (by kernel_rfl) (fun w h => h.ent aEt) (fun _ _ => ?_)
  refine d_turn [] (by kernel_rfl) ?_
  refine d_nil (by kernel_rfl) (fun w h => h.ent aEt) ?_
  refine s_seq ?_
  refine s_region ?_
  refine o_p (p_pure rfl) rfl ?_
  refine o_nil ?_
  refine s_seq ?_
  refine s_seq ?_
  refine s_region ?_
  refine o_p (p_pure rfl) rfl ?_
  refine o_nil ?_
  refine s_block ?_
  refine s_weaken (L' := [(4, _), (5, _), (6, _), (7, _)]) aSx (fun _ h => h) ?_
  refine s_loopI (α := Nat × (Option Addr × Nat)) [6, 7, 8, 9, 10, 22, 23, 24, 25, 26, 27, 28, 29, 30, 31, 32, 33, 34, 35, 36, 37, 38, 39, 40, 41, 42, 43, 44, 45, 46, 47, 48, 49, 50, 51, 52, 53, 54, 55, 56, 57, 58, 59, 60, 61, 62, 63, 64, 65, 66, 67, 68, 69, 70, 71, 72, 73, 74, 75, 76] (fun y => [(7, .int .i64 (y.1 : Int)), (6, .slice y.2.1 y.1 y.2.2)]) (fun y => HS w [] [.own (.slice y.2.1 y.1 y.2.2) 4 1 y.1 (((List.range y.1).map (frB (plo (nth L (bsL (cmps (pls L) rc sq))).op))).flatMap boV), .blk b3 77 4 [.int .i64 (nth L (bsL (cmps (pls L) rc sq))).rc, .int .i64 (nth L (bsL (cmps (pls L) rc sq))).sq, .bool (nth L (bsL (cmps (pls L) rc sq))).pd, .slice (nth L (bsL (cmps (pls L) rc sq))).oa (nth L (bsL (cmps (pls L) rc sq))).op.length (nth L (bsL (cmps (pls L) rc sq))).oc], .blk b1 26 2 [.int .i64 next, .slice a L.length cap], .blk b2 42 2 [.int .i64 rc, .int .i64 sq]]) (fun y => y.1 ≤ (nth L (bsL (cmps (pls L) rc sq))).op.length) (fun y => (nth L (bsL (cmps (pls L) rc sq))).op.length - y.1) (0, (none, 0)) (Nat.zero_le _) aSx (fun w h => (h.own_nil 4 1).ent aEt) (fun ⟨k, A⟩ hk1 => ?_)
  dsimp only at hk1 ⊢
  refine s_seq ?_
  refine s_seq ?_
  refine s_region ?_
  refine o_p (p_pure rfl) rfl ?_
  refine o_p (p_fieldAddr rfl rfl fd_77_2 sz_75 rfl) rfl ?_
  refine o_q (q_load rfl rfl sz_75 aPk rfl) rfl ?_
  refine o_p (p_len_slice rfl rfl Try.underlying75) rfl ?_
  refine o_p (p_pure rfl) rfl ?_
  refine o_nil ?_
  refine s_cond rfl (fun h4 => ?_) (fun h4 => ?_)
  · try simp only [decide_eq_true_eq, decide_eq_false_iff_not, Bool.not_eq_true', Bool.not_eq_false', Bool.and_eq_true, Bool.or_eq_true, Bool.and_eq_false_iff, Bool.or_eq_false_iff, Bool.not_true, Bool.not_false] at h4
    have hk : k < (nth L (bsL (cmps (pls L) rc sq))).op.length := by omega
    obtain ⟨hv1, hv2, hv3⟩ := hfV k hk
    have h00 : (hasB (nth (plo (nth L (bsL (cmps (pls L) rc sq))).op) k).ac 1 && !othX (plo (nth L (bsL (cmps (pls L) rc sq))).op) k 0) = hasB (nth (nth L (bsL (cmps (pls L) rc sq))).op k).ac 1 := by rw [nth_plo hk]; simp [othX, LOpn.pl]
    refine s_skip ?_
    refine s_seq ?_
    refine s_block ?_
    refine s_seq ?_
    refine s_region ?_
    refine o_p (p_fieldAddr rfl rfl fd_77_2 sz_75 rfl) rfl ?_
    refine o_q (q_load rfl rfl sz_75 aPk rfl) rfl ?_
    refine o_p (p_pure rfl) rfl ?_
    refine o_p (p_indexAddr rfl rfl rfl sl_75 (k) (by omega) (by omega) (Rw.some (hs.at hp).1 (by omega))) rfl ?_
    refine o_p (p_fieldAddr rfl rfl fd_48_1 sz_3 rfl) rfl ?_
    refine o_q (q_load_old rfl rfl sz_3 (((hs.at hp).1.rdj 1 hk rfl))) rfl ?_
    refine o_q (q_call rfl fn_71 rfl (fun w1 h1 => c71 w1 _ 1 hv1 (by simp))) rfl ?_
    refine o_p (p_pure rfl) rfl ?_
    refine o_nil ?_
    refine s_seq ?_
    refine s_seq ?_
    refine s_region ?_
    refine o_p (p_pure rfl) rfl ?_
    refine o_nil ?_
    refine s_block ?_
    refine s_weaken (L' := [(4, _), (5, _), (6, _), (7, _), (8, _), (9, _)]) aSx (fun _ h => h) ?_
    refine s_loopI (α := Nat) [8, 9, 10, 36, 37, 38, 39, 40, 41, 42, 43, 44, 45, 46, 47, 48, 49, 50, 51, 52, 53, 54, 55, 56, 57, 58, 59, 60, 61, 62, 63, 64, 65, 66, 67, 68, 69, 70, 71, 72] (fun n => [(9, .int .i64 (n : Int)), (8, .bool (hasB (nth (plo (nth L (bsL (cmps (pls L) rc sq))).op) k).ac 1 && !othX (plo (nth L (bsL (cmps (pls L) rc sq))).op) k n))]) (fun _ => _) (fun n => n ≤ (nth L (bsL (cmps (pls L) rc sq))).op.length) (fun n => (nth L (bsL (cmps (pls L) rc sq))).op.length - n) 0 (Nat.zero_le _) (by (try dsimp only); rw [h00]; exact aSx) (fun w h => h) (fun n hn1 => ?_)
    refine s_seq ?_
    refine s_seq ?_
    refine s_region ?_
    refine o_p (p_pure rfl) rfl ?_
    refine o_p (p_fieldAddr rfl rfl fd_77_2 sz_75 rfl) rfl ?_
    refine o_q (q_load rfl rfl sz_75 aPk rfl) rfl ?_
    refine o_p (p_len_slice rfl rfl Try.underlying75) rfl ?_
    refine o_p (p_pure rfl) rfl ?_
    refine o_nil ?_
    refine s_cond rfl (fun h5 => ?_) (fun h5 => ?_)
    · try simp only [decide_eq_true_eq, decide_eq_false_iff_not, Bool.not_eq_true', Bool.not_eq_false', Bool.and_eq_true, Bool.or_eq_true, Bool.and_eq_false_iff, Bool.or_eq_false_iff, Bool.not_true, Bool.not_false] at h5
      have hn : n < (nth L (bsL (cmps (pls L) rc sq))).op.length := by omega
      obtain ⟨_, _, hvn⟩ := hfV n hn
      have hnl : (nth (plo (nth L (bsL (cmps (pls L) rc sq))).op) n).lk = (nth (nth L (bsL (cmps (pls L) rc sq))).op n).lk := by rw [nth_plo hn]; rfl
      refine s_skip ?_
      refine s_seq ?_
      refine s_block ?_
      refine s_seq ?_
      refine s_region ?_
      refine o_p (p_pure rfl) rfl ?_
      refine o_nil ?_
      refine s_block ?_
      refine s_loopI (α := Nat) [8, 10, 43, 44, 45, 46, 47, 48, 49, 50, 51, 52, 53, 54, 55, 56, 57, 58, 59, 60, 61, 62, 63, 64, 65, 66, 67, 68, 69, 70, 71, 72] (fun m => [(10, .int .i64 (m : Int)), (8, .bool (canV (plo (nth L (bsL (cmps (pls L) rc sq))).op) k n m))]) (fun _ => _) (fun m => m ≤ (nth (nth L (bsL (cmps (pls L) rc sq))).op n).lk.length) (fun m => (nth (nth L (bsL (cmps (pls L) rc sq))).op n).lk.length - m) 0 (Nat.zero_le _) (by (try dsimp only); rw [canV_0]; exact aSx) (fun w h => h) (fun m hm1 => ?_)
      refine s_seq ?_
      refine s_seq ?_
      refine s_region ?_
      refine o_p (p_pure rfl) rfl ?_
      refine o_p (p_fieldAddr rfl rfl fd_77_2 sz_75 rfl) rfl ?_
      refine o_q (q_load rfl rfl sz_75 aPk rfl) rfl ?_
      refine o_p (p_pure rfl) rfl ?_
      refine o_p (p_indexAddr rfl rfl rfl sl_75 (n) (by omega) (by omega) (Rw.some (hs.at hp).1 (by omega))) rfl ?_
      refine o_p (p_fieldAddr rfl rfl fd_48_4 sz_46 rfl) rfl ?_
      refine o_q (q_load_old rfl rfl sz_46 (((hs.at hp).1.rdj 4 hn rfl))) rfl ?_
      refine o_p (p_len_slice rfl rfl Try.underlying46) rfl ?_
      refine o_p (p_pure rfl) rfl ?_
      refine o_nil ?_
      refine s_cond rfl (fun h6 => ?_) (fun h6 => ?_)
      · try simp only [decide_eq_true_eq, decide_eq_false_iff_not, Bool.not_eq_true', Bool.not_eq_false', Bool.and_eq_true, Bool.or_eq_true, Bool.and_eq_false_iff, Bool.or_eq_false_iff, Bool.not_true, Bool.not_false] at h6
        have hmm : m < (nth (nth L (bsL (cmps (pls L) rc sq))).op n).lk.length := by omega
        have hcs := canV_succ (ops := (plo (nth L (bsL (cmps (pls L) rc sq))).op)) (k := k) (n := n) (m := m) (by rw [hnl]; exact hmm)
        rw [hnl] at hcs
        refine s_skip ?_
        refine s_seq ?_
        refine s_block ?_
        refine s_region ?_
        refine o_p (p_pure rfl) rfl ?_
        refine o_p (p_pure rfl) rfl ?_
        refine o_and 17 55 72 _ _ rfl
          (by
            intro hg7
            have hs8 := hg7; try simp only [decide_eq_true_eq, decide_eq_false_iff_not, Bool.not_eq_true', Bool.not_eq_false', Bool.and_eq_true, Bool.or_eq_true, Bool.and_eq_false_iff, Bool.or_eq_false_iff, Bool.not_true, Bool.not_false] at hs8
            refine o_on 55 _ rfl rfl hg7 ?_
            refine o_p (p_fieldAddr rfl rfl fd_77_2 sz_75 rfl) rfl ?_
            refine o_on 55 _ rfl rfl hg7 ?_
            refine o_q (q_load rfl rfl sz_75 aPk rfl) rfl ?_
            refine o_on 55 _ rfl rfl hg7 ?_
            refine o_p (p_pure rfl) rfl ?_
            refine o_on 55 _ rfl rfl hg7 ?_
            refine o_p (p_indexAddr rfl rfl rfl sl_75 (n) (by omega) (by omega) (Rw.some (hs.at hp).1 (by omega))) rfl ?_
            refine o_on 55 _ rfl rfl hg7 ?_
            refine o_p (p_fieldAddr rfl rfl fd_48_4 sz_46 rfl) rfl ?_
            refine o_on 55 _ rfl rfl hg7 ?_
            refine o_q (q_load_old rfl rfl sz_46 (((hs.at hp).1.rdj 4 hn rfl))) rfl ?_
            refine o_on 55 _ rfl rfl hg7 ?_
            refine o_p (p_pure rfl) rfl ?_
            refine o_on 55 _ rfl rfl hg7 ?_
            refine o_p (p_indexAddr rfl rfl rfl sl_46 (m) (by omega) (by omega) (Rw.some ((hs.at hp).at hn) (by omega))) rfl ?_
            refine o_on 55 _ rfl rfl hg7 ?_
            refine o_p (p_fieldAddr rfl rfl fd_62_2 sz_4 rfl) rfl ?_
            refine o_on 55 _ rfl rfl hg7 ?_
            refine o_q (q_load_old rfl rfl sz_4 ((((hs.at hp).at hn).rdj 2 hmm rfl))) rfl ?_
            refine o_on 55 _ rfl rfl hg7 ?_
            refine o_p (p_pure rfl) rfl ?_
            refine o_and 4 66 70 _ _ rfl
              (by
                intro hg9
                have hs10 := hg9; try simp only [decide_eq_true_eq, decide_eq_false_iff_not, Bool.not_eq_true', Bool.not_eq_false', Bool.and_eq_true, Bool.or_eq_true, Bool.and_eq_false_iff, Bool.or_eq_false_iff, Bool.not_true, Bool.not_false] at hs10
                refine o_on 66 _ rfl rfl hg9 ?_
                refine o_p (p_pure rfl) rfl ?_
                refine o_on 66 _ rfl rfl hg9 ?_
                refine o_p (p_pure rfl) rfl ?_
                refine o_on 66 _ rfl rfl hg9 ?_
                refine o_p (p_pure rfl) rfl ?_
                refine o_on 55 _ rfl rfl hg7 ?_
                refine o_p (p_pickt rfl rfl hg9 rfl) rfl ?_
                refine o_nil ?_
                exact s_joinN 4 70 _ rfl rfl rfl (fun w h => by first | exact h | exact h.ent aEt))
              (by
                intro hg11
                have hs12 := hg11; try simp only [decide_eq_true_eq, decide_eq_false_iff_not, Bool.not_eq_true', Bool.not_eq_false', Bool.and_eq_true, Bool.or_eq_true, Bool.and_eq_false_iff, Bool.or_eq_false_iff, Bool.not_true, Bool.not_false] at hs12
                refine o_off 66 _ rfl rfl hg11 rfl ?_
                refine o_off 66 _ rfl rfl hg11 rfl ?_
                refine o_off 66 _ rfl rfl hg11 rfl ?_
                refine o_on 55 _ rfl rfl hg7 ?_
                refine o_p (p_pickf rfl rfl hg11 rfl) rfl ?_
                refine o_nil ?_
                exact s_joinN 4 70 _ rfl rfl rfl (fun w h => by first | exact h | exact h.ent aEt)) ?_
            refine o_on 55 _ rfl rfl hg7 ?_
            refine o_p (p_pure rfl) rfl ?_
            refine o_p (p_pickt rfl rfl hg7 rfl) rfl ?_
            refine o_nil ?_
            exact s_joinN 14 72 _ rfl rfl rfl (fun w h => by first | exact h | exact h.ent aEt))
          (by
            intro hg13
            have hs14 := hg13; try simp only [decide_eq_true_eq, decide_eq_false_iff_not, Bool.not_eq_true', Bool.not_eq_false', Bool.and_eq_true, Bool.or_eq_true, Bool.and_eq_false_iff, Bool.or_eq_false_iff, Bool.not_true, Bool.not_false] at hs14
            refine o_off 55 _ rfl rfl hg13 rfl ?_
            refine o_off 55 _ rfl rfl hg13 rfl ?_
            refine o_off 55 _ rfl rfl hg13 rfl ?_
            refine o_off 55 _ rfl rfl hg13 rfl ?_
            refine o_off 55 _ rfl rfl hg13 rfl ?_
            refine o_off 55 _ rfl rfl hg13 rfl ?_
            refine o_off 55 _ rfl rfl hg13 rfl ?_
            refine o_off 55 _ rfl rfl hg13 rfl ?_
            refine o_off 55 _ rfl rfl hg13 rfl ?_
            refine o_off 55 _ rfl rfl hg13 rfl ?_
            refine o_off 55 _ rfl rfl hg13 rfl ?_
            refine o_off' 66 rfl rfl rfl ?_
            refine o_off' 66 rfl rfl rfl ?_
            refine o_off' 66 rfl rfl rfl ?_
            refine o_off 55 _ rfl rfl hg13 rfl ?_
            refine o_off 55 _ rfl rfl hg13 rfl ?_
            refine o_p (p_pickf rfl rfl hg13 rfl) rfl ?_
            refine o_nil ?_
            exact s_joinN 17 72 _ rfl rfl rfl (fun w h => by first | exact h | exact h.ent aEt)) ?_
        refine o_p (p_pure rfl) rfl ?_
        refine o_slot (show _ = Value.bool (canV (plo (nth L (bsL (cmps (pls L) rc sq))).op) k n (m + 1)) from by rw [hcs]; have h1 : (n : Int) = (k : Int) ↔ n = k := (by omega); simp [h1]) ?_
        refine o_nil ?_
        refine s_blk ?_
        refine s_region ?_
        refine o_p (p_pure rfl) rfl ?_
        refine o_p (p_pure rfl) rfl ?_
        try (refine o_slot (i64w (by omega) (by omega)) ?_)
        refine o_p (p_pure rfl) rfl ?_
        refine o_nil ?_
        exact s_backI (m + 1) (by omega) (by omega) aSx (fun w h => h)
      · try simp only [decide_eq_true_eq, decide_eq_false_iff_not, Bool.not_eq_true', Bool.not_eq_false', Bool.and_eq_true, Bool.or_eq_true, Bool.and_eq_false_iff, Bool.or_eq_false_iff, Bool.not_true, Bool.not_false] at h6
        have hce : canV (plo (nth L (bsL (cmps (pls L) rc sq))).op) k n m = (hasB (nth (plo (nth L (bsL (cmps (pls L) rc sq))).op) k).ac 1 && !othX (plo (nth L (bsL (cmps (pls L) rc sq))).op) k (n + 1)) := by have e9 : m = (nth (plo (nth L (bsL (cmps (pls L) rc sq))).op) n).lk.length := (by rw [hnl]; omega); rw [e9]; exact canV_end
        refine s_exit_to rfl ?_
        refine s_blk ?_
        refine s_region ?_
        refine o_p (p_pure rfl) rfl ?_
        refine o_p (p_pure rfl) rfl ?_
        try (refine o_slot (i64w (by omega) (by omega)) ?_)
        refine o_p (p_pure rfl) rfl ?_
        refine o_nil ?_
        exact s_backI (n + 1) (by omega) (by omega) (by (try dsimp only); rw [← hce]; exact aSx) (fun w h => h)
    · try simp only [decide_eq_true_eq, decide_eq_false_iff_not, Bool.not_eq_true', Bool.not_eq_false', Bool.and_eq_true, Bool.or_eq_true, Bool.and_eq_false_iff, Bool.or_eq_false_iff, Bool.not_true, Bool.not_false] at h5
      obtain rfl : n = (nth L (bsL (cmps (pls L) rc sq))).op.length := by omega
      have hfr : (hasB (nth (plo (nth L (bsL (cmps (pls L) rc sq))).op) k).ac 1 && !othX (plo (nth L (bsL (cmps (pls L) rc sq))).op) k (nth L (bsL (cmps (pls L) rc sq))).op.length) = frB (plo (nth L (bsL (cmps (pls L) rc sq))).op) k := by rw [frB, hpl]
      rw [hfr]
      refine s_exit_to rfl ?_
      refine s_region ?_
      refine o_p (p_pure rfl) rfl ?_
      refine o_p (p_pure rfl) rfl ?_
      refine o_h (h_buildSlice (cs := [_]) rfl rfl sl_37 zr_4 rfl rfl rfl) rfl (fun b15 _ => ?_)
      refine o_h (h_appendS (n := k) [.bool (frB (plo (nth L (bsL (cmps (pls L) rc sq))).op) k)] rfl rfl rfl sl_37 Try.underlying37 zr_4 rfl aPk (src_blk aPk) rfl (by intro u hu; simp only [List.mem_cons, List.mem_nil_iff, or_false] at hu; subst hu; rfl) (by omega) (by simp only [maxLen]; omega)) rfl (fun b16 _ => ?_)
      refine o_p (p_pure rfl) rfl ?_
      refine o_nil ?_
      refine s_blk ?_
      refine s_region ?_
      refine o_p (p_pure rfl) rfl ?_
      refine o_p (p_pure rfl) rfl ?_
      try (refine o_slot (i64w (by omega) (by omega)) ?_)
      refine o_p (p_pure rfl) rfl ?_
      refine o_nil ?_
      exact s_backI (k + 1, b16) (by show (nth L (bsL (cmps (pls L) rc sq))).op.length - (k + 1) < (nth L (bsL (cmps (pls L) rc sq))).op.length - k; omega) (by show k + 1 ≤ _; omega) aSx (fun w h => by dsimp only; rw [range_app, app_flat1]; exact h.ent aEt)
  · try simp only [decide_eq_true_eq, decide_eq_false_iff_not, Bool.not_eq_true', Bool.not_eq_false', Bool.and_eq_true, Bool.or_eq_true, Bool.and_eq_false_iff, Bool.or_eq_false_iff, Bool.not_true, Bool.not_false] at h4
    obtain rfl : k = (nth L (bsL (cmps (pls L) rc sq))).op.length := by omega
    refine s_fact (fun w h => own_addr (a := A.1) (cap := A.2) (n := (nth L (bsL (cmps (pls L) rc sq))).op.length) (by omega) h aPk) (fun hga => ?_)
    obtain ⟨go, hgo, _, _⟩ := hga
    refine s_exit_to rfl ?_
    refine s_seq ?_
    refine s_region ?_
    refine o_p (p_pure rfl) rfl ?_
    refine o_nil ?_
    refine s_seq ?_
    refine s_seq ?_
    refine s_region ?_
    refine o_p (p_pure rfl) rfl ?_
    refine o_nil ?_
    refine s_block ?_
    refine s_loopI (α := Nat × (Option Addr × Nat) × List BR) [11, 12, 13, 14, 77, 78, 79, 80, 81, 82, 83, 84, 85, 86, 87, 88, 89, 90, 91, 92, 93, 94, 95, 96, 97, 98, 99, 100, 101, 102, 103, 104, 105] (fun y => [(12, .int .i64 (y.1 : Int)), (11, .slice y.2.1.1 y.1 y.2.1.2)]) (fun y => HS w [] [.own (.slice y.2.1.1 y.1 y.2.1.2) 37 1 y.1 (y.2.2.flatMap brV), .star (y.2.2.map brS), .own (.slice A.1 (nth L (bsL (cmps (pls L) rc sq))).op.length A.2) 4 1 (nth L (bsL (cmps (pls L) rc sq))).op.length (((List.range (nth L (bsL (cmps (pls L) rc sq))).op.length).map (frB (plo (nth L (bsL (cmps (pls L) rc sq))).op))).flatMap boV)]) (fun y => y.1 ≤ (nth L (bsL (cmps (pls L) rc sq))).op.length ∧ y.2.2.length = y.1 ∧ ∀ j, j < y.1 → (nth y.2.2 j).l = rowF (plo (nth L (bsL (cmps (pls L) rc sq))).op) j) (fun y => (nth L (bsL (cmps (pls L) rc sq))).op.length - y.1) (0, (none, 0), []) ⟨Nat.zero_le _, rfl, fun j hj => absurd hj (Nat.not_lt_zero j)⟩ aSx (fun w h => (HS.star_nil (h.own_nil 37 1)).ent aEt) (fun ⟨k, G, M⟩ hy => ?_)
    dsimp only at hy ⊢
    obtain ⟨hk1, hMl, hMr⟩ := hy
    refine s_seq ?_
    refine s_seq ?_
    refine s_region ?_
    refine o_p (p_pure rfl) rfl ?_
    refine o_p (p_pure rfl) rfl ?_
    refine o_p (p_len_slice rfl rfl Try.underlying37) rfl ?_
    refine o_p (p_pure rfl) rfl ?_
    refine o_nil ?_
    refine s_cond rfl (fun h17 => ?_) (fun h17 => ?_)
    · try simp only [decide_eq_true_eq, decide_eq_false_iff_not, Bool.not_eq_true', Bool.not_eq_false', Bool.and_eq_true, Bool.or_eq_true, Bool.and_eq_false_iff, Bool.or_eq_false_iff, Bool.not_true, Bool.not_false] at h17
      have hk : k < (nth L (bsL (cmps (pls L) rc sq))).op.length := by omega
      refine s_skip ?_
      refine s_seq ?_
      refine s_block ?_
      refine s_seq ?_
      refine s_region ?_
      refine o_p (p_pure rfl) rfl ?_
      refine o_nil ?_
      refine s_seq ?_
      refine s_seq ?_
      refine s_region ?_
      refine o_p (p_pure rfl) rfl ?_
      refine o_nil ?_
      refine s_block ?_
      refine s_loopI (α := Nat × (Option Addr × Nat)) [13, 14, 83, 84, 85, 86, 87, 88, 89, 90, 91, 92, 93, 94, 95, 96, 97, 98, 99, 100, 101] (fun z => [(14, .int .i64 (z.1 : Int)), (13, .slice z.2.1 z.1 z.2.2)]) (fun z => HS w [] [.own (.slice z.2.1 z.1 z.2.2) 4 1 z.1 (((rowF (plo (nth L (bsL (cmps (pls L) rc sq))).op) k).take z.1).flatMap boV), .own (.slice G.1 k G.2) 37 1 k (M.flatMap brV), .star (M.map brS), .own (.slice A.1 (nth L (bsL (cmps (pls L) rc sq))).op.length A.2) 4 1 (nth L (bsL (cmps (pls L) rc sq))).op.length (((List.range (nth L (bsL (cmps (pls L) rc sq))).op.length).map (frB (plo (nth L (bsL (cmps (pls L) rc sq))).op))).flatMap boV)]) (fun z => z.1 ≤ (nth L (bsL (cmps (pls L) rc sq))).op.length) (fun z => (nth L (bsL (cmps (pls L) rc sq))).op.length - z.1) (0, (none, 0)) (Nat.zero_le _) aSx (fun w h => (h.own_nil 4 1).ent aEt) (fun ⟨n, R⟩ hn1 => ?_)
      dsimp only at hn1 ⊢
      refine s_seq ?_
      refine s_seq ?_
      refine s_region ?_
      refine o_p (p_pure rfl) rfl ?_
      refine o_p (p_pure rfl) rfl ?_
      refine o_p (p_len_slice rfl rfl Try.underlying37) rfl ?_
      refine o_p (p_pure rfl) rfl ?_
      refine o_nil ?_
      refine s_cond rfl (fun h18 => ?_) (fun h18 => ?_)
      · try simp only [decide_eq_true_eq, decide_eq_false_iff_not, Bool.not_eq_true', Bool.not_eq_false', Bool.and_eq_true, Bool.or_eq_true, Bool.and_eq_false_iff, Bool.or_eq_false_iff, Bool.not_true, Bool.not_false] at h18
        have hn : n < (nth L (bsL (cmps (pls L) rc sq))).op.length := by omega
        refine s_skip ?_
        refine s_seq ?_
        refine s_block ?_
        refine s_region ?_
        refine o_p (p_pure rfl) rfl ?_
        refine o_p (p_pure rfl) rfl ?_
        refine o_p (p_pure rfl) rfl ?_
        refine o_p (p_indexAddr rfl rfl rfl sl_37 (k) (by omega) (by omega) hgo) rfl ?_
        refine o_q (q_load_at rfl rfl sz_4 (fun w h => by have h9 := (h.rw_own (vals := boV) (fun _ => rfl) (a := A.1) (cap := A.2) (l := ((List.range (nth L (bsL (cmps (pls L) rc sq))).op.length).map (frB (plo (nth L (bsL (cmps (pls L) rc sq))).op)))) aPk (by simp)).rdj (i := k) (v := .bool (frB (plo (nth L (bsL (cmps (pls L) rc sq))).op) k)) 0 (by simp; exact hk) (by rw [frV_get hk]; rfl); rw [hgo] at h9; exact h9)) rfl ?_
        refine o_p (p_pure rfl) rfl ?_
        refine o_and 5 94 99 _ _ rfl
          (by
            intro hg19
            have hs20 := hg19; try simp only [decide_eq_true_eq, decide_eq_false_iff_not, Bool.not_eq_true', Bool.not_eq_false', Bool.and_eq_true, Bool.or_eq_true, Bool.and_eq_false_iff, Bool.or_eq_false_iff, Bool.not_true, Bool.not_false] at hs20
            refine o_on 94 _ rfl rfl hg19 ?_
            refine o_p (p_pure rfl) rfl ?_
            refine o_on 94 _ rfl rfl hg19 ?_
            refine o_p (p_pure rfl) rfl ?_
            refine o_on 94 _ rfl rfl hg19 ?_
            refine o_p (p_indexAddr rfl rfl rfl sl_37 (n) (by omega) (by omega) hgo) rfl ?_
            refine o_on 94 _ rfl rfl hg19 ?_
            refine o_q (q_load_at rfl rfl sz_4 (fun w h => by have h9 := (h.rw_own (vals := boV) (fun _ => rfl) (a := A.1) (cap := A.2) (l := ((List.range (nth L (bsL (cmps (pls L) rc sq))).op.length).map (frB (plo (nth L (bsL (cmps (pls L) rc sq))).op)))) aPk (by simp)).rdj (i := n) (v := .bool (frB (plo (nth L (bsL (cmps (pls L) rc sq))).op) n)) 0 (by simp; exact hn) (by rw [frV_get hn]; rfl); rw [hgo] at h9; exact h9)) rfl ?_
            refine o_p (p_pickt rfl rfl hg19 rfl) rfl ?_
            refine o_nil ?_
            exact s_joinN 5 99 _ rfl rfl rfl (fun w h => by first | exact h | exact h.ent aEt))
          (by
            intro hg21
            have hs22 := hg21; try simp only [decide_eq_true_eq, decide_eq_false_iff_not, Bool.not_eq_true', Bool.not_eq_false', Bool.and_eq_true, Bool.or_eq_true, Bool.and_eq_false_iff, Bool.or_eq_false_iff, Bool.not_true, Bool.not_false] at hs22
            refine o_off 94 _ rfl rfl hg21 rfl ?_
            refine o_off 94 _ rfl rfl hg21 rfl ?_
            refine o_off 94 _ rfl rfl hg21 rfl ?_
            refine o_off 94 _ rfl rfl hg21 rfl ?_
            refine o_p (p_pickf rfl rfl hg21 rfl) rfl ?_
            refine o_nil ?_
            exact s_joinN 5 99 _ rfl rfl rfl (fun w h => by first | exact h | exact h.ent aEt)) ?_
        refine o_h (h_buildSlice (cs := [_]) rfl rfl sl_37 zr_4 rfl rfl rfl) rfl (fun b23 _ => ?_)
        refine o_h (h_appendS (n := n) [.bool (frB (plo (nth L (bsL (cmps (pls L) rc sq))).op) k && frB (plo (nth L (bsL (cmps (pls L) rc sq))).op) n)] rfl rfl rfl sl_37 Try.underlying37 zr_4 rfl aPk (src_blk aPk) rfl (by intro u hu; simp only [List.mem_cons, List.mem_nil_iff, or_false] at hu; subst hu; rfl) (by omega) (by simp only [maxLen]; omega)) rfl (fun b24 _ => ?_)
        refine o_p (p_pure rfl) rfl ?_
        refine o_nil ?_
        refine s_blk ?_
        refine s_weaken (L' := [(4, _), (5, _), (6, _), (7, _), (11, _), (12, _), (13, _), (14, _), (22, _), (23, _), (24, _), (25, _), (26, _), (77, _), (78, _), (79, _), (80, _)]) aSx (fun _ h => h) ?_
        refine s_region ?_
        refine o_p (p_pure rfl) rfl ?_
        refine o_p (p_pure rfl) rfl ?_
        try (refine o_slot (i64w (by omega) (by omega)) ?_)
        refine o_p (p_pure rfl) rfl ?_
        refine o_nil ?_
        exact s_backI (n + 1, b24) (by show (nth L (bsL (cmps (pls L) rc sq))).op.length - (n + 1) < (nth L (bsL (cmps (pls L) rc sq))).op.length - n; omega) (by show n + 1 ≤ _; omega) aSx (fun w h => by dsimp only; rw [rowF_take (by rw [hpl]; exact hn), app_flat1]; exact h.ent aEt)
      · try simp only [decide_eq_true_eq, decide_eq_false_iff_not, Bool.not_eq_true', Bool.not_eq_false', Bool.and_eq_true, Bool.or_eq_true, Bool.and_eq_false_iff, Bool.or_eq_false_iff, Bool.not_true, Bool.not_false] at h18
        obtain rfl : n = (nth L (bsL (cmps (pls L) rc sq))).op.length := by omega
        refine s_exit_to rfl ?_
        refine s_region ?_
        refine o_p (p_pure rfl) rfl ?_
        refine o_p (p_pure rfl) rfl ?_
        refine o_h (h_buildSlice (cs := [_]) rfl rfl sl_95 zr_37 rfl rfl rfl) rfl (fun b25 _ => ?_)
        refine o_h (h_appendS (n := k) [.slice R.1 (nth L (bsL (cmps (pls L) rc sq))).op.length R.2] rfl rfl rfl sl_95 Try.underlying95 zr_37 rfl aPk (src_blk aPk) rfl (by intro u hu; simp only [List.mem_cons, List.mem_nil_iff, or_false] at hu; subst hu; rfl) (by omega) (by simp only [maxLen]; omega)) rfl (fun b26 _ => ?_)
        refine o_p (p_pure rfl) rfl ?_
        refine o_nil ?_
        refine s_blk ?_
        refine s_region ?_
        refine o_p (p_pure rfl) rfl ?_
        refine o_p (p_pure rfl) rfl ?_
        try (refine o_slot (i64w (by omega) (by omega)) ?_)
        refine o_p (p_pure rfl) rfl ?_
        refine o_nil ?_
        exact s_backI (k + 1, b26, M ++ [⟨R.1, R.2, rowF (plo (nth L (bsL (cmps (pls L) rc sq))).op) k⟩]) (by show (nth L (bsL (cmps (pls L) rc sq))).op.length - (k + 1) < (nth L (bsL (cmps (pls L) rc sq))).op.length - k; omega) ⟨by show k + 1 ≤ _; omega, by simp [hMl], fun j hj => by show (nth (M ++ [_]) j).l = _; rcases Nat.lt_succ_iff_lt_or_eq.1 hj with h9 | h9; (rw [nth_app1 (by omega)]; exact hMr j h9); (rw [nth_app2 (by omega), h9])⟩ aSx (fun w h => by have hrl : (rowF (plo (nth L (bsL (cmps (pls L) rc sq))).op) k).length = (nth L (bsL (cmps (pls L) rc sq))).op.length := (by rw [rowF_len, hpl]); have e9 : brS ⟨R.1, R.2, rowF (plo (nth L (bsL (cmps (pls L) rc sq))).op) k⟩ = .own (.slice R.1 (nth L (bsL (cmps (pls L) rc sq))).op.length R.2) 4 1 (nth L (bsL (cmps (pls L) rc sq))).op.length (((rowF (plo (nth L (bsL (cmps (pls L) rc sq))).op) k).take (nth L (bsL (cmps (pls L) rc sq))).op.length).flatMap boV) := (by unfold brS; simp only [hrl]; rw [List.take_of_length_le (by omega)]); have h2 := HS.sub_app (sub := brS) (l := M) (x := ⟨R.1, R.2, rowF (plo (nth L (bsL (cmps (pls L) rc sq))).op) k⟩) (by rw [e9]; exact h.ent (Bs := [.own (.slice R.1 (nth L (bsL (cmps (pls L) rc sq))).op.length R.2) 4 1 (nth L (bsL (cmps (pls L) rc sq))).op.length (((rowF (plo (nth L (bsL (cmps (pls L) rc sq))).op) k).take (nth L (bsL (cmps (pls L) rc sq))).op.length).flatMap boV), .star (M.map brS), .own (.slice b26.1 (k + 1) b26.2) 37 1 (k + 1) (M.flatMap brV ++ [.slice R.1 (nth L (bsL (cmps (pls L) rc sq))).op.length R.2]), .own (.slice A.1 (nth L (bsL (cmps (pls L) rc sq))).op.length A.2) 4 1 (nth L (bsL (cmps (pls L) rc sq))).op.length (((List.range (nth L (bsL (cmps (pls L) rc sq))).op.length).map (frB (plo (nth L (bsL (cmps (pls L) rc sq))).op))).flatMap boV)]) aEt); dsimp only; rw [app_flat1, show brV ⟨R.1, R.2, rowF (plo (nth L (bsL (cmps (pls L) rc sq))).op) k⟩ = [.slice R.1 (nth L (bsL (cmps (pls L) rc sq))).op.length R.2] from by simp only [brV, hrl]]; exact h2.ent aEt)
    · try simp only [decide_eq_true_eq, decide_eq_false_iff_not, Bool.not_eq_true', Bool.not_eq_false', Bool.and_eq_true, Bool.or_eq_true, Bool.and_eq_false_iff, Bool.or_eq_false_iff, Bool.not_true, Bool.not_false] at h17
      refine s_exit_to rfl ?_
      refine s_seq ?_
      refine s_region ?_
      refine o_p (p_pure rfl) rfl ?_
      refine o_p (p_pure rfl) rfl ?_
      refine o_nil ?_
      exact s_retv (rs := [.tmp 4]) rfl (.tmp rfl (.nil)) (fun w' h' => by obtain rfl : k = (nth L (bsL (cmps (pls L) rc sq))).op.length := (by omega); exact ⟨(G, M), by show _ = Ending.returned (.slice _ M.length _); rw [hMl]; rfl, by simp only [hpp]; exact ⟨by show M.length = _; rw [hMl]; simp [LFil.pl], fun j hj => hMr j (by simpa [LFil.pl] using hj)⟩, by dsimp only; rw [hMl]; exact h'.ent aEt⟩)

end Go.Proofs

namespace Go.Proofs
open Go Go.RowKit Gx
set_option linter.unusedVariables false
set_option linter.unusedSimpArgs false
attribute [local irreducible] Go.Calls Gx.S Gx.O Gx.D Gx.OpP Gx.OpQ Gx.OpH

theorem fn_41 : isFn Try.prog 41 = true := by kernel_rfl
theorem fn_42 : isFn Try.prog 42 = true := by kernel_rfl
theorem fn_43 : isFn Try.prog 43 = true := by kernel_rfl
theorem eqk_92 : teqk Try.prog 92 = some [2, 0, 0, 0] := by kernel_rfl
theorem fn_44 : isFn Try.prog 44 = true := by kernel_rfl
theorem fn_45 : isFn Try.prog 45 = true := by kernel_rfl


set_option maxRecDepth 20000 in
set_option maxHeartbeats 2000000 in
theorem d10 (w : World) (next : Int) (a : Option Addr) (cap : Nat) (L : List LFil) (rc sq : Int) (hs : Ft w [] a L) (he : ¬ (fErr next (pls L) rc sq) = 0) : Calls Try.prog 10 #[.agg #[.int .i64 next, .slice a L.length cap], .agg #[.int .i64 rc, .int .i64 sq]] w fun en w' => en = .returned (.bool true) ∧ Below w.heap.size w w' := by
  refine enter (args := [_, _]) Try.func10 Try.ntmps10 rfl rfl (HS.refl w []) ?_
  refine s_seq ?_
  refine s_region ?_
  refine o_h (h_box rfl rfl) rfl (fun b1 _ => ?_)
  refine o_h (h_box rfl rfl) rfl (fun b2 _ => ?_)
  refine o_p (p_pure rfl) rfl ?_
  refine o_nil ?_
  refine s_seq ?_
  refine s_seq ?_
  refine s_region ?_
  refine o_q (q_call rfl fn_11 rfl (fun w1 h1 => c11 w1)) rfl ?_
  refine o_p (p_pure rfl) rfl ?_
  refine o_nil ?_
  refine s_cond rfl (fun h3 => ?_) (fun h3 => ?_)
  · try simp only [decide_eq_true_eq, decide_eq_false_iff_not, Bool.not_eq_true', Bool.not_eq_false', Bool.and_eq_true, Bool.or_eq_true, Bool.and_eq_false_iff, Bool.or_eq_false_iff, Bool.not_true, Bool.not_false] at h3
    exfalso; first | omega | (simp at h3; done) | (simp_all; done)
  · try simp only [decide_eq_true_eq, decide_eq_false_iff_not, Bool.not_eq_true', Bool.not_eq_false', Bool.and_eq_true, Bool.or_eq_true, Bool.and_eq_false_iff, Bool.or_eq_false_iff, Bool.not_true, Bool.not_false] at h3
    refine s_skip ?_
    refine s_seq ?_
    refine s_seq ?_
    refine s_region ?_
    refine o_q (q_loadn rfl rfl sz_26 aPk rfl) rfl ?_
    refine o_q (q_call rfl fn_17 rfl (fun w1 h1 => c17 w1 next a cap L (hs.later h1))) rfl ?_
    refine o_p (p_pure rfl) rfl ?_
    refine o_nil ?_
    refine s_cond rfl (fun h4 => ?_) (fun h4 => ?_)
    · try simp only [decide_eq_true_eq, decide_eq_false_iff_not, Bool.not_eq_true', Bool.not_eq_false', Bool.and_eq_true, Bool.or_eq_true, Bool.and_eq_false_iff, Bool.or_eq_false_iff, Bool.not_true, Bool.not_false] at h4
      refine s_seq ?_
      refine s_region ?_
      refine o_p (p_pure rfl) rfl ?_
      refine o_nil ?_
      exact s_retv (rs := [.tmp 4]) rfl (.tmp rfl (.nil)) (fun w' h' => ⟨by rfl, h'.below⟩)
    · try simp only [decide_eq_true_eq, decide_eq_false_iff_not, Bool.not_eq_true', Bool.not_eq_false', Bool.and_eq_true, Bool.or_eq_true, Bool.and_eq_false_iff, Bool.or_eq_false_iff, Bool.not_true, Bool.not_false] at h4
      have hfw : fewT L = true := by first | exact h4 | (have hq := h4; simp at hq; exact hq)
      have hb := fewT_b hfw
      refine s_skip ?_
      refine s_seq ?_
      refine s_cutI (α := Nat) [5, 6, 18, 19, 20, 21, 22, 23, 24] (fun y => [(5, .pointer (some ⟨y, 0, none⟩)), (6, .int .i64 (fErr next (pls L) rc sq))]) (fun y => HS w [] [.blk y 92 4 [.bool false, .int .i64 0, .int .i64 0, .int .i64 0], .blk b1 26 2 [.int .i64 next, .slice a L.length cap], .blk b2 42 2 [.int .i64 rc, .int .i64 sq]]) (fun _ => True) ?_ ?_
      · skip
        refine s_draw [8] mixed ?_
        refine d_q 0 [[]] rfl (q_loadn rfl rfl sz_26 aPk rfl) (by kernel_rfl) (by kernel_rfl) (by kernel_rfl) rfl ?_
        refine d_q 2 [[]] rfl (q_loadn rfl rfl sz_42 aPk rfl) (by kernel_rfl) (by kernel_rfl) (by kernel_rfl) rfl ?_
        refine d_two 1 7 rfl rfl  (h_call rfl fn_19 rfl (fun w1 h1 => c19 w1 next a cap L (hs.later h1) hb.1 hb.2.1 hb.2.2)) (h_alloc rfl zr_92) (by kernel_rfl) (fun w h => h.ent aEt) rfl rfl  (fun ⟨⟨ca, cc⟩, N⟩ hgc => ?_) (fun b5 _ => ?_)
        · skip
          refine d_base (fun w h => h.ent aEt) ?_
          dsimp only at hgc ⊢
          have nb := same_b hgc hb
          refine d_q 3 [[]] rfl (q_call rfl fn_41 rfl (fun w1 h1 => by have h9 := q41 w1 next ca cc N rc sq (HS.ft (a := ca) (cap := cc) (l := N) h1 aPk) nb.1 nb.2.1 (by rw [hgc]; exact he); rw [hgc] at h9; exact h9)) (by kernel_rfl) (by kernel_rfl) (by kernel_rfl) rfl ?_
          refine d_p 4 rfl (p_pure rfl) (by kernel_rfl) rfl rfl ?_
          refine d_p 5 rfl (p_pure rfl) (by kernel_rfl) rfl rfl ?_
          refine d_p 6 rfl (p_pure rfl) (by kernel_rfl) rfl rfl ?_
          refine d_h 7 rfl (h_alloc rfl zr_92) (by kernel_rfl) (fun w h => h.ent aEt) rfl (fun b6 _ => ?_)
          refine d_base (fun w h => h.ent aEt) ?_
          refine d_h0 8 rfl (h_store rfl rfl rfl sz_92 rfl aPt (by simp only [setMany_length, List.length_set, List.length_cons, List.length_nil, List.length_map]; omega) rfl) (by kernel_rfl) (fun w h => h.ent aEt) (fun _ _ => ?_)
          refine d_turn [] (by kernel_rfl) ?_
          refine d_p 9 rfl (p_pure rfl) (by kernel_rfl) rfl rfl ?_
          refine d_nil (by kernel_rfl) (fun w h => h.ent aEt) ?_
          exact s_joinI _ trivial aSx (fun w h => h.ent aEt)
        · skip
          refine d_base (fun w h => h.ent aEt) ?_
          refine d_h 1 rfl (h_call rfl fn_19 rfl (fun w1 h1 => c19 w1 next a cap L (hs.later h1) hb.1 hb.2.1 hb.2.2)) (by kernel_rfl) (fun w h => h.ent aEt) rfl (fun ⟨⟨ca, cc⟩, N⟩ hgc => ?_)
          refine d_base (fun w h => h.ent aEt) ?_
          dsimp only at hgc ⊢
          have nb := same_b hgc hb
          refine d_q 3 [[]] rfl (q_call rfl fn_41 rfl (fun w1 h1 => by have h9 := q41 w1 next ca cc N rc sq (HS.ft (a := ca) (cap := cc) (l := N) h1 aPk) nb.1 nb.2.1 (by rw [hgc]; exact he); rw [hgc] at h9; exact h9)) (by kernel_rfl) (by kernel_rfl) (by kernel_rfl) rfl ?_
          refine d_p 4 rfl (p_pure rfl) (by kernel_rfl) rfl rfl ?_
          refine d_p 5 rfl (p_pure rfl) (by kernel_rfl) rfl rfl ?_
          refine d_p 6 rfl (p_pure rfl) (by kernel_rfl) rfl rfl ?_
          refine d_h0 8 rfl (h_store rfl rfl rfl sz_92 rfl aPt (by simp only [setMany_length, List.length_set, List.length_cons, List.length_nil, List.length_map]; omega) rfl) (by kernel_rfl) (fun w h => h.ent aEt) (fun _ _ => ?_)
          refine d_turn [] (by kernel_rfl) ?_
          refine d_p 9 rfl (p_pure rfl) (by kernel_rfl) rfl rfl ?_
          refine d_nil (by kernel_rfl) (fun w h => h.ent aEt) ?_
          exact s_joinI _ trivial aSx (fun w h => h.ent aEt)
      · intro p5 _
        refine s_seq ?_
        refine s_draw [] mixed ?_
        refine d_q 0 [] rfl (q_loadn rfl rfl sz_26 aPk rfl) (by kernel_rfl) (by kernel_rfl) (by kernel_rfl) rfl ?_
        refine d_q 2 [] rfl (q_loadn rfl rfl sz_42 aPk rfl) (by kernel_rfl) (by kernel_rfl) (by kernel_rfl) rfl ?_
        refine d_h 1 rfl (h_call rfl fn_19 rfl (fun w1 h1 => c19 w1 next a cap L (hs.later h1) hb.1 hb.2.1 hb.2.2)) (by kernel_rfl) (fun w h => h.ent aEt) rfl (fun ⟨⟨ca, cc⟩, N⟩ hgc => ?_)
        refine d_base (fun w h => h.ent aEt) ?_
        dsimp only at hgc ⊢
        have nb := same_b hgc hb
        refine d_q 3 [] rfl (q_call rfl fn_42 rfl (fun w1 h1 => by have h9 := q42 w1 next ca cc N rc sq (HS.ft (a := ca) (cap := cc) (l := N) h1 aPk) nb.1 nb.2.1 (by rw [hgc]; exact he); rw [hgc] at h9; exact h9)) (by kernel_rfl) (by kernel_rfl) (by kernel_rfl) rfl ?_
        refine d_p 4 rfl (p_pure rfl) (by kernel_rfl) rfl rfl ?_
        refine d_p 5 rfl (p_pure rfl) (by kernel_rfl) rfl rfl ?_
        refine d_p 6 rfl (p_pure rfl) (by kernel_rfl) rfl rfl ?_
        refine d_p 7 rfl (p_pure rfl) (by kernel_rfl) rfl rfl ?_
        refine d_p 8 rfl (p_pure rfl) (by kernel_rfl) rfl rfl ?_
        refine d_nil (by kernel_rfl) (fun w h => h.ent aEt) ?_
        refine s_seq ?_
        refine s_seq ?_
        refine s_region ?_
        refine o_q (q_loadn rfl rfl sz_26 aPk rfl) rfl ?_
        refine o_q (q_loadn rfl rfl sz_42 aPk rfl) rfl ?_
        refine o_q (q_call rfl fn_43 rfl (fun w1 h1 => c43 w1 next a cap L rc sq (hs.later h1) hb.1 hb.2.1)) rfl ?_
        refine o_p (p_pure rfl) rfl ?_
        refine o_nil ?_
        refine s_seq ?_
        refine s_region ?_
        refine o_p (p_pure rfl) rfl ?_
        refine o_p (p_pure rfl) rfl ?_
        refine o_nil ?_
        refine s_cond rfl (fun h7 => ?_) (fun h7 => ?_)
        · try simp only [decide_eq_true_eq, decide_eq_false_iff_not, Bool.not_eq_true', Bool.not_eq_false', Bool.and_eq_true, Bool.or_eq_true, Bool.and_eq_false_iff, Bool.or_eq_false_iff, Bool.not_true, Bool.not_false] at h7
          refine s_seq ?_
          refine s_region ?_
          refine o_p (p_pure rfl) rfl ?_
          refine o_p (p_pure rfl) rfl ?_
          refine o_p (p_pure rfl) rfl ?_
          refine o_p (p_pure rfl) rfl ?_
          refine o_and 4 40 44 _ _ rfl
            (by
              intro hg8
              have hs9 := hg8; try simp only [decide_eq_true_eq, decide_eq_false_iff_not, Bool.not_eq_true', Bool.not_eq_false', Bool.and_eq_true, Bool.or_eq_true, Bool.and_eq_false_iff, Bool.or_eq_false_iff, Bool.not_true, Bool.not_false] at hs9
              refine o_on 40 _ rfl rfl hg8 ?_
              refine o_q (q_loadn rfl rfl sz_92 aPk rfl) rfl ?_
              refine o_on 40 _ rfl rfl hg8 ?_
              refine o_p (p_build (cs := [_, _, _, _]) rfl rfl pl_92 zr_92 rfl) rfl ?_
              refine o_on 40 _ rfl rfl hg8 ?_
              refine o_p (p_eql_agg rfl rfl rfl eqk_92 (by rfl) (by rfl) (by rfl)) rfl ?_
              refine o_p (p_pickt rfl rfl hg8 rfl) rfl ?_
              refine o_nil ?_
              exact s_joinN 4 44 _ rfl rfl rfl (fun w h => by first | exact h | exact h.ent aEt))
            (by
              intro hg10
              have hs11 := hg10; try simp only [decide_eq_true_eq, decide_eq_false_iff_not, Bool.not_eq_true', Bool.not_eq_false', Bool.and_eq_true, Bool.or_eq_true, Bool.and_eq_false_iff, Bool.or_eq_false_iff, Bool.not_true, Bool.not_false] at hs11
              refine o_off 40 _ rfl rfl hg10 rfl ?_
              refine o_off 40 _ rfl rfl hg10 rfl ?_
              refine o_off 40 _ rfl rfl hg10 rfl ?_
              refine o_p (p_pickf rfl rfl hg10 rfl) rfl ?_
              refine o_nil ?_
              exact s_joinN 4 44 _ rfl rfl rfl (fun w h => by first | exact h | exact h.ent aEt)) ?_
          refine o_p (p_pure rfl) rfl ?_
          refine o_and 4 45 49 _ _ rfl
            (by
              intro hg12
              have hs13 := hg12; try simp only [decide_eq_true_eq, decide_eq_false_iff_not, Bool.not_eq_true', Bool.not_eq_false', Bool.and_eq_true, Bool.or_eq_true, Bool.and_eq_false_iff, Bool.or_eq_false_iff, Bool.not_true, Bool.not_false] at hs13
              refine o_on 45 _ rfl rfl hg12 ?_
              refine o_p (p_pure rfl) rfl ?_
              refine o_on 45 _ rfl rfl hg12 ?_
              refine o_p (p_pure rfl) rfl ?_
              refine o_on 45 _ rfl rfl hg12 ?_
              refine o_p (p_pure rfl) rfl ?_
              refine o_p (p_pickt rfl rfl hg12 rfl) rfl ?_
              refine o_nil ?_
              exact s_joinN 4 49 _ rfl rfl rfl (fun w h => by first | exact h | exact h.ent aEt))
            (by
              intro hg14
              have hs15 := hg14; try simp only [decide_eq_true_eq, decide_eq_false_iff_not, Bool.not_eq_true', Bool.not_eq_false', Bool.and_eq_true, Bool.or_eq_true, Bool.and_eq_false_iff, Bool.or_eq_false_iff, Bool.not_true, Bool.not_false] at hs15
              refine o_off 45 _ rfl rfl hg14 rfl ?_
              refine o_off 45 _ rfl rfl hg14 rfl ?_
              refine o_off 45 _ rfl rfl hg14 rfl ?_
              refine o_p (p_pickf rfl rfl hg14 rfl) rfl ?_
              refine o_nil ?_
              exact s_joinN 4 49 _ rfl rfl rfl (fun w h => by first | exact h | exact h.ent aEt)) ?_
          refine o_p (p_pure rfl) rfl ?_
          refine o_and 4 50 54 _ _ rfl
            (by
              intro hg16
              have hs17 := hg16; try simp only [decide_eq_true_eq, decide_eq_false_iff_not, Bool.not_eq_true', Bool.not_eq_false', Bool.and_eq_true, Bool.or_eq_true, Bool.and_eq_false_iff, Bool.or_eq_false_iff, Bool.not_true, Bool.not_false] at hs17
              refine o_on 50 _ rfl rfl hg16 ?_
              refine o_p (p_pure rfl) rfl ?_
              refine o_on 50 _ rfl rfl hg16 ?_
              refine o_p (p_len_slice rfl rfl Try.underlying95) rfl ?_
              refine o_on 50 _ rfl rfl hg16 ?_
              refine o_p (p_pure rfl) rfl ?_
              refine o_p (p_pickt rfl rfl hg16 rfl) rfl ?_
              refine o_nil ?_
              exact s_joinN 4 54 _ rfl rfl rfl (fun w h => by first | exact h | exact h.ent aEt))
            (by
              intro hg18
              have hs19 := hg18; try simp only [decide_eq_true_eq, decide_eq_false_iff_not, Bool.not_eq_true', Bool.not_eq_false', Bool.and_eq_true, Bool.or_eq_true, Bool.and_eq_false_iff, Bool.or_eq_false_iff, Bool.not_true, Bool.not_false] at hs19
              refine o_off 50 _ rfl rfl hg18 rfl ?_
              refine o_off 50 _ rfl rfl hg18 rfl ?_
              refine o_off 50 _ rfl rfl hg18 rfl ?_
              refine o_p (p_pickf rfl rfl hg18 rfl) rfl ?_
              refine o_nil ?_
              exact s_joinN 4 54 _ rfl rfl rfl (fun w h => by first | exact h | exact h.ent aEt)) ?_
          refine o_p (p_pure rfl) rfl ?_
          refine o_nil ?_
          exact s_retv (rs := [.tmp 4]) rfl (.tmp rfl (.nil)) (fun w' h' => ⟨by (try simp only [retV]); simp, h'.below⟩)
        · try simp only [decide_eq_true_eq, decide_eq_false_iff_not, Bool.not_eq_true', Bool.not_eq_false', Bool.and_eq_true, Bool.or_eq_true, Bool.and_eq_false_iff, Bool.or_eq_false_iff, Bool.not_true, Bool.not_false] at h7
          exfalso; exact he h7

set_option maxRecDepth 20000 in
set_option maxHeartbeats 2000000 in
theorem e10 (w : World) (next : Int) (a : Option Addr) (cap : Nat) (L : List LFil) (rc sq : Int) (hs : Ft w [] a L) (h0 : (fErr next (pls L) rc sq) = 0) : Calls Try.prog 10 #[.agg #[.int .i64 next, .slice a L.length cap], .agg #[.int .i64 rc, .int .i64 sq]] w fun en w' => en = .returned (.bool true) ∧ Below w.heap.size w w' := by
  obtain ⟨hz, hr, hb0, hp, hix⟩ := fErr_f h0
  have hpp := nth_pls hp
  obtain ⟨hf0, hf32, hfV⟩ := file_V (f := nth L (bsL (cmps (pls L) rc sq))) (chk_ok hz) (by simpa using hp) hpp.symm
  have hF32 : (nth (pls L) (bsL (cmps (pls L) rc sq))).op.length ≤ 32 := by rw [hpp]; simpa [LFil.pl] using hf32
  refine enter (args := [_, _]) Try.func10 Try.ntmps10 rfl rfl (HS.refl w []) ?_
  refine s_seq ?_
  refine s_region ?_
  refine o_h (h_box rfl rfl) rfl (fun b1 _ => ?_)
  refine o_h (h_box rfl rfl) rfl (fun b2 _ => ?_)
  refine o_p (p_pure rfl) rfl ?_
  refine o_nil ?_
  refine s_seq ?_
  refine s_seq ?_
  refine s_region ?_
  refine o_q (q_call rfl fn_11 rfl (fun w1 h1 => c11 w1)) rfl ?_
  refine o_p (p_pure rfl) rfl ?_
  refine o_nil ?_
  refine s_cond rfl (fun h3 => ?_) (fun h3 => ?_)
  · try simp only [decide_eq_true_eq, decide_eq_false_iff_not, Bool.not_eq_true', Bool.not_eq_false', Bool.and_eq_true, Bool.or_eq_true, Bool.and_eq_false_iff, Bool.or_eq_false_iff, Bool.not_true, Bool.not_false] at h3
    exfalso; first | omega | (simp at h3; done) | (simp_all; done)
  · try simp only [decide_eq_true_eq, decide_eq_false_iff_not, Bool.not_eq_true', Bool.not_eq_false', Bool.and_eq_true, Bool.or_eq_true, Bool.and_eq_false_iff, Bool.or_eq_false_iff, Bool.not_true, Bool.not_false] at h3
    refine s_skip ?_
    refine s_seq ?_
    refine s_seq ?_
    refine s_region ?_
    refine o_q (q_loadn rfl rfl sz_26 aPk rfl) rfl ?_
    refine o_q (q_call rfl fn_17 rfl (fun w1 h1 => c17 w1 next a cap L (hs.later h1))) rfl ?_
    refine o_p (p_pure rfl) rfl ?_
    refine o_nil ?_
    refine s_cond rfl (fun h4 => ?_) (fun h4 => ?_)
    · try simp only [decide_eq_true_eq, decide_eq_false_iff_not, Bool.not_eq_true', Bool.not_eq_false', Bool.and_eq_true, Bool.or_eq_true, Bool.and_eq_false_iff, Bool.or_eq_false_iff, Bool.not_true, Bool.not_false] at h4
      refine s_seq ?_
      refine s_region ?_
      refine o_p (p_pure rfl) rfl ?_
      refine o_nil ?_
      exact s_retv (rs := [.tmp 4]) rfl (.tmp rfl (.nil)) (fun w' h' => ⟨by rfl, h'.below⟩)
    · try simp only [decide_eq_true_eq, decide_eq_false_iff_not, Bool.not_eq_true', Bool.not_eq_false', Bool.and_eq_true, Bool.or_eq_true, Bool.and_eq_false_iff, Bool.or_eq_false_iff, Bool.not_true, Bool.not_false] at h4
      have hfw : fewT L = true := by first | exact h4 | (have hq := h4; simp at hq; exact hq)
      have hb := fewT_b hfw
      refine s_skip ?_
      refine s_seq ?_
      refine s_cutI (α := Nat) [5, 6, 18, 19, 20, 21, 22, 23, 24] (fun y => [(5, .pointer (some ⟨y, 0, none⟩)), (6, .int .i64 0)]) (fun y => HS w [] [.blk y 92 4 [.bool (nth (pls L) (bsL (cmps (pls L) rc sq))).pd, .int .i64 ((nth (pls L) (bsL (cmps (pls L) rc sq))).op.length : Int), .int .i64 (orA (nth (pls L) (bsL (cmps (pls L) rc sq))).op), .int .i64 (anS (nth (pls L) (bsL (cmps (pls L) rc sq))).op)], .blk b1 26 2 [.int .i64 next, .slice a L.length cap], .blk b2 42 2 [.int .i64 rc, .int .i64 sq]]) (fun _ => True) ?_ ?_
      · skip
        refine s_draw [8] mixed ?_
        refine d_q 0 [[]] rfl (q_loadn rfl rfl sz_26 aPk rfl) (by kernel_rfl) (by kernel_rfl) (by kernel_rfl) rfl ?_
        refine d_q 2 [[]] rfl (q_loadn rfl rfl sz_42 aPk rfl) (by kernel_rfl) (by kernel_rfl) (by kernel_rfl) rfl ?_
        refine d_two 1 7 rfl rfl  (h_call rfl fn_19 rfl (fun w1 h1 => c19 w1 next a cap L (hs.later h1) hb.1 hb.2.1 hb.2.2)) (h_alloc rfl zr_92) (by kernel_rfl) (fun w h => h.ent aEt) rfl rfl  (fun ⟨⟨ca, cc⟩, N⟩ hgc => ?_) (fun b5 _ => ?_)
        · skip
          refine d_base (fun w h => h.ent aEt) ?_
          dsimp only at hgc ⊢
          have nb := same_b hgc hb
          refine d_q 3 [[]] rfl (q_call rfl fn_41 rfl (fun w1 h1 => by have h9 := e41 w1 next ca cc N rc sq (HS.ft (a := ca) (cap := cc) (l := N) h1 aPk) nb.1 nb.2.1 (by rw [hgc]; exact h0); rw [hgc] at h9; exact h9)) (by kernel_rfl) (by kernel_rfl) (by kernel_rfl) rfl ?_
          refine d_p 4 rfl (p_pure rfl) (by kernel_rfl) rfl rfl ?_
          refine d_p 5 rfl (p_pure rfl) (by kernel_rfl) rfl rfl ?_
          refine d_p 6 rfl (p_pure rfl) (by kernel_rfl) rfl rfl ?_
          refine d_h 7 rfl (h_alloc rfl zr_92) (by kernel_rfl) (fun w h => h.ent aEt) rfl (fun b6 _ => ?_)
          refine d_base (fun w h => h.ent aEt) ?_
          refine d_h0 8 rfl (h_store rfl rfl rfl sz_92 rfl aPt (by simp only [setMany_length, List.length_set, List.length_cons, List.length_nil, List.length_map]; omega) rfl) (by kernel_rfl) (fun w h => h.ent aEt) (fun _ _ => ?_)
          refine d_turn [] (by kernel_rfl) ?_
          refine d_p 9 rfl (p_pure rfl) (by kernel_rfl) rfl rfl ?_
          refine d_nil (by kernel_rfl) (fun w h => h.ent aEt) ?_
          exact s_joinI _ trivial aSx (fun w h => h.ent aEt)
        · skip
          refine d_base (fun w h => h.ent aEt) ?_
          refine d_h 1 rfl (h_call rfl fn_19 rfl (fun w1 h1 => c19 w1 next a cap L (hs.later h1) hb.1 hb.2.1 hb.2.2)) (by kernel_rfl) (fun w h => h.ent aEt) rfl (fun ⟨⟨ca, cc⟩, N⟩ hgc => ?_)
          refine d_base (fun w h => h.ent aEt) ?_
          dsimp only at hgc ⊢
          have nb := same_b hgc hb
          refine d_q 3 [[]] rfl (q_call rfl fn_41 rfl (fun w1 h1 => by have h9 := e41 w1 next ca cc N rc sq (HS.ft (a := ca) (cap := cc) (l := N) h1 aPk) nb.1 nb.2.1 (by rw [hgc]; exact h0); rw [hgc] at h9; exact h9)) (by kernel_rfl) (by kernel_rfl) (by kernel_rfl) rfl ?_
          refine d_p 4 rfl (p_pure rfl) (by kernel_rfl) rfl rfl ?_
          refine d_p 5 rfl (p_pure rfl) (by kernel_rfl) rfl rfl ?_
          refine d_p 6 rfl (p_pure rfl) (by kernel_rfl) rfl rfl ?_
          refine d_h0 8 rfl (h_store rfl rfl rfl sz_92 rfl aPt (by simp only [setMany_length, List.length_set, List.length_cons, List.length_nil, List.length_map]; omega) rfl) (by kernel_rfl) (fun w h => h.ent aEt) (fun _ _ => ?_)
          refine d_turn [] (by kernel_rfl) ?_
          refine d_p 9 rfl (p_pure rfl) (by kernel_rfl) rfl rfl ?_
          refine d_nil (by kernel_rfl) (fun w h => h.ent aEt) ?_
          exact s_joinI _ trivial aSx (fun w h => h.ent aEt)
      · intro p5 _
        refine s_seq ?_
        refine s_draw [] mixed ?_
        refine d_q 0 [] rfl (q_loadn rfl rfl sz_26 aPk rfl) (by kernel_rfl) (by kernel_rfl) (by kernel_rfl) rfl ?_
        refine d_q 2 [] rfl (q_loadn rfl rfl sz_42 aPk rfl) (by kernel_rfl) (by kernel_rfl) (by kernel_rfl) rfl ?_
        refine d_h 1 rfl (h_call rfl fn_19 rfl (fun w1 h1 => c19 w1 next a cap L (hs.later h1) hb.1 hb.2.1 hb.2.2)) (by kernel_rfl) (fun w h => h.ent aEt) rfl (fun ⟨⟨ca, cc⟩, N⟩ hgc => ?_)
        refine d_base (fun w h => h.ent aEt) ?_
        dsimp only at hgc ⊢
        have nb := same_b hgc hb
        refine d_h 3 rfl (h_call rfl fn_42 rfl (fun w1 h1 => e42 w1 next ca cc N rc sq (HS.ft (a := ca) (cap := cc) (l := N) h1 aPk) nb.1 nb.2.1 (by rw [hgc]; exact h0))) (by kernel_rfl) (fun w h => h.ent aEt) rfl (fun ⟨⟨ga, gc⟩, G⟩ ⟨hG1, hG2⟩ => ?_)
        refine d_base (fun w h => h.ent aEt) ?_
        dsimp only at hG1 hG2 ⊢
        rw [hgc] at hG1 hG2
        refine d_p 4 rfl (p_pure rfl) (by kernel_rfl) rfl rfl ?_
        refine d_p 5 rfl (p_pure rfl) (by kernel_rfl) rfl rfl ?_
        refine d_p 6 rfl (p_pure rfl) (by kernel_rfl) rfl rfl ?_
        refine d_p 7 rfl (p_pure rfl) (by kernel_rfl) rfl rfl ?_
        refine d_p 8 rfl (p_pure rfl) (by kernel_rfl) rfl rfl ?_
        refine d_nil (by kernel_rfl) (fun w h => h.ent aEt) ?_
        refine s_seq ?_
        refine s_seq ?_
        refine s_region ?_
        refine o_q (q_loadn rfl rfl sz_26 aPk rfl) rfl ?_
        refine o_q (q_loadn rfl rfl sz_42 aPk rfl) rfl ?_
        refine o_q (q_call rfl fn_43 rfl (fun w1 h1 => c43 w1 next a cap L rc sq (hs.later h1) hb.1 hb.2.1)) rfl ?_
        refine o_p (p_pure rfl) rfl ?_
        refine o_nil ?_
        refine s_seq ?_
        refine s_region ?_
        refine o_p (p_pure rfl) rfl ?_
        refine o_p (p_pure rfl) rfl ?_
        refine o_nil ?_
        refine s_cond rfl (fun h7 => ?_) (fun h7 => ?_)
        · try simp only [decide_eq_true_eq, decide_eq_false_iff_not, Bool.not_eq_true', Bool.not_eq_false', Bool.and_eq_true, Bool.or_eq_true, Bool.and_eq_false_iff, Bool.or_eq_false_iff, Bool.not_true, Bool.not_false] at h7
          exfalso; have hq := h7; rw [h0] at hq; simp at hq
        · try simp only [decide_eq_true_eq, decide_eq_false_iff_not, Bool.not_eq_true', Bool.not_eq_false', Bool.and_eq_true, Bool.or_eq_true, Bool.and_eq_false_iff, Bool.or_eq_false_iff, Bool.not_true, Bool.not_false] at h7
          refine s_skip ?_
          refine s_seq ?_
          refine s_region ?_
          refine o_q (q_loadn rfl rfl sz_26 aPk rfl) rfl ?_
          refine o_q (q_loadn rfl rfl sz_42 aPk rfl) rfl ?_
          refine o_h (h_call rfl fn_44 rfl (fun w1 h1 => c44 w1 next a cap L rc sq (hs.later h1) hb.1 hb.2.1 h0)) rfl (fun ⟨⟨ra, rc2⟩, R⟩ ⟨hR1, hR2⟩ => ?_)
          dsimp only at hR1 hR2 ⊢
          refine o_p (p_pure rfl) rfl ?_
          refine o_nil ?_
          refine s_seq ?_
          refine s_seq ?_
          refine s_weaken (L' := [(2, _), (3, _), (4, _), (5, _), (6, _), (7, _), (8, _), (10, _)]) aSx (fun _ h => h) ?_
          refine s_draw [] mixed ?_
          refine d_p 0 rfl (p_pure rfl) (by kernel_rfl) rfl rfl ?_
          refine d_p 1 rfl (p_pure rfl) (by kernel_rfl) rfl rfl ?_
          refine d_p 2 rfl (p_pure rfl) (by kernel_rfl) rfl rfl ?_
          apply d_split 60
          · exact rfl
          · intro hg8
            have hs9 := hg8; try simp only [decide_eq_true_eq, decide_eq_false_iff_not, Bool.not_eq_true', Bool.not_eq_false', Bool.and_eq_true, Bool.or_eq_true, Bool.and_eq_false_iff, Bool.or_eq_false_iff, Bool.not_true, Bool.not_false] at hs9
            refine d_off 3 60 rfl rfl rfl hg8 (by kernel_rfl) rfl rfl ?_
            refine d_off 4 60 rfl rfl rfl hg8 (by kernel_rfl) rfl rfl ?_
            refine d_off 5 60 rfl rfl rfl hg8 (by kernel_rfl) rfl rfl ?_
            refine d_off 6 60 rfl rfl rfl hg8 (by kernel_rfl) rfl rfl ?_
            refine d_off 7 60 rfl rfl rfl hg8 (by kernel_rfl) rfl rfl ?_
            refine d_p 8 rfl (p_pickt rfl rfl hg8 rfl) (by kernel_rfl) rfl rfl ?_
            refine d_p 9 rfl (p_pure rfl) (by kernel_rfl) rfl rfl ?_
            apply d_split 67
            · exact rfl
            · intro hg10
              have hs11 := hg10; try simp only [decide_eq_true_eq, decide_eq_false_iff_not, Bool.not_eq_true', Bool.not_eq_false', Bool.and_eq_true, Bool.or_eq_true, Bool.and_eq_false_iff, Bool.or_eq_false_iff, Bool.not_true, Bool.not_false] at hs11
              refine d_off 10 67 rfl rfl rfl hg10 (by kernel_rfl) rfl rfl ?_
              refine d_off 11 67 rfl rfl rfl hg10 (by kernel_rfl) rfl rfl ?_
              refine d_p 12 rfl (p_pickt rfl rfl hg10 rfl) (by kernel_rfl) rfl rfl ?_
              refine d_p 13 rfl (p_pure rfl) (by kernel_rfl) rfl rfl ?_
              apply d_split 71
              · exact rfl
              · intro hg12
                have hs13 := hg12; try simp only [decide_eq_true_eq, decide_eq_false_iff_not, Bool.not_eq_true', Bool.not_eq_false', Bool.and_eq_true, Bool.or_eq_true, Bool.and_eq_false_iff, Bool.or_eq_false_iff, Bool.not_true, Bool.not_false] at hs13
                refine d_off 14 71 rfl rfl rfl hg12 (by kernel_rfl) rfl rfl ?_
                refine d_off 15 71 rfl rfl rfl hg12 (by kernel_rfl) rfl rfl ?_
                refine d_off 16 71 rfl rfl rfl hg12 (by kernel_rfl) rfl rfl ?_
                refine d_off 17 71 rfl rfl rfl hg12 (by kernel_rfl) rfl rfl ?_
                refine d_off 18 71 rfl rfl rfl hg12 (by kernel_rfl) rfl rfl ?_
                refine d_p 19 rfl (p_pickt rfl rfl hg12 rfl) (by kernel_rfl) rfl rfl ?_
                refine d_nil (by kernel_rfl) (fun w h => h.ent aEt) ?_
                refine s_cond rfl (fun h14 => ?_) (fun h14 => ?_)
                · try simp only [decide_eq_true_eq, decide_eq_false_iff_not, Bool.not_eq_true', Bool.not_eq_false', Bool.and_eq_true, Bool.or_eq_true, Bool.and_eq_false_iff, Bool.or_eq_false_iff, Bool.not_true, Bool.not_false] at h14
                  exfalso; first | (have hq := h14; rw [hG1, hR1] at hq; simp at hq; done) | simp_all
                · try simp only [decide_eq_true_eq, decide_eq_false_iff_not, Bool.not_eq_true', Bool.not_eq_false', Bool.and_eq_true, Bool.or_eq_true, Bool.and_eq_false_iff, Bool.or_eq_false_iff, Bool.not_true, Bool.not_false] at h14
                  refine s_skip ?_
                  refine s_seq ?_
                  refine s_seq ?_
                  refine s_region ?_
                  refine o_p (p_pure rfl) rfl ?_
                  refine o_nil ?_
                  refine s_block ?_
                  refine s_weaken (L' := [(4, _), (7, _), (10, _), (11, _)]) aSx (fun _ h => h) ?_
                  refine s_loopI (α := Nat) [4, 11, 12, 78, 79, 80, 81, 82, 83, 84, 85, 86, 87, 88, 89, 90, 91, 92, 93, 94, 95, 96, 97, 98, 99, 100, 101, 102, 103, 104, 105, 106, 107, 108, 109, 110, 111, 112, 113, 114, 115, 116, 117, 118] (fun i => [(11, .int .i64 (i : Int))]) (fun _ => HS w [] [.own (.slice ga G.length gc) 37 1 G.length (G.flatMap brV), .star (G.map brS), .own (.slice ra R.length rc2) 37 1 R.length (R.flatMap brV), .star (R.map brS)]) (fun i => i ≤ G.length) (fun i => G.length - i) 0 (Nat.zero_le _) aSx (fun w h => h.ent aEt) (fun i hi1 => ?_)
                  refine s_seq ?_
                  refine s_seq ?_
                  refine s_region ?_
                  refine o_p (p_pure rfl) rfl ?_
                  refine o_p (p_pure rfl) rfl ?_
                  refine o_p (p_len_slice rfl rfl Try.underlying95) rfl ?_
                  refine o_p (p_pure rfl) rfl ?_
                  refine o_nil ?_
                  refine s_cond rfl (fun h15 => ?_) (fun h15 => ?_)
                  · try simp only [decide_eq_true_eq, decide_eq_false_iff_not, Bool.not_eq_true', Bool.not_eq_false', Bool.and_eq_true, Bool.or_eq_true, Bool.and_eq_false_iff, Bool.or_eq_false_iff, Bool.not_true, Bool.not_false] at h15
                    have hiG : i < G.length := by omega
                    have hiF : i < (nth (pls L) (bsL (cmps (pls L) rc sq))).op.length := by omega
                    have hGl : (nth G i).l.length = (nth (pls L) (bsL (cmps (pls L) rc sq))).op.length := by rw [hG2 i hiF, rowF_len]
                    have hRl : (nth R i).l.length = (nth (pls L) (bsL (cmps (pls L) rc sq))).op.length := by rw [hR2 i hiF, rowF_len]
                    refine s_fact (fun w h => own_addr (a := ga) (cap := gc) (n := G.length) (by omega) h aPk) (fun hga => ?_)
                    obtain ⟨gg, hgg, _, _⟩ := hga
                    refine s_fact (fun w h => own_addr (a := ra) (cap := rc2) (n := R.length) (by omega) h aPk) (fun hga => ?_)
                    obtain ⟨gr, hgr, _, _⟩ := hga
                    refine s_skip ?_
                    refine s_seq ?_
                    refine s_block ?_
                    refine s_seq ?_
                    refine s_seq ?_
                    refine s_draw [] mixed ?_
                    refine d_p 0 rfl (p_pure rfl) (by kernel_rfl) rfl rfl ?_
                    refine d_p 1 rfl (p_pure rfl) (by kernel_rfl) rfl rfl ?_
                    refine d_p 2 rfl (p_indexAddr rfl rfl rfl sl_95 (i) (by omega) (by omega) hgg) (by kernel_rfl) rfl rfl ?_
                    refine d_q 3 [] rfl (q_load_at rfl rfl sz_37 (fun w h => by have h9 := (h.rw_own (vals := brV) br1 (a := ga) (cap := gc) (l := G) aPk rfl).rdj 0 hiG rfl; rw [hgg] at h9; exact h9)) (by kernel_rfl) (by kernel_rfl) (by kernel_rfl) rfl ?_
                    refine d_p 4 rfl (p_len_slice rfl rfl Try.underlying37) (by kernel_rfl) rfl rfl ?_
                    refine d_p 5 rfl (p_pure rfl) (by kernel_rfl) rfl rfl ?_
                    refine d_p 6 rfl (p_pure rfl) (by kernel_rfl) rfl rfl ?_
                    refine d_p 7 rfl (p_indexAddr rfl rfl rfl sl_95 (i) (by omega) (by omega) hgr) (by kernel_rfl) rfl rfl ?_
                    refine d_q 8 [] rfl (q_load_at rfl rfl sz_37 (fun w h => by have h9 := (h.rw_own (vals := brV) br1 (a := ra) (cap := rc2) (l := R) aPk rfl).rdj 0 (by omega : i < R.length) rfl; rw [hgr] at h9; exact h9)) (by kernel_rfl) (by kernel_rfl) (by kernel_rfl) rfl ?_
                    refine d_p 9 rfl (p_len_slice rfl rfl Try.underlying37) (by kernel_rfl) rfl rfl ?_
                    refine d_p 10 rfl (p_pure rfl) (by kernel_rfl) rfl rfl ?_
                    refine d_nil (by kernel_rfl) (fun w h => h.ent aEt) ?_
                    refine s_cond rfl (fun h16 => ?_) (fun h16 => ?_)
                    · try simp only [decide_eq_true_eq, decide_eq_false_iff_not, Bool.not_eq_true', Bool.not_eq_false', Bool.and_eq_true, Bool.or_eq_true, Bool.and_eq_false_iff, Bool.or_eq_false_iff, Bool.not_true, Bool.not_false] at h16
                      exfalso; have hq := h16; rw [hGl, hRl] at hq; simp at hq
                    · try simp only [decide_eq_true_eq, decide_eq_false_iff_not, Bool.not_eq_true', Bool.not_eq_false', Bool.and_eq_true, Bool.or_eq_true, Bool.and_eq_false_iff, Bool.or_eq_false_iff, Bool.not_true, Bool.not_false] at h16
                      refine s_skip ?_
                      refine s_seq ?_
                      refine s_region ?_
                      refine o_p (p_pure rfl) rfl ?_
                      refine o_nil ?_
                      refine s_block ?_
                      refine s_weaken (L' := [(7, _), (10, _), (11, _), (12, _)]) aSx (fun _ h => h) ?_
                      refine s_loopI (α := Nat) [4, 12, 95, 96, 97, 98, 99, 100, 101, 102, 103, 104, 105, 106, 107, 108, 109, 110, 111, 112, 113, 114, 115, 116, 117, 118] (fun k => [(12, .int .i64 (k : Int))]) (fun _ => _) (fun k => k ≤ (nth (pls L) (bsL (cmps (pls L) rc sq))).op.length) (fun k => (nth (pls L) (bsL (cmps (pls L) rc sq))).op.length - k) 0 (Nat.zero_le _) aSx (fun w h => h) (fun k hk1 => ?_)
                      refine s_seq ?_
                      refine s_seq ?_
                      refine s_region ?_
                      refine o_p (p_pure rfl) rfl ?_
                      refine o_p (p_pure rfl) rfl ?_
                      refine o_p (p_pure rfl) rfl ?_
                      refine o_p (p_indexAddr rfl rfl rfl sl_95 (i) (by omega) (by omega) hgg) rfl ?_
                      refine o_q (q_load_at rfl rfl sz_37 (fun w h => by have h9 := (h.rw_own (vals := brV) br1 (a := ga) (cap := gc) (l := G) aPk rfl).rdj 0 hiG rfl; rw [hgg] at h9; exact h9)) rfl ?_
                      refine o_p (p_len_slice rfl rfl Try.underlying37) rfl ?_
                      refine o_p (p_pure rfl) rfl ?_
                      refine o_nil ?_
                      refine s_cond rfl (fun h17 => ?_) (fun h17 => ?_)
                      · try simp only [decide_eq_true_eq, decide_eq_false_iff_not, Bool.not_eq_true', Bool.not_eq_false', Bool.and_eq_true, Bool.or_eq_true, Bool.and_eq_false_iff, Bool.or_eq_false_iff, Bool.not_true, Bool.not_false] at h17
                        have hkF : k < (nth (pls L) (bsL (cmps (pls L) rc sq))).op.length := by omega
                        have hGR : nth (nth G i).l k = nth (nth R i).l k := by rw [hG2 i hiF, hR2 i hiF]
                        refine s_fact (fun w h => own_addr (a := (nth G i).a) (cap := (nth G i).c) (n := (nth G i).l.length) (by omega) (HS.sub_open (sub := brS) (l := G) (i := i) (by omega) (h.pick aPk)) .here) (fun hga => ?_)
                        obtain ⟨gk, hgk, _, _⟩ := hga
                        refine s_fact (fun w h => own_addr (a := (nth R i).a) (cap := (nth R i).c) (n := (nth R i).l.length) (by omega) (HS.sub_open (sub := brS) (l := R) (i := i) (by omega) (h.pick aPk)) .here) (fun hga => ?_)
                        obtain ⟨rk, hrk, _, _⟩ := hga
                        refine s_skip ?_
                        refine s_seq ?_
                        refine s_block ?_
                        refine s_seq ?_
                        refine s_draw [] mixed ?_
                        refine d_p 0 rfl (p_pure rfl) (by kernel_rfl) rfl rfl ?_
                        refine d_p 1 rfl (p_pure rfl) (by kernel_rfl) rfl rfl ?_
                        refine d_p 2 rfl (p_indexAddr rfl rfl rfl sl_95 (i) (by omega) (by omega) hgg) (by kernel_rfl) rfl rfl ?_
                        refine d_q 3 [] rfl (q_load_at rfl rfl sz_37 (fun w h => by have h9 := (h.rw_own (vals := brV) br1 (a := ga) (cap := gc) (l := G) aPk rfl).rdj 0 hiG rfl; rw [hgg] at h9; exact h9)) (by kernel_rfl) (by kernel_rfl) (by kernel_rfl) rfl ?_
                        refine d_p 4 rfl (p_pure rfl) (by kernel_rfl) rfl rfl ?_
                        refine d_p 5 rfl (p_indexAddr rfl rfl rfl sl_37 (k) (by omega) (by omega) hgk) (by kernel_rfl) rfl rfl ?_
                        refine d_q 6 [] rfl (q_load_at rfl rfl sz_4 (fun w h => by have h9 := ((HS.sub_open (sub := brS) (l := G) (i := i) (by omega) (h.pick aPk)).rw_own (vals := boV) (fun _ => rfl) (a := (nth G i).a) (cap := (nth G i).c) (l := (nth G i).l) .here rfl).rdj (i := k) 0 (by omega) rfl; rw [hgk] at h9; exact h9)) (by kernel_rfl) (by kernel_rfl) (by kernel_rfl) rfl ?_
                        refine d_p 7 rfl (p_pure rfl) (by kernel_rfl) rfl rfl ?_
                        refine d_p 8 rfl (p_pure rfl) (by kernel_rfl) rfl rfl ?_
                        refine d_p 9 rfl (p_indexAddr rfl rfl rfl sl_95 (i) (by omega) (by omega) hgr) (by kernel_rfl) rfl rfl ?_
                        refine d_q 10 [] rfl (q_load_at rfl rfl sz_37 (fun w h => by have h9 := (h.rw_own (vals := brV) br1 (a := ra) (cap := rc2) (l := R) aPk rfl).rdj 0 (by omega : i < R.length) rfl; rw [hgr] at h9; exact h9)) (by kernel_rfl) (by kernel_rfl) (by kernel_rfl) rfl ?_
                        refine d_p 11 rfl (p_pure rfl) (by kernel_rfl) rfl rfl ?_
                        refine d_p 12 rfl (p_indexAddr rfl rfl rfl sl_37 (k) (by omega) (by omega) hrk) (by kernel_rfl) rfl rfl ?_
                        refine d_q 13 [] rfl (q_load_at rfl rfl sz_4 (fun w h => by have h9 := ((HS.sub_open (sub := brS) (l := R) (i := i) (by omega) (h.pick aPk)).rw_own (vals := boV) (fun _ => rfl) (a := (nth R i).a) (cap := (nth R i).c) (l := (nth R i).l) .here rfl).rdj (i := k) 0 (by omega) rfl; rw [hrk] at h9; exact h9)) (by kernel_rfl) (by kernel_rfl) (by kernel_rfl) rfl ?_
                        refine d_p 14 rfl (p_neq_bool rfl rfl rfl Try.underlying4) (by kernel_rfl) rfl rfl ?_
                        refine d_nil (by kernel_rfl) (fun w h => h.ent aEt) ?_
                        refine s_cond rfl (fun h18 => ?_) (fun h18 => ?_)
                        · try simp only [decide_eq_true_eq, decide_eq_false_iff_not, Bool.not_eq_true', Bool.not_eq_false', Bool.and_eq_true, Bool.or_eq_true, Bool.and_eq_false_iff, Bool.or_eq_false_iff, Bool.not_true, Bool.not_false] at h18
                          exfalso; have hq := h18; rw [hGR] at hq; simp at hq
                        · try simp only [decide_eq_true_eq, decide_eq_false_iff_not, Bool.not_eq_true', Bool.not_eq_false', Bool.and_eq_true, Bool.or_eq_true, Bool.and_eq_false_iff, Bool.or_eq_false_iff, Bool.not_true, Bool.not_false] at h18
                          refine s_skip ?_
                          refine s_blk ?_
                          refine s_region ?_
                          refine o_p (p_pure rfl) rfl ?_
                          refine o_p (p_pure rfl) rfl ?_
                          try (refine o_slot (i64w (by omega) (by omega)) ?_)
                          refine o_p (p_pure rfl) rfl ?_
                          refine o_nil ?_
                          exact s_backI (k + 1) (by omega) (by omega) aSx (fun w h => h)
                      · try simp only [decide_eq_true_eq, decide_eq_false_iff_not, Bool.not_eq_true', Bool.not_eq_false', Bool.and_eq_true, Bool.or_eq_true, Bool.and_eq_false_iff, Bool.or_eq_false_iff, Bool.not_true, Bool.not_false] at h17
                        refine s_exit_to rfl ?_
                        refine s_blk ?_
                        refine s_region ?_
                        refine o_p (p_pure rfl) rfl ?_
                        refine o_p (p_pure rfl) rfl ?_
                        try (refine o_slot (i64w (by omega) (by omega)) ?_)
                        refine o_p (p_pure rfl) rfl ?_
                        refine o_nil ?_
                        exact s_backI (i + 1) (by omega) (by omega) aSx (fun w h => h.ent aEt)
                  · try simp only [decide_eq_true_eq, decide_eq_false_iff_not, Bool.not_eq_true', Bool.not_eq_false', Bool.and_eq_true, Bool.or_eq_true, Bool.and_eq_false_iff, Bool.or_eq_false_iff, Bool.not_true, Bool.not_false] at h15
                    refine s_exit_to rfl ?_
                    refine s_seq ?_
                    refine s_region ?_
                    refine o_p (p_pure rfl) rfl ?_
                    refine o_nil ?_
                    exact s_retv (rs := [.tmp 4]) rfl (.tmp rfl (.nil)) (fun w' h' => ⟨by rfl, h'.below⟩)
              · intro hg19
                have hs20 := hg19; try simp only [decide_eq_true_eq, decide_eq_false_iff_not, Bool.not_eq_true', Bool.not_eq_false', Bool.and_eq_true, Bool.or_eq_true, Bool.and_eq_false_iff, Bool.or_eq_false_iff, Bool.not_true, Bool.not_false] at hs20
                refine d_pon 14 71 rfl rfl rfl hg19 (p_pure rfl) (by kernel_rfl) rfl rfl ?_
                refine d_pon 15 71 rfl rfl rfl hg19 (p_len_slice rfl rfl Try.underlying95) (by kernel_rfl) rfl rfl ?_
                refine d_pon 16 71 rfl rfl rfl hg19 (p_pure rfl) (by kernel_rfl) rfl rfl ?_
                refine d_pon 17 71 rfl rfl rfl hg19 (p_len_slice rfl rfl Try.underlying95) (by kernel_rfl) rfl rfl ?_
                refine d_pon 18 71 rfl rfl rfl hg19 (p_pure rfl) (by kernel_rfl) rfl rfl ?_
                refine d_p 19 rfl (p_pickf rfl rfl hg19 rfl) (by kernel_rfl) rfl rfl ?_
                refine d_nil (by kernel_rfl) (fun w h => h.ent aEt) ?_
                refine s_cond rfl (fun h21 => ?_) (fun h21 => ?_)
                · try simp only [decide_eq_true_eq, decide_eq_false_iff_not, Bool.not_eq_true', Bool.not_eq_false', Bool.and_eq_true, Bool.or_eq_true, Bool.and_eq_false_iff, Bool.or_eq_false_iff, Bool.not_true, Bool.not_false] at h21
                  exfalso; first | (have hq := h21; rw [hG1, hR1] at hq; simp at hq; done) | simp_all
                · try simp only [decide_eq_true_eq, decide_eq_false_iff_not, Bool.not_eq_true', Bool.not_eq_false', Bool.and_eq_true, Bool.or_eq_true, Bool.and_eq_false_iff, Bool.or_eq_false_iff, Bool.not_true, Bool.not_false] at h21
                  refine s_skip ?_
                  refine s_seq ?_
                  refine s_seq ?_
                  refine s_region ?_
                  refine o_p (p_pure rfl) rfl ?_
                  refine o_nil ?_
                  refine s_block ?_
                  refine s_weaken (L' := [(4, _), (7, _), (10, _), (11, _)]) aSx (fun _ h => h) ?_
                  refine s_loopI (α := Nat) [4, 11, 12, 78, 79, 80, 81, 82, 83, 84, 85, 86, 87, 88, 89, 90, 91, 92, 93, 94, 95, 96, 97, 98, 99, 100, 101, 102, 103, 104, 105, 106, 107, 108, 109, 110, 111, 112, 113, 114, 115, 116, 117, 118] (fun i => [(11, .int .i64 (i : Int))]) (fun _ => HS w [] [.own (.slice ga G.length gc) 37 1 G.length (G.flatMap brV), .star (G.map brS), .own (.slice ra R.length rc2) 37 1 R.length (R.flatMap brV), .star (R.map brS)]) (fun i => i ≤ G.length) (fun i => G.length - i) 0 (Nat.zero_le _) aSx (fun w h => h.ent aEt) (fun i hi1 => ?_)
                  refine s_seq ?_
                  refine s_seq ?_
                  refine s_region ?_
                  refine o_p (p_pure rfl) rfl ?_
                  refine o_p (p_pure rfl) rfl ?_
                  refine o_p (p_len_slice rfl rfl Try.underlying95) rfl ?_
                  refine o_p (p_pure rfl) rfl ?_
                  refine o_nil ?_
                  refine s_cond rfl (fun h22 => ?_) (fun h22 => ?_)
                  · try simp only [decide_eq_true_eq, decide_eq_false_iff_not, Bool.not_eq_true', Bool.not_eq_false', Bool.and_eq_true, Bool.or_eq_true, Bool.and_eq_false_iff, Bool.or_eq_false_iff, Bool.not_true, Bool.not_false] at h22
                    have hiG : i < G.length := by omega
                    have hiF : i < (nth (pls L) (bsL (cmps (pls L) rc sq))).op.length := by omega
                    have hGl : (nth G i).l.length = (nth (pls L) (bsL (cmps (pls L) rc sq))).op.length := by rw [hG2 i hiF, rowF_len]
                    have hRl : (nth R i).l.length = (nth (pls L) (bsL (cmps (pls L) rc sq))).op.length := by rw [hR2 i hiF, rowF_len]
                    refine s_fact (fun w h => own_addr (a := ga) (cap := gc) (n := G.length) (by omega) h aPk) (fun hga => ?_)
                    obtain ⟨gg, hgg, _, _⟩ := hga
                    refine s_fact (fun w h => own_addr (a := ra) (cap := rc2) (n := R.length) (by omega) h aPk) (fun hga => ?_)
                    obtain ⟨gr, hgr, _, _⟩ := hga
                    refine s_skip ?_
                    refine s_seq ?_
                    refine s_block ?_
                    refine s_seq ?_
                    refine s_seq ?_
                    refine s_draw [] mixed ?_
                    refine d_p 0 rfl (p_pure rfl) (by kernel_rfl) rfl rfl ?_
                    refine d_p 1 rfl (p_pure rfl) (by kernel_rfl) rfl rfl ?_
                    refine d_p 2 rfl (p_indexAddr rfl rfl rfl sl_95 (i) (by omega) (by omega) hgg) (by kernel_rfl) rfl rfl ?_
                    refine d_q 3 [] rfl (q_load_at rfl rfl sz_37 (fun w h => by have h9 := (h.rw_own (vals := brV) br1 (a := ga) (cap := gc) (l := G) aPk rfl).rdj 0 hiG rfl; rw [hgg] at h9; exact h9)) (by kernel_rfl) (by kernel_rfl) (by kernel_rfl) rfl ?_
                    refine d_p 4 rfl (p_len_slice rfl rfl Try.underlying37) (by kernel_rfl) rfl rfl ?_
                    refine d_p 5 rfl (p_pure rfl) (by kernel_rfl) rfl rfl ?_
                    refine d_p 6 rfl (p_pure rfl) (by kernel_rfl) rfl rfl ?_
                    refine d_p 7 rfl (p_indexAddr rfl rfl rfl sl_95 (i) (by omega) (by omega) hgr) (by kernel_rfl) rfl rfl ?_
                    refine d_q 8 [] rfl (q_load_at rfl rfl sz_37 (fun w h => by have h9 := (h.rw_own (vals := brV) br1 (a := ra) (cap := rc2) (l := R) aPk rfl).rdj 0 (by omega : i < R.length) rfl; rw [hgr] at h9; exact h9)) (by kernel_rfl) (by kernel_rfl) (by kernel_rfl) rfl ?_
                    refine d_p 9 rfl (p_len_slice rfl rfl Try.underlying37) (by kernel_rfl) rfl rfl ?_
                    refine d_p 10 rfl (p_pure rfl) (by kernel_rfl) rfl rfl ?_
                    refine d_nil (by kernel_rfl) (fun w h => h.ent aEt) ?_
                    refine s_cond rfl (fun h23 => ?_) (fun h23 => ?_)
                    · try simp only [decide_eq_true_eq, decide_eq_false_iff_not, Bool.not_eq_true', Bool.not_eq_false', Bool.and_eq_true, Bool.or_eq_true, Bool.and_eq_false_iff, Bool.or_eq_false_iff, Bool.not_true, Bool.not_false] at h23
                      exfalso; have hq := h23; rw [hGl, hRl] at hq; simp at hq
                    · try simp only [decide_eq_true_eq, decide_eq_false_iff_not, Bool.not_eq_true', Bool.not_eq_false', Bool.and_eq_true, Bool.or_eq_true, Bool.and_eq_false_iff, Bool.or_eq_false_iff, Bool.not_true, Bool.not_false] at h23
                      refine s_skip ?_
                      refine s_seq ?_
                      refine s_region ?_
                      refine o_p (p_pure rfl) rfl ?_
                      refine o_nil ?_
                      refine s_block ?_
                      refine s_weaken (L' := [(7, _), (10, _), (11, _), (12, _)]) aSx (fun _ h => h) ?_
                      refine s_loopI (α := Nat) [4, 12, 95, 96, 97, 98, 99, 100, 101, 102, 103, 104, 105, 106, 107, 108, 109, 110, 111, 112, 113, 114, 115, 116, 117, 118] (fun k => [(12, .int .i64 (k : Int))]) (fun _ => _) (fun k => k ≤ (nth (pls L) (bsL (cmps (pls L) rc sq))).op.length) (fun k => (nth (pls L) (bsL (cmps (pls L) rc sq))).op.length - k) 0 (Nat.zero_le _) aSx (fun w h => h) (fun k hk1 => ?_)
                      refine s_seq ?_
                      refine s_seq ?_
                      refine s_region ?_
                      refine o_p (p_pure rfl) rfl ?_
                      refine o_p (p_pure rfl) rfl ?_
                      refine o_p (p_pure rfl) rfl ?_
                      refine o_p (p_indexAddr rfl rfl rfl sl_95 (i) (by omega) (by omega) hgg) rfl ?_
                      refine o_q (q_load_at rfl rfl sz_37 (fun w h => by have h9 := (h.rw_own (vals := brV) br1 (a := ga) (cap := gc) (l := G) aPk rfl).rdj 0 hiG rfl; rw [hgg] at h9; exact h9)) rfl ?_
                      refine o_p (p_len_slice rfl rfl Try.underlying37) rfl ?_
                      refine o_p (p_pure rfl) rfl ?_
                      refine o_nil ?_
                      refine s_cond rfl (fun h24 => ?_) (fun h24 => ?_)
                      · try simp only [decide_eq_true_eq, decide_eq_false_iff_not, Bool.not_eq_true', Bool.not_eq_false', Bool.and_eq_true, Bool.or_eq_true, Bool.and_eq_false_iff, Bool.or_eq_false_iff, Bool.not_true, Bool.not_false] at h24
                        have hkF : k < (nth (pls L) (bsL (cmps (pls L) rc sq))).op.length := by omega
                        have hGR : nth (nth G i).l k = nth (nth R i).l k := by rw [hG2 i hiF, hR2 i hiF]
                        refine s_fact (fun w h => own_addr (a := (nth G i).a) (cap := (nth G i).c) (n := (nth G i).l.length) (by omega) (HS.sub_open (sub := brS) (l := G) (i := i) (by omega) (h.pick aPk)) .here) (fun hga => ?_)
                        obtain ⟨gk, hgk, _, _⟩ := hga
                        refine s_fact (fun w h => own_addr (a := (nth R i).a) (cap := (nth R i).c) (n := (nth R i).l.length) (by omega) (HS.sub_open (sub := brS) (l := R) (i := i) (by omega) (h.pick aPk)) .here) (fun hga => ?_)
                        obtain ⟨rk, hrk, _, _⟩ := hga
                        refine s_skip ?_
                        refine s_seq ?_
                        refine s_block ?_
                        refine s_seq ?_
                        refine s_draw [] mixed ?_
                        refine d_p 0 rfl (p_pure rfl) (by kernel_rfl) rfl rfl ?_
                        refine d_p 1 rfl (p_pure rfl) (by kernel_rfl) rfl rfl ?_
                        refine d_p 2 rfl (p_indexAddr rfl rfl rfl sl_95 (i) (by omega) (by omega) hgg) (by kernel_rfl) rfl rfl ?_
                        refine d_q 3 [] rfl (q_load_at rfl rfl sz_37 (fun w h => by have h9 := (h.rw_own (vals := brV) br1 (a := ga) (cap := gc) (l := G) aPk rfl).rdj 0 hiG rfl; rw [hgg] at h9; exact h9)) (by kernel_rfl) (by kernel_rfl) (by kernel_rfl) rfl ?_
                        refine d_p 4 rfl (p_pure rfl) (by kernel_rfl) rfl rfl ?_
                        refine d_p 5 rfl (p_indexAddr rfl rfl rfl sl_37 (k) (by omega) (by omega) hgk) (by kernel_rfl) rfl rfl ?_
                        refine d_q 6 [] rfl (q_load_at rfl rfl sz_4 (fun w h => by have h9 := ((HS.sub_open (sub := brS) (l := G) (i := i) (by omega) (h.pick aPk)).rw_own (vals := boV) (fun _ => rfl) (a := (nth G i).a) (cap := (nth G i).c) (l := (nth G i).l) .here rfl).rdj (i := k) 0 (by omega) rfl; rw [hgk] at h9; exact h9)) (by kernel_rfl) (by kernel_rfl) (by kernel_rfl) rfl ?_
                        refine d_p 7 rfl (p_pure rfl) (by kernel_rfl) rfl rfl ?_
                        refine d_p 8 rfl (p_pure rfl) (by kernel_rfl) rfl rfl ?_
                        refine d_p 9 rfl (p_indexAddr rfl rfl rfl sl_95 (i) (by omega) (by omega) hgr) (by kernel_rfl) rfl rfl ?_
                        refine d_q 10 [] rfl (q_load_at rfl rfl sz_37 (fun w h => by have h9 := (h.rw_own (vals := brV) br1 (a := ra) (cap := rc2) (l := R) aPk rfl).rdj 0 (by omega : i < R.length) rfl; rw [hgr] at h9; exact h9)) (by kernel_rfl) (by kernel_rfl) (by kernel_rfl) rfl ?_
                        refine d_p 11 rfl (p_pure rfl) (by kernel_rfl) rfl rfl ?_
                        refine d_p 12 rfl (p_indexAddr rfl rfl rfl sl_37 (k) (by omega) (by omega) hrk) (by kernel_rfl) rfl rfl ?_
                        refine d_q 13 [] rfl (q_load_at rfl rfl sz_4 (fun w h => by have h9 := ((HS.sub_open (sub := brS) (l := R) (i := i) (by omega) (h.pick aPk)).rw_own (vals := boV) (fun _ => rfl) (a := (nth R i).a) (cap := (nth R i).c) (l := (nth R i).l) .here rfl).rdj (i := k) 0 (by omega) rfl; rw [hrk] at h9; exact h9)) (by kernel_rfl) (by kernel_rfl) (by kernel_rfl) rfl ?_
                        refine d_p 14 rfl (p_neq_bool rfl rfl rfl Try.underlying4) (by kernel_rfl) rfl rfl ?_
                        refine d_nil (by kernel_rfl) (fun w h => h.ent aEt) ?_
                        refine s_cond rfl (fun h25 => ?_) (fun h25 => ?_)
                        · try simp only [decide_eq_true_eq, decide_eq_false_iff_not, Bool.not_eq_true', Bool.not_eq_false', Bool.and_eq_true, Bool.or_eq_true, Bool.and_eq_false_iff, Bool.or_eq_false_iff, Bool.not_true, Bool.not_false] at h25
                          exfalso; have hq := h25; rw [hGR] at hq; simp at hq
                        · try simp only [decide_eq_true_eq, decide_eq_false_iff_not, Bool.not_eq_true', Bool.not_eq_false', Bool.and_eq_true, Bool.or_eq_true, Bool.and_eq_false_iff, Bool.or_eq_false_iff, Bool.not_true, Bool.not_false] at h25
                          refine s_skip ?_
                          refine s_blk ?_
                          refine s_region ?_
                          refine o_p (p_pure rfl) rfl ?_
                          refine o_p (p_pure rfl) rfl ?_
                          try (refine o_slot (i64w (by omega) (by omega)) ?_)
                          refine o_p (p_pure rfl) rfl ?_
                          refine o_nil ?_
                          exact s_backI (k + 1) (by omega) (by omega) aSx (fun w h => h)
                      · try simp only [decide_eq_true_eq, decide_eq_false_iff_not, Bool.not_eq_true', Bool.not_eq_false', Bool.and_eq_true, Bool.or_eq_true, Bool.and_eq_false_iff, Bool.or_eq_false_iff, Bool.not_true, Bool.not_false] at h24
                        refine s_exit_to rfl ?_
                        refine s_blk ?_
                        refine s_region ?_
                        refine o_p (p_pure rfl) rfl ?_
                        refine o_p (p_pure rfl) rfl ?_
                        try (refine o_slot (i64w (by omega) (by omega)) ?_)
                        refine o_p (p_pure rfl) rfl ?_
                        refine o_nil ?_
                        exact s_backI (i + 1) (by omega) (by omega) aSx (fun w h => h.ent aEt)
                  · try simp only [decide_eq_true_eq, decide_eq_false_iff_not, Bool.not_eq_true', Bool.not_eq_false', Bool.and_eq_true, Bool.or_eq_true, Bool.and_eq_false_iff, Bool.or_eq_false_iff, Bool.not_true, Bool.not_false] at h22
                    refine s_exit_to rfl ?_
                    refine s_seq ?_
                    refine s_region ?_
                    refine o_p (p_pure rfl) rfl ?_
                    refine o_nil ?_
                    exact s_retv (rs := [.tmp 4]) rfl (.tmp rfl (.nil)) (fun w' h' => ⟨by rfl, h'.below⟩)
            · intro hg26
              have hs27 := hg26; try simp only [decide_eq_true_eq, decide_eq_false_iff_not, Bool.not_eq_true', Bool.not_eq_false', Bool.and_eq_true, Bool.or_eq_true, Bool.and_eq_false_iff, Bool.or_eq_false_iff, Bool.not_true, Bool.not_false] at hs27
              refine d_pon 10 67 rfl rfl rfl hg26 (p_pure rfl) (by kernel_rfl) rfl rfl ?_
              refine d_pon 11 67 rfl rfl rfl hg26 (p_pure rfl) (by kernel_rfl) rfl rfl ?_
              refine d_p 12 rfl (p_pickf rfl rfl hg26 rfl) (by kernel_rfl) rfl rfl ?_
              refine d_p 13 rfl (p_pure rfl) (by kernel_rfl) rfl rfl ?_
              apply d_split 71
              · exact rfl
              · intro hg28
                have hs29 := hg28; try simp only [decide_eq_true_eq, decide_eq_false_iff_not, Bool.not_eq_true', Bool.not_eq_false', Bool.and_eq_true, Bool.or_eq_true, Bool.and_eq_false_iff, Bool.or_eq_false_iff, Bool.not_true, Bool.not_false] at hs29
                refine d_off 14 71 rfl rfl rfl hg28 (by kernel_rfl) rfl rfl ?_
                refine d_off 15 71 rfl rfl rfl hg28 (by kernel_rfl) rfl rfl ?_
                refine d_off 16 71 rfl rfl rfl hg28 (by kernel_rfl) rfl rfl ?_
                refine d_off 17 71 rfl rfl rfl hg28 (by kernel_rfl) rfl rfl ?_
                refine d_off 18 71 rfl rfl rfl hg28 (by kernel_rfl) rfl rfl ?_
                refine d_p 19 rfl (p_pickt rfl rfl hg28 rfl) (by kernel_rfl) rfl rfl ?_
                refine d_nil (by kernel_rfl) (fun w h => h.ent aEt) ?_
                refine s_cond rfl (fun h30 => ?_) (fun h30 => ?_)
                · try simp only [decide_eq_true_eq, decide_eq_false_iff_not, Bool.not_eq_true', Bool.not_eq_false', Bool.and_eq_true, Bool.or_eq_true, Bool.and_eq_false_iff, Bool.or_eq_false_iff, Bool.not_true, Bool.not_false] at h30
                  exfalso; first | (have hq := h30; rw [hG1, hR1] at hq; simp at hq; done) | simp_all
                · try simp only [decide_eq_true_eq, decide_eq_false_iff_not, Bool.not_eq_true', Bool.not_eq_false', Bool.and_eq_true, Bool.or_eq_true, Bool.and_eq_false_iff, Bool.or_eq_false_iff, Bool.not_true, Bool.not_false] at h30
                  refine s_skip ?_
                  refine s_seq ?_
                  refine s_seq ?_
                  refine s_region ?_
                  refine o_p (p_pure rfl) rfl ?_
                  refine o_nil ?_
                  refine s_block ?_
                  refine s_weaken (L' := [(4, _), (7, _), (10, _), (11, _)]) aSx (fun _ h => h) ?_
                  refine s_loopI (α := Nat) [4, 11, 12, 78, 79, 80, 81, 82, 83, 84, 85, 86, 87, 88, 89, 90, 91, 92, 93, 94, 95, 96, 97, 98, 99, 100, 101, 102, 103, 104, 105, 106, 107, 108, 109, 110, 111, 112, 113, 114, 115, 116, 117, 118] (fun i => [(11, .int .i64 (i : Int))]) (fun _ => HS w [] [.own (.slice ga G.length gc) 37 1 G.length (G.flatMap brV), .star (G.map brS), .own (.slice ra R.length rc2) 37 1 R.length (R.flatMap brV), .star (R.map brS)]) (fun i => i ≤ G.length) (fun i => G.length - i) 0 (Nat.zero_le _) aSx (fun w h => h.ent aEt) (fun i hi1 => ?_)
                  refine s_seq ?_
                  refine s_seq ?_
                  refine s_region ?_
                  refine o_p (p_pure rfl) rfl ?_
                  refine o_p (p_pure rfl) rfl ?_
                  refine o_p (p_len_slice rfl rfl Try.underlying95) rfl ?_
                  refine o_p (p_pure rfl) rfl ?_
                  refine o_nil ?_
                  refine s_cond rfl (fun h31 => ?_) (fun h31 => ?_)
                  · try simp only [decide_eq_true_eq, decide_eq_false_iff_not, Bool.not_eq_true', Bool.not_eq_false', Bool.and_eq_true, Bool.or_eq_true, Bool.and_eq_false_iff, Bool.or_eq_false_iff, Bool.not_true, Bool.not_false] at h31
                    have hiG : i < G.length := by omega
                    have hiF : i < (nth (pls L) (bsL (cmps (pls L) rc sq))).op.length := by omega
                    have hGl : (nth G i).l.length = (nth (pls L) (bsL (cmps (pls L) rc sq))).op.length := by rw [hG2 i hiF, rowF_len]
                    have hRl : (nth R i).l.length = (nth (pls L) (bsL (cmps (pls L) rc sq))).op.length := by rw [hR2 i hiF, rowF_len]
                    refine s_fact (fun w h => own_addr (a := ga) (cap := gc) (n := G.length) (by omega) h aPk) (fun hga => ?_)
                    obtain ⟨gg, hgg, _, _⟩ := hga
                    refine s_fact (fun w h => own_addr (a := ra) (cap := rc2) (n := R.length) (by omega) h aPk) (fun hga => ?_)
                    obtain ⟨gr, hgr, _, _⟩ := hga
                    refine s_skip ?_
                    refine s_seq ?_
                    refine s_block ?_
                    refine s_seq ?_
                    refine s_seq ?_
                    refine s_draw [] mixed ?_
                    refine d_p 0 rfl (p_pure rfl) (by kernel_rfl) rfl rfl ?_
                    refine d_p 1 rfl (p_pure rfl) (by kernel_rfl) rfl rfl ?_
                    refine d_p 2 rfl (p_indexAddr rfl rfl rfl sl_95 (i) (by omega) (by omega) hgg) (by kernel_rfl) rfl rfl ?_
                    refine d_q 3 [] rfl (q_load_at rfl rfl sz_37 (fun w h => by have h9 := (h.rw_own (vals := brV) br1 (a := ga) (cap := gc) (l := G) aPk rfl).rdj 0 hiG rfl; rw [hgg] at h9; exact h9)) (by kernel_rfl) (by kernel_rfl) (by kernel_rfl) rfl ?_
                    refine d_p 4 rfl (p_len_slice rfl rfl Try.underlying37) (by kernel_rfl) rfl rfl ?_
                    refine d_p 5 rfl (p_pure rfl) (by kernel_rfl) rfl rfl ?_
                    refine d_p 6 rfl (p_pure rfl) (by kernel_rfl) rfl rfl ?_
                    refine d_p 7 rfl (p_indexAddr rfl rfl rfl sl_95 (i) (by omega) (by omega) hgr) (by kernel_rfl) rfl rfl ?_
                    refine d_q 8 [] rfl (q_load_at rfl rfl sz_37 (fun w h => by have h9 := (h.rw_own (vals := brV) br1 (a := ra) (cap := rc2) (l := R) aPk rfl).rdj 0 (by omega : i < R.length) rfl; rw [hgr] at h9; exact h9)) (by kernel_rfl) (by kernel_rfl) (by kernel_rfl) rfl ?_
                    refine d_p 9 rfl (p_len_slice rfl rfl Try.underlying37) (by kernel_rfl) rfl rfl ?_
                    refine d_p 10 rfl (p_pure rfl) (by kernel_rfl) rfl rfl ?_
                    refine d_nil (by kernel_rfl) (fun w h => h.ent aEt) ?_
                    refine s_cond rfl (fun h32 => ?_) (fun h32 => ?_)
                    · try simp only [decide_eq_true_eq, decide_eq_false_iff_not, Bool.not_eq_true', Bool.not_eq_false', Bool.and_eq_true, Bool.or_eq_true, Bool.and_eq_false_iff, Bool.or_eq_false_iff, Bool.not_true, Bool.not_false] at h32
                      exfalso; have hq := h32; rw [hGl, hRl] at hq; simp at hq
                    · try simp only [decide_eq_true_eq, decide_eq_false_iff_not, Bool.not_eq_true', Bool.not_eq_false', Bool.and_eq_true, Bool.or_eq_true, Bool.and_eq_false_iff, Bool.or_eq_false_iff, Bool.not_true, Bool.not_false] at h32
                      refine s_skip ?_
                      refine s_seq ?_
                      refine s_region ?_
                      refine o_p (p_pure rfl) rfl ?_
                      refine o_nil ?_
                      refine s_block ?_
                      refine s_weaken (L' := [(7, _), (10, _), (11, _), (12, _)]) aSx (fun _ h => h) ?_
                      refine s_loopI (α := Nat) [4, 12, 95, 96, 97, 98, 99, 100, 101, 102, 103, 104, 105, 106, 107, 108, 109, 110, 111, 112, 113, 114, 115, 116, 117, 118] (fun k => [(12, .int .i64 (k : Int))]) (fun _ => _) (fun k => k ≤ (nth (pls L) (bsL (cmps (pls L) rc sq))).op.length) (fun k => (nth (pls L) (bsL (cmps (pls L) rc sq))).op.length - k) 0 (Nat.zero_le _) aSx (fun w h => h) (fun k hk1 => ?_)
                      refine s_seq ?_
                      refine s_seq ?_
                      refine s_region ?_
                      refine o_p (p_pure rfl) rfl ?_
                      refine o_p (p_pure rfl) rfl ?_
                      refine o_p (p_pure rfl) rfl ?_
                      refine o_p (p_indexAddr rfl rfl rfl sl_95 (i) (by omega) (by omega) hgg) rfl ?_
                      refine o_q (q_load_at rfl rfl sz_37 (fun w h => by have h9 := (h.rw_own (vals := brV) br1 (a := ga) (cap := gc) (l := G) aPk rfl).rdj 0 hiG rfl; rw [hgg] at h9; exact h9)) rfl ?_
                      refine o_p (p_len_slice rfl rfl Try.underlying37) rfl ?_
                      refine o_p (p_pure rfl) rfl ?_
                      refine o_nil ?_
                      refine s_cond rfl (fun h33 => ?_) (fun h33 => ?_)
                      · try simp only [decide_eq_true_eq, decide_eq_false_iff_not, Bool.not_eq_true', Bool.not_eq_false', Bool.and_eq_true, Bool.or_eq_true, Bool.and_eq_false_iff, Bool.or_eq_false_iff, Bool.not_true, Bool.not_false] at h33
                        have hkF : k < (nth (pls L) (bsL (cmps (pls L) rc sq))).op.length := by omega
                        have hGR : nth (nth G i).l k = nth (nth R i).l k := by rw [hG2 i hiF, hR2 i hiF]
                        refine s_fact (fun w h => own_addr (a := (nth G i).a) (cap := (nth G i).c) (n := (nth G i).l.length) (by omega) (HS.sub_open (sub := brS) (l := G) (i := i) (by omega) (h.pick aPk)) .here) (fun hga => ?_)
                        obtain ⟨gk, hgk, _, _⟩ := hga
                        refine s_fact (fun w h => own_addr (a := (nth R i).a) (cap := (nth R i).c) (n := (nth R i).l.length) (by omega) (HS.sub_open (sub := brS) (l := R) (i := i) (by omega) (h.pick aPk)) .here) (fun hga => ?_)
                        obtain ⟨rk, hrk, _, _⟩ := hga
                        refine s_skip ?_
                        refine s_seq ?_
                        refine s_block ?_
                        refine s_seq ?_
                        refine s_draw [] mixed ?_
                        refine d_p 0 rfl (p_pure rfl) (by kernel_rfl) rfl rfl ?_
                        refine d_p 1 rfl (p_pure rfl) (by kernel_rfl) rfl rfl ?_
                        refine d_p 2 rfl (p_indexAddr rfl rfl rfl sl_95 (i) (by omega) (by omega) hgg) (by kernel_rfl) rfl rfl ?_
                        refine d_q 3 [] rfl (q_load_at rfl rfl sz_37 (fun w h => by have h9 := (h.rw_own (vals := brV) br1 (a := ga) (cap := gc) (l := G) aPk rfl).rdj 0 hiG rfl; rw [hgg] at h9; exact h9)) (by kernel_rfl) (by kernel_rfl) (by kernel_rfl) rfl ?_
                        refine d_p 4 rfl (p_pure rfl) (by kernel_rfl) rfl rfl ?_
                        refine d_p 5 rfl (p_indexAddr rfl rfl rfl sl_37 (k) (by omega) (by omega) hgk) (by kernel_rfl) rfl rfl ?_
                        refine d_q 6 [] rfl (q_load_at rfl rfl sz_4 (fun w h => by have h9 := ((HS.sub_open (sub := brS) (l := G) (i := i) (by omega) (h.pick aPk)).rw_own (vals := boV) (fun _ => rfl) (a := (nth G i).a) (cap := (nth G i).c) (l := (nth G i).l) .here rfl).rdj (i := k) 0 (by omega) rfl; rw [hgk] at h9; exact h9)) (by kernel_rfl) (by kernel_rfl) (by kernel_rfl) rfl ?_
                        refine d_p 7 rfl (p_pure rfl) (by kernel_rfl) rfl rfl ?_
                        refine d_p 8 rfl (p_pure rfl) (by kernel_rfl) rfl rfl ?_
                        refine d_p 9 rfl (p_indexAddr rfl rfl rfl sl_95 (i) (by omega) (by omega) hgr) (by kernel_rfl) rfl rfl ?_
                        refine d_q 10 [] rfl (q_load_at rfl rfl sz_37 (fun w h => by have h9 := (h.rw_own (vals := brV) br1 (a := ra) (cap := rc2) (l := R) aPk rfl).rdj 0 (by omega : i < R.length) rfl; rw [hgr] at h9; exact h9)) (by kernel_rfl) (by kernel_rfl) (by kernel_rfl) rfl ?_
                        refine d_p 11 rfl (p_pure rfl) (by kernel_rfl) rfl rfl ?_
                        refine d_p 12 rfl (p_indexAddr rfl rfl rfl sl_37 (k) (by omega) (by omega) hrk) (by kernel_rfl) rfl rfl ?_
                        refine d_q 13 [] rfl (q_load_at rfl rfl sz_4 (fun w h => by have h9 := ((HS.sub_open (sub := brS) (l := R) (i := i) (by omega) (h.pick aPk)).rw_own (vals := boV) (fun _ => rfl) (a := (nth R i).a) (cap := (nth R i).c) (l := (nth R i).l) .here rfl).rdj (i := k) 0 (by omega) rfl; rw [hrk] at h9; exact h9)) (by kernel_rfl) (by kernel_rfl) (by kernel_rfl) rfl ?_
                        refine d_p 14 rfl (p_neq_bool rfl rfl rfl Try.underlying4) (by kernel_rfl) rfl rfl ?_
                        refine d_nil (by kernel_rfl) (fun w h => h.ent aEt) ?_
                        refine s_cond rfl (fun h34 => ?_) (fun h34 => ?_)
                        · try simp only [decide_eq_true_eq, decide_eq_false_iff_not, Bool.not_eq_true', Bool.not_eq_false', Bool.and_eq_true, Bool.or_eq_true, Bool.and_eq_false_iff, Bool.or_eq_false_iff, Bool.not_true, Bool.not_false] at h34
                          exfalso; have hq := h34; rw [hGR] at hq; simp at hq
                        · try simp only [decide_eq_true_eq, decide_eq_false_iff_not, Bool.not_eq_true', Bool.not_eq_false', Bool.and_eq_true, Bool.or_eq_true, Bool.and_eq_false_iff, Bool.or_eq_false_iff, Bool.not_true, Bool.not_false] at h34
                          refine s_skip ?_
                          refine s_blk ?_
                          refine s_region ?_
                          refine o_p (p_pure rfl) rfl ?_
                          refine o_p (p_pure rfl) rfl ?_
                          try (refine o_slot (i64w (by omega) (by omega)) ?_)
                          refine o_p (p_pure rfl) rfl ?_
                          refine o_nil ?_
                          exact s_backI (k + 1) (by omega) (by omega) aSx (fun w h => h)
                      · try simp only [decide_eq_true_eq, decide_eq_false_iff_not, Bool.not_eq_true', Bool.not_eq_false', Bool.and_eq_true, Bool.or_eq_true, Bool.and_eq_false_iff, Bool.or_eq_false_iff, Bool.not_true, Bool.not_false] at h33
                        refine s_exit_to rfl ?_
                        refine s_blk ?_
                        refine s_region ?_
                        refine o_p (p_pure rfl) rfl ?_
                        refine o_p (p_pure rfl) rfl ?_
                        try (refine o_slot (i64w (by omega) (by omega)) ?_)
                        refine o_p (p_pure rfl) rfl ?_
                        refine o_nil ?_
                        exact s_backI (i + 1) (by omega) (by omega) aSx (fun w h => h.ent aEt)
                  · try simp only [decide_eq_true_eq, decide_eq_false_iff_not, Bool.not_eq_true', Bool.not_eq_false', Bool.and_eq_true, Bool.or_eq_true, Bool.and_eq_false_iff, Bool.or_eq_false_iff, Bool.not_true, Bool.not_false] at h31
                    refine s_exit_to rfl ?_
                    refine s_seq ?_
                    refine s_region ?_
                    refine o_p (p_pure rfl) rfl ?_
                    refine o_nil ?_
                    exact s_retv (rs := [.tmp 4]) rfl (.tmp rfl (.nil)) (fun w' h' => ⟨by rfl, h'.below⟩)
              · intro hg35
                have hs36 := hg35; try simp only [decide_eq_true_eq, decide_eq_false_iff_not, Bool.not_eq_true', Bool.not_eq_false', Bool.and_eq_true, Bool.or_eq_true, Bool.and_eq_false_iff, Bool.or_eq_false_iff, Bool.not_true, Bool.not_false] at hs36
                refine d_pon 14 71 rfl rfl rfl hg35 (p_pure rfl) (by kernel_rfl) rfl rfl ?_
                refine d_pon 15 71 rfl rfl rfl hg35 (p_len_slice rfl rfl Try.underlying95) (by kernel_rfl) rfl rfl ?_
                refine d_pon 16 71 rfl rfl rfl hg35 (p_pure rfl) (by kernel_rfl) rfl rfl ?_
                refine d_pon 17 71 rfl rfl rfl hg35 (p_len_slice rfl rfl Try.underlying95) (by kernel_rfl) rfl rfl ?_
                refine d_pon 18 71 rfl rfl rfl hg35 (p_pure rfl) (by kernel_rfl) rfl rfl ?_
                refine d_p 19 rfl (p_pickf rfl rfl hg35 rfl) (by kernel_rfl) rfl rfl ?_
                refine d_nil (by kernel_rfl) (fun w h => h.ent aEt) ?_
                refine s_cond rfl (fun h37 => ?_) (fun h37 => ?_)
                · try simp only [decide_eq_true_eq, decide_eq_false_iff_not, Bool.not_eq_true', Bool.not_eq_false', Bool.and_eq_true, Bool.or_eq_true, Bool.and_eq_false_iff, Bool.or_eq_false_iff, Bool.not_true, Bool.not_false] at h37
                  exfalso; first | (have hq := h37; rw [hG1, hR1] at hq; simp at hq; done) | simp_all
                · try simp only [decide_eq_true_eq, decide_eq_false_iff_not, Bool.not_eq_true', Bool.not_eq_false', Bool.and_eq_true, Bool.or_eq_true, Bool.and_eq_false_iff, Bool.or_eq_false_iff, Bool.not_true, Bool.not_false] at h37
                  refine s_skip ?_
                  refine s_seq ?_
                  refine s_seq ?_
                  refine s_region ?_
                  refine o_p (p_pure rfl) rfl ?_
                  refine o_nil ?_
                  refine s_block ?_
                  refine s_weaken (L' := [(4, _), (7, _), (10, _), (11, _)]) aSx (fun _ h => h) ?_
                  refine s_loopI (α := Nat) [4, 11, 12, 78, 79, 80, 81, 82, 83, 84, 85, 86, 87, 88, 89, 90, 91, 92, 93, 94, 95, 96, 97, 98, 99, 100, 101, 102, 103, 104, 105, 106, 107, 108, 109, 110, 111, 112, 113, 114, 115, 116, 117, 118] (fun i => [(11, .int .i64 (i : Int))]) (fun _ => HS w [] [.own (.slice ga G.length gc) 37 1 G.length (G.flatMap brV), .star (G.map brS), .own (.slice ra R.length rc2) 37 1 R.length (R.flatMap brV), .star (R.map brS)]) (fun i => i ≤ G.length) (fun i => G.length - i) 0 (Nat.zero_le _) aSx (fun w h => h.ent aEt) (fun i hi1 => ?_)
                  refine s_seq ?_
                  refine s_seq ?_
                  refine s_region ?_
                  refine o_p (p_pure rfl) rfl ?_
                  refine o_p (p_pure rfl) rfl ?_
                  refine o_p (p_len_slice rfl rfl Try.underlying95) rfl ?_
                  refine o_p (p_pure rfl) rfl ?_
                  refine o_nil ?_
                  refine s_cond rfl (fun h38 => ?_) (fun h38 => ?_)
                  · try simp only [decide_eq_true_eq, decide_eq_false_iff_not, Bool.not_eq_true', Bool.not_eq_false', Bool.and_eq_true, Bool.or_eq_true, Bool.and_eq_false_iff, Bool.or_eq_false_iff, Bool.not_true, Bool.not_false] at h38
                    have hiG : i < G.length := by omega
                    have hiF : i < (nth (pls L) (bsL (cmps (pls L) rc sq))).op.length := by omega
                    have hGl : (nth G i).l.length = (nth (pls L) (bsL (cmps (pls L) rc sq))).op.length := by rw [hG2 i hiF, rowF_len]
                    have hRl : (nth R i).l.length = (nth (pls L) (bsL (cmps (pls L) rc sq))).op.length := by rw [hR2 i hiF, rowF_len]
                    refine s_fact (fun w h => own_addr (a := ga) (cap := gc) (n := G.length) (by omega) h aPk) (fun hga => ?_)
                    obtain ⟨gg, hgg, _, _⟩ := hga
                    refine s_fact (fun w h => own_addr (a := ra) (cap := rc2) (n := R.length) (by omega) h aPk) (fun hga => ?_)
                    obtain ⟨gr, hgr, _, _⟩ := hga
                    refine s_skip ?_
                    refine s_seq ?_
                    refine s_block ?_
                    refine s_seq ?_
                    refine s_seq ?_
                    refine s_draw [] mixed ?_
                    refine d_p 0 rfl (p_pure rfl) (by kernel_rfl) rfl rfl ?_
                    refine d_p 1 rfl (p_pure rfl) (by kernel_rfl) rfl rfl ?_
                    refine d_p 2 rfl (p_indexAddr rfl rfl rfl sl_95 (i) (by omega) (by omega) hgg) (by kernel_rfl) rfl rfl ?_
                    refine d_q 3 [] rfl (q_load_at rfl rfl sz_37 (fun w h => by have h9 := (h.rw_own (vals := brV) br1 (a := ga) (cap := gc) (l := G) aPk rfl).rdj 0 hiG rfl; rw [hgg] at h9; exact h9)) (by kernel_rfl) (by kernel_rfl) (by kernel_rfl) rfl ?_
                    refine d_p 4 rfl (p_len_slice rfl rfl Try.underlying37) (by kernel_rfl) rfl rfl ?_
                    refine d_p 5 rfl (p_pure rfl) (by kernel_rfl) rfl rfl ?_
                    refine d_p 6 rfl (p_pure rfl) (by kernel_rfl) rfl rfl ?_
                    refine d_p 7 rfl (p_indexAddr rfl rfl rfl sl_95 (i) (by omega) (by omega) hgr) (by kernel_rfl) rfl rfl ?_
                    refine d_q 8 [] rfl (q_load_at rfl rfl sz_37 (fun w h => by have h9 := (h.rw_own (vals := brV) br1 (a := ra) (cap := rc2) (l := R) aPk rfl).rdj 0 (by omega : i < R.length) rfl; rw [hgr] at h9; exact h9)) (by kernel_rfl) (by kernel_rfl) (by kernel_rfl) rfl ?_
                    refine d_p 9 rfl (p_len_slice rfl rfl Try.underlying37) (by kernel_rfl) rfl rfl ?_
                    refine d_p 10 rfl (p_pure rfl) (by kernel_rfl) rfl rfl ?_
                    refine d_nil (by kernel_rfl) (fun w h => h.ent aEt) ?_
                    refine s_cond rfl (fun h39 => ?_) (fun h39 => ?_)
                    · try simp only [decide_eq_true_eq, decide_eq_false_iff_not, Bool.not_eq_true', Bool.not_eq_false', Bool.and_eq_true, Bool.or_eq_true, Bool.and_eq_false_iff, Bool.or_eq_false_iff, Bool.not_true, Bool.not_false] at h39
                      exfalso; have hq := h39; rw [hGl, hRl] at hq; simp at hq
                    · try simp only [decide_eq_true_eq, decide_eq_false_iff_not, Bool.not_eq_true', Bool.not_eq_false', Bool.and_eq_true, Bool.or_eq_true, Bool.and_eq_false_iff, Bool.or_eq_false_iff, Bool.not_true, Bool.not_false] at h39
                      refine s_skip ?_
                      refine s_seq ?_
                      refine s_region ?_
                      refine o_p (p_pure rfl) rfl ?_
                      refine o_nil ?_
                      refine s_block ?_
                      refine s_weaken (L' := [(7, _), (10, _), (11, _), (12, _)]) aSx (fun _ h => h) ?_
                      refine s_loopI (α := Nat) [4, 12, 95, 96, 97, 98, 99, 100, 101, 102, 103, 104, 105, 106, 107, 108, 109, 110, 111, 112, 113, 114, 115, 116, 117, 118] (fun k => [(12, .int .i64 (k : Int))]) (fun _ => _) (fun k => k ≤ (nth (pls L) (bsL (cmps (pls L) rc sq))).op.length) (fun k => (nth (pls L) (bsL (cmps (pls L) rc sq))).op.length - k) 0 (Nat.zero_le _) aSx (fun w h => h) (fun k hk1 => ?_)
                      refine s_seq ?_
                      refine s_seq ?_
                      refine s_region ?_
                      refine o_p (p_pure rfl) rfl ?_
                      refine o_p (p_pure rfl) rfl ?_
                      refine o_p (p_pure rfl) rfl ?_
                      refine o_p (p_indexAddr rfl rfl rfl sl_95 (i) (by omega) (by omega) hgg) rfl ?_
                      refine o_q (q_load_at rfl rfl sz_37 (fun w h => by have h9 := (h.rw_own (vals := brV) br1 (a := ga) (cap := gc) (l := G) aPk rfl).rdj 0 hiG rfl; rw [hgg] at h9; exact h9)) rfl ?_
                      refine o_p (p_len_slice rfl rfl Try.underlying37) rfl ?_
                      refine o_p (p_pure rfl) rfl ?_
                      refine o_nil ?_
                      refine s_cond rfl (fun h40 => ?_) (fun h40 => ?_)
                      · try simp only [decide_eq_true_eq, decide_eq_false_iff_not, Bool.not_eq_true', Bool.not_eq_false', Bool.and_eq_true, Bool.or_eq_true, Bool.and_eq_false_iff, Bool.or_eq_false_iff, Bool.not_true, Bool.not_false] at h40
                        have hkF : k < (nth (pls L) (bsL (cmps (pls L) rc sq))).op.length := by omega
                        have hGR : nth (nth G i).l k = nth (nth R i).l k := by rw [hG2 i hiF, hR2 i hiF]
                        refine s_fact (fun w h => own_addr (a := (nth G i).a) (cap := (nth G i).c) (n := (nth G i).l.length) (by omega) (HS.sub_open (sub := brS) (l := G) (i := i) (by omega) (h.pick aPk)) .here) (fun hga => ?_)
                        obtain ⟨gk, hgk, _, _⟩ := hga
                        refine s_fact (fun w h => own_addr (a := (nth R i).a) (cap := (nth R i).c) (n := (nth R i).l.length) (by omega) (HS.sub_open (sub := brS) (l := R) (i := i) (by omega) (h.pick aPk)) .here) (fun hga => ?_)
                        obtain ⟨rk, hrk, _, _⟩ := hga
                        refine s_skip ?_
                        refine s_seq ?_
                        refine s_block ?_
                        refine s_seq ?_
                        refine s_draw [] mixed ?_
                        refine d_p 0 rfl (p_pure rfl) (by kernel_rfl) rfl rfl ?_
                        refine d_p 1 rfl (p_pure rfl) (by kernel_rfl) rfl rfl ?_
                        refine d_p 2 rfl (p_indexAddr rfl rfl rfl sl_95 (i) (by omega) (by omega) hgg) (by kernel_rfl) rfl rfl ?_
                        refine d_q 3 [] rfl (q_load_at rfl rfl sz_37 (fun w h => by have h9 := (h.rw_own (vals := brV) br1 (a := ga) (cap := gc) (l := G) aPk rfl).rdj 0 hiG rfl; rw [hgg] at h9; exact h9)) (by kernel_rfl) (by kernel_rfl) (by kernel_rfl) rfl ?_
                        refine d_p 4 rfl (p_pure rfl) (by kernel_rfl) rfl rfl ?_
                        refine d_p 5 rfl (p_indexAddr rfl rfl rfl sl_37 (k) (by omega) (by omega) hgk) (by kernel_rfl) rfl rfl ?_
                        refine d_q 6 [] rfl (q_load_at rfl rfl sz_4 (fun w h => by have h9 := ((HS.sub_open (sub := brS) (l := G) (i := i) (by omega) (h.pick aPk)).rw_own (vals := boV) (fun _ => rfl) (a := (nth G i).a) (cap := (nth G i).c) (l := (nth G i).l) .here rfl).rdj (i := k) 0 (by omega) rfl; rw [hgk] at h9; exact h9)) (by kernel_rfl) (by kernel_rfl) (by kernel_rfl) rfl ?_
                        refine d_p 7 rfl (p_pure rfl) (by kernel_rfl) rfl rfl ?_
                        refine d_p 8 rfl (p_pure rfl) (by kernel_rfl) rfl rfl ?_
                        refine d_p 9 rfl (p_indexAddr rfl rfl rfl sl_95 (i) (by omega) (by omega) hgr) (by kernel_rfl) rfl rfl ?_
                        refine d_q 10 [] rfl (q_load_at rfl rfl sz_37 (fun w h => by have h9 := (h.rw_own (vals := brV) br1 (a := ra) (cap := rc2) (l := R) aPk rfl).rdj 0 (by omega : i < R.length) rfl; rw [hgr] at h9; exact h9)) (by kernel_rfl) (by kernel_rfl) (by kernel_rfl) rfl ?_
                        refine d_p 11 rfl (p_pure rfl) (by kernel_rfl) rfl rfl ?_
                        refine d_p 12 rfl (p_indexAddr rfl rfl rfl sl_37 (k) (by omega) (by omega) hrk) (by kernel_rfl) rfl rfl ?_
                        refine d_q 13 [] rfl (q_load_at rfl rfl sz_4 (fun w h => by have h9 := ((HS.sub_open (sub := brS) (l := R) (i := i) (by omega) (h.pick aPk)).rw_own (vals := boV) (fun _ => rfl) (a := (nth R i).a) (cap := (nth R i).c) (l := (nth R i).l) .here rfl).rdj (i := k) 0 (by omega) rfl; rw [hrk] at h9; exact h9)) (by kernel_rfl) (by kernel_rfl) (by kernel_rfl) rfl ?_
                        refine d_p 14 rfl (p_neq_bool rfl rfl rfl Try.underlying4) (by kernel_rfl) rfl rfl ?_
                        refine d_nil (by kernel_rfl) (fun w h => h.ent aEt) ?_
                        refine s_cond rfl (fun h41 => ?_) (fun h41 => ?_)
                        · try simp only [decide_eq_true_eq, decide_eq_false_iff_not, Bool.not_eq_true', Bool.not_eq_false', Bool.and_eq_true, Bool.or_eq_true, Bool.and_eq_false_iff, Bool.or_eq_false_iff, Bool.not_true, Bool.not_false] at h41
                          exfalso; have hq := h41; rw [hGR] at hq; simp at hq
                        · try simp only [decide_eq_true_eq, decide_eq_false_iff_not, Bool.not_eq_true', Bool.not_eq_false', Bool.and_eq_true, Bool.or_eq_true, Bool.and_eq_false_iff, Bool.or_eq_false_iff, Bool.not_true, Bool.not_false] at h41
                          refine s_skip ?_
                          refine s_blk ?_
                          refine s_region ?_
                          refine o_p (p_pure rfl) rfl ?_
                          refine o_p (p_pure rfl) rfl ?_
                          try (refine o_slot (i64w (by omega) (by omega)) ?_)
                          refine o_p (p_pure rfl) rfl ?_
                          refine o_nil ?_
                          exact s_backI (k + 1) (by omega) (by omega) aSx (fun w h => h)
                      · try simp only [decide_eq_true_eq, decide_eq_false_iff_not, Bool.not_eq_true', Bool.not_eq_false', Bool.and_eq_true, Bool.or_eq_true, Bool.and_eq_false_iff, Bool.or_eq_false_iff, Bool.not_true, Bool.not_false] at h40
                        refine s_exit_to rfl ?_
                        refine s_blk ?_
                        refine s_region ?_
                        refine o_p (p_pure rfl) rfl ?_
                        refine o_p (p_pure rfl) rfl ?_
                        try (refine o_slot (i64w (by omega) (by omega)) ?_)
                        refine o_p (p_pure rfl) rfl ?_
                        refine o_nil ?_
                        exact s_backI (i + 1) (by omega) (by omega) aSx (fun w h => h.ent aEt)
                  · try simp only [decide_eq_true_eq, decide_eq_false_iff_not, Bool.not_eq_true', Bool.not_eq_false', Bool.and_eq_true, Bool.or_eq_true, Bool.and_eq_false_iff, Bool.or_eq_false_iff, Bool.not_true, Bool.not_false] at h38
                    refine s_exit_to rfl ?_
                    refine s_seq ?_
                    refine s_region ?_
                    refine o_p (p_pure rfl) rfl ?_
                    refine o_nil ?_
                    exact s_retv (rs := [.tmp 4]) rfl (.tmp rfl (.nil)) (fun w' h' => ⟨by rfl, h'.below⟩)
          · intro hg42
            have hs43 := hg42; try simp only [decide_eq_true_eq, decide_eq_false_iff_not, Bool.not_eq_true', Bool.not_eq_false', Bool.and_eq_true, Bool.or_eq_true, Bool.and_eq_false_iff, Bool.or_eq_false_iff, Bool.not_true, Bool.not_false] at hs43
            refine d_qon 3 60 [] rfl rfl rfl hg42 (q_loadn rfl rfl sz_92 aPk rfl) (by kernel_rfl) (by kernel_rfl) (by kernel_rfl) rfl ?_
            refine d_qon 4 60 [] rfl rfl rfl hg42 (q_loadn rfl rfl sz_26 aPk rfl) (by kernel_rfl) (by kernel_rfl) (by kernel_rfl) rfl ?_
            refine d_qon 5 60 [] rfl rfl rfl hg42 (q_loadn rfl rfl sz_42 aPk rfl) (by kernel_rfl) (by kernel_rfl) (by kernel_rfl) rfl ?_
            refine d_qon 6 60 [] rfl rfl rfl hg42 (q_call rfl fn_45 rfl (fun w1 h1 => c45 w1 next a cap L rc sq (hs.later h1) hb.1 hb.2.1 h0)) (by kernel_rfl) (by kernel_rfl) (by kernel_rfl) rfl ?_
            refine d_pon 7 60 rfl rfl rfl hg42 (p_neq_agg rfl rfl rfl eqk_92 (by rfl) (by rfl) (by rfl)) (by kernel_rfl) rfl rfl ?_
            refine d_p 8 rfl (p_pickf rfl rfl hg42 rfl) (by kernel_rfl) rfl rfl ?_
            refine d_p 9 rfl (p_pure rfl) (by kernel_rfl) rfl rfl ?_
            apply d_split 67
            · exact rfl
            · intro hg44
              have hs45 := hg44; try simp only [decide_eq_true_eq, decide_eq_false_iff_not, Bool.not_eq_true', Bool.not_eq_false', Bool.and_eq_true, Bool.or_eq_true, Bool.and_eq_false_iff, Bool.or_eq_false_iff, Bool.not_true, Bool.not_false] at hs45
              refine d_off 10 67 rfl rfl rfl hg44 (by kernel_rfl) rfl rfl ?_
              refine d_off 11 67 rfl rfl rfl hg44 (by kernel_rfl) rfl rfl ?_
              refine d_p 12 rfl (p_pickt rfl rfl hg44 rfl) (by kernel_rfl) rfl rfl ?_
              refine d_p 13 rfl (p_pure rfl) (by kernel_rfl) rfl rfl ?_
              apply d_split 71
              · exact rfl
              · intro hg46
                have hs47 := hg46; try simp only [decide_eq_true_eq, decide_eq_false_iff_not, Bool.not_eq_true', Bool.not_eq_false', Bool.and_eq_true, Bool.or_eq_true, Bool.and_eq_false_iff, Bool.or_eq_false_iff, Bool.not_true, Bool.not_false] at hs47
                refine d_off 14 71 rfl rfl rfl hg46 (by kernel_rfl) rfl rfl ?_
                refine d_off 15 71 rfl rfl rfl hg46 (by kernel_rfl) rfl rfl ?_
                refine d_off 16 71 rfl rfl rfl hg46 (by kernel_rfl) rfl rfl ?_
                refine d_off 17 71 rfl rfl rfl hg46 (by kernel_rfl) rfl rfl ?_
                refine d_off 18 71 rfl rfl rfl hg46 (by kernel_rfl) rfl rfl ?_
                refine d_p 19 rfl (p_pickt rfl rfl hg46 rfl) (by kernel_rfl) rfl rfl ?_
                refine d_nil (by kernel_rfl) (fun w h => h.ent aEt) ?_
                refine s_cond rfl (fun h48 => ?_) (fun h48 => ?_)
                · try simp only [decide_eq_true_eq, decide_eq_false_iff_not, Bool.not_eq_true', Bool.not_eq_false', Bool.and_eq_true, Bool.or_eq_true, Bool.and_eq_false_iff, Bool.or_eq_false_iff, Bool.not_true, Bool.not_false] at h48
                  exfalso; first | (have hq := h48; rw [hG1, hR1] at hq; simp at hq; done) | simp_all
                · try simp only [decide_eq_true_eq, decide_eq_false_iff_not, Bool.not_eq_true', Bool.not_eq_false', Bool.and_eq_true, Bool.or_eq_true, Bool.and_eq_false_iff, Bool.or_eq_false_iff, Bool.not_true, Bool.not_false] at h48
                  refine s_skip ?_
                  refine s_seq ?_
                  refine s_seq ?_
                  refine s_region ?_
                  refine o_p (p_pure rfl) rfl ?_
                  refine o_nil ?_
                  refine s_block ?_
                  refine s_weaken (L' := [(4, _), (7, _), (10, _), (11, _)]) aSx (fun _ h => h) ?_
                  refine s_loopI (α := Nat) [4, 11, 12, 78, 79, 80, 81, 82, 83, 84, 85, 86, 87, 88, 89, 90, 91, 92, 93, 94, 95, 96, 97, 98, 99, 100, 101, 102, 103, 104, 105, 106, 107, 108, 109, 110, 111, 112, 113, 114, 115, 116, 117, 118] (fun i => [(11, .int .i64 (i : Int))]) (fun _ => HS w [] [.own (.slice ga G.length gc) 37 1 G.length (G.flatMap brV), .star (G.map brS), .own (.slice ra R.length rc2) 37 1 R.length (R.flatMap brV), .star (R.map brS)]) (fun i => i ≤ G.length) (fun i => G.length - i) 0 (Nat.zero_le _) aSx (fun w h => h.ent aEt) (fun i hi1 => ?_)
                  refine s_seq ?_
                  refine s_seq ?_
                  refine s_region ?_
                  refine o_p (p_pure rfl) rfl ?_
                  refine o_p (p_pure rfl) rfl ?_
                  refine o_p (p_len_slice rfl rfl Try.underlying95) rfl ?_
                  refine o_p (p_pure rfl) rfl ?_
                  refine o_nil ?_
                  refine s_cond rfl (fun h49 => ?_) (fun h49 => ?_)
                  · try simp only [decide_eq_true_eq, decide_eq_false_iff_not, Bool.not_eq_true', Bool.not_eq_false', Bool.and_eq_true, Bool.or_eq_true, Bool.and_eq_false_iff, Bool.or_eq_false_iff, Bool.not_true, Bool.not_false] at h49
                    have hiG : i < G.length := by omega
                    have hiF : i < (nth (pls L) (bsL (cmps (pls L) rc sq))).op.length := by omega
                    have hGl : (nth G i).l.length = (nth (pls L) (bsL (cmps (pls L) rc sq))).op.length := by rw [hG2 i hiF, rowF_len]
                    have hRl : (nth R i).l.length = (nth (pls L) (bsL (cmps (pls L) rc sq))).op.length := by rw [hR2 i hiF, rowF_len]
                    refine s_fact (fun w h => own_addr (a := ga) (cap := gc) (n := G.length) (by omega) h aPk) (fun hga => ?_)
                    obtain ⟨gg, hgg, _, _⟩ := hga
                    refine s_fact (fun w h => own_addr (a := ra) (cap := rc2) (n := R.length) (by omega) h aPk) (fun hga => ?_)
                    obtain ⟨gr, hgr, _, _⟩ := hga
                    refine s_skip ?_
                    refine s_seq ?_
                    refine s_block ?_
                    refine s_seq ?_
                    refine s_seq ?_
                    refine s_draw [] mixed ?_
                    refine d_p 0 rfl (p_pure rfl) (by kernel_rfl) rfl rfl ?_
                    refine d_p 1 rfl (p_pure rfl) (by kernel_rfl) rfl rfl ?_
                    refine d_p 2 rfl (p_indexAddr rfl rfl rfl sl_95 (i) (by omega) (by omega) hgg) (by kernel_rfl) rfl rfl ?_
                    refine d_q 3 [] rfl (q_load_at rfl rfl sz_37 (fun w h => by have h9 := (h.rw_own (vals := brV) br1 (a := ga) (cap := gc) (l := G) aPk rfl).rdj 0 hiG rfl; rw [hgg] at h9; exact h9)) (by kernel_rfl) (by kernel_rfl) (by kernel_rfl) rfl ?_
                    refine d_p 4 rfl (p_len_slice rfl rfl Try.underlying37) (by kernel_rfl) rfl rfl ?_
                    refine d_p 5 rfl (p_pure rfl) (by kernel_rfl) rfl rfl ?_
                    refine d_p 6 rfl (p_pure rfl) (by kernel_rfl) rfl rfl ?_
                    refine d_p 7 rfl (p_indexAddr rfl rfl rfl sl_95 (i) (by omega) (by omega) hgr) (by kernel_rfl) rfl rfl ?_
                    refine d_q 8 [] rfl (q_load_at rfl rfl sz_37 (fun w h => by have h9 := (h.rw_own (vals := brV) br1 (a := ra) (cap := rc2) (l := R) aPk rfl).rdj 0 (by omega : i < R.length) rfl; rw [hgr] at h9; exact h9)) (by kernel_rfl) (by kernel_rfl) (by kernel_rfl) rfl ?_
                    refine d_p 9 rfl (p_len_slice rfl rfl Try.underlying37) (by kernel_rfl) rfl rfl ?_
                    refine d_p 10 rfl (p_pure rfl) (by kernel_rfl) rfl rfl ?_
                    refine d_nil (by kernel_rfl) (fun w h => h.ent aEt) ?_
                    refine s_cond rfl (fun h50 => ?_) (fun h50 => ?_)
                    · try simp only [decide_eq_true_eq, decide_eq_false_iff_not, Bool.not_eq_true', Bool.not_eq_false', Bool.and_eq_true, Bool.or_eq_true, Bool.and_eq_false_iff, Bool.or_eq_false_iff, Bool.not_true, Bool.not_false] at h50
                      exfalso; have hq := h50; rw [hGl, hRl] at hq; simp at hq
                    · try simp only [decide_eq_true_eq, decide_eq_false_iff_not, Bool.not_eq_true', Bool.not_eq_false', Bool.and_eq_true, Bool.or_eq_true, Bool.and_eq_false_iff, Bool.or_eq_false_iff, Bool.not_true, Bool.not_false] at h50
                      refine s_skip ?_
                      refine s_seq ?_
                      refine s_region ?_
                      refine o_p (p_pure rfl) rfl ?_
                      refine o_nil ?_
                      refine s_block ?_
                      refine s_weaken (L' := [(7, _), (10, _), (11, _), (12, _)]) aSx (fun _ h => h) ?_
                      refine s_loopI (α := Nat) [4, 12, 95, 96, 97, 98, 99, 100, 101, 102, 103, 104, 105, 106, 107, 108, 109, 110, 111, 112, 113, 114, 115, 116, 117, 118] (fun k => [(12, .int .i64 (k : Int))]) (fun _ => _) (fun k => k ≤ (nth (pls L) (bsL (cmps (pls L) rc sq))).op.length) (fun k => (nth (pls L) (bsL (cmps (pls L) rc sq))).op.length - k) 0 (Nat.zero_le _) aSx (fun w h => h) (fun k hk1 => ?_)
                      refine s_seq ?_
                      refine s_seq ?_
                      refine s_region ?_
                      refine o_p (p_pure rfl) rfl ?_
                      refine o_p (p_pure rfl) rfl ?_
                      refine o_p (p_pure rfl) rfl ?_
                      refine o_p (p_indexAddr rfl rfl rfl sl_95 (i) (by omega) (by omega) hgg) rfl ?_
                      refine o_q (q_load_at rfl rfl sz_37 (fun w h => by have h9 := (h.rw_own (vals := brV) br1 (a := ga) (cap := gc) (l := G) aPk rfl).rdj 0 hiG rfl; rw [hgg] at h9; exact h9)) rfl ?_
                      refine o_p (p_len_slice rfl rfl Try.underlying37) rfl ?_
                      refine o_p (p_pure rfl) rfl ?_
                      refine o_nil ?_
                      refine s_cond rfl (fun h51 => ?_) (fun h51 => ?_)
                      · try simp only [decide_eq_true_eq, decide_eq_false_iff_not, Bool.not_eq_true', Bool.not_eq_false', Bool.and_eq_true, Bool.or_eq_true, Bool.and_eq_false_iff, Bool.or_eq_false_iff, Bool.not_true, Bool.not_false] at h51
                        have hkF : k < (nth (pls L) (bsL (cmps (pls L) rc sq))).op.length := by omega
                        have hGR : nth (nth G i).l k = nth (nth R i).l k := by rw [hG2 i hiF, hR2 i hiF]
                        refine s_fact (fun w h => own_addr (a := (nth G i).a) (cap := (nth G i).c) (n := (nth G i).l.length) (by omega) (HS.sub_open (sub := brS) (l := G) (i := i) (by omega) (h.pick aPk)) .here) (fun hga => ?_)
                        obtain ⟨gk, hgk, _, _⟩ := hga
                        refine s_fact (fun w h => own_addr (a := (nth R i).a) (cap := (nth R i).c) (n := (nth R i).l.length) (by omega) (HS.sub_open (sub := brS) (l := R) (i := i) (by omega) (h.pick aPk)) .here) (fun hga => ?_)
                        obtain ⟨rk, hrk, _, _⟩ := hga
                        refine s_skip ?_
                        refine s_seq ?_
                        refine s_block ?_
                        refine s_seq ?_
                        refine s_draw [] mixed ?_
                        refine d_p 0 rfl (p_pure rfl) (by kernel_rfl) rfl rfl ?_
                        refine d_p 1 rfl (p_pure rfl) (by kernel_rfl) rfl rfl ?_
                        refine d_p 2 rfl (p_indexAddr rfl rfl rfl sl_95 (i) (by omega) (by omega) hgg) (by kernel_rfl) rfl rfl ?_
                        refine d_q 3 [] rfl (q_load_at rfl rfl sz_37 (fun w h => by have h9 := (h.rw_own (vals := brV) br1 (a := ga) (cap := gc) (l := G) aPk rfl).rdj 0 hiG rfl; rw [hgg] at h9; exact h9)) (by kernel_rfl) (by kernel_rfl) (by kernel_rfl) rfl ?_
                        refine d_p 4 rfl (p_pure rfl) (by kernel_rfl) rfl rfl ?_
                        refine d_p 5 rfl (p_indexAddr rfl rfl rfl sl_37 (k) (by omega) (by omega) hgk) (by kernel_rfl) rfl rfl ?_
                        refine d_q 6 [] rfl (q_load_at rfl rfl sz_4 (fun w h => by have h9 := ((HS.sub_open (sub := brS) (l := G) (i := i) (by omega) (h.pick aPk)).rw_own (vals := boV) (fun _ => rfl) (a := (nth G i).a) (cap := (nth G i).c) (l := (nth G i).l) .here rfl).rdj (i := k) 0 (by omega) rfl; rw [hgk] at h9; exact h9)) (by kernel_rfl) (by kernel_rfl) (by kernel_rfl) rfl ?_
                        refine d_p 7 rfl (p_pure rfl) (by kernel_rfl) rfl rfl ?_
                        refine d_p 8 rfl (p_pure rfl) (by kernel_rfl) rfl rfl ?_
                        refine d_p 9 rfl (p_indexAddr rfl rfl rfl sl_95 (i) (by omega) (by omega) hgr) (by kernel_rfl) rfl rfl ?_
                        refine d_q 10 [] rfl (q_load_at rfl rfl sz_37 (fun w h => by have h9 := (h.rw_own (vals := brV) br1 (a := ra) (cap := rc2) (l := R) aPk rfl).rdj 0 (by omega : i < R.length) rfl; rw [hgr] at h9; exact h9)) (by kernel_rfl) (by kernel_rfl) (by kernel_rfl) rfl ?_
                        refine d_p 11 rfl (p_pure rfl) (by kernel_rfl) rfl rfl ?_
                        refine d_p 12 rfl (p_indexAddr rfl rfl rfl sl_37 (k) (by omega) (by omega) hrk) (by kernel_rfl) rfl rfl ?_
                        refine d_q 13 [] rfl (q_load_at rfl rfl sz_4 (fun w h => by have h9 := ((HS.sub_open (sub := brS) (l := R) (i := i) (by omega) (h.pick aPk)).rw_own (vals := boV) (fun _ => rfl) (a := (nth R i).a) (cap := (nth R i).c) (l := (nth R i).l) .here rfl).rdj (i := k) 0 (by omega) rfl; rw [hrk] at h9; exact h9)) (by kernel_rfl) (by kernel_rfl) (by kernel_rfl) rfl ?_
                        refine d_p 14 rfl (p_neq_bool rfl rfl rfl Try.underlying4) (by kernel_rfl) rfl rfl ?_
                        refine d_nil (by kernel_rfl) (fun w h => h.ent aEt) ?_
                        refine s_cond rfl (fun h52 => ?_) (fun h52 => ?_)
                        · try simp only [decide_eq_true_eq, decide_eq_false_iff_not, Bool.not_eq_true', Bool.not_eq_false', Bool.and_eq_true, Bool.or_eq_true, Bool.and_eq_false_iff, Bool.or_eq_false_iff, Bool.not_true, Bool.not_false] at h52
                          exfalso; have hq := h52; rw [hGR] at hq; simp at hq
                        · try simp only [decide_eq_true_eq, decide_eq_false_iff_not, Bool.not_eq_true', Bool.not_eq_false', Bool.and_eq_true, Bool.or_eq_true, Bool.and_eq_false_iff, Bool.or_eq_false_iff, Bool.not_true, Bool.not_false] at h52
                          refine s_skip ?_
                          refine s_blk ?_
                          refine s_region ?_
                          refine o_p (p_pure rfl) rfl ?_
                          refine o_p (p_pure rfl) rfl ?_
                          try (refine o_slot (i64w (by omega) (by omega)) ?_)
                          refine o_p (p_pure rfl) rfl ?_
                          refine o_nil ?_
                          exact s_backI (k + 1) (by omega) (by omega) aSx (fun w h => h)
                      · try simp only [decide_eq_true_eq, decide_eq_false_iff_not, Bool.not_eq_true', Bool.not_eq_false', Bool.and_eq_true, Bool.or_eq_true, Bool.and_eq_false_iff, Bool.or_eq_false_iff, Bool.not_true, Bool.not_false] at h51
                        refine s_exit_to rfl ?_
                        refine s_blk ?_
                        refine s_region ?_
                        refine o_p (p_pure rfl) rfl ?_
                        refine o_p (p_pure rfl) rfl ?_
                        try (refine o_slot (i64w (by omega) (by omega)) ?_)
                        refine o_p (p_pure rfl) rfl ?_
                        refine o_nil ?_
                        exact s_backI (i + 1) (by omega) (by omega) aSx (fun w h => h.ent aEt)
                  · try simp only [decide_eq_true_eq, decide_eq_false_iff_not, Bool.not_eq_true', Bool.not_eq_false', Bool.and_eq_true, Bool.or_eq_true, Bool.and_eq_false_iff, Bool.or_eq_false_iff, Bool.not_true, Bool.not_false] at h49
                    refine s_exit_to rfl ?_
                    refine s_seq ?_
                    refine s_region ?_
                    refine o_p (p_pure rfl) rfl ?_
                    refine o_nil ?_
                    exact s_retv (rs := [.tmp 4]) rfl (.tmp rfl (.nil)) (fun w' h' => ⟨by rfl, h'.below⟩)
              · intro hg53
                have hs54 := hg53; try simp only [decide_eq_true_eq, decide_eq_false_iff_not, Bool.not_eq_true', Bool.not_eq_false', Bool.and_eq_true, Bool.or_eq_true, Bool.and_eq_false_iff, Bool.or_eq_false_iff, Bool.not_true, Bool.not_false] at hs54
                refine d_pon 14 71 rfl rfl rfl hg53 (p_pure rfl) (by kernel_rfl) rfl rfl ?_
                refine d_pon 15 71 rfl rfl rfl hg53 (p_len_slice rfl rfl Try.underlying95) (by kernel_rfl) rfl rfl ?_
                refine d_pon 16 71 rfl rfl rfl hg53 (p_pure rfl) (by kernel_rfl) rfl rfl ?_
                refine d_pon 17 71 rfl rfl rfl hg53 (p_len_slice rfl rfl Try.underlying95) (by kernel_rfl) rfl rfl ?_
                refine d_pon 18 71 rfl rfl rfl hg53 (p_pure rfl) (by kernel_rfl) rfl rfl ?_
                refine d_p 19 rfl (p_pickf rfl rfl hg53 rfl) (by kernel_rfl) rfl rfl ?_
                refine d_nil (by kernel_rfl) (fun w h => h.ent aEt) ?_
                refine s_cond rfl (fun h55 => ?_) (fun h55 => ?_)
                · try simp only [decide_eq_true_eq, decide_eq_false_iff_not, Bool.not_eq_true', Bool.not_eq_false', Bool.and_eq_true, Bool.or_eq_true, Bool.and_eq_false_iff, Bool.or_eq_false_iff, Bool.not_true, Bool.not_false] at h55
                  exfalso; first | (have hq := h55; rw [hG1, hR1] at hq; simp at hq; done) | simp_all
                · try simp only [decide_eq_true_eq, decide_eq_false_iff_not, Bool.not_eq_true', Bool.not_eq_false', Bool.and_eq_true, Bool.or_eq_true, Bool.and_eq_false_iff, Bool.or_eq_false_iff, Bool.not_true, Bool.not_false] at h55
                  refine s_skip ?_
                  refine s_seq ?_
                  refine s_seq ?_
                  refine s_region ?_
                  refine o_p (p_pure rfl) rfl ?_
                  refine o_nil ?_
                  refine s_block ?_
                  refine s_weaken (L' := [(4, _), (7, _), (10, _), (11, _)]) aSx (fun _ h => h) ?_
                  refine s_loopI (α := Nat) [4, 11, 12, 78, 79, 80, 81, 82, 83, 84, 85, 86, 87, 88, 89, 90, 91, 92, 93, 94, 95, 96, 97, 98, 99, 100, 101, 102, 103, 104, 105, 106, 107, 108, 109, 110, 111, 112, 113, 114, 115, 116, 117, 118] (fun i => [(11, .int .i64 (i : Int))]) (fun _ => HS w [] [.own (.slice ga G.length gc) 37 1 G.length (G.flatMap brV), .star (G.map brS), .own (.slice ra R.length rc2) 37 1 R.length (R.flatMap brV), .star (R.map brS)]) (fun i => i ≤ G.length) (fun i => G.length - i) 0 (Nat.zero_le _) aSx (fun w h => h.ent aEt) (fun i hi1 => ?_)
                  refine s_seq ?_
                  refine s_seq ?_
                  refine s_region ?_
                  refine o_p (p_pure rfl) rfl ?_
                  refine o_p (p_pure rfl) rfl ?_
                  refine o_p (p_len_slice rfl rfl Try.underlying95) rfl ?_
                  refine o_p (p_pure rfl) rfl ?_
                  refine o_nil ?_
                  refine s_cond rfl (fun h56 => ?_) (fun h56 => ?_)
                  · try simp only [decide_eq_true_eq, decide_eq_false_iff_not, Bool.not_eq_true', Bool.not_eq_false', Bool.and_eq_true, Bool.or_eq_true, Bool.and_eq_false_iff, Bool.or_eq_false_iff, Bool.not_true, Bool.not_false] at h56
                    have hiG : i < G.length := by omega
                    have hiF : i < (nth (pls L) (bsL (cmps (pls L) rc sq))).op.length := by omega
                    have hGl : (nth G i).l.length = (nth (pls L) (bsL (cmps (pls L) rc sq))).op.length := by rw [hG2 i hiF, rowF_len]
                    have hRl : (nth R i).l.length = (nth (pls L) (bsL (cmps (pls L) rc sq))).op.length := by rw [hR2 i hiF, rowF_len]
                    refine s_fact (fun w h => own_addr (a := ga) (cap := gc) (n := G.length) (by omega) h aPk) (fun hga => ?_)
                    obtain ⟨gg, hgg, _, _⟩ := hga
                    refine s_fact (fun w h => own_addr (a := ra) (cap := rc2) (n := R.length) (by omega) h aPk) (fun hga => ?_)
                    obtain ⟨gr, hgr, _, _⟩ := hga
                    refine s_skip ?_
                    refine s_seq ?_
                    refine s_block ?_
                    refine s_seq ?_
                    refine s_seq ?_
                    refine s_draw [] mixed ?_
                    refine d_p 0 rfl (p_pure rfl) (by kernel_rfl) rfl rfl ?_
                    refine d_p 1 rfl (p_pure rfl) (by kernel_rfl) rfl rfl ?_
                    refine d_p 2 rfl (p_indexAddr rfl rfl rfl sl_95 (i) (by omega) (by omega) hgg) (by kernel_rfl) rfl rfl ?_
                    refine d_q 3 [] rfl (q_load_at rfl rfl sz_37 (fun w h => by have h9 := (h.rw_own (vals := brV) br1 (a := ga) (cap := gc) (l := G) aPk rfl).rdj 0 hiG rfl; rw [hgg] at h9; exact h9)) (by kernel_rfl) (by kernel_rfl) (by kernel_rfl) rfl ?_
                    refine d_p 4 rfl (p_len_slice rfl rfl Try.underlying37) (by kernel_rfl) rfl rfl ?_
                    refine d_p 5 rfl (p_pure rfl) (by kernel_rfl) rfl rfl ?_
                    refine d_p 6 rfl (p_pure rfl) (by kernel_rfl) rfl rfl ?_
                    refine d_p 7 rfl (p_indexAddr rfl rfl rfl sl_95 (i) (by omega) (by omega) hgr) (by kernel_rfl) rfl rfl ?_
                    refine d_q 8 [] rfl (q_load_at rfl rfl sz_37 (fun w h => by have h9 := (h.rw_own (vals := brV) br1 (a := ra) (cap := rc2) (l := R) aPk rfl).rdj 0 (by omega : i < R.length) rfl; rw [hgr] at h9; exact h9)) (by kernel_rfl) (by kernel_rfl) (by kernel_rfl) rfl ?_
                    refine d_p 9 rfl (p_len_slice rfl rfl Try.underlying37) (by kernel_rfl) rfl rfl ?_
                    refine d_p 10 rfl (p_pure rfl) (by kernel_rfl) rfl rfl ?_
                    refine d_nil (by kernel_rfl) (fun w h => h.ent aEt) ?_
                    refine s_cond rfl (fun h57 => ?_) (fun h57 => ?_)
                    · try simp only [decide_eq_true_eq, decide_eq_false_iff_not, Bool.not_eq_true', Bool.not_eq_false', Bool.and_eq_true, Bool.or_eq_true, Bool.and_eq_false_iff, Bool.or_eq_false_iff, Bool.not_true, Bool.not_false] at h57
                      exfalso; have hq := h57; rw [hGl, hRl] at hq; simp at hq
                    · try simp only [decide_eq_true_eq, decide_eq_false_iff_not, Bool.not_eq_true', Bool.not_eq_false', Bool.and_eq_true, Bool.or_eq_true, Bool.and_eq_false_iff, Bool.or_eq_false_iff, Bool.not_true, Bool.not_false] at h57
                      refine s_skip ?_
                      refine s_seq ?_
                      refine s_region ?_
                      refine o_p (p_pure rfl) rfl ?_
                      refine o_nil ?_
                      refine s_block ?_
                      refine s_weaken (L' := [(7, _), (10, _), (11, _), (12, _)]) aSx (fun _ h => h) ?_
                      refine s_loopI (α := Nat) [4, 12, 95, 96, 97, 98, 99, 100, 101, 102, 103, 104, 105, 106, 107, 108, 109, 110, 111, 112, 113, 114, 115, 116, 117, 118] (fun k => [(12, .int .i64 (k : Int))]) (fun _ => _) (fun k => k ≤ (nth (pls L) (bsL (cmps (pls L) rc sq))).op.length) (fun k => (nth (pls L) (bsL (cmps (pls L) rc sq))).op.length - k) 0 (Nat.zero_le _) aSx (fun w h => h) (fun k hk1 => ?_)
                      refine s_seq ?_
                      refine s_seq ?_
                      refine s_region ?_
                      refine o_p (p_pure rfl) rfl ?_
                      refine o_p (p_pure rfl) rfl ?_
                      refine o_p (p_pure rfl) rfl ?_
                      refine o_p (p_indexAddr rfl rfl rfl sl_95 (i) (by omega) (by omega) hgg) rfl ?_
                      refine o_q (q_load_at rfl rfl sz_37 (fun w h => by have h9 := (h.rw_own (vals := brV) br1 (a := ga) (cap := gc) (l := G) aPk rfl).rdj 0 hiG rfl; rw [hgg] at h9; exact h9)) rfl ?_
                      refine o_p (p_len_slice rfl rfl Try.underlying37) rfl ?_
                      refine o_p (p_pure rfl) rfl ?_
                      refine o_nil ?_
                      refine s_cond rfl (fun h58 => ?_) (fun h58 => ?_)
                      · try simp only [decide_eq_true_eq, decide_eq_false_iff_not, Bool.not_eq_true', Bool.not_eq_false', Bool.and_eq_true, Bool.or_eq_true, Bool.and_eq_false_iff, Bool.or_eq_false_iff, Bool.not_true, Bool.not_false] at h58
                        have hkF : k < (nth (pls L) (bsL (cmps (pls L) rc sq))).op.length := by omega
                        have hGR : nth (nth G i).l k = nth (nth R i).l k := by rw [hG2 i hiF, hR2 i hiF]
                        refine s_fact (fun w h => own_addr (a := (nth G i).a) (cap := (nth G i).c) (n := (nth G i).l.length) (by omega) (HS.sub_open (sub := brS) (l := G) (i := i) (by omega) (h.pick aPk)) .here) (fun hga => ?_)
                        obtain ⟨gk, hgk, _, _⟩ := hga
                        refine s_fact (fun w h => own_addr (a := (nth R i).a) (cap := (nth R i).c) (n := (nth R i).l.length) (by omega) (HS.sub_open (sub := brS) (l := R) (i := i) (by omega) (h.pick aPk)) .here) (fun hga => ?_)
                        obtain ⟨rk, hrk, _, _⟩ := hga
                        refine s_skip ?_
                        refine s_seq ?_
                        refine s_block ?_
                        refine s_seq ?_
                        refine s_draw [] mixed ?_
                        refine d_p 0 rfl (p_pure rfl) (by kernel_rfl) rfl rfl ?_
                        refine d_p 1 rfl (p_pure rfl) (by kernel_rfl) rfl rfl ?_
                        refine d_p 2 rfl (p_indexAddr rfl rfl rfl sl_95 (i) (by omega) (by omega) hgg) (by kernel_rfl) rfl rfl ?_
                        refine d_q 3 [] rfl (q_load_at rfl rfl sz_37 (fun w h => by have h9 := (h.rw_own (vals := brV) br1 (a := ga) (cap := gc) (l := G) aPk rfl).rdj 0 hiG rfl; rw [hgg] at h9; exact h9)) (by kernel_rfl) (by kernel_rfl) (by kernel_rfl) rfl ?_
                        refine d_p 4 rfl (p_pure rfl) (by kernel_rfl) rfl rfl ?_
                        refine d_p 5 rfl (p_indexAddr rfl rfl rfl sl_37 (k) (by omega) (by omega) hgk) (by kernel_rfl) rfl rfl ?_
                        refine d_q 6 [] rfl (q_load_at rfl rfl sz_4 (fun w h => by have h9 := ((HS.sub_open (sub := brS) (l := G) (i := i) (by omega) (h.pick aPk)).rw_own (vals := boV) (fun _ => rfl) (a := (nth G i).a) (cap := (nth G i).c) (l := (nth G i).l) .here rfl).rdj (i := k) 0 (by omega) rfl; rw [hgk] at h9; exact h9)) (by kernel_rfl) (by kernel_rfl) (by kernel_rfl) rfl ?_
                        refine d_p 7 rfl (p_pure rfl) (by kernel_rfl) rfl rfl ?_
                        refine d_p 8 rfl (p_pure rfl) (by kernel_rfl) rfl rfl ?_
                        refine d_p 9 rfl (p_indexAddr rfl rfl rfl sl_95 (i) (by omega) (by omega) hgr) (by kernel_rfl) rfl rfl ?_
                        refine d_q 10 [] rfl (q_load_at rfl rfl sz_37 (fun w h => by have h9 := (h.rw_own (vals := brV) br1 (a := ra) (cap := rc2) (l := R) aPk rfl).rdj 0 (by omega : i < R.length) rfl; rw [hgr] at h9; exact h9)) (by kernel_rfl) (by kernel_rfl) (by kernel_rfl) rfl ?_
                        refine d_p 11 rfl (p_pure rfl) (by kernel_rfl) rfl rfl ?_
                        refine d_p 12 rfl (p_indexAddr rfl rfl rfl sl_37 (k) (by omega) (by omega) hrk) (by kernel_rfl) rfl rfl ?_
                        refine d_q 13 [] rfl (q_load_at rfl rfl sz_4 (fun w h => by have h9 := ((HS.sub_open (sub := brS) (l := R) (i := i) (by omega) (h.pick aPk)).rw_own (vals := boV) (fun _ => rfl) (a := (nth R i).a) (cap := (nth R i).c) (l := (nth R i).l) .here rfl).rdj (i := k) 0 (by omega) rfl; rw [hrk] at h9; exact h9)) (by kernel_rfl) (by kernel_rfl) (by kernel_rfl) rfl ?_
                        refine d_p 14 rfl (p_neq_bool rfl rfl rfl Try.underlying4) (by kernel_rfl) rfl rfl ?_
                        refine d_nil (by kernel_rfl) (fun w h => h.ent aEt) ?_
                        refine s_cond rfl (fun h59 => ?_) (fun h59 => ?_)
                        · try simp only [decide_eq_true_eq, decide_eq_false_iff_not, Bool.not_eq_true', Bool.not_eq_false', Bool.and_eq_true, Bool.or_eq_true, Bool.and_eq_false_iff, Bool.or_eq_false_iff, Bool.not_true, Bool.not_false] at h59
                          exfalso; have hq := h59; rw [hGR] at hq; simp at hq
                        · try simp only [decide_eq_true_eq, decide_eq_false_iff_not, Bool.not_eq_true', Bool.not_eq_false', Bool.and_eq_true, Bool.or_eq_true, Bool.and_eq_false_iff, Bool.or_eq_false_iff, Bool.not_true, Bool.not_false] at h59
                          refine s_skip ?_
                          refine s_blk ?_
                          refine s_region ?_
                          refine o_p (p_pure rfl) rfl ?_
                          refine o_p (p_pure rfl) rfl ?_
                          try (refine o_slot (i64w (by omega) (by omega)) ?_)
                          refine o_p (p_pure rfl) rfl ?_
                          refine o_nil ?_
                          exact s_backI (k + 1) (by omega) (by omega) aSx (fun w h => h)
                      · try simp only [decide_eq_true_eq, decide_eq_false_iff_not, Bool.not_eq_true', Bool.not_eq_false', Bool.and_eq_true, Bool.or_eq_true, Bool.and_eq_false_iff, Bool.or_eq_false_iff, Bool.not_true, Bool.not_false] at h58
                        refine s_exit_to rfl ?_
                        refine s_blk ?_
                        refine s_region ?_
                        refine o_p (p_pure rfl) rfl ?_
                        refine o_p (p_pure rfl) rfl ?_
                        try (refine o_slot (i64w (by omega) (by omega)) ?_)
                        refine o_p (p_pure rfl) rfl ?_
                        refine o_nil ?_
                        exact s_backI (i + 1) (by omega) (by omega) aSx (fun w h => h.ent aEt)
                  · try simp only [decide_eq_true_eq, decide_eq_false_iff_not, Bool.not_eq_true', Bool.not_eq_false', Bool.and_eq_true, Bool.or_eq_true, Bool.and_eq_false_iff, Bool.or_eq_false_iff, Bool.not_true, Bool.not_false] at h56
                    refine s_exit_to rfl ?_
                    refine s_seq ?_
                    refine s_region ?_
                    refine o_p (p_pure rfl) rfl ?_
                    refine o_nil ?_
                    exact s_retv (rs := [.tmp 4]) rfl (.tmp rfl (.nil)) (fun w' h' => ⟨by rfl, h'.below⟩)
            · intro hg60
              have hs61 := hg60; try simp only [decide_eq_true_eq, decide_eq_false_iff_not, Bool.not_eq_true', Bool.not_eq_false', Bool.and_eq_true, Bool.or_eq_true, Bool.and_eq_false_iff, Bool.or_eq_false_iff, Bool.not_true, Bool.not_false] at hs61
              refine d_pon 10 67 rfl rfl rfl hg60 (p_pure rfl) (by kernel_rfl) rfl rfl ?_
              refine d_pon 11 67 rfl rfl rfl hg60 (p_pure rfl) (by kernel_rfl) rfl rfl ?_
              refine d_p 12 rfl (p_pickf rfl rfl hg60 rfl) (by kernel_rfl) rfl rfl ?_
              refine d_p 13 rfl (p_pure rfl) (by kernel_rfl) rfl rfl ?_
              apply d_split 71
              · exact rfl
              · intro hg62
                have hs63 := hg62; try simp only [decide_eq_true_eq, decide_eq_false_iff_not, Bool.not_eq_true', Bool.not_eq_false', Bool.and_eq_true, Bool.or_eq_true, Bool.and_eq_false_iff, Bool.or_eq_false_iff, Bool.not_true, Bool.not_false] at hs63
                refine d_off 14 71 rfl rfl rfl hg62 (by kernel_rfl) rfl rfl ?_
                refine d_off 15 71 rfl rfl rfl hg62 (by kernel_rfl) rfl rfl ?_
                refine d_off 16 71 rfl rfl rfl hg62 (by kernel_rfl) rfl rfl ?_
                refine d_off 17 71 rfl rfl rfl hg62 (by kernel_rfl) rfl rfl ?_
                refine d_off 18 71 rfl rfl rfl hg62 (by kernel_rfl) rfl rfl ?_
                refine d_p 19 rfl (p_pickt rfl rfl hg62 rfl) (by kernel_rfl) rfl rfl ?_
                refine d_nil (by kernel_rfl) (fun w h => h.ent aEt) ?_
                refine s_cond rfl (fun h64 => ?_) (fun h64 => ?_)
                · try simp only [decide_eq_true_eq, decide_eq_false_iff_not, Bool.not_eq_true', Bool.not_eq_false', Bool.and_eq_true, Bool.or_eq_true, Bool.and_eq_false_iff, Bool.or_eq_false_iff, Bool.not_true, Bool.not_false] at h64
                  exfalso; first | (have hq := h64; rw [hG1, hR1] at hq; simp at hq; done) | simp_all
                · try simp only [decide_eq_true_eq, decide_eq_false_iff_not, Bool.not_eq_true', Bool.not_eq_false', Bool.and_eq_true, Bool.or_eq_true, Bool.and_eq_false_iff, Bool.or_eq_false_iff, Bool.not_true, Bool.not_false] at h64
                  refine s_skip ?_
                  refine s_seq ?_
                  refine s_seq ?_
                  refine s_region ?_
                  refine o_p (p_pure rfl) rfl ?_
                  refine o_nil ?_
                  refine s_block ?_
                  refine s_weaken (L' := [(4, _), (7, _), (10, _), (11, _)]) aSx (fun _ h => h) ?_
                  refine s_loopI (α := Nat) [4, 11, 12, 78, 79, 80, 81, 82, 83, 84, 85, 86, 87, 88, 89, 90, 91, 92, 93, 94, 95, 96, 97, 98, 99, 100, 101, 102, 103, 104, 105, 106, 107, 108, 109, 110, 111, 112, 113, 114, 115, 116, 117, 118] (fun i => [(11, .int .i64 (i : Int))]) (fun _ => HS w [] [.own (.slice ga G.length gc) 37 1 G.length (G.flatMap brV), .star (G.map brS), .own (.slice ra R.length rc2) 37 1 R.length (R.flatMap brV), .star (R.map brS)]) (fun i => i ≤ G.length) (fun i => G.length - i) 0 (Nat.zero_le _) aSx (fun w h => h.ent aEt) (fun i hi1 => ?_)
                  refine s_seq ?_
                  refine s_seq ?_
                  refine s_region ?_
                  refine o_p (p_pure rfl) rfl ?_
                  refine o_p (p_pure rfl) rfl ?_
                  refine o_p (p_len_slice rfl rfl Try.underlying95) rfl ?_
                  refine o_p (p_pure rfl) rfl ?_
                  refine o_nil ?_
                  refine s_cond rfl (fun h65 => ?_) (fun h65 => ?_)
                  · try simp only [decide_eq_true_eq, decide_eq_false_iff_not, Bool.not_eq_true', Bool.not_eq_false', Bool.and_eq_true, Bool.or_eq_true, Bool.and_eq_false_iff, Bool.or_eq_false_iff, Bool.not_true, Bool.not_false] at h65
                    have hiG : i < G.length := by omega
                    have hiF : i < (nth (pls L) (bsL (cmps (pls L) rc sq))).op.length := by omega
                    have hGl : (nth G i).l.length = (nth (pls L) (bsL (cmps (pls L) rc sq))).op.length := by rw [hG2 i hiF, rowF_len]
                    have hRl : (nth R i).l.length = (nth (pls L) (bsL (cmps (pls L) rc sq))).op.length := by rw [hR2 i hiF, rowF_len]
                    refine s_fact (fun w h => own_addr (a := ga) (cap := gc) (n := G.length) (by omega) h aPk) (fun hga => ?_)
                    obtain ⟨gg, hgg, _, _⟩ := hga
                    refine s_fact (fun w h => own_addr (a := ra) (cap := rc2) (n := R.length) (by omega) h aPk) (fun hga => ?_)
                    obtain ⟨gr, hgr, _, _⟩ := hga
                    refine s_skip ?_
                    refine s_seq ?_
                    refine s_block ?_
                    refine s_seq ?_
                    refine s_seq ?_
                    refine s_draw [] mixed ?_
                    refine d_p 0 rfl (p_pure rfl) (by kernel_rfl) rfl rfl ?_
                    refine d_p 1 rfl (p_pure rfl) (by kernel_rfl) rfl rfl ?_
                    refine d_p 2 rfl (p_indexAddr rfl rfl rfl sl_95 (i) (by omega) (by omega) hgg) (by kernel_rfl) rfl rfl ?_
                    refine d_q 3 [] rfl (q_load_at rfl rfl sz_37 (fun w h => by have h9 := (h.rw_own (vals := brV) br1 (a := ga) (cap := gc) (l := G) aPk rfl).rdj 0 hiG rfl; rw [hgg] at h9; exact h9)) (by kernel_rfl) (by kernel_rfl) (by kernel_rfl) rfl ?_
                    refine d_p 4 rfl (p_len_slice rfl rfl Try.underlying37) (by kernel_rfl) rfl rfl ?_
                    refine d_p 5 rfl (p_pure rfl) (by kernel_rfl) rfl rfl ?_
                    refine d_p 6 rfl (p_pure rfl) (by kernel_rfl) rfl rfl ?_
                    refine d_p 7 rfl (p_indexAddr rfl rfl rfl sl_95 (i) (by omega) (by omega) hgr) (by kernel_rfl) rfl rfl ?_
                    refine d_q 8 [] rfl (q_load_at rfl rfl sz_37 (fun w h => by have h9 := (h.rw_own (vals := brV) br1 (a := ra) (cap := rc2) (l := R) aPk rfl).rdj 0 (by omega : i < R.length) rfl; rw [hgr] at h9; exact h9)) (by kernel_rfl) (by kernel_rfl) (by kernel_rfl) rfl ?_
                    refine d_p 9 rfl (p_len_slice rfl rfl Try.underlying37) (by kernel_rfl) rfl rfl ?_
                    refine d_p 10 rfl (p_pure rfl) (by kernel_rfl) rfl rfl ?_
                    refine d_nil (by kernel_rfl) (fun w h => h.ent aEt) ?_
                    refine s_cond rfl (fun h66 => ?_) (fun h66 => ?_)
                    · try simp only [decide_eq_true_eq, decide_eq_false_iff_not, Bool.not_eq_true', Bool.not_eq_false', Bool.and_eq_true, Bool.or_eq_true, Bool.and_eq_false_iff, Bool.or_eq_false_iff, Bool.not_true, Bool.not_false] at h66
                      exfalso; have hq := h66; rw [hGl, hRl] at hq; simp at hq
                    · try simp only [decide_eq_true_eq, decide_eq_false_iff_not, Bool.not_eq_true', Bool.not_eq_false', Bool.and_eq_true, Bool.or_eq_true, Bool.and_eq_false_iff, Bool.or_eq_false_iff, Bool.not_true, Bool.not_false] at h66
                      refine s_skip ?_
                      refine s_seq ?_
                      refine s_region ?_
                      refine o_p (p_pure rfl) rfl ?_
                      refine o_nil ?_
                      refine s_block ?_
                      refine s_weaken (L' := [(7, _), (10, _), (11, _), (12, _)]) aSx (fun _ h => h) ?_
                      refine s_loopI (α := Nat) [4, 12, 95, 96, 97, 98, 99, 100, 101, 102, 103, 104, 105, 106, 107, 108, 109, 110, 111, 112, 113, 114, 115, 116, 117, 118] (fun k => [(12, .int .i64 (k : Int))]) (fun _ => _) (fun k => k ≤ (nth (pls L) (bsL (cmps (pls L) rc sq))).op.length) (fun k => (nth (pls L) (bsL (cmps (pls L) rc sq))).op.length - k) 0 (Nat.zero_le _) aSx (fun w h => h) (fun k hk1 => ?_)
                      refine s_seq ?_
                      refine s_seq ?_
                      refine s_region ?_
                      refine o_p (p_pure rfl) rfl ?_
                      refine o_p (p_pure rfl) rfl ?_
                      refine o_p (p_pure rfl) rfl ?_
                      refine o_p (p_indexAddr rfl rfl rfl sl_95 (i) (by omega) (by omega) hgg) rfl ?_
                      refine o_q (q_load_at rfl rfl sz_37 (fun w h => by have h9 := (h.rw_own (vals := brV) br1 (a := ga) (cap := gc) (l := G) aPk rfl).rdj 0 hiG rfl; rw [hgg] at h9; exact h9)) rfl ?_
                      refine o_p (p_len_slice rfl rfl Try.underlying37) rfl ?_
                      refine o_p (p_pure rfl) rfl ?_
                      refine o_nil ?_
                      refine s_cond rfl (fun h67 => ?_) (fun h67 => ?_)
                      · try simp only [decide_eq_true_eq, decide_eq_false_iff_not, Bool.not_eq_true', Bool.not_eq_false', Bool.and_eq_true, Bool.or_eq_true, Bool.and_eq_false_iff, Bool.or_eq_false_iff, Bool.not_true, Bool.not_false] at h67
                        have hkF : k < (nth (pls L) (bsL (cmps (pls L) rc sq))).op.length := by omega
                        have hGR : nth (nth G i).l k = nth (nth R i).l k := by rw [hG2 i hiF, hR2 i hiF]
                        refine s_fact (fun w h => own_addr (a := (nth G i).a) (cap := (nth G i).c) (n := (nth G i).l.length) (by omega) (HS.sub_open (sub := brS) (l := G) (i := i) (by omega) (h.pick aPk)) .here) (fun hga => ?_)
                        obtain ⟨gk, hgk, _, _⟩ := hga
                        refine s_fact (fun w h => own_addr (a := (nth R i).a) (cap := (nth R i).c) (n := (nth R i).l.length) (by omega) (HS.sub_open (sub := brS) (l := R) (i := i) (by omega) (h.pick aPk)) .here) (fun hga => ?_)
                        obtain ⟨rk, hrk, _, _⟩ := hga
                        refine s_skip ?_
                        refine s_seq ?_
                        refine s_block ?_
                        refine s_seq ?_
                        refine s_draw [] mixed ?_
                        refine d_p 0 rfl (p_pure rfl) (by kernel_rfl) rfl rfl ?_
                        refine d_p 1 rfl (p_pure rfl) (by kernel_rfl) rfl rfl ?_
                        refine d_p 2 rfl (p_indexAddr rfl rfl rfl sl_95 (i) (by omega) (by omega) hgg) (by kernel_rfl) rfl rfl ?_
                        refine d_q 3 [] rfl (q_load_at rfl rfl sz_37 (fun w h => by have h9 := (h.rw_own (vals := brV) br1 (a := ga) (cap := gc) (l := G) aPk rfl).rdj 0 hiG rfl; rw [hgg] at h9; exact h9)) (by kernel_rfl) (by kernel_rfl) (by kernel_rfl) rfl ?_
                        refine d_p 4 rfl (p_pure rfl) (by kernel_rfl) rfl rfl ?_
                        refine d_p 5 rfl (p_indexAddr rfl rfl rfl sl_37 (k) (by omega) (by omega) hgk) (by kernel_rfl) rfl rfl ?_
                        refine d_q 6 [] rfl (q_load_at rfl rfl sz_4 (fun w h => by have h9 := ((HS.sub_open (sub := brS) (l := G) (i := i) (by omega) (h.pick aPk)).rw_own (vals := boV) (fun _ => rfl) (a := (nth G i).a) (cap := (nth G i).c) (l := (nth G i).l) .here rfl).rdj (i := k) 0 (by omega) rfl; rw [hgk] at h9; exact h9)) (by kernel_rfl) (by kernel_rfl) (by kernel_rfl) rfl ?_
                        refine d_p 7 rfl (p_pure rfl) (by kernel_rfl) rfl rfl ?_
                        refine d_p 8 rfl (p_pure rfl) (by kernel_rfl) rfl rfl ?_
                        refine d_p 9 rfl (p_indexAddr rfl rfl rfl sl_95 (i) (by omega) (by omega) hgr) (by kernel_rfl) rfl rfl ?_
                        refine d_q 10 [] rfl (q_load_at rfl rfl sz_37 (fun w h => by have h9 := (h.rw_own (vals := brV) br1 (a := ra) (cap := rc2) (l := R) aPk rfl).rdj 0 (by omega : i < R.length) rfl; rw [hgr] at h9; exact h9)) (by kernel_rfl) (by kernel_rfl) (by kernel_rfl) rfl ?_
                        refine d_p 11 rfl (p_pure rfl) (by kernel_rfl) rfl rfl ?_
                        refine d_p 12 rfl (p_indexAddr rfl rfl rfl sl_37 (k) (by omega) (by omega) hrk) (by kernel_rfl) rfl rfl ?_
                        refine d_q 13 [] rfl (q_load_at rfl rfl sz_4 (fun w h => by have h9 := ((HS.sub_open (sub := brS) (l := R) (i := i) (by omega) (h.pick aPk)).rw_own (vals := boV) (fun _ => rfl) (a := (nth R i).a) (cap := (nth R i).c) (l := (nth R i).l) .here rfl).rdj (i := k) 0 (by omega) rfl; rw [hrk] at h9; exact h9)) (by kernel_rfl) (by kernel_rfl) (by kernel_rfl) rfl ?_
                        refine d_p 14 rfl (p_neq_bool rfl rfl rfl Try.underlying4) (by kernel_rfl) rfl rfl ?_
                        refine d_nil (by kernel_rfl) (fun w h => h.ent aEt) ?_
                        refine s_cond rfl (fun h68 => ?_) (fun h68 => ?_)
                        · try simp only [decide_eq_true_eq, decide_eq_false_iff_not, Bool.not_eq_true', Bool.not_eq_false', Bool.and_eq_true, Bool.or_eq_true, Bool.and_eq_false_iff, Bool.or_eq_false_iff, Bool.not_true, Bool.not_false] at h68
                          exfalso; have hq := h68; rw [hGR] at hq; simp at hq
                        · try simp only [decide_eq_true_eq, decide_eq_false_iff_not, Bool.not_eq_true', Bool.not_eq_false', Bool.and_eq_true, Bool.or_eq_true, Bool.and_eq_false_iff, Bool.or_eq_false_iff, Bool.not_true, Bool.not_false] at h68
                          refine s_skip ?_
                          refine s_blk ?_
                          refine s_region ?_
                          refine o_p (p_pure rfl) rfl ?_
                          refine o_p (p_pure rfl) rfl ?_
                          try (refine o_slot (i64w (by omega) (by omega)) ?_)
                          refine o_p (p_pure rfl) rfl ?_
                          refine o_nil ?_
                          exact s_backI (k + 1) (by omega) (by omega) aSx (fun w h => h)
                      · try simp only [decide_eq_true_eq, decide_eq_false_iff_not, Bool.not_eq_true', Bool.not_eq_false', Bool.and_eq_true, Bool.or_eq_true, Bool.and_eq_false_iff, Bool.or_eq_false_iff, Bool.not_true, Bool.not_false] at h67
                        refine s_exit_to rfl ?_
                        refine s_blk ?_
                        refine s_region ?_
                        refine o_p (p_pure rfl) rfl ?_
                        refine o_p (p_pure rfl) rfl ?_
                        try (refine o_slot (i64w (by omega) (by omega)) ?_)
                        refine o_p (p_pure rfl) rfl ?_
                        refine o_nil ?_
                        exact s_backI (i + 1) (by omega) (by omega) aSx (fun w h => h.ent aEt)
                  · try simp only [decide_eq_true_eq, decide_eq_false_iff_not, Bool.not_eq_true', Bool.not_eq_false', Bool.and_eq_true, Bool.or_eq_true, Bool.and_eq_false_iff, Bool.or_eq_false_iff, Bool.not_true, Bool.not_false] at h65
                    refine s_exit_to rfl ?_
                    refine s_seq ?_
                    refine s_region ?_
                    refine o_p (p_pure rfl) rfl ?_
                    refine o_nil ?_
                    exact s_retv (rs := [.tmp 4]) rfl (.tmp rfl (.nil)) (fun w' h' => ⟨by rfl, h'.below⟩)
              · intro hg69
                have hs70 := hg69; try simp only [decide_eq_true_eq, decide_eq_false_iff_not, Bool.not_eq_true', Bool.not_eq_false', Bool.and_eq_true, Bool.or_eq_true, Bool.and_eq_false_iff, Bool.or_eq_false_iff, Bool.not_true, Bool.not_false] at hs70
                refine d_pon 14 71 rfl rfl rfl hg69 (p_pure rfl) (by kernel_rfl) rfl rfl ?_
                refine d_pon 15 71 rfl rfl rfl hg69 (p_len_slice rfl rfl Try.underlying95) (by kernel_rfl) rfl rfl ?_
                refine d_pon 16 71 rfl rfl rfl hg69 (p_pure rfl) (by kernel_rfl) rfl rfl ?_
                refine d_pon 17 71 rfl rfl rfl hg69 (p_len_slice rfl rfl Try.underlying95) (by kernel_rfl) rfl rfl ?_
                refine d_pon 18 71 rfl rfl rfl hg69 (p_pure rfl) (by kernel_rfl) rfl rfl ?_
                refine d_p 19 rfl (p_pickf rfl rfl hg69 rfl) (by kernel_rfl) rfl rfl ?_
                refine d_nil (by kernel_rfl) (fun w h => h.ent aEt) ?_
                refine s_cond rfl (fun h71 => ?_) (fun h71 => ?_)
                · try simp only [decide_eq_true_eq, decide_eq_false_iff_not, Bool.not_eq_true', Bool.not_eq_false', Bool.and_eq_true, Bool.or_eq_true, Bool.and_eq_false_iff, Bool.or_eq_false_iff, Bool.not_true, Bool.not_false] at h71
                  exfalso; first | (have hq := h71; rw [hG1, hR1] at hq; simp at hq; done) | simp_all
                · try simp only [decide_eq_true_eq, decide_eq_false_iff_not, Bool.not_eq_true', Bool.not_eq_false', Bool.and_eq_true, Bool.or_eq_true, Bool.and_eq_false_iff, Bool.or_eq_false_iff, Bool.not_true, Bool.not_false] at h71
                  refine s_skip ?_
                  refine s_seq ?_
                  refine s_seq ?_
                  refine s_region ?_
                  refine o_p (p_pure rfl) rfl ?_
                  refine o_nil ?_
                  refine s_block ?_
                  refine s_weaken (L' := [(4, _), (7, _), (10, _), (11, _)]) aSx (fun _ h => h) ?_
                  refine s_loopI (α := Nat) [4, 11, 12, 78, 79, 80, 81, 82, 83, 84, 85, 86, 87, 88, 89, 90, 91, 92, 93, 94, 95, 96, 97, 98, 99, 100, 101, 102, 103, 104, 105, 106, 107, 108, 109, 110, 111, 112, 113, 114, 115, 116, 117, 118] (fun i => [(11, .int .i64 (i : Int))]) (fun _ => HS w [] [.own (.slice ga G.length gc) 37 1 G.length (G.flatMap brV), .star (G.map brS), .own (.slice ra R.length rc2) 37 1 R.length (R.flatMap brV), .star (R.map brS)]) (fun i => i ≤ G.length) (fun i => G.length - i) 0 (Nat.zero_le _) aSx (fun w h => h.ent aEt) (fun i hi1 => ?_)
                  refine s_seq ?_
                  refine s_seq ?_
                  refine s_region ?_
                  refine o_p (p_pure rfl) rfl ?_
                  refine o_p (p_pure rfl) rfl ?_
                  refine o_p (p_len_slice rfl rfl Try.underlying95) rfl ?_
                  refine o_p (p_pure rfl) rfl ?_
                  refine o_nil ?_
                  refine s_cond rfl (fun h72 => ?_) (fun h72 => ?_)
                  · try simp only [decide_eq_true_eq, decide_eq_false_iff_not, Bool.not_eq_true', Bool.not_eq_false', Bool.and_eq_true, Bool.or_eq_true, Bool.and_eq_false_iff, Bool.or_eq_false_iff, Bool.not_true, Bool.not_false] at h72
                    have hiG : i < G.length := by omega
                    have hiF : i < (nth (pls L) (bsL (cmps (pls L) rc sq))).op.length := by omega
                    have hGl : (nth G i).l.length = (nth (pls L) (bsL (cmps (pls L) rc sq))).op.length := by rw [hG2 i hiF, rowF_len]
                    have hRl : (nth R i).l.length = (nth (pls L) (bsL (cmps (pls L) rc sq))).op.length := by rw [hR2 i hiF, rowF_len]
                    refine s_fact (fun w h => own_addr (a := ga) (cap := gc) (n := G.length) (by omega) h aPk) (fun hga => ?_)
                    obtain ⟨gg, hgg, _, _⟩ := hga
                    refine s_fact (fun w h => own_addr (a := ra) (cap := rc2) (n := R.length) (by omega) h aPk) (fun hga => ?_)
                    obtain ⟨gr, hgr, _, _⟩ := hga
                    refine s_skip ?_
                    refine s_seq ?_
                    refine s_block ?_
                    refine s_seq ?_
                    refine s_seq ?_
                    refine s_draw [] mixed ?_
                    refine d_p 0 rfl (p_pure rfl) (by kernel_rfl) rfl rfl ?_
                    refine d_p 1 rfl (p_pure rfl) (by kernel_rfl) rfl rfl ?_
                    refine d_p 2 rfl (p_indexAddr rfl rfl rfl sl_95 (i) (by omega) (by omega) hgg) (by kernel_rfl) rfl rfl ?_
                    refine d_q 3 [] rfl (q_load_at rfl rfl sz_37 (fun w h => by have h9 := (h.rw_own (vals := brV) br1 (a := ga) (cap := gc) (l := G) aPk rfl).rdj 0 hiG rfl; rw [hgg] at h9; exact h9)) (by kernel_rfl) (by kernel_rfl) (by kernel_rfl) rfl ?_
                    refine d_p 4 rfl (p_len_slice rfl rfl Try.underlying37) (by kernel_rfl) rfl rfl ?_
                    refine d_p 5 rfl (p_pure rfl) (by kernel_rfl) rfl rfl ?_
                    refine d_p 6 rfl (p_pure rfl) (by kernel_rfl) rfl rfl ?_
                    refine d_p 7 rfl (p_indexAddr rfl rfl rfl sl_95 (i) (by omega) (by omega) hgr) (by kernel_rfl) rfl rfl ?_
                    refine d_q 8 [] rfl (q_load_at rfl rfl sz_37 (fun w h => by have h9 := (h.rw_own (vals := brV) br1 (a := ra) (cap := rc2) (l := R) aPk rfl).rdj 0 (by omega : i < R.length) rfl; rw [hgr] at h9; exact h9)) (by kernel_rfl) (by kernel_rfl) (by kernel_rfl) rfl ?_
                    refine d_p 9 rfl (p_len_slice rfl rfl Try.underlying37) (by kernel_rfl) rfl rfl ?_
                    refine d_p 10 rfl (p_pure rfl) (by kernel_rfl) rfl rfl ?_
                    refine d_nil (by kernel_rfl) (fun w h => h.ent aEt) ?_
                    refine s_cond rfl (fun h73 => ?_) (fun h73 => ?_)
                    · try simp only [decide_eq_true_eq, decide_eq_false_iff_not, Bool.not_eq_true', Bool.not_eq_false', Bool.and_eq_true, Bool.or_eq_true, Bool.and_eq_false_iff, Bool.or_eq_false_iff, Bool.not_true, Bool.not_false] at h73
                      exfalso; have hq := h73; rw [hGl, hRl] at hq; simp at hq
                    · try simp only [decide_eq_true_eq, decide_eq_false_iff_not, Bool.not_eq_true', Bool.not_eq_false', Bool.and_eq_true, Bool.or_eq_true, Bool.and_eq_false_iff, Bool.or_eq_false_iff, Bool.not_true, Bool.not_false] at h73
                      refine s_skip ?_
                      refine s_seq ?_
                      refine s_region ?_
                      refine o_p (p_pure rfl) rfl ?_
                      refine o_nil ?_
                      refine s_block ?_
                      refine s_weaken (L' := [(7, _), (10, _), (11, _), (12, _)]) aSx (fun _ h => h) ?_
                      refine s_loopI (α := Nat) [4, 12, 95, 96, 97, 98, 99, 100, 101, 102, 103, 104, 105, 106, 107, 108, 109, 110, 111, 112, 113, 114, 115, 116, 117, 118] (fun k => [(12, .int .i64 (k : Int))]) (fun _ => _) (fun k => k ≤ (nth (pls L) (bsL (cmps (pls L) rc sq))).op.length) (fun k => (nth (pls L) (bsL (cmps (pls L) rc sq))).op.length - k) 0 (Nat.zero_le _) aSx (fun w h => h) (fun k hk1 => ?_)
                      refine s_seq ?_
                      refine s_seq ?_
                      refine s_region ?_
                      refine o_p (p_pure rfl) rfl ?_
                      refine o_p (p_pure rfl) rfl ?_
                      refine o_p (p_pure rfl) rfl ?_
                      refine o_p (p_indexAddr rfl rfl rfl sl_95 (i) (by omega) (by omega) hgg) rfl ?_
                      refine o_q (q_load_at rfl rfl sz_37 (fun w h => by have h9 := (h.rw_own (vals := brV) br1 (a := ga) (cap := gc) (l := G) aPk rfl).rdj 0 hiG rfl; rw [hgg] at h9; exact h9)) rfl ?_
                      refine o_p (p_len_slice rfl rfl Try.underlying37) rfl ?_
                      refine o_p (p_pure rfl) rfl ?_
                      refine o_nil ?_
                      refine s_cond rfl (fun h74 => ?_) (fun h74 => ?_)
                      · try simp only [decide_eq_true_eq, decide_eq_false_iff_not, Bool.not_eq_true', Bool.not_eq_false', Bool.and_eq_true, Bool.or_eq_true, Bool.and_eq_false_iff, Bool.or_eq_false_iff, Bool.not_true, Bool.not_false] at h74
                        have hkF : k < (nth (pls L) (bsL (cmps (pls L) rc sq))).op.length := by omega
                        have hGR : nth (nth G i).l k = nth (nth R i).l k := by rw [hG2 i hiF, hR2 i hiF]
                        refine s_fact (fun w h => own_addr (a := (nth G i).a) (cap := (nth G i).c) (n := (nth G i).l.length) (by omega) (HS.sub_open (sub := brS) (l := G) (i := i) (by omega) (h.pick aPk)) .here) (fun hga => ?_)
                        obtain ⟨gk, hgk, _, _⟩ := hga
                        refine s_fact (fun w h => own_addr (a := (nth R i).a) (cap := (nth R i).c) (n := (nth R i).l.length) (by omega) (HS.sub_open (sub := brS) (l := R) (i := i) (by omega) (h.pick aPk)) .here) (fun hga => ?_)
                        obtain ⟨rk, hrk, _, _⟩ := hga
                        refine s_skip ?_
                        refine s_seq ?_
                        refine s_block ?_
                        refine s_seq ?_
                        refine s_draw [] mixed ?_
                        refine d_p 0 rfl (p_pure rfl) (by kernel_rfl) rfl rfl ?_
                        refine d_p 1 rfl (p_pure rfl) (by kernel_rfl) rfl rfl ?_
                        refine d_p 2 rfl (p_indexAddr rfl rfl rfl sl_95 (i) (by omega) (by omega) hgg) (by kernel_rfl) rfl rfl ?_
                        refine d_q 3 [] rfl (q_load_at rfl rfl sz_37 (fun w h => by have h9 := (h.rw_own (vals := brV) br1 (a := ga) (cap := gc) (l := G) aPk rfl).rdj 0 hiG rfl; rw [hgg] at h9; exact h9)) (by kernel_rfl) (by kernel_rfl) (by kernel_rfl) rfl ?_
                        refine d_p 4 rfl (p_pure rfl) (by kernel_rfl) rfl rfl ?_
                        refine d_p 5 rfl (p_indexAddr rfl rfl rfl sl_37 (k) (by omega) (by omega) hgk) (by kernel_rfl) rfl rfl ?_
                        refine d_q 6 [] rfl (q_load_at rfl rfl sz_4 (fun w h => by have h9 := ((HS.sub_open (sub := brS) (l := G) (i := i) (by omega) (h.pick aPk)).rw_own (vals := boV) (fun _ => rfl) (a := (nth G i).a) (cap := (nth G i).c) (l := (nth G i).l) .here rfl).rdj (i := k) 0 (by omega) rfl; rw [hgk] at h9; exact h9)) (by kernel_rfl) (by kernel_rfl) (by kernel_rfl) rfl ?_
                        refine d_p 7 rfl (p_pure rfl) (by kernel_rfl) rfl rfl ?_
                        refine d_p 8 rfl (p_pure rfl) (by kernel_rfl) rfl rfl ?_
                        refine d_p 9 rfl (p_indexAddr rfl rfl rfl sl_95 (i) (by omega) (by omega) hgr) (by kernel_rfl) rfl rfl ?_
                        refine d_q 10 [] rfl (q_load_at rfl rfl sz_37 (fun w h => by have h9 := (h.rw_own (vals := brV) br1 (a := ra) (cap := rc2) (l := R) aPk rfl).rdj 0 (by omega : i < R.length) rfl; rw [hgr] at h9; exact h9)) (by kernel_rfl) (by kernel_rfl) (by kernel_rfl) rfl ?_
                        refine d_p 11 rfl (p_pure rfl) (by kernel_rfl) rfl rfl ?_
                        refine d_p 12 rfl (p_indexAddr rfl rfl rfl sl_37 (k) (by omega) (by omega) hrk) (by kernel_rfl) rfl rfl ?_
                        refine d_q 13 [] rfl (q_load_at rfl rfl sz_4 (fun w h => by have h9 := ((HS.sub_open (sub := brS) (l := R) (i := i) (by omega) (h.pick aPk)).rw_own (vals := boV) (fun _ => rfl) (a := (nth R i).a) (cap := (nth R i).c) (l := (nth R i).l) .here rfl).rdj (i := k) 0 (by omega) rfl; rw [hrk] at h9; exact h9)) (by kernel_rfl) (by kernel_rfl) (by kernel_rfl) rfl ?_
                        refine d_p 14 rfl (p_neq_bool rfl rfl rfl Try.underlying4) (by kernel_rfl) rfl rfl ?_
                        refine d_nil (by kernel_rfl) (fun w h => h.ent aEt) ?_
                        refine s_cond rfl (fun h75 => ?_) (fun h75 => ?_)
                        · try simp only [decide_eq_true_eq, decide_eq_false_iff_not, Bool.not_eq_true', Bool.not_eq_false', Bool.and_eq_true, Bool.or_eq_true, Bool.and_eq_false_iff, Bool.or_eq_false_iff, Bool.not_true, Bool.not_false] at h75
                          exfalso; have hq := h75; rw [hGR] at hq; simp at hq
                        · try simp only [decide_eq_true_eq, decide_eq_false_iff_not, Bool.not_eq_true', Bool.not_eq_false', Bool.and_eq_true, Bool.or_eq_true, Bool.and_eq_false_iff, Bool.or_eq_false_iff, Bool.not_true, Bool.not_false] at h75
                          refine s_skip ?_
                          refine s_blk ?_
                          refine s_region ?_
                          refine o_p (p_pure rfl) rfl ?_
                          refine o_p (p_pure rfl) rfl ?_
                          try (refine o_slot (i64w (by omega) (by omega)) ?_)
                          refine o_p (p_pure rfl) rfl ?_
                          refine o_nil ?_
                          exact s_backI (k + 1) (by omega) (by omega) aSx (fun w h => h)
                      · try simp only [decide_eq_true_eq, decide_eq_false_iff_not, Bool.not_eq_true', Bool.not_eq_false', Bool.and_eq_true, Bool.or_eq_true, Bool.and_eq_false_iff, Bool.or_eq_false_iff, Bool.not_true, Bool.not_false] at h74
                        refine s_exit_to rfl ?_
                        refine s_blk ?_
                        refine s_region ?_
                        refine o_p (p_pure rfl) rfl ?_
                        refine o_p (p_pure rfl) rfl ?_
                        try (refine o_slot (i64w (by omega) (by omega)) ?_)
                        refine o_p (p_pure rfl) rfl ?_
                        refine o_nil ?_
                        exact s_backI (i + 1) (by omega) (by omega) aSx (fun w h => h.ent aEt)
                  · try simp only [decide_eq_true_eq, decide_eq_false_iff_not, Bool.not_eq_true', Bool.not_eq_false', Bool.and_eq_true, Bool.or_eq_true, Bool.and_eq_false_iff, Bool.or_eq_false_iff, Bool.not_true, Bool.not_false] at h72
                    refine s_exit_to rfl ?_
                    refine s_seq ?_
                    refine s_region ?_
                    refine o_p (p_pure rfl) rfl ?_
                    refine o_nil ?_
                    exact s_retv (rs := [.tmp 4]) rfl (.tmp rfl (.nil)) (fun w' h' => ⟨by rfl, h'.below⟩)

theorem c10 (w : World) (next : Int) (a : Option Addr) (cap : Nat) (L : List LFil) (rc sq : Int) (hs : Ft w [] a L) : Calls Try.prog 10 #[.agg #[.int .i64 next, .slice a L.length cap], .agg #[.int .i64 rc, .int .i64 sq]] w fun en w' => en = .returned (.bool true) ∧ Below w.heap.size w w' := by
  rcases Classical.em ((fErr next (pls L) rc sq) = 0) with h0 | h0
  · exact e10 w next a cap L rc sq hs h0
  · exact d10 w next a cap L rc sq hs h0

end Go.Proofs

