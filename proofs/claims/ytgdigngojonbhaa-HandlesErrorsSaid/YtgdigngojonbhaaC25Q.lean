/- Contracts of the program's functions, proved by walking them with the rules of the Gx texts; without conditions beyond those that each contract names. -/
import Derived.Test.YtgdigngojonbhaaC25P
namespace Go.Proofs
open Go Go.RowKit Gx
set_option linter.unusedVariables false
set_option linter.unusedSimpArgs false
attribute [local irreducible] Go.Calls Gx.S Gx.O Gx.D Gx.OpP Gx.OpQ Gx.OpH

theorem fn_22 : isFn Try.prog 22 = true := by kernel_rfl
theorem fn_98 : isFn Try.prog 98 = true := by kernel_rfl
theorem fn_23 : isFn Try.prog 23 = true := by kernel_rfl
theorem fn_99 : isFn Try.prog 99 = true := by kernel_rfl


theorem hdl_l {next : Int} {known : List Int} {ops : List LOpn} {k : Nat} (hk : k < ops.length) : hdlE next known (plo ops) k = if ¬ (1 ≤ (nth ops k).hd ∧ (nth ops k).hd ≤ next - 1) then 2 else if ¬ openE (nth ops k).ac (nth ops k).sh = 0 then openE (nth ops k).ac (nth ops k).sh else if ¬ (k = 0 ∨ (nth ops (k - 1)).hd < (nth ops k).hd) then 9 else if ¬ lksE (nth ops k).lk = 0 then lksE (nth ops k).lk else if (nth ops k).hd ∈ known then 23 else if ((plo ops).take k).any (cfl (nth ops k).pl) = true then 28 else lockedE (((plo ops).take k).flatMap Opn.lk) (nth ops k).lk := by
  rw [hdl_r, nth_plo hk, nth_plo (show k - 1 < ops.length by omega)]
  rfl
theorem hdl_okl {next : Int} {known : List Int} {ops : List LOpn} {k : Nat} (hk : k < ops.length) (h : hdlE next known (plo ops) k = 0) : openE (nth ops k).ac (nth ops k).sh = 0 ∧ (nth ops k).lk.length ≤ 16 ∧ okL (nth ops k).lk := by
  have h9 := hdl_ok h
  rw [nth_plo hk] at h9
  exact h9

set_option maxRecDepth 20000 in
set_option maxHeartbeats 1000000 in
theorem c61 (w : World) (next : Int) (a : Option Addr) (cap : Nat) (L : List LFil) (i k : Nat) (hs : Ft w [] a L) (hm : L.length ≤ 1000) (hmo : ∀ f ∈ L, f.op.length ≤ 1000) (hi : i < L.length) (hk : k < (nth L i).op.length) (hn : 1 ≤ next ∧ next ≤ 2147483647) (hv : ∀ j, j < k → hdlE next (hds ((pls L).take i)) (plo (nth L i).op) j = 0) : Calls Try.prog 61 #[.agg #[.int .i64 next, .slice a L.length cap], .int .i64 (i : Int), .int .i64 (k : Int)] w fun en w' => en = .returned (.int .i64 (hdlE next (hds ((pls L).take i)) (plo (nth L i).op) k)) ∧ Below w.heap.size w w' := by
  have hoi := hmo _ (mem_nth hi)
  refine enter (args := [_, _, _]) Try.func61 Try.ntmps61 rfl rfl (HS.refl w []) ?_
  refine s_seq ?_
  refine s_region ?_
  refine o_h (h_box rfl rfl) rfl (fun b1 _ => ?_)
  refine o_p (p_pure rfl) rfl ?_
  refine o_nil ?_
  refine s_seq ?_
  refine s_region ?_
  refine o_p (p_fieldAddr rfl rfl fd_26_1 sz_24 rfl) rfl ?_
  first | refine o_q (q_load rfl rfl sz_24 (by repeat (first | exact .here | apply Pick.there)) rfl) rfl ?_ | refine o_q (q_load_old rfl rfl sz_24 (rfl (Rw.rd hs.1 hi))) rfl ?_ | refine o_q (q_load_old rfl rfl sz_24 (rfl (Rw.rd (hs.at hi).1 hk))) rfl ?_ | refine o_q (q_load_old rfl rfl sz_24 (((hs.at hi).1.rdj 0 (show k - 1 < (nth L i).op.length by omega) rfl))) rfl ?_ | refine o_q (q_load_old rfl rfl sz_24 ((hs.1.rdj 3 hnl rfl))) rfl ?_ | refine o_q (q_load_old rfl rfl sz_24 (((hs.at hnl).1.rdj 0 hml rfl))) rfl ?_ | refine o_q (q_load_old rfl rfl sz_24 (rfl (Rw.rd (hs.at hi).1 hpl))) rfl ?_
  refine o_p (p_pure rfl) rfl ?_
  first | refine o_p (p_indexAddr rfl rfl rfl sl_24 (i) (by omega) (by omega) rfl) rfl ?_ | refine o_p (p_indexAddr rfl rfl rfl sl_24 (i) (by omega) (by omega) (Rw.some hs.1 (by omega))) rfl ?_ | refine o_p (p_indexAddr rfl rfl rfl sl_24 (i) (by omega) (by omega) (Rw.some (hs.at hi).1 (by omega))) rfl ?_ | refine o_p (p_indexAddr rfl rfl rfl sl_24 (i) (by omega) (by omega) (Rw.some (hs.at hnl).1 (by omega))) rfl ?_
  first | refine o_q (q_loadn rfl rfl sz_77 (by repeat (first | exact .here | apply Pick.there)) rfl) rfl ?_ | refine o_q (q_load_oldn _ rfl rfl sz_77 rfl (Rw.rd hs.1 hi)) rfl ?_ | refine o_q (q_load_oldn _ rfl rfl sz_77 rfl (Rw.rd (hs.at hi).1 hk)) rfl ?_ | refine o_q (q_load_oldn _ rfl rfl sz_77 ((hs.at hi).1.rdj 0 (show k - 1 < (nth L i).op.length by omega) rfl)) rfl ?_ | refine o_q (q_load_oldn _ rfl rfl sz_77 (hs.1.rdj 3 hnl rfl)) rfl ?_ | refine o_q (q_load_oldn _ rfl rfl sz_77 ((hs.at hnl).1.rdj 0 hml rfl)) rfl ?_ | refine o_q (q_load_oldn _ rfl rfl sz_77 rfl (Rw.rd (hs.at hi).1 hpl)) rfl ?_
  refine o_h (h_alloc rfl zr_77) rfl (fun b2 _ => ?_)
  refine o_h0 (h_store rfl rfl rfl sz_77 rfl (by repeat (first | exact .here | apply Put.there)) (by simp only [setMany_length, List.length_set, List.length_cons, List.length_nil, List.length_map]; omega) rfl) (fun _ _ => ?_)
  refine o_nil ?_
  refine s_seq ?_
  refine s_region ?_
  refine o_p (p_fieldAddr rfl rfl fd_77_2 sz_75 rfl) rfl ?_
  first | refine o_q (q_load rfl rfl sz_75 (by repeat (first | exact .here | apply Pick.there)) rfl) rfl ?_ | refine o_q (q_load_old rfl rfl sz_75 (rfl (Rw.rd hs.1 hi))) rfl ?_ | refine o_q (q_load_old rfl rfl sz_75 (rfl (Rw.rd (hs.at hi).1 hk))) rfl ?_ | refine o_q (q_load_old rfl rfl sz_75 (((hs.at hi).1.rdj 0 (show k - 1 < (nth L i).op.length by omega) rfl))) rfl ?_ | refine o_q (q_load_old rfl rfl sz_75 ((hs.1.rdj 3 hnl rfl))) rfl ?_ | refine o_q (q_load_old rfl rfl sz_75 (((hs.at hnl).1.rdj 0 hml rfl))) rfl ?_ | refine o_q (q_load_old rfl rfl sz_75 (rfl (Rw.rd (hs.at hi).1 hpl))) rfl ?_
  refine o_p (p_pure rfl) rfl ?_
  first | refine o_p (p_indexAddr rfl rfl rfl sl_75 (k) (by omega) (by omega) rfl) rfl ?_ | refine o_p (p_indexAddr rfl rfl rfl sl_75 (k) (by omega) (by omega) (Rw.some hs.1 (by omega))) rfl ?_ | refine o_p (p_indexAddr rfl rfl rfl sl_75 (k) (by omega) (by omega) (Rw.some (hs.at hi).1 (by omega))) rfl ?_ | refine o_p (p_indexAddr rfl rfl rfl sl_75 (k) (by omega) (by omega) (Rw.some (hs.at hnl).1 (by omega))) rfl ?_
  first | refine o_q (q_loadn rfl rfl sz_48 (by repeat (first | exact .here | apply Pick.there)) rfl) rfl ?_ | refine o_q (q_load_oldn _ rfl rfl sz_48 rfl (Rw.rd hs.1 hi)) rfl ?_ | refine o_q (q_load_oldn _ rfl rfl sz_48 rfl (Rw.rd (hs.at hi).1 hk)) rfl ?_ | refine o_q (q_load_oldn _ rfl rfl sz_48 ((hs.at hi).1.rdj 0 (show k - 1 < (nth L i).op.length by omega) rfl)) rfl ?_ | refine o_q (q_load_oldn _ rfl rfl sz_48 (hs.1.rdj 3 hnl rfl)) rfl ?_ | refine o_q (q_load_oldn _ rfl rfl sz_48 ((hs.at hnl).1.rdj 0 hml rfl)) rfl ?_ | refine o_q (q_load_oldn _ rfl rfl sz_48 rfl (Rw.rd (hs.at hi).1 hpl)) rfl ?_
  refine o_h (h_alloc rfl zr_48) rfl (fun b3 _ => ?_)
  refine o_h0 (h_store rfl rfl rfl sz_48 rfl (by repeat (first | exact .here | apply Put.there)) (by simp only [setMany_length, List.length_set, List.length_cons, List.length_nil, List.length_map]; omega) rfl) (fun _ _ => ?_)
  refine o_nil ?_
  refine s_seq ?_
  refine s_seq ?_
  refine s_region ?_
  refine o_p (p_fieldAddr rfl rfl fd_48_0 sz_3 rfl) rfl ?_
  first | refine o_q (q_load rfl rfl sz_3 (by repeat (first | exact .here | apply Pick.there)) rfl) rfl ?_ | refine o_q (q_load_old rfl rfl sz_3 (rfl (Rw.rd hs.1 hi))) rfl ?_ | refine o_q (q_load_old rfl rfl sz_3 (rfl (Rw.rd (hs.at hi).1 hk))) rfl ?_ | refine o_q (q_load_old rfl rfl sz_3 (((hs.at hi).1.rdj 0 (show k - 1 < (nth L i).op.length by omega) rfl))) rfl ?_ | refine o_q (q_load_old rfl rfl sz_3 ((hs.1.rdj 3 hnl rfl))) rfl ?_ | refine o_q (q_load_old rfl rfl sz_3 (((hs.at hnl).1.rdj 0 hml rfl))) rfl ?_ | refine o_q (q_load_old rfl rfl sz_3 (rfl (Rw.rd (hs.at hi).1 hpl))) rfl ?_
  refine o_p (p_fieldAddr rfl rfl fd_26_0 sz_3 rfl) rfl ?_
  first | refine o_q (q_load rfl rfl sz_3 (by repeat (first | exact .here | apply Pick.there)) rfl) rfl ?_ | refine o_q (q_load_old rfl rfl sz_3 (rfl (Rw.rd hs.1 hi))) rfl ?_ | refine o_q (q_load_old rfl rfl sz_3 (rfl (Rw.rd (hs.at hi).1 hk))) rfl ?_ | refine o_q (q_load_old rfl rfl sz_3 (((hs.at hi).1.rdj 0 (show k - 1 < (nth L i).op.length by omega) rfl))) rfl ?_ | refine o_q (q_load_old rfl rfl sz_3 ((hs.1.rdj 3 hnl rfl))) rfl ?_ | refine o_q (q_load_old rfl rfl sz_3 (((hs.at hnl).1.rdj 0 hml rfl))) rfl ?_ | refine o_q (q_load_old rfl rfl sz_3 (rfl (Rw.rd (hs.at hi).1 hpl))) rfl ?_
  refine o_p (p_pure rfl) rfl ?_
  try (refine o_slot (i64w (by omega) (by omega)) ?_)
  refine o_q (q_call rfl fn_16 rfl (fun w1 h1 => c16 w1 _ _ _)) rfl ?_
  refine o_p (p_pure rfl) rfl ?_
  refine o_nil ?_
  refine s_cond rfl (fun h4 => ?_) (fun h4 => ?_)
  · try simp only [decide_eq_true_eq, decide_eq_false_iff_not, Bool.not_eq_true', Bool.not_eq_false', Bool.and_eq_true, Bool.or_eq_true, Bool.and_eq_false_iff, Bool.or_eq_false_iff, Bool.not_true, Bool.not_false] at h4
    have hA : ¬ (1 ≤ (nth (nth L i).op k).hd ∧ (nth (nth L i).op k).hd ≤ next - 1) := by have hq := h4; (try simp at hq); omega
    refine s_seq ?_
    refine s_region ?_
    refine o_p (p_pure rfl) rfl ?_
    refine o_nil ?_
    exact s_retv (rs := [.tmp 6]) rfl (.tmp rfl (.nil)) (fun w' h' => ⟨by rw [hdl_l hk, if_pos hA]; rfl, h'.below⟩)
  · try simp only [decide_eq_true_eq, decide_eq_false_iff_not, Bool.not_eq_true', Bool.not_eq_false', Bool.and_eq_true, Bool.or_eq_true, Bool.and_eq_false_iff, Bool.or_eq_false_iff, Bool.not_true, Bool.not_false] at h4
    have hA : 1 ≤ (nth (nth L i).op k).hd ∧ (nth (nth L i).op k).hd ≤ next - 1 := by have hq := h4; (try simp at hq); omega
    refine s_skip ?_
    refine s_seq ?_
    refine s_seq ?_
    refine s_region ?_
    first | refine o_q (q_loadn rfl rfl sz_48 (by repeat (first | exact .here | apply Pick.there)) rfl) rfl ?_ | refine o_q (q_load_oldn _ rfl rfl sz_48 rfl (Rw.rd hs.1 hi)) rfl ?_ | refine o_q (q_load_oldn _ rfl rfl sz_48 rfl (Rw.rd (hs.at hi).1 hk)) rfl ?_ | refine o_q (q_load_oldn _ rfl rfl sz_48 ((hs.at hi).1.rdj 0 (show k - 1 < (nth L i).op.length by omega) rfl)) rfl ?_ | refine o_q (q_load_oldn _ rfl rfl sz_48 (hs.1.rdj 3 hnl rfl)) rfl ?_ | refine o_q (q_load_oldn _ rfl rfl sz_48 ((hs.at hnl).1.rdj 0 hml rfl)) rfl ?_ | refine o_q (q_load_oldn _ rfl rfl sz_48 rfl (Rw.rd (hs.at hi).1 hpl)) rfl ?_
    refine o_q (q_call rfl fn_22 rfl (fun w1 h1 => c22 w1 (nth (nth L i).op k))) rfl ?_
    refine o_p (p_pure rfl) rfl ?_
    refine o_nil ?_
    refine s_seq ?_
    refine s_region ?_
    refine o_p (p_pure rfl) rfl ?_
    refine o_p (p_pure rfl) rfl ?_
    refine o_nil ?_
    refine s_cond rfl (fun h5 => ?_) (fun h5 => ?_)
    · try simp only [decide_eq_true_eq, decide_eq_false_iff_not, Bool.not_eq_true', Bool.not_eq_false', Bool.and_eq_true, Bool.or_eq_true, Bool.and_eq_false_iff, Bool.or_eq_false_iff, Bool.not_true, Bool.not_false] at h5
      have hB : ¬ openE (nth (nth L i).op k).ac (nth (nth L i).op k).sh = 0 := h5
      refine s_seq ?_
      refine s_region ?_
      refine o_p (p_pure rfl) rfl ?_
      refine o_p (p_pure rfl) rfl ?_
      refine o_nil ?_
      exact s_retv (rs := [.tmp 6]) rfl (.tmp rfl (.nil)) (fun w' h' => ⟨by rw [hdl_l hk, if_neg (not_not_intro hA), if_pos hB]; rfl, h'.below⟩)
    · try simp only [decide_eq_true_eq, decide_eq_false_iff_not, Bool.not_eq_true', Bool.not_eq_false', Bool.and_eq_true, Bool.or_eq_true, Bool.and_eq_false_iff, Bool.or_eq_false_iff, Bool.not_true, Bool.not_false] at h5
      have hB : openE (nth (nth L i).op k).ac (nth (nth L i).op k).sh = 0 := h5
      refine s_skip ?_
      refine s_seq ?_
      refine s_seq ?_
      refine s_weaken (L' := [(1, _), (2, _), (3, _), (6, _), (7, _), (8, _)]) (by repeat (first | exact sl_n | refine sl_c rfl ?_)) (fun _ h => h) ?_
      refine s_cutI (α := Unit) [36, 37, 38, 39, 40, 41, 42, 43, 44, 45, 46, 47, 48, 49] (fun _ => [(49, .bool (decide (¬ (k = 0 ∨ (nth (nth L i).op (k - 1)).hd < (nth (nth L i).op k).hd))))]) (fun _ => HS w [] [.blk b1 26 2 [.int .i64 next, .slice a L.length cap], .blk b2 77 4 (nth L i).vals, .blk b3 48 5 (nth (nth L i).op k).vals]) (fun _ => True) ?_ ?_
      · skip
        refine s_draw [] mixed ?_
        refine d_p 0 rfl (p_pure rfl) (by kernel_rfl) rfl rfl ?_
        refine d_p 1 rfl (p_pure rfl) (by kernel_rfl) rfl rfl ?_
        refine d_p 2 rfl (p_pure rfl) (by kernel_rfl) rfl rfl ?_
        apply d_split 38
        · exact rfl
        · intro hg6
          have hs7 := hg6; try simp only [decide_eq_true_eq, decide_eq_false_iff_not, Bool.not_eq_true', Bool.not_eq_false', Bool.and_eq_true, Bool.or_eq_true, Bool.and_eq_false_iff, Bool.or_eq_false_iff, Bool.not_true, Bool.not_false] at hs7
          refine d_pon 3 38 rfl rfl rfl hg6 (p_fieldAddr rfl rfl fd_48_0 sz_3 rfl) (by kernel_rfl) rfl rfl ?_
          first | refine d_qon 4 38 [] rfl rfl rfl hg6 (q_load rfl rfl sz_3 (by repeat (first | exact .here | apply Pick.there)) rfl) (by kernel_rfl) (by kernel_rfl) (by kernel_rfl) rfl ?_ | refine d_qon 4 38 [] rfl rfl rfl hg6 (q_load_old rfl rfl sz_3 (rfl (Rw.rd hs.1 hi))) (by kernel_rfl) (by kernel_rfl) (by kernel_rfl) rfl ?_ | refine d_qon 4 38 [] rfl rfl rfl hg6 (q_load_old rfl rfl sz_3 (rfl (Rw.rd (hs.at hi).1 hk))) (by kernel_rfl) (by kernel_rfl) (by kernel_rfl) rfl ?_ | refine d_qon 4 38 [] rfl rfl rfl hg6 (q_load_old rfl rfl sz_3 (((hs.at hi).1.rdj 0 (show k - 1 < (nth L i).op.length by omega) rfl))) (by kernel_rfl) (by kernel_rfl) (by kernel_rfl) rfl ?_ | refine d_qon 4 38 [] rfl rfl rfl hg6 (q_load_old rfl rfl sz_3 ((hs.1.rdj 3 hnl rfl))) (by kernel_rfl) (by kernel_rfl) (by kernel_rfl) rfl ?_ | refine d_qon 4 38 [] rfl rfl rfl hg6 (q_load_old rfl rfl sz_3 (((hs.at hnl).1.rdj 0 hml rfl))) (by kernel_rfl) (by kernel_rfl) (by kernel_rfl) rfl ?_ | refine d_qon 4 38 [] rfl rfl rfl hg6 (q_load_old rfl rfl sz_3 (rfl (Rw.rd (hs.at hi).1 hpl))) (by kernel_rfl) (by kernel_rfl) (by kernel_rfl) rfl ?_
          refine d_pon 5 38 rfl rfl rfl hg6 (p_fieldAddr rfl rfl fd_77_2 sz_75 rfl) (by kernel_rfl) rfl rfl ?_
          first | refine d_qon 6 38 [] rfl rfl rfl hg6 (q_load rfl rfl sz_75 (by repeat (first | exact .here | apply Pick.there)) rfl) (by kernel_rfl) (by kernel_rfl) (by kernel_rfl) rfl ?_ | refine d_qon 6 38 [] rfl rfl rfl hg6 (q_load_old rfl rfl sz_75 (rfl (Rw.rd hs.1 hi))) (by kernel_rfl) (by kernel_rfl) (by kernel_rfl) rfl ?_ | refine d_qon 6 38 [] rfl rfl rfl hg6 (q_load_old rfl rfl sz_75 (rfl (Rw.rd (hs.at hi).1 hk))) (by kernel_rfl) (by kernel_rfl) (by kernel_rfl) rfl ?_ | refine d_qon 6 38 [] rfl rfl rfl hg6 (q_load_old rfl rfl sz_75 (((hs.at hi).1.rdj 0 (show k - 1 < (nth L i).op.length by omega) rfl))) (by kernel_rfl) (by kernel_rfl) (by kernel_rfl) rfl ?_ | refine d_qon 6 38 [] rfl rfl rfl hg6 (q_load_old rfl rfl sz_75 ((hs.1.rdj 3 hnl rfl))) (by kernel_rfl) (by kernel_rfl) (by kernel_rfl) rfl ?_ | refine d_qon 6 38 [] rfl rfl rfl hg6 (q_load_old rfl rfl sz_75 (((hs.at hnl).1.rdj 0 hml rfl))) (by kernel_rfl) (by kernel_rfl) (by kernel_rfl) rfl ?_ | refine d_qon 6 38 [] rfl rfl rfl hg6 (q_load_old rfl rfl sz_75 (rfl (Rw.rd (hs.at hi).1 hpl))) (by kernel_rfl) (by kernel_rfl) (by kernel_rfl) rfl ?_
          refine d_pon 7 38 rfl rfl rfl hg6 (p_pure rfl) (by kernel_rfl) rfl rfl ?_
          refine d_pon 8 38 rfl rfl rfl hg6 (p_pure rfl) (by kernel_rfl) rfl rfl ?_
          try (refine d_slot (i64w (by omega) (by omega)) ?_)
          first | refine d_pon 9 38 rfl rfl rfl hg6 (p_indexAddr rfl rfl rfl sl_75 ((k - 1)) (by omega) (by omega) rfl) (by kernel_rfl) rfl rfl ?_ | refine d_pon 9 38 rfl rfl rfl hg6 (p_indexAddr rfl rfl rfl sl_75 ((k - 1)) (by omega) (by omega) (Rw.some hs.1 (by omega))) (by kernel_rfl) rfl rfl ?_ | refine d_pon 9 38 rfl rfl rfl hg6 (p_indexAddr rfl rfl rfl sl_75 ((k - 1)) (by omega) (by omega) (Rw.some (hs.at hi).1 (by omega))) (by kernel_rfl) rfl rfl ?_ | refine d_pon 9 38 rfl rfl rfl hg6 (p_indexAddr rfl rfl rfl sl_75 ((k - 1)) (by omega) (by omega) (Rw.some (hs.at hnl).1 (by omega))) (by kernel_rfl) rfl rfl ?_
          refine d_pon 10 38 rfl rfl rfl hg6 (p_fieldAddr rfl rfl fd_48_0 sz_3 rfl) (by kernel_rfl) rfl rfl ?_
          first | refine d_qon 11 38 [] rfl rfl rfl hg6 (q_load rfl rfl sz_3 (by repeat (first | exact .here | apply Pick.there)) rfl) (by kernel_rfl) (by kernel_rfl) (by kernel_rfl) rfl ?_ | refine d_qon 11 38 [] rfl rfl rfl hg6 (q_load_old rfl rfl sz_3 (rfl (Rw.rd hs.1 hi))) (by kernel_rfl) (by kernel_rfl) (by kernel_rfl) rfl ?_ | refine d_qon 11 38 [] rfl rfl rfl hg6 (q_load_old rfl rfl sz_3 (rfl (Rw.rd (hs.at hi).1 hk))) (by kernel_rfl) (by kernel_rfl) (by kernel_rfl) rfl ?_ | refine d_qon 11 38 [] rfl rfl rfl hg6 (q_load_old rfl rfl sz_3 (((hs.at hi).1.rdj 0 (show k - 1 < (nth L i).op.length by omega) rfl))) (by kernel_rfl) (by kernel_rfl) (by kernel_rfl) rfl ?_ | refine d_qon 11 38 [] rfl rfl rfl hg6 (q_load_old rfl rfl sz_3 ((hs.1.rdj 3 hnl rfl))) (by kernel_rfl) (by kernel_rfl) (by kernel_rfl) rfl ?_ | refine d_qon 11 38 [] rfl rfl rfl hg6 (q_load_old rfl rfl sz_3 (((hs.at hnl).1.rdj 0 hml rfl))) (by kernel_rfl) (by kernel_rfl) (by kernel_rfl) rfl ?_ | refine d_qon 11 38 [] rfl rfl rfl hg6 (q_load_old rfl rfl sz_3 (rfl (Rw.rd (hs.at hi).1 hpl))) (by kernel_rfl) (by kernel_rfl) (by kernel_rfl) rfl ?_
          refine d_pon 12 38 rfl rfl rfl hg6 (p_pure rfl) (by kernel_rfl) rfl rfl ?_
          refine d_p 13 rfl (p_pickt rfl rfl hg6 rfl) (by kernel_rfl) rfl rfl ?_
          refine d_nil (by kernel_rfl) (fun w h => h.ent (by repeat (first | exact .nil | refine .cons (by repeat (first | exact .here | apply Pick.there)) ?_))) ?_
          exact s_joinI () trivial (sl_c (congrArg (fun e => some (Value.bool e)) (by have hq := hg6; simp at hq; first | (rw [decide_eq_decide]; omega) | (subst hq; simp; done) | (have h0 : k = 0 := by omega); simp [h0])) (by repeat (first | exact sl_n | refine sl_c rfl ?_))) (fun w h => h.ent (by repeat (first | exact .nil | refine .cons (by repeat (first | exact .here | apply Pick.there)) ?_)))
        · intro hg8
          have hs9 := hg8; try simp only [decide_eq_true_eq, decide_eq_false_iff_not, Bool.not_eq_true', Bool.not_eq_false', Bool.and_eq_true, Bool.or_eq_true, Bool.and_eq_false_iff, Bool.or_eq_false_iff, Bool.not_true, Bool.not_false] at hs9
          refine d_off 3 38 rfl rfl rfl hg8 (by kernel_rfl) rfl rfl ?_
          refine d_off 4 38 rfl rfl rfl hg8 (by kernel_rfl) rfl rfl ?_
          refine d_off 5 38 rfl rfl rfl hg8 (by kernel_rfl) rfl rfl ?_
          refine d_off 6 38 rfl rfl rfl hg8 (by kernel_rfl) rfl rfl ?_
          refine d_off 7 38 rfl rfl rfl hg8 (by kernel_rfl) rfl rfl ?_
          refine d_off 8 38 rfl rfl rfl hg8 (by kernel_rfl) rfl rfl ?_
          refine d_off 9 38 rfl rfl rfl hg8 (by kernel_rfl) rfl rfl ?_
          refine d_off 10 38 rfl rfl rfl hg8 (by kernel_rfl) rfl rfl ?_
          refine d_off 11 38 rfl rfl rfl hg8 (by kernel_rfl) rfl rfl ?_
          refine d_off 12 38 rfl rfl rfl hg8 (by kernel_rfl) rfl rfl ?_
          refine d_p 13 rfl (p_pickf rfl rfl hg8 rfl) (by kernel_rfl) rfl rfl ?_
          refine d_nil (by kernel_rfl) (fun w h => h.ent (by repeat (first | exact .nil | refine .cons (by repeat (first | exact .here | apply Pick.there)) ?_))) ?_
          exact s_joinI () trivial (sl_c (congrArg (fun e => some (Value.bool e)) (by have hq := hg8; simp at hq; first | (rw [decide_eq_decide]; omega) | (subst hq; simp; done) | (have h0 : k = 0 := by omega); simp [h0])) (by repeat (first | exact sl_n | refine sl_c rfl ?_))) (fun w h => h.ent (by repeat (first | exact .nil | refine .cons (by repeat (first | exact .here | apply Pick.there)) ?_)))
      · intro _ _
        refine s_cond rfl (fun h10 => ?_) (fun h10 => ?_)
        · try simp only [decide_eq_true_eq, decide_eq_false_iff_not, Bool.not_eq_true', Bool.not_eq_false', Bool.and_eq_true, Bool.or_eq_true, Bool.and_eq_false_iff, Bool.or_eq_false_iff, Bool.not_true, Bool.not_false] at h10
          have hC : ¬ (k = 0 ∨ (nth (nth L i).op (k - 1)).hd < (nth (nth L i).op k).hd) := by have hq := h10; simpa using hq
          refine s_seq ?_
          refine s_region ?_
          refine o_p (p_pure rfl) rfl ?_
          refine o_nil ?_
          exact s_retv (rs := [.tmp 6]) rfl (.tmp rfl (.nil)) (fun w' h' => ⟨by rw [hdl_l hk, if_neg (not_not_intro hA), if_neg (not_not_intro hB), if_pos hC]; rfl, h'.below⟩)
        · try simp only [decide_eq_true_eq, decide_eq_false_iff_not, Bool.not_eq_true', Bool.not_eq_false', Bool.and_eq_true, Bool.or_eq_true, Bool.and_eq_false_iff, Bool.or_eq_false_iff, Bool.not_true, Bool.not_false] at h10
          have hC : k = 0 ∨ (nth (nth L i).op (k - 1)).hd < (nth (nth L i).op k).hd := by have hq := h10; (try simp at hq); omega
          refine s_skip ?_
          refine s_seq ?_
          refine s_seq ?_
          refine s_region ?_
          first | refine o_q (q_loadn rfl rfl sz_48 (by repeat (first | exact .here | apply Pick.there)) rfl) rfl ?_ | refine o_q (q_load_oldn _ rfl rfl sz_48 rfl (Rw.rd hs.1 hi)) rfl ?_ | refine o_q (q_load_oldn _ rfl rfl sz_48 rfl (Rw.rd (hs.at hi).1 hk)) rfl ?_ | refine o_q (q_load_oldn _ rfl rfl sz_48 ((hs.at hi).1.rdj 0 (show k - 1 < (nth L i).op.length by omega) rfl)) rfl ?_ | refine o_q (q_load_oldn _ rfl rfl sz_48 (hs.1.rdj 3 hnl rfl)) rfl ?_ | refine o_q (q_load_oldn _ rfl rfl sz_48 ((hs.at hnl).1.rdj 0 hml rfl)) rfl ?_ | refine o_q (q_load_oldn _ rfl rfl sz_48 rfl (Rw.rd (hs.at hi).1 hpl)) rfl ?_
          refine o_q (q_call rfl fn_98 rfl (fun w1 h1 => c98 w1 (nth (nth L i).op k) (((hs.at hi).at hk).later h1))) rfl ?_
          refine o_p (p_pure rfl) rfl ?_
          refine o_nil ?_
          refine s_seq ?_
          refine s_region ?_
          refine o_p (p_pure rfl) rfl ?_
          refine o_p (p_pure rfl) rfl ?_
          refine o_nil ?_
          refine s_cond rfl (fun h11 => ?_) (fun h11 => ?_)
          · try simp only [decide_eq_true_eq, decide_eq_false_iff_not, Bool.not_eq_true', Bool.not_eq_false', Bool.and_eq_true, Bool.or_eq_true, Bool.and_eq_false_iff, Bool.or_eq_false_iff, Bool.not_true, Bool.not_false] at h11
            have hD : ¬ lksE (nth (nth L i).op k).lk = 0 := h11
            refine s_seq ?_
            refine s_region ?_
            refine o_p (p_pure rfl) rfl ?_
            refine o_p (p_pure rfl) rfl ?_
            refine o_nil ?_
            exact s_retv (rs := [.tmp 6]) rfl (.tmp rfl (.nil)) (fun w' h' => ⟨by rw [hdl_l hk, if_neg (not_not_intro hA), if_neg (not_not_intro hB), if_neg (not_not_intro hC), if_pos hD]; rfl, h'.below⟩)
          · try simp only [decide_eq_true_eq, decide_eq_false_iff_not, Bool.not_eq_true', Bool.not_eq_false', Bool.and_eq_true, Bool.or_eq_true, Bool.and_eq_false_iff, Bool.or_eq_false_iff, Bool.not_true, Bool.not_false] at h11
            have hD : lksE (nth (nth L i).op k).lk = 0 := h11
            have hD2 := lksE_0 hD
            refine s_skip ?_
            refine s_seq ?_
            refine s_seq ?_
            refine s_region ?_
            refine o_p (p_pure rfl) rfl ?_
            refine o_nil ?_
            refine s_block ?_
            refine s_loopI (α := Nat) [6, 11, 12, 55, 56, 57, 58, 59, 60, 61, 62, 63, 64, 65, 66, 67, 68, 69, 70, 71, 72, 73, 74, 75, 76, 77, 78, 79, 80, 81, 82, 83] (fun n => [(11, .int .i64 (n : Int))]) (fun _ => HS w [] [.blk b1 26 2 [.int .i64 next, .slice a L.length cap], .blk b2 77 4 (nth L i).vals, .blk b3 48 5 (nth (nth L i).op k).vals]) (fun n => n ≤ i ∧ ∀ n2, n2 < n → ∀ m2, m2 < (nth L n2).op.length → (nth (nth L n2).op m2).hd ≠ (nth (nth L i).op k).hd) (fun n => i - n) 0 ⟨Nat.zero_le _, fun n2 h => absurd h (Nat.not_lt_zero n2)⟩ (by repeat (first | exact sl_n | refine sl_c rfl ?_)) (fun w h => h.ent (by repeat (first | exact .nil | refine .cons (by repeat (first | exact .here | apply Pick.there)) ?_))) (fun n hy => ?_)
            obtain ⟨hn1, hn2⟩ := hy
            refine s_seq ?_
            refine s_seq ?_
            refine s_region ?_
            refine o_p (p_pure rfl) rfl ?_
            refine o_p (p_pure rfl) rfl ?_
            refine o_p (p_pure rfl) rfl ?_
            refine o_nil ?_
            refine s_cond rfl (fun h12 => ?_) (fun h12 => ?_)
            · try simp only [decide_eq_true_eq, decide_eq_false_iff_not, Bool.not_eq_true', Bool.not_eq_false', Bool.and_eq_true, Bool.or_eq_true, Bool.and_eq_false_iff, Bool.or_eq_false_iff, Bool.not_true, Bool.not_false] at h12
              have hni : n < i := by omega
              have hnl : n < L.length := by omega
              have hon := hmo _ (mem_nth hnl)
              refine s_skip ?_
              refine s_seq ?_
              refine s_block ?_
              refine s_seq ?_
              refine s_region ?_
              refine o_p (p_pure rfl) rfl ?_
              refine o_nil ?_
              refine s_block ?_
              refine s_loopI (α := Nat) [6, 12, 60, 61, 62, 63, 64, 65, 66, 67, 68, 69, 70, 71, 72, 73, 74, 75, 76, 77, 78, 79, 80, 81, 82, 83] (fun m => [(12, .int .i64 (m : Int))]) (fun _ => HS w [] [.blk b1 26 2 [.int .i64 next, .slice a L.length cap], .blk b2 77 4 (nth L i).vals, .blk b3 48 5 (nth (nth L i).op k).vals]) (fun m => m ≤ (nth L n).op.length ∧ ∀ m2, m2 < m → (nth (nth L n).op m2).hd ≠ (nth (nth L i).op k).hd) (fun m => (nth L n).op.length - m) 0 ⟨Nat.zero_le _, fun n2 h => absurd h (Nat.not_lt_zero n2)⟩ (by repeat (first | exact sl_n | refine sl_c rfl ?_)) (fun w h => h.ent (by repeat (first | exact .nil | refine .cons (by repeat (first | exact .here | apply Pick.there)) ?_))) (fun m hy => ?_)
              obtain ⟨hm1, hm2⟩ := hy
              refine s_seq ?_
              refine s_seq ?_
              refine s_region ?_
              refine o_p (p_pure rfl) rfl ?_
              refine o_p (p_fieldAddr rfl rfl fd_26_1 sz_24 rfl) rfl ?_
              first | refine o_q (q_load rfl rfl sz_24 (by repeat (first | exact .here | apply Pick.there)) rfl) rfl ?_ | refine o_q (q_load_old rfl rfl sz_24 (rfl (Rw.rd hs.1 hi))) rfl ?_ | refine o_q (q_load_old rfl rfl sz_24 (rfl (Rw.rd (hs.at hi).1 hk))) rfl ?_ | refine o_q (q_load_old rfl rfl sz_24 (((hs.at hi).1.rdj 0 (show k - 1 < (nth L i).op.length by omega) rfl))) rfl ?_ | refine o_q (q_load_old rfl rfl sz_24 ((hs.1.rdj 3 hnl rfl))) rfl ?_ | refine o_q (q_load_old rfl rfl sz_24 (((hs.at hnl).1.rdj 0 hml rfl))) rfl ?_ | refine o_q (q_load_old rfl rfl sz_24 (rfl (Rw.rd (hs.at hi).1 hpl))) rfl ?_
              refine o_p (p_pure rfl) rfl ?_
              first | refine o_p (p_indexAddr rfl rfl rfl sl_24 (n) (by omega) (by omega) rfl) rfl ?_ | refine o_p (p_indexAddr rfl rfl rfl sl_24 (n) (by omega) (by omega) (Rw.some hs.1 (by omega))) rfl ?_ | refine o_p (p_indexAddr rfl rfl rfl sl_24 (n) (by omega) (by omega) (Rw.some (hs.at hi).1 (by omega))) rfl ?_ | refine o_p (p_indexAddr rfl rfl rfl sl_24 (n) (by omega) (by omega) (Rw.some (hs.at hnl).1 (by omega))) rfl ?_
              refine o_p (p_fieldAddr rfl rfl fd_77_2 sz_75 rfl) rfl ?_
              first | refine o_q (q_load rfl rfl sz_75 (by repeat (first | exact .here | apply Pick.there)) rfl) rfl ?_ | refine o_q (q_load_old rfl rfl sz_75 (rfl (Rw.rd hs.1 hi))) rfl ?_ | refine o_q (q_load_old rfl rfl sz_75 (rfl (Rw.rd (hs.at hi).1 hk))) rfl ?_ | refine o_q (q_load_old rfl rfl sz_75 (((hs.at hi).1.rdj 0 (show k - 1 < (nth L i).op.length by omega) rfl))) rfl ?_ | refine o_q (q_load_old rfl rfl sz_75 ((hs.1.rdj 3 hnl rfl))) rfl ?_ | refine o_q (q_load_old rfl rfl sz_75 (((hs.at hnl).1.rdj 0 hml rfl))) rfl ?_ | refine o_q (q_load_old rfl rfl sz_75 (rfl (Rw.rd (hs.at hi).1 hpl))) rfl ?_
              first | refine o_p (p_len_slice rfl rfl Try.underlying75) rfl ?_ | refine o_q (q_len_own rfl rfl Try.underlying75 (by repeat (first | exact .here | apply Pick.there))) rfl ?_
              refine o_p (p_pure rfl) rfl ?_
              refine o_nil ?_
              refine s_cond rfl (fun h13 => ?_) (fun h13 => ?_)
              · try simp only [decide_eq_true_eq, decide_eq_false_iff_not, Bool.not_eq_true', Bool.not_eq_false', Bool.and_eq_true, Bool.or_eq_true, Bool.and_eq_false_iff, Bool.or_eq_false_iff, Bool.not_true, Bool.not_false] at h13
                have hml : m < (nth L n).op.length := by omega
                refine s_skip ?_
                refine s_seq ?_
                refine s_block ?_
                refine s_seq ?_
                refine s_draw [] mixed ?_
                refine d_p 0 rfl (p_fieldAddr rfl rfl fd_26_1 sz_24 rfl) (by kernel_rfl) rfl rfl ?_
                first | refine d_q 1 [] rfl (q_load rfl rfl sz_24 (by repeat (first | exact .here | apply Pick.there)) rfl) (by kernel_rfl) (by kernel_rfl) (by kernel_rfl) rfl ?_ | refine d_q 1 [] rfl (q_load_old rfl rfl sz_24 (rfl (Rw.rd hs.1 hi))) (by kernel_rfl) (by kernel_rfl) (by kernel_rfl) rfl ?_ | refine d_q 1 [] rfl (q_load_old rfl rfl sz_24 (rfl (Rw.rd (hs.at hi).1 hk))) (by kernel_rfl) (by kernel_rfl) (by kernel_rfl) rfl ?_ | refine d_q 1 [] rfl (q_load_old rfl rfl sz_24 (((hs.at hi).1.rdj 0 (show k - 1 < (nth L i).op.length by omega) rfl))) (by kernel_rfl) (by kernel_rfl) (by kernel_rfl) rfl ?_ | refine d_q 1 [] rfl (q_load_old rfl rfl sz_24 ((hs.1.rdj 3 hnl rfl))) (by kernel_rfl) (by kernel_rfl) (by kernel_rfl) rfl ?_ | refine d_q 1 [] rfl (q_load_old rfl rfl sz_24 (((hs.at hnl).1.rdj 0 hml rfl))) (by kernel_rfl) (by kernel_rfl) (by kernel_rfl) rfl ?_ | refine d_q 1 [] rfl (q_load_old rfl rfl sz_24 (rfl (Rw.rd (hs.at hi).1 hpl))) (by kernel_rfl) (by kernel_rfl) (by kernel_rfl) rfl ?_
                refine d_p 2 rfl (p_pure rfl) (by kernel_rfl) rfl rfl ?_
                first | refine d_p 3 rfl (p_indexAddr rfl rfl rfl sl_24 (n) (by omega) (by omega) rfl) (by kernel_rfl) rfl rfl ?_ | refine d_p 3 rfl (p_indexAddr rfl rfl rfl sl_24 (n) (by omega) (by omega) (Rw.some hs.1 (by omega))) (by kernel_rfl) rfl rfl ?_ | refine d_p 3 rfl (p_indexAddr rfl rfl rfl sl_24 (n) (by omega) (by omega) (Rw.some (hs.at hi).1 (by omega))) (by kernel_rfl) rfl rfl ?_ | refine d_p 3 rfl (p_indexAddr rfl rfl rfl sl_24 (n) (by omega) (by omega) (Rw.some (hs.at hnl).1 (by omega))) (by kernel_rfl) rfl rfl ?_
                refine d_p 4 rfl (p_fieldAddr rfl rfl fd_77_2 sz_75 rfl) (by kernel_rfl) rfl rfl ?_
                first | refine d_q 5 [] rfl (q_load rfl rfl sz_75 (by repeat (first | exact .here | apply Pick.there)) rfl) (by kernel_rfl) (by kernel_rfl) (by kernel_rfl) rfl ?_ | refine d_q 5 [] rfl (q_load_old rfl rfl sz_75 (rfl (Rw.rd hs.1 hi))) (by kernel_rfl) (by kernel_rfl) (by kernel_rfl) rfl ?_ | refine d_q 5 [] rfl (q_load_old rfl rfl sz_75 (rfl (Rw.rd (hs.at hi).1 hk))) (by kernel_rfl) (by kernel_rfl) (by kernel_rfl) rfl ?_ | refine d_q 5 [] rfl (q_load_old rfl rfl sz_75 (((hs.at hi).1.rdj 0 (show k - 1 < (nth L i).op.length by omega) rfl))) (by kernel_rfl) (by kernel_rfl) (by kernel_rfl) rfl ?_ | refine d_q 5 [] rfl (q_load_old rfl rfl sz_75 ((hs.1.rdj 3 hnl rfl))) (by kernel_rfl) (by kernel_rfl) (by kernel_rfl) rfl ?_ | refine d_q 5 [] rfl (q_load_old rfl rfl sz_75 (((hs.at hnl).1.rdj 0 hml rfl))) (by kernel_rfl) (by kernel_rfl) (by kernel_rfl) rfl ?_ | refine d_q 5 [] rfl (q_load_old rfl rfl sz_75 (rfl (Rw.rd (hs.at hi).1 hpl))) (by kernel_rfl) (by kernel_rfl) (by kernel_rfl) rfl ?_
                refine d_p 6 rfl (p_pure rfl) (by kernel_rfl) rfl rfl ?_
                first | refine d_p 7 rfl (p_indexAddr rfl rfl rfl sl_75 (m) (by omega) (by omega) rfl) (by kernel_rfl) rfl rfl ?_ | refine d_p 7 rfl (p_indexAddr rfl rfl rfl sl_75 (m) (by omega) (by omega) (Rw.some hs.1 (by omega))) (by kernel_rfl) rfl rfl ?_ | refine d_p 7 rfl (p_indexAddr rfl rfl rfl sl_75 (m) (by omega) (by omega) (Rw.some (hs.at hi).1 (by omega))) (by kernel_rfl) rfl rfl ?_ | refine d_p 7 rfl (p_indexAddr rfl rfl rfl sl_75 (m) (by omega) (by omega) (Rw.some (hs.at hnl).1 (by omega))) (by kernel_rfl) rfl rfl ?_
                refine d_p 8 rfl (p_fieldAddr rfl rfl fd_48_0 sz_3 rfl) (by kernel_rfl) rfl rfl ?_
                first | refine d_q 9 [] rfl (q_load rfl rfl sz_3 (by repeat (first | exact .here | apply Pick.there)) rfl) (by kernel_rfl) (by kernel_rfl) (by kernel_rfl) rfl ?_ | refine d_q 9 [] rfl (q_load_old rfl rfl sz_3 (rfl (Rw.rd hs.1 hi))) (by kernel_rfl) (by kernel_rfl) (by kernel_rfl) rfl ?_ | refine d_q 9 [] rfl (q_load_old rfl rfl sz_3 (rfl (Rw.rd (hs.at hi).1 hk))) (by kernel_rfl) (by kernel_rfl) (by kernel_rfl) rfl ?_ | refine d_q 9 [] rfl (q_load_old rfl rfl sz_3 (((hs.at hi).1.rdj 0 (show k - 1 < (nth L i).op.length by omega) rfl))) (by kernel_rfl) (by kernel_rfl) (by kernel_rfl) rfl ?_ | refine d_q 9 [] rfl (q_load_old rfl rfl sz_3 ((hs.1.rdj 3 hnl rfl))) (by kernel_rfl) (by kernel_rfl) (by kernel_rfl) rfl ?_ | refine d_q 9 [] rfl (q_load_old rfl rfl sz_3 (((hs.at hnl).1.rdj 0 hml rfl))) (by kernel_rfl) (by kernel_rfl) (by kernel_rfl) rfl ?_ | refine d_q 9 [] rfl (q_load_old rfl rfl sz_3 (rfl (Rw.rd (hs.at hi).1 hpl))) (by kernel_rfl) (by kernel_rfl) (by kernel_rfl) rfl ?_
                refine d_p 10 rfl (p_fieldAddr rfl rfl fd_48_0 sz_3 rfl) (by kernel_rfl) rfl rfl ?_
                first | refine d_q 11 [] rfl (q_load rfl rfl sz_3 (by repeat (first | exact .here | apply Pick.there)) rfl) (by kernel_rfl) (by kernel_rfl) (by kernel_rfl) rfl ?_ | refine d_q 11 [] rfl (q_load_old rfl rfl sz_3 (rfl (Rw.rd hs.1 hi))) (by kernel_rfl) (by kernel_rfl) (by kernel_rfl) rfl ?_ | refine d_q 11 [] rfl (q_load_old rfl rfl sz_3 (rfl (Rw.rd (hs.at hi).1 hk))) (by kernel_rfl) (by kernel_rfl) (by kernel_rfl) rfl ?_ | refine d_q 11 [] rfl (q_load_old rfl rfl sz_3 (((hs.at hi).1.rdj 0 (show k - 1 < (nth L i).op.length by omega) rfl))) (by kernel_rfl) (by kernel_rfl) (by kernel_rfl) rfl ?_ | refine d_q 11 [] rfl (q_load_old rfl rfl sz_3 ((hs.1.rdj 3 hnl rfl))) (by kernel_rfl) (by kernel_rfl) (by kernel_rfl) rfl ?_ | refine d_q 11 [] rfl (q_load_old rfl rfl sz_3 (((hs.at hnl).1.rdj 0 hml rfl))) (by kernel_rfl) (by kernel_rfl) (by kernel_rfl) rfl ?_ | refine d_q 11 [] rfl (q_load_old rfl rfl sz_3 (rfl (Rw.rd (hs.at hi).1 hpl))) (by kernel_rfl) (by kernel_rfl) (by kernel_rfl) rfl ?_
                refine d_p 12 rfl (p_pure rfl) (by kernel_rfl) rfl rfl ?_
                refine d_nil (by kernel_rfl) (fun w h => h.ent (by repeat (first | exact .nil | refine .cons (by repeat (first | exact .here | apply Pick.there)) ?_))) ?_
                refine s_cond rfl (fun h14 => ?_) (fun h14 => ?_)
                · try simp only [decide_eq_true_eq, decide_eq_false_iff_not, Bool.not_eq_true', Bool.not_eq_false', Bool.and_eq_true, Bool.or_eq_true, Bool.and_eq_false_iff, Bool.or_eq_false_iff, Bool.not_true, Bool.not_false] at h14
                  have hyes : (nth (nth L i).op k).hd ∈ (hds ((pls L).take i)) := hds_mem.2 ⟨n, m, hni, hnl, hml, h14⟩
                  refine s_seq ?_
                  refine s_weaken (L' := [(1, _), (2, _), (3, _), (7, _), (8, _), (10, _), (11, _), (12, _), (49, _), (50, _), (51, _), (52, _), (53, _), (55, _), (56, _), (57, _)]) (by repeat (first | exact sl_n | refine sl_c rfl ?_)) (fun _ h => h) ?_
                  refine s_region ?_
                  refine o_p (p_pure rfl) rfl ?_
                  refine o_nil ?_
                  exact s_retv (rs := [.tmp 6]) rfl (.tmp rfl (.nil)) (fun w' h' => ⟨by rw [hdl_l hk, if_neg (not_not_intro hA), if_neg (not_not_intro hB), if_neg (not_not_intro hC), if_neg (not_not_intro hD), if_pos hyes]; rfl, h'.below⟩)
                · try simp only [decide_eq_true_eq, decide_eq_false_iff_not, Bool.not_eq_true', Bool.not_eq_false', Bool.and_eq_true, Bool.or_eq_true, Bool.and_eq_false_iff, Bool.or_eq_false_iff, Bool.not_true, Bool.not_false] at h14
                  refine s_skip ?_
                  refine s_blk ?_
                  refine s_weaken (L' := [(1, _), (2, _), (3, _), (7, _), (8, _), (10, _), (11, _), (12, _), (49, _), (50, _), (51, _), (52, _), (53, _), (55, _), (56, _), (57, _)]) (by repeat (first | exact sl_n | refine sl_c rfl ?_)) (fun _ h => h) ?_
                  refine s_region ?_
                  refine o_p (p_pure rfl) rfl ?_
                  refine o_p (p_pure rfl) rfl ?_
                  try (refine o_slot (i64w (by omega) (by omega)) ?_)
                  refine o_p (p_pure rfl) rfl ?_
                  refine o_nil ?_
                  exact s_backI (m + 1) (by omega) ⟨by omega, fun m2 p1 => (Nat.lt_or_ge m2 m).elim (hm2 m2) (fun p3 => by have e9 : m2 = m := (by omega); rw [e9]; exact h14)⟩ (by repeat (first | exact sl_n | refine sl_c rfl ?_)) (fun w h => h.ent (by repeat (first | exact .nil | refine .cons (by repeat (first | exact .here | apply Pick.there)) ?_)))
              · try simp only [decide_eq_true_eq, decide_eq_false_iff_not, Bool.not_eq_true', Bool.not_eq_false', Bool.and_eq_true, Bool.or_eq_true, Bool.and_eq_false_iff, Bool.or_eq_false_iff, Bool.not_true, Bool.not_false] at h13
                refine s_exit_to rfl ?_
                refine s_blk ?_
                refine s_region ?_
                refine o_p (p_pure rfl) rfl ?_
                refine o_p (p_pure rfl) rfl ?_
                try (refine o_slot (i64w (by omega) (by omega)) ?_)
                refine o_p (p_pure rfl) rfl ?_
                refine o_nil ?_
                exact s_backI (n + 1) (by omega) ⟨by omega, fun n2 p1 m2 p2 => (Nat.lt_or_ge n2 n).elim (fun p3 => hn2 n2 p3 m2 p2) (fun p3 => by have e9 : n2 = n := (by omega); rw [e9] at p2 ⊢; exact hm2 m2 (by omega))⟩ (by repeat (first | exact sl_n | refine sl_c rfl ?_)) (fun w h => h.ent (by repeat (first | exact .nil | refine .cons (by repeat (first | exact .here | apply Pick.there)) ?_)))
            · try simp only [decide_eq_true_eq, decide_eq_false_iff_not, Bool.not_eq_true', Bool.not_eq_false', Bool.and_eq_true, Bool.or_eq_true, Bool.and_eq_false_iff, Bool.or_eq_false_iff, Bool.not_true, Bool.not_false] at h12
              have hno : (nth (nth L i).op k).hd ∉ (hds ((pls L).take i)) := by rw [hds_mem]; rintro ⟨n2, m2, p1, p2, p3, p4⟩; exact hn2 n2 (by omega) m2 p3 p4
              refine s_exit_to rfl ?_
              refine s_seq ?_
              refine s_seq ?_
              refine s_region ?_
              refine o_p (p_pure rfl) rfl ?_
              refine o_nil ?_
              refine s_block ?_
              refine s_loopI (α := Nat) [6, 13, 84, 85, 86, 87, 88, 89, 90, 91, 92, 93, 94, 95] (fun m => [(13, .int .i64 (m : Int))]) (fun _ => HS w [] [.blk b1 26 2 [.int .i64 next, .slice a L.length cap], .blk b2 77 4 (nth L i).vals, .blk b3 48 5 (nth (nth L i).op k).vals]) (fun m => m ≤ k ∧ ∀ m2, m2 < m → cfl (nth (nth L i).op m2).pl (nth (nth L i).op k).pl = false) (fun m => k - m) 0 ⟨Nat.zero_le _, fun n2 h => absurd h (Nat.not_lt_zero n2)⟩ (by repeat (first | exact sl_n | refine sl_c rfl ?_)) (fun w h => h.ent (by repeat (first | exact .nil | refine .cons (by repeat (first | exact .here | apply Pick.there)) ?_))) (fun p hy => ?_)
              obtain ⟨hp1, hp2⟩ := hy
              refine s_seq ?_
              refine s_seq ?_
              refine s_region ?_
              refine o_p (p_pure rfl) rfl ?_
              refine o_p (p_pure rfl) rfl ?_
              refine o_p (p_pure rfl) rfl ?_
              refine o_nil ?_
              refine s_cond rfl (fun h15 => ?_) (fun h15 => ?_)
              · try simp only [decide_eq_true_eq, decide_eq_false_iff_not, Bool.not_eq_true', Bool.not_eq_false', Bool.and_eq_true, Bool.or_eq_true, Bool.and_eq_false_iff, Bool.or_eq_false_iff, Bool.not_true, Bool.not_false] at h15
                have hpk : p < k := by omega
                have hpl : p < (nth L i).op.length := by omega
                refine s_skip ?_
                refine s_seq ?_
                refine s_block ?_
                refine s_seq ?_
                refine s_draw [] mixed ?_
                refine d_p 0 rfl (p_fieldAddr rfl rfl fd_77_2 sz_75 rfl) (by kernel_rfl) rfl rfl ?_
                first | refine d_q 1 [] rfl (q_load rfl rfl sz_75 (by repeat (first | exact .here | apply Pick.there)) rfl) (by kernel_rfl) (by kernel_rfl) (by kernel_rfl) rfl ?_ | refine d_q 1 [] rfl (q_load_old rfl rfl sz_75 (rfl (Rw.rd hs.1 hi))) (by kernel_rfl) (by kernel_rfl) (by kernel_rfl) rfl ?_ | refine d_q 1 [] rfl (q_load_old rfl rfl sz_75 (rfl (Rw.rd (hs.at hi).1 hk))) (by kernel_rfl) (by kernel_rfl) (by kernel_rfl) rfl ?_ | refine d_q 1 [] rfl (q_load_old rfl rfl sz_75 (((hs.at hi).1.rdj 0 (show k - 1 < (nth L i).op.length by omega) rfl))) (by kernel_rfl) (by kernel_rfl) (by kernel_rfl) rfl ?_ | refine d_q 1 [] rfl (q_load_old rfl rfl sz_75 ((hs.1.rdj 3 hnl rfl))) (by kernel_rfl) (by kernel_rfl) (by kernel_rfl) rfl ?_ | refine d_q 1 [] rfl (q_load_old rfl rfl sz_75 (((hs.at hnl).1.rdj 0 hml rfl))) (by kernel_rfl) (by kernel_rfl) (by kernel_rfl) rfl ?_ | refine d_q 1 [] rfl (q_load_old rfl rfl sz_75 (rfl (Rw.rd (hs.at hi).1 hpl))) (by kernel_rfl) (by kernel_rfl) (by kernel_rfl) rfl ?_
                refine d_p 2 rfl (p_pure rfl) (by kernel_rfl) rfl rfl ?_
                first | refine d_p 3 rfl (p_indexAddr rfl rfl rfl sl_75 (p) (by omega) (by omega) rfl) (by kernel_rfl) rfl rfl ?_ | refine d_p 3 rfl (p_indexAddr rfl rfl rfl sl_75 (p) (by omega) (by omega) (Rw.some hs.1 (by omega))) (by kernel_rfl) rfl rfl ?_ | refine d_p 3 rfl (p_indexAddr rfl rfl rfl sl_75 (p) (by omega) (by omega) (Rw.some (hs.at hi).1 (by omega))) (by kernel_rfl) rfl rfl ?_ | refine d_p 3 rfl (p_indexAddr rfl rfl rfl sl_75 (p) (by omega) (by omega) (Rw.some (hs.at hnl).1 (by omega))) (by kernel_rfl) rfl rfl ?_
                first | refine d_q 4 [] rfl (q_loadn rfl rfl sz_48 (by repeat (first | exact .here | apply Pick.there)) rfl) (by kernel_rfl) (by kernel_rfl) (by kernel_rfl) rfl ?_ | refine d_q 4 [] rfl (q_load_oldn _ rfl rfl sz_48 rfl (Rw.rd hs.1 hi)) (by kernel_rfl) (by kernel_rfl) (by kernel_rfl) rfl ?_ | refine d_q 4 [] rfl (q_load_oldn _ rfl rfl sz_48 rfl (Rw.rd (hs.at hi).1 hk)) (by kernel_rfl) (by kernel_rfl) (by kernel_rfl) rfl ?_ | refine d_q 4 [] rfl (q_load_oldn _ rfl rfl sz_48 ((hs.at hi).1.rdj 0 (show k - 1 < (nth L i).op.length by omega) rfl)) (by kernel_rfl) (by kernel_rfl) (by kernel_rfl) rfl ?_ | refine d_q 4 [] rfl (q_load_oldn _ rfl rfl sz_48 (hs.1.rdj 3 hnl rfl)) (by kernel_rfl) (by kernel_rfl) (by kernel_rfl) rfl ?_ | refine d_q 4 [] rfl (q_load_oldn _ rfl rfl sz_48 ((hs.at hnl).1.rdj 0 hml rfl)) (by kernel_rfl) (by kernel_rfl) (by kernel_rfl) rfl ?_ | refine d_q 4 [] rfl (q_load_oldn _ rfl rfl sz_48 rfl (Rw.rd (hs.at hi).1 hpl)) (by kernel_rfl) (by kernel_rfl) (by kernel_rfl) rfl ?_
                first | refine d_q 5 [] rfl (q_loadn rfl rfl sz_48 (by repeat (first | exact .here | apply Pick.there)) rfl) (by kernel_rfl) (by kernel_rfl) (by kernel_rfl) rfl ?_ | refine d_q 5 [] rfl (q_load_oldn _ rfl rfl sz_48 rfl (Rw.rd hs.1 hi)) (by kernel_rfl) (by kernel_rfl) (by kernel_rfl) rfl ?_ | refine d_q 5 [] rfl (q_load_oldn _ rfl rfl sz_48 rfl (Rw.rd (hs.at hi).1 hk)) (by kernel_rfl) (by kernel_rfl) (by kernel_rfl) rfl ?_ | refine d_q 5 [] rfl (q_load_oldn _ rfl rfl sz_48 ((hs.at hi).1.rdj 0 (show k - 1 < (nth L i).op.length by omega) rfl)) (by kernel_rfl) (by kernel_rfl) (by kernel_rfl) rfl ?_ | refine d_q 5 [] rfl (q_load_oldn _ rfl rfl sz_48 (hs.1.rdj 3 hnl rfl)) (by kernel_rfl) (by kernel_rfl) (by kernel_rfl) rfl ?_ | refine d_q 5 [] rfl (q_load_oldn _ rfl rfl sz_48 ((hs.at hnl).1.rdj 0 hml rfl)) (by kernel_rfl) (by kernel_rfl) (by kernel_rfl) rfl ?_ | refine d_q 5 [] rfl (q_load_oldn _ rfl rfl sz_48 rfl (Rw.rd (hs.at hi).1 hpl)) (by kernel_rfl) (by kernel_rfl) (by kernel_rfl) rfl ?_
                refine d_q 6 [] rfl (q_call rfl fn_23 rfl (fun w1 h1 => c23 w1 (nth (nth L i).op p) (nth (nth L i).op k) (hdl_okl hpl (hv p hpk)).1 hB)) (by kernel_rfl) (by kernel_rfl) (by kernel_rfl) rfl ?_
                refine d_nil (by kernel_rfl) (fun w h => h.ent (by repeat (first | exact .nil | refine .cons (by repeat (first | exact .here | apply Pick.there)) ?_))) ?_
                refine s_cond rfl (fun h16 => ?_) (fun h16 => ?_)
                · try simp only [decide_eq_true_eq, decide_eq_false_iff_not, Bool.not_eq_true', Bool.not_eq_false', Bool.and_eq_true, Bool.or_eq_true, Bool.and_eq_false_iff, Bool.or_eq_false_iff, Bool.not_true, Bool.not_false] at h16
                  have hyc : ((plo (nth L i).op).take k).any (cfl (nth (nth L i).op k).pl) = true := (any_take (by omega)).2 ⟨p, hpk, by rw [cfl_comm]; exact h16⟩
                  refine s_seq ?_
                  refine s_region ?_
                  refine o_p (p_pure rfl) rfl ?_
                  refine o_nil ?_
                  exact s_retv (rs := [.tmp 6]) rfl (.tmp rfl (.nil)) (fun w' h' => ⟨by rw [hdl_l hk, if_neg (not_not_intro hA), if_neg (not_not_intro hB), if_neg (not_not_intro hC), if_neg (not_not_intro hD), if_neg hno, if_pos hyc]; rfl, h'.below⟩)
                · try simp only [decide_eq_true_eq, decide_eq_false_iff_not, Bool.not_eq_true', Bool.not_eq_false', Bool.and_eq_true, Bool.or_eq_true, Bool.and_eq_false_iff, Bool.or_eq_false_iff, Bool.not_true, Bool.not_false] at h16
                  have hmiss : cfl (nth (nth L i).op p).pl (nth (nth L i).op k).pl = false := by have hq := h16; simpa using hq
                  refine s_skip ?_
                  refine s_blk ?_
                  refine s_region ?_
                  refine o_p (p_pure rfl) rfl ?_
                  refine o_p (p_pure rfl) rfl ?_
                  try (refine o_slot (i64w (by omega) (by omega)) ?_)
                  refine o_p (p_pure rfl) rfl ?_
                  refine o_nil ?_
                  exact s_backI (p + 1) (by omega) ⟨by omega, fun m2 p1 => (Nat.lt_or_ge m2 p).elim (hp2 m2) (fun p3 => by have e9 : m2 = p := (by omega); rw [e9]; exact hmiss)⟩ (by repeat (first | exact sl_n | refine sl_c rfl ?_)) (fun w h => h.ent (by repeat (first | exact .nil | refine .cons (by repeat (first | exact .here | apply Pick.there)) ?_)))
              · try simp only [decide_eq_true_eq, decide_eq_false_iff_not, Bool.not_eq_true', Bool.not_eq_false', Bool.and_eq_true, Bool.or_eq_true, Bool.and_eq_false_iff, Bool.or_eq_false_iff, Bool.not_true, Bool.not_false] at h15
                have hnc : ¬ ((plo (nth L i).op).take k).any (cfl (nth (nth L i).op k).pl) = true := by rw [any_take (by omega)]; rintro ⟨m2, p1, p2⟩; rw [cfl_comm, hp2 m2 (by omega)] at p2; cases p2
                refine s_exit_to rfl ?_
                refine s_seq ?_
                refine s_region ?_
                first | refine o_q (q_loadn rfl rfl sz_77 (by repeat (first | exact .here | apply Pick.there)) rfl) rfl ?_ | refine o_q (q_load_oldn _ rfl rfl sz_77 rfl (Rw.rd hs.1 hi)) rfl ?_ | refine o_q (q_load_oldn _ rfl rfl sz_77 rfl (Rw.rd (hs.at hi).1 hk)) rfl ?_ | refine o_q (q_load_oldn _ rfl rfl sz_77 ((hs.at hi).1.rdj 0 (show k - 1 < (nth L i).op.length by omega) rfl)) rfl ?_ | refine o_q (q_load_oldn _ rfl rfl sz_77 (hs.1.rdj 3 hnl rfl)) rfl ?_ | refine o_q (q_load_oldn _ rfl rfl sz_77 ((hs.at hnl).1.rdj 0 hml rfl)) rfl ?_ | refine o_q (q_load_oldn _ rfl rfl sz_77 rfl (Rw.rd (hs.at hi).1 hpl)) rfl ?_
                refine o_p (p_pure rfl) rfl ?_
                refine o_q (q_call rfl fn_99 rfl (fun w1 h1 => c99 w1 (nth L i) k ((hs.at hi).later h1) hk hoi (fun n p1 => (Nat.lt_or_ge n k).elim (fun p2 => (hdl_okl (by omega) (hv n p2)).2.symm) (fun p2 => by have e9 : n = k := (by omega); rw [e9]; exact hD2.symm)))) rfl ?_
                refine o_p (p_pure rfl) rfl ?_
                refine o_nil ?_
                exact s_retv (rs := [.tmp 6]) rfl (.tmp rfl (.nil)) (fun w' h' => ⟨by rw [hdl_l hk, if_neg (not_not_intro hA), if_neg (not_not_intro hB), if_neg (not_not_intro hC), if_neg (not_not_intro hD), if_neg hno, if_neg hnc]; rfl, h'.below⟩)

end Go.Proofs
