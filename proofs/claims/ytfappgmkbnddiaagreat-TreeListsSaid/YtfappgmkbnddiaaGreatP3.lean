/- Contracts of the program's functions, proved by walking them with the rules of the Gx texts; without conditions beyond those that each contract names. -/
import Derived.WalkKit
import Derived.Deep.Draws
import Derived.TacticsIn
import Derived.OrdersIn
import Derived.RangeFuncLeaves
import Derived.Lib.Strings
import Derived.Laws.BytesArg
import Derived.Laws.IdiomStrings
import Derived.Deep.Quiet
import Derived.ProofKit
import Derived.OpenShut
import Derived.Laws.StructEq
import Derived.ChangeKeysEq
import Derived.Laws.Externs
import Derived.Lib.Overlaps
import Derived.Carry
import Derived.Laws.Small
import Derived.Lib.Bytealg
import Derived.Test.YtfappgmkbnddiaaGreatProg
import Derived.KernelRfl
import Derived.Lib.Builder
import Derived.Laws.Pointers
import Derived.RangeFuncRecord
import Derived.Test.YtfappgmkbnddiaaGreatP2
namespace Go.Proofs
open Go Go.RowKit Gx
set_option linter.unusedVariables false
set_option linter.unusedSimpArgs false
attribute [local irreducible] Go.Calls Gx.S Gx.O Gx.D Gx.OpP Gx.OpQ Gx.OpH
set_option maxRecDepth 20000
theorem fn_142 : isFn Tryz.prog 142 = true := by kernel_rfl
theorem fn_143 : isFn Tryz.prog 143 = true := by kernel_rfl
theorem fn_144 : isFn Tryz.prog 144 = true := by kernel_rfl
theorem c142 (w : World) (b6 b2 : Nat) (bt : Nat) (j : Nat) (mo rm : Int) (a : Option Addr) (cap : Nat) (L : List LNd) (p k : Nat) (x : Int) (h6 : Rd w [] b6 0 (.slice (nth L p).ca (nth L p).cs.length (nth L p).cc)) (h2 : Rd w [] b2 0 (.pointer (some ⟨bt, 0, none⟩))) (ht : TbR w [] bt (j : Int) mo rm a L.length cap) (hs : Nt w [] a L) (hok : FilOk mo (pln L) p k) : Calls Tryz.prog 142 #[.int .i64 x, .pointer (some ⟨b6, 0, none⟩), .pointer (some ⟨b2, 0, none⟩)] w fun en w' => en = .returned (.bool (richN mo (pln L) p x)) ∧ Below w.heap.size w w' := by
 have hpl := hok.pl
 rw [pln_len] at hpl
 have hPN := pln_nth hpl
 have hmo := hok.mo0
 have hsm := (hok.sm p).2
 rw [hPN] at hsm
 simp only [LNd.pl] at hsm
 refine enter (args := [_, _, _]) Tryz.func142 Tryz.ntmps142 rfl rfl (HS.refl w []) ?_
 iterate 5 refine aS ?_
 refine s_draw [] mixed ?_
 refine dP 0 ?_
 refine d_q 1 [] rfl (q_load_old rfl rfl sz_30 (h6)) (by kernel_rfl) (by kernel_rfl) (by kernel_rfl) rfl ?_
 refine d_p 2 rfl (p_len_slice rfl rfl Tryz.underlying30) (by kernel_rfl) rfl rfl ?_
 refine dP 3 ?_
 try refine dWr ?_
 refine d_q 4 [] rfl (q_call rfl fn_93 rfl (fun w1 h1 => c93 w1 _ _ _)) (by kernel_rfl) (by kernel_rfl) (by kernel_rfl) rfl ?_
 refine dP 5 ?_
 apply d_split 10
 ·exact rfl
 ·intro hg1
  have hs2 := hg1; try simp only [Bool.and_eq_true, decide_eq_true_eq] at hs2
  refine d_qon 6 10 [] rfl rfl rfl hg1 (q_load_old rfl rfl sz_103 (h2)) (by kernel_rfl) (by kernel_rfl) (by kernel_rfl) rfl ?_
  have hq := hg1
  simp only [Bool.and_eq_true, decide_eq_true_eq] at hq
  have hxl : x.toNat < (nth L p).cs.length := by omega
  have hkd := hok.kd (x := x.toNat) (by rw [hPN]; exact hxl)
  rw [hPN] at hkd
  simp only [LNd.pl] at hkd
  have hkl := (hok.kid x.toNat (by rw [hPN]; exact hxl)).2.1
  rw [pln_len] at hkl
  refine dPo 7 10 hg1 ?_
  refine dFo 8 10 hg1 ?_
  refine dFo 9 10 hg1 ?_
  refine d_qon 10 10 [] rfl rfl rfl hg1 (q_load_old rfl rfl sz_22 (ht 3 _ rfl)) (by kernel_rfl) (by kernel_rfl) (by kernel_rfl) rfl ?_
  refine d_qon 11 10 [] rfl rfl rfl hg1 (q_load_old rfl rfl sz_30 (h6)) (by kernel_rfl) (by kernel_rfl) (by kernel_rfl) rfl ?_
  refine dPo 12 10 hg1 ?_
  refine d_pon 13 10 rfl rfl rfl hg1 (p_indexAddr rfl rfl rfl sl_30 (x.toNat) (by omega) (by omega) (Rw.some (hs.cs hpl) (by omega))) (by kernel_rfl) rfl rfl ?_
  refine d_qon 14 10 [] rfl rfl rfl hg1 (q_load_old rfl rfl sz_3 (((hs.cs hpl).rdj 0 hxl rfl))) (by kernel_rfl) (by kernel_rfl) (by kernel_rfl) rfl ?_
  refine d_slot (show _ = Value.int .i64 ((kdN (pln L) p x.toNat) : Int) from congrArg (Value.int .i64) hkd) ?_
  refine d_pon 15 10 rfl rfl rfl hg1 (p_indexAddr rfl rfl rfl sl_22 ((kdN (pln L) p x.toNat)) (by omega) (by omega) (Rw.some hs.1 (by omega))) (by kernel_rfl) rfl rfl ?_
  refine dFo 16 10 hg1 ?_
  refine d_qon 17 10 [] rfl rfl rfl hg1 (q_load_old rfl rfl sz_77 ((hs.1.rdj 1 hkl rfl))) (by kernel_rfl) (by kernel_rfl) (by kernel_rfl) rfl ?_
  refine d_pon 18 10 rfl rfl rfl hg1 (p_len_slice rfl rfl Tryz.underlying77) (by kernel_rfl) rfl rfl ?_
  refine d_qon 19 10 [] rfl rfl rfl hg1 (q_load_old rfl rfl sz_103 (h2)) (by kernel_rfl) (by kernel_rfl) (by kernel_rfl) rfl ?_
  refine d_qon 20 10 [] rfl rfl rfl hg1 (q_call rfl fn_105 rfl (fun w1 h1 => c105 w1 bt j mo rm a L.length cap hmo (ht.next h1))) (by kernel_rfl) (by kernel_rfl) (by kernel_rfl) rfl ?_
  refine dPo 21 10 hg1 ?_
  refine d_p 22 rfl (p_pickt rfl rfl hg1 rfl) (by kernel_rfl) rfl rfl ?_
  refine d_slot (show _ = Value.bool (richN mo (pln L) p x) from by congr 1; first | (have h9 := rich_t (mo := mo) hPN hq; rw [pln_nth hkl] at h9; exact h9.symm) | exact (rich_f hPN hg1).symm) ?_
  refine dP 23 ?_
  refine dNi ?_
  exact s_retv (rs := [.tmp 4]) rfl (.tmp rfl (.nil)) (fun w' h' => ⟨rfl, h'.below⟩)
 intro hg3
 have hs4 := hg3; try simp only [Bool.and_eq_false_iff, decide_eq_false_iff_not] at hs4
 refine dOf 6 10 hg3 ?_
 refine dOf 7 10 hg3 ?_
 refine dOf 8 10 hg3 ?_
 refine dOf 9 10 hg3 ?_
 refine dOf 10 10 hg3 ?_
 refine dOf 11 10 hg3 ?_
 refine dOf 12 10 hg3 ?_
 refine dOf 13 10 hg3 ?_
 refine dOf 14 10 hg3 ?_
 refine dOf 15 10 hg3 ?_
 refine dOf 16 10 hg3 ?_
 refine dOf 17 10 hg3 ?_
 refine dOf 18 10 hg3 ?_
 refine dOf 19 10 hg3 ?_
 refine dOf 20 10 hg3 ?_
 refine dOf 21 10 hg3 ?_
 refine d_p 22 rfl (p_pickf rfl rfl hg3 rfl) (by kernel_rfl) rfl rfl ?_
 refine d_slot (show _ = Value.bool (richN mo (pln L) p x) from by congr 1; first | (have h9 := rich_t (mo := mo) hPN hq; rw [pln_nth hkl] at h9; exact h9.symm) | exact (rich_f hPN hg3).symm) ?_
 refine dP 23 ?_
 refine dNi ?_
 exact s_retv (rs := [.tmp 4]) rfl (.tmp rfl (.nil)) (fun w' h' => ⟨rfl, h'.below⟩)
set_option maxHeartbeats 1000000 in
theorem c106 (w : World) (bt : Nat) (j : Nat) (mo rm : Int) (gn cap : Nat) (L : List LNd) (i p k : Nat) (hw : HS w (fps [.blk bt 112 6 (tbV (j : Int) mo rm (some ⟨gn, 0, none⟩) (L).length cap), .blk gn 102 (cap * 3) ((L).flatMap LNd.vals), .star ((L).map (subN 26))]) [.blk bt 112 6 (tbV (j : Int) mo rm (some ⟨gn, 0, none⟩) (L).length cap), .blk gn 102 (cap * 3) ((L).flatMap LNd.vals), .star ((L).map (subN 26))] w) (hnc : L.length ≤ cap) (hcm : cap ≤ maxLen) (hpar : parN (i : Int) (pln L) 0 = (p, k)) (hok : FilOk mo (pln L) p k) : Calls Tryz.prog 106 #[.pointer (some ⟨bt, 0, none⟩), .int .i64 (i : Int)] w fun en w' => ∃ g : (Nat × Nat) × List LNd, en = .returned (.tuple #[]) ∧ (pln g.2 = filP mo (pln L) p k ∧ g.2.length ≤ g.1.2 ∧ g.1.2 ≤ maxLen) ∧ HS w (fps [.blk bt 112 6 (tbV (j : Int) mo rm (some ⟨gn, 0, none⟩) (L).length cap), .blk gn 102 (cap * 3) ((L).flatMap LNd.vals), .star ((L).map (subN 26))]) [.blk bt 112 6 (tbV (j : Int) mo rm (some ⟨g.1.1, 0, none⟩) (g.2).length g.1.2), .blk g.1.1 102 (g.1.2 * 3) ((g.2).flatMap LNd.vals), .star ((g.2).map (subN 26))] w' := by
 have hpl := hok.pl
 have hln := hok.len
 rw [pln_len] at hpl hln
 have hPN := pln_nth hpl
 have hmo := hok.mo0
 have hkl := hok.kl
 have hsh := hok.sh
 have hkl2 := hkl
 rw [hPN] at hkl2
 have hs9 := (hok.sm p).2
 rw [hPN] at hs9
 simp only [LNd.pl] at hkl2 hs9
 refine enter (args := [_, _]) Tryz.func106 Tryz.ntmps106 rfl rfl hw ?_
 iterate 2 refine aS ?_
 refine oBx fun b1 _ => ?_
 iterate 5 refine aS ?_
 refine o_q (q_call rfl fn_141 rfl (fun w1 h1 => by have h9 := c141 w1 bt j mo rm (some ⟨gn, 0, none⟩) cap L i (HS.tbr h1 aPk) (HS.nt_at h1 aPk aPk) (by omega) (fun k9 hk => by have := (hok.sm k9).2; rw [pln_nth hk] at this; exact Nat.le_trans this (by decide)); rw [hpar] at h9; exact h9)) rfl ?_
 dsimp only
 iterate 14 refine aS ?_
 refine o_p (p_indexAddr rfl rfl rfl sl_22 (p) (by omega) (by omega) rfl) rfl ?_
 refine o_slot (show _ = Value.pointer (some ⟨gn, p * 3, none⟩) from by rw [Nat.zero_add]) ?_
 refine aS ?_
 refine o_q (q_load_at rfl rfl sz_30 (fun w h => HS.nd_cell hpl h aPk 2 rfl (by decide))) rfl ?_
 refine oAl (fun b2 _ => ?_) zr_30
 refine oSt ?_
 iterate 12 refine aS ?_
 try refine oWr ?_
 refine o_q (q_callv rfl rfl fn_142 rfl (fun w1 h1 => c142 w1 b2 b1 bt j mo rm (some ⟨gn, 0, none⟩) cap L p k ((k : Int) - 1) (h1.rd_blk (Mc := []) aPk rfl (by simp)) (h1.rd_blk (Mc := []) aPk rfl (by simp)) (HS.tbr h1 aPk) (HS.nt_at h1 aPk aPk) hok)) rfl ?_
 iterate 2 refine aS ?_
 refine s_cond rfl (fun h3 => ?_) fun h3 => ?_
 ·skip
  have hr0 : (richN mo (pln L) p ((k : Int) - 1)) = true := h3
  obtain ⟨hr1, hr2, hr3⟩ := rich_in hr0
  obtain ⟨k1, rfl⟩ : ∃ k1, k = k1 + 1 := ⟨k - 1, by omega⟩
  rw [show (((k1 + 1 : Nat) : Int) - 1).toNat = k1 by omega] at hr3
  have hfe : 0 < (nth (pln L) (kdN (pln L) p k1)).es.length := by omega
  iterate 4 refine aS ?_
  refine o_h (h_callF (Cs := [.blk bt 112 6 (tbV (j : Int) mo rm (some ⟨gn, 0, none⟩) (L).length cap), .blk gn 102 (cap * 3) ((L).flatMap LNd.vals), .star ((L).map (subN 26))]) rfl fn_143 rfl aPs (fun w1 h1 hf => c143a w1 bt j mo rm gn cap L p (k1) (kdN (pln L) p (k1)) (kdN (pln L) p (k1 + 1)) hf hnc hcm (hok.giv (x := k1) (y := k1 + 1) (e := k1) (by omega) (by omega) (by omega) (by omega) hfe) (hok.kd (by omega)) (hok.kd (by omega)))) rfl (fun ⟨⟨g5, c5⟩, L5⟩ hF5 => ?_)
  iterate 2 refine aS ?_
  exact s_end0 rfl (fun w' h' => by first | exact ⟨((g5, c5), L5), rfl, ⟨by rw [filP, if_pos hr0]; exact hF5.1, hF5.2.1, hF5.2.2⟩, h'.ent aEt⟩ | exact ⟨((g6, c6), L6), rfl, ⟨by rw [filP, if_neg hr0, if_pos hs0]; exact hF6.1, hF6.2.1, hF6.2.2⟩, h'.ent aEt⟩ | exact ⟨((g7, c7), L7), rfl, ⟨by rw [filP, if_neg hr0, if_neg hs0, if_pos hk0]; exact hF7.1, hF7.2.1, hF7.2.2⟩, h'.ent aEt⟩ | exact ⟨((g8, c8), L8), rfl, ⟨by rw [filP, if_neg hr0, if_neg hs0, if_neg hk0, if_pos hk1]; exact hF8.1, hF8.2.1, hF8.2.2⟩, h'.ent aEt⟩ | exact ⟨((gn, cap), L), rfl, ⟨by rw [filP, if_neg hr0, if_neg hs0, if_neg hk0, if_neg hk1], hnc, hcm⟩, h'.ent aEt⟩)
 skip
 have hr0 : ¬ (richN mo (pln L) p ((k : Int) - 1)) = true := by have hq := h3; simp [hq]
 iterate 5 refine aS ?_
 try refine oWr ?_
 refine o_q (q_callv rfl rfl fn_142 rfl (fun w1 h1 => c142 w1 b2 b1 bt j mo rm (some ⟨gn, 0, none⟩) cap L p k ((k : Int) + 1) (h1.rd_blk (Mc := []) aPk rfl (by simp)) (h1.rd_blk (Mc := []) aPk rfl (by simp)) (HS.tbr h1 aPk) (HS.nt_at h1 aPk aPk) hok)) rfl ?_
 iterate 2 refine aS ?_
 refine s_cond rfl (fun h4 => ?_) fun h4 => ?_
 ·skip
  have hs0 : (richN mo (pln L) p ((k : Int) + 1)) = true := h4
  obtain ⟨hr1, hr2, hr3⟩ := rich_in hs0
  rw [show ((k : Int) + 1).toNat = k + 1 by omega] at hr3
  have hfe : 0 < (nth (pln L) (kdN (pln L) p (k + 1))).es.length := by omega
  refine s_weaken (L' := [(2, _), (4, _), (5, _)]) aSx (fun _ h => h) ?_
  iterate 4 refine aS ?_
  refine o_h (h_callF (Cs := [.blk bt 112 6 (tbV (j : Int) mo rm (some ⟨gn, 0, none⟩) (L).length cap), .blk gn 102 (cap * 3) ((L).flatMap LNd.vals), .star ((L).map (subN 26))]) rfl fn_143 rfl aPs (fun w1 h1 hf => c143b w1 bt j mo rm gn cap L p (k) (kdN (pln L) p (k + 1)) (kdN (pln L) p (k)) hf hnc hcm (hok.giv (x := k + 1) (y := k) (e := k) (by omega) (by omega) (by omega) (by omega) hfe) (hok.kd (by omega)) (hok.kd (by omega)))) rfl (fun ⟨⟨g6, c6⟩, L6⟩ hF6 => ?_)
  iterate 2 refine aS ?_
  exact s_end0 rfl (fun w' h' => by first | exact ⟨((g5, c5), L5), rfl, ⟨by rw [filP, if_pos hr0]; exact hF5.1, hF5.2.1, hF5.2.2⟩, h'.ent aEt⟩ | exact ⟨((g6, c6), L6), rfl, ⟨by rw [filP, if_neg hr0, if_pos hs0]; exact hF6.1, hF6.2.1, hF6.2.2⟩, h'.ent aEt⟩ | exact ⟨((g7, c7), L7), rfl, ⟨by rw [filP, if_neg hr0, if_neg hs0, if_pos hk0]; exact hF7.1, hF7.2.1, hF7.2.2⟩, h'.ent aEt⟩ | exact ⟨((g8, c8), L8), rfl, ⟨by rw [filP, if_neg hr0, if_neg hs0, if_neg hk0, if_pos hk1]; exact hF8.1, hF8.2.1, hF8.2.2⟩, h'.ent aEt⟩ | exact ⟨((gn, cap), L), rfl, ⟨by rw [filP, if_neg hr0, if_neg hs0, if_neg hk0, if_neg hk1], hnc, hcm⟩, h'.ent aEt⟩)
 skip
 have hs0 : ¬ (richN mo (pln L) p ((k : Int) + 1)) = true := by have hq := h4; simp [hq]
 refine aS ?_
 refine s_weaken (L' := [(2, _), (4, _), (5, _), (6, _)]) aSx (fun _ h => h) ?_
 iterate 5 refine aS ?_
 refine s_cond rfl (fun h5 => ?_) fun h5 => ?_
 ·try simp only [decide_eq_true_eq] at h5
  have hk0 : 0 < k := by have hq := h5; omega
  obtain ⟨k1, rfl⟩ : ∃ k1, k = k1 + 1 := ⟨k - 1, by omega⟩
  iterate 5 refine aS ?_
  try refine oWr ?_
  refine o_slot (show _ = Value.int .i64 (k1 : Int) from by congr 1; omega) ?_
  refine o_h (h_callF (Cs := [.blk bt 112 6 (tbV (j : Int) mo rm (some ⟨gn, 0, none⟩) (L).length cap), .blk gn 102 (cap * 3) ((L).flatMap LNd.vals), .star ((L).map (subN 26))]) rfl fn_144 rfl aPs (fun w1 h1 hf => c144 w1 bt j mo rm gn cap L p (k1) (kdN (pln L) p (k1 + 1)) (kdN (pln L) p (k1)) hf hnc hcm (hok.mrg (x := k1 + 1) (y := k1) (e := k1) (by omega) (by omega) (by omega) (by omega)) (hok.kd (by omega)) (hok.kd (by omega)))) rfl (fun ⟨⟨g7, c7⟩, L7⟩ hF7 => ?_)
  iterate 2 refine aS ?_
  exact s_end0 rfl (fun w' h' => by first | exact ⟨((g5, c5), L5), rfl, ⟨by rw [filP, if_pos hr0]; exact hF5.1, hF5.2.1, hF5.2.2⟩, h'.ent aEt⟩ | exact ⟨((g6, c6), L6), rfl, ⟨by rw [filP, if_neg hr0, if_pos hs0]; exact hF6.1, hF6.2.1, hF6.2.2⟩, h'.ent aEt⟩ | exact ⟨((g7, c7), L7), rfl, ⟨by rw [filP, if_neg hr0, if_neg hs0, if_pos hk0]; exact hF7.1, hF7.2.1, hF7.2.2⟩, h'.ent aEt⟩ | exact ⟨((g8, c8), L8), rfl, ⟨by rw [filP, if_neg hr0, if_neg hs0, if_neg hk0, if_pos hk1]; exact hF8.1, hF8.2.1, hF8.2.2⟩, h'.ent aEt⟩ | exact ⟨((gn, cap), L), rfl, ⟨by rw [filP, if_neg hr0, if_neg hs0, if_neg hk0, if_neg hk1], hnc, hcm⟩, h'.ent aEt⟩)
 try simp only [decide_eq_false_iff_not] at h5
 have hk0 : ¬ 0 < k := by have hq := h5; omega
 iterate 7 refine aS ?_
 refine s_cond rfl (fun h6 => ?_) fun h6 => ?_
 ·try simp only [decide_eq_true_eq] at h6
  have hk1 : 1 < (nth (pln L) p).cs.length := by rw [hPN]; have hq := h6; simp only [LNd.pl]; omega
  iterate 4 refine aS ?_
  refine o_h (h_callF (Cs := [.blk bt 112 6 (tbV (j : Int) mo rm (some ⟨gn, 0, none⟩) (L).length cap), .blk gn 102 (cap * 3) ((L).flatMap LNd.vals), .star ((L).map (subN 26))]) rfl fn_144 rfl aPs (fun w1 h1 hf => c144 w1 bt j mo rm gn cap L p (k) (kdN (pln L) p (k + 1)) (kdN (pln L) p (k)) hf hnc hcm (hok.mrg (x := k + 1) (y := k) (e := k) (by omega) (by omega) (by omega) (by omega)) (hok.kd (by omega)) (hok.kd (by omega)))) rfl (fun ⟨⟨g8, c8⟩, L8⟩ hF8 => ?_)
  iterate 2 refine aS ?_
  exact s_end0 rfl (fun w' h' => by first | exact ⟨((g5, c5), L5), rfl, ⟨by rw [filP, if_pos hr0]; exact hF5.1, hF5.2.1, hF5.2.2⟩, h'.ent aEt⟩ | exact ⟨((g6, c6), L6), rfl, ⟨by rw [filP, if_neg hr0, if_pos hs0]; exact hF6.1, hF6.2.1, hF6.2.2⟩, h'.ent aEt⟩ | exact ⟨((g7, c7), L7), rfl, ⟨by rw [filP, if_neg hr0, if_neg hs0, if_pos hk0]; exact hF7.1, hF7.2.1, hF7.2.2⟩, h'.ent aEt⟩ | exact ⟨((g8, c8), L8), rfl, ⟨by rw [filP, if_neg hr0, if_neg hs0, if_neg hk0, if_pos hk1]; exact hF8.1, hF8.2.1, hF8.2.2⟩, h'.ent aEt⟩ | exact ⟨((gn, cap), L), rfl, ⟨by rw [filP, if_neg hr0, if_neg hs0, if_neg hk0, if_neg hk1], hnc, hcm⟩, h'.ent aEt⟩)
 try simp only [decide_eq_false_iff_not] at h6
 have hk1 : ¬ 1 < (nth (pln L) p).cs.length := by rw [hPN]; have hq := h6; simp only [LNd.pl]; omega
 iterate 2 refine aS ?_
 exact s_end0 rfl (fun w' h' => by first | exact ⟨((g5, c5), L5), rfl, ⟨by rw [filP, if_pos hr0]; exact hF5.1, hF5.2.1, hF5.2.2⟩, h'.ent aEt⟩ | exact ⟨((g6, c6), L6), rfl, ⟨by rw [filP, if_neg hr0, if_pos hs0]; exact hF6.1, hF6.2.1, hF6.2.2⟩, h'.ent aEt⟩ | exact ⟨((g7, c7), L7), rfl, ⟨by rw [filP, if_neg hr0, if_neg hs0, if_pos hk0]; exact hF7.1, hF7.2.1, hF7.2.2⟩, h'.ent aEt⟩ | exact ⟨((g8, c8), L8), rfl, ⟨by rw [filP, if_neg hr0, if_neg hs0, if_neg hk0, if_pos hk1]; exact hF8.1, hF8.2.1, hF8.2.2⟩, h'.ent aEt⟩ | exact ⟨((gn, cap), L), rfl, ⟨by rw [filP, if_neg hr0, if_neg hs0, if_neg hk0, if_neg hk1], hnc, hcm⟩, h'.ent aEt⟩)
end Go.Proofs
namespace Gx
set_option linter.unusedSimpArgs false
set_option linter.unusedVariables false
set_option linter.unusedSectionVars false
open Go Go.RowKit
def tln (ns : List Nd) : Nat → Nat
  | 0 => 0
  | n + 1 => if (nth ns n).us = true then n + 1 else tln ns n
def trmN (ns : List Nd) : List Nd := ns.take (tln ns ns.length)
theorem tln_stop {ns : List Nd} {m : Nat} (h0 : 0 < m) (h : (nth ns (m - 1)).us = true) : tln ns m = m := by
  obtain ⟨n, rfl⟩ : ∃ n, m = n + 1 := ⟨m - 1, by omega⟩
  exact if_pos h
theorem tln_step {ns : List Nd} {m : Nat} (h0 : 0 < m) (h : ¬ (nth ns (m - 1)).us = true) : tln ns m = tln ns (m - 1) := by
  obtain ⟨n, rfl⟩ : ∃ n, m = n + 1 := ⟨m - 1, by omega⟩
  exact if_neg h
section
variable {w0 w : World} {M : List Nat} {As As' : List HA} {et : Nat} {L : List LNd}
theorem HS.drop_all : ∀ (Bs : List HA), HS w0 M (Bs ++ As) w → HS w0 M As w
  | [], h => h
  | B :: Bs, h => HS.drop_all Bs h.tail
theorem HS.star_take (m : Nat) (h : HS w0 M As w) (hp : Pick As (.star (L.map (subN et))) As') : HS w0 M (.star ((L.take m).map (subN et)) :: As') w := by
  have h1 := h.pick hp
  rw [← List.take_append_drop m L, List.map_append] at h1
  have h2 := h1.star_open
  rw [List.append_assoc] at h2
  have h3 := h2.perm (As' := (L.drop m).map (subN et) ++ ((L.take m).map (subN et) ++ As')) (by rw [← List.append_assoc, ← List.append_assoc]; exact List.perm_append_comm.append_right _)
  have h4 := HS.star_close (HS.drop_all _ h3)
  exact h4
end
theorem take_flat {L : List LNd} {m : Nat} : L.flatMap LNd.vals = (L.take m).flatMap LNd.vals ++ (L.drop m).flatMap LNd.vals := by
  rw [← List.flatMap_append, List.take_append_drop]
def rgtN (ns : List Nd) : Nat → Nat → List Nat
  | 0, i => [i]
  | f + 1, i => if (nth ns i).cs.length = 0 then [i] else i :: rgtN ns f (kdN ns i ((nth ns i).cs.length - 1))
def RgtOk (ns : List Nd) : Nat → Nat → Prop
  | 0, _ => False
  | f + 1, i => i < ns.length ∧ ((nth ns i).cs.length = 0 ∨ (0 ≤ (nth ns i).cs.getD ((nth ns i).cs.length - 1) 0 ∧ RgtOk ns f (kdN ns i ((nth ns i).cs.length - 1))))
def lastN (P : List Nat) : Nat := nth P (P.length - 1)
def remQ (ns : List Nd) (P : List Nat) (at' : Nat) : List Nat := if (nth ns (lastN P)).cs.length = 0 then P else P ++ rgtN ns ns.length (kdN ns (lastN P) at')
def remK (ns : List Nd) (P : List Nat) (at' : Nat) : Nat := if (nth ns (lastN P)).cs.length = 0 then at' else (nth ns (lastN (remQ ns P at'))).es.length - 1
def rem1 (ns : List Nd) (P : List Nat) (at' : Nat) : List Nd := if (nth ns (lastN P)).cs.length = 0 then ns else esN ns (lastN P) ((nth ns (lastN P)).es.set at' (nth (nth ns (lastN (remQ ns P at'))).es ((nth ns (lastN (remQ ns P at'))).es.length - 1)))
def rem2 (ns : List Nd) (P : List Nat) (at' : Nat) : List Nd := esN (rem1 ns P at') (lastN (remQ ns P at')) (others (nth (rem1 ns P at') (lastN (remQ ns P at'))).es (remK ns P at'))
def fil1 (mo : Int) (ns : List Nd) (i : Nat) : List Nd := if 0 < i ∧ ((nth ns i).es.length : Int) < mo / 2 then filN mo ns i else ns
def filW (mo : Int) (ns : List Nd) (P : List Nat) : List Nd := P.foldl (fil1 mo) ns
def rotN (rm : Int) (ns : List Nd) : List Nd :=
  if (nth ns 0).es.length = 0 ∧ (nth ns 0).cs.length = 1 then
    if ((nth ns (kdN ns 0 0)).es.length : Int) ≤ rm then (ns.set 0 (nth ns (kdN ns 0 0))).set (kdN ns 0 0) ⟨false, [], []⟩ else ns
  else ns
def remN (mo rm : Int) (ns : List Nd) (P : List Nat) (at' : Nat) : List Nd := trmN (rotN rm (filW mo (rem2 ns P at') (remQ ns P at').reverse))
theorem filW_snoc (mo : Int) (ns : List Nd) (P : List Nat) (i : Nat) : filW mo ns (P ++ [i]) = fil1 mo (filW mo ns P) i := by
  unfold filW
  rw [List.foldl_append]
  rfl
def FilsOk (mo : Int) : List Nd → List Nat → Prop
  | _, [] => True
  | ns, i :: P => (i < ns.length ∧ (0 < i → ((nth ns i).es.length : Int) < mo / 2 → FilOk mo ns (parN (i : Int) ns 0).1 (parN (i : Int) ns 0).2)) ∧ FilsOk mo (fil1 mo ns i) P
structure RotOk (rm : Int) (ns : List Nd) : Prop where
  lt : 0 < ns.length
  len : ns.length ≤ 900
  us : (nth ns 0).us = true
  kid : (nth ns 0).cs.length = 1 → 0 < (nth ns 0).cs.getD 0 0 ∧ kdN ns 0 0 < ns.length ∧ (nth ns (kdN ns 0 0)).us = true
structure RemOk (mo rm : Int) (ns : List Nd) (P : List Nat) (at' : Nat) : Prop where
  mo0 : 0 ≤ mo ∧ mo ≤ 1000
  ne : 0 < P.length
  len : P.length ≤ 900
  nl : ns.length ≤ 900
  sm : Sm 900 ns
  lst : lastN P < ns.length
  atk : at' < (nth ns (lastN P)).es.length
  rgt : 0 < (nth ns (lastN P)).cs.length → at' < (nth ns (lastN P)).cs.length ∧ 0 ≤ (nth ns (lastN P)).cs.getD at' 0 ∧ RgtOk ns ns.length (kdN ns (lastN P) at') ∧ lastN P ≠ lastN (remQ ns P at') ∧ 0 < (nth ns (lastN (remQ ns P at'))).es.length ∧ lastN (remQ ns P at') < ns.length
  qn : 0 < (remQ ns P at').length ∧ (remQ ns P at').length ≤ 1900
  ql : lastN (remQ ns P at') < ns.length
  dl : remK ns P at' < (nth (rem1 ns P at') (lastN (remQ ns P at'))).es.length
  sm1 : Sm 900 (rem1 ns P at')
  fil : FilsOk mo (rem2 ns P at') (remQ ns P at').reverse
  rot : RotOk rm (filW mo (rem2 ns P at') (remQ ns P at').reverse)
end Gx
namespace Go.Proofs
open Go Go.RowKit Gx
set_option linter.unusedVariables false
set_option linter.unusedSimpArgs false
attribute [local irreducible] Go.Calls Gx.S Gx.O Gx.D Gx.OpP Gx.OpQ Gx.OpH
set_option maxRecDepth 20000
theorem c107 (w : World) (bt : Nat) (j : Nat) (mo rm : Int) (gn cap : Nat) (L : List LNd) (hw : HS w (fps [.blk bt 112 6 (tbV (j : Int) mo rm (some ⟨gn, 0, none⟩) (L).length cap), .blk gn 102 (cap * 3) ((L).flatMap LNd.vals), .star ((L).map (subN 26))]) [.blk bt 112 6 (tbV (j : Int) mo rm (some ⟨gn, 0, none⟩) (L).length cap), .blk gn 102 (cap * 3) ((L).flatMap LNd.vals), .star ((L).map (subN 26))] w) (hnc : L.length ≤ cap) (hcm : cap ≤ maxLen) (h0 : 0 < L.length) (hl : L.length ≤ 100000) (hu : (nth (pln L) 0).us = true) : Calls Tryz.prog 107 #[.pointer (some ⟨bt, 0, none⟩)] w fun en w' => ∃ g : (Nat × Nat) × List LNd, en = .returned (.tuple #[]) ∧ (pln g.2 = trmN (pln L) ∧ g.2.length ≤ g.1.2 ∧ g.1.2 ≤ maxLen) ∧ HS w (fps [.blk bt 112 6 (tbV (j : Int) mo rm (some ⟨gn, 0, none⟩) (L).length cap), .blk gn 102 (cap * 3) ((L).flatMap LNd.vals), .star ((L).map (subN 26))]) [.blk bt 112 6 (tbV (j : Int) mo rm (some ⟨g.1.1, 0, none⟩) (g.2).length g.1.2), .blk g.1.1 102 (g.1.2 * 3) ((g.2).flatMap LNd.vals), .star ((g.2).map (subN 26))] w' := by
 have hu0 : (nth L 0).us = true := by have h9 := hu; rw [pln_nth h0] at h9; exact h9
 refine enter (args := [_]) Tryz.func107 Tryz.ntmps107 rfl rfl hw ?_
 iterate 11 refine aS ?_
 refine s_loopI (α := Nat) [2, 9, 10, 11, 12, 13, 14, 15, 16, 17, 18, 19, 20, 21, 22, 23, 24, 25, 26, 27, 28, 29, 30, 31, 32, 33] (fun m => [(2, .int .i64 (m : Int))]) (fun m => HS w (fps [.blk bt 112 6 (tbV (j : Int) mo rm (some ⟨gn, 0, none⟩) (L).length cap), .blk gn 102 (cap * 3) ((L).flatMap LNd.vals), .star ((L).map (subN 26))]) [.blk bt 112 6 (tbV (j : Int) mo rm (some ⟨gn, 0, none⟩) (m) cap), .blk gn 102 (cap * 3) ((L.take (m)).flatMap LNd.vals), .star ((L.take (m)).map (subN 26))]) (fun m => (1 ≤ m ∧ m ≤ L.length) ∧ tln (pln L) L.length = tln (pln L) m) (fun m => m) L.length ⟨⟨h0, Nat.le_refl _⟩, rfl⟩ aSx (fun w h => by rw [List.take_length]; exact h.ent aEt) (fun m hm => ?_)
 obtain ⟨⟨hm1, hm2⟩, hm3⟩ := hm
 iterate 10 refine aS ?_
 try refine oWr ?_
 refine o_p (p_indexAddr rfl rfl rfl sl_22 (m - 1) (by omega) (by omega) rfl) rfl ?_
 refine o_slot (show _ = Value.pointer (some ⟨gn, (m - 1) * 3, none⟩) from by rw [Nat.zero_add]) ?_
 refine aS ?_
 refine o_q (q_load_at rfl rfl sz_4 (fun w h => HS.nd_cell (L := L.take m) (i := m - 1) (by rw [List.length_take]; omega) h aPk 0 (by rw [nth_take (by omega)]; rfl) (by decide))) rfl ?_
 iterate 2 refine aS ?_
 refine s_cond rfl (fun h1 => ?_) fun h1 => ?_
 ·try simp only [Bool.not_eq_true'] at h1
  have hm4 : ¬ (nth (pln L) (m - 1)).us = true := by rw [pln_nth (by omega)]; have hq := h1; simp only [LNd.pl]; first | exact hq | simp [hq]
  have hm5 : 1 ≤ m - 1 := (Nat.lt_or_ge 1 m).elim (fun h9 => by omega) (fun h9 => by exfalso; have h8 : m = 1 := (by omega); subst h8; exact hm4 hu)
  iterate 12 refine aS ?_
  try refine oWr ?_
  refine o_p (p_slice _ _ 0 (m - 1) rfl rfl sl_22 rfl ⟨_, _, rfl, (by omega)⟩ (by omega) (by omega)) rfl ?_
  refine o_slot (show _ = Value.slice (some ⟨gn, 0, none⟩) (m - 1) cap from by rw [subA_zero] <;> first | rfl | (congr 1 <;> omega)) ?_
  iterate 3 refine aS ?_
  refine o_h0 (h_store rfl rfl rfl sz_22 rfl aPt (by show 4 ≤ 6; omega) rfl) (fun _ _ => ?_)
  iterate 2 refine aS ?_
  refine s_weaken (L' := [(0, _), (2, _), (3, _), (4, _), (5, _), (6, _), (7, _), (8, _)]) aSx (fun _ h => h) ?_
  iterate 3 refine aS ?_
  try refine oWr ?_
  iterate 2 refine aS ?_
  exact s_backI (m - 1) (by omega) ⟨⟨hm5, by omega⟩, by rw [hm3, tln_step hm1 hm4]⟩ (by rw [show ((m - 1 : Nat) : Int) = (m : Int) - 1 by omega]; exact aSx) (fun w h => by have h2 := HS.star_take (m - 1) h aPk; rw [List.take_take, Nat.min_eq_left (Nat.sub_le m 1)] at h2; have h3 := h2; rw [take_flat (L := L.take m) (m := m - 1), List.take_take, Nat.min_eq_left (Nat.sub_le m 1)] at h3; exact (HS.blk_less (b := gn) aPk h3).ent aEt)
 try simp only [Bool.not_eq_false'] at h1
 have hm4 : (nth (pln L) (m - 1)).us = true := by rw [pln_nth (by omega)]; have hq := h1; simp only [LNd.pl]; first | exact hq | simpa using hq
 refine s_exit_to rfl ?_
 exact s_end0 rfl (fun w' h' => ⟨((gn, cap), L.take m), rfl, ⟨by rw [trmN, pln_len, hm3, tln_stop hm1 hm4]; exact List.map_take, by simp only [List.length_take]; omega, hcm⟩, by simp only [List.length_take]; rw [Nat.min_eq_left hm2]; exact h'.ent aEt⟩)
end Go.Proofs
namespace Gx
set_option linter.unusedSimpArgs false
set_option linter.unusedVariables false
set_option linter.unusedSectionVars false
open Go Go.RowKit
abbrev ownP (a : Option Addr) (c : Nat) (P : List Nat) : HA := .own (.slice a P.length c) 3 1 P.length (P.map fun i : Nat => Value.int .i64 (i : Int))
theorem iN_flat (l : List Nat) : (iN l).flatMap inV = l.map fun i : Nat => Value.int .i64 (i : Int) := by
  induction l with
  | nil => rfl
  | cons x l ih =>
    rw [iN, List.map_cons, List.flatMap_cons, List.map_cons, ← ih]
    rfl
theorem kids_ownP (a : Option Addr) (c : Nat) (P : List Nat) : HA.kids a c (iN P) = ownP a c P := by
  unfold HA.kids
  rw [iN_flat, iN_len]
section
variable {w0 w : World} {M : List Nat} {As A1 A2 A3 : List HA} {a : Option Addr} {c : Nat} {P : List Nat}
theorem HS.of_kids (h : HS w0 M As w) (hp : Pick As (.kids a c (iN P)) A1) : HS w0 M (ownP a c P :: A1) w := by
  rw [← kids_ownP]
  exact h.pick hp
theorem HS.pown_some (hn : 0 < P.length) (h : HS w0 M As w) (hp : Pick As (ownP a c P) A1) : ∃ g, a = some ⟨g, 0, none⟩ := by
  obtain ⟨g, e, _⟩ := HS.own_blk hn hp h
  exact ⟨g, e⟩
theorem HS.pown_row (h : HS w0 M As w) (hp : Pick As (ownP a c P) A1) : Rw inV 1 w [] a (iN P) := by
  have h1 := h.pick hp
  rw [← kids_ownP] at h1
  exact h1.rw_own (l := iN P) iv1 .here rfl
theorem HS.pown_rd {k g : Nat} (hk : k < P.length) (hg : a = some ⟨g, 0, none⟩) (h : HS w0 M As w) (hp : Pick As (ownP a c P) A1) : Rd w [] g (0 + k * 1) (.int .i64 ((nth P k : Nat) : Int)) := by
  have h1 := Rw.rd (h.pown_row hp) (i := k) (by rw [iN_len]; exact hk) 0 (.int .i64 ((nth P k : Nat) : Int)) (by rw [iN_nth hk]; rfl)
  rw [hg] at h1
  exact h1
end
section
variable {w0 w : World} {M : List Nat} {As A1 A2 A3 : List HA} {et : Nat} {L : List LNd} {i j gn cap nt' : Nat}
theorem HS.node_rot (hi : i < L.length) (hj : j < L.length) (hne : i ≠ j) (h : HS w0 M As w)
    (hp : Pick As (.blk gn nt' (cap * 3) (setMany (setMany (L.flatMap LNd.vals) (j * 3) (LNd.vals (nth L i))) (i * 3) [.bool false, .slice none 0 0, .slice none 0 0])) A1) (hp3 : Pick A1 (.star (L.map (subN et))) A3) :
    ∃ L', (pln L' = ((pln L).set j (nth (pln L) i)).set i ⟨false, [], []⟩ ∧ L'.length = L.length) ∧ HS w0 M (.blk gn nt' (cap * 3) (L'.flatMap LNd.vals) :: .star (L'.map (subN et)) :: A3) w := by
  refine ⟨(L.set j (nth L i)).set i LNd.gone, ⟨by rw [pln_set, pln_set, pln_nth hi]; rfl, by rw [List.length_set, List.length_set]⟩, ?_⟩
  have e1 := node_set3 hj (nth L i)
  have e2 := node_set3 (l := L.set j (nth L i)) (k := i) (by rw [List.length_set]; exact hi) LNd.gone
  rw [← e2, ← e1]
  have h1 := HS.star_move hi hj hne (nth L i).us (h.pick hp) (.there hp3)
  have h2 := HS.star_gone (L := (L.set j (nth L i)).set i (nth L i).non) (i := i) (by rw [List.length_set, List.length_set]; exact hi) h1 .here
  rw [List.set_set] at h2
  exact h2.perm (List.Perm.swap ..)
end
theorem HS.nd_cells {w0 w : World} {M : List Nat} {As A1 : List HA} {L : List LNd} {i gn cap nt' : Nat} (hi : i < L.length) (h : HS w0 M As w) (hp : Pick As (.blk gn nt' (cap * 3) (L.flatMap LNd.vals)) A1) : ∀ j v, (LNd.vals (nth L i))[j]? = some v → Rd w [] gn (i * 3 + j) v := fun j v hv => by
  have hj : j < 3 := by
    have := (List.getElem?_eq_some_iff.1 hv).1
    exact this
  exact HS.nd_cell hi h hp j hv hj
theorem rgt_stop {ns : List Nd} {f i : Nat} (h : (nth ns i).cs.length = 0) : rgtN ns (f + 1) i = [i] := if_pos h
theorem rgt_step {ns : List Nd} {f i : Nat} (h : ¬ (nth ns i).cs.length = 0) : rgtN ns (f + 1) i = i :: rgtN ns f (kdN ns i ((nth ns i).cs.length - 1)) := if_neg h
theorem last_snoc (E : List Nat) (i : Nat) : lastN (E ++ [i]) = i := by
  unfold lastN
  rw [List.length_append, List.length_singleton, Nat.add_sub_cancel]
  exact nth_eq (by simp)
theorem kd_eq {ns : List Nd} {p x : Nat} {P : Nd} (hP : nth ns p = P) (h : 0 ≤ P.cs.getD x 0) : P.cs.getD x 0 = ((kdN ns p x : Nat) : Int) := by
  subst hP
  exact (Int.toNat_of_nonneg h).symm
section
variable {ns : List Nd} {P : List Nat} {k : Nat} {I F : Nd} {rm : Int}
theorem rem1_0 (hI : nth ns (lastN P) = I) (h : I.cs.length = 0) : rem1 ns P k = ns := by
  subst hI
  exact if_pos h
theorem rem1_1 (hI : nth ns (lastN P) = I) (hF : nth ns (lastN (remQ ns P k)) = F) (h : 0 < I.cs.length) : rem1 ns P k = esN ns (lastN P) (I.es.set k (nth F.es (F.es.length - 1))) := by
  subst hI hF
  exact if_neg (by omega)
theorem remK_0 (hI : nth ns (lastN P) = I) (h : I.cs.length = 0) : remK ns P k = k := by
  subst hI
  exact if_pos h
theorem remK_1 (hI : nth ns (lastN P) = I) (hF : nth ns (lastN (remQ ns P k)) = F) (h : 0 < I.cs.length) : remK ns P k = F.es.length - 1 := by
  subst hI hF
  exact if_neg (by omega)
theorem rotN_1 (hI : nth ns 0 = I) (h : I.es.length = 0 ∧ I.cs.length = 1) (hF : nth ns (kdN ns 0 0) = F) (h2 : (F.es.length : Int) ≤ rm) : rotN rm ns = (ns.set 0 (nth ns (kdN ns 0 0))).set (kdN ns 0 0) ⟨false, [], []⟩ := by
  subst hI hF
  unfold rotN
  rw [if_pos h, if_pos h2]
theorem rotN_2 (hI : nth ns 0 = I) (h : I.es.length = 0 ∧ I.cs.length = 1) (hF : nth ns (kdN ns 0 0) = F) (h2 : ¬ (F.es.length : Int) ≤ rm) : rotN rm ns = ns := by
  subst hI hF
  unfold rotN
  rw [if_pos h, if_neg h2]
theorem rotN_3 (hI : nth ns 0 = I) (h : ¬ (I.es.length = 0 ∧ I.cs.length = 1)) : rotN rm ns = ns := by
  subst hI
  unfold rotN
  rw [if_neg h]
theorem rot_us (h : RotOk rm ns) : (nth (rotN rm ns) 0).us = true := by
  unfold rotN
  split
  · rename_i h1
    split
    · obtain ⟨h2, h3, h4⟩ := h.kid h1.2
      have hne : kdN ns 0 0 ≠ 0 := by
        unfold kdN
        omega
      rw [nth_set_nd, if_neg (fun e => hne e.1), nth_set_nd, if_pos ⟨rfl, h.lt⟩]
      exact h4
    · exact h.us
  · exact h.us
end
end Gx
namespace Go.Proofs
open Go Go.RowKit Gx
set_option linter.unusedVariables false
set_option linter.unusedSimpArgs false
attribute [local irreducible] Go.Calls Gx.S Gx.O Gx.D Gx.OpP Gx.OpQ Gx.OpH
set_option maxRecDepth 20000
theorem fn_106 : isFn Tryz.prog 106 = true := by kernel_rfl
theorem fn_107 : isFn Tryz.prog 107 = true := by kernel_rfl
set_option maxHeartbeats 300000 in
theorem c69 (w : World) (bt : Nat) (j : Nat) (mo rm : Int) (gn cap : Nat) (L : List LNd) (P : List Nat) (pa : Option Addr) (pc : Nat) (k : Nat) (hw : HS w (fps [.blk bt 112 6 (tbV (j : Int) mo rm (some ⟨gn, 0, none⟩) (L).length cap), .blk gn 102 (cap * 3) ((L).flatMap LNd.vals), .star ((L).map (subN 26)), .kids pa pc (iN P)]) [.blk bt 112 6 (tbV (j : Int) mo rm (some ⟨gn, 0, none⟩) (L).length cap), .blk gn 102 (cap * 3) ((L).flatMap LNd.vals), .star ((L).map (subN 26)), .kids pa pc (iN P)] w) (hnc : L.length ≤ cap) (hcm : cap ≤ maxLen) (hok : RemOk mo rm (pln L) P k) : Calls Tryz.prog 69 #[.pointer (some ⟨bt, 0, none⟩), .slice pa P.length pc, .int .i64 (k : Int)] w fun en w' => ∃ g : (Nat × Nat) × List LNd, en = .returned (.tuple #[]) ∧ (pln g.2 = remN mo rm (pln L) P k ∧ g.2.length ≤ g.1.2 ∧ g.1.2 ≤ maxLen) ∧ HS w (fps [.blk bt 112 6 (tbV (j : Int) mo rm (some ⟨gn, 0, none⟩) (L).length cap), .blk gn 102 (cap * 3) ((L).flatMap LNd.vals), .star ((L).map (subN 26)), .kids pa pc (iN P)]) [.blk bt 112 6 (tbV (j : Int) mo rm (some ⟨g.1.1, 0, none⟩) (g.2).length g.1.2), .blk g.1.1 102 (g.1.2 * 3) ((g.2).flatMap LNd.vals), .star ((g.2).map (subN 26))] w' := by
 have hmo := hok.mo0
 have hne := hok.ne
 have hlen := hok.len
 have hnl := hok.nl
 have hlst := hok.lst
 rw [pln_len] at hnl hlst
 have hNI := pln_nth hlst
 have hatk := hok.atk
 rw [hNI] at hatk
 simp only [LNd.pl] at hatk
 have hsI := hok.sm (lastN P)
 rw [hNI] at hsI
 simp only [LNd.pl] at hsI
 have hrg := hok.rgt
 rw [hNI] at hrg
 simp only [LNd.pl] at hrg
 have hql := hok.ql
 rw [pln_len] at hql
 have hqn := hok.qn
 have hdl := hok.dl
 refine enter (args := [_, _, _]) Tryz.func69 Tryz.ntmps69 rfl rfl hw ?_
 iterate 2 refine aS ?_
 refine oBx fun b1 _ => ?_
 refine o_class (C' := HS w (fps [.blk bt 112 6 (tbV (j : Int) mo rm (some ⟨gn, 0, none⟩) (L).length cap), .blk gn 102 (cap * 3) ((L).flatMap LNd.vals), .star ((L).map (subN 26)), .kids pa pc (iN P)]) [.blk bt 112 6 (tbV (j : Int) mo rm (some ⟨gn, 0, none⟩) (L).length cap), .blk gn 102 (cap * 3) ((L).flatMap LNd.vals), .star ((L).map (subN 26)), .own (.slice pa (P).length pc) 3 1 (P).length ((P).map fun i : Nat => Value.int .i64 (i : Int)), .blk b1 103 1 [.pointer (some ⟨bt, 0, none⟩)]]) (fun w h => (h.of_kids aPk).ent aEt) ?_
 refine o_fact (fun w h => HS.pown_some (P := P) (a := pa) (c := pc) hne h aPk) fun hpa => ?_
 obtain ⟨gp, hpa⟩ := hpa
 iterate 7 refine aS ?_
 try refine oWr ?_
 refine o_p (p_indexAddr rfl rfl rfl sl_30 (P.length - 1) (by omega) (by omega) hpa) rfl ?_
 refine o_q (q_load_at rfl rfl sz_3 (fun w h => HS.pown_rd (P := P) (a := pa) (c := pc) (k := P.length - 1) (by omega) hpa h aPk)) rfl ?_
 refine o_slot (show _ = Value.int .i64 ((lastN P) : Int) from rfl) ?_
 iterate 11 refine aS ?_
 refine o_p (p_indexAddr rfl rfl rfl sl_22 ((lastN P)) (by omega) (by omega) rfl) rfl ?_
 refine o_slot (show _ = Value.pointer (some ⟨gn, (lastN P) * 3, none⟩) from by rw [Nat.zero_add]) ?_
 refine aS ?_
 refine o_q (q_load_at rfl rfl sz_30 (fun w h => HS.nd_cell hlst h aPk 2 rfl (by decide))) rfl ?_
 iterate 8 refine aS ?_
 refine s_weaken (L' := [(1, _), (2, _), (3, _), (6, _), (7, _), (31, _)]) aSx (fun _ h => h) ?_
 refine s_cutI (α := (Option Addr × Nat) × List LNd) [1, 2, 6, 8, 9, 32, 33, 34, 35, 36, 37, 38, 39, 40, 41, 42, 43, 44, 45, 46, 47, 48, 49, 50, 51, 52, 53, 54, 55, 56, 57, 58, 59, 60, 61, 62, 63, 64, 65, 66, 67, 68, 69, 70, 71, 72, 73, 74, 75, 76, 77, 78, 79, 80, 81, 82, 83, 84, 85, 86, 87, 88, 89, 90, 91, 92, 93, 94, 95, 96, 97, 98, 99, 100, 101, 102, 103, 104, 105, 106, 107, 108, 109, 110, 111, 112] (fun x => [(6, .int .i64 ((lastN (remQ (pln L) P k)) : Int)), (2, .int .i64 ((remK (pln L) P k) : Int)), (1, .slice x.1.1 (remQ (pln L) P k).length x.1.2)]) (fun x => HS w (fps [.blk bt 112 6 (tbV (j : Int) mo rm (some ⟨gn, 0, none⟩) (L).length cap), .blk gn 102 (cap * 3) ((L).flatMap LNd.vals), .star ((L).map (subN 26)), .kids pa pc (iN P)]) [.blk bt 112 6 (tbV (j : Int) mo rm (some ⟨gn, 0, none⟩) (x.2).length cap), .blk gn 102 (cap * 3) ((x.2).flatMap LNd.vals), .star ((x.2).map (subN 26)), .own (.slice x.1.1 ((remQ (pln L) P k)).length x.1.2) 3 1 ((remQ (pln L) P k)).length (((remQ (pln L) P k)).map fun i : Nat => Value.int .i64 (i : Int)), .blk b1 103 1 [.pointer (some ⟨bt, 0, none⟩)]]) (fun x => pln x.2 = (rem1 (pln L) P k) ∧ x.2.length = L.length) ?_ ?_
 ·skip
  refine s_cond rfl (fun h2 => ?_) fun h2 => ?_
  ·try simp only [decide_eq_true_eq] at h2
   have hcz : 0 < (nth L (lastN P)).cs.length := by have hq := h2; omega
   obtain ⟨hr1, hr2, hr3, hr4, hr5, hr6⟩ := hrg hcz
   refine s_fact (fun w h => HS.cs_some hlst hcz h aPk) fun hgc => ?_
   obtain ⟨gc9, hgc⟩ := hgc
   have hQe : (remQ (pln L) P k) = P ++ rgtN (pln L) (pln L).length (kdN (pln L) (lastN P) k) := by unfold remQ; rw [hNI]; exact if_neg (by show ¬ (nth L (lastN P)).cs.length = 0; omega)
   iterate 4 refine aS ?_
   refine o_p (p_indexAddr rfl rfl rfl sl_30 (k) (by omega) (by omega) hgc) rfl ?_
   refine o_q (q_load_at rfl rfl sz_3 (fun w h => HS.cs_rd hlst (by omega) hgc h aPk)) rfl ?_
   refine o_slot (show _ = Value.int .i64 ((kdN (pln L) (lastN P) k) : Int) from congrArg (Value.int .i64) (kd_eq hNI hr2)) ?_
   iterate 6 refine aS ?_
   refine o_h (h_buildSlice (cs := [_]) rfl rfl sl_30 zr_3 rfl rfl rfl) rfl (fun b3 _ => ?_)
   refine o_h (h_appendS [_] rfl rfl rfl sl_30 Tryz.underlying30 zr_3 rfl aPk (src_blk aPk) rfl (by intro u hu; simp only [List.mem_cons, List.mem_nil_iff, or_false] at hu; subst hu; rfl) (by omega) (by simp only [maxLen]; omega)) rfl (fun b4 _ => ?_)
   iterate 4 refine aS ?_
   refine s_loopI (α := (Option Addr × Nat) × List Nat × Nat × Nat) [1, 8, 40, 41, 42, 43, 44, 45, 46, 47, 48, 49, 50, 51, 52, 53, 54, 55, 56, 57, 58, 59, 60, 61, 62, 63, 64, 65, 66, 67, 68, 69, 70, 71, 72, 73, 74, 75, 76] (fun x => [(1, .slice x.1.1 (x.2.1 ++ [x.2.2.1]).length x.1.2), (8, .int .i64 (x.2.2.1 : Int))]) (fun x => HS w (fps [.blk bt 112 6 (tbV (j : Int) mo rm (some ⟨gn, 0, none⟩) (L).length cap), .blk gn 102 (cap * 3) ((L).flatMap LNd.vals), .star ((L).map (subN 26)), .kids pa pc (iN P)]) [.blk bt 112 6 (tbV (j : Int) mo rm (some ⟨gn, 0, none⟩) (L).length cap), .blk gn 102 (cap * 3) ((L).flatMap LNd.vals), .star ((L).map (subN 26)), .own (.slice x.1.1 (x.2.1 ++ [x.2.2.1]).length x.1.2) 3 1 (x.2.1 ++ [x.2.2.1]).length ((x.2.1 ++ [x.2.2.1]).map fun i : Nat => Value.int .i64 (i : Int)), .blk b1 103 1 [.pointer (some ⟨bt, 0, none⟩)]]) (fun x => RgtOk (pln L) x.2.2.2 x.2.2.1 ∧ (remQ (pln L) P k) = x.2.1 ++ rgtN (pln L) x.2.2.2 x.2.2.1 ∧ x.2.1.length + x.2.2.2 ≤ 1900) (fun x => x.2.2.2) ((b4.1, b4.2), P, (kdN (pln L) (lastN P) k), (pln L).length) ⟨hr3, hQe, by rw [pln_len]; simp only []; omega⟩ (by simp only [List.length_append, List.length_singleton]; exact aSx) (fun w h => by have h2 := h; simp only [List.length_append, List.length_singleton, List.map_append, List.map_cons, List.map_nil]; exact h2.ent aEt) (fun ⟨⟨la, lc⟩, E, leaf, fu⟩ hx => ?_)
   dsimp only
   obtain ⟨he1, he2, he3⟩ := hx
   simp only [] at he1 he2 he3
   obtain ⟨fu, rfl⟩ : ∃ f9, fu = f9 + 1 := by cases fu with | zero => exact absurd he1 (fun h => h) | succ f9 => exact ⟨f9, rfl⟩
   have hlf := he1.1
   rw [pln_len] at hlf
   have hNF := pln_nth hlf
   have hsF := hok.sm leaf
   rw [hNF] at hsF
   simp only [LNd.pl] at hsF
   have hEl : (E ++ [leaf]).length = E.length + 1 := by simp
   iterate 9 refine aS ?_
   refine o_p (p_indexAddr rfl rfl rfl sl_22 (leaf) (by omega) (by omega) rfl) rfl ?_
   refine o_slot (show _ = Value.pointer (some ⟨gn, leaf * 3, none⟩) from by rw [Nat.zero_add]) ?_
   refine aS ?_
   refine o_q (q_load_at rfl rfl sz_30 (fun w h => HS.nd_cell hlf h aPk 2 rfl (by decide))) rfl ?_
   iterate 3 refine aS ?_
   refine s_cond rfl (fun h5 => ?_) fun h5 => ?_
   ·try simp only [decide_eq_true_eq] at h5
    have hlz : 0 < (nth L leaf).cs.length := by have hq := h5; omega
    refine s_fact (fun w h => HS.cs_some hlf hlz h aPk) fun hgl => ?_
    obtain ⟨gl9, hgl⟩ := hgl
    have hro := he1.2
    rw [hNF] at hro
    obtain ⟨hs2, hs3⟩ := hro.resolve_left (by show ¬ (nth L leaf).cs.length = 0; omega)
    simp only [LNd.pl] at hs2 hs3
    have hrs := rgt_step (ns := pln L) (f := fu) (i := leaf) (by rw [hNF]; show ¬ (nth L leaf).cs.length = 0; omega)
    rw [hNF] at hrs
    simp only [LNd.pl] at hrs
    iterate 3 refine aS ?_
    refine s_draw [] mixed ?_
    refine dLd 0 [] ?_
    refine dP 1 ?_
    refine dFa 2 ?_
    refine dFa 3 ?_
    refine dLd 4 [] ?_
    refine dP 5 ?_
    refine d_p 6 rfl (p_indexAddr rfl rfl rfl sl_22 (leaf) (by omega) (by omega) rfl) (by kernel_rfl) rfl rfl ?_
    refine d_slot (show _ = Value.pointer (some ⟨gn, leaf * 3, none⟩) from by rw [Nat.zero_add]) ?_
    refine dFa 7 ?_
    refine d_q 8 [] rfl (q_load_at rfl rfl sz_30 (fun w h => HS.nd_cell hlf h aPk 2 rfl (by decide))) (by kernel_rfl) (by kernel_rfl) (by kernel_rfl) rfl ?_
    refine dLd 9 [] ?_
    refine dP 10 ?_
    refine dFa 11 ?_
    refine dFa 12 ?_
    refine dLd 13 [] ?_
    refine dP 14 ?_
    refine d_p 15 rfl (p_indexAddr rfl rfl rfl sl_22 (leaf) (by omega) (by omega) rfl) (by kernel_rfl) rfl rfl ?_
    refine d_slot (show _ = Value.pointer (some ⟨gn, leaf * 3, none⟩) from by rw [Nat.zero_add]) ?_
    refine dFa 16 ?_
    refine d_q 17 [] rfl (q_load_at rfl rfl sz_30 (fun w h => HS.nd_cell hlf h aPk 2 rfl (by decide))) (by kernel_rfl) (by kernel_rfl) (by kernel_rfl) rfl ?_
    refine d_p 18 rfl (p_len_slice rfl rfl Tryz.underlying30) (by kernel_rfl) rfl rfl ?_
    refine dP 19 ?_
    try refine dWr ?_
    refine d_p 20 rfl (p_indexAddr rfl rfl rfl sl_30 ((nth L leaf).cs.length - 1) (by omega) (by omega) hgl) (by kernel_rfl) rfl rfl ?_
    refine d_q 21 [] rfl (q_load_at rfl rfl sz_3 (fun w h => HS.cs_rd hlf (by omega) hgl h aPk)) (by kernel_rfl) (by kernel_rfl) (by kernel_rfl) rfl ?_
    refine d_slot (show _ = Value.int .i64 ((kdN (pln L) leaf ((nth L leaf).cs.length - 1)) : Int) from congrArg (Value.int .i64) (kd_eq hNF hs2)) ?_
    refine dP 22 ?_
    refine dNi ?_
    refine s_weaken (L' := [(1, _), (2, _), (3, _), (6, _), (7, _), (8, _), (31, _), (32, _), (33, _), (34, _), (35, _), (36, _), (37, _), (38, _), (39, _)]) aSx (fun _ h => h) ?_
    iterate 3 refine aS ?_
    refine o_h (h_buildSlice (cs := [_]) rfl rfl sl_30 zr_3 rfl rfl rfl) rfl (fun b6 _ => ?_)
    refine o_h (h_appendS [_] rfl rfl rfl sl_30 Tryz.underlying30 zr_3 rfl aPk (src_blk aPk) rfl (by intro u hu; simp only [List.mem_cons, List.mem_nil_iff, or_false] at hu; subst hu; rfl) (by omega) (by simp only [maxLen]; omega)) rfl (fun b7 _ => ?_)
    iterate 3 refine aS ?_
    exact s_backI ((b7.1, b7.2), E ++ [leaf], (kdN (pln L) leaf ((nth L leaf).cs.length - 1)), fu) (by (try simp only []); omega) ⟨hs3, by rw [he2, hrs, List.append_assoc]; rfl, by simp only [List.length_append, List.length_singleton]; omega⟩ (by simp only [List.length_append (bs := [(kdN (pln L) leaf ((nth L leaf).cs.length - 1))]), List.length_singleton]; exact aSx) (fun w h => by have h2 := h; simp only [List.length_append (bs := [(kdN (pln L) leaf ((nth L leaf).cs.length - 1))]), List.length_singleton, List.map_append (l₂ := [(kdN (pln L) leaf ((nth L leaf).cs.length - 1))]), List.map_cons, List.map_nil]; exact h2.ent aEt)
   try simp only [decide_eq_false_iff_not] at h5
   have hlz : (nth L leaf).cs.length = 0 := by have hq := h5; omega
   have hrs := rgt_stop (ns := pln L) (f := fu) (i := leaf) (by rw [hNF]; exact hlz)
   rw [hrs] at he2
   have hle : leaf = (lastN (remQ (pln L) P k)) := by rw [he2, last_snoc]
   rw [← hle, hNF] at hr5
   simp only [LNd.pl] at hr5
   have hNQ : nth (pln L) (lastN (remQ (pln L) P k)) = (nth L leaf).pl := by rw [← hle]; exact hNF
   have hK2 := remK_1 hNI hNQ hcz
   simp only [LNd.pl] at hK2
   have hni : (lastN P) ≠ leaf := by rw [hle]; exact hr4
   refine s_fact (fun w h => HS.es_some hlst (by omega) h aPk) fun hge => ?_
   obtain ⟨ge9, hge⟩ := hge
   refine s_fact (fun w h => HS.es_some hlf hr5 h aPk) fun hgf => ?_
   obtain ⟨gf9, hgf⟩ := hgf
   refine s_fact (fun w h => HS.es_room hlst h aPk) fun hrE => ?_
   refine s_exit_to rfl ?_
   iterate 8 refine aS ?_
   refine o_p (p_indexAddr rfl rfl rfl sl_22 (leaf) (by omega) (by omega) rfl) rfl ?_
   refine o_slot (show _ = Value.pointer (some ⟨gn, leaf * 3, none⟩) from by rw [Nat.zero_add]) ?_
   refine aS ?_
   refine o_q (q_load_at rfl rfl sz_77 (fun w h => HS.nd_cell hlf h aPk 1 rfl (by decide))) rfl ?_
   iterate 2 refine aS ?_
   try refine oWr ?_
   refine o_slot (show _ = Value.int .i64 ((((nth L leaf).es.length - 1) : Nat) : Int) from by congr 1; omega) ?_
   iterate 3 refine aS ?_
   refine s_weaken (L' := [(1, _), (2, _), (3, _), (6, _), (7, _), (8, _), (9, _), (31, _), (32, _), (33, _), (34, _), (35, _), (36, _), (37, _), (38, _), (39, _)]) aSx (fun _ h => h) ?_
   refine s_class (fun w h => HS.es_open hlst (by omega) hge h aPk) ?_
   refine s_draw [23] mixed ?_
   refine dLd 0 [[]] ?_
   refine dP 1 ?_
   refine dFa 2 ?_
   refine dFa 3 ?_
   refine dLd 4 [[]] ?_
   refine dP 5 ?_
   refine d_p 6 rfl (p_indexAddr rfl rfl rfl sl_22 ((lastN P)) (by omega) (by omega) rfl) (by kernel_rfl) rfl rfl ?_
   refine d_slot (show _ = Value.pointer (some ⟨gn, (lastN P) * 3, none⟩) from by rw [Nat.zero_add]) ?_
   refine dFa 7 ?_
   refine d_q 8 [[]] rfl (q_load_at rfl rfl sz_77 (fun w h => HS.nd_cell hlst h aPk 1 rfl (by decide))) (by kernel_rfl) (by kernel_rfl) (by kernel_rfl) rfl ?_
   refine dP 9 ?_
   refine dLd 10 [[]] ?_
   refine dP 11 ?_
   refine dFa 12 ?_
   refine dFa 13 ?_
   refine dLd 14 [[]] ?_
   refine dP 15 ?_
   refine d_p 16 rfl (p_indexAddr rfl rfl rfl sl_22 (leaf) (by omega) (by omega) rfl) (by kernel_rfl) rfl rfl ?_
   refine d_slot (show _ = Value.pointer (some ⟨gn, leaf * 3, none⟩) from by rw [Nat.zero_add]) ?_
   refine dFa 17 ?_
   refine d_q 18 [[]] rfl (q_load_at rfl rfl sz_77 (fun w h => HS.nd_cell hlf h aPk 1 rfl (by decide))) (by kernel_rfl) (by kernel_rfl) (by kernel_rfl) rfl ?_
   refine dP 19 ?_
   refine d_p 20 rfl (p_indexAddr rfl rfl rfl sl_77 (((nth L leaf).es.length - 1)) (by omega) (by omega) hgf) (by kernel_rfl) rfl rfl ?_
   refine d_q 21 [[]] rfl (q_load_atn _ rfl rfl sz_26 rfl (fun w h => HS.es_rdB hlf hni (k := ((nth L leaf).es.length - 1)) (by omega) hgf h aPk)) (by kernel_rfl) (by kernel_rfl) (by kernel_rfl) rfl ?_
   refine d_p 22 rfl (p_indexAddr rfl rfl rfl sl_77 (k) (by omega) (by omega) hge) (by kernel_rfl) rfl rfl ?_
   refine d_slot (show _ = Value.pointer (some ⟨ge9, k * 2, none⟩) from by rw [Nat.zero_add]) ?_
   refine dSt 23 ?_ (hl := (by rw [flat_length ev2]; show _ + 2 ≤ _; omega))
   refine dTu [] ?_
   refine dNi ?_
   refine s_weaken (L' := [(1, _), (2, _), (3, _), (6, _), (7, _), (8, _), (9, _), (31, _), (32, _), (33, _), (34, _), (35, _), (36, _), (37, _), (38, _), (39, _)]) aSx (fun _ h => h) ?_
   iterate 2 refine aS ?_
   refine o_ex (fun w h => HS.es_upd (gn := gn) (cap := cap) (g := ge9) (k := k) (x := nth (nth L leaf).es ((nth L leaf).es.length - 1)) hlst hatk hge h aPk aPk aPk hrE) fun L1 => ?_
   refine o_fact (fun w h => h.1) fun hS1 => ?_
   refine o_class (fun w h => h.2) ?_
   iterate 4 refine aS ?_
   exact s_joinI ((la, lc), L1) ⟨by rw [hS1.es]; exact (rem1_1 hNI hNQ hcz).symm, hS1.len⟩ (by dsimp only; rw [← hle, hK2, he2]; exact aSx) (fun w h => by dsimp only; rw [he2, hS1.len]; exact h.ent aEt)
  try simp only [decide_eq_false_iff_not] at h2
  have hcz : (nth L (lastN P)).cs.length = 0 := by have hq := h2; omega
  have hQe : (remQ (pln L) P k) = P := by unfold remQ; rw [hNI]; exact if_pos hcz
  refine aS ?_
  exact s_joinI ((pa, pc), L) ⟨(rem1_0 hNI hcz).symm, rfl⟩ (by dsimp only; rw [remK_0 hNI hcz, hQe]; exact aSx) (fun w h => by dsimp only; rw [hQe]; exact h.ent aEt)
 intro ⟨⟨qa, qc⟩, LA⟩ hx
 dsimp only
 obtain ⟨hA, hAl⟩ := hx
 simp only [] at hA hAl
 have hlq : (lastN (remQ (pln L) P k)) < LA.length := by omega
 rw [← hA, pln_nth hlq] at hdl
 simp only [LNd.pl] at hdl
 have hsA := hok.sm1 (lastN (remQ (pln L) P k))
 rw [← hA, pln_nth hlq] at hsA
 simp only [LNd.pl] at hsA
 refine aS ?_
 refine s_class (fun w h => HS.es_take hlq h aPk) ?_
 refine s_drawB [.blk bt 112 6 (tbV (j : Int) mo rm (some ⟨gn, 0, none⟩) LA.length cap), .blk gn 102 (cap * 3) (LA.flatMap LNd.vals), .blk b1 103 1 [.pointer (some ⟨bt, 0, none⟩)]] [21] mixed ?_
 refine dLd 0 [[]] ?_
 refine dP 1 ?_
 refine dFa 2 ?_
 refine dFa 3 ?_
 refine dLd 4 [[]] ?_
 refine dP 5 ?_
 refine dLd 6 [[]] ?_
 refine dP 7 ?_
 refine dFa 8 ?_
 refine dFa 9 ?_
 refine dLd 10 [[]] ?_
 refine dP 11 ?_
 refine d_p 12 rfl (p_indexAddr rfl rfl rfl sl_22 ((lastN (remQ (pln L) P k))) (by omega) (by omega) rfl) (by kernel_rfl) rfl rfl ?_
 refine d_slot (show _ = Value.pointer (some ⟨gn, (lastN (remQ (pln L) P k)) * 3, none⟩) from by rw [Nat.zero_add]) ?_
 refine dFa 13 ?_
 refine d_q 14 [[]] rfl (q_load_at rfl rfl sz_77 (fun w h => HS.nd_cell hlq h aPk 1 rfl (by decide))) (by kernel_rfl) (by kernel_rfl) (by kernel_rfl) rfl ?_
 refine dP 15 ?_
 refine dP 16 ?_
 refine dP 17 ?_
 try refine dWr ?_
 refine d_h 18 rfl (h_callF (Cs := [.own (.slice ((nth LA (lastN (remQ (pln L) P k)))).ea ((nth LA (lastN (remQ (pln L) P k)))).es.length ((nth LA (lastN (remQ (pln L) P k)))).ec) 26 2 ((nth LA (lastN (remQ (pln L) P k)))).es.length (((nth LA (lastN (remQ (pln L) P k)))).es.flatMap TEnt.vals)]) rfl fn_103 rfl aPs (fun w1 h1 hf9 => c103e w1 (nth LA (lastN (remQ (pln L) P k))).ea (remK (pln L) P k) (nth LA (lastN (remQ (pln L) P k))).ec (nth LA (lastN (remQ (pln L) P k))).es hf9 (by omega) hdl)) (by kernel_rfl) (fun w h => h.ent aEt) rfl (fun _ _ => ?_)
 refine d_p 19 rfl (p_indexAddr rfl rfl rfl sl_22 ((lastN (remQ (pln L) P k))) (by omega) (by omega) rfl) (by kernel_rfl) rfl rfl ?_
 refine d_slot (show _ = Value.pointer (some ⟨gn, (lastN (remQ (pln L) P k)) * 3, none⟩) from by rw [Nat.zero_add]) ?_
 refine dFa 20 ?_
 refine dSt 21 ?_ (hl := (by rw [flat_length nv3]; show _ + 1 ≤ _; omega))
 refine dTu [] ?_
 refine dNi ?_
 iterate 4 refine aS ?_
 refine o_ex (fun w h => HS.es_setB (gn := gn) (cap := cap) (ea := (nth LA (lastN (remQ (pln L) P k))).ea) (ec := (nth LA (lastN (remQ (pln L) P k))).ec) (es := others (nth LA (lastN (remQ (pln L) P k))).es (remK (pln L) P k)) hlq h aPk aPk aPk) fun L2 => ?_
 refine o_fact (fun w h => h.1) fun hS2 => ?_
 refine o_class (fun w h => h.2) ?_
 have hL2 : pln L2 = (rem2 (pln L) P k) := by rw [hS2.es, hA, rem2, ← hA, pln_nth hlq]; rfl
 have hl2 : L2.length = L.length := by rw [hS2.len, hAl]
 refine o_class (C' := HS w (fps [.blk bt 112 6 (tbV (j : Int) mo rm (some ⟨gn, 0, none⟩) (L).length cap), .blk gn 102 (cap * 3) ((L).flatMap LNd.vals), .star ((L).map (subN 26)), .kids pa pc (iN P)]) [.blk bt 112 6 (tbV (j : Int) mo rm (some ⟨gn, 0, none⟩) (L2).length cap), .blk gn 102 (cap * 3) ((L2).flatMap LNd.vals), .star ((L2).map (subN 26)), .own (.slice qa ((remQ (pln L) P k)).length qc) 3 1 ((remQ (pln L) P k)).length (((remQ (pln L) P k)).map fun i : Nat => Value.int .i64 (i : Int)), .blk b1 103 1 [.pointer (some ⟨bt, 0, none⟩)]]) (fun w2 h => by rw [hl2, ← hAl]; exact h.ent aEt) ?_
 refine o_h (h_call rfl fn_104 rfl (fun w1 h1 => c104 w1 qa (remQ (pln L) P k).length qc)) rfl (fun b8 _ => ?_)
 iterate 2 refine aS ?_
 refine s_range (G := (Nat × Nat) × List LNd) (Bs := fun g => [.blk bt 112 6 (tbV (j : Int) mo rm (some ⟨g.1.1, 0, none⟩) (g.2).length g.1.2), .blk g.1.1 102 (g.1.2 * 3) ((g.2).flatMap LNd.vals), .star ((g.2).map (subN 26)), .blk b1 103 1 [.pointer (some ⟨bt, 0, none⟩)], .blk b8 30 1 [.slice qa (remQ (pln L) P k).length qc], .own (.slice qa ((remQ (pln L) P k)).length qc) 3 1 ((remQ (pln L) P k)).length (((remQ (pln L) P k)).map fun i : Nat => Value.int .i64 (i : Int)), .pure (pln (g.2) = filW mo (rem2 (pln L) P k) ((remQ (pln L) P k).reverse.take (remQ (pln L) P k).length) ∧ FilsOk mo (pln (g.2)) ((remQ (pln L) P k).reverse.drop (remQ (pln L) P k).length) ∧ (g.2).length ≤ g.1.2 ∧ g.1.2 ≤ maxLen)]) rfl rfl rfl fn_140 (fun fid D l a9 w1 ob hob ha9 hw1 => ?_) (fun D x => ?_)
 ·skip
  refine (c140 w1 w (fps [.blk bt 112 6 (tbV (j : Int) mo rm (some ⟨gn, 0, none⟩) (L).length cap), .blk gn 102 (cap * 3) ((L).flatMap LNd.vals), .star ((L).map (subN 26)), .kids pa pc (iN P)]) (fun kk g => .obj l ob :: .obj D (.deferred (some [])) :: [.blk bt 112 6 (tbV (j : Int) mo rm (some ⟨g.1.1, 0, none⟩) (g.2).length g.1.2), .blk g.1.1 102 (g.1.2 * 3) ((g.2).flatMap LNd.vals), .star ((g.2).map (subN 26)), .blk b1 103 1 [.pointer (some ⟨bt, 0, none⟩)], .blk b8 30 1 [.slice qa (remQ (pln L) P k).length qc], .own (.slice qa ((remQ (pln L) P k)).length qc) 3 1 ((remQ (pln L) P k)).length (((remQ (pln L) P k)).map fun i : Nat => Value.int .i64 (i : Int)), .pure (pln (g.2) = filW mo (rem2 (pln L) P k) ((remQ (pln L) P k).reverse.take kk) ∧ FilsOk mo (pln (g.2)) ((remQ (pln L) P k).reverse.drop kk) ∧ (g.2).length ≤ g.1.2 ∧ g.1.2 ≤ maxLen)]) ((gn, cap), L2) l b8 (remQ (pln L) P k) qa qc (by omega) ?_ ?_ (fun kk g w2 hk h2 => ?_)).mono fun e w2 hx => ?_
  ·exact (HS.add_pure (p := pln L2 = filW mo (rem2 (pln L) P k) ((remQ (pln L) P k).reverse.take 0) ∧ FilsOk mo (pln L2) ((remQ (pln L) P k).reverse.drop 0) ∧ L2.length ≤ cap ∧ cap ≤ maxLen) ⟨hL2, by rw [hL2]; exact hok.fil, by omega, hcm⟩ hw1).ent aEt
  ·exact fun k9 g w2 h2 => ⟨h2.rd_blk (i := 0) aPk rfl (by simp), HS.pown_row (P := (remQ (pln L) P k)) (a := qa) (c := qc) h2 aPk⟩
  rotate_left
  ·exact hx
  subst hob
  obtain ⟨⟨ga, gc⟩, Lg⟩ := g
  dsimp only at h2
  obtain ⟨hg1, hg2, hg3, hg4⟩ := h2.get_pure aPk
  rw [rev_drop hk] at hg2
  obtain ⟨⟨hgi, hsp⟩, hnx⟩ := hg2
  have hst : filW mo (rem2 (pln L) P k) ((remQ (pln L) P k).reverse.take (kk + 1)) = fil1 mo (pln Lg) (nth (remQ (pln L) P k) ((remQ (pln L) P k).length - 1 - kk)) := by rw [rev_take hk, filW_snoc, ← hg1]
  rw [pln_len] at hgi
  rw [pln_nth hgi] at hsp
  simp only [LNd.pl] at hsp
  refine y_round (fn := Tryz.f69) (As1 := .obj D (.deferred (some [])) :: [.blk bt 112 6 (tbV (j : Int) mo rm (some ⟨ga, 0, none⟩) (Lg).length gc), .blk ga 102 (gc * 3) ((Lg).flatMap LNd.vals), .star ((Lg).map (subN 26)), .blk b1 103 1 [.pointer (some ⟨bt, 0, none⟩)], .blk b8 30 1 [.slice qa (remQ (pln L) P k).length qc], .own (.slice qa ((remQ (pln L) P k)).length qc) 3 1 ((remQ (pln L) P k)).length (((remQ (pln L) P k)).map fun i : Nat => Value.int .i64 (i : Int)), .pure (pln (Lg) = filW mo (rem2 (pln L) P k) ((remQ (pln L) P k).reverse.take kk) ∧ FilsOk mo (pln (Lg)) ((remQ (pln L) P k).reverse.drop kk) ∧ (Lg).length ≤ gc ∧ gc ≤ maxLen)]) (L1 := [(11, .int .i64 (((nth (remQ (pln L) P k) ((remQ (pln L) P k).length - 1 - kk)) : Nat) : Int)), (3, .pointer (some ⟨b1, 0, none⟩))]) h2 rfl (FR.round2 ha9 136 137 _ _ rfl rfl) ?_ ?_
  ·skip
   iterate 3 refine aS ?_
   exact s_join () aSx (fun w h => h.ent aEt)
  skip
  iterate 2 refine aS ?_
  refine s_cutS (α := Bool) [138, 139, 140, 141, 142, 143, 144, 145, 146, 147, 148, 149, 150, 151, 152, 153, 154] (fun x => [(154, .bool x)]) (fun x => x = true ↔ (0 < (nth (remQ (pln L) P k) ((remQ (pln L) P k).length - 1 - kk)) ∧ ((nth Lg (nth (remQ (pln L) P k) ((remQ (pln L) P k).length - 1 - kk))).es.length : Int) < mo / 2)) ?_ ?_
  ·skip
   refine s_draw [] mixed ?_
   refine dP 0 ?_
   refine dP 1 ?_
   refine dP 2 ?_
   apply d_split 140
   ·exact rfl
   ·intro hg9
    have hs10 := hg9; try simp only [decide_eq_true_eq] at hs10
    refine d_qon 3 140 [] rfl rfl rfl hg9 (q_load rfl rfl sz_103 aPk rfl) (by kernel_rfl) (by kernel_rfl) (by kernel_rfl) rfl ?_
    refine dPo 4 140 hg9 ?_
    refine dFo 5 140 hg9 ?_
    refine dFo 6 140 hg9 ?_
    refine d_qon 7 140 [] rfl rfl rfl hg9 (q_load rfl rfl sz_22 aPk rfl) (by kernel_rfl) (by kernel_rfl) (by kernel_rfl) rfl ?_
    refine dPo 8 140 hg9 ?_
    refine d_pon 9 140 rfl rfl rfl hg9 (p_indexAddr rfl rfl rfl sl_22 ((nth (remQ (pln L) P k) ((remQ (pln L) P k).length - 1 - kk))) (by omega) (by omega) rfl) (by kernel_rfl) rfl rfl ?_
    refine d_slot (show _ = Value.pointer (some ⟨ga, (nth (remQ (pln L) P k) ((remQ (pln L) P k).length - 1 - kk)) * 3, none⟩) from by rw [Nat.zero_add]) ?_
    refine dFo 10 140 hg9 ?_
    refine d_qon 11 140 [] rfl rfl rfl hg9 (q_load_at rfl rfl sz_77 (fun w h => HS.nd_cell hgi h aPk 1 rfl (by decide))) (by kernel_rfl) (by kernel_rfl) (by kernel_rfl) rfl ?_
    refine d_pon 12 140 rfl rfl rfl hg9 (p_len_slice rfl rfl Tryz.underlying77) (by kernel_rfl) rfl rfl ?_
    refine d_qon 13 140 [] rfl rfl rfl hg9 (q_load rfl rfl sz_103 aPk rfl) (by kernel_rfl) (by kernel_rfl) (by kernel_rfl) rfl ?_
    refine d_qon 14 140 [] rfl rfl rfl hg9 (q_call rfl fn_105 rfl (fun w1 h1 => c105 w1 bt j mo rm (some ⟨ga, 0, none⟩) Lg.length gc hmo (HS.tbr h1 aPk))) (by kernel_rfl) (by kernel_rfl) (by kernel_rfl) rfl ?_
    refine dPo 15 140 hg9 ?_
    refine d_p 16 rfl (p_pickt rfl rfl hg9 rfl) (by kernel_rfl) rfl rfl ?_
    refine dNi ?_
    exact s_joinI (decide (((nth Lg (nth (remQ (pln L) P k) ((remQ (pln L) P k).length - 1 - kk))).es.length : Int) < mo / 2)) (by rw [decide_eq_true_eq]; omega) aSx (fun w h => h.ent aEt)
   intro hg11
   have hs12 := hg11; try simp only [decide_eq_false_iff_not] at hs12
   refine dOf 3 140 hg11 ?_
   refine dOf 4 140 hg11 ?_
   refine dOf 5 140 hg11 ?_
   refine dOf 6 140 hg11 ?_
   refine dOf 7 140 hg11 ?_
   refine dOf 8 140 hg11 ?_
   refine dOf 9 140 hg11 ?_
   refine dOf 10 140 hg11 ?_
   refine dOf 11 140 hg11 ?_
   refine dOf 12 140 hg11 ?_
   refine dOf 13 140 hg11 ?_
   refine dOf 14 140 hg11 ?_
   refine dOf 15 140 hg11 ?_
   refine d_p 16 rfl (p_pickf rfl rfl hg11 rfl) (by kernel_rfl) rfl rfl ?_
   refine dNi ?_
   exact s_joinI false (by constructor <;> intro h9 <;> first | (cases h9; done) | omega) aSx (fun w h => h.ent aEt)
  intro x hx
  refine s_cond rfl (fun h13 => ?_) fun h13 => ?_
  ·skip
   obtain ⟨hpos, hbig⟩ := hx.1 (by assumption)
   iterate 3 refine aS ?_
   refine o_h (h_callF (Cs := [.blk bt 112 6 (tbV (j : Int) mo rm (some ⟨ga, 0, none⟩) (Lg).length gc), .blk ga 102 (gc * 3) ((Lg).flatMap LNd.vals), .star ((Lg).map (subN 26))]) rfl fn_106 rfl aPs (fun w1 h1 hf => c106 w1 bt j mo rm ga gc Lg (nth (remQ (pln L) P k) ((remQ (pln L) P k).length - 1 - kk)) (parN (((nth (remQ (pln L) P k) ((remQ (pln L) P k).length - 1 - kk)) : Nat) : Int) (pln Lg) 0).1 (parN (((nth (remQ (pln L) P k) ((remQ (pln L) P k).length - 1 - kk)) : Nat) : Int) (pln Lg) 0).2 hf hg3 hg4 rfl (hsp hpos hbig))) rfl (fun ⟨⟨g5, c5⟩, L5⟩ hF5 => ?_)
   iterate 2 refine aS ?_
   exact s_end_rd rfl aPk (fun w h => ⟨((g5, c5), L5), rfl, trivial, by exact (HS.add_pure (p := pln L5 = filW mo (rem2 (pln L) P k) ((remQ (pln L) P k).reverse.take (kk + 1)) ∧ FilsOk mo (pln L5) ((remQ (pln L) P k).reverse.drop (kk + 1)) ∧ L5.length ≤ c5 ∧ c5 ≤ maxLen) ⟨by rw [hst, fil1, if_pos ⟨hpos, by rw [pln_nth hgi]; exact hbig⟩]; exact hF5.1, by have h9 := hnx; rw [fil1, if_pos ⟨hpos, by rw [pln_nth hgi]; exact hbig⟩] at h9; rw [hF5.1]; exact h9, hF5.2.1, hF5.2.2⟩ h).ent aEt⟩)
  skip
  have hno : ¬ (0 < (nth (remQ (pln L) P k) ((remQ (pln L) P k).length - 1 - kk)) ∧ ((nth Lg (nth (remQ (pln L) P k) ((remQ (pln L) P k).length - 1 - kk))).es.length : Int) < mo / 2) := fun h9 => by have h8 := hx.2 h9; simp_all
  iterate 2 refine aS ?_
  exact s_end_rd rfl aPk (fun w h => ⟨((ga, gc), Lg), rfl, trivial, by exact (HS.add_pure (p := pln Lg = filW mo (rem2 (pln L) P k) ((remQ (pln L) P k).reverse.take (kk + 1)) ∧ FilsOk mo (pln Lg) ((remQ (pln L) P k).reverse.drop (kk + 1)) ∧ Lg.length ≤ gc ∧ gc ≤ maxLen) ⟨by rw [hst, fil1, if_neg (by rw [pln_nth hgi]; exact hno)], by have h9 := hnx; rw [fil1, if_neg (by rw [pln_nth hgi]; exact hno)] at h9; exact h9, hg3, hg4⟩ h).ent aEt⟩)
 skip
 obtain ⟨⟨ga, gc⟩, LG⟩ := x
 dsimp only
 refine s_fact (fun w h => h.get_pure aPk) fun hpu => ?_
 obtain ⟨hLG, _, hg3, hg4⟩ := hpu
 rw [show (remQ (pln L) P k).length = (remQ (pln L) P k).reverse.length from (List.length_reverse ..).symm, List.take_length] at hLG
 have hrot := hok.rot
 rw [← hLG] at hrot
 have hiG : 0 < LG.length := by rw [← pln_len]; exact hrot.lt
 have hlG := hrot.len
 rw [pln_len] at hlG
 have hNG := pln_nth hiG
 have hrk := hrot.kid
 rw [hNG] at hrk
 simp only [LNd.pl] at hrk
 iterate 9 refine aS ?_
 refine o_p (p_indexAddr rfl rfl rfl sl_22 (0) (by omega) (by omega) rfl) rfl ?_
 refine o_slot (show _ = Value.pointer (some ⟨ga, 0 * 3, none⟩) from by rw [Nat.zero_add]) ?_
 refine o_q (q_load_atn _ rfl rfl sz_102 rfl (fun w h => HS.nd_cells hiG h aPk)) rfl ?_
 refine oAl (fun b14 _ => ?_) zr_102
 refine oSt ?_
 iterate 2 refine aS ?_
 refine s_weaken (L' := [(3, _), (12, _)]) aSx (fun _ h => h) ?_
 iterate 6 refine aS ?_
 refine o_and 5 169 174 _ _ rfl
  (by
   intro hg15
   have hs16 := hg15; try simp only [decide_eq_true_eq] at hs16
   refine oOn 169 hg15 ?_
   refine aS ?_
   refine oOn 169 hg15 ?_
   refine aS ?_
   refine oOn 169 hg15 ?_
   refine aS ?_
   refine oOn 169 hg15 ?_
   refine aS ?_
   refine o_p (p_pickt rfl rfl hg15 rfl) rfl ?_
   refine aS ?_
   exact oJn 5 174)
  (by
   intro hg17
   have hs18 := hg17; try simp only [decide_eq_false_iff_not] at hs18
   refine oOf 169 hg17 ?_
   refine oOf 169 hg17 ?_
   refine oOf 169 hg17 ?_
   refine oOf 169 hg17 ?_
   refine o_p (p_pickf rfl rfl hg17 rfl) rfl ?_
   refine aS ?_
   exact oJn 5 174) ?_
 refine aS ?_
 refine s_cutI (α := List LNd) [13, 175, 176, 177, 178, 179, 180, 181, 182, 183, 184, 185, 186, 187, 188, 189, 190, 191, 192, 193, 194, 195, 196, 197, 198, 199, 200, 201, 202, 203, 204, 205, 206, 207, 208, 209, 210, 211, 212, 213, 214, 215, 216] (fun _ => []) (fun x => HS w (fps [.blk bt 112 6 (tbV (j : Int) mo rm (some ⟨gn, 0, none⟩) (L).length cap), .blk gn 102 (cap * 3) ((L).flatMap LNd.vals), .star ((L).map (subN 26)), .kids pa pc (iN P)]) [.obj D (.deferred (some [])), .blk bt 112 6 (tbV (j : Int) mo rm (some ⟨ga, 0, none⟩) (x).length gc), .blk ga 102 (gc * 3) ((x).flatMap LNd.vals), .star ((x).map (subN 26)), .blk b1 103 1 [.pointer (some ⟨bt, 0, none⟩)]]) (fun x => pln x = rotN rm (pln LG) ∧ x.length = LG.length) ?_ ?_
 ·skip
  refine s_cond rfl (fun h19 => ?_) fun h19 => ?_
  ·try simp only [Bool.and_eq_true, decide_eq_true_eq] at h19
   have hc9 := h19
   have hrt : (nth LG 0).es.length = 0 ∧ (nth LG 0).cs.length = 1 := by omega
   obtain ⟨hk1, hck, hku⟩ := hrk hrt.2
   rw [pln_len] at hck
   refine s_fact (fun w h => HS.cs_some hiG (by omega) h aPk) fun hgr => ?_
   obtain ⟨gr9, hgr⟩ := hgr
   iterate 4 refine aS ?_
   refine o_p (p_indexAddr rfl rfl rfl sl_30 (0) (by omega) (by omega) hgr) rfl ?_
   refine o_q (q_load_at rfl rfl sz_3 (fun w h => HS.cs_rd hiG (k := 0) (by omega) hgr h aPk)) rfl ?_
   refine o_slot (show _ = Value.int .i64 ((kdN (pln LG) 0 0) : Int) from congrArg (Value.int .i64) (kd_eq hNG (Int.le_of_lt hk1))) ?_
   iterate 3 refine aS ?_
   refine s_draw [] mixed ?_
   refine dLd 0 [] ?_
   refine dP 1 ?_
   refine dFa 2 ?_
   refine dFa 3 ?_
   refine dLd 4 [] ?_
   refine dP 5 ?_
   refine d_p 6 rfl (p_indexAddr rfl rfl rfl sl_22 ((kdN (pln LG) 0 0)) (by omega) (by omega) rfl) (by kernel_rfl) rfl rfl ?_
   refine d_slot (show _ = Value.pointer (some ⟨ga, (kdN (pln LG) 0 0) * 3, none⟩) from by rw [Nat.zero_add]) ?_
   refine dFa 7 ?_
   refine d_q 8 [] rfl (q_load_at rfl rfl sz_77 (fun w h => HS.nd_cell hck h aPk 1 rfl (by decide))) (by kernel_rfl) (by kernel_rfl) (by kernel_rfl) rfl ?_
   refine d_p 9 rfl (p_len_slice rfl rfl Tryz.underlying77) (by kernel_rfl) rfl rfl ?_
   refine dLd 10 [] ?_
   refine dP 11 ?_
   refine dFa 12 ?_
   refine dFa 13 ?_
   refine dLd 14 [] ?_
   refine dP 15 ?_
   refine dNi ?_
   refine s_cond rfl (fun h20 => ?_) fun h20 => ?_
   ·try simp only [decide_eq_true_eq] at h20
    have hcl : ((nth LG (kdN (pln LG) 0 0)).es.length : Int) ≤ rm := h20
    refine s_draw [21, 23] mixed ?_
    refine dLd 0 [[], []] ?_
    refine dP 1 ?_
    refine dFa 2 ?_
    refine dFa 3 ?_
    refine dLd 4 [[], []] ?_
    refine dLd 5 [[9, 8, 7, 6], []] ?_
    refine dP 6 ?_
    refine dFa 7 ?_
    refine dFa 8 ?_
    refine dLd 9 [[], []] ?_
    refine dP 10 ?_
    refine dLd 11 [[], []] ?_
    refine dP 12 ?_
    refine dFa 13 ?_
    refine dFa 14 ?_
    refine dLd 15 [[], []] ?_
    refine dP 16 ?_
    refine d_p 17 rfl (p_indexAddr rfl rfl rfl sl_22 ((kdN (pln LG) 0 0)) (by omega) (by omega) rfl) (by kernel_rfl) rfl rfl ?_
    refine d_slot (show _ = Value.pointer (some ⟨ga, (kdN (pln LG) 0 0) * 3, none⟩) from by rw [Nat.zero_add]) ?_
    refine d_q 18 [[], []] rfl (q_load_atn _ rfl rfl sz_102 rfl (fun w h => HS.nd_cells hck h aPk)) (by kernel_rfl) (by kernel_rfl) (by kernel_rfl) rfl ?_
    refine d_p 19 rfl (p_build (cs := [_, _, _]) rfl rfl pl_102 zr_102 rfl) (by kernel_rfl) rfl rfl ?_
    refine d_p 20 rfl (p_indexAddr rfl rfl rfl sl_22 (0) (by omega) (by omega) rfl) (by kernel_rfl) rfl rfl ?_
    refine d_slot (show _ = Value.pointer (some ⟨ga, 0 * 3, none⟩) from by rw [Nat.zero_add]) ?_
    refine dSt 21 ?_ (hl := (by rw [flat_length nv3]; show _ + 3 ≤ _; omega))
    refine dTu [23] ?_
    refine d_p 22 rfl (p_indexAddr rfl rfl rfl sl_22 ((kdN (pln LG) 0 0)) (by omega) (by omega) rfl) (by kernel_rfl) rfl rfl ?_
    refine d_slot (show _ = Value.pointer (some ⟨ga, (kdN (pln LG) 0 0) * 3, none⟩) from by rw [Nat.zero_add]) ?_
    refine d_h0 23 rfl (h_store rfl rfl rfl sz_102 rfl aPt (by rw [setMany_length, flat_length nv3]; show _ + 3 ≤ _; omega) rfl) (by kernel_rfl) (fun w h => h.ent aEt) (fun _ _ => ?_)
    refine dTu [] ?_
    refine dNi ?_
    refine s_ex (fun w h => HS.node_rot (i := (kdN (pln LG) 0 0)) (j := 0) (gn := ga) (cap := gc) hck hiG (by have := kd_eq hNG (Int.le_of_lt hk1); simp only [LNd.pl] at this; omega) h aPk aPk) fun L8 => ?_
    refine s_fact (fun w h => h.1) fun hS8 => ?_
    refine s_class (fun w h => h.2) ?_
    exact s_joinI L8 ⟨by rw [hS8.1]; exact (rotN_1 hNG hrt (pln_nth hck) hcl).symm, hS8.2⟩ aSx (fun w h => by rw [hS8.2]; exact h.ent aEt)
   try simp only [decide_eq_false_iff_not] at h20
   have hcl : ¬ ((nth LG (kdN (pln LG) 0 0)).es.length : Int) ≤ rm := by have hq := h20; omega
   refine aS ?_
   exact s_joinI LG ⟨(rotN_2 hNG hrt (pln_nth hck) hcl).symm, rfl⟩ aSx (fun w h => h.ent aEt)
  try simp only [Bool.and_eq_false_iff, decide_eq_false_iff_not] at h19
  have hc9 := h19
  have hrt : ¬ ((nth LG 0).es.length = 0 ∧ (nth LG 0).cs.length = 1) := by omega
  refine aS ?_
  exact s_joinI LG ⟨(rotN_3 hNG hrt).symm, rfl⟩ aSx (fun w h => h.ent aEt)
 intro LR hx
 obtain ⟨hR, hRl⟩ := hx
 have hRu : (nth (pln LR) 0).us = true := by rw [hR]; exact rot_us hrot
 iterate 2 refine aS ?_
 refine o_h (h_callF (Cs := [.blk bt 112 6 (tbV (j : Int) mo rm (some ⟨ga, 0, none⟩) (LR).length gc), .blk ga 102 (gc * 3) ((LR).flatMap LNd.vals), .star ((LR).map (subN 26))]) rfl fn_107 rfl aPs (fun w1 h1 hf => c107 w1 bt j mo rm ga gc LR hf (by omega) hg4 (by omega) (by omega) hRu)) rfl (fun ⟨⟨g7, c7⟩, L7⟩ hF7 => ?_)
 refine aS ?_
 exact s_endm rfl aPk (fun w' h' => ⟨((g7, c7), L7), rfl, ⟨by rw [hF7.1, hR, hLG]; rfl, hF7.2.1, hF7.2.2⟩, h'.ent aEt⟩)
end Go.Proofs
namespace Gx
set_option linter.unusedSimpArgs false
set_option linter.unusedVariables false
set_option linter.unusedSectionVars false
open Go Go.RowKit
theorem list_ext_nth {α : Type} [Inhabited α] {l m : List α} (hl : l.length = m.length) (h : ∀ j, j < l.length → nth l j = nth m j) : l = m := by
  apply List.ext_getElem?
  intro j
  rcases Nat.lt_or_ge j l.length with hj | hj
  · rw [nth_get hj, nth_get (by omega), h j hj]
  · rw [List.getElem?_eq_none hj, List.getElem?_eq_none (by omega)]
def chgK (a b : List Nd) (k : Nat) : List Nat := (List.range k).filter fun i => decide (nth a i ≠ nth b i)
def chgN (a b : List Nd) : List Nat := chgK a b (max a.length b.length)
theorem chgK_eq {a b : List Nd} {k : Nat} (h : nth a k = nth b k) : chgK a b (k + 1) = chgK a b k := by
  unfold chgK
  rw [List.range_succ, List.filter_append]
  simp [h]
theorem chgK_ne {a b : List Nd} {k : Nat} (h : nth a k ≠ nth b k) : chgK a b (k + 1) = chgK a b k ++ [k] := by
  unfold chgK
  rw [List.range_succ, List.filter_append]
  simp [h]
theorem chgK_len (a b : List Nd) (k : Nat) : (chgK a b k).length ≤ k := by
  have := List.length_filter_le (fun i => decide (nth a i ≠ nth b i)) (List.range k)
  rw [List.length_range] at this
  exact this
theorem ent_ext {x y : TEnt} (h1 : (bs x.key).data.toList = (bs y.key).data.toList) (h2 : (bs x.val).data.toList = (bs y.val).data.toList) : x = y := by
  cases x
  cases y
  simp [bs] at h1 h2
  rw [h1, h2]
theorem pln_nth' (L : List LNd) (k : Nat) : nth (pln L) k = (nth L k).pl := by
  rcases Nat.lt_or_ge k L.length with h | h
  · exact pln_nth h
  · rw [nth_out (by rw [pln_len]; exact h), nth_out h]
    rfl
theorem Rw.nilR {α : Type} [Inhabited α] {vals : α → List Value} {sz : Nat} {w : World} {M : List Nat} {a : Option Addr} : Rw vals sz w M a ([] : List α) := ⟨fun h => absurd h (Nat.lt_irrefl _)⟩
theorem Nt.esA {w : World} {M : List Nat} {a : Option Addr} {L : List LNd} (h : Nt w M a L) (k : Nat) : Rw TEnt.vals 2 w M (nth L k).ea (nth L k).es := by
  rcases Nat.lt_or_ge k L.length with hk | hk
  · exact h.es hk
  · rw [nth_out hk]
    exact Rw.nilR
theorem Nt.csA {w : World} {M : List Nat} {a : Option Addr} {L : List LNd} (h : Nt w M a L) (k : Nat) : Rw inV 1 w M (nth L k).ca (nth L k).cs := by
  rcases Nat.lt_or_ge k L.length with hk | hk
  · exact h.cs hk
  · rw [nth_out hk]
    exact Rw.nilR
theorem nd_eq (n m : Nd) : decide (n = m) = (decide (n.us = m.us) && (decide (n.es = m.es) && decide (n.cs = m.cs))) := by
  cases n
  cases m
  simp only [Nd.mk.injEq]
  rw [Bool.decide_and, Bool.decide_and]
theorem alike_eq (n m : LNd) : ((n.us == m.us && decide (n.es = m.es)) && decide (n.cs = m.cs)) = decide (n.pl = m.pl) := by
  rw [nd_eq, Bool.and_assoc]
  rfl
end Gx
namespace Go.Proofs
open Go Go.RowKit Gx
set_option linter.unusedVariables false
set_option linter.unusedSimpArgs false
attribute [local irreducible] Go.Calls Gx.S Gx.O Gx.D Gx.OpP Gx.OpQ Gx.OpH
set_option maxRecDepth 20000
theorem eqk_26 : teqk Tryz.prog 26 = some [1, 1] := by kernel_rfl
theorem fn_136 : isFn Tryz.prog 136 = true := by kernel_rfl
theorem fn_137 : isFn Tryz.prog 137 = true := by kernel_rfl
theorem fn_98 : isFn Tryz.prog 98 = true := by kernel_rfl
theorem fn_99 : isFn Tryz.prog 99 = true := by kernel_rfl
theorem c136 (w : World) (a b : Option Addr) (c d : Nat) (l m : List TEnt) (hs : Rw TEnt.vals 2 w [] a l) (ht : Rw TEnt.vals 2 w [] b m) (hl : l.length ≤ 100000) (hm : m.length ≤ 100000) : Calls Tryz.prog 136 #[.slice a l.length c, .slice b m.length d] w fun en w' => en = .returned (.bool (decide (l = m))) ∧ Below w.heap.size w w' := by
 refine enter (args := [_, _]) Tryz.func136 Tryz.ntmps136 rfl rfl (HS.refl w []) ?_
 iterate 13 refine aS ?_
 refine s_cond rfl (fun h1 => ?_) fun h1 => ?_
 ·try simp only [Bool.not_eq_true', decide_eq_false_iff_not] at h1
  have hn9 : l ≠ m := fun e => by have hq := h1; rw [e] at hq; simp at hq
  iterate 4 refine aS ?_
  exact s_retv (rs := [.tmp 4]) rfl (.tmp rfl (.nil)) (fun w' h' => ⟨by rw [decide_eq_false hn9]; rfl, h'.below⟩)
 try simp only [Bool.not_eq_false', decide_eq_true_eq] at h1
 have hlm : l.length = m.length := by have hq := h1; omega
 iterate 9 refine aS ?_
 refine s_loopI (α := Nat) [4, 5, 13, 14, 15, 16, 17, 18, 19, 20, 21, 22, 23, 24, 25] (fun k => [(13, .int .i64 (k : Int))]) (fun _ => HS w [] []) (fun k => k ≤ l.length ∧ ∀ j, j < k → nth l j = nth m j) (fun k => l.length - k) 0 ⟨Nat.zero_le _, fun j h => absurd h (Nat.not_lt_zero j)⟩ aSx (fun w h => h.ent aEt) (fun k hx => ?_)
 obtain ⟨hk1, hk3⟩ := hx
 iterate 5 refine aS ?_
 refine s_cond rfl (fun h2 => ?_) fun h2 => ?_
 ·try simp only [decide_eq_true_eq] at h2
  have hk : k < l.length := by omega
  have hk2 : k < m.length := by omega
  iterate 9 refine aS ?_
  refine s_draw [] mixed ?_
  refine dP 0 ?_
  refine dP 1 ?_
  refine d_p 2 rfl (p_indexAddr rfl rfl rfl sl_77 (k) (by omega) (by omega) (Rw.some hs (by omega))) (by kernel_rfl) rfl rfl ?_
  refine d_q 3 [] rfl (q_load_oldn _ rfl rfl sz_26 rfl (Rw.rd hs (by omega))) (by kernel_rfl) (by kernel_rfl) (by kernel_rfl) rfl ?_
  refine dP 4 ?_
  refine dP 5 ?_
  refine d_p 6 rfl (p_indexAddr rfl rfl rfl sl_77 (k) (by omega) (by omega) (Rw.some ht (by omega))) (by kernel_rfl) rfl rfl ?_
  refine d_q 7 [] rfl (q_load_oldn _ rfl rfl sz_26 rfl (Rw.rd ht (by omega))) (by kernel_rfl) (by kernel_rfl) (by kernel_rfl) rfl ?_
  refine d_p 8 rfl (p_neq_agg rfl rfl rfl eqk_26 (by rfl) (by rfl) (by rfl)) (by kernel_rfl) rfl rfl ?_
  refine dNi ?_
  refine s_cond rfl (fun h3 => ?_) fun h3 => ?_
  ·try simp only [Bool.not_eq_true', Bool.and_eq_false_iff, decide_eq_false_iff_not] at h3
   have hn9 : l ≠ m := fun e => by have hq := h3; rw [e] at hq; simp at hq
   iterate 4 refine aS ?_
   exact s_retv (rs := [.tmp 4]) rfl (.tmp rfl (.nil)) (fun w' h' => ⟨by rw [decide_eq_false hn9]; rfl, h'.below⟩)
  try simp only [Bool.not_eq_false', Bool.and_eq_true, decide_eq_true_eq] at h3
  have he9 : nth l k = nth m k := by have hq := h3; first | exact hq | exact ent_ext hq.1 hq.2.1
  iterate 4 refine aS ?_
  try refine oWr ?_
  iterate 2 refine aS ?_
  exact s_backI (k + 1) (by omega) ⟨by omega, fun j hj => (Nat.lt_or_ge j k).elim (hk3 j) (fun h9 => by obtain rfl : j = k := (by omega); exact he9)⟩ aSx (fun w h => h.ent aEt)
 try simp only [decide_eq_false_iff_not] at h2
 have hl9 : l = m := list_ext_nth hlm fun j hj => hk3 j (by omega)
 refine s_exit_to rfl ?_
 iterate 4 refine aS ?_
 exact s_retv (rs := [.tmp 4]) rfl (.tmp rfl (.nil)) (fun w' h' => ⟨by rw [decide_eq_true hl9]; rfl, h'.below⟩)
theorem c137 (w : World) (a b : Option Addr) (c d : Nat) (l m : List Int) (hs : Rw inV 1 w [] a l) (ht : Rw inV 1 w [] b m) (hl : l.length ≤ 100000) (hm : m.length ≤ 100000) : Calls Tryz.prog 137 #[.slice a l.length c, .slice b m.length d] w fun en w' => en = .returned (.bool (decide (l = m))) ∧ Below w.heap.size w w' := by
 refine enter (args := [_, _]) Tryz.func137 Tryz.ntmps137 rfl rfl (HS.refl w []) ?_
 iterate 13 refine aS ?_
 refine s_cond rfl (fun h1 => ?_) fun h1 => ?_
 ·try simp only [Bool.not_eq_true', decide_eq_false_iff_not] at h1
  have hn9 : l ≠ m := fun e => by have hq := h1; rw [e] at hq; simp at hq
  iterate 4 refine aS ?_
  exact s_retv (rs := [.tmp 4]) rfl (.tmp rfl (.nil)) (fun w' h' => ⟨by rw [decide_eq_false hn9]; rfl, h'.below⟩)
 try simp only [Bool.not_eq_false', decide_eq_true_eq] at h1
 have hlm : l.length = m.length := by have hq := h1; omega
 iterate 9 refine aS ?_
 refine s_loopI (α := Nat) [4, 5, 13, 14, 15, 16, 17, 18, 19, 20, 21, 22, 23, 24, 25] (fun k => [(13, .int .i64 (k : Int))]) (fun _ => HS w [] []) (fun k => k ≤ l.length ∧ ∀ j, j < k → nth l j = nth m j) (fun k => l.length - k) 0 ⟨Nat.zero_le _, fun j h => absurd h (Nat.not_lt_zero j)⟩ aSx (fun w h => h.ent aEt) (fun k hx => ?_)
 obtain ⟨hk1, hk3⟩ := hx
 iterate 5 refine aS ?_
 refine s_cond rfl (fun h2 => ?_) fun h2 => ?_
 ·try simp only [decide_eq_true_eq] at h2
  have hk : k < l.length := by omega
  have hk2 : k < m.length := by omega
  iterate 9 refine aS ?_
  refine s_draw [] mixed ?_
  refine dP 0 ?_
  refine dP 1 ?_
  refine d_p 2 rfl (p_indexAddr rfl rfl rfl sl_30 (k) (by omega) (by omega) (Rw.some hs (by omega))) (by kernel_rfl) rfl rfl ?_
  refine d_q 3 [] rfl (q_load_old rfl rfl sz_3 ((hs.rdj 0 (by omega) rfl))) (by kernel_rfl) (by kernel_rfl) (by kernel_rfl) rfl ?_
  refine dP 4 ?_
  refine dP 5 ?_
  refine d_p 6 rfl (p_indexAddr rfl rfl rfl sl_30 (k) (by omega) (by omega) (Rw.some ht (by omega))) (by kernel_rfl) rfl rfl ?_
  refine d_q 7 [] rfl (q_load_old rfl rfl sz_3 ((ht.rdj 0 (by omega) rfl))) (by kernel_rfl) (by kernel_rfl) (by kernel_rfl) rfl ?_
  refine dP 8 ?_
  refine dNi ?_
  refine s_cond rfl (fun h3 => ?_) fun h3 => ?_
  ·try simp only [Bool.not_eq_true', decide_eq_false_iff_not] at h3
   have hn9 : l ≠ m := fun e => by have hq := h3; rw [e] at hq; simp at hq
   iterate 4 refine aS ?_
   exact s_retv (rs := [.tmp 4]) rfl (.tmp rfl (.nil)) (fun w' h' => ⟨by rw [decide_eq_false hn9]; rfl, h'.below⟩)
  try simp only [Bool.not_eq_false', decide_eq_true_eq] at h3
  have he9 : nth l k = nth m k := by have hq := h3; first | exact hq | exact ent_ext hq.1 hq.2.1
  iterate 4 refine aS ?_
  try refine oWr ?_
  iterate 2 refine aS ?_
  exact s_backI (k + 1) (by omega) ⟨by omega, fun j hj => (Nat.lt_or_ge j k).elim (hk3 j) (fun h9 => by obtain rfl : j = k := (by omega); exact he9)⟩ aSx (fun w h => h.ent aEt)
 try simp only [decide_eq_false_iff_not] at h2
 have hl9 : l = m := list_ext_nth hlm fun j hj => hk3 j (by omega)
 refine s_exit_to rfl ?_
 iterate 4 refine aS ?_
 exact s_retv (rs := [.tmp 4]) rfl (.tmp rfl (.nil)) (fun w' h' => ⟨by rw [decide_eq_true hl9]; rfl, h'.below⟩)
theorem c99 (w : World) (n m : LNd) (hne : Rw TEnt.vals 2 w [] n.ea n.es) (hnc : Rw inV 1 w [] n.ca n.cs) (hme : Rw TEnt.vals 2 w [] m.ea m.es) (hmc : Rw inV 1 w [] m.ca m.cs) (h1 : n.es.length ≤ 100000 ∧ n.cs.length ≤ 100000) (h2 : m.es.length ≤ 100000 ∧ m.cs.length ≤ 100000) : Calls Tryz.prog 99 #[.agg #[.bool n.us, .slice n.ea n.es.length n.ec, .slice n.ca n.cs.length n.cc], .agg #[.bool m.us, .slice m.ea m.es.length m.ec, .slice m.ca m.cs.length m.cc]] w fun en w' => en = .returned (.bool (decide (n.pl = m.pl))) ∧ Below w.heap.size w w' := by
 refine enter (args := [_, _]) Tryz.func99 Tryz.ntmps99 rfl rfl (HS.refl w []) ?_
 iterate 2 refine aS ?_
 refine oBx fun b1 _ => ?_
 refine oBx fun b2 _ => ?_
 iterate 8 refine aS ?_
 refine o_p (p_eql_bool rfl rfl rfl Tryz.underlying4) rfl ?_
 refine aS ?_
 refine o_and 6 10 16 _ _ rfl
  (by
   intro hg3
   have hs4 := hg3; skip
   refine oOn 10 hg3 ?_
   refine aS ?_
   refine oOn 10 hg3 ?_
   refine aS ?_
   refine oOn 10 hg3 ?_
   refine aS ?_
   refine oOn 10 hg3 ?_
   refine aS ?_
   refine oOn 10 hg3 ?_
   refine o_q (q_call rfl fn_136 rfl (fun w1 h1 => c136 w1 n.ea m.ea n.ec m.ec n.es m.es (hne.later h1.nil) (hme.later h1.nil) (by omega) (by omega))) rfl ?_
   refine o_p (p_pickt rfl rfl hg3 rfl) rfl ?_
   refine aS ?_
   exact oJn 6 16)
  (by
   intro hg5
   have hs6 := hg5; skip
   refine oOf 10 hg5 ?_
   refine oOf 10 hg5 ?_
   refine oOf 10 hg5 ?_
   refine oOf 10 hg5 ?_
   refine oOf 10 hg5 ?_
   refine o_p (p_pickf rfl rfl hg5 rfl) rfl ?_
   refine aS ?_
   exact oJn 6 16) ?_
 refine aS ?_
 refine o_and 6 17 23 _ _ rfl
  (by
   intro hg7
   have hs8 := hg7; try simp only [Bool.and_eq_true, decide_eq_true_eq] at hs8
   refine oOn 17 hg7 ?_
   refine aS ?_
   refine oOn 17 hg7 ?_
   refine aS ?_
   refine oOn 17 hg7 ?_
   refine aS ?_
   refine oOn 17 hg7 ?_
   refine aS ?_
   refine oOn 17 hg7 ?_
   refine o_q (q_call rfl fn_137 rfl (fun w1 h1 => c137 w1 n.ca m.ca n.cc m.cc n.cs m.cs (hnc.later h1.nil) (hmc.later h1.nil) (by omega) (by omega))) rfl ?_
   refine o_p (p_pickt rfl rfl hg7 rfl) rfl ?_
   refine aS ?_
   exact oJn 6 23)
  (by
   intro hg9
   have hs10 := hg9; try simp only [Bool.and_eq_false_iff, decide_eq_false_iff_not] at hs10
   refine oOf 17 hg9 ?_
   refine oOf 17 hg9 ?_
   refine oOf 17 hg9 ?_
   refine oOf 17 hg9 ?_
   refine oOf 17 hg9 ?_
   refine o_p (p_pickf rfl rfl hg9 rfl) rfl ?_
   refine aS ?_
   exact oJn 6 23) ?_
 iterate 2 refine aS ?_
 exact s_retv (rs := [.tmp 4]) rfl (.tmp rfl (.nil)) (fun w' h' => ⟨by simp only [retV]; rw [alike_eq], h'.below⟩)
theorem c98 (w : World) (a : Option Addr) (cap : Nat) (L : List LNd) (k : Nat) (hs : Rw LNd.vals 3 w [] a L) : Calls Tryz.prog 98 #[.slice a L.length cap, .int .i64 (k : Int)] w fun en w' => en = .returned (.agg (LNd.vals (nth L k)).toArray) ∧ Below w.heap.size w w' := by
 refine enter (args := [_, _]) Tryz.func98 Tryz.ntmps98 rfl rfl (HS.refl w []) ?_
 iterate 2 refine aS ?_
 refine oAl (fun b1 _ => ?_) zr_102
 iterate 9 refine aS ?_
 refine s_cond rfl (fun h2 => ?_) fun h2 => ?_
 ·try simp only [decide_eq_true_eq] at h2
  iterate 3 refine aS ?_
  refine o_p (p_indexAddr rfl rfl rfl sl_22 (k) (by omega) (by omega) (Rw.some hs (by omega))) rfl ?_
  refine o_q (q_load_oldn _ rfl rfl sz_102 rfl (Rw.rd hs (by omega))) rfl ?_
  refine oSt ?_
  iterate 4 refine aS ?_
  refine oSt ?_
  refine aS ?_
  exact s_retv (rs := [.cell 4 102]) rfl (.cell rfl sz_102 aPk rfl (.nil)) (fun w' h' => ⟨by first | rfl | (rw [nth_out (by omega)]; rfl), h'.below⟩)
 try simp only [decide_eq_false_iff_not] at h2
 iterate 4 refine aS ?_
 refine oSt ?_
 refine aS ?_
 exact s_retv (rs := [.cell 4 102]) rfl (.cell rfl sz_102 aPk rfl (.nil)) (fun w' h' => ⟨by first | rfl | (rw [nth_out (by omega)]; rfl), h'.below⟩)
theorem c59 (w : World) (a b : Option Addr) (ca cb : Nat) (L M : List LNd) (hs : Nt w [] a L) (ht : Nt w [] b M) (hL : L.length ≤ 1000) (hM : M.length ≤ 1000) (hLs : Sm 100000 (pln L)) (hMs : Sm 100000 (pln M)) : Calls Tryz.prog 59 #[.slice a L.length ca, .slice b M.length cb] w fun en w' => ∃ g : Option Addr × Nat, en = .returned (.slice g.1 (chgN (pln L) (pln M)).length g.2) ∧ True ∧ HS w [] [.own (.slice g.1 ((chgN (pln L) (pln M))).length g.2) 3 1 ((chgN (pln L) (pln M))).length (((chgN (pln L) (pln M))).map fun i : Nat => Value.int .i64 (i : Int))] w' := by
 refine enter (args := [_, _]) Tryz.func59 Tryz.ntmps59 rfl rfl (HS.refl w []) ?_
 iterate 19 refine aS ?_
 refine o_p (p_max2 rfl rfl rfl ) rfl ?_
 iterate 3 refine aS ?_
 refine s_loopI (α := Nat × Option Addr × Nat) [6, 7, 13, 14, 15, 16, 17, 18, 19, 20, 21, 22, 23, 24, 25, 26, 27, 28, 29, 30] (fun x => [(13, .int .i64 (x.1 : Int)), (6, .slice x.2.1 (chgK (pln L) (pln M) x.1).length x.2.2)]) (fun x => HS w [] [.own (.slice x.2.1 ((chgK (pln L) (pln M) x.1)).length x.2.2) 3 1 ((chgK (pln L) (pln M) x.1)).length (((chgK (pln L) (pln M) x.1)).map fun i : Nat => Value.int .i64 (i : Int))]) (fun x => x.1 ≤ (max L.length M.length)) (fun x => (max L.length M.length) - x.1) (0, none, 0) (Nat.zero_le _) aSx (fun w h => (h.own_nil 3 1).ent aEt) (fun ⟨k, ga, gc⟩ hk1 => ?_)
 dsimp only
 simp only [] at hk1
 iterate 5 refine aS ?_
 refine s_cond rfl (fun h1 => ?_) fun h1 => ?_
 ·try simp only [decide_eq_true_eq] at h1
  have hk : k < (max L.length M.length) := by have hq := h1; omega
  have hkl := chgK_len (pln L) (pln M) k
  iterate 13 refine aS ?_
  refine o_q (q_callv rfl rfl fn_98 rfl (fun w1 h1 => c98 w1 a ca L k (Rw.later hs.1 h1.nil))) rfl ?_
  iterate 3 refine aS ?_
  refine o_q (q_callv rfl rfl fn_98 rfl (fun w1 h1 => c98 w1 b cb M k (Rw.later ht.1 h1.nil))) rfl ?_
  refine o_q (q_call rfl fn_99 rfl (fun w1 h1 => c99 w1 (nth L k) (nth M k) ((hs.esA k).later h1.nil) ((hs.csA k).later h1.nil) ((ht.esA k).later h1.nil) ((ht.csA k).later h1.nil) (by have := hLs k; rw [pln_nth'] at this; exact this) (by have := hMs k; rw [pln_nth'] at this; exact this))) rfl ?_
  iterate 2 refine aS ?_
  refine s_cond rfl (fun h2 => ?_) fun h2 => ?_
  ·try simp only [Bool.not_eq_true', decide_eq_false_iff_not] at h2
   have hne9 : nth (pln L) k ≠ nth (pln M) k := by rw [pln_nth', pln_nth']; have hq := h2; simpa using hq
   have hst := chgK_ne hne9
   iterate 3 refine aS ?_
   refine o_h (h_buildSlice (cs := [_]) rfl rfl sl_30 zr_3 rfl rfl rfl) rfl (fun b3 _ => ?_)
   refine o_h (h_appendS [_] rfl rfl rfl sl_30 Tryz.underlying30 zr_3 rfl aPk (src_blk aPk) rfl (by intro u hu; simp only [List.mem_cons, List.mem_nil_iff, or_false] at hu; subst hu; rfl) (by omega) (by simp only [maxLen]; omega)) rfl (fun b4 _ => ?_)
   iterate 5 refine aS ?_
   try refine oWr ?_
   iterate 2 refine aS ?_
   exact s_backI (k + 1, b4.1, b4.2) (by (try simp only []); omega) (by (try simp only []); omega) (by dsimp only; rw [hst]; simp only [List.length_append, List.length_singleton]; exact aSx) (fun w h => by have h2 := h; dsimp only; rw [hst]; simp only [List.length_append, List.length_singleton, List.map_append, List.map_cons, List.map_nil]; exact h2.ent aEt)
  try simp only [Bool.not_eq_false', decide_eq_true_eq] at h2
  have hne9 : nth (pln L) k = nth (pln M) k := by rw [pln_nth', pln_nth']; have hq := h2; simpa using hq
  have hst := chgK_eq hne9
  iterate 4 refine aS ?_
  try refine oWr ?_
  iterate 2 refine aS ?_
  exact s_backI (k + 1, ga, gc) (by (try simp only []); omega) (by (try simp only []); omega) (by dsimp only; rw [hst]; exact aSx) (fun w h => by dsimp only; rw [hst]; exact h.ent aEt)
 try simp only [decide_eq_false_iff_not] at h1
 obtain rfl : k = (max L.length M.length) := by omega
 refine s_exit_to rfl ?_
 iterate 5 refine aS ?_
 exact s_retv (rs := [.tmp 4]) rfl (.tmp rfl (.nil)) (fun w' h' => ⟨(ga, gc), by unfold chgN; rw [pln_len, pln_len]; rfl, trivial, by unfold chgN; rw [pln_len, pln_len]; exact h'.ent aEt⟩)
theorem fn_39 : isFn Tryz.prog 39 = true := by kernel_rfl
theorem fn_88 : isFn Tryz.prog 88 = true := by kernel_rfl
theorem fn_84 : isFn Tryz.prog 84 = true := by kernel_rfl
theorem c84e (w : World) (co mo rm : Int) (a : Option Addr) (cap : Nat) (L : List LNd) (hs : Nt w [] a L) (hB : Bd (pln L)) (hkl : ∀ i, i < L.length → ∀ x ∈ (nth L i).es, x.key.length ≤ 1000000) (he : ¬ (treE (⟨co, mo, rm, pln L⟩ : Tre)).2 = 0) : Calls Tryz.prog 84 #[.agg #[.int .i64 co, .int .i64 mo, .int .i64 rm, .slice a L.length cap]] w fun en w' => en = .returned (.tuple #[.pointer none, .int .i64 (treE (⟨co, mo, rm, pln L⟩ : Tre)).2]) ∧ Below w.heap.size w w' := by
 refine enter (args := [_]) Tryz.func84 Tryz.ntmps84 rfl rfl (HS.refl w []) ?_
 iterate 2 refine aS ?_
 refine oBx fun b1 _ => ?_
 iterate 7 refine aS ?_
 refine o_q (q_call rfl fn_39 rfl (fun w1 h1 => c39 w1 co mo rm a cap L (hs.later h1.nil) hB hkl)) rfl ?_
 iterate 11 refine aS ?_
 refine s_cond rfl (fun h2 => ?_) fun h2 => ?_
 ·try simp only [Bool.not_eq_true', decide_eq_false_iff_not] at h2
  iterate 6 refine aS ?_
  exact s_retv (rs := [.tmp 2, .tmp 3]) rfl (.tmp rfl (.tmp rfl (.nil))) (fun w' h' => ⟨rfl, h'.below⟩)
 try simp only [Bool.not_eq_false', decide_eq_true_eq] at h2
 exfalso; first | omega | (simp at h2; done) | (simp_all; done)
theorem c84o (w : World) (j : Nat) (mo rm : Int) (a : Option Addr) (cap : Nat) (L : List LNd) (hs : Nt w [] a L) (hB : Bd (pln L)) (hkl : ∀ i, i < L.length → ∀ x ∈ (nth L i).es, x.key.length ≤ 1000000) (h0 : (treE (⟨(j : Int), mo, rm, pln L⟩ : Tre)).2 = 0) : Calls Tryz.prog 84 #[.agg #[.int .i64 (j : Int), .int .i64 mo, .int .i64 rm, .slice a L.length cap]] w fun en w' => ∃ g : Nat × (Nat × Nat) × List LNd, en = .returned (.tuple #[.pointer (some ⟨g.1, 0, none⟩), .int .i64 (0)]) ∧ (pln g.2.2 = pln L ∧ g.2.2.length ≤ g.2.1.2 ∧ g.2.1.2 ≤ maxLen) ∧ HS w [] [.blk g.1 112 6 (tbV (j : Int) mo rm (some ⟨g.2.1.1, 0, none⟩) (g.2.2).length g.2.1.2), .blk g.2.1.1 102 (g.2.1.2 * 3) ((g.2.2).flatMap LNd.vals), .star ((g.2.2).map (subN 26))] w' := by
 obtain ⟨hc0, hz0, hl0, hl120, hn0, _, _⟩ := treE_0 h0
 rw [show ((⟨(j : Int), mo, rm, pln L⟩ : Tre)).ns = pln L from rfl, pln_len] at hl0 hl120
 have hj : j ≤ 3 := by obtain ⟨j9, e9, hj9⟩ := col_ok hc0; have e8 : ((j : Nat) : Int) = (j9 : Int) := e9; omega
 have hT : TOk (j : Int) (pln L) := tok_of (t := (⟨(j : Int), mo, rm, pln L⟩ : Tre)) hn0
 have hmo := (sizE_0 hz0).1
 simp only [] at hmo
 refine enter (args := [_]) Tryz.func84 Tryz.ntmps84 rfl rfl (HS.refl w []) ?_
 iterate 2 refine aS ?_
 refine oBx fun b1 _ => ?_
 iterate 7 refine aS ?_
 refine o_q (q_call rfl fn_39 rfl (fun w1 h1 => c39 w1 (j : Int) mo rm a cap L (hs.later h1.nil) hB hkl)) rfl ?_
 iterate 11 refine aS ?_
 refine s_cond rfl (fun h2 => ?_) fun h2 => ?_
 ·try simp only [Bool.not_eq_true', decide_eq_false_iff_not] at h2
  exfalso; first | omega | (simp at h2; done) | (simp_all; done)
 try simp only [Bool.not_eq_false', decide_eq_true_eq] at h2
 iterate 4 refine aS ?_
 refine o_h (h_call rfl fn_88 rfl (fun w1 h1 => c88 w1 j mo rm a cap L (hs.later h1.nil) hB hj hl0)) rfl (fun ⟨b9, ⟨a9, c9⟩, L9⟩ hF9 => ?_)
 dsimp only
 iterate 3 refine aS ?_
 exact s_retv (rs := [.tmp 2, .tmp 3]) rfl (.tmp rfl (.tmp rfl (.nil))) (fun w' h' => by obtain ⟨g9, rfl, hl9, hm9, h2⟩ := nodes_split (by rw [← pln_len, hF9, pln_len]; exact hl0) h' aPk; exact ⟨(b9, (g9, c9), L9), rfl, ⟨hF9, hl9, hm9⟩, h2.ent aEt⟩)
theorem c67k (w : World) (j : Nat) (mo rm : Int) (a : Option Addr) (cap : Nat) (L : List LNd) (key : List UInt8) (hs : Nt w [] a L) (hB : Bd (pln L)) (hkl : ∀ i, i < L.length → ∀ x ∈ (nth L i).es, x.key.length ≤ 1000000) (hkk : key.length ≤ 1000000) (h0 : (treE (⟨(j : Int), mo, rm, pln L⟩ : Tre)).2 = 0) : Calls Tryz.prog 67 #[.agg #[.int .i64 (j : Int), .int .i64 mo, .int .i64 rm, .slice a L.length cap], .string (bs key)] w fun en w' => ∃ g : Nat × (Nat × Nat) × List LNd, en = .returned (.tuple #[.pointer (some ⟨g.1, 0, none⟩), .int .i64 (keyE (j : Int) key)]) ∧ (pln g.2.2 = pln L ∧ g.2.2.length ≤ g.2.1.2 ∧ g.2.1.2 ≤ maxLen) ∧ HS w [] [.blk g.1 112 6 (tbV (j : Int) mo rm (some ⟨g.2.1.1, 0, none⟩) (g.2.2).length g.2.1.2), .blk g.2.1.1 102 (g.2.1.2 * 3) ((g.2.2).flatMap LNd.vals), .star ((g.2.2).map (subN 26))] w' := by
 obtain ⟨hc0, hz0, hl0, hl120, hn0, _, _⟩ := treE_0 h0
 rw [show ((⟨(j : Int), mo, rm, pln L⟩ : Tre)).ns = pln L from rfl, pln_len] at hl0 hl120
 have hj : j ≤ 3 := by obtain ⟨j9, e9, hj9⟩ := col_ok hc0; have e8 : ((j : Nat) : Int) = (j9 : Int) := e9; omega
 have hT : TOk (j : Int) (pln L) := tok_of (t := (⟨(j : Int), mo, rm, pln L⟩ : Tre)) hn0
 have hmo := (sizE_0 hz0).1
 simp only [] at hmo
 refine enter (args := [_, _]) Tryz.func67 Tryz.ntmps67 rfl rfl (HS.refl w []) ?_
 iterate 2 refine aS ?_
 refine oBx fun b1 _ => ?_
 iterate 6 refine aS ?_
 refine o_h (h_call rfl fn_84 rfl (fun w1 h1 => c84o w1 j mo rm a cap L (hs.later h1.nil) hB hkl h0)) rfl (fun g9 hF9 => ?_)
 iterate 12 refine aS ?_
 refine s_cond rfl (fun h2 => ?_) fun h2 => ?_
 ·try simp only [decide_eq_true_eq] at h2
  iterate 4 refine aS ?_
  refine o_q (q_call rfl fn_76 rfl (fun w1 h1 => c76 w1 j key hj hkk)) rfl ?_
  iterate 9 refine aS ?_
  exact s_retv (rs := [.tmp 4, .tmp 5]) rfl (.tmp rfl (.tmp rfl (.nil))) (fun w' h' => ⟨g9, rfl, hF9, h'.ent aEt⟩)
 try simp only [decide_eq_false_iff_not] at h2
 exfalso; first | omega | (simp at h2; done) | (simp_all; done)
theorem c57k (w : World) (j : Nat) (mo rm : Int) (a : Option Addr) (cap : Nat) (L : List LNd) (x : TEnt) (hs : Nt w [] a L) (hB : Bd (pln L)) (hkl : ∀ i, i < L.length → ∀ x ∈ (nth L i).es, x.key.length ≤ 1000000) (hkk : x.key.length ≤ 1000000) (h0 : (treE (⟨(j : Int), mo, rm, pln L⟩ : Tre)).2 = 0) : Calls Tryz.prog 57 #[.agg #[.int .i64 (j : Int), .int .i64 mo, .int .i64 rm, .slice a L.length cap], .agg #[.string (bs x.key), .string (bs x.val)]] w fun en w' => ∃ g : Nat × (Nat × Nat) × List LNd, en = .returned (.tuple #[.pointer (some ⟨g.1, 0, none⟩), .int .i64 (entE (j : Int) x)]) ∧ (pln g.2.2 = pln L ∧ g.2.2.length ≤ g.2.1.2 ∧ g.2.1.2 ≤ maxLen) ∧ HS w [] [.blk g.1 112 6 (tbV (j : Int) mo rm (some ⟨g.2.1.1, 0, none⟩) (g.2.2).length g.2.1.2), .blk g.2.1.1 102 (g.2.1.2 * 3) ((g.2.2).flatMap LNd.vals), .star ((g.2.2).map (subN 26))] w' := by
 obtain ⟨hc0, hz0, hl0, hl120, hn0, _, _⟩ := treE_0 h0
 rw [show ((⟨(j : Int), mo, rm, pln L⟩ : Tre)).ns = pln L from rfl, pln_len] at hl0 hl120
 have hj : j ≤ 3 := by obtain ⟨j9, e9, hj9⟩ := col_ok hc0; have e8 : ((j : Nat) : Int) = (j9 : Int) := e9; omega
 have hT : TOk (j : Int) (pln L) := tok_of (t := (⟨(j : Int), mo, rm, pln L⟩ : Tre)) hn0
 have hmo := (sizE_0 hz0).1
 simp only [] at hmo
 refine enter (args := [_, _]) Tryz.func57 Tryz.ntmps57 rfl rfl (HS.refl w []) ?_
 iterate 2 refine aS ?_
 refine oBx fun b1 _ => ?_
 refine oBx fun b2 _ => ?_
 iterate 6 refine aS ?_
 refine o_h (h_call rfl fn_84 rfl (fun w1 h1 => c84o w1 j mo rm a cap L (hs.later h1.nil) hB hkl h0)) rfl (fun g9 hF9 => ?_)
 iterate 12 refine aS ?_
 refine s_cond rfl (fun h3 => ?_) fun h3 => ?_
 ·try simp only [decide_eq_true_eq] at h3
  iterate 4 refine aS ?_
  refine o_q (q_call rfl fn_91 rfl (fun w1 h1 => c91 w1 j x hj hkk)) rfl ?_
  iterate 9 refine aS ?_
  exact s_retv (rs := [.tmp 4, .tmp 5]) rfl (.tmp rfl (.tmp rfl (.nil))) (fun w' h' => ⟨g9, rfl, hF9, h'.ent aEt⟩)
 try simp only [decide_eq_false_iff_not] at h3
 exfalso; first | omega | (simp at h3; done) | (simp_all; done)
end Go.Proofs
namespace Gx
set_option linter.unusedSimpArgs false
set_option linter.unusedVariables false
set_option linter.unusedSectionVars false
open Go Go.RowKit
theorem keyE_ok {co : Int} {k : List UInt8} (h : keyE co k = 0) : keyOk co k = true := by
  unfold keyE at h
  split at h
  · assumption
  · cases h
theorem sm_bd {ns : List Nd} (h : Bd ns) : Sm 100000 ns := fun k => by
  rcases Nat.lt_or_ge k ns.length with hk | hk
  · have h1 := h.es k hk
    have h2 := h.cs k hk
    omega
  · rw [nth_out hk]
    exact ⟨Nat.zero_le _, Nat.zero_le _⟩
theorem insE_0 {co mo rm : Int} {ns : List Nd} {x : TEnt} (h : insE co mo rm ns x = 0) : ¬ (pathN co ns x.key).2.2 = true ∧ (insT co mo rm ns x).length ≤ 120 := by
  unfold insE at h
  split at h
  · cases h
  · rename_i h1
    split at h
    · rename_i h2
      exact ⟨h1, h2⟩
    · cases h
end Gx
namespace Go.Proofs
open Go Go.RowKit Gx
set_option linter.unusedVariables false
set_option linter.unusedSimpArgs false
attribute [local irreducible] Go.Calls Gx.S Gx.O Gx.D Gx.OpP Gx.OpQ Gx.OpH
set_option maxRecDepth 20000
theorem fn_57 : isFn Tryz.prog 57 = true := by kernel_rfl
theorem fn_58 : isFn Tryz.prog 58 = true := by kernel_rfl
theorem fn_59 : isFn Tryz.prog 59 = true := by kernel_rfl
theorem fn_67 : isFn Tryz.prog 67 = true := by kernel_rfl
theorem fn_69 : isFn Tryz.prog 69 = true := by kernel_rfl
theorem c16o (w : World) (j : Nat) (mo rm : Int) (a : Option Addr) (cap : Nat) (L : List LNd) (x : TEnt) (hs : Nt w [] a L) (hB : Bd (pln L)) (hkl : ∀ i, i < L.length → ∀ x ∈ (nth L i).es, x.key.length ≤ 1000000) (h0 : (treE (⟨(j : Int), mo, rm, pln L⟩ : Tre)).2 = 0) (hkk : x.key.length ≤ 1000000) (hx0 : entE (j : Int) x = 0) (hins : ¬ (pathN (j : Int) (pln L) x.key).2.2 = true → InsOk (j : Int) mo rm (pln L) x) (hx : (insE (j : Int) mo rm (pln L) x) = 0) (hso : Sm 100000 (insT (j : Int) mo rm (pln L) x)) : Calls Tryz.prog 16 #[.agg #[.int .i64 (j : Int), .int .i64 mo, .int .i64 rm, .slice a L.length cap], .agg #[.string (bs x.key), .string (bs x.val)]] w fun en w' => ∃ g : ((Nat × Nat) × List LNd) × (Option Addr × Nat), en = .returned (.tuple #[.agg #[.int .i64 (j : Int), .int .i64 mo, .int .i64 rm, .slice (some ⟨g.1.1.1, 0, none⟩) g.1.2.length g.1.1.2], .slice g.2.1 (chgN (pln L) (insT (j : Int) mo rm (pln L) x)).length g.2.2, .int .i64 0]) ∧ pln g.1.2 = (insT (j : Int) mo rm (pln L) x) ∧ HS w [] [.nodes 26 102 (some ⟨g.1.1.1, 0, none⟩) g.1.1.2 g.1.2, .own (.slice g.2.1 ((chgN (pln L) (insT (j : Int) mo rm (pln L) x))).length g.2.2) 3 1 ((chgN (pln L) (insT (j : Int) mo rm (pln L) x))).length (((chgN (pln L) (insT (j : Int) mo rm (pln L) x))).map fun i : Nat => Value.int .i64 (i : Int))] w' := by
 obtain ⟨hc0, hz0, hl0, hl120, hn0, _, _⟩ := treE_0 h0
 rw [show ((⟨(j : Int), mo, rm, pln L⟩ : Tre)).ns = pln L from rfl, pln_len] at hl0 hl120
 have hj : j ≤ 3 := by obtain ⟨j9, e9, hj9⟩ := col_ok hc0; have e8 : ((j : Nat) : Int) = (j9 : Int) := e9; omega
 have hT : TOk (j : Int) (pln L) := tok_of (t := (⟨(j : Int), mo, rm, pln L⟩ : Tre)) hn0
 have hmo := (sizE_0 hz0).1
 simp only [] at hmo
 have hkey : keyOk (j : Int) x.key = true := entE_key hx0
 obtain ⟨hnf, h120⟩ := insE_0 hx
 refine enter (args := [_, _]) Tryz.func16 Tryz.ntmps16 rfl rfl (HS.refl w []) ?_
 iterate 2 refine aS ?_
 refine oBx fun b1 _ => ?_
 refine oBx fun b2 _ => ?_
 refine oAl (fun b3 _ => ?_) zr_24
 iterate 7 refine aS ?_
 refine o_h (h_call rfl fn_57 rfl (fun w1 h1 => c57k w1 j mo rm a cap L x (hs.later h1.nil) hB hkl hkk h0)) rfl (fun ⟨b9, ⟨gn9, c9⟩, L9⟩ hF9 => ?_)
 dsimp only
 obtain ⟨hL9, hn9, hm9⟩ := hF9
 simp only [] at hL9 hn9 hm9
 have hl9 : L9.length = L.length := by rw [← pln_len L9, hL9, pln_len]
 have hB9 : Bd (pln L9) := by rw [hL9]; exact hB
 have hT9 : TOk (j : Int) (pln L9) := by rw [hL9]; exact hT
 have hK9 : ∀ i, i < L9.length → ∀ y ∈ (nth L9 i).es, keyOk (j : Int) y.key = true ∧ y.key.length ≤ 1000000 := fun i hi y hy => tok_key hT9 i (by rw [pln_len]; exact hi) y (by rw [pln_nth hi]; exact hy)
 iterate 12 refine aS ?_
 refine s_cond rfl (fun h4 => ?_) fun h4 => ?_
 ·try simp only [decide_eq_true_eq] at h4
  iterate 3 refine aS ?_
  refine o_h (h_callF (Cs := [.blk b9 112 6 (tbV (j : Int) mo rm (some ⟨gn9, 0, none⟩) (L9).length c9), .blk gn9 102 (c9 * 3) ((L9).flatMap LNd.vals), .star ((L9).map (subN 26))]) rfl fn_58 rfl aPs (fun w1 h1 hf => c58 w1 b9 j mo rm gn9 c9 L9 x hf hn9 hm9 hj (by omega) hB9 hT9 hkey (by rw [hL9]; exact hins))) rfl (fun ⟨⟨g5, c5⟩, L5⟩ hF5 => ?_)
  dsimp only
  refine o_slot (show _ = Value.int .i64 (insE (j : Int) mo rm (pln L) x) from by rw [hL9]) ?_
  rw [hL9] at hF5
  obtain ⟨hL5, hn5, hm5⟩ := hF5
  simp only [] at hL5 hn5 hm5
  have hl5 : L5.length = (insT (j : Int) mo rm (pln L) x).length := by rw [← hL5, pln_len]
  iterate 8 refine aS ?_
  refine s_cond rfl (fun h5 => ?_) fun h5 => ?_
  ·try simp only [Bool.not_eq_true', decide_eq_false_iff_not] at h5
   exfalso; first | omega | (simp at h5; done) | (simp_all; done)
  try simp only [Bool.not_eq_false', decide_eq_true_eq] at h5
  iterate 2 refine aS ?_
  refine s_draw [12] mixed ?_
  refine dP 0 ?_
  refine dP 1 ?_
  refine dFa 2 ?_
  refine dLn 3 [[]] ?_
  refine dFa 4 ?_
  refine dLd 5 [[11]] ?_
  refine dP 6 ?_
  refine dP 7 ?_
  refine dFa 8 ?_
  refine dFa 9 ?_
  refine dLd 10 [[11]] ?_
  refine d_h 11 rfl (h_call rfl fn_59 rfl (fun w1 h1 => c59 w1 a (some ⟨g5, 0, none⟩) cap c5 L L5 (hs.later h1.nil) (HS.nt_at h1 aPk aPk) (by omega) (by omega) (sm_bd hB) (by rw [hL5]; exact hso))) (by kernel_rfl) (fun w h => h.ent aEt) rfl (fun ⟨qa, qc⟩ _ => ?_)
  refine dBa ?_
  refine dSt 12 ?_ (hl := (by simp only [setMany_length, List.length_set, List.length_cons, List.length_nil, List.length_map]; omega))
  refine dTu [] ?_
  refine dP 13 ?_
  refine dP 14 ?_
  refine dNi ?_
  exact s_retv (rs := [.cell 4 24, .tmp 5, .tmp 6]) rfl (.cell rfl sz_24 aPk rfl (.tmp rfl (.tmp rfl (.nil)))) (fun w' h' => ⟨(((g5, c5), L5), (qa, qc)), by simp only [retV]; rw [← hL5]; rfl, hL5, by rw [← hL5]; exact (nodes_join (h'.ent (Bs := [.blk g5 102 (c5 * 3) (L5.flatMap LNd.vals), .star (L5.map (subN 26)), .own (.slice qa ((chgN (pln L) (pln L5))).length qc) 3 1 ((chgN (pln L) (pln L5))).length (((chgN (pln L) (pln L5))).map fun i : Nat => Value.int .i64 (i : Int))]) aEt) hn5 hm5)⟩)
 try simp only [decide_eq_false_iff_not] at h4
 exfalso; first | omega | (simp at h4; done) | (simp_all; done)
theorem c35o (w : World) (j : Nat) (mo rm : Int) (a : Option Addr) (cap : Nat) (L : List LNd) (key : List UInt8) (hs : Nt w [] a L) (hB : Bd (pln L)) (hkl : ∀ i, i < L.length → ∀ x ∈ (nth L i).es, x.key.length ≤ 1000000) (h0 : (treE (⟨(j : Int), mo, rm, pln L⟩ : Tre)).2 = 0) (hkk : key.length ≤ 1000000) (hx0 : keyE (j : Int) key = 0) : Calls Tryz.prog 35 #[.agg #[.int .i64 (j : Int), .int .i64 mo, .int .i64 rm, .slice a L.length cap], .string (bs key)] w fun en w' => ∃ g : Option Addr × Nat, en = .returned (.tuple #[.slice g.1 (pathN (j : Int) (pln L) key).1.length g.2, .bool (pathN (j : Int) (pln L) key).2.2, .int .i64 0]) ∧ True ∧ HS w [] [.own (.slice g.1 ((pathN (j : Int) (pln L) key).1).length g.2) 3 1 ((pathN (j : Int) (pln L) key).1).length (((pathN (j : Int) (pln L) key).1).map fun i : Nat => Value.int .i64 (i : Int))] w' := by
 obtain ⟨hc0, hz0, hl0, hl120, hn0, _, _⟩ := treE_0 h0
 rw [show ((⟨(j : Int), mo, rm, pln L⟩ : Tre)).ns = pln L from rfl, pln_len] at hl0 hl120
 have hj : j ≤ 3 := by obtain ⟨j9, e9, hj9⟩ := col_ok hc0; have e8 : ((j : Nat) : Int) = (j9 : Int) := e9; omega
 have hT : TOk (j : Int) (pln L) := tok_of (t := (⟨(j : Int), mo, rm, pln L⟩ : Tre)) hn0
 have hmo := (sizE_0 hz0).1
 simp only [] at hmo
 have hkey : keyOk (j : Int) key = true := keyE_ok hx0
 refine enter (args := [_, _]) Tryz.func35 Tryz.ntmps35 rfl rfl (HS.refl w []) ?_
 iterate 2 refine aS ?_
 refine oBx fun b1 _ => ?_
 iterate 8 refine aS ?_
 refine o_h (h_call rfl fn_67 rfl (fun w1 h1 => c67k w1 j mo rm a cap L key (hs.later h1.nil) hB hkl hkk h0)) rfl (fun ⟨b9, ⟨gn9, c9⟩, L9⟩ hF9 => ?_)
 dsimp only
 obtain ⟨hL9, hn9, hm9⟩ := hF9
 simp only [] at hL9 hn9 hm9
 have hl9 : L9.length = L.length := by rw [← pln_len L9, hL9, pln_len]
 have hB9 : Bd (pln L9) := by rw [hL9]; exact hB
 have hT9 : TOk (j : Int) (pln L9) := by rw [hL9]; exact hT
 have hK9 : ∀ i, i < L9.length → ∀ y ∈ (nth L9 i).es, keyOk (j : Int) y.key = true ∧ y.key.length ≤ 1000000 := fun i hi y hy => tok_key hT9 i (by rw [pln_len]; exact hi) y (by rw [pln_nth hi]; exact hy)
 iterate 12 refine aS ?_
 refine s_cond rfl (fun h2 => ?_) fun h2 => ?_
 ·try simp only [Bool.not_eq_true', decide_eq_false_iff_not] at h2
  exfalso; first | omega | (simp at h2; done) | (simp_all; done)
 try simp only [Bool.not_eq_false', decide_eq_true_eq] at h2
 iterate 5 refine aS ?_
 refine o_h (h_call rfl fn_68 rfl (fun w1 h1 => c68 w1 b9 j mo rm (some ⟨gn9, 0, none⟩) c9 L9 key hj (by omega) hB9 hT9 hK9 hkey hkk (HS.nt_at h1 aPk aPk) (HS.tbr h1 aPk))) rfl (fun ⟨pa, pc⟩ _ => ?_)
 dsimp only
 rw [hL9]
 iterate 16 refine aS ?_
 exact s_retv (rs := [.tmp 4, .tmp 5, .tmp 6]) rfl (.tmp rfl (.tmp rfl (.tmp rfl (.nil)))) (fun w' h' => ⟨(pa, pc), rfl, trivial, (h'.of_kids aPk).ent aEt⟩)
theorem c25o (w : World) (j : Nat) (mo rm : Int) (a : Option Addr) (cap : Nat) (L : List LNd) (key : List UInt8) (hs : Nt w [] a L) (hB : Bd (pln L)) (hkl : ∀ i, i < L.length → ∀ x ∈ (nth L i).es, x.key.length ≤ 1000000) (h0 : (treE (⟨(j : Int), mo, rm, pln L⟩ : Tre)).2 = 0) (hkk : key.length ≤ 1000000) (hx0 : keyE (j : Int) key = 0) (hx : (pathN (j : Int) (pln L) key).2.2 = true) (hrm : RemOk mo rm (pln L) (pathN (j : Int) (pln L) key).1 (pathN (j : Int) (pln L) key).2.1) (hso : Sm 100000 (remN mo rm (pln L) (pathN (j : Int) (pln L) key).1 (pathN (j : Int) (pln L) key).2.1)) (hlo : (remN mo rm (pln L) (pathN (j : Int) (pln L) key).1 (pathN (j : Int) (pln L) key).2.1).length ≤ 1000) : Calls Tryz.prog 25 #[.agg #[.int .i64 (j : Int), .int .i64 mo, .int .i64 rm, .slice a L.length cap], .string (bs key)] w fun en w' => ∃ g : ((Nat × Nat) × List LNd) × (Option Addr × Nat), en = .returned (.tuple #[.agg #[.int .i64 (j : Int), .int .i64 mo, .int .i64 rm, .slice (some ⟨g.1.1.1, 0, none⟩) g.1.2.length g.1.1.2], .slice g.2.1 (chgN (pln L) (remN mo rm (pln L) (pathN (j : Int) (pln L) key).1 (pathN (j : Int) (pln L) key).2.1)).length g.2.2, .int .i64 0]) ∧ pln g.1.2 = (remN mo rm (pln L) (pathN (j : Int) (pln L) key).1 (pathN (j : Int) (pln L) key).2.1) ∧ HS w [] [.nodes 26 102 (some ⟨g.1.1.1, 0, none⟩) g.1.1.2 g.1.2, .own (.slice g.2.1 ((chgN (pln L) (remN mo rm (pln L) (pathN (j : Int) (pln L) key).1 (pathN (j : Int) (pln L) key).2.1))).length g.2.2) 3 1 ((chgN (pln L) (remN mo rm (pln L) (pathN (j : Int) (pln L) key).1 (pathN (j : Int) (pln L) key).2.1))).length (((chgN (pln L) (remN mo rm (pln L) (pathN (j : Int) (pln L) key).1 (pathN (j : Int) (pln L) key).2.1))).map fun i : Nat => Value.int .i64 (i : Int))] w' := by
 obtain ⟨hc0, hz0, hl0, hl120, hn0, _, _⟩ := treE_0 h0
 rw [show ((⟨(j : Int), mo, rm, pln L⟩ : Tre)).ns = pln L from rfl, pln_len] at hl0 hl120
 have hj : j ≤ 3 := by obtain ⟨j9, e9, hj9⟩ := col_ok hc0; have e8 : ((j : Nat) : Int) = (j9 : Int) := e9; omega
 have hT : TOk (j : Int) (pln L) := tok_of (t := (⟨(j : Int), mo, rm, pln L⟩ : Tre)) hn0
 have hmo := (sizE_0 hz0).1
 simp only [] at hmo
 have hkey : keyOk (j : Int) key = true := keyE_ok hx0
 refine enter (args := [_, _]) Tryz.func25 Tryz.ntmps25 rfl rfl (HS.refl w []) ?_
 iterate 2 refine aS ?_
 refine oBx fun b1 _ => ?_
 refine oAl (fun b2 _ => ?_) zr_24
 iterate 7 refine aS ?_
 refine o_h (h_call rfl fn_67 rfl (fun w1 h1 => c67k w1 j mo rm a cap L key (hs.later h1.nil) hB hkl hkk h0)) rfl (fun ⟨b9, ⟨gn9, c9⟩, L9⟩ hF9 => ?_)
 dsimp only
 obtain ⟨hL9, hn9, hm9⟩ := hF9
 simp only [] at hL9 hn9 hm9
 have hl9 : L9.length = L.length := by rw [← pln_len L9, hL9, pln_len]
 have hB9 : Bd (pln L9) := by rw [hL9]; exact hB
 have hT9 : TOk (j : Int) (pln L9) := by rw [hL9]; exact hT
 have hK9 : ∀ i, i < L9.length → ∀ y ∈ (nth L9 i).es, keyOk (j : Int) y.key = true ∧ y.key.length ≤ 1000000 := fun i hi y hy => tok_key hT9 i (by rw [pln_len]; exact hi) y (by rw [pln_nth hi]; exact hy)
 iterate 12 refine aS ?_
 refine s_cond rfl (fun h3 => ?_) fun h3 => ?_
 ·try simp only [Bool.not_eq_true', decide_eq_false_iff_not] at h3
  exfalso; first | omega | (simp at h3; done) | (simp_all; done)
 try simp only [Bool.not_eq_false', decide_eq_true_eq] at h3
 iterate 5 refine aS ?_
 refine o_h (h_call rfl fn_68 rfl (fun w1 h1 => c68 w1 b9 j mo rm (some ⟨gn9, 0, none⟩) c9 L9 key hj (by omega) hB9 hT9 hK9 hkey hkk (HS.nt_at h1 aPk aPk) (HS.tbr h1 aPk))) rfl (fun ⟨pa, pc⟩ _ => ?_)
 dsimp only
 rw [hL9]
 iterate 14 refine aS ?_
 refine s_cond rfl (fun h4 => ?_) fun h4 => ?_
 ·try simp only [Bool.not_eq_true'] at h4
  exfalso; first | omega | (simp at h4; done) | (simp_all; done)
 try simp only [Bool.not_eq_false'] at h4
 iterate 6 refine aS ?_
 refine o_h (h_callF (Cs := [.blk b9 112 6 (tbV (j : Int) mo rm (some ⟨gn9, 0, none⟩) (L9).length c9), .blk gn9 102 (c9 * 3) ((L9).flatMap LNd.vals), .star ((L9).map (subN 26)), .kids pa pc (iN (pathN (j : Int) (pln L) key).1)]) rfl fn_69 rfl aPs (fun w1 h1 hf => c69 w1 b9 j mo rm gn9 c9 L9 (pathN (j : Int) (pln L) key).1 pa pc (pathN (j : Int) (pln L) key).2.1 hf hn9 hm9 (by rw [hL9]; exact hrm))) rfl (fun ⟨⟨g5, c5⟩, L5⟩ hF5 => ?_)
 iterate 2 refine aS ?_
 refine s_weaken (L' := [(2, _), (4, _), (5, _), (6, _), (7, _)]) aSx (fun _ h => h) ?_
 dsimp only
 rw [hL9] at hF5
 obtain ⟨hL5, hn5, hm5⟩ := hF5
 simp only [] at hL5 hn5 hm5
 have hl5 : L5.length = (remN mo rm (pln L) (pathN (j : Int) (pln L) key).1 (pathN (j : Int) (pln L) key).2.1).length := by rw [← hL5, pln_len]
 refine s_draw [12] mixed ?_
 refine dP 0 ?_
 refine dP 1 ?_
 refine dFa 2 ?_
 refine dLn 3 [[]] ?_
 refine dFa 4 ?_
 refine dLd 5 [[11]] ?_
 refine dP 6 ?_
 refine dP 7 ?_
 refine dFa 8 ?_
 refine dFa 9 ?_
 refine dLd 10 [[11]] ?_
 refine d_h 11 rfl (h_call rfl fn_59 rfl (fun w1 h1 => c59 w1 a (some ⟨g5, 0, none⟩) cap c5 L L5 (hs.later h1.nil) (HS.nt_at h1 aPk aPk) (by omega) (by omega) (sm_bd hB) (by rw [hL5]; exact hso))) (by kernel_rfl) (fun w h => h.ent aEt) rfl (fun ⟨qa, qc⟩ _ => ?_)
 refine dBa ?_
 refine dSt 12 ?_ (hl := (by simp only [setMany_length, List.length_set, List.length_cons, List.length_nil, List.length_map]; omega))
 refine dTu [] ?_
 refine dP 13 ?_
 refine dP 14 ?_
 refine dNi ?_
 exact s_retv (rs := [.cell 4 24, .tmp 5, .tmp 6]) rfl (.cell rfl sz_24 aPk rfl (.tmp rfl (.tmp rfl (.nil)))) (fun w' h' => ⟨(((g5, c5), L5), (qa, qc)), by simp only [retV]; rw [← hL5]; rfl, hL5, by rw [← hL5]; exact (nodes_join (h'.ent (Bs := [.blk g5 102 (c5 * 3) (L5.flatMap LNd.vals), .star (L5.map (subN 26)), .own (.slice qa ((chgN (pln L) (pln L5))).length qc) 3 1 ((chgN (pln L) (pln L5))).length (((chgN (pln L) (pln L5))).map fun i : Nat => Value.int .i64 (i : Int))]) aEt) hn5 hm5)⟩)
theorem fn_45 : isFn Tryz.prog 45 = true := by kernel_rfl
theorem fn_60 : isFn Tryz.prog 60 = true := by kernel_rfl
theorem c45 (w : World) (a : Option Addr) (cap : Nat) (l : List TEnt) (hs : Rw TEnt.vals 2 w [] a l) (hl : l.length ≤ 100000) : Calls Tryz.prog 45 #[.slice a l.length cap] w fun en w' => ∃ g : Option Addr × Nat, en = .returned (.slice g.1 l.length g.2) ∧ True ∧ HS w [] [.own (.slice g.1 l.length g.2) 26 2 l.length (l.flatMap TEnt.vals)] w' := by
 refine enter (args := [_]) Tryz.func45 Tryz.ntmps45 rfl rfl (HS.refl w []) ?_
 iterate 6 refine aS ?_
 refine o_h (h_buildSlice0 rfl sl_77) rfl (fun b1 _ => ?_)
 refine aS ?_
 refine o_h (h_appendS (l.flatMap TEnt.vals) rfl rfl rfl sl_77 Tryz.underlying77 zr_26 rfl aPk (fun w h => Rw.src ev2 hs h) (flat_length ev2 _) (flat_one ev1 _) (by omega) (by simp only [maxLen]; omega)) rfl (fun b2 _ => ?_)
 iterate 2 refine aS ?_
 exact s_retv (rs := [.tmp 2]) rfl (.tmp rfl (.nil)) (fun w' h' => ⟨b2, by simp only [retV, Nat.zero_add], trivial, by have h2 := h'; simp only [Nat.zero_add, List.nil_append] at h2; exact h2.ent aEt⟩)
theorem c60 (w : World) (a : Option Addr) (cap : Nat) (l : List Int) (hs : Rw inV 1 w [] a l) (hl : l.length ≤ 100000) : Calls Tryz.prog 60 #[.slice a l.length cap] w fun en w' => ∃ g : Option Addr × Nat, en = .returned (.slice g.1 l.length g.2) ∧ True ∧ HS w [] [.own (.slice g.1 l.length g.2) 3 1 l.length (l.flatMap inV)] w' := by
 refine enter (args := [_]) Tryz.func60 Tryz.ntmps60 rfl rfl (HS.refl w []) ?_
 iterate 6 refine aS ?_
 refine o_h (h_buildSlice0 rfl sl_30) rfl (fun b1 _ => ?_)
 refine aS ?_
 refine o_h (h_appendS (l.flatMap inV) rfl rfl rfl sl_30 Tryz.underlying30 zr_3 rfl aPk (fun w h => Rw.src iv1 hs h) (flat_length iv1 _) (flat_one iv1c _) (by omega) (by simp only [maxLen]; omega)) rfl (fun b2 _ => ?_)
 iterate 2 refine aS ?_
 exact s_retv (rs := [.tmp 2]) rfl (.tmp rfl (.nil)) (fun w' h' => ⟨b2, by simp only [retV, Nat.zero_add], trivial, by have h2 := h'; simp only [Nat.zero_add, List.nil_append] at h2; exact h2.ent aEt⟩)
set_option maxHeartbeats 400000 in
theorem c17 (w : World) (co mo rm : Int) (a : Option Addr) (cap : Nat) (L : List LNd) (hs : Nt w [] a L) (hl : L.length ≤ 1000) (hsm : Sm 1000 (pln L)) : Calls Tryz.prog 17 #[.agg #[.int .i64 co, .int .i64 mo, .int .i64 rm, .slice a L.length cap]] w fun en w' => ∃ g : (Option Addr × Nat) × List LNd, en = .returned (.agg #[.int .i64 co, .int .i64 mo, .int .i64 rm, .slice g.1.1 g.2.length g.1.2]) ∧ pln g.2 = pln L ∧ HS w [] [.nodes 26 102 g.1.1 g.1.2 g.2] w' := by
 refine enter (args := [_]) Tryz.func17 Tryz.ntmps17 rfl rfl (HS.refl w []) ?_
 iterate 2 refine aS ?_
 refine oBx fun b1 _ => ?_
 refine oAl (fun b2 _ => ?_) zr_24
 iterate 9 refine aS ?_
 refine o_p (p_build (cs := [_, _, _, _]) rfl rfl pl_24 zr_24 rfl) rfl ?_
 refine oAl (fun b3 _ => ?_) zr_24
 refine oSt ?_
 iterate 7 refine aS ?_
 refine s_loopI (α := Nat × (Option Addr × Nat) × List LNd) [4, 5, 13, 14, 15, 16, 17, 18, 19, 20, 21, 22, 23, 24, 25, 26, 27, 28, 29, 30, 31, 32, 33, 34, 35, 36, 37, 38] (fun x => [(4, .int .i64 (x.1 : Int))]) (fun x => HS w [] [.own (.slice x.2.1.1 (x.2.2).length x.2.1.2) 102 3 (x.2.2).length ((x.2.2).flatMap LNd.vals), .star ((x.2.2).map (subN 26)), .blk b3 24 4 [.int .i64 co, .int .i64 mo, .int .i64 rm, .slice x.2.1.1 (x.2.2).length x.2.1.2], .blk b2 24 4 [.int .i64 0, .int .i64 0, .int .i64 0, .slice none 0 0], .blk b1 24 4 [.int .i64 co, .int .i64 mo, .int .i64 rm, .slice a L.length cap]]) (fun x => x.1 ≤ L.length ∧ x.2.2.length = x.1 ∧ pln x.2.2 = (pln L).take x.1) (fun x => L.length - x.1) (0, (none, 0), []) ⟨Nat.zero_le _, rfl, rfl⟩ aSx (fun w h => ((h.own_nil 102 3).star_nil).ent aEt) (fun ⟨k, ⟨ga, gc⟩, D⟩ hx => ?_)
 dsimp only
 obtain ⟨hk1, hk2, hk3⟩ := hx
 simp only [] at hk1 hk2 hk3
 iterate 9 refine aS ?_
 refine s_cond rfl (fun h4 => ?_) fun h4 => ?_
 ·try simp only [decide_eq_true_eq] at h4
  have hkl : k < L.length := by omega
  have hsk := hsm k
  rw [pln_nth hkl] at hsk
  simp only [LNd.pl] at hsk
  iterate 8 refine aS ?_
  refine o_p (p_indexAddr rfl rfl rfl sl_22 (k) (by omega) (by omega) (Rw.some hs.1 (by omega))) rfl ?_
  refine o_q (q_load_oldn _ rfl rfl sz_102 rfl (Rw.rd hs.1 hkl)) rfl ?_
  refine oAl (fun b5 _ => ?_) zr_102
  refine oSt ?_
  refine aS ?_
  refine s_draw [12, 14] mixed ?_
  refine dFa 0 ?_
  refine dLd 1 [[], []] ?_
  refine dFa 2 ?_
  refine dLd 3 [[11, 10], []] ?_
  refine dFa 4 ?_
  refine dLd 5 [[9, 6], []] ?_
  refine dFa 7 ?_
  refine dLd 8 [[9], []] ?_
  refine d_h 6 rfl (h_call rfl fn_45 rfl (fun w1 h1 => c45 w1 (nth L k).ea (nth L k).ec (nth L k).es ((hs.es hkl).later h1) (by omega))) (by kernel_rfl) (fun w h => h.ent aEt) rfl (fun b6 _ => ?_)
  refine dBa ?_
  refine d_h 9 rfl (h_call rfl fn_60 rfl (fun w1 h1 => c60 w1 (nth L k).ca (nth L k).cc (nth L k).cs ((hs.cs hkl).later h1) (by omega))) (by kernel_rfl) (fun w h => h.ent aEt) rfl (fun b7 _ => ?_)
  refine dBa ?_
  refine d_p 10 rfl (p_build (cs := [_, _, _]) rfl rfl pl_102 zr_102 rfl) (by kernel_rfl) rfl rfl ?_
  refine d_h 11 rfl (h_buildSlice (cs := [_, _, _]) rfl rfl sl_22 zr_102 rfl rfl rfl) (by kernel_rfl) (fun w h => h.ent aEt) rfl (fun b8 _ => ?_)
  refine dBa ?_
  refine d_h 12 rfl (h_appendS (LNd.vals (⟨(nth L k).us, b6.1, b6.2, (nth L k).es, b7.1, b7.2, (nth L k).cs⟩ : LNd)) rfl rfl rfl sl_22 Tryz.underlying22 zr_102 rfl aPk (src_blk aPk) rfl (nv1 _) (by omega) (by simp only [maxLen]; omega)) (by kernel_rfl) (fun w h => h.ent aEt) rfl (fun b9 _ => ?_)
  refine dTu [14] ?_
  refine dFa 13 ?_
  refine dSt 14 ?_ (hl := (by simp only [setMany_length, List.length_set, List.length_cons, List.length_nil, List.length_map]; omega))
  refine dTu [] ?_
  refine dNi ?_
  refine aS ?_
  refine s_weaken (L' := [(0, _), (1, _), (2, _), (3, _), (4, _), (6, _), (7, _), (8, _), (9, _), (10, _), (11, _), (12, _)]) aSx (fun _ h => h) ?_
  iterate 3 refine aS ?_
  try refine oWr ?_
  iterate 2 refine aS ?_
  exact s_backI (k + 1, (b9.1, b9.2), D ++ [⟨(nth L k).us, b6.1, b6.2, (nth L k).es, b7.1, b7.2, (nth L k).cs⟩]) (by (try simp only []); omega) ⟨by (try simp only []); omega, by simp [hk2], pln_take hkl hk3 rfl⟩ aSx (fun w h => by have h2 := HS.sub_app (sub := subN 26) (l := D) (x := (⟨(nth L k).us, b6.1, b6.2, (nth L k).es, b7.1, b7.2, (nth L k).cs⟩ : LNd)) (HS.star_close (Bs := [_, _]) (h.ent (Bs := [.own (.slice b6.1 (nth L k).es.length b6.2) 26 2 (nth L k).es.length ((nth L k).es.flatMap TEnt.vals), .own (.slice b7.1 (nth L k).cs.length b7.2) 3 1 (nth L k).cs.length ((nth L k).cs.flatMap inV), .star (D.map (subN 26)), .own (.slice b9.1 (D.length + 1) b9.2) 102 3 (D.length + 1) (D.flatMap LNd.vals ++ LNd.vals (⟨(nth L k).us, b6.1, b6.2, (nth L k).es, b7.1, b7.2, (nth L k).cs⟩ : LNd)), .blk b3 24 4 [.int .i64 co, .int .i64 mo, .int .i64 rm, .slice b9.1 (D.length + 1) b9.2], .blk b2 24 4 [.int .i64 0, .int .i64 0, .int .i64 0, .slice none 0 0], .blk b1 24 4 [.int .i64 co, .int .i64 mo, .int .i64 rm, .slice a L.length cap]]) aEt)); simp only [List.length_append, List.length_singleton, List.flatMap_append, List.flatMap_singleton]; exact h2.ent aEt)
 try simp only [decide_eq_false_iff_not] at h4
 obtain rfl : k = L.length := by omega
 have hD : pln D = pln L := by rw [hk3, ← pln_len L, List.take_length]
 refine s_exit_to rfl ?_
 iterate 3 refine aS ?_
 refine oSt ?_
 refine aS ?_
 exact s_retv (rs := [.cell 2 24]) rfl (.cell rfl sz_24 aPk rfl (.nil)) (fun w' h' => ⟨((ga, gc), D), by simp only [retV]; rw [hk2]; rfl, hD, by have h3 := HS.row_shut (a := ga) (cap := gc) (l := D) (sub := subN 26) (t := 102) (sz := 3) (vals := LNd.vals) (h'.ent (Bs := [.own (.slice ga D.length gc) 102 3 D.length (D.flatMap LNd.vals), .star (D.map (subN 26))]) aEt) rfl rfl; exact h3⟩)
end Go.Proofs
namespace Gx
set_option linter.unusedSimpArgs false
set_option linter.unusedVariables false
set_option linter.unusedSectionVars false
open Go Go.RowKit
theorem rw_take {α : Type} [Inhabited α] {vals : α → List Value} {sz : Nat} {w : World} {M : List Nat} {a : Option Addr} {l : List α} (h : Rw vals sz w M a l) (i : Nat) : Rw vals sz w M a (l.take i) :=
  ⟨fun hn => by
    rw [List.length_take] at hn
    obtain ⟨b, o, rfl, h2⟩ := h.at_ (by omega)
    refine ⟨b, o, rfl, fun j hj => ?_⟩
    rw [List.length_take] at hj
    have e : nth (l.take i) j = nth l j := nth_take (by omega)
    have h3 := h2 j (by omega)
    simp only [e]
    exact h3⟩
theorem plc_is {co : Int} {key : List UInt8} : ∀ {es : List TEnt} {k : Nat}, k ≤ es.length → (∀ q, q < k → cmpK co (nth es q).key key < 0) → ¬ (k < es.length ∧ cmpK co (nth es k).key key < 0) → plc co es key = k := by
  intro es k hk h1 h2
  have h3 := plc_le co key es
  rcases Nat.lt_trichotomy (plc co es key) k with h | h | h
  · exact absurd (h1 _ h) (plc_at co key es (by omega))
  · exact h
  · exact absurd ⟨by omega, plc_before co key es k h⟩ h2
end Gx
namespace Go.Proofs
open Go Go.RowKit Gx
set_option linter.unusedVariables false
set_option linter.unusedSimpArgs false
attribute [local irreducible] Go.Calls Gx.S Gx.O Gx.D Gx.OpP Gx.OpQ Gx.OpH
set_option maxRecDepth 20000
theorem fn_33 : isFn Tryz.prog 33 = true := by kernel_rfl
theorem c23 (w : World) (a b : Option Addr) (c d : Nat) (l m : List Int) (hs : Rw inV 1 w [] a l) (ht : Rw inV 1 w [] b m) (hl : l.length ≤ 100000) (hm : m.length ≤ 100000) : Calls Tryz.prog 23 #[.slice a l.length c, .slice b m.length d] w fun en w' => en = .returned (.bool (decide (l = m))) ∧ Below w.heap.size w w' := by
 refine enter (args := [_, _]) Tryz.func23 Tryz.ntmps23 rfl rfl (HS.refl w []) ?_
 iterate 13 refine aS ?_
 refine s_cond rfl (fun h1 => ?_) fun h1 => ?_
 ·try simp only [Bool.not_eq_true', decide_eq_false_iff_not] at h1
  have hn9 : l ≠ m := fun e => by have hq := h1; rw [e] at hq; simp at hq
  iterate 4 refine aS ?_
  exact s_retv (rs := [.tmp 4]) rfl (.tmp rfl (.nil)) (fun w' h' => ⟨by rw [decide_eq_false hn9]; rfl, h'.below⟩)
 try simp only [Bool.not_eq_false', decide_eq_true_eq] at h1
 have hlm : l.length = m.length := by have hq := h1; omega
 iterate 7 refine aS ?_
 refine s_loopI (α := Nat) [4, 5, 11, 12, 13, 14, 15, 16, 17, 18, 19, 20, 21, 22, 23, 24, 25] (fun k => [(5, .int .i64 (k : Int))]) (fun _ => HS w [] []) (fun k => k ≤ l.length ∧ ∀ j, j < k → nth l j = nth m j) (fun k => l.length - k) 0 ⟨Nat.zero_le _, fun j h => absurd h (Nat.not_lt_zero j)⟩ aSx (fun w h => h.ent aEt) (fun k hx => ?_)
 obtain ⟨hk1, hk3⟩ := hx
 iterate 8 refine aS ?_
 refine s_cond rfl (fun h2 => ?_) fun h2 => ?_
 ·try simp only [decide_eq_true_eq] at h2
  have hk : k < l.length := by omega
  have hk2 : k < m.length := by omega
  iterate 4 refine aS ?_
  refine s_draw [] mixed ?_
  refine dP 0 ?_
  refine dP 1 ?_
  refine d_p 2 rfl (p_indexAddr rfl rfl rfl sl_30 (k) (by omega) (by omega) (Rw.some hs (by omega))) (by kernel_rfl) rfl rfl ?_
  refine d_q 3 [] rfl (q_load_old rfl rfl sz_3 ((hs.rdj 0 (by omega) rfl))) (by kernel_rfl) (by kernel_rfl) (by kernel_rfl) rfl ?_
  refine dP 4 ?_
  refine dP 5 ?_
  refine d_p 6 rfl (p_indexAddr rfl rfl rfl sl_30 (k) (by omega) (by omega) (Rw.some ht (by omega))) (by kernel_rfl) rfl rfl ?_
  refine d_q 7 [] rfl (q_load_old rfl rfl sz_3 ((ht.rdj 0 (by omega) rfl))) (by kernel_rfl) (by kernel_rfl) (by kernel_rfl) rfl ?_
  refine dP 8 ?_
  refine dNi ?_
  refine s_cond rfl (fun h3 => ?_) fun h3 => ?_
  ·try simp only [Bool.not_eq_true', decide_eq_false_iff_not] at h3
   have hn9 : l ≠ m := fun e => by have hq := h3; rw [e] at hq; simp at hq
   iterate 4 refine aS ?_
   exact s_retv (rs := [.tmp 4]) rfl (.tmp rfl (.nil)) (fun w' h' => ⟨by rw [decide_eq_false hn9]; rfl, h'.below⟩)
  try simp only [Bool.not_eq_false', decide_eq_true_eq] at h3
  have he9 : nth l k = nth m k := by have hq := h3; exact hq
  iterate 5 refine aS ?_
  try refine oWr ?_
  iterate 2 refine aS ?_
  exact s_backI (k + 1) (by omega) ⟨by omega, fun j hj => (Nat.lt_or_ge j k).elim (hk3 j) (fun h9 => by obtain rfl : j = k := (by omega); exact he9)⟩ aSx (fun w h => h.ent aEt)
 try simp only [decide_eq_false_iff_not] at h2
 have hl9 : l = m := list_ext_nth hlm fun j hj => hk3 j (by omega)
 refine s_exit_to rfl ?_
 iterate 4 refine aS ?_
 exact s_retv (rs := [.tmp 4]) rfl (.tmp rfl (.nil)) (fun w' h' => ⟨by rw [decide_eq_true hl9]; rfl, h'.below⟩)
theorem c62 (w : World) (a : Option Addr) (cap : Nat) (l : List TEnt) (i : Nat) (x : TEnt) (hs : Rw TEnt.vals 2 w [] a l) (hl : l.length ≤ 100000) (hi : i ≤ l.length) (hlc : l.length ≤ cap) : Calls Tryz.prog 62 #[.slice a l.length cap, .int .i64 (i : Int), .agg #[.string (bs x.key), .string (bs x.val)]] w fun en w' => ∃ g : Option Addr × Nat, en = .returned (.slice g.1 (insAt l i x).length g.2) ∧ True ∧ HS w [] [.own (.slice g.1 (insAt l i x).length g.2) 26 2 (insAt l i x).length ((insAt l i x).flatMap TEnt.vals)] w' := by
 refine enter (args := [_, _, _]) Tryz.func62 Tryz.ntmps62 rfl rfl (HS.refl w []) ?_
 iterate 2 refine aS ?_
 refine oBx fun b1 _ => ?_
 iterate 4 refine aS ?_
 refine o_h (h_buildSlice0 rfl sl_77) rfl (fun b2 _ => ?_)
 iterate 2 refine aS ?_
 refine o_p (p_slice _ _ 0 i rfl rfl sl_77 rfl ⟨_, _, rfl, rfl⟩ (by omega) (by omega)) rfl ?_
 refine o_h (h_appendS ((l.take i).flatMap TEnt.vals) rfl rfl rfl sl_77 Tryz.underlying77 zr_26 rfl aPk (fun w h => Rw.src ev2 (rw_take (Rw.cut (i := 0) hs hlc) i) h) (by rw [flat_length ev2, List.length_take, Nat.min_eq_left hi]; first | rfl | omega) (flat_one ev1 _) (by omega) (by simp only [maxLen]; omega)) rfl (fun b3 _ => ?_)
 iterate 3 refine aS ?_
 refine s_draw [3, 7] mixed ?_
 refine dP 0 ?_
 refine dLn 1 [[2], [3, 2]] ?_
 refine dP 4 ?_
 refine dP 5 ?_
 refine d_p 6 rfl (p_slice _ _ i l.length rfl rfl sl_77 ⟨_, _, rfl, rfl⟩ rfl (by omega) (by omega)) (by kernel_rfl) rfl rfl ?_
 refine d_h 2 rfl (h_buildSlice (cs := [_, _]) rfl rfl sl_77 zr_26 rfl rfl rfl) (by kernel_rfl) (fun w h => h.ent aEt) rfl (fun b4 _ => ?_)
 refine dBa ?_
 refine d_h 3 rfl (h_appendS (TEnt.vals x) rfl rfl rfl sl_77 Tryz.underlying77 zr_26 rfl aPk (src_blk aPk) rfl (ev1 _) (by omega) (by simp only [maxLen]; omega)) (by kernel_rfl) (fun w h => h.ent aEt) rfl (fun b5 _ => ?_)
 refine dTu [7] ?_
 refine d_h 7 rfl (h_appendS ((l.drop i).flatMap TEnt.vals) rfl rfl rfl sl_77 Tryz.underlying77 zr_26 rfl aPk (fun w h => Rw.src ev2 (Rw.cut hs hlc) h) (by rw [flat_length ev2, List.length_drop]) (flat_one ev1 _) (by omega) (by simp only [maxLen]; omega)) (by kernel_rfl) (fun w h => h.ent aEt) rfl (fun b6 _ => ?_)
 refine dTu [] ?_
 refine dP 8 ?_
 refine dNi ?_
 exact s_retv (rs := [.tmp 6]) rfl (.tmp rfl (.nil)) (fun w' h' => ⟨b6, by simp only [retV]; congr 2; rw [ins_len hi]; omega, trivial, by have h2 := h'; rw [show 0 + (i - 0) + 1 + (l.length - i) = l.length + 1 by omega, List.nil_append] at h2; rw [ins_len hi, show (insAt l i x).flatMap TEnt.vals = (l.take i).flatMap TEnt.vals ++ TEnt.vals x ++ (l.drop i).flatMap TEnt.vals by simp [insAt]]; exact h2.ent aEt⟩)
theorem c101 (w : World) (a : Option Addr) (cap : Nat) (l : List Int) (i : Nat) (x : Int) (hs : Rw inV 1 w [] a l) (hl : l.length ≤ 100000) (hi : i ≤ l.length) (hlc : l.length ≤ cap) : Calls Tryz.prog 101 #[.slice a l.length cap, .int .i64 (i : Int), .int .i64 x] w fun en w' => ∃ g : Option Addr × Nat, en = .returned (.slice g.1 (insAt l i x).length g.2) ∧ True ∧ HS w [] [.own (.slice g.1 (insAt l i x).length g.2) 3 1 (insAt l i x).length ((insAt l i x).flatMap inV)] w' := by
 refine enter (args := [_, _, _]) Tryz.func101 Tryz.ntmps101 rfl rfl (HS.refl w []) ?_
 iterate 6 refine aS ?_
 refine o_h (h_buildSlice0 rfl sl_30) rfl (fun b1 _ => ?_)
 iterate 2 refine aS ?_
 refine o_p (p_slice _ _ 0 i rfl rfl sl_30 rfl ⟨_, _, rfl, rfl⟩ (by omega) (by omega)) rfl ?_
 refine o_h (h_appendS ((l.take i).flatMap inV) rfl rfl rfl sl_30 Tryz.underlying30 zr_3 rfl aPk (fun w h => Rw.src iv1 (rw_take (Rw.cut (i := 0) hs hlc) i) h) (by rw [flat_length iv1, List.length_take, Nat.min_eq_left hi]; first | rfl | omega) (flat_one iv1c _) (by omega) (by simp only [maxLen]; omega)) rfl (fun b2 _ => ?_)
 iterate 3 refine aS ?_
 refine s_draw [3, 7] mixed ?_
 refine dP 0 ?_
 refine dP 1 ?_
 refine dP 4 ?_
 refine dP 5 ?_
 refine d_p 6 rfl (p_slice _ _ i l.length rfl rfl sl_30 ⟨_, _, rfl, rfl⟩ rfl (by omega) (by omega)) (by kernel_rfl) rfl rfl ?_
 refine d_h 2 rfl (h_buildSlice (cs := [_]) rfl rfl sl_30 zr_3 rfl rfl rfl) (by kernel_rfl) (fun w h => h.ent aEt) rfl (fun b3 _ => ?_)
 refine dBa ?_
 refine d_h 3 rfl (h_appendS (inV x) rfl rfl rfl sl_30 Tryz.underlying30 zr_3 rfl aPk (src_blk aPk) rfl (iv1c _) (by omega) (by simp only [maxLen]; omega)) (by kernel_rfl) (fun w h => h.ent aEt) rfl (fun b4 _ => ?_)
 refine dTu [7] ?_
 refine d_h 7 rfl (h_appendS ((l.drop i).flatMap inV) rfl rfl rfl sl_30 Tryz.underlying30 zr_3 rfl aPk (fun w h => Rw.src iv1 (Rw.cut hs hlc) h) (by rw [flat_length iv1, List.length_drop]) (flat_one iv1c _) (by omega) (by simp only [maxLen]; omega)) (by kernel_rfl) (fun w h => h.ent aEt) rfl (fun b5 _ => ?_)
 refine dTu [] ?_
 refine dP 8 ?_
 refine dNi ?_
 exact s_retv (rs := [.tmp 6]) rfl (.tmp rfl (.nil)) (fun w' h' => ⟨b5, by simp only [retV]; congr 2; rw [ins_len hi]; omega, trivial, by have h2 := h'; rw [show 0 + (i - 0) + 1 + (l.length - i) = l.length + 1 by omega, List.nil_append] at h2; rw [ins_len hi, show (insAt l i x).flatMap inV = (l.take i).flatMap inV ++ inV x ++ (l.drop i).flatMap inV by simp [insAt]]; exact h2.ent aEt⟩)
theorem c61 (w : World) (j : Nat) (mo rm : Int) (a : Option Addr) (cap : Nat) (L : List LNd) (i : Nat) (key : List UInt8) (hj : j ≤ 3) (hi : i < L.length) (hs : Nt w [] a L) (hl : L.length ≤ 1000) (hel : (nth L i).es.length ≤ 1000) (hK : ∀ y ∈ (nth L i).es, keyOk (j : Int) y.key = true ∧ y.key.length ≤ 1000000) (hk : keyOk (j : Int) key = true) (hkl : key.length ≤ 1000000) : Calls Tryz.prog 61 #[.agg #[.int .i64 (j : Int), .int .i64 mo, .int .i64 rm, .slice a L.length cap], .int .i64 (i : Int), .string (bs key)] w fun en w' => en = .returned (.tuple #[.int .i64 ((plc (j : Int) (nth L i).es key) : Int), .bool (fnd (j : Int) (nth L i).es key)]) ∧ Below w.heap.size w w' := by
 refine enter (args := [_, _, _]) Tryz.func61 Tryz.ntmps61 rfl rfl (HS.refl w []) ?_
 iterate 2 refine aS ?_
 refine oBx fun b1 _ => ?_
 iterate 8 refine aS ?_
 refine o_p (p_indexAddr rfl rfl rfl sl_22 (i) (by omega) (by omega) (Rw.some hs.1 (by omega))) rfl ?_
 refine aS ?_
 refine o_q (q_load_old rfl rfl sz_77 ((hs.1.rdj 1 hi rfl))) rfl ?_
 iterate 8 refine aS ?_
 refine s_loopI (α := Nat) [9, 16, 17, 18, 19, 20, 21, 22, 23, 24, 25, 26, 27, 28, 29, 30, 31, 32, 33] (fun k => [(9, .int .i64 (k : Int))]) (fun _ => HS w [] [.blk b1 24 4 [.int .i64 (j : Int), .int .i64 mo, .int .i64 rm, .slice a L.length cap]]) (fun k => k ≤ (nth L i).es.length ∧ ∀ q, q < k → cmpK (j : Int) (nth (nth L i).es q).key key < 0) (fun k => (nth L i).es.length - k) 0 ⟨Nat.zero_le _, fun j h => absurd h (Nat.not_lt_zero j)⟩ aSx (fun w h => h.ent aEt) (fun k hx => ?_)
 obtain ⟨hk1, hk3⟩ := hx
 iterate 2 refine aS ?_
 refine s_cutI (α := Bool) [16, 17, 18, 19, 20, 21, 22, 23, 24, 25, 26, 27, 28, 29, 30, 31] (fun x => [(31, .bool x)]) (fun _ => HS w [] [.blk b1 24 4 [.int .i64 (j : Int), .int .i64 mo, .int .i64 rm, .slice a L.length cap]]) (fun x => x = true ↔ (k < (nth L i).es.length ∧ cmpK (j : Int) (nth (nth L i).es k).key key < 0)) ?_ ?_
 ·skip
  refine s_draw [] mixed ?_
  refine dP 0 ?_
  refine dP 1 ?_
  refine d_p 2 rfl (p_len_slice rfl rfl Tryz.underlying77) (by kernel_rfl) rfl rfl ?_
  refine dP 3 ?_
  refine dP 4 ?_
  apply d_split 20
  ·exact rfl
  ·intro hg2
   have hs3 := hg2; try simp only [decide_eq_true_eq] at hs3
   refine dFo 5 20 hg2 ?_
   refine d_qon 6 20 [] rfl rfl rfl hg2 (q_load rfl rfl sz_3 aPk rfl) (by kernel_rfl) (by kernel_rfl) (by kernel_rfl) rfl ?_
   refine dPo 7 20 hg2 ?_
   refine dPo 8 20 hg2 ?_
   refine d_pon 9 20 rfl rfl rfl hg2 (p_indexAddr rfl rfl rfl sl_77 (k) (by omega) (by omega) (Rw.some (hs.es hi) (by omega))) (by kernel_rfl) rfl rfl ?_
   refine dFo 10 20 hg2 ?_
   refine d_qon 11 20 [] rfl rfl rfl hg2 (q_load_old rfl rfl sz_9 (((hs.es hi).rdj 0 (by omega) rfl))) (by kernel_rfl) (by kernel_rfl) (by kernel_rfl) rfl ?_
   refine dPo 12 20 hg2 ?_
   refine d_qon 13 20 [] rfl rfl rfl hg2 (q_call rfl fn_33 rfl (fun w1 h1 => c33 w1 j (nth (nth L i).es k).key key hj (hK _ (mem_nth (by omega))).1 hk (hK _ (mem_nth (by omega))).2 hkl)) (by kernel_rfl) (by kernel_rfl) (by kernel_rfl) rfl ?_
   refine dPo 14 20 hg2 ?_
   refine d_p 15 rfl (p_pickt rfl rfl hg2 rfl) (by kernel_rfl) rfl rfl ?_
   refine dNi ?_
   exact s_joinI (decide (cmpK (j : Int) (nth (nth L i).es k).key key < 0)) (by rw [decide_eq_true_eq]; omega) aSx (fun w h => h.ent aEt)
  intro hg4
  have hs5 := hg4; try simp only [decide_eq_false_iff_not] at hs5
  refine dOf 5 20 hg4 ?_
  refine dOf 6 20 hg4 ?_
  refine dOf 7 20 hg4 ?_
  refine dOf 8 20 hg4 ?_
  refine dOf 9 20 hg4 ?_
  refine dOf 10 20 hg4 ?_
  refine dOf 11 20 hg4 ?_
  refine dOf 12 20 hg4 ?_
  refine dOf 13 20 hg4 ?_
  refine dOf 14 20 hg4 ?_
  refine d_p 15 rfl (p_pickf rfl rfl hg4 rfl) (by kernel_rfl) rfl rfl ?_
  refine dNi ?_
  exact s_joinI false (by constructor <;> intro h9 <;> first | (cases h9; done) | omega) aSx (fun w h => h.ent aEt)
 intro x hx
 refine s_cond rfl (fun h6 => ?_) fun h6 => ?_
 ·skip
  obtain ⟨hk5, hk6⟩ := hx.1 (by assumption)
  iterate 5 refine aS ?_
  try refine oWr ?_
  iterate 3 refine aS ?_
  exact s_backI (k + 1) (by omega) ⟨by omega, fun q hq => (Nat.lt_or_ge q k).elim (hk3 q) (fun h9 => by obtain rfl : q = k := (by omega); exact hk6)⟩ aSx (fun w h => h.ent aEt)
 skip
 have hno : ¬ (k < (nth L i).es.length ∧ cmpK (j : Int) (nth (nth L i).es k).key key < 0) := fun h9 => by have h8 := hx.2 h9; simp_all
 have hpk : (plc (j : Int) (nth L i).es key) = k := plc_is hk1 hk3 hno
 refine s_exit_to rfl ?_
 refine aS ?_
 refine s_draw [] mixed ?_
 refine dP 0 ?_
 refine dP 1 ?_
 refine dP 2 ?_
 refine d_p 3 rfl (p_len_slice rfl rfl Tryz.underlying77) (by kernel_rfl) rfl rfl ?_
 refine dP 4 ?_
 refine dP 5 ?_
 apply d_split 39
 ·exact rfl
 ·intro hg7
  have hs8 := hg7; try simp only [decide_eq_true_eq] at hs8
  refine dFo 6 39 hg7 ?_
  refine d_qon 7 39 [] rfl rfl rfl hg7 (q_load rfl rfl sz_3 aPk rfl) (by kernel_rfl) (by kernel_rfl) (by kernel_rfl) rfl ?_
  refine dPo 8 39 hg7 ?_
  refine dPo 9 39 hg7 ?_
  refine d_pon 10 39 rfl rfl rfl hg7 (p_indexAddr rfl rfl rfl sl_77 (k) (by omega) (by omega) (Rw.some (hs.es hi) (by omega))) (by kernel_rfl) rfl rfl ?_
  refine dFo 11 39 hg7 ?_
  refine d_qon 12 39 [] rfl rfl rfl hg7 (q_load_old rfl rfl sz_9 (((hs.es hi).rdj 0 (by omega) rfl))) (by kernel_rfl) (by kernel_rfl) (by kernel_rfl) rfl ?_
  refine dPo 13 39 hg7 ?_
  refine d_qon 14 39 [] rfl rfl rfl hg7 (q_call rfl fn_33 rfl (fun w1 h1 => c33 w1 j (nth (nth L i).es k).key key hj (hK _ (mem_nth (by omega))).1 hk (hK _ (mem_nth (by omega))).2 hkl)) (by kernel_rfl) (by kernel_rfl) (by kernel_rfl) rfl ?_
  refine dPo 15 39 hg7 ?_
  refine d_p 16 rfl (p_pickt rfl rfl hg7 rfl) (by kernel_rfl) rfl rfl ?_
  refine dP 17 ?_
  refine dP 18 ?_
  refine dNi ?_
  exact s_retv (rs := [.tmp 6, .tmp 7]) rfl (.tmp rfl (.tmp rfl (.nil))) (fun w' h' => ⟨by simp only [retV, fnd]; rw [hpk]; first | (rw [decide_eq_true (show k < (nth L i).es.length by omega)]; rfl) | (rw [decide_eq_false (show ¬ k < (nth L i).es.length by omega)]; rfl), h'.below⟩)
 intro hg9
 have hs10 := hg9; try simp only [decide_eq_false_iff_not] at hs10
 refine dOf 6 39 hg9 ?_
 refine dOf 7 39 hg9 ?_
 refine dOf 8 39 hg9 ?_
 refine dOf 9 39 hg9 ?_
 refine dOf 10 39 hg9 ?_
 refine dOf 11 39 hg9 ?_
 refine dOf 12 39 hg9 ?_
 refine dOf 13 39 hg9 ?_
 refine dOf 14 39 hg9 ?_
 refine dOf 15 39 hg9 ?_
 refine d_p 16 rfl (p_pickf rfl rfl hg9 rfl) (by kernel_rfl) rfl rfl ?_
 refine dP 17 ?_
 refine dP 18 ?_
 refine dNi ?_
 exact s_retv (rs := [.tmp 6, .tmp 7]) rfl (.tmp rfl (.tmp rfl (.nil))) (fun w' h' => ⟨by simp only [retV, fnd]; rw [hpk]; first | (rw [decide_eq_true (show k < (nth L i).es.length by omega)]; rfl) | (rw [decide_eq_false (show ¬ k < (nth L i).es.length by omega)]; rfl), h'.below⟩)
end Go.Proofs
namespace Gx
set_option linter.unusedSimpArgs false
set_option linter.unusedVariables false
set_option linter.unusedSectionVars false
open Go Go.RowKit
abbrev LNd.fre : LNd := ⟨true, none, 0, [], none, 0, []⟩
section
variable {w0 w : World} {M : List Nat} {As A1 A2 A3 : List HA} {et : Nat} {L : List LNd} {i j gn cap nt' : Nat}
theorem HS.node_fre (hi : i < L.length) (h : HS w0 M As w)
    (hp : Pick As (.blk gn nt' (cap * 3) (setMany (L.flatMap LNd.vals) (i * 3) [.bool true, .slice none 0 0, .slice none 0 0])) A1) (hp3 : Pick A1 (.star (L.map (subN et))) A3) :
    ∃ L', NdSet L L' i LNd.fre ∧ HS w0 M (.blk gn nt' (cap * 3) (L'.flatMap LNd.vals) :: .star (L'.map (subN et)) :: A3) w := by
  refine ⟨_, ⟨hi, rfl⟩, ?_⟩
  rw [← node_set3 hi]
  have h1 := (((h.pick hp).node_out hi (.there hp3)).tail.tail.own_nil 3 1).own_nil et 2
  exact (HS.node_in hi LNd.fre h1).perm (List.Perm.swap ..)
end
section
variable {w0 w : World} {M : List Nat} {As A1 A2 A3 : List HA} {et : Nat} {L : List LNd} {i gn cap nt' : Nat}
theorem HS.es_setN (hi : i < L.length) {ea : Option Addr} {ec n : Nat} {es : List TEnt} {xs : List Value} (hn : n = es.length) (hx : xs = es.flatMap TEnt.vals) (h : HS w0 M As w) (hp : Pick As (.blk gn nt' (cap * 3) (setMany (L.flatMap LNd.vals) (i * 3 + 1) [.slice ea n ec])) A1) (hp2 : Pick A1 (.own (.slice ea n ec) et 2 n xs) A2) (hp3 : Pick A2 (.star (L.map (subN et))) A3) :
    ∃ L', NdSet L L' i { nth L i with ea := ea, ec := ec, es := es } ∧ HS w0 M (.blk gn nt' (cap * 3) (L'.flatMap LNd.vals) :: .star (L'.map (subN et)) :: A3) w := by
  subst hn hx
  exact HS.es_set hi h hp hp2 hp3
theorem HS.cs_setN (hi : i < L.length) {ca : Option Addr} {cc n : Nat} {cs : List Int} {xs : List Value} (hn : n = cs.length) (hx : xs = cs.flatMap inV) (h : HS w0 M As w) (hp : Pick As (.blk gn nt' (cap * 3) (setMany (L.flatMap LNd.vals) (i * 3 + 2) [.slice ca n cc])) A1) (hp2 : Pick A1 (.own (.slice ca n cc) 3 1 n xs) A2) (hp3 : Pick A2 (.star (L.map (subN et))) A3) :
    ∃ L', NdSet L L' i { nth L i with ca := ca, cc := cc, cs := cs } ∧ HS w0 M (.blk gn nt' (cap * 3) (L'.flatMap LNd.vals) :: .star (L'.map (subN et)) :: A3) w := by
  subst hn hx
  exact HS.cs_set hi h hp hp2 hp3
end
theorem cs_rowE {w : World} {n m : LNd} (he : n.ca = m.ca ∧ n.cc = m.cc ∧ n.cs = m.cs) (h : Rw inV 1 w [] n.ca n.cs) : Rw inV 1 w [] m.ca m.cs := by
  rw [← he.1, ← he.2.2]
  exact h
def frsI (ns : List Nd) : Nat → Nat → Nat
  | 0, i => i
  | f + 1, i => if i < ns.length then if (nth ns i).us = true then frsI ns f (i + 1) else i else i
def frsX (ns : List Nd) : Nat := frsI ns ns.length 1
def frsN (ns : List Nd) : Nat × List Nd := if frsX ns < ns.length then (frsX ns, ns.set (frsX ns) ⟨true, [], []⟩) else (ns.length, ns ++ [⟨true, [], []⟩])
theorem frsI_le (ns : List Nd) : ∀ f i, i ≤ ns.length → frsI ns f i ≤ ns.length
  | 0, i, h => h
  | f + 1, i, h => by
    rw [frsI]
    split
    · split
      · exact frsI_le ns f (i + 1) (by omega)
      · exact h
    · exact h
theorem frsI_ge (ns : List Nd) : ∀ f i, i ≤ frsI ns f i
  | 0, i => Nat.le_refl _
  | f + 1, i => by
    rw [frsI]
    split
    · split
      · exact Nat.le_of_succ_le (frsI_ge ns f (i + 1))
      · exact Nat.le_refl _
    · exact Nat.le_refl _
theorem frsN_ge {ns : List Nd} (h0 : 0 < ns.length) : 1 ≤ (frsN ns).1 := by
  unfold frsN
  split
  · exact frsI_ge ns _ 1
  · exact h0
theorem frsN_lt (ns : List Nd) : (frsN ns).1 < (frsN ns).2.length := by
  unfold frsN
  split
  · simpa using ‹_›
  · simp
theorem frsN_len (ns : List Nd) : ns.length ≤ (frsN ns).2.length ∧ (frsN ns).2.length ≤ ns.length + 1 := by
  unfold frsN
  split
  · simp
  · simp
theorem frsI_us (ns : List Nd) : ∀ f i, frsI ns f i < ns.length → ns.length < i + f → (nth ns (frsI ns f i)).us = false
  | 0, i, h, hf => by
    rw [frsI] at h
    omega
  | f + 1, i, h, hf => by
    rw [frsI] at h ⊢
    split
    · rename_i h1
      rw [if_pos h1] at h
      split
      · rename_i h2
        rw [if_pos h2] at h
        exact frsI_us ns f (i + 1) h (by omega)
      · rename_i h2
        simpa using h2
    · rename_i h1
      rw [if_neg h1] at h
      omega
theorem frsN_ne {ns : List Nd} {i : Nat} (hi : i < ns.length) (hu : (nth ns i).us = true) : (frsN ns).1 ≠ i := by
  unfold frsN
  split
  · rename_i h
    intro e
    have h2 := frsI_us ns ns.length 1 h (by omega)
    rw [show frsI ns ns.length 1 = i from e, hu] at h2
    cases h2
  · simp only []
    omega
theorem frsN_nth {ns : List Nd} {i : Nat} (hi : i < ns.length) (hne : (frsN ns).1 ≠ i) : nth (frsN ns).2 i = nth ns i := by
  unfold frsN at hne ⊢
  split
  · rename_i h
    rw [if_pos h] at hne
    rw [nth_set_nd, if_neg (fun e => hne e.1)]
  · apply nth_eq
    simp only []
    rw [List.getElem?_append_left hi]
    exact nth_get hi
def ixR (cs : List Int) (c : Int) : Nat := if ixB (hasC cs c) < cs.length then ixB (hasC cs c) else 0
def splRA (mo : Int) (ns : List Nd) (i : Nat) : List Nd :=
  let F := (frsN ns).2; let o := (frsN ns).1; let x := nth F i
  let n := esN (esN F o (x.es.drop (splM mo + 1))) i (x.es.take (splM mo))
  if x.cs.length = 0 then n else csN (csN n o (x.cs.drop (splM mo + 1))) i (x.cs.take (splM mo + 1))
def splR (mo : Int) (ns : List Nd) (p i : Nat) : List Nd := addP (splRA mo ns i) p (ixR (nth (splRA mo ns i) p).cs (i : Int)) (nth (nth (frsN ns).2 i).es (splM mo)) (frsN ns).1
def lowR (ns : List Nd) : Nat × List Nd := ((frsN ns).1, csN (esN (csN (esN (frsN ns).2 (frsN ns).1 (nth (frsN ns).2 0).es) (frsN ns).1 (nth (frsN ns).2 0).cs) 0 []) 0 [((frsN ns).1 : Int)])
def grwRW (mo : Int) (P : List Nat) : Nat → List Nd → List Nd
  | 0, ns => ns
  | k + 1, ns => grwRW mo P k (if mo < ((nth ns (nth P (k + 1))).es.length : Int) then splR mo ns (nth P k) (nth P (k + 1)) else ns)
def grwRR (mo rm : Int) (ns : List Nd) : List Nd := if rm < ((nth ns 0).es.length : Int) then if mo < ((nth (lowR ns).2 (lowR ns).1).es.length : Int) then splR mo (lowR ns).2 0 (lowR ns).1 else (lowR ns).2 else ns
def insR (co mo rm : Int) (ns : List Nd) (x : TEnt) : List Nd :=
  let P := (pathN co ns x.key).1; let lf := lastN P
  grwRR mo rm (grwRW mo P (P.length - 1) (esN ns lf (insAt (nth ns lf).es (plc co (nth ns lf).es x.key) x)))
structure SpROk (mo : Int) (ns : List Nd) (p i : Nat) : Prop where
  mo0 : 0 ≤ mo ∧ mo ≤ 1000
  len : ns.length ≤ 900
  sm : Sm 900 ns
  lt : i < ns.length
  us : (nth ns i).us = true
  es : splM mo < (nth ns i).es.length
  cs : (nth ns i).cs.length = 0 ∨ splM mo + 1 ≤ (nth ns i).cs.length
  par : p < ns.length
  parE : ixR (nth (splRA mo ns i) p).cs (i : Int) ≤ (nth (splRA mo ns i) p).es.length
  parC : ixR (nth (splRA mo ns i) p).cs (i : Int) + 1 ≤ (nth (splRA mo ns i) p).cs.length
def GrwROk (mo : Int) (P : List Nat) : Nat → List Nd → Prop
  | 0, _ => True
  | k + 1, ns => (nth P (k + 1) < ns.length ∧ (mo < ((nth ns (nth P (k + 1))).es.length : Int) → SpROk mo ns (nth P k) (nth P (k + 1)))) ∧ GrwROk mo P k (if mo < ((nth ns (nth P (k + 1))).es.length : Int) then splR mo ns (nth P k) (nth P (k + 1)) else ns)
structure RootROk (mo rm : Int) (ns : List Nd) : Prop where
  lt : 0 < ns.length
  len : ns.length ≤ 900
  us : (nth ns 0).us = true
  spl : rm < ((nth ns 0).es.length : Int) → mo < ((nth (lowR ns).2 (lowR ns).1).es.length : Int) → SpROk mo (lowR ns).2 0 (lowR ns).1
structure InsROk (co mo rm : Int) (ns : List Nd) (x : TEnt) : Prop where
  ne : 0 < (pathN co ns x.key).1.length
  len : (pathN co ns x.key).1.length ≤ 900
  lf : lastN (pathN co ns x.key).1 < ns.length
  grw : GrwROk mo (pathN co ns x.key).1 ((pathN co ns x.key).1.length - 1) (esN ns (lastN (pathN co ns x.key).1) (insAt (nth ns (lastN (pathN co ns x.key).1)).es (plc co (nth ns (lastN (pathN co ns x.key).1)).es x.key) x))
  root : RootROk mo rm (grwRW mo (pathN co ns x.key).1 ((pathN co ns x.key).1.length - 1) (esN ns (lastN (pathN co ns x.key).1) (insAt (nth ns (lastN (pathN co ns x.key).1)).es (plc co (nth ns (lastN (pathN co ns x.key).1)).es x.key) x)))
theorem Sm.frs {m : Nat} {ns : List Nd} (h : Sm m ns) : Sm m (frsN ns).2 := by
  unfold frsN
  split
  · exact h.set _ _ ⟨Nat.zero_le _, Nat.zero_le _⟩
  · exact h.app _ ⟨Nat.zero_le _, Nat.zero_le _⟩
theorem Sm.splRA {m : Nat} {ns : List Nd} (h : Sm m ns) (mo : Int) (i : Nat) : Sm m (splRA mo ns i) := by
  have h1 := h.frs
  have e1 := (h1 i).1
  have e2 := (h1 i).2
  have h2 := (h1.es (frsN ns).1 (es := (nth (frsN ns).2 i).es.drop (splM mo + 1)) (by rw [List.length_drop]; omega)).es i (es := (nth (frsN ns).2 i).es.take (splM mo)) (by rw [List.length_take]; omega)
  unfold Gx.splRA
  simp only []
  split
  · exact h2
  · exact (h2.cs _ (by rw [List.length_drop]; omega)).cs _ (by rw [List.length_take]; omega)
theorem splRA_0 {mo : Int} {ns F : List Nd} {i : Nat} {x : Nd} (hF : (frsN ns).2 = F) (hx : nth F i = x) (h : x.cs.length = 0) : splRA mo ns i = esN (esN F (frsN ns).1 (x.es.drop (splM mo + 1))) i (x.es.take (splM mo)) := by
  subst hF hx
  exact if_pos h
theorem splRA_1 {mo : Int} {ns F : List Nd} {i : Nat} {x : Nd} (hF : (frsN ns).2 = F) (hx : nth F i = x) (h : ¬ x.cs.length = 0) : splRA mo ns i = csN (csN (esN (esN F (frsN ns).1 (x.es.drop (splM mo + 1))) i (x.es.take (splM mo))) (frsN ns).1 (x.cs.drop (splM mo + 1))) i (x.cs.take (splM mo + 1)) := by
  subst hF hx
  exact if_neg h
end Gx
namespace Go.Proofs
open Go Go.RowKit Gx
set_option linter.unusedVariables false
set_option linter.unusedSimpArgs false
attribute [local irreducible] Go.Calls Gx.S Gx.O Gx.D Gx.OpP Gx.OpQ Gx.OpH
set_option maxRecDepth 20000
theorem fn_61 : isFn Tryz.prog 61 = true := by kernel_rfl
theorem c20 (w : World) (j : Nat) (mo rm : Int) (a : Option Addr) (cap : Nat) (L : List LNd) (key : List UInt8) (hj : j ≤ 3) (h0 : 0 < L.length) (hB : Bd (pln L)) (hT : TOk (j : Int) (pln L)) (hs : Nt w [] a L) (hk : keyOk (j : Int) key = true) (hkl : key.length ≤ 1000000) : Calls Tryz.prog 20 #[.agg #[.int .i64 (j : Int), .int .i64 mo, .int .i64 rm, .slice a L.length cap], .string (bs key)] w fun en w' => ∃ g : Option Addr × Nat, en = .returned (.tuple #[.slice g.1 (pathN (j : Int) (pln L) key).1.length g.2, .bool (pathN (j : Int) (pln L) key).2.2]) ∧ True ∧ HS w [] [.own (.slice g.1 ((pathN (j : Int) (pln L) key).1).length g.2) 3 1 ((pathN (j : Int) (pln L) key).1).length (((pathN (j : Int) (pln L) key).1).map fun i : Nat => Value.int .i64 (i : Int))] w' := by
 have hK : ∀ i, i < L.length → ∀ y ∈ (nth L i).es, keyOk (j : Int) y.key = true ∧ y.key.length ≤ 1000000 := fun i hi y hy => tok_key hT i (by rw [pln_len]; exact hi) y (by rw [pln_nth hi]; exact hy)
 refine enter (args := [_, _]) Tryz.func20 Tryz.ntmps20 rfl rfl (HS.refl w []) ?_
 iterate 2 refine aS ?_
 refine oBx fun b1 _ => ?_
 iterate 9 refine aS ?_
 refine o_h (h_buildSlice (cs := [_]) rfl rfl sl_30 zr_3 rfl rfl rfl) rfl (fun b2 _ => ?_)
 iterate 3 refine aS ?_
 refine s_loopI (α := (Option Addr × Nat) × List Nat × Nat × Nat) [4, 5, 6, 7, 8, 9, 11, 12, 13, 14, 15, 16, 17, 18, 19, 20, 21, 22, 23, 24, 25, 26, 27, 28, 29, 30, 31, 32, 33, 34, 35, 36, 37, 38, 39, 40, 41, 42, 43] (fun x => [(7, .slice x.1.1 (x.2.1 ++ [x.2.2.1]).length x.1.2), (6, .int .i64 (x.2.2.1 : Int))]) (fun x => HS w [] [.own (.slice x.1.1 (x.2.1 ++ [x.2.2.1]).length x.1.2) 3 1 (x.2.1 ++ [x.2.2.1]).length ((x.2.1 ++ [x.2.2.1]).map fun i : Nat => Value.int .i64 (i : Int)), .blk b1 24 4 [.int .i64 (j : Int), .int .i64 mo, .int .i64 rm, .slice a L.length cap]]) (fun x => x.2.2.1 < L.length ∧ x.2.1.length + x.2.2.2 = L.length ∧ Gx.Way (pln L) (x.2.2.1 :: x.2.1.reverse) ∧ (pathN (j : Int) (pln L) key) = (x.2.1 ++ (pthN (j : Int) (pln L) key x.2.2.2 x.2.2.1).1, (pthN (j : Int) (pln L) key x.2.2.2 x.2.2.1).2)) (fun x => x.2.2.2) ((some ⟨b2, 0, none⟩, 1), [], 0, L.length) ⟨h0, by simp, rfl, by rw [pathN, pln_len]; rfl⟩ aSx (fun w h => (HS.own_shut (t := 3) (sz := 1) (n := 1) (cap := 1) (h.pick (A := .blk b2 3 (1 * 1) [.int .i64 0]) aPk) rfl (by decide) (by decide)).ent aEt) (fun ⟨⟨ga, gc⟩, P, i, f⟩ hx => ?_)
 dsimp only
 obtain ⟨hi, hlen, hway, hpath⟩ := hx
 simp only [] at hi hlen hway hpath
 have hwl := way_len hT (by rw [pln_len]; exact h0) hway
 simp only [List.length_cons, List.length_reverse, pln_len] at hwl
 obtain ⟨f, rfl⟩ : ∃ f9, f = f9 + 1 := ⟨f - 1, by omega⟩
 have hni := pln_nth hi
 have hle := hB.len
 rw [pln_len] at hle
 have hes9 := hB.es i (by rw [pln_len]; exact hi)
 have hcs9 := hB.cs i (by rw [pln_len]; exact hi)
 rw [hni] at hes9 hcs9
 have hPl : (P ++ [i]).length = P.length + 1 := by simp
 iterate 6 refine aS ?_
 refine o_q (q_call rfl fn_61 rfl (fun w1 h1 => c61 w1 j mo rm a cap L i key hj hi (hs.later h1.nil) (by omega) hes9 (hK i hi) hk hkl)) rfl ?_
 iterate 11 refine aS ?_
 refine o_or 9 19 28 _ _ rfl
  (by
   intro hg3
   have hs4 := hg3; skip
   refine oOn 19 hg3 ?_
   refine aS ?_
   refine oOn 19 hg3 ?_
   refine aS ?_
   refine oOn 19 hg3 ?_
   refine aS ?_
   refine oOn 19 hg3 ?_
   refine o_p (p_indexAddr rfl rfl rfl sl_22 (i) (by omega) (by omega) (Rw.some hs.1 (by omega))) rfl ?_
   refine oOn 19 hg3 ?_
   refine aS ?_
   refine oOn 19 hg3 ?_
   refine o_q (q_load_old rfl rfl sz_30 ((hs.1.rdj 2 hi rfl))) rfl ?_
   refine oOn 19 hg3 ?_
   refine aS ?_
   refine oOn 19 hg3 ?_
   refine aS ?_
   refine o_p (p_pickf rfl rfl hg3 rfl) rfl ?_
   refine aS ?_
   exact oJn 9 28)
  (by
   intro hg5
   have hs6 := hg5; skip
   refine oOf 19 hg5 ?_
   refine oOf 19 hg5 ?_
   refine oOf 19 hg5 ?_
   refine oOf 19 hg5 ?_
   refine oOf 19 hg5 ?_
   refine oOf 19 hg5 ?_
   refine oOf 19 hg5 ?_
   refine oOf 19 hg5 ?_
   refine o_p (p_pickt rfl rfl hg5 rfl) rfl ?_
   refine aS ?_
   exact oJn 9 28) ?_
 refine aS ?_
 refine s_cond rfl (fun h7 => ?_) fun h7 => ?_
 ·try simp only [Bool.or_eq_true, decide_eq_true_eq] at h7
  have hst : fnd (j : Int) (nth (pln L) i).es key = true ∨ (nth (pln L) i).cs.length = 0 := by rw [hni]; have hq := h7; first | exact hq | (simp at hq; simpa [LNd.pl] using hq)
  iterate 7 refine aS ?_
  exact s_retv (rs := [.tmp 4, .tmp 5]) rfl (.tmp rfl (.tmp rfl (.nil))) (fun w' h' => ⟨(ga, gc), by rw [hpath, pthN_stop hst, hni]; rfl, trivial, by rw [hpath, pthN_stop hst]; exact h'.ent aEt⟩)
 try simp only [Bool.or_eq_false_iff, decide_eq_false_iff_not] at h7
 have hst : ¬ (fnd (j : Int) (nth (pln L) i).es key = true ∨ (nth (pln L) i).cs.length = 0) := by rw [hni]; have hq := h7; first | exact hq | (simp at hq; simpa [LNd.pl] using hq)
 have hcl : (nth L i).cs.length = (nth L i).es.length + 1 := by rcases hT.shape i (by rw [pln_len]; exact hi) with h9 | h9; exact absurd (.inr h9) hst; rw [hni] at h9; exact h9
 have hple := plc_le (j : Int) key (nth L i).es
 have hpk : plc (j : Int) (nth L i).es key < (nth L i).cs.length := by omega
 have hkid := kid_in hT (by rw [pln_len]; exact hi) (i := i) (k := plc (j : Int) (nth L i).es key) (by rw [hni]; exact hpk)
 rw [hni, pln_len] at hkid
 simp only [LNd.pl] at hkid
 have hway2 := way_kid hway (by rw [pln_len]; exact hi) (k := plc (j : Int) (nth L i).es key) (by rw [hni]; exact hpk) (by rw [hni]; simp only [LNd.pl]; omega)
 rw [hni] at hway2
 simp only [LNd.pl] at hway2
 iterate 6 refine aS ?_
 refine o_p (p_indexAddr rfl rfl rfl sl_22 (i) (by omega) (by omega) (Rw.some hs.1 (by omega))) rfl ?_
 refine aS ?_
 refine o_q (q_load_old rfl rfl sz_30 ((hs.1.rdj 2 hi rfl))) rfl ?_
 refine aS ?_
 refine o_p (p_indexAddr rfl rfl rfl sl_30 (plc (j : Int) (nth L i).es key) (by omega) (by omega) (Rw.some (hs.cs hi) (by omega))) rfl ?_
 refine o_q (q_load_old rfl rfl sz_3 (((hs.cs hi).rdj 0 (i := plc (j : Int) (nth L i).es key) hpk rfl))) rfl ?_
 iterate 5 refine aS ?_
 refine o_h (h_buildSlice (cs := [_]) rfl rfl sl_30 zr_3 rfl rfl rfl) rfl (fun b8 _ => ?_)
 refine o_h (h_appendS [_] rfl rfl rfl sl_30 Tryz.underlying30 zr_3 rfl aPk (src_blk aPk) rfl (by intro u hu; simp only [List.mem_cons, List.mem_nil_iff, or_false] at hu; subst hu; rfl) (by omega) (by simp only [maxLen]; omega)) rfl (fun b9 _ => ?_)
 iterate 3 refine aS ?_
 exact s_backI ((b9.1, b9.2), P ++ [i], ((nth L i).cs.getD (plc (j : Int) (nth L i).es key) 0).toNat, f) (by (try simp only []); omega) ⟨by simp only []; omega, by simp only [List.length_append, List.length_singleton]; omega, by simp only [List.reverse_append, List.reverse_singleton, List.singleton_append]; exact hway2, by simp only []; rw [hpath, pthN_step hst]; simp [hni, LNd.pl]⟩ (by simp only [List.length_append (bs := [((nth L i).cs.getD (plc (j : Int) (nth L i).es key) 0).toNat]), List.length_singleton]; rw [Int.toNat_of_nonneg (by omega)]; exact aSx) (fun w h => by have h2 := h; simp only [List.length_append (bs := [((nth L i).cs.getD (plc (j : Int) (nth L i).es key) 0).toNat]), List.length_singleton, List.map_append (l₂ := [((nth L i).cs.getD (plc (j : Int) (nth L i).es key) 0).toNat]), List.map_cons, List.map_nil]; rw [Int.toNat_of_nonneg (by omega)]; exact h2.ent aEt)
theorem c100 (w : World) (j : Nat) (mo rm : Int) (a : Option Addr) (cap : Nat) (L : List LNd) (p : Nat) (c : Int) (hp : p < L.length) (hs : Nt w [] a L) (hl : L.length ≤ 1000) (hcl : (nth L p).cs.length ≤ 1000) : Calls Tryz.prog 100 #[.agg #[.int .i64 (j : Int), .int .i64 mo, .int .i64 rm, .slice a L.length cap], .int .i64 (p : Int), .int .i64 c] w fun en w' => en = .returned (.int .i64 (ixR (nth L p).cs c : Int)) ∧ Below w.heap.size w w' := by
 refine enter (args := [_, _, _]) Tryz.func100 Tryz.ntmps100 rfl rfl (HS.refl w []) ?_
 iterate 2 refine aS ?_
 refine oBx fun b1 _ => ?_
 iterate 8 refine aS ?_
 refine s_loopI (α := Nat) [6, 7, 8, 9, 10, 11, 12, 13, 14, 15, 16, 17, 18, 19, 20, 21, 22, 23, 24, 25, 26, 27, 28, 29, 30] (fun k => [(7, .int .i64 (k : Int))]) (fun _ => HS w [] [.blk b1 24 4 [.int .i64 (j : Int), .int .i64 mo, .int .i64 rm, .slice a L.length cap]]) (fun k => k ≤ (nth L p).cs.length ∧ ∀ q, q < k → (hasC (nth L p).cs c).getD q false = false) (fun k => (nth L p).cs.length - k) 0 ⟨Nat.zero_le _, fun j h => absurd h (Nat.not_lt_zero j)⟩ aSx (fun w h => h.ent aEt) (fun k hx => ?_)
 obtain ⟨hk1, hk3⟩ := hx
 iterate 7 refine aS ?_
 refine o_p (p_indexAddr rfl rfl rfl sl_22 (p) (by omega) (by omega) (Rw.some hs.1 (by omega))) rfl ?_
 refine aS ?_
 refine o_q (q_load_old rfl rfl sz_30 ((hs.1.rdj 2 hp rfl))) rfl ?_
 iterate 3 refine aS ?_
 refine s_cond rfl (fun h2 => ?_) fun h2 => ?_
 ·try simp only [decide_eq_true_eq] at h2
  have hk : k < (nth L p).cs.length := by omega
  iterate 8 refine aS ?_
  refine o_p (p_indexAddr rfl rfl rfl sl_22 (p) (by omega) (by omega) (Rw.some hs.1 (by omega))) rfl ?_
  refine aS ?_
  refine o_q (q_load_old rfl rfl sz_30 ((hs.1.rdj 2 hp rfl))) rfl ?_
  refine aS ?_
  refine o_p (p_indexAddr rfl rfl rfl sl_30 (k) (by omega) (by omega) (Rw.some (hs.cs hp) (by omega))) rfl ?_
  refine o_q (q_load_old rfl rfl sz_3 (((hs.cs hp).rdj 0 (by omega) rfl))) rfl ?_
  iterate 3 refine aS ?_
  refine s_cond rfl (fun h3 => ?_) fun h3 => ?_
  ·try simp only [decide_eq_true_eq] at h3
   have hq9 : c = (nth L p).cs.getD k 0 := (h3).symm
   have hix := ixB_eq (l := hasC (nth L p).cs c) (k := k) (by rw [hasC_len]; omega) hk3 (fun h9 => by rw [hasC_get hk]; exact decide_eq_true hq9)
   iterate 5 refine aS ?_
   exact s_retv (rs := [.tmp 6]) rfl (.tmp rfl (.nil)) (fun w' h' => ⟨by simp only [retV, ixR]; rw [hix, if_pos hk], h'.below⟩)
  try simp only [decide_eq_false_iff_not] at h3
  have hq9 : ¬ c = (nth L p).cs.getD k 0 := fun e => h3 e.symm
  iterate 5 refine aS ?_
  try refine oWr ?_
  iterate 2 refine aS ?_
  exact s_backI (k + 1) (by omega) ⟨by omega, fun q hq => (Nat.lt_or_ge q k).elim (hk3 q) (fun h9 => by obtain rfl : q = k := (by omega); rw [hasC_get hk]; exact decide_eq_false hq9)⟩ aSx (fun w h => h.ent aEt)
 try simp only [decide_eq_false_iff_not] at h2
 obtain rfl : k = (nth L p).cs.length := by omega
 have hix := ixB_eq (l := hasC (nth L p).cs c) (k := (nth L p).cs.length) (by rw [hasC_len]; omega) hk3 (fun h9 => absurd h9 (by rw [hasC_len]; omega))
 refine s_exit_to rfl ?_
 iterate 4 refine aS ?_
 exact s_retv (rs := [.tmp 6]) rfl (.tmp rfl (.nil)) (fun w' h' => ⟨by simp only [retV, ixR]; rw [hix, if_neg (Nat.lt_irrefl _)]; rfl, h'.below⟩)
theorem c64 (w : World) (bt : Nat) (j : Nat) (mo rm : Int) (gn cap : Nat) (L : List LNd) (hw : HS w (fps [.blk bt 24 4 [.int .i64 (j : Int), .int .i64 mo, .int .i64 rm, .slice (some ⟨gn, 0, none⟩) (L).length cap], .blk gn 102 (cap * 3) ((L).flatMap LNd.vals), .star ((L).map (subN 26))]) [.blk bt 24 4 [.int .i64 (j : Int), .int .i64 mo, .int .i64 rm, .slice (some ⟨gn, 0, none⟩) (L).length cap], .blk gn 102 (cap * 3) ((L).flatMap LNd.vals), .star ((L).map (subN 26))] w) (hnc : L.length ≤ cap) (hcm : cap ≤ maxLen) (h0 : 0 < L.length) (hl : L.length ≤ 1000) : Calls Tryz.prog 64 #[.pointer (some ⟨bt, 0, none⟩)] w fun en w' => ∃ g : (Nat × Nat) × List LNd, en = .returned (.int .i64 ((frsN (pln L)).1 : Int)) ∧ (pln g.2 = (frsN (pln L)).2 ∧ g.2.length ≤ g.1.2 ∧ g.1.2 ≤ maxLen) ∧ HS w (fps [.blk bt 24 4 [.int .i64 (j : Int), .int .i64 mo, .int .i64 rm, .slice (some ⟨gn, 0, none⟩) (L).length cap], .blk gn 102 (cap * 3) ((L).flatMap LNd.vals), .star ((L).map (subN 26))]) [.blk bt 24 4 [.int .i64 (j : Int), .int .i64 mo, .int .i64 rm, .slice (some ⟨g.1.1, 0, none⟩) (g.2).length g.1.2], .blk g.1.1 102 (g.1.2 * 3) ((g.2).flatMap LNd.vals), .star ((g.2).map (subN 26))] w' := by
 have hnl : (pln L).length = L.length := pln_len L
 refine enter (args := [_]) Tryz.func64 Tryz.ntmps64 rfl rfl hw ?_
 iterate 10 refine aS ?_
 refine s_loopI (α := Nat × Nat) [2, 3, 4, 5, 6, 7, 8, 9, 10, 11, 12, 13, 14, 15, 16, 17, 18, 19, 20, 21, 22, 23, 24, 25, 26, 27, 28, 29] (fun x => [(3, .int .i64 (x.1 : Int))]) (fun _ => HS w (fps [.blk bt 24 4 [.int .i64 (j : Int), .int .i64 mo, .int .i64 rm, .slice (some ⟨gn, 0, none⟩) (L).length cap], .blk gn 102 (cap * 3) ((L).flatMap LNd.vals), .star ((L).map (subN 26))]) [.blk bt 24 4 [.int .i64 (j : Int), .int .i64 mo, .int .i64 rm, .slice (some ⟨gn, 0, none⟩) (L).length cap], .blk gn 102 (cap * 3) ((L).flatMap LNd.vals), .star ((L).map (subN 26))]) (fun x => (1 ≤ x.1 ∧ x.1 ≤ L.length) ∧ x.1 + x.2 = L.length + 1 ∧ frsI (pln L) x.2 x.1 = (frsX (pln L))) (fun x => x.2) (1, L.length) ⟨⟨Nat.le_refl _, h0⟩, by simp only []; omega, by rw [frsX, hnl]⟩ aSx (fun w h => h.ent aEt) (fun ⟨i, f⟩ hx => ?_)
 dsimp only
 obtain ⟨⟨hi1, hi2⟩, hf1, hf2⟩ := hx
 simp only [] at hi1 hi2 hf1 hf2
 obtain ⟨f, rfl⟩ : ∃ f9, f = f9 + 1 := ⟨f - 1, by omega⟩
 rw [frsI] at hf2
 iterate 11 refine aS ?_
 refine s_cond rfl (fun h1 => ?_) fun h1 => ?_
 ·try simp only [decide_eq_true_eq] at h1
  have hil : i < L.length := by omega
  rw [if_pos (by rw [hnl]; exact hil), pln_nth hil] at hf2
  simp only [LNd.pl] at hf2
  iterate 10 refine aS ?_
  refine o_p (p_indexAddr rfl rfl rfl sl_22 (i) (by omega) (by omega) rfl) rfl ?_
  refine o_slot (show _ = Value.pointer (some ⟨gn, i * 3, none⟩) from by rw [Nat.zero_add]) ?_
  refine aS ?_
  refine o_q (q_load_at rfl rfl sz_4 (fun w h => HS.nd_cell (i := i) (by omega) h aPk 0 rfl (by decide))) rfl ?_
  iterate 2 refine aS ?_
  refine s_cond rfl (fun h2 => ?_) fun h2 => ?_
  ·try simp only [Bool.not_eq_true'] at h2
   have hus : ¬ (nth L i).us = true := by have hq := h2; simp [hq]
   have hf3 : i = (frsX (pln L)) := by rw [← hf2]; exact (if_neg hus).symm
   have hz : (frsX (pln L)) < (pln L).length := by rw [← hf3, hnl]; exact hil
   iterate 7 refine aS ?_
   refine o_p (p_build (cs := [_, _, _]) rfl rfl pl_102 zr_102 rfl) rfl ?_
   refine o_p (p_indexAddr rfl rfl rfl sl_22 (i) (by omega) (by omega) rfl) rfl ?_
   refine o_slot (show _ = Value.pointer (some ⟨gn, i * 3, none⟩) from by rw [Nat.zero_add]) ?_
   refine o_h0 (h_store rfl rfl rfl sz_102 rfl aPt (by rw [flat_length nv3]; show _ + 3 ≤ _; omega) rfl) (fun _ _ => ?_)
   iterate 6 refine aS ?_
   exact s_retv (rs := [.tmp 2]) rfl (.tmp rfl (.nil)) (fun w' h' => by obtain ⟨L9, hS9, hC⟩ := HS.node_fre (i := i) (gn := gn) (cap := cap) hil h' aPk aPk; exact ⟨((gn, cap), L9), by rw [frsN, if_pos hz, ← hf3]; rfl, ⟨by rw [hS9.pl, frsN, if_pos hz, ← hf3]; rfl, by simp only []; rw [hS9.len]; exact hnc, hcm⟩, by simp only []; rw [hS9.len]; exact hC.ent aEt⟩)
  try simp only [Bool.not_eq_false'] at h2
  have hus : (nth L i).us = true := by have hq := h2; simpa using hq
  have hf4 : frsI (pln L) f (i + 1) = (frsX (pln L)) := by rw [← hf2]; exact (if_pos hus).symm
  iterate 5 refine aS ?_
  try refine oWr ?_
  iterate 2 refine aS ?_
  exact s_backI (i + 1, f) (by (try simp only []); omega) ⟨⟨by (try simp only []); omega, by (try simp only []); omega⟩, by (try simp only []); omega, hf4⟩ aSx (fun w h => h.ent aEt)
 try simp only [decide_eq_false_iff_not] at h1
 obtain rfl : i = L.length := by omega
 rw [if_neg (by rw [hnl]; omega)] at hf2
 have hz : ¬ (frsX (pln L)) < (pln L).length := by rw [← hf2, hnl]; omega
 refine s_class (fun w h => (HS.own_shut (n := L.length) (h.ent (Bs := [.blk gn 102 (cap * 3) (L.flatMap LNd.vals), .star (L.map (subN 26)), .blk bt 24 4 [.int .i64 (j : Int), .int .i64 mo, .int .i64 rm, .slice (some ⟨gn, 0, none⟩) L.length cap]]) aEt) (flat_length nv3 L) hnc hcm)) ?_
 refine s_exit_to rfl ?_
 iterate 7 refine aS ?_
 refine o_p (p_build (cs := [_, _, _]) rfl rfl pl_102 zr_102 rfl) rfl ?_
 refine o_h (h_buildSlice (cs := [_, _, _]) rfl rfl sl_22 zr_102 rfl rfl rfl) rfl (fun b3 _ => ?_)
 refine o_h (h_appendS [_, _, _] rfl rfl rfl sl_22 Tryz.underlying22 zr_102 rfl aPk (src_blk aPk) rfl (by intro u hu; simp only [List.mem_cons, List.mem_nil_iff, or_false] at hu; rcases hu with rfl | rfl | rfl <;> rfl) (by omega) (by simp only [maxLen]; omega)) rfl (fun b4 _ => ?_)
 refine o_fact (fun w h => own_addr (n := L.length + 1) (by omega) h aPk) (fun hgn => ?_)
 obtain ⟨⟨ga, gc⟩, hga⟩ : ∃ q : Option Addr × Nat, b4 = q := ⟨_, rfl⟩
 subst hga
 obtain ⟨g9, e9, hn9, hm9⟩ := hgn
 simp only [] at e9 hn9 hm9
 subst e9
 refine o_class (fun w h => HS.own_at h aPk) ?_
 iterate 2 refine aS ?_
 refine o_h0 (h_store rfl rfl rfl sz_22 rfl aPt (by show 4 ≤ 4; omega) rfl) (fun _ _ => ?_)
 iterate 9 refine aS ?_
 try refine oWr ?_
 iterate 2 refine aS ?_
 exact s_retv (rs := [.tmp 2]) rfl (.tmp rfl (.nil)) (fun w' h' => ⟨((g9, gc), L ++ [(LNd.fre : LNd)]), by rw [frsN, if_neg hz, hnl]; simp only [retV]; congr 2; omega, ⟨by rw [frsN, if_neg hz, pln_app]; rfl, by simp only [List.length_append, List.length_singleton]; exact hn9, hm9⟩, by have h2 := HS.sub_app (sub := subN 26) (l := L) (x := (LNd.fre : LNd)) (HS.star_close (Bs := [_, _]) (((h'.ent (Bs := [.star (L.map (subN 26)), .blk bt 24 4 [.int .i64 (j : Int), .int .i64 mo, .int .i64 rm, .slice (some ⟨g9, 0, none⟩) (L.length + 1) gc], .blk g9 102 (gc * 3) (L.flatMap LNd.vals ++ [.bool true, .slice none 0 0, .slice none 0 0])]) aEt).own_nil 3 1).own_nil 26 2)); have e8 : (L ++ [(LNd.fre : LNd)]).flatMap LNd.vals = L.flatMap LNd.vals ++ [.bool true, .slice none 0 0, .slice none 0 0] := (by rw [List.flatMap_append]; rfl); have e7 : (L ++ [(LNd.fre : LNd)]).length = L.length + 1 := (by simp); dsimp only; rw [e8, e7]; exact h2.ent aEt⟩)
theorem fn_64 : isFn Tryz.prog 64 = true := by kernel_rfl
theorem fn_100 : isFn Tryz.prog 100 = true := by kernel_rfl
theorem fn_62 : isFn Tryz.prog 62 = true := by kernel_rfl
theorem fn_101 : isFn Tryz.prog 101 = true := by kernel_rfl
set_option maxHeartbeats 300000 in
theorem c63 (w : World) (bt : Nat) (j : Nat) (mo rm : Int) (gn cap : Nat) (L : List LNd) (p i : Nat) (hw : HS w (fps [.blk bt 24 4 [.int .i64 (j : Int), .int .i64 mo, .int .i64 rm, .slice (some ⟨gn, 0, none⟩) (L).length cap], .blk gn 102 (cap * 3) ((L).flatMap LNd.vals), .star ((L).map (subN 26))]) [.blk bt 24 4 [.int .i64 (j : Int), .int .i64 mo, .int .i64 rm, .slice (some ⟨gn, 0, none⟩) (L).length cap], .blk gn 102 (cap * 3) ((L).flatMap LNd.vals), .star ((L).map (subN 26))] w) (hnc : L.length ≤ cap) (hcm : cap ≤ maxLen) (hok : SpROk mo (pln L) p i) : Calls Tryz.prog 63 #[.pointer (some ⟨bt, 0, none⟩), .int .i64 (p : Int), .int .i64 (i : Int)] w fun en w' => ∃ g : (Nat × Nat) × List LNd, en = .returned (.tuple #[]) ∧ (pln g.2 = splR mo (pln L) p i ∧ g.2.length ≤ g.1.2 ∧ g.1.2 ≤ maxLen) ∧ HS w (fps [.blk bt 24 4 [.int .i64 (j : Int), .int .i64 mo, .int .i64 rm, .slice (some ⟨gn, 0, none⟩) (L).length cap], .blk gn 102 (cap * 3) ((L).flatMap LNd.vals), .star ((L).map (subN 26))]) [.blk bt 24 4 [.int .i64 (j : Int), .int .i64 mo, .int .i64 rm, .slice (some ⟨g.1.1, 0, none⟩) (g.2).length g.1.2], .blk g.1.1 102 (g.1.2 * 3) ((g.2).flatMap LNd.vals), .star ((g.2).map (subN 26))] w' := by
 have hlt0 := hok.lt
 have hln0 := hok.len
 have hpl0 := hok.par
 rw [pln_len] at hlt0 hln0 hpl0
 have hmo := hok.mo0
 have hes0 := hok.es
 have hcs0 := hok.cs
 have hne := frsN_ne hok.lt hok.us
 have hfn := frsN_nth hok.lt hne
 have hfl := frsN_lt (pln L)
 have hfl2 := frsN_len (pln L)
 rw [pln_len] at hfl2
 have hparE := hok.parE
 have hparC := hok.parC
 have hsA := hok.sm.splRA mo i
 refine enter (args := [_, _, _]) Tryz.func63 Tryz.ntmps63 rfl rfl hw ?_
 iterate 3 refine aS ?_
 refine o_h (h_callF (Cs := [.blk bt 24 4 [.int .i64 (j : Int), .int .i64 mo, .int .i64 rm, .slice (some ⟨gn, 0, none⟩) (L).length cap], .blk gn 102 (cap * 3) ((L).flatMap LNd.vals), .star ((L).map (subN 26))]) rfl fn_64 rfl aPs (fun w1 h1 hf => c64 w1 bt j mo rm gn cap L hf hnc hcm (by omega) (by omega))) rfl (fun ⟨⟨gn1, cap1⟩, L1⟩ hF1 => ?_)
 dsimp only
 obtain ⟨hL1, hn1, hm1⟩ := hF1
 simp only [] at hL1 hn1 hm1
 have hl1 : L1.length = (frsN (pln L)).2.length := by rw [← hL1, pln_len]
 have hi1 : i < L1.length := by omega
 have ho1 : (frsN (pln L)).1 < L1.length := by omega
 have hN1 : (nth L1 i).pl = nth (pln L) i := by rw [← pln_nth hi1, hL1, hfn]
 have hE1 : (nth L1 i).es = (nth (pln L) i).es := congrArg Nd.es hN1
 have hC1 : (nth L1 i).cs = (nth (pln L) i).cs := congrArg Nd.cs hN1
 have hsm1 : (splM mo) < (nth L1 i).es.length := by rw [hE1]; exact hes0
 have hsE1 := (hok.sm i).1
 rw [← hE1] at hsE1
 have hsC1 := (hok.sm i).2
 rw [← hC1] at hsC1
 rw [← hC1] at hcs0
 have hxF : nth (frsN (pln L)).2 i = (nth L1 i).pl := by rw [hfn, hN1]
 iterate 9 refine aS ?_
 refine o_p (p_indexAddr rfl rfl rfl sl_22 (i) (by omega) (by omega) rfl) rfl ?_
 refine o_slot (show _ = Value.pointer (some ⟨gn1, i * 3, none⟩) from by rw [Nat.zero_add]) ?_
 refine o_q (q_load_atn _ rfl rfl sz_102 rfl (fun w h => HS.nd_cells hi1 h aPk)) rfl ?_
 refine oAl (fun b1 _ => ?_) zr_102
 refine oSt ?_
 iterate 8 refine aS ?_
 try refine oWr ?_
 refine o_p (p_quo_nn rfl rfl rfl (by omega) (by omega) (by omega)) rfl ?_
 refine o_slot (show _ = Value.int .i64 ((splM mo) : Int) from by unfold splM; congr 1; omega) ?_
 iterate 6 refine aS ?_
 refine o_fact (fun w h => HS.es_some hi1 (by omega) h aPk) fun hge => ?_
 obtain ⟨ge, hge⟩ := hge
 refine o_fact (fun w h => HS.es_room hi1 h aPk) fun hrE => ?_
 refine o_fact (fun w h => HS.cs_room hi1 h aPk) fun hrC => ?_
 refine aS ?_
 refine o_p (p_indexAddr rfl rfl rfl sl_77 ((splM mo)) (by omega) (by omega) hge) rfl ?_
 refine o_q (q_load_atn _ rfl rfl sz_26 rfl (fun w h => HS.es_rd hi1 hsm1 hge h aPk)) rfl ?_
 refine oAl (fun b2 _ => ?_) zr_26
 refine oSt ?_
 iterate 2 refine aS ?_
 refine s_drawB [.blk bt 24 4 [.int .i64 (j : Int), .int .i64 mo, .int .i64 rm, .slice (some ⟨gn1, 0, none⟩) L1.length cap1], .blk gn1 102 (cap1 * 3) (L1.flatMap LNd.vals), .star (L1.map (subN 26)), .blk b1 102 3 (LNd.vals (nth L1 i)), .blk b2 26 2 (TEnt.vals (nth (nth L1 i).es (splM mo)))] [14] mixed ?_
 refine dP 0 ?_
 refine dP 1 ?_
 refine dFa 2 ?_
 refine dLd 3 [[]] ?_
 refine dP 4 ?_
 refine dFa 6 ?_
 refine dLd 7 [[]] ?_
 refine dP 8 ?_
 refine dP 9 ?_
 try refine dWr ?_
 refine d_p 10 rfl (p_slice _ _ ((splM mo) + 1) ((nth L1 i).es.length) rfl rfl sl_77 ⟨_, _, rfl, (by omega)⟩ rfl (by omega) (by omega)) (by kernel_rfl) rfl rfl ?_
 refine d_h 5 rfl (h_buildSlice0 rfl sl_77) (by kernel_rfl) (fun w h => h.ent aEt) rfl (fun b3 _ => ?_)
 refine d_h 11 rfl (h_appendS (((nth L1 i).es.drop ((splM mo) + 1)).flatMap TEnt.vals) rfl rfl rfl sl_77 Tryz.underlying77 zr_26 rfl aPk (fun w h => Rw.src ev2 (Rw.cut (HS.es_row hi1 h aPk) hrE.1) (HS.refl _ [])) (by rw [flat_length ev2, List.length_drop]) (flat_one ev1 _) (by omega) (by simp only [maxLen]; omega)) (by kernel_rfl) (fun w h => h.ent aEt) rfl (fun b4 _ => ?_)
 refine d_p 12 rfl (p_indexAddr rfl rfl rfl sl_22 ((frsN (pln L)).1) (by omega) (by omega) rfl) (by kernel_rfl) rfl rfl ?_
 refine d_slot (show _ = Value.pointer (some ⟨gn1, (frsN (pln L)).1 * 3, none⟩) from by rw [Nat.zero_add]) ?_
 refine dFa 13 ?_
 refine dSt 14 ?_ (hl := (by rw [flat_length nv3]; show _ + 1 ≤ _; omega))
 refine dTu [] ?_
 refine dNi ?_
 refine aS ?_
 refine s_weaken (L' := [(0, _), (1, _), (2, _), (6, _), (7, _), (8, _), (9, _)]) aSx (fun _ h => h) ?_
 refine s_ex (fun w h => HS.es_setN (gn := gn1) (cap := cap1) (ea := b4.1) (ec := b4.2) (es := (nth L1 i).es.drop ((splM mo) + 1)) (n := 0 + ((nth L1 i).es.length - ((splM mo) + 1))) (xs := [] ++ ((nth L1 i).es.drop ((splM mo) + 1)).flatMap TEnt.vals) ho1 (by rw [List.length_drop, Nat.zero_add]) (by rw [List.nil_append]) h aPk aPk aPk) fun L2 => ?_
 refine s_fact (fun w h => h.1) fun hS2 => ?_
 refine s_class (fun w h => h.2) ?_
 have hi2 : i < L2.length := by rw [hS2.len]; exact hi1
 have hN2 : nth L2 i = nth L1 i := hS2.other hi1 hne
 refine s_drawB [.blk bt 24 4 [.int .i64 (j : Int), .int .i64 mo, .int .i64 rm, .slice (some ⟨gn1, 0, none⟩) L1.length cap1], .blk gn1 102 (cap1 * 3) (L2.flatMap LNd.vals), .star (L2.map (subN 26)), .blk b1 102 3 (LNd.vals (nth L1 i)), .blk b2 26 2 (TEnt.vals (nth (nth L1 i).es (splM mo)))] [13] mixed ?_
 refine dP 0 ?_
 refine dP 1 ?_
 refine dFa 2 ?_
 refine dLd 3 [[]] ?_
 refine dP 4 ?_
 refine dFa 6 ?_
 refine dLd 7 [[]] ?_
 refine dP 8 ?_
 refine d_p 9 rfl (p_slice _ _ 0 (splM mo) rfl rfl sl_77 rfl ⟨_, _, rfl, rfl⟩ (by omega) (by omega)) (by kernel_rfl) rfl rfl ?_
 refine d_h 5 rfl (h_buildSlice0 rfl sl_77) (by kernel_rfl) (fun w h => h.ent aEt) rfl (fun b5 _ => ?_)
 refine d_h 10 rfl (h_appendS (((nth L1 i).es.take (splM mo)).flatMap TEnt.vals) rfl rfl rfl sl_77 Tryz.underlying77 zr_26 rfl aPk (fun w h => Rw.src ev2 (rw_take (Rw.cut (i := 0) (hN2 ▸ HS.es_row hi2 h aPk) hrE.1) (splM mo)) (HS.refl _ [])) (by rw [flat_length ev2, List.length_take]; omega) (flat_one ev1 _) (by omega) (by simp only [maxLen]; omega)) (by kernel_rfl) (fun w h => h.ent aEt) rfl (fun b6 _ => ?_)
 refine d_p 11 rfl (p_indexAddr rfl rfl rfl sl_22 (i) (by omega) (by omega) rfl) (by kernel_rfl) rfl rfl ?_
 refine d_slot (show _ = Value.pointer (some ⟨gn1, i * 3, none⟩) from by rw [Nat.zero_add]) ?_
 refine dFa 12 ?_
 refine dSt 13 ?_ (hl := (by rw [flat_length nv3]; show _ + 1 ≤ _; omega))
 refine dTu [] ?_
 refine dNi ?_
 iterate 4 refine aS ?_
 refine o_ex (fun w h => HS.es_setN (gn := gn1) (cap := cap1) (ea := b6.1) (ec := b6.2) (es := (nth L1 i).es.take (splM mo)) (n := 0 + ((splM mo) - 0)) (xs := [] ++ ((nth L1 i).es.take (splM mo)).flatMap TEnt.vals) hi2 (by rw [List.length_take]; omega) (by rw [List.nil_append]) h aPk aPk aPk) fun L3 => ?_
 refine o_fact (fun w h => h.1) fun hS3 => ?_
 refine o_class (fun w h => h.2) ?_
 have hi3 : i < L3.length := by rw [hS3.len]; exact hi2
 have ho3 : (frsN (pln L)).1 < L3.length := by rw [hS3.len, hS2.len]; exact ho1
 have hcr3 : (nth L3 i).ca = (nth L1 i).ca ∧ (nth L3 i).cc = (nth L1 i).cc ∧ (nth L3 i).cs = (nth L1 i).cs := by rw [hS3.at_, hN2]; exact ⟨rfl, rfl, rfl⟩
 iterate 4 refine aS ?_
 refine s_weaken (L' := [(0, _), (1, _), (2, _), (6, _), (7, _), (8, _), (9, _), (61, _)]) aSx (fun _ h => h) ?_
 refine s_cutI (α := List LNd) [62, 63, 64, 65, 66, 67, 68, 69, 70, 71, 72, 73, 74, 75, 76, 77, 78, 79, 80, 81, 82, 83, 84, 85, 86, 87, 88, 89] (fun _ => []) (fun x => HS w (fps [.blk bt 24 4 [.int .i64 (j : Int), .int .i64 mo, .int .i64 rm, .slice (some ⟨gn, 0, none⟩) (L).length cap], .blk gn 102 (cap * 3) ((L).flatMap LNd.vals), .star ((L).map (subN 26))]) [.blk bt 24 4 [.int .i64 (j : Int), .int .i64 mo, .int .i64 rm, .slice (some ⟨gn1, 0, none⟩) (x).length cap1], .blk gn1 102 (cap1 * 3) ((x).flatMap LNd.vals), .star ((x).map (subN 26)), .blk b2 26 2 (TEnt.vals (nth (nth L1 i).es (splM mo)))]) (fun x => pln x = (splRA mo (pln L) i) ∧ x.length = L1.length) ?_ ?_
 ·skip
  refine s_cond rfl (fun h7 => ?_) fun h7 => ?_
  ·try simp only [decide_eq_true_eq] at h7
   have hcz : (nth L1 i).cs.length ≠ 0 := by have hq := h7; omega
   have hsm4 : (splM mo) + 1 ≤ (nth L1 i).cs.length := by omega
   refine aS ?_
   refine s_drawB [.blk bt 24 4 [.int .i64 (j : Int), .int .i64 mo, .int .i64 rm, .slice (some ⟨gn1, 0, none⟩) L1.length cap1], .blk gn1 102 (cap1 * 3) (L3.flatMap LNd.vals), .star (L3.map (subN 26)), .blk b1 102 3 (LNd.vals (nth L1 i)), .blk b2 26 2 (TEnt.vals (nth (nth L1 i).es (splM mo)))] [14] mixed ?_
   refine dP 0 ?_
   refine dP 1 ?_
   refine dFa 2 ?_
   refine dLd 3 [[]] ?_
   refine dP 4 ?_
   refine dFa 6 ?_
   refine dLd 7 [[]] ?_
   refine dP 8 ?_
   refine dP 9 ?_
   try refine dWr ?_
   refine d_p 10 rfl (p_slice _ _ ((splM mo) + 1) ((nth L1 i).cs.length) rfl rfl sl_30 ⟨_, _, rfl, (by omega)⟩ rfl (by omega) (by omega)) (by kernel_rfl) rfl rfl ?_
   refine d_h 5 rfl (h_buildSlice0 rfl sl_30) (by kernel_rfl) (fun w h => h.ent aEt) rfl (fun b8 _ => ?_)
   refine d_h 11 rfl (h_appendS (((nth L1 i).cs.drop ((splM mo) + 1)).flatMap inV) rfl rfl rfl sl_30 Tryz.underlying30 zr_3 rfl aPk (fun w h => Rw.src iv1 (Rw.cut (cs_rowE hcr3 (HS.cs_row hi3 h aPk)) hrC.1) (HS.refl _ [])) (by rw [flat_length iv1, List.length_drop]) (flat_one iv1c _) (by omega) (by simp only [maxLen]; omega)) (by kernel_rfl) (fun w h => h.ent aEt) rfl (fun b9 _ => ?_)
   refine d_p 12 rfl (p_indexAddr rfl rfl rfl sl_22 ((frsN (pln L)).1) (by omega) (by omega) rfl) (by kernel_rfl) rfl rfl ?_
   refine d_slot (show _ = Value.pointer (some ⟨gn1, (frsN (pln L)).1 * 3, none⟩) from by rw [Nat.zero_add]) ?_
   refine dFa 13 ?_
   refine dSt 14 ?_ (hl := (by rw [flat_length nv3]; show _ + 1 ≤ _; omega))
   refine dTu [] ?_
   refine dNi ?_
   refine s_ex (fun w h => HS.cs_setN (gn := gn1) (cap := cap1) (ca := b9.1) (cc := b9.2) (cs := (nth L1 i).cs.drop ((splM mo) + 1)) (n := 0 + ((nth L1 i).cs.length - ((splM mo) + 1))) (xs := [] ++ ((nth L1 i).cs.drop ((splM mo) + 1)).flatMap inV) ho3 (by rw [List.length_drop, Nat.zero_add]) (by rw [List.nil_append]) h aPk aPk aPk) fun L4 => ?_
   refine s_fact (fun w h => h.1) fun hS4 => ?_
   refine s_class (fun w h => h.2) ?_
   have hi4 : i < L4.length := by rw [hS4.len]; exact hi3
   have hN4 : nth L4 i = nth L3 i := hS4.other hi3 hne
   have hcr4 : (nth L4 i).ca = (nth L1 i).ca ∧ (nth L4 i).cc = (nth L1 i).cc ∧ (nth L4 i).cs = (nth L1 i).cs := by rw [hN4]; exact hcr3
   refine s_drawB [.blk bt 24 4 [.int .i64 (j : Int), .int .i64 mo, .int .i64 rm, .slice (some ⟨gn1, 0, none⟩) L1.length cap1], .blk gn1 102 (cap1 * 3) (L4.flatMap LNd.vals), .star (L4.map (subN 26)), .blk b1 102 3 (LNd.vals (nth L1 i)), .blk b2 26 2 (TEnt.vals (nth (nth L1 i).es (splM mo)))] [14] mixed ?_
   refine dP 0 ?_
   refine dP 1 ?_
   refine dFa 2 ?_
   refine dLd 3 [[]] ?_
   refine dP 4 ?_
   refine dFa 6 ?_
   refine dLd 7 [[]] ?_
   refine dP 8 ?_
   refine dP 9 ?_
   try refine dWr ?_
   refine d_p 10 rfl (p_slice _ _ 0 ((splM mo) + 1) rfl rfl sl_30 rfl ⟨_, _, rfl, (by omega)⟩ (by omega) (by omega)) (by kernel_rfl) rfl rfl ?_
   refine d_h 5 rfl (h_buildSlice0 rfl sl_30) (by kernel_rfl) (fun w h => h.ent aEt) rfl (fun b10 _ => ?_)
   refine d_h 11 rfl (h_appendS (((nth L1 i).cs.take ((splM mo) + 1)).flatMap inV) rfl rfl rfl sl_30 Tryz.underlying30 zr_3 rfl aPk (fun w h => Rw.src iv1 (rw_take (Rw.cut (i := 0) (cs_rowE hcr4 (HS.cs_row hi4 h aPk)) hrC.1) ((splM mo) + 1)) (HS.refl _ [])) (by rw [flat_length iv1, List.length_take]; omega) (flat_one iv1c _) (by omega) (by simp only [maxLen]; omega)) (by kernel_rfl) (fun w h => h.ent aEt) rfl (fun b11 _ => ?_)
   refine d_p 12 rfl (p_indexAddr rfl rfl rfl sl_22 (i) (by omega) (by omega) rfl) (by kernel_rfl) rfl rfl ?_
   refine d_slot (show _ = Value.pointer (some ⟨gn1, i * 3, none⟩) from by rw [Nat.zero_add]) ?_
   refine dFa 13 ?_
   refine dSt 14 ?_ (hl := (by rw [flat_length nv3]; show _ + 1 ≤ _; omega))
   refine dTu [] ?_
   refine dNi ?_
   refine s_ex (fun w h => HS.cs_setN (gn := gn1) (cap := cap1) (ca := b11.1) (cc := b11.2) (cs := (nth L1 i).cs.take ((splM mo) + 1)) (n := 0 + ((splM mo) + 1 - 0)) (xs := [] ++ ((nth L1 i).cs.take ((splM mo) + 1)).flatMap inV) hi4 (by rw [List.length_take]; omega) (by rw [List.nil_append]) h aPk aPk aPk) fun L5 => ?_
   refine s_fact (fun w h => h.1) fun hS5 => ?_
   refine s_class (fun w h => h.2) ?_
   exact s_joinI L5 ⟨by rw [hS5.cs, hS4.cs, hS3.es, hS2.es]; exact (splRA_1 hL1.symm (hL1.symm ▸ hxF) hcz).symm, by rw [hS5.len, hS4.len, hS3.len, hS2.len]⟩ aSx (fun w h => by rw [hS5.len, hS4.len, hS3.len, hS2.len]; exact h.ent aEt)
  try simp only [decide_eq_false_iff_not] at h7
  have hcz : (nth L1 i).cs.length = 0 := by have hq := h7; omega
  refine aS ?_
  exact s_joinI L3 ⟨by rw [hS3.es, hS2.es]; exact (splRA_0 hL1.symm (hL1.symm ▸ hxF) hcz).symm, by rw [hS3.len, hS2.len]⟩ aSx (fun w h => by rw [hS3.len, hS2.len]; exact h.ent aEt)
 intro LA hx
 obtain ⟨hA, hlA⟩ := hx
 have hpA : p < LA.length := by omega
 have hNA : (nth LA p).pl = nth (splRA mo (pln L) i) p := by rw [← pln_nth hpA, hA]
 have hEA : (nth LA p).es = (nth (splRA mo (pln L) i) p).es := congrArg Nd.es hNA
 have hCA : (nth LA p).cs = (nth (splRA mo (pln L) i) p).cs := congrArg Nd.cs hNA
 have hsAE := (hsA p).1
 have hsAC := (hsA p).2
 rw [← hEA] at hsAE
 rw [← hCA] at hsAC
 have hparE2 : (ixR (nth (splRA mo (pln L) i) p).cs (i : Int)) ≤ (nth LA p).es.length := by rw [hEA]; exact hparE
 have hparC2 : (ixR (nth (splRA mo (pln L) i) p).cs (i : Int)) + 1 ≤ (nth LA p).cs.length := by rw [hCA]; exact hparC
 iterate 7 refine aS ?_
 refine o_q (q_call rfl fn_100 rfl (fun w1 h1 => c100 w1 j mo rm (some ⟨gn1, 0, none⟩) cap1 LA p (i : Int) hpA (HS.nt_at h1 aPk aPk) (by omega) (by omega))) rfl ?_
 refine o_slot (show _ = Value.int .i64 ((ixR (nth (splRA mo (pln L) i) p).cs (i : Int)) : Int) from by rw [hCA]) ?_
 iterate 3 refine aS ?_
 refine s_draw [18] mixed ?_
 refine dP 0 ?_
 refine dP 1 ?_
 refine dFa 2 ?_
 refine dLd 3 [[]] ?_
 refine dP 4 ?_
 refine dP 5 ?_
 refine dP 6 ?_
 refine dFa 7 ?_
 refine dLd 8 [[]] ?_
 refine dP 9 ?_
 refine d_p 10 rfl (p_indexAddr rfl rfl rfl sl_22 (p) (by omega) (by omega) rfl) (by kernel_rfl) rfl rfl ?_
 refine d_slot (show _ = Value.pointer (some ⟨gn1, p * 3, none⟩) from by rw [Nat.zero_add]) ?_
 refine dFa 11 ?_
 refine d_q 12 [[]] rfl (q_load_at rfl rfl sz_77 (fun w h => HS.nd_cell hpA h aPk 1 rfl (by decide))) (by kernel_rfl) (by kernel_rfl) (by kernel_rfl) rfl ?_
 refine dP 13 ?_
 refine dLn 14 [[]] ?_
 refine d_h 15 rfl (h_call rfl fn_62 rfl (fun w1 h1 => c62 w1 (nth LA p).ea (nth LA p).ec (nth LA p).es (ixR (nth (splRA mo (pln L) i) p).cs (i : Int)) (nth (nth L1 i).es (splM mo)) (HS.es_row hpA h1 aPk) (by omega) hparE2 (HS.es_room hpA h1 aPk).1)) (by kernel_rfl) (fun w h => h.ent aEt) rfl (fun b12 _ => ?_)
 refine dBa ?_
 refine d_p 16 rfl (p_indexAddr rfl rfl rfl sl_22 (p) (by omega) (by omega) rfl) (by kernel_rfl) rfl rfl ?_
 refine d_slot (show _ = Value.pointer (some ⟨gn1, p * 3, none⟩) from by rw [Nat.zero_add]) ?_
 refine dFa 17 ?_
 refine dSt 18 ?_ (hl := (by rw [flat_length nv3]; show _ + 1 ≤ _; omega))
 refine dTu [] ?_
 refine dNi ?_
 refine s_weaken (L' := [(0, _), (1, _), (6, _), (10, _)]) aSx (fun _ h => h) ?_
 refine s_ex (fun w h => HS.es_set (gn := gn1) (cap := cap1) (ea := b12.1) (ec := b12.2) (es := insAt (nth LA p).es (ixR (nth (splRA mo (pln L) i) p).cs (i : Int)) (nth (nth L1 i).es (splM mo))) hpA h aPk aPk aPk) fun LB => ?_
 refine s_fact (fun w h => h.1) fun hSB => ?_
 refine s_class (fun w h => h.2) ?_
 have hpB : p < LB.length := by rw [hSB.len]; exact hpA
 have hBC : (nth LB p).cs = (nth LA p).cs := by rw [hSB.at_]
 have hBCl : (nth LB p).cs.length = (nth LA p).cs.length := by rw [hBC]
 refine s_draw [19] mixed ?_
 refine dP 0 ?_
 refine dP 1 ?_
 refine dFa 2 ?_
 refine dLd 3 [[]] ?_
 refine dP 4 ?_
 refine dP 5 ?_
 refine dP 6 ?_
 refine dFa 7 ?_
 refine dLd 8 [[]] ?_
 refine dP 9 ?_
 refine d_p 10 rfl (p_indexAddr rfl rfl rfl sl_22 (p) (by omega) (by omega) rfl) (by kernel_rfl) rfl rfl ?_
 refine d_slot (show _ = Value.pointer (some ⟨gn1, p * 3, none⟩) from by rw [Nat.zero_add]) ?_
 refine dFa 11 ?_
 refine d_q 12 [[]] rfl (q_load_at rfl rfl sz_30 (fun w h => HS.nd_cell hpB h aPk 2 rfl (by decide))) (by kernel_rfl) (by kernel_rfl) (by kernel_rfl) rfl ?_
 refine dP 13 ?_
 refine dP 14 ?_
 try refine dWr ?_
 refine dP 15 ?_
 refine d_h 16 rfl (h_call rfl fn_101 rfl (fun w1 h1 => c101 w1 (nth LB p).ca (nth LB p).cc (nth LB p).cs ((ixR (nth (splRA mo (pln L) i) p).cs (i : Int)) + 1) ((frsN (pln L)).1 : Int) (HS.cs_row hpB h1 aPk) (by omega) (by omega) (HS.cs_room hpB h1 aPk).1)) (by kernel_rfl) (fun w h => h.ent aEt) rfl (fun b13 _ => ?_)
 refine dBa ?_
 refine d_p 17 rfl (p_indexAddr rfl rfl rfl sl_22 (p) (by omega) (by omega) rfl) (by kernel_rfl) rfl rfl ?_
 refine d_slot (show _ = Value.pointer (some ⟨gn1, p * 3, none⟩) from by rw [Nat.zero_add]) ?_
 refine dFa 18 ?_
 refine dSt 19 ?_ (hl := (by rw [flat_length nv3]; show _ + 1 ≤ _; omega))
 refine dTu [] ?_
 refine dNi ?_
 exact s_end0 rfl (fun w' h' => by obtain ⟨LC, hSC, hC⟩ := HS.cs_set (gn := gn1) (cap := cap1) (ca := b13.1) (cc := b13.2) (cs := insAt (nth LB p).cs ((ixR (nth (splRA mo (pln L) i) p).cs (i : Int)) + 1) ((frsN (pln L)).1 : Int)) hpB h' aPk aPk aPk; exact ⟨((gn1, cap1), LC), rfl, ⟨by rw [hSC.cs, hBC, hSB.es, hA, hEA, hCA]; unfold splR addP; rw [hxF]; rfl, by simp only []; rw [hSC.len, hSB.len, hlA]; exact hn1, hm1⟩, by simp only []; rw [hSC.len, hSB.len]; exact hC.ent aEt⟩)
end Go.Proofs
namespace Gx
set_option linter.unusedSimpArgs false
set_option linter.unusedVariables false
set_option linter.unusedSectionVars false
open Go Go.RowKit
theorem sm_bd2 {ns : List Nd} (h : Bd ns) : Sm 1000 ns := fun k => by
  rcases Nat.lt_or_ge k ns.length with hk | hk
  · exact ⟨h.es k hk, h.cs k hk⟩
  · rw [nth_out hk]
    exact ⟨Nat.zero_le _, Nat.zero_le _⟩
def insRB (co : Int) (ns : List Nd) (x : TEnt) : List Nd := esN ns (lastN (pathN co ns x.key).1) (insAt (nth ns (lastN (pathN co ns x.key).1)).es (plc co (nth ns (lastN (pathN co ns x.key).1)).es x.key) x)
theorem lowR_eq {LG L6 L7 L8 : List LNd} {b : Option Addr} {c : Nat} (hL6 : pln L6 = (frsN (pln LG)).2) (hi6 : 0 < L6.length) (ho6 : (frsN (pln LG)).1 < L6.length) (hS7 : NdSet L6 L7 (frsN (pln LG)).1 { nth L6 0 with us := (nth L6 (frsN (pln LG)).1).us }) (hS8 : NdSet L7 L8 0 ⟨(nth L7 0).us, none, 0, [], b, c, [((frsN (pln LG)).1 : Int)]⟩) (hi7 : 0 < L7.length) : pln L8 = (lowR (pln LG)).2 := by
  have e2 : pln L7 = csN (esN (pln L6) (frsN (pln LG)).1 (nth (pln L6) 0).es) (frsN (pln LG)).1 (nth (pln L6) 0).cs := by
    rw [csN_esN (by rw [pln_len]; exact ho6), hS7.pl, pln_nth ho6, pln_nth hi6]
    rfl
  rw [hS8.pl, lowR, ← hL6, ← e2, csN_esN (by rw [pln_len]; exact hi7), pln_nth hi7]
  rfl
end Gx
namespace Go.Proofs
open Go Go.RowKit Gx
set_option linter.unusedVariables false
set_option linter.unusedSimpArgs false
attribute [local irreducible] Go.Calls Gx.S Gx.O Gx.D Gx.OpP Gx.OpQ Gx.OpH
set_option maxRecDepth 20000
theorem fn_17 : isFn Tryz.prog 17 = true := by kernel_rfl
theorem fn_20 : isFn Tryz.prog 20 = true := by kernel_rfl
theorem fn_63 : isFn Tryz.prog 63 = true := by kernel_rfl
set_option maxHeartbeats 400000 in
theorem c22 (w : World) (j : Nat) (mo rm : Int) (a : Option Addr) (cap : Nat) (L : List LNd) (x : TEnt) (hj : j ≤ 3) (h0 : 0 < L.length) (hB : Bd (pln L)) (hT : TOk (j : Int) (pln L)) (hs : Nt w [] a L) (hk : keyOk (j : Int) x.key = true) (hkl : x.key.length ≤ 1000000) (hok0 : InsROk (j : Int) mo rm (pln L) x) : Calls Tryz.prog 22 #[.agg #[.int .i64 (j : Int), .int .i64 mo, .int .i64 rm, .slice a L.length cap], .agg #[.string (bs x.key), .string (bs x.val)]] w fun en w' => ∃ g : (Option Addr × Nat) × List LNd, en = .returned (.agg #[.int .i64 (j : Int), .int .i64 mo, .int .i64 rm, .slice g.1.1 g.2.length g.1.2]) ∧ pln g.2 = insR (j : Int) mo rm (pln L) x ∧ HS w [] [.nodes 26 102 g.1.1 g.1.2 g.2] w' := by
 have hln0 := hB.len
 rw [pln_len] at hln0
 have hsmB : Sm 1000 (pln L) := sm_bd2 hB
 refine enter (args := [_, _]) Tryz.func22 Tryz.ntmps22 rfl rfl (HS.refl w []) ?_
 iterate 2 refine aS ?_
 refine oBx fun b1 _ => ?_
 refine oBx fun b2 _ => ?_
 refine oAl (fun b3 _ => ?_) zr_24
 iterate 4 refine aS ?_
 refine o_h (h_call rfl fn_17 rfl (fun w1 h1 => c17 w1 (j : Int) mo rm a cap L (hs.later h1.nil) hln0 hsmB)) rfl (fun ⟨⟨ga0, gc0⟩, L9⟩ hF9 => ?_)
 dsimp only
 have hL9 : pln L9 = pln L := hF9
 have hl9 : L9.length = L.length := by rw [← pln_len L9, hL9, pln_len]
 have h09 : 0 < L9.length := by omega
 refine o_ex (fun w h => nodes_split h09 h aPk) fun gn => ?_
 refine o_fact (p := ga0 = some ⟨gn, 0, none⟩ ∧ L9.length ≤ gc0 ∧ gc0 ≤ maxLen) (fun w h => ⟨h.1, h.2.1, h.2.2.1⟩) fun hgn => ?_
 obtain ⟨hga, hn9, hm9⟩ := hgn
 subst hga
 refine o_class (fun w h => h.2.2.2) ?_
 have hB9 : Bd (pln L9) := by rw [hL9]; exact hB
 have hT9 : TOk (j : Int) (pln L9) := by rw [hL9]; exact hT
 have hK9 : ∀ i, i < L9.length → ∀ y ∈ (nth L9 i).es, keyOk (j : Int) y.key = true ∧ y.key.length ≤ 1000000 := fun i hi y hy => tok_key hT9 i (by rw [pln_len]; exact hi) y (by rw [pln_nth hi]; exact hy)
 have hok : InsROk (j : Int) mo rm (pln L9) x := by rw [hL9]; exact hok0
 have hne := hok.ne
 have hlen9 := hok.len
 have hlf := hok.lf
 rw [pln_len] at hlf
 have hel9 := hB9.es _ (by rw [pln_len]; exact hlf)
 rw [pln_nth hlf] at hel9
 simp only [LNd.pl] at hel9
 refine oAl (fun b4 _ => ?_) zr_24
 refine oSt ?_
 iterate 6 refine aS ?_
 refine o_h (h_call rfl fn_20 rfl (fun w1 h1 => c20 w1 j mo rm (some ⟨gn, 0, none⟩) gc0 L9 x.key hj h09 hB9 hT9 (HS.nt_at h1 aPk aPk) hk hkl)) rfl (fun ⟨pa, pc⟩ _ => ?_)
 dsimp only
 refine o_fact (fun w h => HS.pown_some (P := (pathN (j : Int) (pln L9) x.key).1) (a := pa) (c := pc) hne h aPk) fun hpa => ?_
 obtain ⟨gp, hpa⟩ := hpa
 iterate 12 refine aS ?_
 try refine oWr ?_
 refine o_p (p_indexAddr rfl rfl rfl sl_30 ((pathN (j : Int) (pln L9) x.key).1.length - 1) (by omega) (by omega) hpa) rfl ?_
 refine o_q (q_load_at rfl rfl sz_3 (fun w h => HS.pown_rd (P := (pathN (j : Int) (pln L9) x.key).1) (a := pa) (c := pc) (k := (pathN (j : Int) (pln L9) x.key).1.length - 1) (by omega) hpa h aPk)) rfl ?_
 refine o_slot (show _ = Value.int .i64 ((lastN (pathN (j : Int) (pln L9) x.key).1) : Int) from rfl) ?_
 iterate 8 refine aS ?_
 refine o_q (q_call rfl fn_61 rfl (fun w1 h1 => c61 w1 j mo rm (some ⟨gn, 0, none⟩) gc0 L9 (lastN (pathN (j : Int) (pln L9) x.key).1) x.key hj hlf (HS.nt_at h1 aPk aPk) (by omega) hel9 (hK9 _ hlf) hk hkl)) rfl ?_
 iterate 7 refine aS ?_
 refine s_weaken (L' := [(3, _), (4, _), (5, _), (6, _), (8, _), (9, _)]) aSx (fun _ h => h) ?_
 refine s_draw [14] mixed ?_
 refine dFa 0 ?_
 refine dLd 1 [[]] ?_
 refine dP 2 ?_
 refine dFa 3 ?_
 refine dLd 4 [[]] ?_
 refine dP 5 ?_
 refine d_p 6 rfl (p_indexAddr rfl rfl rfl sl_22 ((lastN (pathN (j : Int) (pln L9) x.key).1)) (by omega) (by omega) rfl) (by kernel_rfl) rfl rfl ?_
 refine d_slot (show _ = Value.pointer (some ⟨gn, (lastN (pathN (j : Int) (pln L9) x.key).1) * 3, none⟩) from by rw [Nat.zero_add]) ?_
 refine dFa 7 ?_
 refine d_q 8 [[]] rfl (q_load_at rfl rfl sz_77 (fun w h => HS.nd_cell hlf h aPk 1 rfl (by decide))) (by kernel_rfl) (by kernel_rfl) (by kernel_rfl) rfl ?_
 refine dP 9 ?_
 refine dLn 10 [[]] ?_
 refine d_h 11 rfl (h_call rfl fn_62 rfl (fun w1 h1 => c62 w1 (nth L9 (lastN (pathN (j : Int) (pln L9) x.key).1)).ea (nth L9 (lastN (pathN (j : Int) (pln L9) x.key).1)).ec (nth L9 (lastN (pathN (j : Int) (pln L9) x.key).1)).es (plc (j : Int) (nth L9 (lastN (pathN (j : Int) (pln L9) x.key).1)).es x.key) x (HS.es_row hlf h1 aPk) (by omega) (plc_le _ _ _) (HS.es_room hlf h1 aPk).1)) (by kernel_rfl) (fun w h => h.ent aEt) rfl (fun b5 _ => ?_)
 refine dBa ?_
 refine d_p 12 rfl (p_indexAddr rfl rfl rfl sl_22 ((lastN (pathN (j : Int) (pln L9) x.key).1)) (by omega) (by omega) rfl) (by kernel_rfl) rfl rfl ?_
 refine d_slot (show _ = Value.pointer (some ⟨gn, (lastN (pathN (j : Int) (pln L9) x.key).1) * 3, none⟩) from by rw [Nat.zero_add]) ?_
 refine dFa 13 ?_
 refine dSt 14 ?_ (hl := (by rw [flat_length nv3]; show _ + 1 ≤ _; omega))
 refine dTu [] ?_
 refine dNi ?_
 iterate 4 refine aS ?_
 refine o_ex (fun w h => HS.es_set (gn := gn) (cap := gc0) (ea := b5.1) (ec := b5.2) (es := insAt (nth L9 (lastN (pathN (j : Int) (pln L9) x.key).1)).es (plc (j : Int) (nth L9 (lastN (pathN (j : Int) (pln L9) x.key).1)).es x.key) x) hlf h aPk aPk aPk) fun L1 => ?_
 refine o_fact (fun w h => h.1) fun hS1 => ?_
 refine o_class (fun w h => h.2) ?_
 have hL1 : pln L1 = (insRB (j : Int) (pln L9) x) := by rw [hS1.es, insRB, pln_nth hlf]; rfl
 refine o_class (C' := HS w [] [.blk b4 24 4 [.int .i64 (j : Int), .int .i64 mo, .int .i64 rm, .slice (some ⟨gn, 0, none⟩) (L1).length gc0], .blk gn 102 (gc0 * 3) ((L1).flatMap LNd.vals), .star ((L1).map (subN 26)), .own (.slice pa ((pathN (j : Int) (pln L9) x.key).1).length pc) 3 1 ((pathN (j : Int) (pln L9) x.key).1).length (((pathN (j : Int) (pln L9) x.key).1).map fun i : Nat => Value.int .i64 (i : Int)), .blk b2 26 2 (TEnt.vals x), .blk b3 24 4 [.int .i64 0, .int .i64 0, .int .i64 0, .slice none 0 0]]) (fun w2 h => by rw [hS1.len]; exact h.ent aEt) ?_
 iterate 2 refine aS ?_
 try refine oWr ?_
 refine o_slot (show _ = Value.int .i64 (((pathN (j : Int) (pln L9) x.key).1.length - 1 : Nat) : Int) from by congr 1; omega) ?_
 iterate 3 refine aS ?_
 refine s_weaken (L' := [(4, _), (5, _), (6, _), (11, _)]) aSx (fun _ h => h) ?_
 refine s_loopI (α := ((Nat × Nat) × List LNd) × Nat) [11, 53, 54, 55, 56, 57, 58, 59, 60, 61, 62, 63, 64, 65, 66, 67, 68, 69, 70, 71, 72, 73, 74, 75, 76, 77, 78, 79] (fun y => [(11, .int .i64 (y.2 : Int))]) (fun y => HS w [] [.blk b4 24 4 [.int .i64 (j : Int), .int .i64 mo, .int .i64 rm, .slice (some ⟨y.1.1.1, 0, none⟩) (y.1.2).length y.1.1.2], .blk y.1.1.1 102 (y.1.1.2 * 3) ((y.1.2).flatMap LNd.vals), .star ((y.1.2).map (subN 26)), .own (.slice pa ((pathN (j : Int) (pln L9) x.key).1).length pc) 3 1 ((pathN (j : Int) (pln L9) x.key).1).length (((pathN (j : Int) (pln L9) x.key).1).map fun i : Nat => Value.int .i64 (i : Int)), .blk b2 26 2 (TEnt.vals x), .blk b3 24 4 [.int .i64 0, .int .i64 0, .int .i64 0, .slice none 0 0]]) (fun y => grwRW mo (pathN (j : Int) (pln L9) x.key).1 y.2 (pln y.1.2) = grwRW mo (pathN (j : Int) (pln L9) x.key).1 ((pathN (j : Int) (pln L9) x.key).1.length - 1) (insRB (j : Int) (pln L9) x) ∧ GrwROk mo (pathN (j : Int) (pln L9) x.key).1 y.2 (pln y.1.2) ∧ y.2 < (pathN (j : Int) (pln L9) x.key).1.length ∧ y.1.2.length ≤ y.1.1.2 ∧ y.1.1.2 ≤ maxLen) (fun y => y.2) (((gn, gc0), L1), (pathN (j : Int) (pln L9) x.key).1.length - 1) ⟨by rw [hL1], by rw [hL1]; exact hok.grw, by simp only []; omega, by simp only []; rw [hS1.len]; exact hn9, hm9⟩ aSx (fun w h => h.ent aEt) (fun ⟨⟨⟨ga, gc⟩, Lk⟩, k⟩ hx => ?_)
 dsimp only
 obtain ⟨hx1, hx2, hx3, hx4, hx5⟩ := hx
 simp only [] at hx1 hx2 hx3 hx4 hx5
 iterate 6 refine aS ?_
 refine s_cond rfl (fun h6 => ?_) fun h6 => ?_
 ·try simp only [decide_eq_true_eq] at h6
  obtain ⟨k1, rfl⟩ : ∃ k1, k = k1 + 1 := ⟨k - 1, by omega⟩
  obtain ⟨hkl9, hsp⟩ := hx2.1
  rw [pln_len] at hkl9
  rw [pln_nth hkl9] at hsp
  simp only [LNd.pl] at hsp
  iterate 4 refine aS ?_
  refine s_draw [] mixed ?_
  refine dFa 0 ?_
  refine dLd 1 [] ?_
  refine dP 2 ?_
  refine dP 3 ?_
  refine d_p 4 rfl (p_indexAddr rfl rfl rfl sl_30 (k1 + 1) (by omega) (by omega) hpa) (by kernel_rfl) rfl rfl ?_
  refine d_q 5 [] rfl (q_load_at rfl rfl sz_3 (fun w h => HS.pown_rd (P := (pathN (j : Int) (pln L9) x.key).1) (a := pa) (c := pc) (k := k1 + 1) (by omega) hpa h aPk)) (by kernel_rfl) (by kernel_rfl) (by kernel_rfl) rfl ?_
  refine d_p 6 rfl (p_indexAddr rfl rfl rfl sl_22 ((nth (pathN (j : Int) (pln L9) x.key).1 (k1 + 1))) (by omega) (by omega) rfl) (by kernel_rfl) rfl rfl ?_
  refine d_slot (show _ = Value.pointer (some ⟨ga, (nth (pathN (j : Int) (pln L9) x.key).1 (k1 + 1)) * 3, none⟩) from by rw [Nat.zero_add]) ?_
  refine dFa 7 ?_
  refine d_q 8 [] rfl (q_load_at rfl rfl sz_77 (fun w h => HS.nd_cell hkl9 h aPk 1 rfl (by decide))) (by kernel_rfl) (by kernel_rfl) (by kernel_rfl) rfl ?_
  refine d_p 9 rfl (p_len_slice rfl rfl Tryz.underlying77) (by kernel_rfl) rfl rfl ?_
  refine dFa 10 ?_
  refine dLd 11 [] ?_
  refine dP 12 ?_
  refine dNi ?_
  refine s_cond rfl (fun h7 => ?_) fun h7 => ?_
  ·try simp only [decide_eq_true_eq] at h7
   have hbig : mo < ((nth Lk (nth (pathN (j : Int) (pln L9) x.key).1 (k1 + 1))).es.length : Int) := h7
   refine s_draw [9] mixed ?_
   refine dP 0 ?_
   refine dP 1 ?_
   refine dP 2 ?_
   try refine dWr ?_
   refine d_p 3 rfl (p_indexAddr rfl rfl rfl sl_30 (k1) (by omega) (by omega) hpa) (by kernel_rfl) rfl rfl ?_
   refine d_q 4 [[]] rfl (q_load_at rfl rfl sz_3 (fun w h => HS.pown_rd (P := (pathN (j : Int) (pln L9) x.key).1) (a := pa) (c := pc) (k := k1) (by omega) hpa h aPk)) (by kernel_rfl) (by kernel_rfl) (by kernel_rfl) rfl ?_
   refine dP 5 ?_
   refine dP 6 ?_
   refine d_p 7 rfl (p_indexAddr rfl rfl rfl sl_30 (k1 + 1) (by omega) (by omega) hpa) (by kernel_rfl) rfl rfl ?_
   refine d_q 8 [[]] rfl (q_load_at rfl rfl sz_3 (fun w h => HS.pown_rd (P := (pathN (j : Int) (pln L9) x.key).1) (a := pa) (c := pc) (k := k1 + 1) (by omega) hpa h aPk)) (by kernel_rfl) (by kernel_rfl) (by kernel_rfl) rfl ?_
   refine d_h 9 rfl (h_callF (Cs := [.blk b4 24 4 [.int .i64 (j : Int), .int .i64 mo, .int .i64 rm, .slice (some ⟨ga, 0, none⟩) (Lk).length gc], .blk ga 102 (gc * 3) ((Lk).flatMap LNd.vals), .star ((Lk).map (subN 26))]) rfl fn_63 rfl aPs (fun w1 h1 hf => c63 w1 b4 j mo rm ga gc Lk (nth (pathN (j : Int) (pln L9) x.key).1 k1) (nth (pathN (j : Int) (pln L9) x.key).1 (k1 + 1)) hf hx4 hx5 (hsp hbig))) (by kernel_rfl) (fun w h => h.ent aEt) rfl (fun ⟨⟨g5, c5⟩, L5⟩ hF5 => ?_)
   refine dTu [] ?_
   refine dNi ?_
   iterate 4 refine aS ?_
   try refine oWr ?_
   iterate 2 refine aS ?_
   exact s_backI (((g5, c5), L5), k1) (by (try simp only []); omega) ⟨by simp only []; rw [hF5.1, ← hx1, grwRW, if_pos (by rw [pln_nth hkl9]; exact hbig)], by simp only []; rw [hF5.1]; have h9 := hx2.2; rw [if_pos (by rw [pln_nth hkl9]; exact hbig)] at h9; exact h9, by simp only []; omega, hF5.2.1, hF5.2.2⟩ (by refine sl_c (congrArg (fun e => some (Value.int .i64 e)) (show _ = _ from by simp only []; omega)) ?_; repeat (first | exact sl_n | refine sl_c rfl ?_)) (fun w h => h.ent aEt)
  try simp only [decide_eq_false_iff_not] at h7
  have hbig : ¬ mo < ((nth Lk (nth (pathN (j : Int) (pln L9) x.key).1 (k1 + 1))).es.length : Int) := by have hq := h7; omega
  iterate 5 refine aS ?_
  try refine oWr ?_
  iterate 2 refine aS ?_
  exact s_backI (((ga, gc), Lk), k1) (by (try simp only []); omega) ⟨by simp only []; rw [← hx1, grwRW, if_neg (by rw [pln_nth hkl9]; exact hbig)], by simp only []; have h9 := hx2.2; rw [if_neg (by rw [pln_nth hkl9]; exact hbig)] at h9; exact h9, by simp only []; omega, hx4, hx5⟩ (by refine sl_c (congrArg (fun e => some (Value.int .i64 e)) (show _ = _ from by simp only []; omega)) ?_; repeat (first | exact sl_n | refine sl_c rfl ?_)) (fun w h => h.ent aEt)
 try simp only [decide_eq_false_iff_not] at h6
 obtain rfl : k = 0 := by omega
 have hLG : pln Lk = grwRW mo (pathN (j : Int) (pln L9) x.key).1 ((pathN (j : Int) (pln L9) x.key).1.length - 1) (insRB (j : Int) (pln L9) x) := hx1
 obtain ⟨LG, rfl⟩ : ∃ LG, LG = Lk := ⟨_, rfl⟩
 have hrt : RootROk mo rm (pln LG) := by rw [hLG]; exact hok.root
 have hiG : 0 < LG.length := by rw [← pln_len]; exact hrt.lt
 have hlG := hrt.len
 rw [pln_len] at hlG
 refine s_exit_to rfl ?_
 iterate 2 refine aS ?_
 refine s_draw [] mixed ?_
 refine dFa 0 ?_
 refine dLd 1 [] ?_
 refine d_p 2 rfl (p_indexAddr rfl rfl rfl sl_22 (0) (by omega) (by omega) rfl) (by kernel_rfl) rfl rfl ?_
 refine d_slot (show _ = Value.pointer (some ⟨ga, 0 * 3, none⟩) from by rw [Nat.zero_add]) ?_
 refine dFa 3 ?_
 refine d_q 4 [] rfl (q_load_at rfl rfl sz_77 (fun w h => HS.nd_cell hiG h aPk 1 rfl (by decide))) (by kernel_rfl) (by kernel_rfl) (by kernel_rfl) rfl ?_
 refine d_p 5 rfl (p_len_slice rfl rfl Tryz.underlying77) (by kernel_rfl) rfl rfl ?_
 refine dFa 6 ?_
 refine dLd 7 [] ?_
 refine dP 8 ?_
 refine dNi ?_
 refine s_weaken (L' := [(4, _), (5, _), (6, _), (11, _), (88, _)]) aSx (fun _ h => h) ?_
 refine s_cutI (α := (Nat × Nat) × List LNd) [12, 89, 90, 91, 92, 93, 94, 95, 96, 97, 98, 99, 100, 101, 102, 103, 104, 105, 106, 107, 108, 109, 110, 111, 112, 113, 114, 115, 116, 117, 118, 119, 120, 121, 122, 123, 124, 125, 126, 127, 128, 129, 130, 131] (fun _ => []) (fun y => HS w [] [.blk b4 24 4 [.int .i64 (j : Int), .int .i64 mo, .int .i64 rm, .slice (some ⟨y.1.1, 0, none⟩) (y.2).length y.1.2], .blk y.1.1 102 (y.1.2 * 3) ((y.2).flatMap LNd.vals), .star ((y.2).map (subN 26)), .blk b3 24 4 [.int .i64 0, .int .i64 0, .int .i64 0, .slice none 0 0]]) (fun y => pln y.2 = grwRR mo rm (pln LG) ∧ y.2.length ≤ y.1.2 ∧ y.1.2 ≤ maxLen) ?_ ?_
 ·skip
  refine s_cond rfl (fun h8 => ?_) fun h8 => ?_
  ·try simp only [decide_eq_true_eq] at h8
   have hbR : rm < ((nth (pln LG) 0).es.length : Int) := by rw [pln_nth hiG]; exact h8
   iterate 2 refine aS ?_
   refine o_h (h_callF (Cs := [.blk b4 24 4 [.int .i64 (j : Int), .int .i64 mo, .int .i64 rm, .slice (some ⟨ga, 0, none⟩) (LG).length gc], .blk ga 102 (gc * 3) ((LG).flatMap LNd.vals), .star ((LG).map (subN 26))]) rfl fn_64 rfl aPs (fun w1 h1 hf => c64 w1 b4 j mo rm ga gc LG hf hx4 hx5 hiG (by omega))) rfl (fun ⟨⟨g6, c6⟩, L6⟩ hF6 => ?_)
   dsimp only
   obtain ⟨hL6, hn6, hm6⟩ := hF6
   simp only [] at hL6 hn6 hm6
   have hi6 : 0 < L6.length := by have := frsN_len (pln LG); rw [← pln_len, hL6]; rw [pln_len] at this; omega
   have ho6 : (frsN (pln LG)).1 < L6.length := by rw [← pln_len, hL6]; exact frsN_lt _
   have hon : (frsN (pln LG)).1 ≠ 0 := by have := frsN_ge (ns := pln LG) (by rw [pln_len]; exact hiG); omega
   iterate 3 refine aS ?_
   refine s_draw [18, 21] mixed ?_
   refine dFa 0 ?_
   refine dLd 1 [[], []] ?_
   refine dP 2 ?_
   refine dFa 3 ?_
   refine dLd 4 [[], []] ?_
   refine dP 5 ?_
   refine dFa 6 ?_
   refine dLd 7 [[], []] ?_
   refine d_p 8 rfl (p_indexAddr rfl rfl rfl sl_22 (0) (by omega) (by omega) rfl) (by kernel_rfl) rfl rfl ?_
   refine d_slot (show _ = Value.pointer (some ⟨g6, 0 * 3, none⟩) from by rw [Nat.zero_add]) ?_
   refine dFa 9 ?_
   refine d_q 10 [[], []] rfl (q_load_at rfl rfl sz_77 (fun w h => HS.nd_cell hi6 h aPk 1 rfl (by decide))) (by kernel_rfl) (by kernel_rfl) (by kernel_rfl) rfl ?_
   refine dFa 11 ?_
   refine dLd 12 [[], []] ?_
   refine d_p 13 rfl (p_indexAddr rfl rfl rfl sl_22 (0) (by omega) (by omega) rfl) (by kernel_rfl) rfl rfl ?_
   refine d_slot (show _ = Value.pointer (some ⟨g6, 0 * 3, none⟩) from by rw [Nat.zero_add]) ?_
   refine dFa 14 ?_
   refine d_q 15 [[], []] rfl (q_load_at rfl rfl sz_30 (fun w h => HS.nd_cell hi6 h aPk 2 rfl (by decide))) (by kernel_rfl) (by kernel_rfl) (by kernel_rfl) rfl ?_
   refine d_p 16 rfl (p_indexAddr rfl rfl rfl sl_22 ((frsN (pln LG)).1) (by omega) (by omega) rfl) (by kernel_rfl) rfl rfl ?_
   refine d_slot (show _ = Value.pointer (some ⟨g6, (frsN (pln LG)).1 * 3, none⟩) from by rw [Nat.zero_add]) ?_
   refine dFa 17 ?_
   refine dSt 18 ?_ (hl := (by rw [flat_length nv3]; show _ + 1 ≤ _; omega))
   refine dTu [21] ?_
   refine d_p 19 rfl (p_indexAddr rfl rfl rfl sl_22 ((frsN (pln LG)).1) (by omega) (by omega) rfl) (by kernel_rfl) rfl rfl ?_
   refine d_slot (show _ = Value.pointer (some ⟨g6, (frsN (pln LG)).1 * 3, none⟩) from by rw [Nat.zero_add]) ?_
   refine dFa 20 ?_
   refine d_h0 21 rfl (h_store rfl rfl rfl sz_30 rfl aPt (by rw [setMany_length, flat_length nv3]; show _ + 1 ≤ _; omega) rfl) (by kernel_rfl) (fun w h => h.ent aEt) (fun _ _ => ?_)
   refine dTu [] ?_
   refine dNi ?_
   iterate 3 refine aS ?_
   refine o_ex (fun w h => HS.node_move (i := 0) (gn := g6) (cap := c6) hi6 ho6 (fun e => hon e.symm) h aPk aPk) fun L7 => ?_
   refine o_fact (fun w h => h.1) fun hS7 => ?_
   refine o_class (fun w h => h.2) ?_
   have hi7 : 0 < L7.length := by rw [hS7.len]; exact hi6
   have hN7 : nth L7 0 = nth L6 0 := hS7.other hi6 hon
   rw [← hN7]
   iterate 4 refine aS ?_
   refine o_h (h_buildSlice (cs := [_]) rfl rfl sl_30 zr_3 rfl rfl rfl) rfl (fun b9 _ => ?_)
   refine o_p (p_indexAddr rfl rfl rfl sl_22 (0) (by omega) (by omega) rfl) rfl ?_
   refine o_slot (show _ = Value.pointer (some ⟨g6, 0 * 3, none⟩) from by rw [Nat.zero_add]) ?_
   refine aS ?_
   refine o_h0 (h_store rfl rfl rfl sz_77 rfl aPt (by rw [flat_length nv3]; show _ + 1 ≤ _; omega) rfl) (fun _ _ => ?_)
   refine o_p (p_indexAddr rfl rfl rfl sl_22 (0) (by omega) (by omega) rfl) rfl ?_
   refine o_slot (show _ = Value.pointer (some ⟨g6, 0 * 3, none⟩) from by rw [Nat.zero_add]) ?_
   refine aS ?_
   refine o_h0 (h_store rfl rfl rfl sz_30 rfl aPt (by rw [setMany_length, flat_length nv3]; show _ + 1 ≤ _; omega) rfl) (fun _ _ => ?_)
   iterate 2 refine aS ?_
   refine s_weaken (L' := [(4, _), (5, _), (6, _), (11, _), (12, _), (88, _)]) aSx (fun _ h => h) ?_
   refine s_ex (fun w h => HS.node_low (i := 0) (gn := g6) (cap := c6) (ca := some ⟨b9, 0, none⟩) (cc := 1) (cs := [((frsN (pln LG)).1 : Int)]) hi7 (HS.own_shut (t := 3) (sz := 1) (n := 1) (cap := 1) (h.pick (A := .blk b9 3 (1 * 1) (inV ((frsN (pln LG)).1 : Int))) aPk) rfl (by decide) (by decide)) (.there aPk) .here aPk) fun L8 => ?_
   refine s_fact (fun w h => h.1) fun hS8 => ?_
   refine s_class (fun w h => h.2) ?_
   have ho8 : (frsN (pln LG)).1 < L8.length := by rw [hS8.len, hS7.len]; exact ho6
   have hl8 : L8.length = L6.length := by rw [hS8.len, hS7.len]
   have hL8 : pln L8 = (lowR (pln LG)).2 := lowR_eq hL6 hi6 ho6 hS7 hS8 hi7
   refine s_class (C' := HS w [] [.blk b4 24 4 [.int .i64 (j : Int), .int .i64 mo, .int .i64 rm, .slice (some ⟨g6, 0, none⟩) (L8).length c6], .blk g6 102 (c6 * 3) ((L8).flatMap LNd.vals), .star ((L8).map (subN 26)), .own (.slice pa ((pathN (j : Int) (pln L9) x.key).1).length pc) 3 1 ((pathN (j : Int) (pln L9) x.key).1).length (((pathN (j : Int) (pln L9) x.key).1).map fun i : Nat => Value.int .i64 (i : Int)), .blk b2 26 2 (TEnt.vals x), .blk b3 24 4 [.int .i64 0, .int .i64 0, .int .i64 0, .slice none 0 0]]) (fun w2 h => by rw [hl8]; exact h.ent aEt) ?_
   refine s_draw [] mixed ?_
   refine dFa 0 ?_
   refine dLd 1 [] ?_
   refine dP 2 ?_
   refine d_p 3 rfl (p_indexAddr rfl rfl rfl sl_22 ((frsN (pln LG)).1) (by omega) (by omega) rfl) (by kernel_rfl) rfl rfl ?_
   refine d_slot (show _ = Value.pointer (some ⟨g6, (frsN (pln LG)).1 * 3, none⟩) from by rw [Nat.zero_add]) ?_
   refine dFa 4 ?_
   refine d_q 5 [] rfl (q_load_at rfl rfl sz_77 (fun w h => HS.nd_cell ho8 h aPk 1 rfl (by decide))) (by kernel_rfl) (by kernel_rfl) (by kernel_rfl) rfl ?_
   refine d_p 6 rfl (p_len_slice rfl rfl Tryz.underlying77) (by kernel_rfl) rfl rfl ?_
   refine dFa 7 ?_
   refine dLd 8 [] ?_
   refine dP 9 ?_
   refine dNi ?_
   refine s_cond rfl (fun h10 => ?_) fun h10 => ?_
   ·try simp only [decide_eq_true_eq] at h10
    have hb8 : mo < ((nth (lowR (pln LG)).2 (lowR (pln LG)).1).es.length : Int) := by rw [← hL8, show (lowR (pln LG)).1 = (frsN (pln LG)).1 from rfl, pln_nth ho8]; exact h10
    have hspR := hrt.spl hbR hb8
    iterate 2 refine aS ?_
    refine o_h (h_callF (Cs := [.blk b4 24 4 [.int .i64 (j : Int), .int .i64 mo, .int .i64 rm, .slice (some ⟨g6, 0, none⟩) (L8).length c6], .blk g6 102 (c6 * 3) ((L8).flatMap LNd.vals), .star ((L8).map (subN 26))]) rfl fn_63 rfl aPs (fun w1 h1 hf => c63 w1 b4 j mo rm g6 c6 L8 0 (frsN (pln LG)).1 hf (by omega) hm6 (by rw [hL8]; exact hspR))) rfl (fun ⟨⟨g7, c7⟩, L9b⟩ hF7 => ?_)
    refine aS ?_
    exact s_joinI ((g7, c7), L9b) ⟨by rw [grwRR, if_pos hbR, if_pos hb8, ← hL8]; exact hF7.1, hF7.2.1, hF7.2.2⟩ aSx (fun w h => h.ent aEt)
   try simp only [decide_eq_false_iff_not] at h10
   have hb8 : ¬ mo < ((nth (lowR (pln LG)).2 (lowR (pln LG)).1).es.length : Int) := by rw [← hL8, show (lowR (pln LG)).1 = (frsN (pln LG)).1 from rfl, pln_nth ho8]; have hq := h10; simp only [LNd.pl]; omega
   refine aS ?_
   exact s_joinI ((g6, c6), L8) ⟨by rw [grwRR, if_pos hbR, if_neg hb8]; exact hL8, by simp only []; omega, hm6⟩ aSx (fun w h => h.ent aEt)
  try simp only [decide_eq_false_iff_not] at h8
  have hbR : ¬ rm < ((nth (pln LG) 0).es.length : Int) := by rw [pln_nth hiG]; have hq := h8; simp only [LNd.pl]; omega
  refine aS ?_
  exact s_joinI ((ga, gc), LG) ⟨by rw [grwRR, if_neg hbR], hx4, hx5⟩ aSx (fun w h => h.ent aEt)
 intro ⟨⟨gz, cz⟩, LZ⟩ hz
 dsimp only
 obtain ⟨hz1, hz2, hz3⟩ := hz
 simp only [] at hz1 hz2 hz3
 iterate 3 refine aS ?_
 refine o_h0 (h_store rfl rfl rfl sz_24 rfl aPt (by show 4 ≤ 4; omega) rfl) (fun _ _ => ?_)
 refine aS ?_
 exact s_retv (rs := [.cell 4 24]) rfl (.cell rfl sz_24 aPk rfl (.nil)) (fun w' h' => ⟨((some ⟨gz, 0, none⟩, cz), LZ), rfl, by rw [hz1, hLG, ← hL9]; rfl, nodes_join (h'.ent (Bs := [.blk gz 102 (cz * 3) (LZ.flatMap LNd.vals), .star (LZ.map (subN 26))]) aEt) hz2 hz3⟩)
end Go.Proofs
namespace Gx
set_option linter.unusedSimpArgs false
set_option linter.unusedVariables false
set_option linter.unusedSectionVars false
open Go Go.RowKit
theorem HS.sub_one {w0 w : World} {M : List Nat} {As : List HA} {a : Option Addr} {c : Nat} {et : Nat} (h : HS w0 M (.own (.slice none 0 0) et 2 0 [] :: .own (.slice none 0 0) 3 1 0 [] :: .own (.slice a 1 c) 102 3 1 [.bool true, .slice none 0 0, .slice none 0 0] :: As) w) : HS w0 M (.own (.slice a 1 c) 102 3 1 [.bool true, .slice none 0 0, .slice none 0 0] :: .star ([(LNd.fre : LNd)].map (subN et)) :: As) w := by
  have h1 := HS.star_close (Bs := [_, _]) h
  have h2 : HS w0 M (.star [.star [.own (.slice none 0 0) et 2 0 [], .own (.slice none 0 0) 3 1 0 []]] :: .own (.slice a 1 c) 102 3 1 [.bool true, .slice none 0 0, .slice none 0 0] :: As) w := HS.star_close (Bs := [_]) h1
  exact h2.perm (List.Perm.swap ..)
def smB (m : Nat) (ns : List Nd) : Bool := ns.all fun n => decide (n.es.length ≤ m) && decide (n.cs.length ≤ m)
theorem smB_ok {m : Nat} {ns : List Nd} (h : smB m ns = true) : Sm m ns := fun k => by
  rcases Nat.lt_or_ge k ns.length with hk | hk
  · have h1 := List.all_eq_true.1 h _ (mem_nth hk)
    simp only [Bool.and_eq_true, decide_eq_true_eq] at h1
    exact h1
  · rw [nth_out hk]
    exact ⟨Nat.zero_le _, Nat.zero_le _⟩
def bdB (ns : List Nd) : Bool := decide (ns.length ≤ 1000) && smB 1000 ns
theorem bdB_ok {ns : List Nd} (h : bdB ns = true) : Bd ns := by
  unfold bdB at h
  simp only [Bool.and_eq_true, decide_eq_true_eq] at h
  exact ⟨h.1, fun i _ => (smB_ok h.2 i).1, fun i _ => (smB_ok h.2 i).2⟩
def spRB (mo : Int) (ns : List Nd) (p i : Nat) : Bool := decide ((0 ≤ mo ∧ mo ≤ 1000) ∧ ns.length ≤ 900 ∧ smB 900 ns = true ∧ i < ns.length ∧ (nth ns i).us = true ∧ splM mo < (nth ns i).es.length ∧ ((nth ns i).cs.length = 0 ∨ splM mo + 1 ≤ (nth ns i).cs.length) ∧ p < ns.length ∧ ixR (nth (splRA mo ns i) p).cs (i : Int) ≤ (nth (splRA mo ns i) p).es.length ∧ ixR (nth (splRA mo ns i) p).cs (i : Int) + 1 ≤ (nth (splRA mo ns i) p).cs.length)
theorem spRB_ok {mo : Int} {ns : List Nd} {p i : Nat} (h : spRB mo ns p i = true) : SpROk mo ns p i := by
  obtain ⟨h1, h2, h3, h4, h5, h6, h7, h8, h9, h10⟩ := of_decide_eq_true h
  exact ⟨h1, h2, smB_ok h3, h4, h5, h6, h7, h8, h9, h10⟩
def grwRB (mo : Int) (P : List Nat) : Nat → List Nd → Bool
  | 0, _ => true
  | k + 1, ns => (decide (nth P (k + 1) < ns.length) && (!decide (mo < ((nth ns (nth P (k + 1))).es.length : Int)) || spRB mo ns (nth P k) (nth P (k + 1)))) && grwRB mo P k (if mo < ((nth ns (nth P (k + 1))).es.length : Int) then splR mo ns (nth P k) (nth P (k + 1)) else ns)
theorem imp_of {p : Prop} [Decidable p] {b : Bool} (h : (!decide p || b) = true) (hp : p) : b = true := by
  rw [decide_eq_true hp] at h
  exact h
theorem grwRB_ok {mo : Int} {P : List Nat} : ∀ {k : Nat} {ns : List Nd}, grwRB mo P k ns = true → GrwROk mo P k ns
  | 0, _, _ => trivial
  | k + 1, ns, h => by
    unfold grwRB at h
    rw [Bool.and_eq_true, Bool.and_eq_true, decide_eq_true_eq] at h
    exact ⟨⟨h.1.1, fun hp => spRB_ok (imp_of h.1.2 hp)⟩, grwRB_ok h.2⟩
def rootRB (mo rm : Int) (ns : List Nd) : Bool := decide (0 < ns.length ∧ ns.length ≤ 900 ∧ (nth ns 0).us = true ∧ (rm < ((nth ns 0).es.length : Int) → mo < ((nth (lowR ns).2 (lowR ns).1).es.length : Int) → spRB mo (lowR ns).2 0 (lowR ns).1 = true))
theorem rootRB_ok {mo rm : Int} {ns : List Nd} (h : rootRB mo rm ns = true) : RootROk mo rm ns := by
  obtain ⟨h1, h2, h3, h4⟩ := of_decide_eq_true h
  exact ⟨h1, h2, h3, fun a b => spRB_ok (h4 a b)⟩
def insRBk (co mo rm : Int) (ns : List Nd) (x : TEnt) : Bool := decide (0 < (pathN co ns x.key).1.length ∧ (pathN co ns x.key).1.length ≤ 900 ∧ lastN (pathN co ns x.key).1 < ns.length ∧ grwRB mo (pathN co ns x.key).1 ((pathN co ns x.key).1.length - 1) (insRB co ns x) = true ∧ rootRB mo rm (grwRW mo (pathN co ns x.key).1 ((pathN co ns x.key).1.length - 1) (insRB co ns x)) = true)
theorem insRBk_ok {co mo rm : Int} {ns : List Nd} {x : TEnt} (h : insRBk co mo rm ns x = true) : InsROk co mo rm ns x := by
  obtain ⟨h1, h2, h3, h4, h5⟩ := of_decide_eq_true h
  exact ⟨h1, h2, h3, grwRB_ok h4, rootRB_ok h5⟩
def spB (mo : Int) (ns : List Nd) (i : Nat) : Bool := decide ((0 ≤ mo ∧ mo ≤ 1000) ∧ ns.length ≤ 900 ∧ smB 900 ns = true ∧ i < ns.length ∧ (nth ns i).us = true ∧ splM mo < (nth ns i).es.length ∧ ((nth ns i).cs.length = 0 ∨ splM mo + 1 ≤ (nth ns i).cs.length) ∧ (parN (i : Int) (splA mo ns i) 0).1 < (splA mo ns i).length ∧ (parN (i : Int) (splA mo ns i) 0).2 ≤ (nth (splA mo ns i) (parN (i : Int) (splA mo ns i) 0).1).es.length ∧ (parN (i : Int) (splA mo ns i) 0).2 + 1 ≤ (nth (splA mo ns i) (parN (i : Int) (splA mo ns i) 0).1).cs.length)
theorem spB_ok {mo : Int} {ns : List Nd} {i : Nat} (h : spB mo ns i = true) : SpOk mo ns i := by
  obtain ⟨h1, h2, h3, h4, h5, h6, h7, h8, h9, h10⟩ := of_decide_eq_true h
  exact ⟨h1, h2, smB_ok h3, h4, h5, h6, h7, h8, h9, h10⟩
def grwB (mo : Int) : List Nd → List Nat → Bool
  | _, [] => true
  | ns, i :: P => (decide (i < ns.length) && (!decide (0 < i ∧ mo < ((nth ns i).es.length : Int)) || spB mo ns i)) && grwB mo (grw1 mo ns i) P
theorem grwB_ok {mo : Int} : ∀ {P : List Nat} {ns : List Nd}, grwB mo ns P = true → GrwOk mo ns P
  | [], _, _ => trivial
  | i :: P, ns, h => by
    unfold grwB at h
    rw [Bool.and_eq_true, Bool.and_eq_true, decide_eq_true_eq] at h
    exact ⟨⟨h.1.1, fun a b => spB_ok (imp_of h.1.2 ⟨a, b⟩)⟩, grwB_ok h.2⟩
def rootB (mo rm : Int) (ns : List Nd) : Bool := decide (0 < ns.length ∧ ns.length ≤ 900 ∧ (nth ns 0).us = true ∧ (rm < ((nth ns 0).es.length : Int) → mo < ((nth (lowN ns).2 (lowN ns).1).es.length : Int) → spB mo (lowN ns).2 (lowN ns).1 = true))
theorem rootB_ok {mo rm : Int} {ns : List Nd} (h : rootB mo rm ns = true) : RootOk mo rm ns := by
  obtain ⟨h1, h2, h3, h4⟩ := of_decide_eq_true h
  exact ⟨h1, h2, h3, fun a b => spB_ok (h4 a b)⟩
def insOB (co mo rm : Int) (ns : List Nd) (x : TEnt) : Bool := decide (0 < (pathN co ns x.key).1.length ∧ (pathN co ns x.key).1.length ≤ 900 ∧ leafN co ns x.key < ns.length ∧ (nth ns (leafN co ns x.key)).es.length ≤ 900 ∧ (pathN co ns x.key).2.1 ≤ (nth ns (leafN co ns x.key)).es.length ∧ grwB mo (insB co ns x) (pathN co ns x.key).1.reverse = true ∧ rootB mo rm (grwW mo (insB co ns x) (pathN co ns x.key).1.reverse) = true)
theorem insOB_ok {co mo rm : Int} {ns : List Nd} {x : TEnt} (h : insOB co mo rm ns x = true) : InsOk co mo rm ns x := by
  obtain ⟨h1, h2, h3, h4, h5, h6, h7⟩ := of_decide_eq_true h
  exact ⟨h1, h2, h3, h4, h5, grwB_ok h6, rootB_ok h7⟩
def filB (mo : Int) (ns : List Nd) (p k : Nat) : Bool := decide ((0 ≤ mo ∧ mo ≤ 1000) ∧ p < ns.length ∧ k < (nth ns p).cs.length ∧ (nth ns p).cs.length = (nth ns p).es.length + 1 ∧ (∀ x, x < (nth ns p).cs.length → 0 ≤ (nth ns p).cs.getD x 0 ∧ kdN ns p x < ns.length ∧ p ≠ kdN ns p x) ∧ (∀ x, x < (nth ns p).cs.length → ∀ y, y < (nth ns p).cs.length → x ≠ y → kdN ns p x ≠ kdN ns p y) ∧ ns.length ≤ 900 ∧ smB 900 ns = true)
theorem filB_ok {mo : Int} {ns : List Nd} {p k : Nat} (h : filB mo ns p k = true) : FilOk mo ns p k := by
  obtain ⟨h1, h2, h3, h4, h5, h6, h7, h8⟩ := of_decide_eq_true h
  exact ⟨h1, h2, h3, h4, h5, fun x y hx hy => h6 x hx y hy, h7, smB_ok h8⟩
def filsB (mo : Int) : List Nd → List Nat → Bool
  | _, [] => true
  | ns, i :: P => (decide (i < ns.length) && (!decide (0 < i ∧ ((nth ns i).es.length : Int) < mo / 2) || filB mo ns (parN (i : Int) ns 0).1 (parN (i : Int) ns 0).2)) && filsB mo (fil1 mo ns i) P
theorem filsB_ok {mo : Int} : ∀ {P : List Nat} {ns : List Nd}, filsB mo ns P = true → FilsOk mo ns P
  | [], _, _ => trivial
  | i :: P, ns, h => by
    unfold filsB at h
    rw [Bool.and_eq_true, Bool.and_eq_true, decide_eq_true_eq] at h
    exact ⟨⟨h.1.1, fun a b => filB_ok (imp_of h.1.2 ⟨a, b⟩)⟩, filsB_ok h.2⟩
def rotB (ns : List Nd) : Bool := decide (0 < ns.length ∧ ns.length ≤ 900 ∧ (nth ns 0).us = true ∧ ((nth ns 0).cs.length = 1 → 0 < (nth ns 0).cs.getD 0 0 ∧ kdN ns 0 0 < ns.length ∧ (nth ns (kdN ns 0 0)).us = true))
theorem rotB_ok {rm : Int} {ns : List Nd} (h : rotB ns = true) : RotOk rm ns := by
  obtain ⟨h1, h2, h3, h4⟩ := of_decide_eq_true h
  exact ⟨h1, h2, h3, h4⟩
def rgtB (ns : List Nd) : Nat → Nat → Bool
  | 0, _ => false
  | f + 1, i => decide (i < ns.length) && (decide ((nth ns i).cs.length = 0) || (decide (0 ≤ (nth ns i).cs.getD ((nth ns i).cs.length - 1) 0) && rgtB ns f (kdN ns i ((nth ns i).cs.length - 1))))
theorem rgtB_ok {ns : List Nd} : ∀ {f i : Nat}, rgtB ns f i = true → RgtOk ns f i
  | 0, _, h => (nomatch h)
  | f + 1, i, h => by
    unfold rgtB at h
    rw [Bool.and_eq_true, Bool.or_eq_true, Bool.and_eq_true, decide_eq_true_eq, decide_eq_true_eq, decide_eq_true_eq] at h
    refine ⟨h.1, ?_⟩
    rcases h.2 with h2 | h2
    · exact .inl h2
    · exact .inr ⟨h2.1, rgtB_ok h2.2⟩
def remB (mo rm : Int) (ns : List Nd) (P : List Nat) (k : Nat) : Bool := decide ((0 ≤ mo ∧ mo ≤ 1000) ∧ 0 < P.length ∧ P.length ≤ 900 ∧ ns.length ≤ 900 ∧ smB 900 ns = true ∧ lastN P < ns.length ∧ k < (nth ns (lastN P)).es.length ∧ (0 < (nth ns (lastN P)).cs.length → k < (nth ns (lastN P)).cs.length ∧ 0 ≤ (nth ns (lastN P)).cs.getD k 0 ∧ rgtB ns ns.length (kdN ns (lastN P) k) = true ∧ lastN P ≠ lastN (remQ ns P k) ∧ 0 < (nth ns (lastN (remQ ns P k))).es.length ∧ lastN (remQ ns P k) < ns.length) ∧ (0 < (remQ ns P k).length ∧ (remQ ns P k).length ≤ 1900) ∧ lastN (remQ ns P k) < ns.length ∧ remK ns P k < (nth (rem1 ns P k) (lastN (remQ ns P k))).es.length ∧ smB 900 (rem1 ns P k) = true ∧ filsB mo (rem2 ns P k) (remQ ns P k).reverse = true ∧ rotB (filW mo (rem2 ns P k) (remQ ns P k).reverse) = true)
theorem remB_ok {mo rm : Int} {ns : List Nd} {P : List Nat} {k : Nat} (h : remB mo rm ns P k = true) : RemOk mo rm ns P k := by
  obtain ⟨h1, h2, h3, h4, h5, h6, h7, h8, h9, h10, h11, h12, h13, h14⟩ := of_decide_eq_true h
  exact ⟨h1, h2, h3, h4, smB_ok h5, h6, h7, fun a => ⟨(h8 a).1, (h8 a).2.1, rgtB_ok (h8 a).2.2.1, (h8 a).2.2.2⟩, h9, h10, h11, smB_ok h12, filsB_ok h13, rotB_ok h14⟩
def ltrK (k : Nat) : TEnt := ⟨[UInt8.ofNat (97 + k)], []⟩
def ltrs : Nat → List Nd
  | 0 => [⟨true, [], []⟩]
  | k + 1 => insR 0 4 2 (ltrs k) (ltrK k)
theorem ltr_wrap : ∀ k, k < 11 → IntKind.u8.wrap (((97 + k : Nat) : Int) + 1) = ((97 + (k + 1) : Nat) : Int) := by decide
def letB (k : Nat) : Bool := decide (0 < (ltrs k).length) && (bdB (ltrs k) && (decide ((nodsE ⟨0, 4, 2, ltrs k⟩ (ltrs k).length 0 []).2 = 0) && (insRBk 0 4 2 (ltrs k) (ltrK k) && keyOk 0 (ltrK k).key)))
structure LetOk (k : Nat) : Prop where
  n0 : 0 < (ltrs k).length
  bd : Bd (ltrs k)
  tok : TOk 0 (ltrs k)
  ins : InsROk 0 4 2 (ltrs k) (ltrK k)
  key : keyOk 0 (ltrK k).key = true
theorem letB_ok {k : Nat} (h : letB k = true) : LetOk k := by
  unfold letB at h
  simp only [Bool.and_eq_true, decide_eq_true_eq] at h
  exact ⟨h.1, bdB_ok h.2.1, tok_of (t := ⟨0, 4, 2, ltrs k⟩) h.2.2.1, insRBk_ok h.2.2.2.1, h.2.2.2.2⟩
set_option maxRecDepth 100000 in
theorem letB_all : (List.range 11).all letB = true := by decide +kernel
theorem letOk {k : Nat} (h : k < 11) : LetOk k := letB_ok (List.all_eq_true.1 letB_all k (List.mem_range.2 h))
abbrev aK : TEnt := ⟨[107], []⟩
abbrev i0 : Int := ((0 : Nat) : Int)
theorem klen_tok {co : Int} {L : List LNd} (h : TOk co (pln L)) : ∀ i, i < L.length → ∀ x ∈ (nth L i).es, x.key.length ≤ 1000000 := fun i hi x hx => (tok_key h i (by rw [pln_len]; exact hi) x (by rw [pln_nth hi]; exact hx)).2
set_option maxRecDepth 100000 in
theorem aw_t10 : (treE ⟨i0, 4, 2, ltrs 10⟩).2 = 0 := by decide +kernel
set_option maxRecDepth 100000 in
theorem aw_t11 : (treE ⟨i0, 4, 2, ltrs 11⟩).2 = 0 := by decide +kernel
set_option maxRecDepth 100000 in
theorem aw_b11 : bdB (ltrs 11) = true := by decide +kernel
set_option maxRecDepth 100000 in
theorem aw_b10 : bdB (ltrs 10) = true := by decide +kernel
theorem aw_e : entE i0 aK = 0 := by decide +kernel
set_option maxRecDepth 100000 in
theorem aw_ins : insOB i0 4 2 (ltrs 10) aK = true := by decide +kernel
set_option maxRecDepth 100000 in
theorem aw_i0 : insE i0 4 2 (ltrs 10) aK = 0 := by decide +kernel
set_option maxRecDepth 100000 in
theorem aw_c1 : chgN (ltrs 10) (insT i0 4 2 (ltrs 10) aK) = [0, 3, 4, 5] := by decide +kernel
set_option maxRecDepth 100000 in
theorem aw_l1 : (insT i0 4 2 (ltrs 10) aK).length = 6 := by decide +kernel
set_option maxRecDepth 100000 in
theorem aw_s1 : smB 100000 (insT i0 4 2 (ltrs 10) aK) = true := by decide +kernel
theorem aw_k1 : keyE i0 [101] = 0 := by decide +kernel
theorem aw_k2 : keyE i0 [99] = 0 := by decide +kernel
set_option maxRecDepth 100000 in
theorem aw_p : (pathN i0 (ltrs 11) [101]).1 = [0, 5, 2] ∧ (pathN i0 (ltrs 11) [101]).2.2 = true := by decide +kernel
set_option maxRecDepth 100000 in
theorem aw_q : (pathN i0 (ltrs 11) [99]).2.2 = true := by decide +kernel
abbrev aR : List Nd := remN 4 2 (ltrs 11) (pathN i0 (ltrs 11) [99]).1 (pathN i0 (ltrs 11) [99]).2.1
set_option maxRecDepth 100000 in
theorem aw_r : remB 4 2 (ltrs 11) (pathN i0 (ltrs 11) [99]).1 (pathN i0 (ltrs 11) [99]).2.1 = true := by decide +kernel
set_option maxRecDepth 100000 in
theorem aw_c2 : chgN (ltrs 11) aR = [0, 1, 2, 5] := by decide +kernel
set_option maxRecDepth 100000 in
theorem aw_l2 : aR.length = 5 := by decide +kernel
set_option maxRecDepth 100000 in
theorem aw_s2 : smB 100000 aR = true := by decide +kernel
end Gx
namespace Go.Proofs
open Go Go.RowKit Gx
set_option linter.unusedVariables false
set_option linter.unusedSimpArgs false
attribute [local irreducible] Go.Calls Gx.S Gx.O Gx.D Gx.OpP Gx.OpQ Gx.OpH
set_option maxRecDepth 20000
theorem fn_32 : isFn Tryz.prog 32 = true := by kernel_rfl
theorem zr_5 : tzero Tryz.prog 5 = some [.int .u8 0] := by kernel_rfl
theorem pl_26 : tplaces Tryz.prog 26 = some [(0, 1), (1, 1)] := by kernel_rfl
theorem fn_22 : isFn Tryz.prog 22 = true := by kernel_rfl
set_option maxHeartbeats 400000 in
theorem c56 (w : World) (N : Nat) (hN : N ≤ 11) : Calls Tryz.prog 56 #[.int .u8 ((96 + N : Nat) : Int)] w fun en w' => ∃ g : (Option Addr × Nat) × List LNd, en = .returned (.agg #[.int .i64 0, .int .i64 4, .int .i64 2, .slice g.1.1 g.2.length g.1.2]) ∧ pln g.2 = ltrs N ∧ HS w [] [.nodes 26 102 g.1.1 g.1.2 g.2] w' := by
 refine enter (args := [_]) Tryz.func56 Tryz.ntmps56 rfl rfl (HS.refl w []) ?_
 iterate 2 refine aS ?_
 refine oAl (fun b1 _ => ?_) zr_24
 iterate 3 refine aS ?_
 refine o_h (h_call rfl fn_32 rfl (fun w1 h1 => c32 w1 0 4 2)) rfl (fun b2 _ => ?_)
 refine oAl (fun b3 _ => ?_) zr_24
 refine oSt ?_
 iterate 7 refine aS ?_
 refine s_loopI (α := Nat × (Option Addr × Nat) × List LNd) [4, 6, 7, 8, 9, 10, 11, 12, 13, 14, 15, 16, 17, 18, 19, 20] (fun y => [(4, .int .u8 ((97 + y.1 : Nat) : Int))]) (fun y => HS w [] [.nodes 26 102 y.2.1.1 y.2.1.2 y.2.2, .blk b3 24 4 [.int .i64 0, .int .i64 4, .int .i64 2, .slice y.2.1.1 (y.2.2).length y.2.1.2], .blk b1 24 4 [.int .i64 0, .int .i64 0, .int .i64 0, .slice none 0 0]]) (fun y => y.1 ≤ N ∧ pln y.2.2 = ltrs y.1) (fun y => N - y.1) (0, (b2.1, b2.2), [(LNd.fre : LNd)]) ⟨Nat.zero_le _, rfl⟩ aSx (fun w h => by have h3 := HS.row_shut (a := b2.1) (cap := b2.2) (l := [(LNd.fre : LNd)]) (sub := subN 26) (t := 102) (sz := 3) (vals := LNd.vals) (n := 1) (HS.sub_one (((h.own_nil 3 1).own_nil 26 2).ent (Bs := [.own (.slice none 0 0) 26 2 0 [], .own (.slice none 0 0) 3 1 0 [], .own (.slice b2.1 1 b2.2) 102 3 1 [.bool true, .slice none 0 0, .slice none 0 0], .blk b3 24 4 [.int .i64 0, .int .i64 4, .int .i64 2, .slice b2.1 ([(LNd.fre : LNd)]).length b2.2], .blk b1 24 4 [.int .i64 0, .int .i64 0, .int .i64 0, .slice none 0 0]]) aEt)) rfl rfl; exact HS.ent (As := [.nodes 26 102 b2.1 b2.2 [(LNd.fre : LNd)], .blk b3 24 4 [.int .i64 0, .int .i64 4, .int .i64 2, .slice b2.1 ([(LNd.fre : LNd)]).length b2.2], .blk b1 24 4 [.int .i64 0, .int .i64 0, .int .i64 0, .slice none 0 0]]) aEt h3) (fun ⟨k, ⟨ga, gc⟩, Lk⟩ hx => ?_)
 dsimp only
 obtain ⟨hk1, hk2⟩ := hx
 simp only [] at hk1 hk2
 iterate 7 refine aS ?_
 refine o_and 3 9 12 _ _ rfl
  (by
   intro hg4
   have hs5 := hg4; try simp only [decide_eq_true_eq] at hs5
   refine oOn 9 hg4 ?_
   refine aS ?_
   refine oOn 9 hg4 ?_
   refine aS ?_
   refine o_p (p_pickt rfl rfl hg4 rfl) rfl ?_
   refine aS ?_
   exact oJn 3 12)
  (by
   intro hg6
   have hs7 := hg6; try simp only [decide_eq_false_iff_not] at hs7
   refine oOf 9 hg6 ?_
   refine oOf 9 hg6 ?_
   refine o_p (p_pickf rfl rfl hg6 rfl) rfl ?_
   refine aS ?_
   exact oJn 3 12) ?_
 refine aS ?_
 refine s_cond rfl (fun h8 => ?_) fun h8 => ?_
 ·try simp only [Bool.and_eq_true, decide_eq_true_eq] at h8
  have hkN : k < N := by omega
  obtain ⟨hl0, hlB, hlT, hlI, hlK⟩ := letOk (show k < 11 by omega)
  rw [← hk2] at hl0 hlB hlT hlI
  rw [pln_len] at hl0
  iterate 6 refine aS ?_
  refine o_h (h_buildSlice (cs := [_]) rfl rfl sl_150 zr_5 rfl rfl rfl) rfl (fun b9 _ => ?_)
  refine o_q (q_string_blk rfl rfl Tryz.underlying150 Tryz.underlying9 Tryz.underlying5 aPk (by simp) (by simp [isU8])) rfl ?_
  refine o_p (p_build (cs := [_, _]) rfl rfl pl_26 zr_26 rfl) rfl ?_
  refine o_h (h_call rfl fn_22 rfl (fun w1 h1 => c22 w1 0 4 2 ga gc Lk (ltrK k) (by decide) hl0 hlB hlT (HS.nt h1 aPk) hlK (by show 1 ≤ 1000000; decide) hlI)) rfl (fun ⟨gd, L5⟩ hF5 => ?_)
  dsimp only
  refine oSt ?_
  iterate 5 refine aS ?_
  try (refine o_slot (u8add _ _) ?_)
  refine o_slot (show _ = Value.int .u8 ((97 + (k + 1) : Nat) : Int) from congrArg (Value.int .u8) (ltr_wrap k (by omega))) ?_
  iterate 2 refine aS ?_
  exact s_backI (k + 1, (gd.1, gd.2), L5) (by (try simp only []); omega) ⟨by (try simp only []); omega, by simp only []; rw [hF5, hk2]; rfl⟩ aSx (fun w h => h.ent aEt)
 try simp only [Bool.and_eq_false_iff, decide_eq_false_iff_not] at h8
 obtain rfl : k = N := by omega
 refine s_exit_to rfl ?_
 iterate 3 refine aS ?_
 refine oSt ?_
 refine aS ?_
 exact s_retv (rs := [.cell 2 24]) rfl (.cell rfl sz_24 aPk rfl (.nil)) (fun w' h' => ⟨((ga, gc), Lk), rfl, hk2, h'.ent aEt⟩)
theorem fn_56 : isFn Tryz.prog 56 = true := by kernel_rfl
theorem fn_16 : isFn Tryz.prog 16 = true := by kernel_rfl
theorem fn_35 : isFn Tryz.prog 35 = true := by kernel_rfl
theorem fn_25 : isFn Tryz.prog 25 = true := by kernel_rfl
theorem fn_28 : isFn Tryz.prog 28 = true := by kernel_rfl
theorem fn_23 : isFn Tryz.prog 23 = true := by kernel_rfl
set_option maxHeartbeats 400000 in
theorem c13 (w : World)  : Calls Tryz.prog 13 #[] w fun en w' => en = .returned (.bool true) ∧ Below w.heap.size w w' := by
 refine enter (args := []) Tryz.func13 Tryz.ntmps13 rfl rfl (HS.refl w []) ?_
 iterate 6 refine aS ?_
 refine o_h (h_call rfl fn_56 rfl (fun w1 h1 => c56 w1 10 (by decide))) rfl (fun ⟨⟨ga1, gc1⟩, L1⟩ hL1 => ?_)
 dsimp only
 refine o_p (p_build (cs := [_, _]) rfl rfl pl_26 zr_26 rfl) rfl ?_
 refine o_h (h_call rfl fn_16 rfl (fun w1 h1 => c16o w1 0 4 2 (ga1) gc1 L1 aK (HS.nt h1 aPk) (by rw [hL1]; exact (bdB_ok (by exact aw_b10))) (klen_tok (co := i0) (by rw [hL1]; exact tok_of (t := ⟨i0, 4, 2, ltrs 10⟩) (treE_0 aw_t10).2.2.2.2.1)) (by rw [hL1]; exact aw_t10) (by decide) aw_e (fun _ => by rw [hL1]; exact insOB_ok aw_ins) (by rw [hL1]; exact aw_i0) (by rw [hL1]; exact smB_ok aw_s1))) rfl (fun ⟨⟨⟨gi, ci⟩, LI⟩, ⟨qa1, qc1⟩⟩ hFI => ?_)
 dsimp only
 have hLI : LI.length = 6 := by rw [← pln_len, hFI, hL1]; exact aw_l1
 rw [hL1, aw_c1, hLI]
 iterate 4 refine aS ?_
 refine oAl (fun b1 _ => ?_) zr_24
 refine o_h0 (h_store rfl rfl rfl sz_24 rfl aPt (by show 4 ≤ 4; omega) rfl) (fun _ _ => ?_)
 iterate 5 refine aS ?_
 refine o_h (h_call rfl fn_56 rfl (fun w1 h1 => c56 w1 11 (by decide))) rfl (fun ⟨⟨ga2, gc2⟩, L2⟩ hL2 => ?_)
 dsimp only
 refine o_h (h_call rfl fn_35 rfl (fun w1 h1 => c35o w1 0 4 2 ga2 gc2 L2 [101] (HS.nt h1 aPk) (by rw [hL2]; exact (bdB_ok (by exact aw_b11))) (klen_tok (co := i0) (by rw [hL2]; exact tok_of (t := ⟨i0, 4, 2, ltrs 11⟩) (treE_0 aw_t11).2.2.2.2.1)) (by rw [hL2]; exact aw_t11) (by decide) aw_k1)) rfl (fun ⟨qa2, qc2⟩ _ => ?_)
 dsimp only
 rw [hL2, aw_p.1, aw_p.2]
 iterate 10 refine aS ?_
 refine o_h (h_call rfl fn_56 rfl (fun w1 h1 => c56 w1 11 (by decide))) rfl (fun ⟨⟨ga3, gc3⟩, L3⟩ hL3 => ?_)
 dsimp only
 refine o_h (h_call rfl fn_25 rfl (fun w1 h1 => c25o w1 0 4 2 ga3 gc3 L3 [99] (HS.nt h1 aPk) (by rw [hL3]; exact (bdB_ok (by exact aw_b11))) (klen_tok (co := i0) (by rw [hL3]; exact tok_of (t := ⟨i0, 4, 2, ltrs 11⟩) (treE_0 aw_t11).2.2.2.2.1)) (by rw [hL3]; exact aw_t11) (by decide) aw_k2 (by rw [hL3]; exact aw_q) (by rw [hL3]; exact remB_ok aw_r) (by rw [hL3]; exact smB_ok aw_s2) (by rw [hL3]; exact (by rw [aw_l2]; decide)))) rfl (fun ⟨⟨⟨gr, cr⟩, LR⟩, ⟨qa3, qc3⟩⟩ hFR => ?_)
 dsimp only
 have hLR : LR.length = 5 := by rw [← pln_len, hFR, hL3]; exact aw_l2
 rw [hL3, aw_c2, hLR]
 iterate 4 refine aS ?_
 refine oAl (fun b2 _ => ?_) zr_24
 refine o_h0 (h_store rfl rfl rfl sz_24 rfl aPt (by show 4 ≤ 4; omega) rfl) (fun _ _ => ?_)
 iterate 5 refine aS ?_
 refine o_q (q_call rfl fn_28 rfl (fun w1 h1 => c28 w1 1 [97] [66] (by decide) (by decide))) rfl ?_
 iterate 7 refine aS ?_
 refine s_weaken (L' := [(0, _), (1, _), (2, _), (3, _), (4, _), (5, _), (6, _), (7, _), (8, _), (9, _), (10, _), (11, _)]) aSx (fun _ h => h) ?_
 iterate 4 refine aS ?_
 refine o_and 4 37 41 _ _ rfl
  (by
   intro hg3
   have hs4 := hg3; try simp only [decide_eq_true_eq] at hs4
   refine oOn 37 hg3 ?_
   refine aS ?_
   refine oOn 37 hg3 ?_
   refine o_h (h_buildSlice (cs := [_, _, _, _]) rfl rfl sl_30 zr_3 rfl rfl rfl) rfl (fun b5 _ => ?_)
   refine oOn 37 hg3 ?_
   refine o_q (q_call rfl fn_23 rfl (fun w1 h1 => c23 w1 qa1 (some ⟨b5, 0, none⟩) qc1 4 [0, 3, 4, 5] [0, 3, 4, 5] (HS.pown_row (P := [0, 3, 4, 5]) h1 aPk) (h1.rw_blk (l := [0, 3, 4, 5]) iv1 aPk) (by decide) (by decide))) rfl ?_
   refine o_p (p_pickt rfl rfl hg3 rfl) rfl ?_
   refine aS ?_
   exact oJn 4 41)
  (by
   intro hg6
   have hs7 := hg6; try simp only [decide_eq_false_iff_not] at hs7
   refine oOf 37 hg6 ?_
   refine oOf 37 hg6 ?_
   refine oOf 37 hg6 ?_
   refine o_p (p_pickf rfl rfl hg6 rfl) rfl ?_
   refine aS ?_
   exact oJn 4 41) ?_
 refine aS ?_
 refine o_and 5 42 47 _ _ rfl
  (by
   intro hg8
   have hs9 := hg8; try simp only [Bool.and_eq_true, decide_eq_true_eq] at hs9
   refine oOn 42 hg8 ?_
   refine aS ?_
   refine oOn 42 hg8 ?_
   refine aS ?_
   refine oOn 42 hg8 ?_
   refine aS ?_
   refine oOn 42 hg8 ?_
   refine aS ?_
   refine o_p (p_pickt rfl rfl hg8 rfl) rfl ?_
   refine aS ?_
   exact oJn 5 47)
  (by
   intro hg10
   have hs11 := hg10; try simp only [Bool.and_eq_false_iff, decide_eq_false_iff_not] at hs11
   refine oOf 42 hg10 ?_
   refine oOf 42 hg10 ?_
   refine oOf 42 hg10 ?_
   refine oOf 42 hg10 ?_
   refine o_p (p_pickf rfl rfl hg10 rfl) rfl ?_
   refine aS ?_
   exact oJn 5 47) ?_
 refine aS ?_
 refine o_and 3 48 51 _ _ rfl
  (by
   intro hg12
   have hs13 := hg12; try simp only [Bool.and_eq_true, decide_eq_true_eq] at hs13
   refine oOn 48 hg12 ?_
   refine aS ?_
   refine oOn 48 hg12 ?_
   refine aS ?_
   refine o_p (p_pickt rfl rfl hg12 rfl) rfl ?_
   refine aS ?_
   exact oJn 3 51)
  (by
   intro hg14
   have hs15 := hg14; try simp only [Bool.and_eq_false_iff, decide_eq_false_iff_not] at hs15
   refine oOf 48 hg14 ?_
   refine oOf 48 hg14 ?_
   refine o_p (p_pickf rfl rfl hg14 rfl) rfl ?_
   refine aS ?_
   exact oJn 3 51) ?_
 refine aS ?_
 refine o_and 2 52 54 _ _ rfl
  (by
   intro hg16
   have hs17 := hg16; try simp only [Bool.and_eq_true, decide_eq_true_eq] at hs17
   refine oOn 52 hg16 ?_
   refine aS ?_
   refine o_p (p_pickt rfl rfl hg16 rfl) rfl ?_
   refine aS ?_
   exact oJn 2 54)
  (by
   intro hg18
   have hs19 := hg18; try simp only [Bool.and_eq_false_iff, decide_eq_false_iff_not] at hs19
   refine oOf 52 hg18 ?_
   refine o_p (p_pickf rfl rfl hg18 rfl) rfl ?_
   refine aS ?_
   exact oJn 2 54) ?_
 refine aS ?_
 refine o_and 4 55 59 _ _ rfl
  (by
   intro hg20
   have hs21 := hg20; try simp only [Bool.and_eq_true, decide_eq_true_eq] at hs21
   refine oOn 55 hg20 ?_
   refine aS ?_
   refine oOn 55 hg20 ?_
   refine o_h (h_buildSlice (cs := [_, _, _]) rfl rfl sl_30 zr_3 rfl rfl rfl) rfl (fun b22 _ => ?_)
   refine oOn 55 hg20 ?_
   refine o_q (q_call rfl fn_23 rfl (fun w1 h1 => c23 w1 qa2 (some ⟨b22, 0, none⟩) qc2 3 [0, 5, 2] [0, 5, 2] (HS.pown_row (P := [0, 5, 2]) h1 aPk) (h1.rw_blk (l := [0, 5, 2]) iv1 aPk) (by decide) (by decide))) rfl ?_
   refine o_p (p_pickt rfl rfl hg20 rfl) rfl ?_
   refine aS ?_
   exact oJn 4 59)
  (by
   intro hg23
   have hs24 := hg23; try simp only [Bool.and_eq_false_iff, decide_eq_false_iff_not] at hs24
   refine oOf 55 hg23 ?_
   refine oOf 55 hg23 ?_
   refine oOf 55 hg23 ?_
   refine o_p (p_pickf rfl rfl hg23 rfl) rfl ?_
   refine aS ?_
   exact oJn 4 59) ?_
 refine aS ?_
 refine o_and 3 60 63 _ _ rfl
  (by
   intro hg25
   have hs26 := hg25; try simp only [Bool.and_eq_true, decide_eq_true_eq] at hs26
   refine oOn 60 hg25 ?_
   refine aS ?_
   refine oOn 60 hg25 ?_
   refine aS ?_
   refine o_p (p_pickt rfl rfl hg25 rfl) rfl ?_
   refine aS ?_
   exact oJn 3 63)
  (by
   intro hg27
   have hs28 := hg27; try simp only [Bool.and_eq_false_iff, decide_eq_false_iff_not] at hs28
   refine oOf 60 hg27 ?_
   refine oOf 60 hg27 ?_
   refine o_p (p_pickf rfl rfl hg27 rfl) rfl ?_
   refine aS ?_
   exact oJn 3 63) ?_
 refine aS ?_
 refine o_and 4 64 68 _ _ rfl
  (by
   intro hg29
   have hs30 := hg29; try simp only [Bool.and_eq_true, decide_eq_true_eq] at hs30
   refine oOn 64 hg29 ?_
   refine aS ?_
   refine oOn 64 hg29 ?_
   refine o_h (h_buildSlice (cs := [_, _, _, _]) rfl rfl sl_30 zr_3 rfl rfl rfl) rfl (fun b31 _ => ?_)
   refine oOn 64 hg29 ?_
   refine o_q (q_call rfl fn_23 rfl (fun w1 h1 => c23 w1 qa3 (some ⟨b31, 0, none⟩) qc3 4 [0, 1, 2, 5] [0, 1, 2, 5] (HS.pown_row (P := [0, 1, 2, 5]) h1 aPk) (h1.rw_blk (l := [0, 1, 2, 5]) iv1 aPk) (by decide) (by decide))) rfl ?_
   refine o_p (p_pickt rfl rfl hg29 rfl) rfl ?_
   refine aS ?_
   exact oJn 4 68)
  (by
   intro hg32
   have hs33 := hg32; try simp only [Bool.and_eq_false_iff, decide_eq_false_iff_not] at hs33
   refine oOf 64 hg32 ?_
   refine oOf 64 hg32 ?_
   refine oOf 64 hg32 ?_
   refine o_p (p_pickf rfl rfl hg32 rfl) rfl ?_
   refine aS ?_
   exact oJn 4 68) ?_
 refine aS ?_
 refine o_and 5 69 74 _ _ rfl
  (by
   intro hg34
   have hs35 := hg34; try simp only [Bool.and_eq_true, decide_eq_true_eq] at hs35
   refine oOn 69 hg34 ?_
   refine aS ?_
   refine oOn 69 hg34 ?_
   refine aS ?_
   refine oOn 69 hg34 ?_
   refine aS ?_
   refine oOn 69 hg34 ?_
   refine aS ?_
   refine o_p (p_pickt rfl rfl hg34 rfl) rfl ?_
   refine aS ?_
   exact oJn 5 74)
  (by
   intro hg36
   have hs37 := hg36; try simp only [Bool.and_eq_false_iff, decide_eq_false_iff_not] at hs37
   refine oOf 69 hg36 ?_
   refine oOf 69 hg36 ?_
   refine oOf 69 hg36 ?_
   refine oOf 69 hg36 ?_
   refine o_p (p_pickf rfl rfl hg36 rfl) rfl ?_
   refine aS ?_
   exact oJn 5 74) ?_
 refine aS ?_
 refine o_and 3 75 78 _ _ rfl
  (by
   intro hg38
   have hs39 := hg38; try simp only [Bool.and_eq_true, decide_eq_true_eq] at hs39
   refine oOn 75 hg38 ?_
   refine aS ?_
   refine oOn 75 hg38 ?_
   refine aS ?_
   refine o_p (p_pickt rfl rfl hg38 rfl) rfl ?_
   refine aS ?_
   exact oJn 3 78)
  (by
   intro hg40
   have hs41 := hg40; try simp only [Bool.and_eq_false_iff, decide_eq_false_iff_not] at hs41
   refine oOf 75 hg40 ?_
   refine oOf 75 hg40 ?_
   refine o_p (p_pickf rfl rfl hg40 rfl) rfl ?_
   refine aS ?_
   exact oJn 3 78) ?_
 refine aS ?_
 refine o_and 3 79 82 _ _ rfl
  (by
   intro hg42
   have hs43 := hg42; try simp only [Bool.and_eq_true, decide_eq_true_eq] at hs43
   refine oOn 79 hg42 ?_
   refine aS ?_
   refine oOn 79 hg42 ?_
   refine aS ?_
   refine o_p (p_pickt rfl rfl hg42 rfl) rfl ?_
   refine aS ?_
   exact oJn 3 82)
  (by
   intro hg44
   have hs45 := hg44; try simp only [Bool.and_eq_false_iff, decide_eq_false_iff_not] at hs45
   refine oOf 79 hg44 ?_
   refine oOf 79 hg44 ?_
   refine o_p (p_pickf rfl rfl hg44 rfl) rfl ?_
   refine aS ?_
   exact oJn 3 82) ?_
 iterate 2 refine aS ?_
 exact s_retv (rs := [.tmp 0]) rfl (.tmp rfl (.nil)) (fun w' h' => ⟨by rfl, h'.below⟩)
theorem fn_52 : isFn Tryz.prog 52 = true := by kernel_rfl
theorem c52 (w : World) (a b : Option Addr) (c d : Nat) (l m : List TEnt) (hs : Rw TEnt.vals 2 w [] a l) (ht : Rw TEnt.vals 2 w [] b m) (hl : l.length ≤ 100000) (hm : m.length ≤ 100000) : Calls Tryz.prog 52 #[.slice a l.length c, .slice b m.length d] w fun en w' => en = .returned (.bool (decide (l = m))) ∧ Below w.heap.size w w' := by
 refine enter (args := [_, _]) Tryz.func52 Tryz.ntmps52 rfl rfl (HS.refl w []) ?_
 iterate 13 refine aS ?_
 refine s_cond rfl (fun h1 => ?_) fun h1 => ?_
 ·try simp only [Bool.not_eq_true', decide_eq_false_iff_not] at h1
  have hn9 : l ≠ m := fun e => by have hq := h1; rw [e] at hq; simp at hq
  iterate 4 refine aS ?_
  exact s_retv (rs := [.tmp 4]) rfl (.tmp rfl (.nil)) (fun w' h' => ⟨by rw [decide_eq_false hn9]; rfl, h'.below⟩)
 try simp only [Bool.not_eq_false', decide_eq_true_eq] at h1
 have hlm : l.length = m.length := by have hq := h1; omega
 iterate 7 refine aS ?_
 refine s_loopI (α := Nat) [4, 5, 11, 12, 13, 14, 15, 16, 17, 18, 19, 20, 21, 22, 23, 24, 25] (fun k => [(5, .int .i64 (k : Int))]) (fun _ => HS w [] []) (fun k => k ≤ l.length ∧ ∀ j, j < k → nth l j = nth m j) (fun k => l.length - k) 0 ⟨Nat.zero_le _, fun j h => absurd h (Nat.not_lt_zero j)⟩ aSx (fun w h => h.ent aEt) (fun k hx => ?_)
 obtain ⟨hk1, hk3⟩ := hx
 iterate 8 refine aS ?_
 refine s_cond rfl (fun h2 => ?_) fun h2 => ?_
 ·try simp only [decide_eq_true_eq] at h2
  have hk : k < l.length := by omega
  have hk2 : k < m.length := by omega
  iterate 4 refine aS ?_
  refine s_draw [] mixed ?_
  refine dP 0 ?_
  refine dP 1 ?_
  refine d_p 2 rfl (p_indexAddr rfl rfl rfl sl_77 (k) (by omega) (by omega) (Rw.some hs (by omega))) (by kernel_rfl) rfl rfl ?_
  refine d_q 3 [] rfl (q_load_oldn _ rfl rfl sz_26 rfl (Rw.rd hs (by omega))) (by kernel_rfl) (by kernel_rfl) (by kernel_rfl) rfl ?_
  refine dP 4 ?_
  refine dP 5 ?_
  refine d_p 6 rfl (p_indexAddr rfl rfl rfl sl_77 (k) (by omega) (by omega) (Rw.some ht (by omega))) (by kernel_rfl) rfl rfl ?_
  refine d_q 7 [] rfl (q_load_oldn _ rfl rfl sz_26 rfl (Rw.rd ht (by omega))) (by kernel_rfl) (by kernel_rfl) (by kernel_rfl) rfl ?_
  refine d_p 8 rfl (p_neq_agg rfl rfl rfl eqk_26 (by rfl) (by rfl) (by rfl)) (by kernel_rfl) rfl rfl ?_
  refine dNi ?_
  refine s_cond rfl (fun h3 => ?_) fun h3 => ?_
  ·try simp only [Bool.not_eq_true', Bool.and_eq_false_iff, decide_eq_false_iff_not] at h3
   have hn9 : l ≠ m := fun e => by have hq := h3; rw [e] at hq; simp at hq
   iterate 4 refine aS ?_
   exact s_retv (rs := [.tmp 4]) rfl (.tmp rfl (.nil)) (fun w' h' => ⟨by rw [decide_eq_false hn9]; rfl, h'.below⟩)
  try simp only [Bool.not_eq_false', Bool.and_eq_true, decide_eq_true_eq] at h3
  have he9 : nth l k = nth m k := by have hq := h3; exact ent_ext hq.1 hq.2.1
  iterate 5 refine aS ?_
  try refine oWr ?_
  iterate 2 refine aS ?_
  exact s_backI (k + 1) (by omega) ⟨by omega, fun j hj => (Nat.lt_or_ge j k).elim (hk3 j) (fun h9 => by obtain rfl : j = k := (by omega); exact he9)⟩ aSx (fun w h => h.ent aEt)
 try simp only [decide_eq_false_iff_not] at h2
 have hl9 : l = m := list_ext_nth hlm fun j hj => hk3 j (by omega)
 refine s_exit_to rfl ?_
 iterate 4 refine aS ?_
 exact s_retv (rs := [.tmp 4]) rfl (.tmp rfl (.nil)) (fun w' h' => ⟨by rw [decide_eq_true hl9]; rfl, h'.below⟩)
end Go.Proofs
namespace Gx
open Go Go.RowKit
section
variable {X : Ctx} {ops : Array Oper} {F : List Nat} {fuel i : Nat} {listed : Array Bool} {k : List KI} {L : Slots} {d ty : Nat} {op : Op} {pos : String} {aft : Array Edge} {w0 : World} {M : List Nat} {As Bs : List HA}
end
end Gx
namespace Gx
set_option linter.unusedSimpArgs false
set_option linter.unusedVariables false
set_option linter.unusedSectionVars false
open Go Go.RowKit Go.Proofs
section
variable {w0 w : World} {M : List Nat} {As As' : List HA}
end
abbrev siz0 (co mo rm : Int) : Int := if colE12 co = 0 then sizE mo rm else colE12 co
abbrev cE1 (co : Int) (a : List UInt8) : Int := if colE12 co = 0 then keyE co a else colE12 co
end Gx
namespace Go.Proofs
open Go Go.RowKit Gx
set_option linter.unusedVariables false
set_option linter.unusedSimpArgs false
attribute [local irreducible] Go.Calls Gx.S Gx.O Gx.D Gx.OpP Gx.OpQ Gx.OpH
set_option maxRecDepth 20000
theorem fn_13 : isFn Tryz.prog 13 = true := by kernel_rfl
theorem fn_30 : isFn Tryz.prog 30 = true := by kernel_rfl
theorem fn_31 : isFn Tryz.prog 31 = true := by kernel_rfl
end Go.Proofs
namespace Gx
set_option linter.unusedSimpArgs false
set_option linter.unusedVariables false
set_option linter.unusedSectionVars false
open Go Go.RowKit
def seenV (n : Nat) (S : List Int) : List Value := (List.range n).map fun k => Value.bool (decide (((k : Nat) : Int) ∈ S))
theorem seen_len (n : Nat) (S : List Int) : (seenV n S).length = n := by simp [seenV]
theorem seen_get {n k : Nat} {S : List Int} (h : k < n) : (seenV n S)[k]? = some (.bool (decide (((k : Nat) : Int) ∈ S))) := by
  unfold seenV
  rw [List.getElem?_map, List.getElem?_range h]
  rfl
theorem seen_set {n k : Nat} {S : List Int} (h : k < n) : setMany (seenV n S) k [.bool true] = seenV n (((k : Nat) : Int) :: S) := by
  apply List.ext_getElem?
  intro i
  show ((seenV n S).set k (.bool true))[i]? = _
  rw [List.getElem?_set]
  by_cases hi : i < n
  · rw [seen_get hi]
    by_cases e : k = i
    · subst e
      rw [if_pos rfl, if_pos (by rw [seen_len]; exact h), seen_get h, decide_eq_true (List.mem_cons_self ..)]
    · rw [if_neg e, seen_get hi]
      congr 2
      have hne : ((i : Nat) : Int) ≠ ((k : Nat) : Int) := by omega
      simp [List.mem_cons, hne]
  · rw [if_neg (by omega), List.getElem?_eq_none (by rw [seen_len]; omega), List.getElem?_eq_none (by rw [seen_len]; omega)]
theorem seen_dup {n : Nat} {c : Int} {S : List Int} (h : c ∈ S) : seenV n (c :: S) = seenV n S := by
  unfold seenV
  apply List.map_congr_left
  intro k _
  congr 1
  by_cases e : ((k : Nat) : Int) ∈ S
  · rw [decide_eq_true e, decide_eq_true (List.mem_cons_of_mem _ e)]
  · rw [decide_eq_false e, decide_eq_false (fun h2 => by
      rcases List.mem_cons.1 h2 with h3 | h3
      · exact e (h3 ▸ h)
      · exact e h3)]
theorem nodE_un {t : Tre} {i : Nat} {S : List Int} (h : ¬ (nth t.ns i).us = true) : nodE t i S = if (0 < i ∧ i + 1 < t.ns.length) ∧ (nth t.ns i).es.length + (nth t.ns i).cs.length = 0 then (0, S) else (3, S) := by
  unfold nodE
  simp only []
  rw [if_neg h]
section
variable {t : Tre} {i : Nat} {S : List Int} {n : Nd}
theorem nodE_16 (hn : nth t.ns i = n) (hu : n.us = true) (h : ¬ (n.es.length : Int) ≤ mostN t.mo t.rm i) : nodE t i S = (16, S) := by
  subst hn
  unfold nodE
  simp only []
  rw [if_pos hu, if_neg h]
theorem nodE_10 (hn : nth t.ns i = n) (hu : n.us = true) (h : (n.es.length : Int) ≤ mostN t.mo t.rm i) (h2 : ¬ (n.cs.length = 0 ∨ n.cs.length = n.es.length + 1)) : nodE t i S = (10, S) := by
  subst hn
  unfold nodE
  simp only []
  rw [if_pos hu, if_pos h, if_neg h2]
theorem nodE_en (hn : nth t.ns i = n) (hu : n.us = true) (h : (n.es.length : Int) ≤ mostN t.mo t.rm i) (h2 : n.cs.length = 0 ∨ n.cs.length = n.es.length + 1) (h3 : ¬ entsE t.co n.es = 0) : nodE t i S = (entsE t.co n.es, S) := by
  subst hn
  unfold nodE
  simp only []
  rw [if_pos hu, if_pos h, if_pos h2, if_neg h3]
theorem nodE_ki (hn : nth t.ns i = n) (hu : n.us = true) (h : (n.es.length : Int) ≤ mostN t.mo t.rm i) (h2 : n.cs.length = 0 ∨ n.cs.length = n.es.length + 1) (h3 : entsE t.co n.es = 0) (h4 : ¬ (kidsE t.ns n.cs S).1 = 0) : nodE t i S = kidsE t.ns n.cs S := by
  subst hn
  unfold nodE
  simp only []
  rw [if_pos hu, if_pos h, if_pos h2, if_pos h3, if_neg h4]
theorem nodE_or (hn : nth t.ns i = n) (hu : n.us = true) (h : (n.es.length : Int) ≤ mostN t.mo t.rm i) (h2 : n.cs.length = 0 ∨ n.cs.length = n.es.length + 1) (h3 : entsE t.co n.es = 0) (h4 : (kidsE t.ns n.cs S).1 = 0) : nodE t i S = (ordsE t.co n.es, (kidsE t.ns n.cs S).2) := by
  subst hn
  unfold nodE
  simp only []
  rw [if_pos hu, if_pos h, if_pos h2, if_pos h3, if_pos h4]
end
theorem eachF_at {es : List Int} {k : Nat} (hk : k < es.length) (h : ∀ j, j < k → es.getD j 0 = 0) (h2 : es.getD k 0 ≠ 0) : eachF es 0 = ((k : Int), es.getD k 0) := by
  have key : ∀ i, i ≤ k → eachF es 0 = eachF (es.drop i) i := by
    intro i
    induction i with
    | zero => intro _; rfl
    | succ i ih =>
      intro hi
      rw [ih (by omega), eachF_drop (by omega), if_pos (h i (by omega))]
  rw [key k (Nat.le_refl _), eachF_drop hk, if_neg h2]
theorem eachF_all {es : List Int} (h : ∀ j, j < es.length → es.getD j 0 = 0) : eachF es 0 = (0, 0) := by
  have key : ∀ i, i ≤ es.length → eachF es 0 = eachF (es.drop i) i := by
    intro i
    induction i with
    | zero => intro _; rfl
    | succ i ih =>
      intro hi
      rw [ih (by omega), eachF_drop (by omega), if_pos (h i (by omega))]
  rw [key _ (Nat.le_refl _), List.drop_length]
  rfl
theorem ents_bad {co : Int} {es : List TEnt} {k : Nat} (hk : k < es.length) (h1 : ∀ q, q < k → entE co (nth es q) = 0) (h2 : ¬ entE co (nth es k) = 0) : entsE co es = entE co (nth es k) := by
  unfold entsE
  rw [eachF_at (es := es.map (entE co)) (k := k) (by rw [List.length_map]; exact hk) (fun q hq => by rw [ents_get (by omega)]; exact h1 q hq) (by rw [ents_get hk]; exact h2), ents_get hk]
theorem ents_all {co : Int} {es : List TEnt} (h1 : ∀ q, q < es.length → entE co (nth es q) = 0) : entsE co es = 0 := by
  unfold entsE
  rw [eachF_all (fun q hq => by rw [List.length_map] at hq; rw [ents_get hq]; exact h1 q hq)]
theorem ords_bad {co : Int} {es : List TEnt} {k : Nat} (hk : k < es.length) (h1 : ∀ q, q < k → ordE co es q = 0) (h2 : ¬ ordE co es k = 0) : ordsE co es = ordE co es k := by
  unfold ordsE
  rw [eachF_at (es := (List.range es.length).map (ordE co es)) (k := k) (by simpa using hk) (fun q hq => by rw [ords_get (by omega)]; exact h1 q hq) (by rw [ords_get hk]; exact h2), ords_get hk]
theorem ords_all {co : Int} {es : List TEnt} (h1 : ∀ q, q < es.length → ordE co es q = 0) : ordsE co es = 0 := by
  unfold ordsE
  rw [eachF_all (fun q hq => by rw [List.length_map, List.length_range] at hq; rw [ords_get hq]; exact h1 q hq)]
end Gx
namespace Go.Proofs
open Go Go.RowKit Gx
set_option linter.unusedVariables false
set_option linter.unusedSimpArgs false
attribute [local irreducible] Go.Calls Gx.S Gx.O Gx.D Gx.OpP Gx.OpQ Gx.OpH
set_option maxRecDepth 20000
theorem fn_19 : isFn Tryz.prog 19 = true := by kernel_rfl
set_option maxHeartbeats 400000 in
theorem c85 (w : World) (j : Nat) (mo rm : Int) (a : Option Addr) (cap : Nat) (L : List LNd) (i sb scap tot : Nat) (S : List Int) (hw : HS w (fps [.blk sb 4 tot (seenV L.length S)]) [.blk sb 4 tot (seenV L.length S)] w) (hs : Nt w (fps [.blk sb 4 tot (seenV L.length S)]) a L) (hj : j ≤ 3) (hi : i < L.length) (hl : L.length ≤ 1000) (hel : (nth L i).es.length ≤ 1000) (hcl : (nth L i).cs.length ≤ 1000) (hK : ∀ x ∈ (nth L i).es, x.key.length ≤ 1000000) : Calls Tryz.prog 85 #[.agg #[.int .i64 (j : Int), .int .i64 mo, .int .i64 rm, .slice a L.length cap], .int .i64 (i : Int), .slice (some ⟨sb, 0, none⟩) L.length scap] w fun en w' => ∃ g : Unit, en = .returned (.int .i64 (nodE (⟨(j : Int), mo, rm, pln L⟩ : Tre) i S).1) ∧ True ∧ HS w (fps [.blk sb 4 tot (seenV L.length S)]) [.blk sb 4 tot (seenV L.length (nodE (⟨(j : Int), mo, rm, pln L⟩ : Tre) i S).2)] w' := by
 have hNI := pln_nth hi
 have hnl : (pln L).length = L.length := pln_len L
 refine enter (args := [_, _, _]) Tryz.func85 Tryz.ntmps85 rfl rfl hw ?_
 iterate 2 refine aS ?_
 refine oBx fun b1 _ => ?_
 iterate 7 refine aS ?_
 refine o_p (p_indexAddr rfl rfl rfl sl_22 (i) (by omega) (by omega) (Rw.some hs.1 (by omega))) rfl ?_
 refine o_q (q_load_oldn _ rfl rfl sz_102 rfl (Rw.rd hs.1 hi)) rfl ?_
 refine oAl (fun b2 _ => ?_) zr_102
 refine oSt ?_
 iterate 8 refine aS ?_
 refine s_cond rfl (fun h3 => ?_) fun h3 => ?_
 ·try simp only [Bool.not_eq_true'] at h3
  have hu9 : ¬ (nth L i).us = true := by have hq := h3; simp [hq]
  have hun := nodE_un (t := (⟨(j : Int), mo, rm, pln L⟩ : Tre)) (S := S) (i := i) (by rw [show ((⟨(j : Int), mo, rm, pln L⟩ : Tre)).ns = pln L from rfl, hNI]; exact hu9)
  rw [show ((⟨(j : Int), mo, rm, pln L⟩ : Tre)).ns = pln L from rfl, hNI, hnl] at hun
  iterate 6 refine aS ?_
  refine o_or 7 24 31 _ _ rfl
   (by
    intro hg4
    have hs5 := hg4; try simp only [decide_eq_false_iff_not] at hs5
    refine oOn 24 hg4 ?_
    refine aS ?_
    refine oOn 24 hg4 ?_
    refine aS ?_
    try refine oWr ?_
    refine oOn 24 hg4 ?_
    refine aS ?_
    refine oOn 24 hg4 ?_
    refine aS ?_
    refine oOn 24 hg4 ?_
    refine aS ?_
    refine oOn 24 hg4 ?_
    refine aS ?_
    refine o_p (p_pickf rfl rfl hg4 rfl) rfl ?_
    refine aS ?_
    exact oJn 7 31)
   (by
    intro hg6
    have hs7 := hg6; try simp only [decide_eq_true_eq] at hs7
    refine oOf 24 hg6 ?_
    refine oOf 24 hg6 ?_
    refine oOf 24 hg6 ?_
    refine oOf 24 hg6 ?_
    refine oOf 24 hg6 ?_
    refine oOf 24 hg6 ?_
    refine o_p (p_pickt rfl rfl hg6 rfl) rfl ?_
    refine aS ?_
    exact oJn 7 31) ?_
  refine aS ?_
  refine o_or 5 32 37 _ _ rfl
   (by
    intro hg8
    have hs9 := hg8; try simp only [Bool.or_eq_false_iff, decide_eq_false_iff_not] at hs9
    refine oOn 32 hg8 ?_
    refine aS ?_
    refine oOn 32 hg8 ?_
    refine aS ?_
    refine oOn 32 hg8 ?_
    refine aS ?_
    refine oOn 32 hg8 ?_
    refine aS ?_
    refine o_p (p_pickf rfl rfl hg8 rfl) rfl ?_
    refine aS ?_
    exact oJn 5 37)
   (by
    intro hg10
    have hs11 := hg10; try simp only [Bool.or_eq_true, decide_eq_true_eq] at hs11
    refine oOf 32 hg10 ?_
    refine oOf 32 hg10 ?_
    refine oOf 32 hg10 ?_
    refine oOf 32 hg10 ?_
    refine o_p (p_pickt rfl rfl hg10 rfl) rfl ?_
    refine aS ?_
    exact oJn 5 37) ?_
  refine aS ?_
  refine o_or 5 38 43 _ _ rfl
   (by
    intro hg12
    have hs13 := hg12; try simp only [Bool.or_eq_false_iff, decide_eq_false_iff_not] at hs13
    refine oOn 38 hg12 ?_
    refine aS ?_
    refine oOn 38 hg12 ?_
    refine aS ?_
    refine oOn 38 hg12 ?_
    refine aS ?_
    refine oOn 38 hg12 ?_
    refine aS ?_
    refine o_p (p_pickf rfl rfl hg12 rfl) rfl ?_
    refine aS ?_
    exact oJn 5 43)
   (by
    intro hg14
    have hs15 := hg14; try simp only [Bool.or_eq_true, decide_eq_true_eq] at hs15
    refine oOf 38 hg14 ?_
    refine oOf 38 hg14 ?_
    refine oOf 38 hg14 ?_
    refine oOf 38 hg14 ?_
    refine o_p (p_pickt rfl rfl hg14 rfl) rfl ?_
    refine aS ?_
    exact oJn 5 43) ?_
  refine aS ?_
  refine s_cond rfl (fun h16 => ?_) fun h16 => ?_
  ·try simp only [Bool.or_eq_true, decide_eq_true_eq] at h16
   have hn9 : ¬ ((0 < i ∧ i + 1 < L.length) ∧ (nth L i).es.length + (nth L i).cs.length = 0) := by have hq := h16; omega
   have hun2 : (nodE (⟨(j : Int), mo, rm, pln L⟩ : Tre) i S) = (3, S) := by rw [hun]; exact if_neg hn9
   iterate 4 refine aS ?_
   exact s_retv (rs := [.tmp 6]) rfl (.tmp rfl (.nil)) (fun w' h' => ⟨(), by rw [hun2]; rfl, trivial, by rw [hun2]; exact h'.ent aEt⟩)
  try simp only [Bool.or_eq_false_iff, decide_eq_false_iff_not] at h16
  have hn9 : (0 < i ∧ i + 1 < L.length) ∧ (nth L i).es.length + (nth L i).cs.length = 0 := by have hq := h16; omega
  have hun2 : (nodE (⟨(j : Int), mo, rm, pln L⟩ : Tre) i S) = (0, S) := by rw [hun]; exact if_pos hn9
  iterate 5 refine aS ?_
  exact s_retv (rs := [.tmp 6]) rfl (.tmp rfl (.nil)) (fun w' h' => ⟨(), by rw [hun2]; rfl, trivial, by rw [hun2]; exact h'.ent aEt⟩)
 try simp only [Bool.not_eq_false'] at h3
 have hu9 : (nth L i).us = true := by have hq := h3; simpa using hq
 iterate 13 refine aS ?_
 refine s_weaken (L' := [(2, _), (3, _), (6, _), (7, _), (8, _), (47, _)]) aSx (fun _ h => h) ?_
 refine s_cutS (α := Unit) [8, 48, 49] (fun _ => [(8, .int .i64 (mostN mo rm i))]) (fun _ => True) ?_ ?_
 ·skip
  refine s_cond rfl (fun h17 => ?_) fun h17 => ?_
  ·try simp only [decide_eq_true_eq] at h17
   have hi0 : i = 0 := by have hq := h17; omega
   iterate 5 refine aS ?_
   exact s_joinI () trivial (by rw [show mostN mo rm i = rm from if_pos hi0]; exact aSx) (fun w h => h)
  try simp only [decide_eq_false_iff_not] at h17
  have hi0 : ¬ i = 0 := by have hq := h17; omega
  refine aS ?_
  exact s_joinI () trivial (by rw [show mostN mo rm i = mo from if_neg hi0]; exact aSx) (fun w h => h)
 intro _ _
 iterate 9 refine aS ?_
 refine s_cond rfl (fun h18 => ?_) fun h18 => ?_
 ·try simp only [decide_eq_true_eq] at h18
  have h16 : (nodE (⟨(j : Int), mo, rm, pln L⟩ : Tre) i S) = (16, S) := nodE_16 (t := (⟨(j : Int), mo, rm, pln L⟩ : Tre)) hNI hu9 (by show ¬ ((nth L i).es.length : Int) ≤ mostN mo rm i; have hq := h18; omega)
  iterate 4 refine aS ?_
  exact s_retv (rs := [.tmp 6]) rfl (.tmp rfl (.nil)) (fun w' h' => ⟨(), by rw [h16]; rfl, trivial, by rw [h16]; exact h'.ent aEt⟩)
 try simp only [decide_eq_false_iff_not] at h18
 have hM9 : ((nth L i).es.length : Int) ≤ mostN mo rm i := by have hq := h18; omega
 iterate 9 refine aS ?_
 refine o_and 9 59 68 _ _ rfl
  (by
   intro hg19
   have hs20 := hg19; try simp only [decide_eq_true_eq] at hs20
   refine oOn 59 hg19 ?_
   refine aS ?_
   refine oOn 59 hg19 ?_
   refine aS ?_
   refine oOn 59 hg19 ?_
   refine aS ?_
   refine oOn 59 hg19 ?_
   refine aS ?_
   refine oOn 59 hg19 ?_
   refine aS ?_
   refine oOn 59 hg19 ?_
   refine aS ?_
   refine oOn 59 hg19 ?_
   refine aS ?_
   try refine oWr ?_
   refine oOn 59 hg19 ?_
   refine aS ?_
   refine o_p (p_pickt rfl rfl hg19 rfl) rfl ?_
   refine aS ?_
   exact oJn 9 68)
  (by
   intro hg21
   have hs22 := hg21; try simp only [decide_eq_false_iff_not] at hs22
   refine oOf 59 hg21 ?_
   refine oOf 59 hg21 ?_
   refine oOf 59 hg21 ?_
   refine oOf 59 hg21 ?_
   refine oOf 59 hg21 ?_
   refine oOf 59 hg21 ?_
   refine oOf 59 hg21 ?_
   refine oOf 59 hg21 ?_
   refine o_p (p_pickf rfl rfl hg21 rfl) rfl ?_
   refine aS ?_
   exact oJn 9 68) ?_
 refine aS ?_
 refine s_cond rfl (fun h23 => ?_) fun h23 => ?_
 ·try simp only [Bool.and_eq_true, decide_eq_true_eq, Bool.not_eq_true', decide_eq_false_iff_not] at h23
  have h10 : (nodE (⟨(j : Int), mo, rm, pln L⟩ : Tre) i S) = (10, S) := nodE_10 (t := (⟨(j : Int), mo, rm, pln L⟩ : Tre)) hNI hu9 hM9 (by show ¬ ((nth L i).cs.length = 0 ∨ (nth L i).cs.length = (nth L i).es.length + 1); have hq := h23; omega)
  iterate 4 refine aS ?_
  exact s_retv (rs := [.tmp 6]) rfl (.tmp rfl (.nil)) (fun w' h' => ⟨(), by rw [h10]; rfl, trivial, by rw [h10]; exact h'.ent aEt⟩)
 try simp only [Bool.and_eq_false_iff, decide_eq_false_iff_not, Bool.not_eq_false', decide_eq_true_eq] at h23
 have hS9 : (nth L i).cs.length = 0 ∨ (nth L i).cs.length = (nth L i).es.length + 1 := by have hq := h23; omega
 iterate 7 refine aS ?_
 refine s_weaken (L' := [(2, _), (3, _), (6, _), (7, _), (9, _)]) aSx (fun _ h => h) ?_
 refine s_loopI (α := Nat) [6, 9, 10, 69, 70, 71, 72, 73, 74, 75, 76, 77, 78, 79, 80, 81, 82, 83, 84, 85, 86] (fun k => [(9, .int .i64 (k : Int))]) (fun _ => HS w (fps [.blk sb 4 tot (seenV L.length S)]) [.blk sb 4 tot (seenV L.length S), .blk b1 24 4 [.int .i64 (j : Int), .int .i64 mo, .int .i64 rm, .slice a L.length cap], .blk b2 102 3 (LNd.vals (nth L i))]) (fun k => k ≤ (nth L i).es.length ∧ ∀ q, q < k → entE (j : Int) (nth (nth L i).es q) = 0) (fun k => (nth L i).es.length - k) 0 ⟨Nat.zero_le _, fun j h => absurd h (Nat.not_lt_zero j)⟩ aSx (fun w h => h.ent aEt) (fun k hx => ?_)
 obtain ⟨hk1, hk3⟩ := hx
 iterate 9 refine aS ?_
 refine s_cond rfl (fun h24 => ?_) fun h24 => ?_
 ·try simp only [decide_eq_true_eq] at h24
  have hk5 : k < (nth L i).es.length := by omega
  iterate 4 refine aS ?_
  refine s_draw [] mixed ?_
  refine dFa 0 ?_
  refine dLd 1 [] ?_
  refine dFa 2 ?_
  refine dLd 3 [] ?_
  refine dP 4 ?_
  refine d_p 5 rfl (p_indexAddr rfl rfl rfl sl_77 (k) (by omega) (by omega) (Rw.some (hs.es hi) (by omega))) (by kernel_rfl) rfl rfl ?_
  refine d_q 6 [] rfl (q_load_oldn _ rfl rfl sz_26 rfl (Rw.rd (hs.es hi) hk5)) (by kernel_rfl) (by kernel_rfl) (by kernel_rfl) rfl ?_
  refine d_q 7 [] rfl (q_call rfl fn_19 rfl (fun w1 h1 => c19 w1 j (nth (nth L i).es k) hj (hK _ (mem_nth hk5)))) (by kernel_rfl) (by kernel_rfl) (by kernel_rfl) rfl ?_
  refine dP 8 ?_
  refine dNi ?_
  iterate 5 refine aS ?_
  refine s_cond rfl (fun h25 => ?_) fun h25 => ?_
  ·try simp only [Bool.not_eq_true', decide_eq_false_iff_not] at h25
   have hz6 : ¬ entE (j : Int) (nth (nth L i).es k) = 0 := h25
   have hEb := ents_bad hk5 hk3 hz6
   have hEe : (nodE (⟨(j : Int), mo, rm, pln L⟩ : Tre) i S) = (entE (j : Int) (nth (nth L i).es k), S) := by rw [← hEb]; exact nodE_en (t := (⟨(j : Int), mo, rm, pln L⟩ : Tre)) hNI hu9 hM9 hS9 (by show ¬ entsE (j : Int) (nth L i).es = 0; rw [hEb]; exact hz6)
   iterate 5 refine aS ?_
   exact s_retv (rs := [.tmp 6]) rfl (.tmp rfl (.nil)) (fun w' h' => ⟨(), by rw [hEe]; rfl, trivial, by rw [hEe]; exact h'.ent aEt⟩)
  try simp only [Bool.not_eq_false', decide_eq_true_eq] at h25
  have hz6 : entE (j : Int) (nth (nth L i).es k) = 0 := by have hq := h25; omega
  iterate 5 refine aS ?_
  try refine oWr ?_
  iterate 2 refine aS ?_
  exact s_backI (k + 1) (by omega) ⟨by omega, fun q hq => (Nat.lt_or_ge q k).elim (hk3 q) (fun h9 => by obtain rfl : q = k := (by omega); exact hz6)⟩ aSx (fun w h => h.ent aEt)
 try simp only [decide_eq_false_iff_not] at h24
 have hEn : ∀ q, q < (nth L i).es.length → entE (j : Int) (nth (nth L i).es q) = 0 := fun q hq => hk3 q (by omega)
 have hE0 : entsE (j : Int) (nth L i).es = 0 := ents_all hEn
 refine s_exit_to rfl ?_
 iterate 6 refine aS ?_
 refine s_loopI (α := Nat × List Int) [6, 11, 12, 87, 88, 89, 90, 91, 92, 93, 94, 95, 96, 97, 98, 99, 100, 101, 102, 103, 104, 105, 106, 107, 108, 109, 110, 111, 112, 113, 114, 115, 116, 117, 118, 119, 120, 121] (fun y => [(11, .int .i64 (y.1 : Int))]) (fun y => HS w (fps [.blk sb 4 tot (seenV L.length S)]) [.blk sb 4 tot (seenV L.length y.2), .blk b1 24 4 [.int .i64 (j : Int), .int .i64 mo, .int .i64 rm, .slice a L.length cap], .blk b2 102 3 (LNd.vals (nth L i))]) (fun y => y.1 ≤ (nth L i).cs.length ∧ (kidsE (pln L) (nth L i).cs S) = kidsE (pln L) ((nth L i).cs.drop y.1) y.2) (fun y => (nth L i).cs.length - y.1) (0, S) ⟨Nat.zero_le _, rfl⟩ aSx (fun w h => h.ent aEt) (fun ⟨k, Sk⟩ hx => ?_)
 dsimp only
 obtain ⟨hk1, hk3⟩ := hx
 simp only [] at hk1 hk3
 iterate 9 refine aS ?_
 refine s_cond rfl (fun h26 => ?_) fun h26 => ?_
 ·try simp only [decide_eq_true_eq] at h26
  have hk5 : k < (nth L i).cs.length := by omega
  have hkd9 : nth (nth L i).cs k = ((nth L i).cs.getD k 0) := rfl
  have hst := kids_drop hk5
  rw [hst, kidsE_cons] at hk3
  iterate 8 refine aS ?_
  refine o_p (p_indexAddr rfl rfl rfl sl_30 (k) (by omega) (by omega) (Rw.some (hs.cs hi) (by omega))) rfl ?_
  refine o_q (q_load_old rfl rfl sz_3 (((hs.cs hi).rdj 0 hk5 rfl))) rfl ?_
  refine o_slot (show _ = Value.int .i64 ((nth L i).cs.getD k 0) from rfl) ?_
  iterate 10 refine aS ?_
  try refine oWr ?_
  refine o_q (q_call rfl fn_46 rfl (fun w1 h1 => c46 w1 _ _ _)) rfl ?_
  iterate 2 refine aS ?_
  refine o_or 8 106 114 _ _ rfl
   (by
    intro hg27
    have hs28 := hg27; try simp only [Bool.not_eq_false', Bool.and_eq_true, decide_eq_true_eq] at hs28
    refine oOn 106 hg27 ?_
    refine aS ?_
    refine oOn 106 hg27 ?_
    refine aS ?_
    refine oOn 106 hg27 ?_
    refine aS ?_
    refine oOn 106 hg27 ?_
    refine o_p (p_indexAddr rfl rfl rfl sl_22 (((nth L i).cs.getD k 0).toNat) (by omega) (by omega) (Rw.some hs.1 (by omega))) rfl ?_
    refine oOn 106 hg27 ?_
    refine aS ?_
    refine oOn 106 hg27 ?_
    refine o_q (q_load_old rfl rfl sz_4 ((hs.1.rdj 0 (i := ((nth L i).cs.getD k 0).toNat) (by omega) rfl))) rfl ?_
    refine oOn 106 hg27 ?_
    refine aS ?_
    refine o_p (p_pickf rfl rfl hg27 rfl) rfl ?_
    refine aS ?_
    exact oJn 8 114)
   (by
    intro hg29
    have hs30 := hg29; try simp only [Bool.not_eq_true', Bool.and_eq_false_iff, decide_eq_false_iff_not] at hs30
    refine oOf 106 hg29 ?_
    refine oOf 106 hg29 ?_
    refine oOf 106 hg29 ?_
    refine oOf 106 hg29 ?_
    refine oOf 106 hg29 ?_
    refine oOf 106 hg29 ?_
    refine oOf 106 hg29 ?_
    refine o_p (p_pickt rfl rfl hg29 rfl) rfl ?_
    refine aS ?_
    exact oJn 8 114) ?_
  refine aS ?_
  refine s_cond rfl (fun h31 => ?_) fun h31 => ?_
  ·try simp only [Bool.or_eq_true, Bool.not_eq_true', Bool.and_eq_false_iff, decide_eq_false_iff_not] at h31
   have hko : ¬ KidOk (pln L) ((nth L i).cs.getD k 0) := by rintro ⟨h91, h92⟩; rw [hnl] at h91; rw [pln_nth (by omega)] at h92; have hq := h31; exact hq.elim (fun hq => by omega) (fun hq => by rw [show (nth L ((nth L i).cs.getD k 0).toNat).pl.us = (nth L ((nth L i).cs.getD k 0).toNat).us from rfl, hq] at h92; cases h92)
   have hk6e : (nodE (⟨(j : Int), mo, rm, pln L⟩ : Tre) i S) = (6, Sk) := by have h8 : kidE1 (pln L) ((nth L i).cs.getD k 0) Sk = 6 := if_neg hko; have h7 : kidS1 (pln L) ((nth L i).cs.getD k 0) Sk = Sk := if_neg hko; rw [h8, h7, if_neg (by decide)] at hk3; rw [← hk3]; exact nodE_ki (t := (⟨(j : Int), mo, rm, pln L⟩ : Tre)) hNI hu9 hM9 hS9 hE0 (by show ¬ (kidsE (pln L) (nth L i).cs S).1 = 0; rw [hk3]; show ¬ (6 : Int) = 0; decide)
   refine aS ?_
   refine s_weaken (L' := [(2, _), (3, _), (7, _), (9, _), (11, _), (12, _), (69, _), (70, _), (71, _), (72, _), (73, _)]) aSx (fun _ h => h) ?_
   iterate 3 refine aS ?_
   exact s_retv (rs := [.tmp 6]) rfl (.tmp rfl (.nil)) (fun w' h' => ⟨(), by rw [hk6e]; rfl, trivial, by rw [hk6e]; exact h'.ent aEt⟩)
  try simp only [Bool.or_eq_false_iff, Bool.not_eq_false', Bool.and_eq_true, decide_eq_true_eq] at h31
  have hko : KidOk (pln L) ((nth L i).cs.getD k 0) := by have hq := h31; refine ⟨by rw [hnl]; exact hq.1, ?_⟩; rw [pln_nth (by omega)]; exact hq.2
  have hko1 := hko.1
  rw [hnl] at hko1
  have hcv2 : ((nth L i).cs.getD k 0).toNat < L.length := by omega
  have hcc : ((((nth L i).cs.getD k 0).toNat : Nat) : Int) = ((nth L i).cs.getD k 0) := Int.toNat_of_nonneg (by omega)
  have h7 : kidS1 (pln L) ((nth L i).cs.getD k 0) Sk = ((nth L i).cs.getD k 0) :: Sk := if_pos hko
  rw [h7] at hk3
  have hsv := seen_set (n := L.length) (S := Sk) hcv2
  rw [hcc] at hsv
  iterate 3 refine aS ?_
  refine s_weaken (L' := [(2, _), (3, _), (7, _), (9, _), (11, _), (12, _), (69, _), (70, _), (71, _), (72, _), (73, _)]) aSx (fun _ h => h) ?_
  iterate 3 refine aS ?_
  refine o_p (p_indexAddr rfl rfl rfl sl_140 (((nth L i).cs.getD k 0).toNat) (by omega) (by omega) rfl) rfl ?_
  refine o_slot (show _ = Value.pointer (some ⟨sb, ((nth L i).cs.getD k 0).toNat, none⟩) from by rw [Nat.zero_add, Nat.mul_one]) ?_
  refine o_q (q_load_at rfl rfl sz_4 (fun w h => h.rd_blk (Mc := []) aPk (seen_get hcv2) (by simp))) rfl ?_
  refine aS ?_
  refine s_cond rfl (fun h32 => ?_) fun h32 => ?_
  ·try simp only [decide_eq_true_eq] at h32
   have hmem : ((nth L i).cs.getD k 0) ∈ Sk := by have hq := h32; rw [hcc] at hq; exact hq
   have h8 : kidE1 (pln L) ((nth L i).cs.getD k 0) Sk = 23 := by rw [kidE1, if_pos hko, if_pos hmem]
   rw [h8, if_neg (by decide)] at hk3
   have hk23 : (nodE (⟨(j : Int), mo, rm, pln L⟩ : Tre) i S) = (23, ((nth L i).cs.getD k 0) :: Sk) := by rw [← hk3]; exact nodE_ki (t := (⟨(j : Int), mo, rm, pln L⟩ : Tre)) hNI hu9 hM9 hS9 hE0 (by show ¬ (kidsE (pln L) (nth L i).cs S).1 = 0; rw [hk3]; show ¬ (23 : Int) = 0; decide)
   iterate 4 refine aS ?_
   exact s_retv (rs := [.tmp 6]) rfl (.tmp rfl (.nil)) (fun w' h' => ⟨(), by rw [hk23]; rfl, trivial, by rw [hk23, seen_dup hmem]; exact h'.ent aEt⟩)
  try simp only [decide_eq_false_iff_not] at h32
  have hmem : ¬ ((nth L i).cs.getD k 0) ∈ Sk := by have hq := h32; rw [hcc] at hq; exact hq
  have h8 : kidE1 (pln L) ((nth L i).cs.getD k 0) Sk = 0 := by rw [kidE1, if_pos hko, if_neg hmem]
  rw [h8, if_pos rfl] at hk3
  have hk9 := hk3
  iterate 4 refine aS ?_
  refine o_p (p_indexAddr rfl rfl rfl sl_140 (((nth L i).cs.getD k 0).toNat) (by omega) (by omega) rfl) rfl ?_
  refine o_slot (show _ = Value.pointer (some ⟨sb, ((nth L i).cs.getD k 0).toNat, none⟩) from by rw [Nat.zero_add, Nat.mul_one]) ?_
  refine o_h0 (h_store rfl rfl rfl sz_4 rfl aPt (by rw [seen_len]; show _ + 1 ≤ _; omega) rfl) (fun _ _ => ?_)
  iterate 5 refine aS ?_
  try refine oWr ?_
  iterate 2 refine aS ?_
  exact s_backI (k + 1, ((nth L i).cs.getD k 0) :: Sk) (by (try simp only []); omega) ⟨by (try simp only []); omega, hk9⟩ aSx (fun w h => by have h2 := h; rw [show setMany (seenV L.length Sk) ((nth L i).cs.getD k 0).toNat (Value.cells (.bool true)).toList = seenV L.length (((nth L i).cs.getD k 0) :: Sk) from hsv] at h2; exact h2.ent aEt)
 try simp only [decide_eq_false_iff_not] at h26
 have hdr9 : (nth L i).cs.drop k = [] := List.drop_of_length_le (by omega)
 rw [hdr9] at hk3
 have hK0 : (kidsE (pln L) (nth L i).cs S).1 = 0 := by rw [hk3]; rfl
 have hK2 : (kidsE (pln L) (nth L i).cs S).2 = Sk := by rw [hk3]; rfl
 have hOr : (nodE (⟨(j : Int), mo, rm, pln L⟩ : Tre) i S) = (ordsE (j : Int) (nth L i).es, (kidsE (pln L) (nth L i).cs S).2) := by have h9 := nodE_or (t := (⟨(j : Int), mo, rm, pln L⟩ : Tre)) (i := i) (S := S) (n := (nth L i).pl) hNI hu9 hM9 hS9 hE0 hK0; exact h9
 refine s_exit_to rfl ?_
 iterate 6 refine aS ?_
 refine s_loopI (α := Nat) [6, 13, 122, 123, 124, 125, 126, 127, 128, 129, 130, 131, 132, 133, 134, 135, 136, 137, 138, 139, 140, 141, 142, 143, 144, 145] (fun k => [(13, .int .i64 (k : Int))]) (fun _ => HS w (fps [.blk sb 4 tot (seenV L.length S)]) [.blk sb 4 tot (seenV L.length (kidsE (pln L) (nth L i).cs S).2), .blk b1 24 4 [.int .i64 (j : Int), .int .i64 mo, .int .i64 rm, .slice a L.length cap], .blk b2 102 3 (LNd.vals (nth L i))]) (fun k => 1 ≤ k ∧ ∀ q, q < k → ordE (j : Int) (nth L i).es q = 0) (fun k => (nth L i).es.length - k) 1 ⟨Nat.le_refl _, fun q h => if_pos (.inl (by omega))⟩ aSx (fun w h => by rw [hK2]; exact h.ent aEt) (fun k hx => ?_)
 obtain ⟨hk1, hk3b⟩ := hx
 iterate 9 refine aS ?_
 refine s_cond rfl (fun h33 => ?_) fun h33 => ?_
 ·try simp only [decide_eq_true_eq] at h33
  have hk5 : k < (nth L i).es.length := by omega
  have hk6 : k - 1 < (nth L i).es.length := by omega
  iterate 4 refine aS ?_
  refine s_draw [] mixed ?_
  refine dFa 0 ?_
  refine dLd 1 [] ?_
  refine dFa 2 ?_
  refine dLd 3 [] ?_
  refine dP 4 ?_
  refine dP 5 ?_
  try refine dWr ?_
  refine d_p 6 rfl (p_indexAddr rfl rfl rfl sl_77 (k - 1) (by omega) (by omega) (Rw.some (hs.es hi) (by omega))) (by kernel_rfl) rfl rfl ?_
  refine dFa 7 ?_
  refine d_q 8 [] rfl (q_load_old rfl rfl sz_9 (((hs.es hi).rdj 0 hk6 rfl))) (by kernel_rfl) (by kernel_rfl) (by kernel_rfl) rfl ?_
  refine dFa 9 ?_
  refine dLd 10 [] ?_
  refine dP 11 ?_
  refine d_p 12 rfl (p_indexAddr rfl rfl rfl sl_77 (k) (by omega) (by omega) (Rw.some (hs.es hi) (by omega))) (by kernel_rfl) rfl rfl ?_
  refine dFa 13 ?_
  refine d_q 14 [] rfl (q_load_old rfl rfl sz_9 (((hs.es hi).rdj 0 hk5 rfl))) (by kernel_rfl) (by kernel_rfl) (by kernel_rfl) rfl ?_
  refine d_q 15 [] rfl (q_call rfl fn_33 rfl (fun w1 h1 => c33 w1 j (nth (nth L i).es (k - 1)).key (nth (nth L i).es k).key hj (entE_key (hEn _ hk6)) (entE_key (hEn _ hk5)) (hK _ (mem_nth hk6)) (hK _ (mem_nth hk5)))) (by kernel_rfl) (by kernel_rfl) (by kernel_rfl) rfl ?_
  refine dP 16 ?_
  refine dNi ?_
  refine s_cond rfl (fun h34 => ?_) fun h34 => ?_
  ·try simp only [decide_eq_true_eq] at h34
   have hz11 : ¬ ordE (j : Int) (nth L i).es k = 0 := by unfold ordE; rw [if_neg (by have hq := h34; omega)]; decide
   have hOb := ords_bad hk5 hk3b hz11
   have hOv : ordE (j : Int) (nth L i).es k = 9 := if_neg (by have hq := h34; omega)
   refine aS ?_
   refine s_weaken (L' := [(2, _), (3, _), (7, _), (9, _), (11, _), (13, _), (69, _), (70, _), (71, _), (72, _), (73, _), (87, _), (88, _), (89, _), (90, _), (91, _)]) aSx (fun _ h => h) ?_
   iterate 3 refine aS ?_
   exact s_retv (rs := [.tmp 6]) rfl (.tmp rfl (.nil)) (fun w' h' => ⟨(), by rw [hOr, hOb, hOv]; rfl, trivial, by rw [hOr]; exact h'.ent aEt⟩)
  try simp only [decide_eq_false_iff_not] at h34
  have hz11 : ordE (j : Int) (nth L i).es k = 0 := if_pos (.inr (by have hq := h34; omega))
  iterate 2 refine aS ?_
  refine s_weaken (L' := [(2, _), (3, _), (7, _), (9, _), (11, _), (13, _), (69, _), (70, _), (71, _), (72, _), (73, _), (87, _), (88, _), (89, _), (90, _), (91, _)]) aSx (fun _ h => h) ?_
  iterate 3 refine aS ?_
  try refine oWr ?_
  iterate 2 refine aS ?_
  exact s_backI (k + 1) (by omega) ⟨by omega, fun q hq => (Nat.lt_or_ge q k).elim (hk3b q) (fun h9 => by obtain rfl : q = k := (by omega); exact hz11)⟩ aSx (fun w h => h.ent aEt)
 try simp only [decide_eq_false_iff_not] at h33
 have hO0 : ordsE (j : Int) (nth L i).es = 0 := ords_all (fun q hq => hk3b q (by omega))
 refine s_exit_to rfl ?_
 iterate 4 refine aS ?_
 exact s_retv (rs := [.tmp 6]) rfl (.tmp rfl (.nil)) (fun w' h' => ⟨(), by rw [hOr, hO0]; rfl, trivial, by rw [hOr]; exact h'.ent aEt⟩)
end Go.Proofs
namespace Gx
set_option linter.unusedSimpArgs false
set_option linter.unusedVariables false
set_option linter.unusedSectionVars false
open Go Go.RowKit
def mkS (vs : List Vis) (S : List Int) : List Int := (vs.map fun v => ((v.i : Nat) : Int)).reverse ++ S
theorem mkS_app (A B : List Vis) (S : List Int) : mkS (A ++ B) S = mkS B (mkS A S) := by simp [mkS]
theorem mkS_mem {vs : List Vis} {c : Int} : c ∈ mkS vs [] ↔ ∃ v ∈ vs, ((v.i : Nat) : Int) = c := by simp [mkS]
end Gx
