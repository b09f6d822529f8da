/- Contracts of the program's functions, proved by walking them with the rules of the Gx texts; without conditions beyond those that each contract names. -/
import Derived.WalkKit
import Derived.Deep.Draws
import Derived.TacticsIn
import Derived.OrdersIn
import Derived.RangeFuncLeaves
import Derived.Lib.Strings
import Derived.Laws.BytesArg
import Derived.Laws.IdiomStrings
import Derived.Deep.Quiet
import Derived.ProofKit
import Derived.OpenShut
import Derived.Laws.StructEq
import Derived.ChangeKeysEq
import Derived.Laws.Externs
import Derived.Lib.Overlaps
import Derived.Carry
import Derived.Laws.Small
import Derived.Lib.Bytealg
import Derived.Test.YtfappgmkbnddiaaGreatProg
import Derived.KernelRfl
import Derived.Lib.Builder
import Derived.Laws.Pointers
import Derived.RangeFuncRecord
import Derived.Test.YtfappgmkbnddiaaGreatP3
namespace Go.Proofs
open Go Go.RowKit Gx
set_option linter.unusedVariables false
set_option linter.unusedSimpArgs false
attribute [local irreducible] Go.Calls Gx.S Gx.O Gx.D Gx.OpP Gx.OpQ Gx.OpH
set_option maxRecDepth 20000
theorem fn_106 : isFn Tryz.prog 106 = true := by kernel_rfl
theorem fn_107 : isFn Tryz.prog 107 = true := by kernel_rfl
set_option maxHeartbeats 300000 in
theorem c69 (w : World) (bt : Nat) (j : Nat) (mo rm : Int) (gn cap : Nat) (L : List LNd) (P : List Nat) (pa : Option Addr) (pc : Nat) (k : Nat) (hw : HS w (fps [.blk bt 112 6 (tbV (j : Int) mo rm (some ⟨gn, 0, none⟩) (L).length cap), .blk gn 102 (cap * 3) ((L).flatMap LNd.vals), .star ((L).map (subN 26)), .kids pa pc (iN P)]) [.blk bt 112 6 (tbV (j : Int) mo rm (some ⟨gn, 0, none⟩) (L).length cap), .blk gn 102 (cap * 3) ((L).flatMap LNd.vals), .star ((L).map (subN 26)), .kids pa pc (iN P)] w) (hnc : L.length ≤ cap) (hcm : cap ≤ maxLen) (hok : RemOk mo rm (pln L) P k) : Calls Tryz.prog 69 #[.pointer (some ⟨bt, 0, none⟩), .slice pa P.length pc, .int .i64 (k : Int)] w fun en w' => ∃ g : (Nat × Nat) × List LNd, en = .returned (.tuple #[]) ∧ (pln g.2 = remN mo rm (pln L) P k ∧ g.2.length ≤ g.1.2 ∧ g.1.2 ≤ maxLen) ∧ HS w (fps [.blk bt 112 6 (tbV (j : Int) mo rm (some ⟨gn, 0, none⟩) (L).length cap), .blk gn 102 (cap * 3) ((L).flatMap LNd.vals), .star ((L).map (subN 26)), .kids pa pc (iN P)]) [.blk bt 112 6 (tbV (j : Int) mo rm (some ⟨g.1.1, 0, none⟩) (g.2).length g.1.2), .blk g.1.1 102 (g.1.2 * 3) ((g.2).flatMap LNd.vals), .star ((g.2).map (subN 26))] w' := by
 have hmo := hok.mo0
 have hne := hok.ne
 have hlen := hok.len
 have hnl := hok.nl
 have hlst := hok.lst
 rw [pln_len] at hnl hlst
 have hNI := pln_nth hlst
 have hatk := hok.atk
 rw [hNI] at hatk
 simp only [LNd.pl] at hatk
 have hsI := hok.sm (lastN P)
 rw [hNI] at hsI
 simp only [LNd.pl] at hsI
 have hrg := hok.rgt
 rw [hNI] at hrg
 simp only [LNd.pl] at hrg
 have hql := hok.ql
 rw [pln_len] at hql
 have hqn := hok.qn
 have hdl := hok.dl
 refine enter (args := [_, _, _]) Tryz.func69 Tryz.ntmps69 rfl rfl hw ?_
 iterate 2 refine aS ?_
 refine oBx fun b1 _ => ?_
 refine o_class (C' := HS w (fps [.blk bt 112 6 (tbV (j : Int) mo rm (some ⟨gn, 0, none⟩) (L).length cap), .blk gn 102 (cap * 3) ((L).flatMap LNd.vals), .star ((L).map (subN 26)), .kids pa pc (iN P)]) [.blk bt 112 6 (tbV (j : Int) mo rm (some ⟨gn, 0, none⟩) (L).length cap), .blk gn 102 (cap * 3) ((L).flatMap LNd.vals), .star ((L).map (subN 26)), .own (.slice pa (P).length pc) 3 1 (P).length ((P).map fun i : Nat => Value.int .i64 (i : Int)), .blk b1 103 1 [.pointer (some ⟨bt, 0, none⟩)]]) (fun w h => (h.of_kids aPk).ent aEt) ?_
 refine o_fact (fun w h => HS.pown_some (P := P) (a := pa) (c := pc) hne h aPk) fun hpa => ?_
 obtain ⟨gp, hpa⟩ := hpa
 iterate 7 refine aS ?_
 try refine oWr ?_
 refine o_p (p_indexAddr rfl rfl rfl sl_30 (P.length - 1) (by omega) (by omega) hpa) rfl ?_
 refine o_q (q_load_at rfl rfl sz_3 (fun w h => HS.pown_rd (P := P) (a := pa) (c := pc) (k := P.length - 1) (by omega) hpa h aPk)) rfl ?_
 refine o_slot (show _ = Value.int .i64 ((lastN P) : Int) from rfl) ?_
 iterate 11 refine aS ?_
 refine o_p (p_indexAddr rfl rfl rfl sl_22 ((lastN P)) (by omega) (by omega) rfl) rfl ?_
 refine o_slot (show _ = Value.pointer (some ⟨gn, (lastN P) * 3, none⟩) from by rw [Nat.zero_add]) ?_
 refine aS ?_
 refine o_q (q_load_at rfl rfl sz_30 (fun w h => HS.nd_cell hlst h aPk 2 rfl (by decide))) rfl ?_
 iterate 8 refine aS ?_
 refine s_weaken (L' := [(1, _), (2, _), (3, _), (6, _), (7, _), (31, _)]) aSx (fun _ h => h) ?_
 refine s_cutI (α := (Option Addr × Nat) × List LNd) [1, 2, 6, 8, 9, 32, 33, 34, 35, 36, 37, 38, 39, 40, 41, 42, 43, 44, 45, 46, 47, 48, 49, 50, 51, 52, 53, 54, 55, 56, 57, 58, 59, 60, 61, 62, 63, 64, 65, 66, 67, 68, 69, 70, 71, 72, 73, 74, 75, 76, 77, 78, 79, 80, 81, 82, 83, 84, 85, 86, 87, 88, 89, 90, 91, 92, 93, 94, 95, 96, 97, 98, 99, 100, 101, 102, 103, 104, 105, 106, 107, 108, 109, 110, 111, 112] (fun x => [(6, .int .i64 ((lastN (remQ (pln L) P k)) : Int)), (2, .int .i64 ((remK (pln L) P k) : Int)), (1, .slice x.1.1 (remQ (pln L) P k).length x.1.2)]) (fun x => HS w (fps [.blk bt 112 6 (tbV (j : Int) mo rm (some ⟨gn, 0, none⟩) (L).length cap), .blk gn 102 (cap * 3) ((L).flatMap LNd.vals), .star ((L).map (subN 26)), .kids pa pc (iN P)]) [.blk bt 112 6 (tbV (j : Int) mo rm (some ⟨gn, 0, none⟩) (x.2).length cap), .blk gn 102 (cap * 3) ((x.2).flatMap LNd.vals), .star ((x.2).map (subN 26)), .own (.slice x.1.1 ((remQ (pln L) P k)).length x.1.2) 3 1 ((remQ (pln L) P k)).length (((remQ (pln L) P k)).map fun i : Nat => Value.int .i64 (i : Int)), .blk b1 103 1 [.pointer (some ⟨bt, 0, none⟩)]]) (fun x => pln x.2 = (rem1 (pln L) P k) ∧ x.2.length = L.length) ?_ ?_
 ·skip
  refine s_cond rfl (fun h2 => ?_) fun h2 => ?_
  ·try simp only [decide_eq_true_eq] at h2
   have hcz : 0 < (nth L (lastN P)).cs.length := by have hq := h2; omega
   obtain ⟨hr1, hr2, hr3, hr4, hr5, hr6⟩ := hrg hcz
   refine s_fact (fun w h => HS.cs_some hlst hcz h aPk) fun hgc => ?_
   obtain ⟨gc9, hgc⟩ := hgc
   have hQe : (remQ (pln L) P k) = P ++ rgtN (pln L) (pln L).length (kdN (pln L) (lastN P) k) := by unfold remQ; rw [hNI]; exact if_neg (by show ¬ (nth L (lastN P)).cs.length = 0; omega)
   iterate 4 refine aS ?_
   refine o_p (p_indexAddr rfl rfl rfl sl_30 (k) (by omega) (by omega) hgc) rfl ?_
   refine o_q (q_load_at rfl rfl sz_3 (fun w h => HS.cs_rd hlst (by omega) hgc h aPk)) rfl ?_
   refine o_slot (show _ = Value.int .i64 ((kdN (pln L) (lastN P) k) : Int) from congrArg (Value.int .i64) (kd_eq hNI hr2)) ?_
   iterate 6 refine aS ?_
   refine o_h (h_buildSlice (cs := [_]) rfl rfl sl_30 zr_3 rfl rfl rfl) rfl (fun b3 _ => ?_)
   refine o_h (h_appendS [_] rfl rfl rfl sl_30 Tryz.underlying30 zr_3 rfl aPk (src_blk aPk) rfl (by intro u hu; simp only [List.mem_cons, List.mem_nil_iff, or_false] at hu; subst hu; rfl) (by omega) (by simp only [maxLen]; omega)) rfl (fun b4 _ => ?_)
   iterate 4 refine aS ?_
   refine s_loopI (α := (Option Addr × Nat) × List Nat × Nat × Nat) [1, 8, 40, 41, 42, 43, 44, 45, 46, 47, 48, 49, 50, 51, 52, 53, 54, 55, 56, 57, 58, 59, 60, 61, 62, 63, 64, 65, 66, 67, 68, 69, 70, 71, 72, 73, 74, 75, 76] (fun x => [(1, .slice x.1.1 (x.2.1 ++ [x.2.2.1]).length x.1.2), (8, .int .i64 (x.2.2.1 : Int))]) (fun x => HS w (fps [.blk bt 112 6 (tbV (j : Int) mo rm (some ⟨gn, 0, none⟩) (L).length cap), .blk gn 102 (cap * 3) ((L).flatMap LNd.vals), .star ((L).map (subN 26)), .kids pa pc (iN P)]) [.blk bt 112 6 (tbV (j : Int) mo rm (some ⟨gn, 0, none⟩) (L).length cap), .blk gn 102 (cap * 3) ((L).flatMap LNd.vals), .star ((L).map (subN 26)), .own (.slice x.1.1 (x.2.1 ++ [x.2.2.1]).length x.1.2) 3 1 (x.2.1 ++ [x.2.2.1]).length ((x.2.1 ++ [x.2.2.1]).map fun i : Nat => Value.int .i64 (i : Int)), .blk b1 103 1 [.pointer (some ⟨bt, 0, none⟩)]]) (fun x => RgtOk (pln L) x.2.2.2 x.2.2.1 ∧ (remQ (pln L) P k) = x.2.1 ++ rgtN (pln L) x.2.2.2 x.2.2.1 ∧ x.2.1.length + x.2.2.2 ≤ 1900) (fun x => x.2.2.2) ((b4.1, b4.2), P, (kdN (pln L) (lastN P) k), (pln L).length) ⟨hr3, hQe, by rw [pln_len]; simp only []; omega⟩ (by simp only [List.length_append, List.length_singleton]; exact aSx) (fun w h => by have h2 := h; simp only [List.length_append, List.length_singleton, List.map_append, List.map_cons, List.map_nil]; exact h2.ent aEt) (fun ⟨⟨la, lc⟩, E, leaf, fu⟩ hx => ?_)
   dsimp only
   obtain ⟨he1, he2, he3⟩ := hx
   simp only [] at he1 he2 he3
   obtain ⟨fu, rfl⟩ : ∃ f9, fu = f9 + 1 := by cases fu with | zero => exact absurd he1 (fun h => h) | succ f9 => exact ⟨f9, rfl⟩
   have hlf := he1.1
   rw [pln_len] at hlf
   have hNF := pln_nth hlf
   have hsF := hok.sm leaf
   rw [hNF] at hsF
   simp only [LNd.pl] at hsF
   have hEl : (E ++ [leaf]).length = E.length + 1 := by simp
   iterate 9 refine aS ?_
   refine o_p (p_indexAddr rfl rfl rfl sl_22 (leaf) (by omega) (by omega) rfl) rfl ?_
   refine o_slot (show _ = Value.pointer (some ⟨gn, leaf * 3, none⟩) from by rw [Nat.zero_add]) ?_
   refine aS ?_
   refine o_q (q_load_at rfl rfl sz_30 (fun w h => HS.nd_cell hlf h aPk 2 rfl (by decide))) rfl ?_
   iterate 3 refine aS ?_
   refine s_cond rfl (fun h5 => ?_) fun h5 => ?_
   ·try simp only [decide_eq_true_eq] at h5
    have hlz : 0 < (nth L leaf).cs.length := by have hq := h5; omega
    refine s_fact (fun w h => HS.cs_some hlf hlz h aPk) fun hgl => ?_
    obtain ⟨gl9, hgl⟩ := hgl
    have hro := he1.2
    rw [hNF] at hro
    obtain ⟨hs2, hs3⟩ := hro.resolve_left (by show ¬ (nth L leaf).cs.length = 0; omega)
    simp only [LNd.pl] at hs2 hs3
    have hrs := rgt_step (ns := pln L) (f := fu) (i := leaf) (by rw [hNF]; show ¬ (nth L leaf).cs.length = 0; omega)
    rw [hNF] at hrs
    simp only [LNd.pl] at hrs
    iterate 3 refine aS ?_
    refine s_draw [] mixed ?_
    refine dLd 0 [] ?_
    refine dP 1 ?_
    refine dFa 2 ?_
    refine dFa 3 ?_
    refine dLd 4 [] ?_
    refine dP 5 ?_
    refine d_p 6 rfl (p_indexAddr rfl rfl rfl sl_22 (leaf) (by omega) (by omega) rfl) (by kernel_rfl) rfl rfl ?_
    refine d_slot (show _ = Value.pointer (some ⟨gn, leaf * 3, none⟩) from by rw [Nat.zero_add]) ?_
    refine dFa 7 ?_
    refine d_q 8 [] rfl (q_load_at rfl rfl sz_30 (fun w h => HS.nd_cell hlf h aPk 2 rfl (by decide))) (by kernel_rfl) (by kernel_rfl) (by kernel_rfl) rfl ?_
    refine dLd 9 [] ?_
    refine dP 10 ?_
    refine dFa 11 ?_
    refine dFa 12 ?_
    refine dLd 13 [] ?_
    refine dP 14 ?_
    refine d_p 15 rfl (p_indexAddr rfl rfl rfl sl_22 (leaf) (by omega) (by omega) rfl) (by kernel_rfl) rfl rfl ?_
    refine d_slot (show _ = Value.pointer (some ⟨gn, leaf * 3, none⟩) from by rw [Nat.zero_add]) ?_
    refine dFa 16 ?_
    refine d_q 17 [] rfl (q_load_at rfl rfl sz_30 (fun w h => HS.nd_cell hlf h aPk 2 rfl (by decide))) (by kernel_rfl) (by kernel_rfl) (by kernel_rfl) rfl ?_
    refine d_p 18 rfl (p_len_slice rfl rfl Tryz.underlying30) (by kernel_rfl) rfl rfl ?_
    refine dP 19 ?_
    try refine dWr ?_
    refine d_p 20 rfl (p_indexAddr rfl rfl rfl sl_30 ((nth L leaf).cs.length - 1) (by omega) (by omega) hgl) (by kernel_rfl) rfl rfl ?_
    refine d_q 21 [] rfl (q_load_at rfl rfl sz_3 (fun w h => HS.cs_rd hlf (by omega) hgl h aPk)) (by kernel_rfl) (by kernel_rfl) (by kernel_rfl) rfl ?_
    refine d_slot (show _ = Value.int .i64 ((kdN (pln L) leaf ((nth L leaf).cs.length - 1)) : Int) from congrArg (Value.int .i64) (kd_eq hNF hs2)) ?_
    refine dP 22 ?_
    refine dNi ?_
    refine s_weaken (L' := [(1, _), (2, _), (3, _), (6, _), (7, _), (8, _), (31, _), (32, _), (33, _), (34, _), (35, _), (36, _), (37, _), (38, _), (39, _)]) aSx (fun _ h => h) ?_
    iterate 3 refine aS ?_
    refine o_h (h_buildSlice (cs := [_]) rfl rfl sl_30 zr_3 rfl rfl rfl) rfl (fun b6 _ => ?_)
    refine o_h (h_appendS [_] rfl rfl rfl sl_30 Tryz.underlying30 zr_3 rfl aPk (src_blk aPk) rfl (by intro u hu; simp only [List.mem_cons, List.mem_nil_iff, or_false] at hu; subst hu; rfl) (by omega) (by simp only [maxLen]; omega)) rfl (fun b7 _ => ?_)
    iterate 3 refine aS ?_
    exact s_backI ((b7.1, b7.2), E ++ [leaf], (kdN (pln L) leaf ((nth L leaf).cs.length - 1)), fu) (by (try simp only []); omega) ⟨hs3, by rw [he2, hrs, List.append_assoc]; rfl, by simp only [List.length_append, List.length_singleton]; omega⟩ (by simp only [List.length_append (bs := [(kdN (pln L) leaf ((nth L leaf).cs.length - 1))]), List.length_singleton]; exact aSx) (fun w h => by have h2 := h; simp only [List.length_append (bs := [(kdN (pln L) leaf ((nth L leaf).cs.length - 1))]), List.length_singleton, List.map_append (l₂ := [(kdN (pln L) leaf ((nth L leaf).cs.length - 1))]), List.map_cons, List.map_nil]; exact h2.ent aEt)
   try simp only [decide_eq_false_iff_not] at h5
   have hlz : (nth L leaf).cs.length = 0 := by have hq := h5; omega
   have hrs := rgt_stop (ns := pln L) (f := fu) (i := leaf) (by rw [hNF]; exact hlz)
   rw [hrs] at he2
   have hle : leaf = (lastN (remQ (pln L) P k)) := by rw [he2, last_snoc]
   rw [← hle, hNF] at hr5
   simp only [LNd.pl] at hr5
   have hNQ : nth (pln L) (lastN (remQ (pln L) P k)) = (nth L leaf).pl := by rw [← hle]; exact hNF
   have hK2 := remK_1 hNI hNQ hcz
   simp only [LNd.pl] at hK2
   have hni : (lastN P) ≠ leaf := by rw [hle]; exact hr4
   refine s_fact (fun w h => HS.es_some hlst (by omega) h aPk) fun hge => ?_
   obtain ⟨ge9, hge⟩ := hge
   refine s_fact (fun w h => HS.es_some hlf hr5 h aPk) fun hgf => ?_
   obtain ⟨gf9, hgf⟩ := hgf
   refine s_fact (fun w h => HS.es_room hlst h aPk) fun hrE => ?_
   refine s_exit_to rfl ?_
   iterate 8 refine aS ?_
   refine o_p (p_indexAddr rfl rfl rfl sl_22 (leaf) (by omega) (by omega) rfl) rfl ?_
   refine o_slot (show _ = Value.pointer (some ⟨gn, leaf * 3, none⟩) from by rw [Nat.zero_add]) ?_
   refine aS ?_
   refine o_q (q_load_at rfl rfl sz_77 (fun w h => HS.nd_cell hlf h aPk 1 rfl (by decide))) rfl ?_
   iterate 2 refine aS ?_
   try refine oWr ?_
   refine o_slot (show _ = Value.int .i64 ((((nth L leaf).es.length - 1) : Nat) : Int) from by congr 1; omega) ?_
   iterate 3 refine aS ?_
   refine s_weaken (L' := [(1, _), (2, _), (3, _), (6, _), (7, _), (8, _), (9, _), (31, _), (32, _), (33, _), (34, _), (35, _), (36, _), (37, _), (38, _), (39, _)]) aSx (fun _ h => h) ?_
   refine s_class (fun w h => HS.es_open hlst (by omega) hge h aPk) ?_
   refine s_draw [23] mixed ?_
   refine dLd 0 [[]] ?_
   refine dP 1 ?_
   refine dFa 2 ?_
   refine dFa 3 ?_
   refine dLd 4 [[]] ?_
   refine dP 5 ?_
   refine d_p 6 rfl (p_indexAddr rfl rfl rfl sl_22 ((lastN P)) (by omega) (by omega) rfl) (by kernel_rfl) rfl rfl ?_
   refine d_slot (show _ = Value.pointer (some ⟨gn, (lastN P) * 3, none⟩) from by rw [Nat.zero_add]) ?_
   refine dFa 7 ?_
   refine d_q 8 [[]] rfl (q_load_at rfl rfl sz_77 (fun w h => HS.nd_cell hlst h aPk 1 rfl (by decide))) (by kernel_rfl) (by kernel_rfl) (by kernel_rfl) rfl ?_
   refine dP 9 ?_
   refine dLd 10 [[]] ?_
   refine dP 11 ?_
   refine dFa 12 ?_
   refine dFa 13 ?_
   refine dLd 14 [[]] ?_
   refine dP 15 ?_
   refine d_p 16 rfl (p_indexAddr rfl rfl rfl sl_22 (leaf) (by omega) (by omega) rfl) (by kernel_rfl) rfl rfl ?_
   refine d_slot (show _ = Value.pointer (some ⟨gn, leaf * 3, none⟩) from by rw [Nat.zero_add]) ?_
   refine dFa 17 ?_
   refine d_q 18 [[]] rfl (q_load_at rfl rfl sz_77 (fun w h => HS.nd_cell hlf h aPk 1 rfl (by decide))) (by kernel_rfl) (by kernel_rfl) (by kernel_rfl) rfl ?_
   refine dP 19 ?_
   refine d_p 20 rfl (p_indexAddr rfl rfl rfl sl_77 (((nth L leaf).es.length - 1)) (by omega) (by omega) hgf) (by kernel_rfl) rfl rfl ?_
   refine d_q 21 [[]] rfl (q_load_atn _ rfl rfl sz_26 rfl (fun w h => HS.es_rdB hlf hni (k := ((nth L leaf).es.length - 1)) (by omega) hgf h aPk)) (by kernel_rfl) (by kernel_rfl) (by kernel_rfl) rfl ?_
   refine d_p 22 rfl (p_indexAddr rfl rfl rfl sl_77 (k) (by omega) (by omega) hge) (by kernel_rfl) rfl rfl ?_
   refine d_slot (show _ = Value.pointer (some ⟨ge9, k * 2, none⟩) from by rw [Nat.zero_add]) ?_
   refine dSt 23 ?_ (hl := (by rw [flat_length ev2]; show _ + 2 ≤ _; omega))
   refine dTu [] ?_
   refine dNi ?_
   refine s_weaken (L' := [(1, _), (2, _), (3, _), (6, _), (7, _), (8, _), (9, _), (31, _), (32, _), (33, _), (34, _), (35, _), (36, _), (37, _), (38, _), (39, _)]) aSx (fun _ h => h) ?_
   iterate 2 refine aS ?_
   refine o_ex (fun w h => HS.es_upd (gn := gn) (cap := cap) (g := ge9) (k := k) (x := nth (nth L leaf).es ((nth L leaf).es.length - 1)) hlst hatk hge h aPk aPk aPk hrE) fun L1 => ?_
   refine o_fact (fun w h => h.1) fun hS1 => ?_
   refine o_class (fun w h => h.2) ?_
   iterate 4 refine aS ?_
   exact s_joinI ((la, lc), L1) ⟨by rw [hS1.es]; exact (rem1_1 hNI hNQ hcz).symm, hS1.len⟩ (by dsimp only; rw [← hle, hK2, he2]; exact aSx) (fun w h => by dsimp only; rw [he2, hS1.len]; exact h.ent aEt)
  try simp only [decide_eq_false_iff_not] at h2
  have hcz : (nth L (lastN P)).cs.length = 0 := by have hq := h2; omega
  have hQe : (remQ (pln L) P k) = P := by unfold remQ; rw [hNI]; exact if_pos hcz
  refine aS ?_
  exact s_joinI ((pa, pc), L) ⟨(rem1_0 hNI hcz).symm, rfl⟩ (by dsimp only; rw [remK_0 hNI hcz, hQe]; exact aSx) (fun w h => by dsimp only; rw [hQe]; exact h.ent aEt)
 intro ⟨⟨qa, qc⟩, LA⟩ hx
 dsimp only
 obtain ⟨hA, hAl⟩ := hx
 simp only [] at hA hAl
 have hlq : (lastN (remQ (pln L) P k)) < LA.length := by omega
 rw [← hA, pln_nth hlq] at hdl
 simp only [LNd.pl] at hdl
 have hsA := hok.sm1 (lastN (remQ (pln L) P k))
 rw [← hA, pln_nth hlq] at hsA
 simp only [LNd.pl] at hsA
 refine aS ?_
 refine s_class (fun w h => HS.es_take hlq h aPk) ?_
 refine s_drawB [.blk bt 112 6 (tbV (j : Int) mo rm (some ⟨gn, 0, none⟩) LA.length cap), .blk gn 102 (cap * 3) (LA.flatMap LNd.vals), .blk b1 103 1 [.pointer (some ⟨bt, 0, none⟩)]] [21] mixed ?_
 refine dLd 0 [[]] ?_
 refine dP 1 ?_
 refine dFa 2 ?_
 refine dFa 3 ?_
 refine dLd 4 [[]] ?_
 refine dP 5 ?_
 refine dLd 6 [[]] ?_
 refine dP 7 ?_
 refine dFa 8 ?_
 refine dFa 9 ?_
 refine dLd 10 [[]] ?_
 refine dP 11 ?_
 refine d_p 12 rfl (p_indexAddr rfl rfl rfl sl_22 ((lastN (remQ (pln L) P k))) (by omega) (by omega) rfl) (by kernel_rfl) rfl rfl ?_
 refine d_slot (show _ = Value.pointer (some ⟨gn, (lastN (remQ (pln L) P k)) * 3, none⟩) from by rw [Nat.zero_add]) ?_
 refine dFa 13 ?_
 refine d_q 14 [[]] rfl (q_load_at rfl rfl sz_77 (fun w h => HS.nd_cell hlq h aPk 1 rfl (by decide))) (by kernel_rfl) (by kernel_rfl) (by kernel_rfl) rfl ?_
 refine dP 15 ?_
 refine dP 16 ?_
 refine dP 17 ?_
 try refine dWr ?_
 refine d_h 18 rfl (h_callF (Cs := [.own (.slice ((nth LA (lastN (remQ (pln L) P k)))).ea ((nth LA (lastN (remQ (pln L) P k)))).es.length ((nth LA (lastN (remQ (pln L) P k)))).ec) 26 2 ((nth LA (lastN (remQ (pln L) P k)))).es.length (((nth LA (lastN (remQ (pln L) P k)))).es.flatMap TEnt.vals)]) rfl fn_103 rfl aPs (fun w1 h1 hf9 => c103e w1 (nth LA (lastN (remQ (pln L) P k))).ea (remK (pln L) P k) (nth LA (lastN (remQ (pln L) P k))).ec (nth LA (lastN (remQ (pln L) P k))).es hf9 (by omega) hdl)) (by kernel_rfl) (fun w h => h.ent aEt) rfl (fun _ _ => ?_)
 refine d_p 19 rfl (p_indexAddr rfl rfl rfl sl_22 ((lastN (remQ (pln L) P k))) (by omega) (by omega) rfl) (by kernel_rfl) rfl rfl ?_
 refine d_slot (show _ = Value.pointer (some ⟨gn, (lastN (remQ (pln L) P k)) * 3, none⟩) from by rw [Nat.zero_add]) ?_
 refine dFa 20 ?_
 refine dSt 21 ?_ (hl := (by rw [flat_length nv3]; show _ + 1 ≤ _; omega))
 refine dTu [] ?_
 refine dNi ?_
 iterate 4 refine aS ?_
 refine o_ex (fun w h => HS.es_setB (gn := gn) (cap := cap) (ea := (nth LA (lastN (remQ (pln L) P k))).ea) (ec := (nth LA (lastN (remQ (pln L) P k))).ec) (es := others (nth LA (lastN (remQ (pln L) P k))).es (remK (pln L) P k)) hlq h aPk aPk aPk) fun L2 => ?_
 refine o_fact (fun w h => h.1) fun hS2 => ?_
 refine o_class (fun w h => h.2) ?_
 have hL2 : pln L2 = (rem2 (pln L) P k) := by rw [hS2.es, hA, rem2, ← hA, pln_nth hlq]; rfl
 have hl2 : L2.length = L.length := by rw [hS2.len, hAl]
 refine o_class (C' := HS w (fps [.blk bt 112 6 (tbV (j : Int) mo rm (some ⟨gn, 0, none⟩) (L).length cap), .blk gn 102 (cap * 3) ((L).flatMap LNd.vals), .star ((L).map (subN 26)), .kids pa pc (iN P)]) [.blk bt 112 6 (tbV (j : Int) mo rm (some ⟨gn, 0, none⟩) (L2).length cap), .blk gn 102 (cap * 3) ((L2).flatMap LNd.vals), .star ((L2).map (subN 26)), .own (.slice qa ((remQ (pln L) P k)).length qc) 3 1 ((remQ (pln L) P k)).length (((remQ (pln L) P k)).map fun i : Nat => Value.int .i64 (i : Int)), .blk b1 103 1 [.pointer (some ⟨bt, 0, none⟩)]]) (fun w2 h => by rw [hl2, ← hAl]; exact h.ent aEt) ?_
 refine o_h (h_call rfl fn_104 rfl (fun w1 h1 => c104 w1 qa (remQ (pln L) P k).length qc)) rfl (fun b8 _ => ?_)
 iterate 2 refine aS ?_
 refine s_range (G := (Nat × Nat) × List LNd) (Bs := fun g => [.blk bt 112 6 (tbV (j : Int) mo rm (some ⟨g.1.1, 0, none⟩) (g.2).length g.1.2), .blk g.1.1 102 (g.1.2 * 3) ((g.2).flatMap LNd.vals), .star ((g.2).map (subN 26)), .blk b1 103 1 [.pointer (some ⟨bt, 0, none⟩)], .blk b8 30 1 [.slice qa (remQ (pln L) P k).length qc], .own (.slice qa ((remQ (pln L) P k)).length qc) 3 1 ((remQ (pln L) P k)).length (((remQ (pln L) P k)).map fun i : Nat => Value.int .i64 (i : Int)), .pure (pln (g.2) = filW mo (rem2 (pln L) P k) ((remQ (pln L) P k).reverse.take (remQ (pln L) P k).length) ∧ FilsOk mo (pln (g.2)) ((remQ (pln L) P k).reverse.drop (remQ (pln L) P k).length) ∧ (g.2).length ≤ g.1.2 ∧ g.1.2 ≤ maxLen)]) rfl rfl rfl fn_140 (fun fid D l a9 w1 ob hob ha9 hw1 => ?_) (fun D x => ?_)
 ·skip
  refine (c140 w1 w (fps [.blk bt 112 6 (tbV (j : Int) mo rm (some ⟨gn, 0, none⟩) (L).length cap), .blk gn 102 (cap * 3) ((L).flatMap LNd.vals), .star ((L).map (subN 26)), .kids pa pc (iN P)]) (fun kk g => .obj l ob :: .obj D (.deferred (some [])) :: [.blk bt 112 6 (tbV (j : Int) mo rm (some ⟨g.1.1, 0, none⟩) (g.2).length g.1.2), .blk g.1.1 102 (g.1.2 * 3) ((g.2).flatMap LNd.vals), .star ((g.2).map (subN 26)), .blk b1 103 1 [.pointer (some ⟨bt, 0, none⟩)], .blk b8 30 1 [.slice qa (remQ (pln L) P k).length qc], .own (.slice qa ((remQ (pln L) P k)).length qc) 3 1 ((remQ (pln L) P k)).length (((remQ (pln L) P k)).map fun i : Nat => Value.int .i64 (i : Int)), .pure (pln (g.2) = filW mo (rem2 (pln L) P k) ((remQ (pln L) P k).reverse.take kk) ∧ FilsOk mo (pln (g.2)) ((remQ (pln L) P k).reverse.drop kk) ∧ (g.2).length ≤ g.1.2 ∧ g.1.2 ≤ maxLen)]) ((gn, cap), L2) l b8 (remQ (pln L) P k) qa qc (by omega) ?_ ?_ (fun kk g w2 hk h2 => ?_)).mono fun e w2 hx => ?_
  ·exact (HS.add_pure (p := pln L2 = filW mo (rem2 (pln L) P k) ((remQ (pln L) P k).reverse.take 0) ∧ FilsOk mo (pln L2) ((remQ (pln L) P k).reverse.drop 0) ∧ L2.length ≤ cap ∧ cap ≤ maxLen) ⟨hL2, by rw [hL2]; exact hok.fil, by omega, hcm⟩ hw1).ent aEt
  ·exact fun k9 g w2 h2 => ⟨h2.rd_blk (i := 0) aPk rfl (by simp), HS.pown_row (P := (remQ (pln L) P k)) (a := qa) (c := qc) h2 aPk⟩
  rotate_left
  ·exact hx
  subst hob
  obtain ⟨⟨ga, gc⟩, Lg⟩ := g
  dsimp only at h2
  obtain ⟨hg1, hg2, hg3, hg4⟩ := h2.get_pure aPk
  rw [rev_drop hk] at hg2
  obtain ⟨⟨hgi, hsp⟩, hnx⟩ := hg2
  have hst : filW mo (rem2 (pln L) P k) ((remQ (pln L) P k).reverse.take (kk + 1)) = fil1 mo (pln Lg) (nth (remQ (pln L) P k) ((remQ (pln L) P k).length - 1 - kk)) := by rw [rev_take hk, filW_snoc, ← hg1]
  rw [pln_len] at hgi
  rw [pln_nth hgi] at hsp
  simp only [LNd.pl] at hsp
  refine y_round (fn := Tryz.f69) (As1 := .obj D (.deferred (some [])) :: [.blk bt 112 6 (tbV (j : Int) mo rm (some ⟨ga, 0, none⟩) (Lg).length gc), .blk ga 102 (gc * 3) ((Lg).flatMap LNd.vals), .star ((Lg).map (subN 26)), .blk b1 103 1 [.pointer (some ⟨bt, 0, none⟩)], .blk b8 30 1 [.slice qa (remQ (pln L) P k).length qc], .own (.slice qa ((remQ (pln L) P k)).length qc) 3 1 ((remQ (pln L) P k)).length (((remQ (pln L) P k)).map fun i : Nat => Value.int .i64 (i : Int)), .pure (pln (Lg) = filW mo (rem2 (pln L) P k) ((remQ (pln L) P k).reverse.take kk) ∧ FilsOk mo (pln (Lg)) ((remQ (pln L) P k).reverse.drop kk) ∧ (Lg).length ≤ gc ∧ gc ≤ maxLen)]) (L1 := [(11, .int .i64 (((nth (remQ (pln L) P k) ((remQ (pln L) P k).length - 1 - kk)) : Nat) : Int)), (3, .pointer (some ⟨b1, 0, none⟩))]) h2 rfl (FR.round2 ha9 136 137 _ _ rfl rfl) ?_ ?_
  ·skip
   iterate 3 refine aS ?_
   exact s_join () aSx (fun w h => h.ent aEt)
  skip
  iterate 2 refine aS ?_
  refine s_cutS (α := Bool) [138, 139, 140, 141, 142, 143, 144, 145, 146, 147, 148, 149, 150, 151, 152, 153, 154] (fun x => [(154, .bool x)]) (fun x => x = true ↔ (0 < (nth (remQ (pln L) P k) ((remQ (pln L) P k).length - 1 - kk)) ∧ ((nth Lg (nth (remQ (pln L) P k) ((remQ (pln L) P k).length - 1 - kk))).es.length : Int) < mo / 2)) ?_ ?_
  ·skip
   refine s_draw [] mixed ?_
   refine dP 0 ?_
   refine dP 1 ?_
   refine dP 2 ?_
   apply d_split 140
   ·exact rfl
   ·intro hg9
    have hs10 := hg9; try simp only [decide_eq_true_eq] at hs10
    refine d_qon 3 140 [] rfl rfl rfl hg9 (q_load rfl rfl sz_103 aPk rfl) (by kernel_rfl) (by kernel_rfl) (by kernel_rfl) rfl ?_
    refine dPo 4 140 hg9 ?_
    refine dFo 5 140 hg9 ?_
    refine dFo 6 140 hg9 ?_
    refine d_qon 7 140 [] rfl rfl rfl hg9 (q_load rfl rfl sz_22 aPk rfl) (by kernel_rfl) (by kernel_rfl) (by kernel_rfl) rfl ?_
    refine dPo 8 140 hg9 ?_
    refine d_pon 9 140 rfl rfl rfl hg9 (p_indexAddr rfl rfl rfl sl_22 ((nth (remQ (pln L) P k) ((remQ (pln L) P k).length - 1 - kk))) (by omega) (by omega) rfl) (by kernel_rfl) rfl rfl ?_
    refine d_slot (show _ = Value.pointer (some ⟨ga, (nth (remQ (pln L) P k) ((remQ (pln L) P k).length - 1 - kk)) * 3, none⟩) from by rw [Nat.zero_add]) ?_
    refine dFo 10 140 hg9 ?_
    refine d_qon 11 140 [] rfl rfl rfl hg9 (q_load_at rfl rfl sz_77 (fun w h => HS.nd_cell hgi h aPk 1 rfl (by decide))) (by kernel_rfl) (by kernel_rfl) (by kernel_rfl) rfl ?_
    refine d_pon 12 140 rfl rfl rfl hg9 (p_len_slice rfl rfl Tryz.underlying77) (by kernel_rfl) rfl rfl ?_
    refine d_qon 13 140 [] rfl rfl rfl hg9 (q_load rfl rfl sz_103 aPk rfl) (by kernel_rfl) (by kernel_rfl) (by kernel_rfl) rfl ?_
    refine d_qon 14 140 [] rfl rfl rfl hg9 (q_call rfl fn_105 rfl (fun w1 h1 => c105 w1 bt j mo rm (some ⟨ga, 0, none⟩) Lg.length gc hmo (HS.tbr h1 aPk))) (by kernel_rfl) (by kernel_rfl) (by kernel_rfl) rfl ?_
    refine dPo 15 140 hg9 ?_
    refine d_p 16 rfl (p_pickt rfl rfl hg9 rfl) (by kernel_rfl) rfl rfl ?_
    refine dNi ?_
    exact s_joinI (decide (((nth Lg (nth (remQ (pln L) P k) ((remQ (pln L) P k).length - 1 - kk))).es.length : Int) < mo / 2)) (by rw [decide_eq_true_eq]; omega) aSx (fun w h => h.ent aEt)
   intro hg11
   have hs12 := hg11; try simp only [decide_eq_false_iff_not] at hs12
   refine dOf 3 140 hg11 ?_
   refine dOf 4 140 hg11 ?_
   refine dOf 5 140 hg11 ?_
   refine dOf 6 140 hg11 ?_
   refine dOf 7 140 hg11 ?_
   refine dOf 8 140 hg11 ?_
   refine dOf 9 140 hg11 ?_
   refine dOf 10 140 hg11 ?_
   refine dOf 11 140 hg11 ?_
   refine dOf 12 140 hg11 ?_
   refine dOf 13 140 hg11 ?_
   refine dOf 14 140 hg11 ?_
   refine dOf 15 140 hg11 ?_
   refine d_p 16 rfl (p_pickf rfl rfl hg11 rfl) (by kernel_rfl) rfl rfl ?_
   refine dNi ?_
   exact s_joinI false (by constructor <;> intro h9 <;> first | (cases h9; done) | omega) aSx (fun w h => h.ent aEt)
  intro x hx
  refine s_cond rfl (fun h13 => ?_) fun h13 => ?_
  ·skip
   obtain ⟨hpos, hbig⟩ := hx.1 (by assumption)
   iterate 3 refine aS ?_
   refine o_h (h_callF (Cs := [.blk bt 112 6 (tbV (j : Int) mo rm (some ⟨ga, 0, none⟩) (Lg).length gc), .blk ga 102 (gc * 3) ((Lg).flatMap LNd.vals), .star ((Lg).map (subN 26))]) rfl fn_106 rfl aPs (fun w1 h1 hf => c106 w1 bt j mo rm ga gc Lg (nth (remQ (pln L) P k) ((remQ (pln L) P k).length - 1 - kk)) (parN (((nth (remQ (pln L) P k) ((remQ (pln L) P k).length - 1 - kk)) : Nat) : Int) (pln Lg) 0).1 (parN (((nth (remQ (pln L) P k) ((remQ (pln L) P k).length - 1 - kk)) : Nat) : Int) (pln Lg) 0).2 hf hg3 hg4 rfl (hsp hpos hbig))) rfl (fun ⟨⟨g5, c5⟩, L5⟩ hF5 => ?_)
   iterate 2 refine aS ?_
   exact s_end_rd rfl aPk (fun w h => ⟨((g5, c5), L5), rfl, trivial, by exact (HS.add_pure (p := pln L5 = filW mo (rem2 (pln L) P k) ((remQ (pln L) P k).reverse.take (kk + 1)) ∧ FilsOk mo (pln L5) ((remQ (pln L) P k).reverse.drop (kk + 1)) ∧ L5.length ≤ c5 ∧ c5 ≤ maxLen) ⟨by rw [hst, fil1, if_pos ⟨hpos, by rw [pln_nth hgi]; exact hbig⟩]; exact hF5.1, by have h9 := hnx; rw [fil1, if_pos ⟨hpos, by rw [pln_nth hgi]; exact hbig⟩] at h9; rw [hF5.1]; exact h9, hF5.2.1, hF5.2.2⟩ h).ent aEt⟩)
  skip
  have hno : ¬ (0 < (nth (remQ (pln L) P k) ((remQ (pln L) P k).length - 1 - kk)) ∧ ((nth Lg (nth (remQ (pln L) P k) ((remQ (pln L) P k).length - 1 - kk))).es.length : Int) < mo / 2) := fun h9 => by have h8 := hx.2 h9; simp_all
  iterate 2 refine aS ?_
  exact s_end_rd rfl aPk (fun w h => ⟨((ga, gc), Lg), rfl, trivial, by exact (HS.add_pure (p := pln Lg = filW mo (rem2 (pln L) P k) ((remQ (pln L) P k).reverse.take (kk + 1)) ∧ FilsOk mo (pln Lg) ((remQ (pln L) P k).reverse.drop (kk + 1)) ∧ Lg.length ≤ gc ∧ gc ≤ maxLen) ⟨by rw [hst, fil1, if_neg (by rw [pln_nth hgi]; exact hno)], by have h9 := hnx; rw [fil1, if_neg (by rw [pln_nth hgi]; exact hno)] at h9; exact h9, hg3, hg4⟩ h).ent aEt⟩)
 skip
 obtain ⟨⟨ga, gc⟩, LG⟩ := x
 dsimp only
 refine s_fact (fun w h => h.get_pure aPk) fun hpu => ?_
 obtain ⟨hLG, _, hg3, hg4⟩ := hpu
 rw [show (remQ (pln L) P k).length = (remQ (pln L) P k).reverse.length from (List.length_reverse ..).symm, List.take_length] at hLG
 have hrot := hok.rot
 rw [← hLG] at hrot
 have hiG : 0 < LG.length := by rw [← pln_len]; exact hrot.lt
 have hlG := hrot.len
 rw [pln_len] at hlG
 have hNG := pln_nth hiG
 have hrk := hrot.kid
 rw [hNG] at hrk
 simp only [LNd.pl] at hrk
 iterate 9 refine aS ?_
 refine o_p (p_indexAddr rfl rfl rfl sl_22 (0) (by omega) (by omega) rfl) rfl ?_
 refine o_slot (show _ = Value.pointer (some ⟨ga, 0 * 3, none⟩) from by rw [Nat.zero_add]) ?_
 refine o_q (q_load_atn _ rfl rfl sz_102 rfl (fun w h => HS.nd_cells hiG h aPk)) rfl ?_
 refine oAl (fun b14 _ => ?_) zr_102
 refine oSt ?_
 iterate 2 refine aS ?_
 refine s_weaken (L' := [(3, _), (12, _)]) aSx (fun _ h => h) ?_
 iterate 6 refine aS ?_
 refine o_and 5 169 174 _ _ rfl
  (by
   intro hg15
   have hs16 := hg15; try simp only [decide_eq_true_eq] at hs16
   refine oOn 169 hg15 ?_
   refine aS ?_
   refine oOn 169 hg15 ?_
   refine aS ?_
   refine oOn 169 hg15 ?_
   refine aS ?_
   refine oOn 169 hg15 ?_
   refine aS ?_
   refine o_p (p_pickt rfl rfl hg15 rfl) rfl ?_
   refine aS ?_
   exact oJn 5 174)
  (by
   intro hg17
   have hs18 := hg17; try simp only [decide_eq_false_iff_not] at hs18
   refine oOf 169 hg17 ?_
   refine oOf 169 hg17 ?_
   refine oOf 169 hg17 ?_
   refine oOf 169 hg17 ?_
   refine o_p (p_pickf rfl rfl hg17 rfl) rfl ?_
   refine aS ?_
   exact oJn 5 174) ?_
 refine aS ?_
 refine s_cutI (α := List LNd) [13, 175, 176, 177, 178, 179, 180, 181, 182, 183, 184, 185, 186, 187, 188, 189, 190, 191, 192, 193, 194, 195, 196, 197, 198, 199, 200, 201, 202, 203, 204, 205, 206, 207, 208, 209, 210, 211, 212, 213, 214, 215, 216] (fun _ => []) (fun x => HS w (fps [.blk bt 112 6 (tbV (j : Int) mo rm (some ⟨gn, 0, none⟩) (L).length cap), .blk gn 102 (cap * 3) ((L).flatMap LNd.vals), .star ((L).map (subN 26)), .kids pa pc (iN P)]) [.obj D (.deferred (some [])), .blk bt 112 6 (tbV (j : Int) mo rm (some ⟨ga, 0, none⟩) (x).length gc), .blk ga 102 (gc * 3) ((x).flatMap LNd.vals), .star ((x).map (subN 26)), .blk b1 103 1 [.pointer (some ⟨bt, 0, none⟩)]]) (fun x => pln x = rotN rm (pln LG) ∧ x.length = LG.length) ?_ ?_
 ·skip
  refine s_cond rfl (fun h19 => ?_) fun h19 => ?_
  ·try simp only [Bool.and_eq_true, decide_eq_true_eq] at h19
   have hc9 := h19
   have hrt : (nth LG 0).es.length = 0 ∧ (nth LG 0).cs.length = 1 := by omega
   obtain ⟨hk1, hck, hku⟩ := hrk hrt.2
   rw [pln_len] at hck
   refine s_fact (fun w h => HS.cs_some hiG (by omega) h aPk) fun hgr => ?_
   obtain ⟨gr9, hgr⟩ := hgr
   iterate 4 refine aS ?_
   refine o_p (p_indexAddr rfl rfl rfl sl_30 (0) (by omega) (by omega) hgr) rfl ?_
   refine o_q (q_load_at rfl rfl sz_3 (fun w h => HS.cs_rd hiG (k := 0) (by omega) hgr h aPk)) rfl ?_
   refine o_slot (show _ = Value.int .i64 ((kdN (pln LG) 0 0) : Int) from congrArg (Value.int .i64) (kd_eq hNG (Int.le_of_lt hk1))) ?_
   iterate 3 refine aS ?_
   refine s_draw [] mixed ?_
   refine dLd 0 [] ?_
   refine dP 1 ?_
   refine dFa 2 ?_
   refine dFa 3 ?_
   refine dLd 4 [] ?_
   refine dP 5 ?_
   refine d_p 6 rfl (p_indexAddr rfl rfl rfl sl_22 ((kdN (pln LG) 0 0)) (by omega) (by omega) rfl) (by kernel_rfl) rfl rfl ?_
   refine d_slot (show _ = Value.pointer (some ⟨ga, (kdN (pln LG) 0 0) * 3, none⟩) from by rw [Nat.zero_add]) ?_
   refine dFa 7 ?_
   refine d_q 8 [] rfl (q_load_at rfl rfl sz_77 (fun w h => HS.nd_cell hck h aPk 1 rfl (by decide))) (by kernel_rfl) (by kernel_rfl) (by kernel_rfl) rfl ?_
   refine d_p 9 rfl (p_len_slice rfl rfl Tryz.underlying77) (by kernel_rfl) rfl rfl ?_
   refine dLd 10 [] ?_
   refine dP 11 ?_
   refine dFa 12 ?_
   refine dFa 13 ?_
   refine dLd 14 [] ?_
   refine dP 15 ?_
   refine dNi ?_
   refine s_cond rfl (fun h20 => ?_) fun h20 => ?_
   ·try simp only [decide_eq_true_eq] at h20
    have hcl : ((nth LG (kdN (pln LG) 0 0)).es.length : Int) ≤ rm := h20
    refine s_draw [21, 23] mixed ?_
    refine dLd 0 [[], []] ?_
    refine dP 1 ?_
    refine dFa 2 ?_
    refine dFa 3 ?_
    refine dLd 4 [[], []] ?_
    refine dLd 5 [[9, 8, 7, 6], []] ?_
    refine dP 6 ?_
    refine dFa 7 ?_
    refine dFa 8 ?_
    refine dLd 9 [[], []] ?_
    refine dP 10 ?_
    refine dLd 11 [[], []] ?_
    refine dP 12 ?_
    refine dFa 13 ?_
    refine dFa 14 ?_
    refine dLd 15 [[], []] ?_
    refine dP 16 ?_
    refine d_p 17 rfl (p_indexAddr rfl rfl rfl sl_22 ((kdN (pln LG) 0 0)) (by omega) (by omega) rfl) (by kernel_rfl) rfl rfl ?_
    refine d_slot (show _ = Value.pointer (some ⟨ga, (kdN (pln LG) 0 0) * 3, none⟩) from by rw [Nat.zero_add]) ?_
    refine d_q 18 [[], []] rfl (q_load_atn _ rfl rfl sz_102 rfl (fun w h => HS.nd_cells hck h aPk)) (by kernel_rfl) (by kernel_rfl) (by kernel_rfl) rfl ?_
    refine d_p 19 rfl (p_build (cs := [_, _, _]) rfl rfl pl_102 zr_102 rfl) (by kernel_rfl) rfl rfl ?_
    refine d_p 20 rfl (p_indexAddr rfl rfl rfl sl_22 (0) (by omega) (by omega) rfl) (by kernel_rfl) rfl rfl ?_
    refine d_slot (show _ = Value.pointer (some ⟨ga, 0 * 3, none⟩) from by rw [Nat.zero_add]) ?_
    refine dSt 21 ?_ (hl := (by rw [flat_length nv3]; show _ + 3 ≤ _; omega))
    refine dTu [23] ?_
    refine d_p 22 rfl (p_indexAddr rfl rfl rfl sl_22 ((kdN (pln LG) 0 0)) (by omega) (by omega) rfl) (by kernel_rfl) rfl rfl ?_
    refine d_slot (show _ = Value.pointer (some ⟨ga, (kdN (pln LG) 0 0) * 3, none⟩) from by rw [Nat.zero_add]) ?_
    refine d_h0 23 rfl (h_store rfl rfl rfl sz_102 rfl aPt (by rw [setMany_length, flat_length nv3]; show _ + 3 ≤ _; omega) rfl) (by kernel_rfl) (fun w h => h.ent aEt) (fun _ _ => ?_)
    refine dTu [] ?_
    refine dNi ?_
    refine s_ex (fun w h => HS.node_rot (i := (kdN (pln LG) 0 0)) (j := 0) (gn := ga) (cap := gc) hck hiG (by have := kd_eq hNG (Int.le_of_lt hk1); simp only [LNd.pl] at this; omega) h aPk aPk) fun L8 => ?_
    refine s_fact (fun w h => h.1) fun hS8 => ?_
    refine s_class (fun w h => h.2) ?_
    exact s_joinI L8 ⟨by rw [hS8.1]; exact (rotN_1 hNG hrt (pln_nth hck) hcl).symm, hS8.2⟩ aSx (fun w h => by rw [hS8.2]; exact h.ent aEt)
   try simp only [decide_eq_false_iff_not] at h20
   have hcl : ¬ ((nth LG (kdN (pln LG) 0 0)).es.length : Int) ≤ rm := by have hq := h20; omega
   refine aS ?_
   exact s_joinI LG ⟨(rotN_2 hNG hrt (pln_nth hck) hcl).symm, rfl⟩ aSx (fun w h => h.ent aEt)
  try simp only [Bool.and_eq_false_iff, decide_eq_false_iff_not] at h19
  have hc9 := h19
  have hrt : ¬ ((nth LG 0).es.length = 0 ∧ (nth LG 0).cs.length = 1) := by omega
  refine aS ?_
  exact s_joinI LG ⟨(rotN_3 hNG hrt).symm, rfl⟩ aSx (fun w h => h.ent aEt)
 intro LR hx
 obtain ⟨hR, hRl⟩ := hx
 have hRu : (nth (pln LR) 0).us = true := by rw [hR]; exact rot_us hrot
 iterate 2 refine aS ?_
 refine o_h (h_callF (Cs := [.blk bt 112 6 (tbV (j : Int) mo rm (some ⟨ga, 0, none⟩) (LR).length gc), .blk ga 102 (gc * 3) ((LR).flatMap LNd.vals), .star ((LR).map (subN 26))]) rfl fn_107 rfl aPs (fun w1 h1 hf => c107 w1 bt j mo rm ga gc LR hf (by omega) hg4 (by omega) (by omega) hRu)) rfl (fun ⟨⟨g7, c7⟩, L7⟩ hF7 => ?_)
 refine aS ?_
 exact s_endm rfl aPk (fun w' h' => ⟨((g7, c7), L7), rfl, ⟨by rw [hF7.1, hR, hLG]; rfl, hF7.2.1, hF7.2.2⟩, h'.ent aEt⟩)
theorem eqk_26 : teqk Tryz.prog 26 = some [1, 1] := by kernel_rfl
theorem fn_136 : isFn Tryz.prog 136 = true := by kernel_rfl
theorem fn_137 : isFn Tryz.prog 137 = true := by kernel_rfl
theorem fn_98 : isFn Tryz.prog 98 = true := by kernel_rfl
theorem fn_99 : isFn Tryz.prog 99 = true := by kernel_rfl
theorem c136 (w : World) (a b : Option Addr) (c d : Nat) (l m : List TEnt) (hs : Rw TEnt.vals 2 w [] a l) (ht : Rw TEnt.vals 2 w [] b m) (hl : l.length ≤ 100000) (hm : m.length ≤ 100000) : Calls Tryz.prog 136 #[.slice a l.length c, .slice b m.length d] w fun en w' => en = .returned (.bool (decide (l = m))) ∧ Below w.heap.size w w' := by
 refine enter (args := [_, _]) Tryz.func136 Tryz.ntmps136 rfl rfl (HS.refl w []) ?_
 iterate 13 refine aS ?_
 refine s_cond rfl (fun h1 => ?_) fun h1 => ?_
 ·try simp only [Bool.not_eq_true', decide_eq_false_iff_not] at h1
  have hn9 : l ≠ m := fun e => by have hq := h1; rw [e] at hq; simp at hq
  iterate 4 refine aS ?_
  exact s_retv (rs := [.tmp 4]) rfl (.tmp rfl (.nil)) (fun w' h' => ⟨by rw [decide_eq_false hn9]; rfl, h'.below⟩)
 try simp only [Bool.not_eq_false', decide_eq_true_eq] at h1
 have hlm : l.length = m.length := by have hq := h1; omega
 iterate 9 refine aS ?_
 refine s_loopI (α := Nat) [4, 5, 13, 14, 15, 16, 17, 18, 19, 20, 21, 22, 23, 24, 25] (fun k => [(13, .int .i64 (k : Int))]) (fun _ => HS w [] []) (fun k => k ≤ l.length ∧ ∀ j, j < k → nth l j = nth m j) (fun k => l.length - k) 0 ⟨Nat.zero_le _, fun j h => absurd h (Nat.not_lt_zero j)⟩ aSx (fun w h => h.ent aEt) (fun k hx => ?_)
 obtain ⟨hk1, hk3⟩ := hx
 iterate 5 refine aS ?_
 refine s_cond rfl (fun h2 => ?_) fun h2 => ?_
 ·try simp only [decide_eq_true_eq] at h2
  have hk : k < l.length := by omega
  have hk2 : k < m.length := by omega
  iterate 9 refine aS ?_
  refine s_draw [] mixed ?_
  refine dP 0 ?_
  refine dP 1 ?_
  refine d_p 2 rfl (p_indexAddr rfl rfl rfl sl_77 (k) (by omega) (by omega) (Rw.some hs (by omega))) (by kernel_rfl) rfl rfl ?_
  refine d_q 3 [] rfl (q_load_oldn _ rfl rfl sz_26 rfl (Rw.rd hs (by omega))) (by kernel_rfl) (by kernel_rfl) (by kernel_rfl) rfl ?_
  refine dP 4 ?_
  refine dP 5 ?_
  refine d_p 6 rfl (p_indexAddr rfl rfl rfl sl_77 (k) (by omega) (by omega) (Rw.some ht (by omega))) (by kernel_rfl) rfl rfl ?_
  refine d_q 7 [] rfl (q_load_oldn _ rfl rfl sz_26 rfl (Rw.rd ht (by omega))) (by kernel_rfl) (by kernel_rfl) (by kernel_rfl) rfl ?_
  refine d_p 8 rfl (p_neq_agg rfl rfl rfl eqk_26 (by rfl) (by rfl) (by rfl)) (by kernel_rfl) rfl rfl ?_
  refine dNi ?_
  refine s_cond rfl (fun h3 => ?_) fun h3 => ?_
  ·try simp only [Bool.not_eq_true', Bool.and_eq_false_iff, decide_eq_false_iff_not] at h3
   have hn9 : l ≠ m := fun e => by have hq := h3; rw [e] at hq; simp at hq
   iterate 4 refine aS ?_
   exact s_retv (rs := [.tmp 4]) rfl (.tmp rfl (.nil)) (fun w' h' => ⟨by rw [decide_eq_false hn9]; rfl, h'.below⟩)
  try simp only [Bool.not_eq_false', Bool.and_eq_true, decide_eq_true_eq] at h3
  have he9 : nth l k = nth m k := by have hq := h3; first | exact hq | exact ent_ext hq.1 hq.2.1
  iterate 4 refine aS ?_
  try refine oWr ?_
  iterate 2 refine aS ?_
  exact s_backI (k + 1) (by omega) ⟨by omega, fun j hj => (Nat.lt_or_ge j k).elim (hk3 j) (fun h9 => by obtain rfl : j = k := (by omega); exact he9)⟩ aSx (fun w h => h.ent aEt)
 try simp only [decide_eq_false_iff_not] at h2
 have hl9 : l = m := list_ext_nth hlm fun j hj => hk3 j (by omega)
 refine s_exit_to rfl ?_
 iterate 4 refine aS ?_
 exact s_retv (rs := [.tmp 4]) rfl (.tmp rfl (.nil)) (fun w' h' => ⟨by rw [decide_eq_true hl9]; rfl, h'.below⟩)
theorem c137 (w : World) (a b : Option Addr) (c d : Nat) (l m : List Int) (hs : Rw inV 1 w [] a l) (ht : Rw inV 1 w [] b m) (hl : l.length ≤ 100000) (hm : m.length ≤ 100000) : Calls Tryz.prog 137 #[.slice a l.length c, .slice b m.length d] w fun en w' => en = .returned (.bool (decide (l = m))) ∧ Below w.heap.size w w' := by
 refine enter (args := [_, _]) Tryz.func137 Tryz.ntmps137 rfl rfl (HS.refl w []) ?_
 iterate 13 refine aS ?_
 refine s_cond rfl (fun h1 => ?_) fun h1 => ?_
 ·try simp only [Bool.not_eq_true', decide_eq_false_iff_not] at h1
  have hn9 : l ≠ m := fun e => by have hq := h1; rw [e] at hq; simp at hq
  iterate 4 refine aS ?_
  exact s_retv (rs := [.tmp 4]) rfl (.tmp rfl (.nil)) (fun w' h' => ⟨by rw [decide_eq_false hn9]; rfl, h'.below⟩)
 try simp only [Bool.not_eq_false', decide_eq_true_eq] at h1
 have hlm : l.length = m.length := by have hq := h1; omega
 iterate 9 refine aS ?_
 refine s_loopI (α := Nat) [4, 5, 13, 14, 15, 16, 17, 18, 19, 20, 21, 22, 23, 24, 25] (fun k => [(13, .int .i64 (k : Int))]) (fun _ => HS w [] []) (fun k => k ≤ l.length ∧ ∀ j, j < k → nth l j = nth m j) (fun k => l.length - k) 0 ⟨Nat.zero_le _, fun j h => absurd h (Nat.not_lt_zero j)⟩ aSx (fun w h => h.ent aEt) (fun k hx => ?_)
 obtain ⟨hk1, hk3⟩ := hx
 iterate 5 refine aS ?_
 refine s_cond rfl (fun h2 => ?_) fun h2 => ?_
 ·try simp only [decide_eq_true_eq] at h2
  have hk : k < l.length := by omega
  have hk2 : k < m.length := by omega
  iterate 9 refine aS ?_
  refine s_draw [] mixed ?_
  refine dP 0 ?_
  refine dP 1 ?_
  refine d_p 2 rfl (p_indexAddr rfl rfl rfl sl_30 (k) (by omega) (by omega) (Rw.some hs (by omega))) (by kernel_rfl) rfl rfl ?_
  refine d_q 3 [] rfl (q_load_old rfl rfl sz_3 ((hs.rdj 0 (by omega) rfl))) (by kernel_rfl) (by kernel_rfl) (by kernel_rfl) rfl ?_
  refine dP 4 ?_
  refine dP 5 ?_
  refine d_p 6 rfl (p_indexAddr rfl rfl rfl sl_30 (k) (by omega) (by omega) (Rw.some ht (by omega))) (by kernel_rfl) rfl rfl ?_
  refine d_q 7 [] rfl (q_load_old rfl rfl sz_3 ((ht.rdj 0 (by omega) rfl))) (by kernel_rfl) (by kernel_rfl) (by kernel_rfl) rfl ?_
  refine dP 8 ?_
  refine dNi ?_
  refine s_cond rfl (fun h3 => ?_) fun h3 => ?_
  ·try simp only [Bool.not_eq_true', decide_eq_false_iff_not] at h3
   have hn9 : l ≠ m := fun e => by have hq := h3; rw [e] at hq; simp at hq
   iterate 4 refine aS ?_
   exact s_retv (rs := [.tmp 4]) rfl (.tmp rfl (.nil)) (fun w' h' => ⟨by rw [decide_eq_false hn9]; rfl, h'.below⟩)
  try simp only [Bool.not_eq_false', decide_eq_true_eq] at h3
  have he9 : nth l k = nth m k := by have hq := h3; first | exact hq | exact ent_ext hq.1 hq.2.1
  iterate 4 refine aS ?_
  try refine oWr ?_
  iterate 2 refine aS ?_
  exact s_backI (k + 1) (by omega) ⟨by omega, fun j hj => (Nat.lt_or_ge j k).elim (hk3 j) (fun h9 => by obtain rfl : j = k := (by omega); exact he9)⟩ aSx (fun w h => h.ent aEt)
 try simp only [decide_eq_false_iff_not] at h2
 have hl9 : l = m := list_ext_nth hlm fun j hj => hk3 j (by omega)
 refine s_exit_to rfl ?_
 iterate 4 refine aS ?_
 exact s_retv (rs := [.tmp 4]) rfl (.tmp rfl (.nil)) (fun w' h' => ⟨by rw [decide_eq_true hl9]; rfl, h'.below⟩)
theorem c99 (w : World) (n m : LNd) (hne : Rw TEnt.vals 2 w [] n.ea n.es) (hnc : Rw inV 1 w [] n.ca n.cs) (hme : Rw TEnt.vals 2 w [] m.ea m.es) (hmc : Rw inV 1 w [] m.ca m.cs) (h1 : n.es.length ≤ 100000 ∧ n.cs.length ≤ 100000) (h2 : m.es.length ≤ 100000 ∧ m.cs.length ≤ 100000) : Calls Tryz.prog 99 #[.agg #[.bool n.us, .slice n.ea n.es.length n.ec, .slice n.ca n.cs.length n.cc], .agg #[.bool m.us, .slice m.ea m.es.length m.ec, .slice m.ca m.cs.length m.cc]] w fun en w' => en = .returned (.bool (decide (n.pl = m.pl))) ∧ Below w.heap.size w w' := by
 refine enter (args := [_, _]) Tryz.func99 Tryz.ntmps99 rfl rfl (HS.refl w []) ?_
 iterate 2 refine aS ?_
 refine oBx fun b1 _ => ?_
 refine oBx fun b2 _ => ?_
 iterate 8 refine aS ?_
 refine o_p (p_eql_bool rfl rfl rfl Tryz.underlying4) rfl ?_
 refine aS ?_
 refine o_and 6 10 16 _ _ rfl
  (by
   intro hg3
   have hs4 := hg3; skip
   refine oOn 10 hg3 ?_
   refine aS ?_
   refine oOn 10 hg3 ?_
   refine aS ?_
   refine oOn 10 hg3 ?_
   refine aS ?_
   refine oOn 10 hg3 ?_
   refine aS ?_
   refine oOn 10 hg3 ?_
   refine o_q (q_call rfl fn_136 rfl (fun w1 h1 => c136 w1 n.ea m.ea n.ec m.ec n.es m.es (hne.later h1.nil) (hme.later h1.nil) (by omega) (by omega))) rfl ?_
   refine o_p (p_pickt rfl rfl hg3 rfl) rfl ?_
   refine aS ?_
   exact oJn 6 16)
  (by
   intro hg5
   have hs6 := hg5; skip
   refine oOf 10 hg5 ?_
   refine oOf 10 hg5 ?_
   refine oOf 10 hg5 ?_
   refine oOf 10 hg5 ?_
   refine oOf 10 hg5 ?_
   refine o_p (p_pickf rfl rfl hg5 rfl) rfl ?_
   refine aS ?_
   exact oJn 6 16) ?_
 refine aS ?_
 refine o_and 6 17 23 _ _ rfl
  (by
   intro hg7
   have hs8 := hg7; try simp only [Bool.and_eq_true, decide_eq_true_eq] at hs8
   refine oOn 17 hg7 ?_
   refine aS ?_
   refine oOn 17 hg7 ?_
   refine aS ?_
   refine oOn 17 hg7 ?_
   refine aS ?_
   refine oOn 17 hg7 ?_
   refine aS ?_
   refine oOn 17 hg7 ?_
   refine o_q (q_call rfl fn_137 rfl (fun w1 h1 => c137 w1 n.ca m.ca n.cc m.cc n.cs m.cs (hnc.later h1.nil) (hmc.later h1.nil) (by omega) (by omega))) rfl ?_
   refine o_p (p_pickt rfl rfl hg7 rfl) rfl ?_
   refine aS ?_
   exact oJn 6 23)
  (by
   intro hg9
   have hs10 := hg9; try simp only [Bool.and_eq_false_iff, decide_eq_false_iff_not] at hs10
   refine oOf 17 hg9 ?_
   refine oOf 17 hg9 ?_
   refine oOf 17 hg9 ?_
   refine oOf 17 hg9 ?_
   refine oOf 17 hg9 ?_
   refine o_p (p_pickf rfl rfl hg9 rfl) rfl ?_
   refine aS ?_
   exact oJn 6 23) ?_
 iterate 2 refine aS ?_
 exact s_retv (rs := [.tmp 4]) rfl (.tmp rfl (.nil)) (fun w' h' => ⟨by simp only [retV]; rw [alike_eq], h'.below⟩)
theorem c98 (w : World) (a : Option Addr) (cap : Nat) (L : List LNd) (k : Nat) (hs : Rw LNd.vals 3 w [] a L) : Calls Tryz.prog 98 #[.slice a L.length cap, .int .i64 (k : Int)] w fun en w' => en = .returned (.agg (LNd.vals (nth L k)).toArray) ∧ Below w.heap.size w w' := by
 refine enter (args := [_, _]) Tryz.func98 Tryz.ntmps98 rfl rfl (HS.refl w []) ?_
 iterate 2 refine aS ?_
 refine oAl (fun b1 _ => ?_) zr_102
 iterate 9 refine aS ?_
 refine s_cond rfl (fun h2 => ?_) fun h2 => ?_
 ·try simp only [decide_eq_true_eq] at h2
  iterate 3 refine aS ?_
  refine o_p (p_indexAddr rfl rfl rfl sl_22 (k) (by omega) (by omega) (Rw.some hs (by omega))) rfl ?_
  refine o_q (q_load_oldn _ rfl rfl sz_102 rfl (Rw.rd hs (by omega))) rfl ?_
  refine oSt ?_
  iterate 4 refine aS ?_
  refine oSt ?_
  refine aS ?_
  exact s_retv (rs := [.cell 4 102]) rfl (.cell rfl sz_102 aPk rfl (.nil)) (fun w' h' => ⟨by first | rfl | (rw [nth_out (by omega)]; rfl), h'.below⟩)
 try simp only [decide_eq_false_iff_not] at h2
 iterate 4 refine aS ?_
 refine oSt ?_
 refine aS ?_
 exact s_retv (rs := [.cell 4 102]) rfl (.cell rfl sz_102 aPk rfl (.nil)) (fun w' h' => ⟨by first | rfl | (rw [nth_out (by omega)]; rfl), h'.below⟩)
theorem c59 (w : World) (a b : Option Addr) (ca cb : Nat) (L M : List LNd) (hs : Nt w [] a L) (ht : Nt w [] b M) (hL : L.length ≤ 1000) (hM : M.length ≤ 1000) (hLs : Sm 100000 (pln L)) (hMs : Sm 100000 (pln M)) : Calls Tryz.prog 59 #[.slice a L.length ca, .slice b M.length cb] w fun en w' => ∃ g : Option Addr × Nat, en = .returned (.slice g.1 (chgN (pln L) (pln M)).length g.2) ∧ True ∧ HS w [] [.own (.slice g.1 ((chgN (pln L) (pln M))).length g.2) 3 1 ((chgN (pln L) (pln M))).length (((chgN (pln L) (pln M))).map fun i : Nat => Value.int .i64 (i : Int))] w' := by
 refine enter (args := [_, _]) Tryz.func59 Tryz.ntmps59 rfl rfl (HS.refl w []) ?_
 iterate 19 refine aS ?_
 refine o_p (p_max2 rfl rfl rfl ) rfl ?_
 iterate 3 refine aS ?_
 refine s_loopI (α := Nat × Option Addr × Nat) [6, 7, 13, 14, 15, 16, 17, 18, 19, 20, 21, 22, 23, 24, 25, 26, 27, 28, 29, 30] (fun x => [(13, .int .i64 (x.1 : Int)), (6, .slice x.2.1 (chgK (pln L) (pln M) x.1).length x.2.2)]) (fun x => HS w [] [.own (.slice x.2.1 ((chgK (pln L) (pln M) x.1)).length x.2.2) 3 1 ((chgK (pln L) (pln M) x.1)).length (((chgK (pln L) (pln M) x.1)).map fun i : Nat => Value.int .i64 (i : Int))]) (fun x => x.1 ≤ (max L.length M.length)) (fun x => (max L.length M.length) - x.1) (0, none, 0) (Nat.zero_le _) aSx (fun w h => (h.own_nil 3 1).ent aEt) (fun ⟨k, ga, gc⟩ hk1 => ?_)
 dsimp only
 simp only [] at hk1
 iterate 5 refine aS ?_
 refine s_cond rfl (fun h1 => ?_) fun h1 => ?_
 ·try simp only [decide_eq_true_eq] at h1
  have hk : k < (max L.length M.length) := by have hq := h1; omega
  have hkl := chgK_len (pln L) (pln M) k
  iterate 13 refine aS ?_
  refine o_q (q_callv rfl rfl fn_98 rfl (fun w1 h1 => c98 w1 a ca L k (Rw.later hs.1 h1.nil))) rfl ?_
  iterate 3 refine aS ?_
  refine o_q (q_callv rfl rfl fn_98 rfl (fun w1 h1 => c98 w1 b cb M k (Rw.later ht.1 h1.nil))) rfl ?_
  refine o_q (q_call rfl fn_99 rfl (fun w1 h1 => c99 w1 (nth L k) (nth M k) ((hs.esA k).later h1.nil) ((hs.csA k).later h1.nil) ((ht.esA k).later h1.nil) ((ht.csA k).later h1.nil) (by have := hLs k; rw [pln_nth'] at this; exact this) (by have := hMs k; rw [pln_nth'] at this; exact this))) rfl ?_
  iterate 2 refine aS ?_
  refine s_cond rfl (fun h2 => ?_) fun h2 => ?_
  ·try simp only [Bool.not_eq_true', decide_eq_false_iff_not] at h2
   have hne9 : nth (pln L) k ≠ nth (pln M) k := by rw [pln_nth', pln_nth']; have hq := h2; simpa using hq
   have hst := chgK_ne hne9
   iterate 3 refine aS ?_
   refine o_h (h_buildSlice (cs := [_]) rfl rfl sl_30 zr_3 rfl rfl rfl) rfl (fun b3 _ => ?_)
   refine o_h (h_appendS [_] rfl rfl rfl sl_30 Tryz.underlying30 zr_3 rfl aPk (src_blk aPk) rfl (by intro u hu; simp only [List.mem_cons, List.mem_nil_iff, or_false] at hu; subst hu; rfl) (by omega) (by simp only [maxLen]; omega)) rfl (fun b4 _ => ?_)
   iterate 5 refine aS ?_
   try refine oWr ?_
   iterate 2 refine aS ?_
   exact s_backI (k + 1, b4.1, b4.2) (by (try simp only []); omega) (by (try simp only []); omega) (by dsimp only; rw [hst]; simp only [List.length_append, List.length_singleton]; exact aSx) (fun w h => by have h2 := h; dsimp only; rw [hst]; simp only [List.length_append, List.length_singleton, List.map_append, List.map_cons, List.map_nil]; exact h2.ent aEt)
  try simp only [Bool.not_eq_false', decide_eq_true_eq] at h2
  have hne9 : nth (pln L) k = nth (pln M) k := by rw [pln_nth', pln_nth']; have hq := h2; simpa using hq
  have hst := chgK_eq hne9
  iterate 4 refine aS ?_
  try refine oWr ?_
  iterate 2 refine aS ?_
  exact s_backI (k + 1, ga, gc) (by (try simp only []); omega) (by (try simp only []); omega) (by dsimp only; rw [hst]; exact aSx) (fun w h => by dsimp only; rw [hst]; exact h.ent aEt)
 try simp only [decide_eq_false_iff_not] at h1
 obtain rfl : k = (max L.length M.length) := by omega
 refine s_exit_to rfl ?_
 iterate 5 refine aS ?_
 exact s_retv (rs := [.tmp 4]) rfl (.tmp rfl (.nil)) (fun w' h' => ⟨(ga, gc), by unfold chgN; rw [pln_len, pln_len]; rfl, trivial, by unfold chgN; rw [pln_len, pln_len]; exact h'.ent aEt⟩)
theorem fn_39 : isFn Tryz.prog 39 = true := by kernel_rfl
theorem fn_88 : isFn Tryz.prog 88 = true := by kernel_rfl
theorem fn_84 : isFn Tryz.prog 84 = true := by kernel_rfl
theorem c84o (w : World) (j : Nat) (mo rm : Int) (a : Option Addr) (cap : Nat) (L : List LNd) (hs : Nt w [] a L) (hB : Bd (pln L)) (hkl : ∀ i, i < L.length → ∀ x ∈ (nth L i).es, x.key.length ≤ 1000000) (h0 : (treE (⟨(j : Int), mo, rm, pln L⟩ : Tre)).2 = 0) : Calls Tryz.prog 84 #[.agg #[.int .i64 (j : Int), .int .i64 mo, .int .i64 rm, .slice a L.length cap]] w fun en w' => ∃ g : Nat × (Nat × Nat) × List LNd, en = .returned (.tuple #[.pointer (some ⟨g.1, 0, none⟩), .int .i64 (0)]) ∧ (pln g.2.2 = pln L ∧ g.2.2.length ≤ g.2.1.2 ∧ g.2.1.2 ≤ maxLen) ∧ HS w [] [.blk g.1 112 6 (tbV (j : Int) mo rm (some ⟨g.2.1.1, 0, none⟩) (g.2.2).length g.2.1.2), .blk g.2.1.1 102 (g.2.1.2 * 3) ((g.2.2).flatMap LNd.vals), .star ((g.2.2).map (subN 26))] w' := by
 obtain ⟨hc0, hz0, hl0, hl120, hn0, _, _⟩ := treE_0 h0
 rw [show ((⟨(j : Int), mo, rm, pln L⟩ : Tre)).ns = pln L from rfl, pln_len] at hl0 hl120
 have hj : j ≤ 3 := by obtain ⟨j9, e9, hj9⟩ := col_ok hc0; have e8 : ((j : Nat) : Int) = (j9 : Int) := e9; omega
 have hT : TOk (j : Int) (pln L) := tok_of (t := (⟨(j : Int), mo, rm, pln L⟩ : Tre)) hn0
 have hmo := (sizE_0 hz0).1
 simp only [] at hmo
 refine enter (args := [_]) Tryz.func84 Tryz.ntmps84 rfl rfl (HS.refl w []) ?_
 iterate 2 refine aS ?_
 refine oBx fun b1 _ => ?_
 iterate 7 refine aS ?_
 refine o_q (q_call rfl fn_39 rfl (fun w1 h1 => c39 w1 (j : Int) mo rm a cap L (hs.later h1.nil) hB hkl)) rfl ?_
 iterate 11 refine aS ?_
 refine s_cond rfl (fun h2 => ?_) fun h2 => ?_
 ·try simp only [Bool.not_eq_true', decide_eq_false_iff_not] at h2
  exfalso; first | omega | (simp at h2; done) | (simp_all; done)
 try simp only [Bool.not_eq_false', decide_eq_true_eq] at h2
 iterate 4 refine aS ?_
 refine o_h (h_call rfl fn_88 rfl (fun w1 h1 => c88 w1 j mo rm a cap L (hs.later h1.nil) hB hj hl0)) rfl (fun ⟨b9, ⟨a9, c9⟩, L9⟩ hF9 => ?_)
 dsimp only
 iterate 3 refine aS ?_
 exact s_retv (rs := [.tmp 2, .tmp 3]) rfl (.tmp rfl (.tmp rfl (.nil))) (fun w' h' => by obtain ⟨g9, rfl, hl9, hm9, h2⟩ := nodes_split (by rw [← pln_len, hF9, pln_len]; exact hl0) h' aPk; exact ⟨(b9, (g9, c9), L9), rfl, ⟨hF9, hl9, hm9⟩, h2.ent aEt⟩)
theorem c67k (w : World) (j : Nat) (mo rm : Int) (a : Option Addr) (cap : Nat) (L : List LNd) (key : List UInt8) (hs : Nt w [] a L) (hB : Bd (pln L)) (hkl : ∀ i, i < L.length → ∀ x ∈ (nth L i).es, x.key.length ≤ 1000000) (hkk : key.length ≤ 1000000) (h0 : (treE (⟨(j : Int), mo, rm, pln L⟩ : Tre)).2 = 0) : Calls Tryz.prog 67 #[.agg #[.int .i64 (j : Int), .int .i64 mo, .int .i64 rm, .slice a L.length cap], .string (bs key)] w fun en w' => ∃ g : Nat × (Nat × Nat) × List LNd, en = .returned (.tuple #[.pointer (some ⟨g.1, 0, none⟩), .int .i64 (keyE (j : Int) key)]) ∧ (pln g.2.2 = pln L ∧ g.2.2.length ≤ g.2.1.2 ∧ g.2.1.2 ≤ maxLen) ∧ HS w [] [.blk g.1 112 6 (tbV (j : Int) mo rm (some ⟨g.2.1.1, 0, none⟩) (g.2.2).length g.2.1.2), .blk g.2.1.1 102 (g.2.1.2 * 3) ((g.2.2).flatMap LNd.vals), .star ((g.2.2).map (subN 26))] w' := by
 obtain ⟨hc0, hz0, hl0, hl120, hn0, _, _⟩ := treE_0 h0
 rw [show ((⟨(j : Int), mo, rm, pln L⟩ : Tre)).ns = pln L from rfl, pln_len] at hl0 hl120
 have hj : j ≤ 3 := by obtain ⟨j9, e9, hj9⟩ := col_ok hc0; have e8 : ((j : Nat) : Int) = (j9 : Int) := e9; omega
 have hT : TOk (j : Int) (pln L) := tok_of (t := (⟨(j : Int), mo, rm, pln L⟩ : Tre)) hn0
 have hmo := (sizE_0 hz0).1
 simp only [] at hmo
 refine enter (args := [_, _]) Tryz.func67 Tryz.ntmps67 rfl rfl (HS.refl w []) ?_
 iterate 2 refine aS ?_
 refine oBx fun b1 _ => ?_
 iterate 6 refine aS ?_
 refine o_h (h_call rfl fn_84 rfl (fun w1 h1 => c84o w1 j mo rm a cap L (hs.later h1.nil) hB hkl h0)) rfl (fun g9 hF9 => ?_)
 iterate 12 refine aS ?_
 refine s_cond rfl (fun h2 => ?_) fun h2 => ?_
 ·try simp only [decide_eq_true_eq] at h2
  iterate 4 refine aS ?_
  refine o_q (q_call rfl fn_76 rfl (fun w1 h1 => c76 w1 j key hj hkk)) rfl ?_
  iterate 9 refine aS ?_
  exact s_retv (rs := [.tmp 4, .tmp 5]) rfl (.tmp rfl (.tmp rfl (.nil))) (fun w' h' => ⟨g9, rfl, hF9, h'.ent aEt⟩)
 try simp only [decide_eq_false_iff_not] at h2
 exfalso; first | omega | (simp at h2; done) | (simp_all; done)
theorem c57k (w : World) (j : Nat) (mo rm : Int) (a : Option Addr) (cap : Nat) (L : List LNd) (x : TEnt) (hs : Nt w [] a L) (hB : Bd (pln L)) (hkl : ∀ i, i < L.length → ∀ x ∈ (nth L i).es, x.key.length ≤ 1000000) (hkk : x.key.length ≤ 1000000) (h0 : (treE (⟨(j : Int), mo, rm, pln L⟩ : Tre)).2 = 0) : Calls Tryz.prog 57 #[.agg #[.int .i64 (j : Int), .int .i64 mo, .int .i64 rm, .slice a L.length cap], .agg #[.string (bs x.key), .string (bs x.val)]] w fun en w' => ∃ g : Nat × (Nat × Nat) × List LNd, en = .returned (.tuple #[.pointer (some ⟨g.1, 0, none⟩), .int .i64 (entE (j : Int) x)]) ∧ (pln g.2.2 = pln L ∧ g.2.2.length ≤ g.2.1.2 ∧ g.2.1.2 ≤ maxLen) ∧ HS w [] [.blk g.1 112 6 (tbV (j : Int) mo rm (some ⟨g.2.1.1, 0, none⟩) (g.2.2).length g.2.1.2), .blk g.2.1.1 102 (g.2.1.2 * 3) ((g.2.2).flatMap LNd.vals), .star ((g.2.2).map (subN 26))] w' := by
 obtain ⟨hc0, hz0, hl0, hl120, hn0, _, _⟩ := treE_0 h0
 rw [show ((⟨(j : Int), mo, rm, pln L⟩ : Tre)).ns = pln L from rfl, pln_len] at hl0 hl120
 have hj : j ≤ 3 := by obtain ⟨j9, e9, hj9⟩ := col_ok hc0; have e8 : ((j : Nat) : Int) = (j9 : Int) := e9; omega
 have hT : TOk (j : Int) (pln L) := tok_of (t := (⟨(j : Int), mo, rm, pln L⟩ : Tre)) hn0
 have hmo := (sizE_0 hz0).1
 simp only [] at hmo
 refine enter (args := [_, _]) Tryz.func57 Tryz.ntmps57 rfl rfl (HS.refl w []) ?_
 iterate 2 refine aS ?_
 refine oBx fun b1 _ => ?_
 refine oBx fun b2 _ => ?_
 iterate 6 refine aS ?_
 refine o_h (h_call rfl fn_84 rfl (fun w1 h1 => c84o w1 j mo rm a cap L (hs.later h1.nil) hB hkl h0)) rfl (fun g9 hF9 => ?_)
 iterate 12 refine aS ?_
 refine s_cond rfl (fun h3 => ?_) fun h3 => ?_
 ·try simp only [decide_eq_true_eq] at h3
  iterate 4 refine aS ?_
  refine o_q (q_call rfl fn_91 rfl (fun w1 h1 => c91 w1 j x hj hkk)) rfl ?_
  iterate 9 refine aS ?_
  exact s_retv (rs := [.tmp 4, .tmp 5]) rfl (.tmp rfl (.tmp rfl (.nil))) (fun w' h' => ⟨g9, rfl, hF9, h'.ent aEt⟩)
 try simp only [decide_eq_false_iff_not] at h3
 exfalso; first | omega | (simp at h3; done) | (simp_all; done)
theorem fn_57 : isFn Tryz.prog 57 = true := by kernel_rfl
theorem fn_58 : isFn Tryz.prog 58 = true := by kernel_rfl
theorem fn_59 : isFn Tryz.prog 59 = true := by kernel_rfl
theorem fn_67 : isFn Tryz.prog 67 = true := by kernel_rfl
theorem fn_69 : isFn Tryz.prog 69 = true := by kernel_rfl
theorem c16c (w : World) (j : Nat) (mo rm : Int) (a : Option Addr) (cap : Nat) (L : List LNd) (x : TEnt) (hs : Nt w [] a L) (hB : Bd (pln L)) (hkl : ∀ i, i < L.length → ∀ x ∈ (nth L i).es, x.key.length ≤ 1000000) (h0 : (treE (⟨(j : Int), mo, rm, pln L⟩ : Tre)).2 = 0) (hkk : x.key.length ≤ 1000000) (hx0 : entE (j : Int) x = 0) (hins : ¬ (pathN (j : Int) (pln L) x.key).2.2 = true → InsOk (j : Int) mo rm (pln L) x) (hx : ¬ (insE (j : Int) mo rm (pln L) x) = 0) : Calls Tryz.prog 16 #[.agg #[.int .i64 (j : Int), .int .i64 mo, .int .i64 rm, .slice a L.length cap], .agg #[.string (bs x.key), .string (bs x.val)]] w fun en w' => en = .returned (.tuple #[.agg #[.int .i64 0, .int .i64 0, .int .i64 0, .slice none 0 0], .slice none 0 0, .int .i64 (insE (j : Int) mo rm (pln L) x)]) ∧ Below w.heap.size w w' := by
 obtain ⟨hc0, hz0, hl0, hl120, hn0, _, _⟩ := treE_0 h0
 rw [show ((⟨(j : Int), mo, rm, pln L⟩ : Tre)).ns = pln L from rfl, pln_len] at hl0 hl120
 have hj : j ≤ 3 := by obtain ⟨j9, e9, hj9⟩ := col_ok hc0; have e8 : ((j : Nat) : Int) = (j9 : Int) := e9; omega
 have hT : TOk (j : Int) (pln L) := tok_of (t := (⟨(j : Int), mo, rm, pln L⟩ : Tre)) hn0
 have hmo := (sizE_0 hz0).1
 simp only [] at hmo
 have hkey : keyOk (j : Int) x.key = true := entE_key hx0
 refine enter (args := [_, _]) Tryz.func16 Tryz.ntmps16 rfl rfl (HS.refl w []) ?_
 iterate 2 refine aS ?_
 refine oBx fun b1 _ => ?_
 refine oBx fun b2 _ => ?_
 refine oAl (fun b3 _ => ?_) zr_24
 iterate 7 refine aS ?_
 refine o_h (h_call rfl fn_57 rfl (fun w1 h1 => c57k w1 j mo rm a cap L x (hs.later h1.nil) hB hkl hkk h0)) rfl (fun ⟨b9, ⟨gn9, c9⟩, L9⟩ hF9 => ?_)
 dsimp only
 obtain ⟨hL9, hn9, hm9⟩ := hF9
 simp only [] at hL9 hn9 hm9
 have hl9 : L9.length = L.length := by rw [← pln_len L9, hL9, pln_len]
 have hB9 : Bd (pln L9) := by rw [hL9]; exact hB
 have hT9 : TOk (j : Int) (pln L9) := by rw [hL9]; exact hT
 have hK9 : ∀ i, i < L9.length → ∀ y ∈ (nth L9 i).es, keyOk (j : Int) y.key = true ∧ y.key.length ≤ 1000000 := fun i hi y hy => tok_key hT9 i (by rw [pln_len]; exact hi) y (by rw [pln_nth hi]; exact hy)
 iterate 12 refine aS ?_
 refine s_cond rfl (fun h4 => ?_) fun h4 => ?_
 ·try simp only [decide_eq_true_eq] at h4
  iterate 3 refine aS ?_
  refine o_h (h_callF (Cs := [.blk b9 112 6 (tbV (j : Int) mo rm (some ⟨gn9, 0, none⟩) (L9).length c9), .blk gn9 102 (c9 * 3) ((L9).flatMap LNd.vals), .star ((L9).map (subN 26))]) rfl fn_58 rfl aPs (fun w1 h1 hf => c58 w1 b9 j mo rm gn9 c9 L9 x hf hn9 hm9 hj (by omega) hB9 hT9 hkey (by rw [hL9]; exact hins))) rfl (fun ⟨⟨g5, c5⟩, L5⟩ hF5 => ?_)
  dsimp only
  refine o_slot (show _ = Value.int .i64 (insE (j : Int) mo rm (pln L) x) from by rw [hL9]) ?_
  iterate 8 refine aS ?_
  refine s_cond rfl (fun h5 => ?_) fun h5 => ?_
  ·try simp only [Bool.not_eq_true', decide_eq_false_iff_not] at h5
   iterate 2 refine aS ?_
   refine o_p (p_build (cs := [_, _, _, _]) rfl rfl pl_24 zr_24 rfl) rfl ?_
   refine aS ?_
   refine oSt ?_
   iterate 3 refine aS ?_
   exact s_retv (rs := [.cell 4 24, .tmp 5, .tmp 6]) rfl (.cell rfl sz_24 aPk rfl (.tmp rfl (.tmp rfl (.nil)))) (fun w' h' => ⟨rfl, h'.below⟩)
  try simp only [Bool.not_eq_false', decide_eq_true_eq] at h5
  exfalso; first | omega | (simp at h5; done) | (simp_all; done)
 try simp only [decide_eq_false_iff_not] at h4
 exfalso; first | omega | (simp at h4; done) | (simp_all; done)
theorem c16o (w : World) (j : Nat) (mo rm : Int) (a : Option Addr) (cap : Nat) (L : List LNd) (x : TEnt) (hs : Nt w [] a L) (hB : Bd (pln L)) (hkl : ∀ i, i < L.length → ∀ x ∈ (nth L i).es, x.key.length ≤ 1000000) (h0 : (treE (⟨(j : Int), mo, rm, pln L⟩ : Tre)).2 = 0) (hkk : x.key.length ≤ 1000000) (hx0 : entE (j : Int) x = 0) (hins : ¬ (pathN (j : Int) (pln L) x.key).2.2 = true → InsOk (j : Int) mo rm (pln L) x) (hx : (insE (j : Int) mo rm (pln L) x) = 0) (hso : Sm 100000 (insT (j : Int) mo rm (pln L) x)) : Calls Tryz.prog 16 #[.agg #[.int .i64 (j : Int), .int .i64 mo, .int .i64 rm, .slice a L.length cap], .agg #[.string (bs x.key), .string (bs x.val)]] w fun en w' => ∃ g : ((Nat × Nat) × List LNd) × (Option Addr × Nat), en = .returned (.tuple #[.agg #[.int .i64 (j : Int), .int .i64 mo, .int .i64 rm, .slice (some ⟨g.1.1.1, 0, none⟩) g.1.2.length g.1.1.2], .slice g.2.1 (chgN (pln L) (insT (j : Int) mo rm (pln L) x)).length g.2.2, .int .i64 0]) ∧ pln g.1.2 = (insT (j : Int) mo rm (pln L) x) ∧ HS w [] [.nodes 26 102 (some ⟨g.1.1.1, 0, none⟩) g.1.1.2 g.1.2, .own (.slice g.2.1 ((chgN (pln L) (insT (j : Int) mo rm (pln L) x))).length g.2.2) 3 1 ((chgN (pln L) (insT (j : Int) mo rm (pln L) x))).length (((chgN (pln L) (insT (j : Int) mo rm (pln L) x))).map fun i : Nat => Value.int .i64 (i : Int))] w' := by
 obtain ⟨hc0, hz0, hl0, hl120, hn0, _, _⟩ := treE_0 h0
 rw [show ((⟨(j : Int), mo, rm, pln L⟩ : Tre)).ns = pln L from rfl, pln_len] at hl0 hl120
 have hj : j ≤ 3 := by obtain ⟨j9, e9, hj9⟩ := col_ok hc0; have e8 : ((j : Nat) : Int) = (j9 : Int) := e9; omega
 have hT : TOk (j : Int) (pln L) := tok_of (t := (⟨(j : Int), mo, rm, pln L⟩ : Tre)) hn0
 have hmo := (sizE_0 hz0).1
 simp only [] at hmo
 have hkey : keyOk (j : Int) x.key = true := entE_key hx0
 obtain ⟨hnf, h120⟩ := insE_0 hx
 refine enter (args := [_, _]) Tryz.func16 Tryz.ntmps16 rfl rfl (HS.refl w []) ?_
 iterate 2 refine aS ?_
 refine oBx fun b1 _ => ?_
 refine oBx fun b2 _ => ?_
 refine oAl (fun b3 _ => ?_) zr_24
 iterate 7 refine aS ?_
 refine o_h (h_call rfl fn_57 rfl (fun w1 h1 => c57k w1 j mo rm a cap L x (hs.later h1.nil) hB hkl hkk h0)) rfl (fun ⟨b9, ⟨gn9, c9⟩, L9⟩ hF9 => ?_)
 dsimp only
 obtain ⟨hL9, hn9, hm9⟩ := hF9
 simp only [] at hL9 hn9 hm9
 have hl9 : L9.length = L.length := by rw [← pln_len L9, hL9, pln_len]
 have hB9 : Bd (pln L9) := by rw [hL9]; exact hB
 have hT9 : TOk (j : Int) (pln L9) := by rw [hL9]; exact hT
 have hK9 : ∀ i, i < L9.length → ∀ y ∈ (nth L9 i).es, keyOk (j : Int) y.key = true ∧ y.key.length ≤ 1000000 := fun i hi y hy => tok_key hT9 i (by rw [pln_len]; exact hi) y (by rw [pln_nth hi]; exact hy)
 iterate 12 refine aS ?_
 refine s_cond rfl (fun h4 => ?_) fun h4 => ?_
 ·try simp only [decide_eq_true_eq] at h4
  iterate 3 refine aS ?_
  refine o_h (h_callF (Cs := [.blk b9 112 6 (tbV (j : Int) mo rm (some ⟨gn9, 0, none⟩) (L9).length c9), .blk gn9 102 (c9 * 3) ((L9).flatMap LNd.vals), .star ((L9).map (subN 26))]) rfl fn_58 rfl aPs (fun w1 h1 hf => c58 w1 b9 j mo rm gn9 c9 L9 x hf hn9 hm9 hj (by omega) hB9 hT9 hkey (by rw [hL9]; exact hins))) rfl (fun ⟨⟨g5, c5⟩, L5⟩ hF5 => ?_)
  dsimp only
  refine o_slot (show _ = Value.int .i64 (insE (j : Int) mo rm (pln L) x) from by rw [hL9]) ?_
  rw [hL9] at hF5
  obtain ⟨hL5, hn5, hm5⟩ := hF5
  simp only [] at hL5 hn5 hm5
  have hl5 : L5.length = (insT (j : Int) mo rm (pln L) x).length := by rw [← hL5, pln_len]
  iterate 8 refine aS ?_
  refine s_cond rfl (fun h5 => ?_) fun h5 => ?_
  ·try simp only [Bool.not_eq_true', decide_eq_false_iff_not] at h5
   exfalso; first | omega | (simp at h5; done) | (simp_all; done)
  try simp only [Bool.not_eq_false', decide_eq_true_eq] at h5
  iterate 2 refine aS ?_
  refine s_draw [12] mixed ?_
  refine dP 0 ?_
  refine dP 1 ?_
  refine dFa 2 ?_
  refine dLn 3 [[]] ?_
  refine dFa 4 ?_
  refine dLd 5 [[11]] ?_
  refine dP 6 ?_
  refine dP 7 ?_
  refine dFa 8 ?_
  refine dFa 9 ?_
  refine dLd 10 [[11]] ?_
  refine d_h 11 rfl (h_call rfl fn_59 rfl (fun w1 h1 => c59 w1 a (some ⟨g5, 0, none⟩) cap c5 L L5 (hs.later h1.nil) (HS.nt_at h1 aPk aPk) (by omega) (by omega) (sm_bd hB) (by rw [hL5]; exact hso))) (by kernel_rfl) (fun w h => h.ent aEt) rfl (fun ⟨qa, qc⟩ _ => ?_)
  refine dBa ?_
  refine dSt 12 ?_ (hl := (by simp only [setMany_length, List.length_set, List.length_cons, List.length_nil, List.length_map]; omega))
  refine dTu [] ?_
  refine dP 13 ?_
  refine dP 14 ?_
  refine dNi ?_
  exact s_retv (rs := [.cell 4 24, .tmp 5, .tmp 6]) rfl (.cell rfl sz_24 aPk rfl (.tmp rfl (.tmp rfl (.nil)))) (fun w' h' => ⟨(((g5, c5), L5), (qa, qc)), by simp only [retV]; rw [← hL5]; rfl, hL5, by rw [← hL5]; exact (nodes_join (h'.ent (Bs := [.blk g5 102 (c5 * 3) (L5.flatMap LNd.vals), .star (L5.map (subN 26)), .own (.slice qa ((chgN (pln L) (pln L5))).length qc) 3 1 ((chgN (pln L) (pln L5))).length (((chgN (pln L) (pln L5))).map fun i : Nat => Value.int .i64 (i : Int))]) aEt) hn5 hm5)⟩)
 try simp only [decide_eq_false_iff_not] at h4
 exfalso; first | omega | (simp at h4; done) | (simp_all; done)
theorem c35o (w : World) (j : Nat) (mo rm : Int) (a : Option Addr) (cap : Nat) (L : List LNd) (key : List UInt8) (hs : Nt w [] a L) (hB : Bd (pln L)) (hkl : ∀ i, i < L.length → ∀ x ∈ (nth L i).es, x.key.length ≤ 1000000) (h0 : (treE (⟨(j : Int), mo, rm, pln L⟩ : Tre)).2 = 0) (hkk : key.length ≤ 1000000) (hx0 : keyE (j : Int) key = 0) : Calls Tryz.prog 35 #[.agg #[.int .i64 (j : Int), .int .i64 mo, .int .i64 rm, .slice a L.length cap], .string (bs key)] w fun en w' => ∃ g : Option Addr × Nat, en = .returned (.tuple #[.slice g.1 (pathN (j : Int) (pln L) key).1.length g.2, .bool (pathN (j : Int) (pln L) key).2.2, .int .i64 0]) ∧ True ∧ HS w [] [.own (.slice g.1 ((pathN (j : Int) (pln L) key).1).length g.2) 3 1 ((pathN (j : Int) (pln L) key).1).length (((pathN (j : Int) (pln L) key).1).map fun i : Nat => Value.int .i64 (i : Int))] w' := by
 obtain ⟨hc0, hz0, hl0, hl120, hn0, _, _⟩ := treE_0 h0
 rw [show ((⟨(j : Int), mo, rm, pln L⟩ : Tre)).ns = pln L from rfl, pln_len] at hl0 hl120
 have hj : j ≤ 3 := by obtain ⟨j9, e9, hj9⟩ := col_ok hc0; have e8 : ((j : Nat) : Int) = (j9 : Int) := e9; omega
 have hT : TOk (j : Int) (pln L) := tok_of (t := (⟨(j : Int), mo, rm, pln L⟩ : Tre)) hn0
 have hmo := (sizE_0 hz0).1
 simp only [] at hmo
 have hkey : keyOk (j : Int) key = true := keyE_ok hx0
 refine enter (args := [_, _]) Tryz.func35 Tryz.ntmps35 rfl rfl (HS.refl w []) ?_
 iterate 2 refine aS ?_
 refine oBx fun b1 _ => ?_
 iterate 8 refine aS ?_
 refine o_h (h_call rfl fn_67 rfl (fun w1 h1 => c67k w1 j mo rm a cap L key (hs.later h1.nil) hB hkl hkk h0)) rfl (fun ⟨b9, ⟨gn9, c9⟩, L9⟩ hF9 => ?_)
 dsimp only
 obtain ⟨hL9, hn9, hm9⟩ := hF9
 simp only [] at hL9 hn9 hm9
 have hl9 : L9.length = L.length := by rw [← pln_len L9, hL9, pln_len]
 have hB9 : Bd (pln L9) := by rw [hL9]; exact hB
 have hT9 : TOk (j : Int) (pln L9) := by rw [hL9]; exact hT
 have hK9 : ∀ i, i < L9.length → ∀ y ∈ (nth L9 i).es, keyOk (j : Int) y.key = true ∧ y.key.length ≤ 1000000 := fun i hi y hy => tok_key hT9 i (by rw [pln_len]; exact hi) y (by rw [pln_nth hi]; exact hy)
 iterate 12 refine aS ?_
 refine s_cond rfl (fun h2 => ?_) fun h2 => ?_
 ·try simp only [Bool.not_eq_true', decide_eq_false_iff_not] at h2
  exfalso; first | omega | (simp at h2; done) | (simp_all; done)
 try simp only [Bool.not_eq_false', decide_eq_true_eq] at h2
 iterate 5 refine aS ?_
 refine o_h (h_call rfl fn_68 rfl (fun w1 h1 => c68 w1 b9 j mo rm (some ⟨gn9, 0, none⟩) c9 L9 key hj (by omega) hB9 hT9 hK9 hkey hkk (HS.nt_at h1 aPk aPk) (HS.tbr h1 aPk))) rfl (fun ⟨pa, pc⟩ _ => ?_)
 dsimp only
 rw [hL9]
 iterate 16 refine aS ?_
 exact s_retv (rs := [.tmp 4, .tmp 5, .tmp 6]) rfl (.tmp rfl (.tmp rfl (.tmp rfl (.nil)))) (fun w' h' => ⟨(pa, pc), rfl, trivial, (h'.of_kids aPk).ent aEt⟩)
theorem c25m (w : World) (j : Nat) (mo rm : Int) (a : Option Addr) (cap : Nat) (L : List LNd) (key : List UInt8) (hs : Nt w [] a L) (hB : Bd (pln L)) (hkl : ∀ i, i < L.length → ∀ x ∈ (nth L i).es, x.key.length ≤ 1000000) (h0 : (treE (⟨(j : Int), mo, rm, pln L⟩ : Tre)).2 = 0) (hkk : key.length ≤ 1000000) (hx0 : keyE (j : Int) key = 0) (hx : ¬ (pathN (j : Int) (pln L) key).2.2 = true) : Calls Tryz.prog 25 #[.agg #[.int .i64 (j : Int), .int .i64 mo, .int .i64 rm, .slice a L.length cap], .string (bs key)] w fun en w' => en = .returned (.tuple #[.agg #[.int .i64 0, .int .i64 0, .int .i64 0, .slice none 0 0], .slice none 0 0, .int .i64 6]) ∧ Below w.heap.size w w' := by
 obtain ⟨hc0, hz0, hl0, hl120, hn0, _, _⟩ := treE_0 h0
 rw [show ((⟨(j : Int), mo, rm, pln L⟩ : Tre)).ns = pln L from rfl, pln_len] at hl0 hl120
 have hj : j ≤ 3 := by obtain ⟨j9, e9, hj9⟩ := col_ok hc0; have e8 : ((j : Nat) : Int) = (j9 : Int) := e9; omega
 have hT : TOk (j : Int) (pln L) := tok_of (t := (⟨(j : Int), mo, rm, pln L⟩ : Tre)) hn0
 have hmo := (sizE_0 hz0).1
 simp only [] at hmo
 have hkey : keyOk (j : Int) key = true := keyE_ok hx0
 refine enter (args := [_, _]) Tryz.func25 Tryz.ntmps25 rfl rfl (HS.refl w []) ?_
 iterate 2 refine aS ?_
 refine oBx fun b1 _ => ?_
 refine oAl (fun b2 _ => ?_) zr_24
 iterate 7 refine aS ?_
 refine o_h (h_call rfl fn_67 rfl (fun w1 h1 => c67k w1 j mo rm a cap L key (hs.later h1.nil) hB hkl hkk h0)) rfl (fun ⟨b9, ⟨gn9, c9⟩, L9⟩ hF9 => ?_)
 dsimp only
 obtain ⟨hL9, hn9, hm9⟩ := hF9
 simp only [] at hL9 hn9 hm9
 have hl9 : L9.length = L.length := by rw [← pln_len L9, hL9, pln_len]
 have hB9 : Bd (pln L9) := by rw [hL9]; exact hB
 have hT9 : TOk (j : Int) (pln L9) := by rw [hL9]; exact hT
 have hK9 : ∀ i, i < L9.length → ∀ y ∈ (nth L9 i).es, keyOk (j : Int) y.key = true ∧ y.key.length ≤ 1000000 := fun i hi y hy => tok_key hT9 i (by rw [pln_len]; exact hi) y (by rw [pln_nth hi]; exact hy)
 iterate 12 refine aS ?_
 refine s_cond rfl (fun h3 => ?_) fun h3 => ?_
 ·try simp only [Bool.not_eq_true', decide_eq_false_iff_not] at h3
  exfalso; first | omega | (simp at h3; done) | (simp_all; done)
 try simp only [Bool.not_eq_false', decide_eq_true_eq] at h3
 iterate 5 refine aS ?_
 refine o_h (h_call rfl fn_68 rfl (fun w1 h1 => c68 w1 b9 j mo rm (some ⟨gn9, 0, none⟩) c9 L9 key hj (by omega) hB9 hT9 hK9 hkey hkk (HS.nt_at h1 aPk aPk) (HS.tbr h1 aPk))) rfl (fun ⟨pa, pc⟩ _ => ?_)
 dsimp only
 rw [hL9]
 iterate 14 refine aS ?_
 refine s_cond rfl (fun h4 => ?_) fun h4 => ?_
 ·try simp only [Bool.not_eq_true'] at h4
  iterate 2 refine aS ?_
  refine o_p (p_build (cs := [_, _, _, _]) rfl rfl pl_24 zr_24 rfl) rfl ?_
  refine oSt ?_
  iterate 3 refine aS ?_
  exact s_retv (rs := [.cell 4 24, .tmp 5, .tmp 6]) rfl (.cell rfl sz_24 aPk rfl (.tmp rfl (.tmp rfl (.nil)))) (fun w' h' => ⟨rfl, h'.below⟩)
 try simp only [Bool.not_eq_false'] at h4
 exfalso; first | omega | (simp at h4; done) | (simp_all; done)
theorem c25o (w : World) (j : Nat) (mo rm : Int) (a : Option Addr) (cap : Nat) (L : List LNd) (key : List UInt8) (hs : Nt w [] a L) (hB : Bd (pln L)) (hkl : ∀ i, i < L.length → ∀ x ∈ (nth L i).es, x.key.length ≤ 1000000) (h0 : (treE (⟨(j : Int), mo, rm, pln L⟩ : Tre)).2 = 0) (hkk : key.length ≤ 1000000) (hx0 : keyE (j : Int) key = 0) (hx : (pathN (j : Int) (pln L) key).2.2 = true) (hrm : RemOk mo rm (pln L) (pathN (j : Int) (pln L) key).1 (pathN (j : Int) (pln L) key).2.1) (hso : Sm 100000 (remN mo rm (pln L) (pathN (j : Int) (pln L) key).1 (pathN (j : Int) (pln L) key).2.1)) (hlo : (remN mo rm (pln L) (pathN (j : Int) (pln L) key).1 (pathN (j : Int) (pln L) key).2.1).length ≤ 1000) : Calls Tryz.prog 25 #[.agg #[.int .i64 (j : Int), .int .i64 mo, .int .i64 rm, .slice a L.length cap], .string (bs key)] w fun en w' => ∃ g : ((Nat × Nat) × List LNd) × (Option Addr × Nat), en = .returned (.tuple #[.agg #[.int .i64 (j : Int), .int .i64 mo, .int .i64 rm, .slice (some ⟨g.1.1.1, 0, none⟩) g.1.2.length g.1.1.2], .slice g.2.1 (chgN (pln L) (remN mo rm (pln L) (pathN (j : Int) (pln L) key).1 (pathN (j : Int) (pln L) key).2.1)).length g.2.2, .int .i64 0]) ∧ pln g.1.2 = (remN mo rm (pln L) (pathN (j : Int) (pln L) key).1 (pathN (j : Int) (pln L) key).2.1) ∧ HS w [] [.nodes 26 102 (some ⟨g.1.1.1, 0, none⟩) g.1.1.2 g.1.2, .own (.slice g.2.1 ((chgN (pln L) (remN mo rm (pln L) (pathN (j : Int) (pln L) key).1 (pathN (j : Int) (pln L) key).2.1))).length g.2.2) 3 1 ((chgN (pln L) (remN mo rm (pln L) (pathN (j : Int) (pln L) key).1 (pathN (j : Int) (pln L) key).2.1))).length (((chgN (pln L) (remN mo rm (pln L) (pathN (j : Int) (pln L) key).1 (pathN (j : Int) (pln L) key).2.1))).map fun i : Nat => Value.int .i64 (i : Int))] w' := by
 obtain ⟨hc0, hz0, hl0, hl120, hn0, _, _⟩ := treE_0 h0
 rw [show ((⟨(j : Int), mo, rm, pln L⟩ : Tre)).ns = pln L from rfl, pln_len] at hl0 hl120
 have hj : j ≤ 3 := by obtain ⟨j9, e9, hj9⟩ := col_ok hc0; have e8 : ((j : Nat) : Int) = (j9 : Int) := e9; omega
 have hT : TOk (j : Int) (pln L) := tok_of (t := (⟨(j : Int), mo, rm, pln L⟩ : Tre)) hn0
 have hmo := (sizE_0 hz0).1
 simp only [] at hmo
 have hkey : keyOk (j : Int) key = true := keyE_ok hx0
 refine enter (args := [_, _]) Tryz.func25 Tryz.ntmps25 rfl rfl (HS.refl w []) ?_
 iterate 2 refine aS ?_
 refine oBx fun b1 _ => ?_
 refine oAl (fun b2 _ => ?_) zr_24
 iterate 7 refine aS ?_
 refine o_h (h_call rfl fn_67 rfl (fun w1 h1 => c67k w1 j mo rm a cap L key (hs.later h1.nil) hB hkl hkk h0)) rfl (fun ⟨b9, ⟨gn9, c9⟩, L9⟩ hF9 => ?_)
 dsimp only
 obtain ⟨hL9, hn9, hm9⟩ := hF9
 simp only [] at hL9 hn9 hm9
 have hl9 : L9.length = L.length := by rw [← pln_len L9, hL9, pln_len]
 have hB9 : Bd (pln L9) := by rw [hL9]; exact hB
 have hT9 : TOk (j : Int) (pln L9) := by rw [hL9]; exact hT
 have hK9 : ∀ i, i < L9.length → ∀ y ∈ (nth L9 i).es, keyOk (j : Int) y.key = true ∧ y.key.length ≤ 1000000 := fun i hi y hy => tok_key hT9 i (by rw [pln_len]; exact hi) y (by rw [pln_nth hi]; exact hy)
 iterate 12 refine aS ?_
 refine s_cond rfl (fun h3 => ?_) fun h3 => ?_
 ·try simp only [Bool.not_eq_true', decide_eq_false_iff_not] at h3
  exfalso; first | omega | (simp at h3; done) | (simp_all; done)
 try simp only [Bool.not_eq_false', decide_eq_true_eq] at h3
 iterate 5 refine aS ?_
 refine o_h (h_call rfl fn_68 rfl (fun w1 h1 => c68 w1 b9 j mo rm (some ⟨gn9, 0, none⟩) c9 L9 key hj (by omega) hB9 hT9 hK9 hkey hkk (HS.nt_at h1 aPk aPk) (HS.tbr h1 aPk))) rfl (fun ⟨pa, pc⟩ _ => ?_)
 dsimp only
 rw [hL9]
 iterate 14 refine aS ?_
 refine s_cond rfl (fun h4 => ?_) fun h4 => ?_
 ·try simp only [Bool.not_eq_true'] at h4
  exfalso; first | omega | (simp at h4; done) | (simp_all; done)
 try simp only [Bool.not_eq_false'] at h4
 iterate 6 refine aS ?_
 refine o_h (h_callF (Cs := [.blk b9 112 6 (tbV (j : Int) mo rm (some ⟨gn9, 0, none⟩) (L9).length c9), .blk gn9 102 (c9 * 3) ((L9).flatMap LNd.vals), .star ((L9).map (subN 26)), .kids pa pc (iN (pathN (j : Int) (pln L) key).1)]) rfl fn_69 rfl aPs (fun w1 h1 hf => c69 w1 b9 j mo rm gn9 c9 L9 (pathN (j : Int) (pln L) key).1 pa pc (pathN (j : Int) (pln L) key).2.1 hf hn9 hm9 (by rw [hL9]; exact hrm))) rfl (fun ⟨⟨g5, c5⟩, L5⟩ hF5 => ?_)
 iterate 2 refine aS ?_
 refine s_weaken (L' := [(2, _), (4, _), (5, _), (6, _), (7, _)]) aSx (fun _ h => h) ?_
 dsimp only
 rw [hL9] at hF5
 obtain ⟨hL5, hn5, hm5⟩ := hF5
 simp only [] at hL5 hn5 hm5
 have hl5 : L5.length = (remN mo rm (pln L) (pathN (j : Int) (pln L) key).1 (pathN (j : Int) (pln L) key).2.1).length := by rw [← hL5, pln_len]
 refine s_draw [12] mixed ?_
 refine dP 0 ?_
 refine dP 1 ?_
 refine dFa 2 ?_
 refine dLn 3 [[]] ?_
 refine dFa 4 ?_
 refine dLd 5 [[11]] ?_
 refine dP 6 ?_
 refine dP 7 ?_
 refine dFa 8 ?_
 refine dFa 9 ?_
 refine dLd 10 [[11]] ?_
 refine d_h 11 rfl (h_call rfl fn_59 rfl (fun w1 h1 => c59 w1 a (some ⟨g5, 0, none⟩) cap c5 L L5 (hs.later h1.nil) (HS.nt_at h1 aPk aPk) (by omega) (by omega) (sm_bd hB) (by rw [hL5]; exact hso))) (by kernel_rfl) (fun w h => h.ent aEt) rfl (fun ⟨qa, qc⟩ _ => ?_)
 refine dBa ?_
 refine dSt 12 ?_ (hl := (by simp only [setMany_length, List.length_set, List.length_cons, List.length_nil, List.length_map]; omega))
 refine dTu [] ?_
 refine dP 13 ?_
 refine dP 14 ?_
 refine dNi ?_
 exact s_retv (rs := [.cell 4 24, .tmp 5, .tmp 6]) rfl (.cell rfl sz_24 aPk rfl (.tmp rfl (.tmp rfl (.nil)))) (fun w' h' => ⟨(((g5, c5), L5), (qa, qc)), by simp only [retV]; rw [← hL5]; rfl, hL5, by rw [← hL5]; exact (nodes_join (h'.ent (Bs := [.blk g5 102 (c5 * 3) (L5.flatMap LNd.vals), .star (L5.map (subN 26)), .own (.slice qa ((chgN (pln L) (pln L5))).length qc) 3 1 ((chgN (pln L) (pln L5))).length (((chgN (pln L) (pln L5))).map fun i : Nat => Value.int .i64 (i : Int))]) aEt) hn5 hm5)⟩)
theorem fn_45 : isFn Tryz.prog 45 = true := by kernel_rfl
theorem fn_60 : isFn Tryz.prog 60 = true := by kernel_rfl
theorem c45 (w : World) (a : Option Addr) (cap : Nat) (l : List TEnt) (hs : Rw TEnt.vals 2 w [] a l) (hl : l.length ≤ 100000) : Calls Tryz.prog 45 #[.slice a l.length cap] w fun en w' => ∃ g : Option Addr × Nat, en = .returned (.slice g.1 l.length g.2) ∧ True ∧ HS w [] [.own (.slice g.1 l.length g.2) 26 2 l.length (l.flatMap TEnt.vals)] w' := by
 refine enter (args := [_]) Tryz.func45 Tryz.ntmps45 rfl rfl (HS.refl w []) ?_
 iterate 6 refine aS ?_
 refine o_h (h_buildSlice0 rfl sl_77) rfl (fun b1 _ => ?_)
 refine aS ?_
 refine o_h (h_appendS (l.flatMap TEnt.vals) rfl rfl rfl sl_77 Tryz.underlying77 zr_26 rfl aPk (fun w h => Rw.src ev2 hs h) (flat_length ev2 _) (flat_one ev1 _) (by omega) (by simp only [maxLen]; omega)) rfl (fun b2 _ => ?_)
 iterate 2 refine aS ?_
 exact s_retv (rs := [.tmp 2]) rfl (.tmp rfl (.nil)) (fun w' h' => ⟨b2, by simp only [retV, Nat.zero_add], trivial, by have h2 := h'; simp only [Nat.zero_add, List.nil_append] at h2; exact h2.ent aEt⟩)
theorem c60 (w : World) (a : Option Addr) (cap : Nat) (l : List Int) (hs : Rw inV 1 w [] a l) (hl : l.length ≤ 100000) : Calls Tryz.prog 60 #[.slice a l.length cap] w fun en w' => ∃ g : Option Addr × Nat, en = .returned (.slice g.1 l.length g.2) ∧ True ∧ HS w [] [.own (.slice g.1 l.length g.2) 3 1 l.length (l.flatMap inV)] w' := by
 refine enter (args := [_]) Tryz.func60 Tryz.ntmps60 rfl rfl (HS.refl w []) ?_
 iterate 6 refine aS ?_
 refine o_h (h_buildSlice0 rfl sl_30) rfl (fun b1 _ => ?_)
 refine aS ?_
 refine o_h (h_appendS (l.flatMap inV) rfl rfl rfl sl_30 Tryz.underlying30 zr_3 rfl aPk (fun w h => Rw.src iv1 hs h) (flat_length iv1 _) (flat_one iv1c _) (by omega) (by simp only [maxLen]; omega)) rfl (fun b2 _ => ?_)
 iterate 2 refine aS ?_
 exact s_retv (rs := [.tmp 2]) rfl (.tmp rfl (.nil)) (fun w' h' => ⟨b2, by simp only [retV, Nat.zero_add], trivial, by have h2 := h'; simp only [Nat.zero_add, List.nil_append] at h2; exact h2.ent aEt⟩)
set_option maxHeartbeats 400000 in
theorem c17 (w : World) (co mo rm : Int) (a : Option Addr) (cap : Nat) (L : List LNd) (hs : Nt w [] a L) (hl : L.length ≤ 1000) (hsm : Sm 1000 (pln L)) : Calls Tryz.prog 17 #[.agg #[.int .i64 co, .int .i64 mo, .int .i64 rm, .slice a L.length cap]] w fun en w' => ∃ g : (Option Addr × Nat) × List LNd, en = .returned (.agg #[.int .i64 co, .int .i64 mo, .int .i64 rm, .slice g.1.1 g.2.length g.1.2]) ∧ pln g.2 = pln L ∧ HS w [] [.nodes 26 102 g.1.1 g.1.2 g.2] w' := by
 refine enter (args := [_]) Tryz.func17 Tryz.ntmps17 rfl rfl (HS.refl w []) ?_
 iterate 2 refine aS ?_
 refine oBx fun b1 _ => ?_
 refine oAl (fun b2 _ => ?_) zr_24
 iterate 9 refine aS ?_
 refine o_p (p_build (cs := [_, _, _, _]) rfl rfl pl_24 zr_24 rfl) rfl ?_
 refine oAl (fun b3 _ => ?_) zr_24
 refine oSt ?_
 iterate 7 refine aS ?_
 refine s_loopI (α := Nat × (Option Addr × Nat) × List LNd) [4, 5, 13, 14, 15, 16, 17, 18, 19, 20, 21, 22, 23, 24, 25, 26, 27, 28, 29, 30, 31, 32, 33, 34, 35, 36, 37, 38] (fun x => [(4, .int .i64 (x.1 : Int))]) (fun x => HS w [] [.own (.slice x.2.1.1 (x.2.2).length x.2.1.2) 102 3 (x.2.2).length ((x.2.2).flatMap LNd.vals), .star ((x.2.2).map (subN 26)), .blk b3 24 4 [.int .i64 co, .int .i64 mo, .int .i64 rm, .slice x.2.1.1 (x.2.2).length x.2.1.2], .blk b2 24 4 [.int .i64 0, .int .i64 0, .int .i64 0, .slice none 0 0], .blk b1 24 4 [.int .i64 co, .int .i64 mo, .int .i64 rm, .slice a L.length cap]]) (fun x => x.1 ≤ L.length ∧ x.2.2.length = x.1 ∧ pln x.2.2 = (pln L).take x.1) (fun x => L.length - x.1) (0, (none, 0), []) ⟨Nat.zero_le _, rfl, rfl⟩ aSx (fun w h => ((h.own_nil 102 3).star_nil).ent aEt) (fun ⟨k, ⟨ga, gc⟩, D⟩ hx => ?_)
 dsimp only
 obtain ⟨hk1, hk2, hk3⟩ := hx
 simp only [] at hk1 hk2 hk3
 iterate 9 refine aS ?_
 refine s_cond rfl (fun h4 => ?_) fun h4 => ?_
 ·try simp only [decide_eq_true_eq] at h4
  have hkl : k < L.length := by omega
  have hsk := hsm k
  rw [pln_nth hkl] at hsk
  simp only [LNd.pl] at hsk
  iterate 8 refine aS ?_
  refine o_p (p_indexAddr rfl rfl rfl sl_22 (k) (by omega) (by omega) (Rw.some hs.1 (by omega))) rfl ?_
  refine o_q (q_load_oldn _ rfl rfl sz_102 rfl (Rw.rd hs.1 hkl)) rfl ?_
  refine oAl (fun b5 _ => ?_) zr_102
  refine oSt ?_
  refine aS ?_
  refine s_draw [12, 14] mixed ?_
  refine dFa 0 ?_
  refine dLd 1 [[], []] ?_
  refine dFa 2 ?_
  refine dLd 3 [[11, 10], []] ?_
  refine dFa 4 ?_
  refine dLd 5 [[9, 6], []] ?_
  refine dFa 7 ?_
  refine dLd 8 [[9], []] ?_
  refine d_h 6 rfl (h_call rfl fn_45 rfl (fun w1 h1 => c45 w1 (nth L k).ea (nth L k).ec (nth L k).es ((hs.es hkl).later h1) (by omega))) (by kernel_rfl) (fun w h => h.ent aEt) rfl (fun b6 _ => ?_)
  refine dBa ?_
  refine d_h 9 rfl (h_call rfl fn_60 rfl (fun w1 h1 => c60 w1 (nth L k).ca (nth L k).cc (nth L k).cs ((hs.cs hkl).later h1) (by omega))) (by kernel_rfl) (fun w h => h.ent aEt) rfl (fun b7 _ => ?_)
  refine dBa ?_
  refine d_p 10 rfl (p_build (cs := [_, _, _]) rfl rfl pl_102 zr_102 rfl) (by kernel_rfl) rfl rfl ?_
  refine d_h 11 rfl (h_buildSlice (cs := [_, _, _]) rfl rfl sl_22 zr_102 rfl rfl rfl) (by kernel_rfl) (fun w h => h.ent aEt) rfl (fun b8 _ => ?_)
  refine dBa ?_
  refine d_h 12 rfl (h_appendS (LNd.vals (⟨(nth L k).us, b6.1, b6.2, (nth L k).es, b7.1, b7.2, (nth L k).cs⟩ : LNd)) rfl rfl rfl sl_22 Tryz.underlying22 zr_102 rfl aPk (src_blk aPk) rfl (nv1 _) (by omega) (by simp only [maxLen]; omega)) (by kernel_rfl) (fun w h => h.ent aEt) rfl (fun b9 _ => ?_)
  refine dTu [14] ?_
  refine dFa 13 ?_
  refine dSt 14 ?_ (hl := (by simp only [setMany_length, List.length_set, List.length_cons, List.length_nil, List.length_map]; omega))
  refine dTu [] ?_
  refine dNi ?_
  refine aS ?_
  refine s_weaken (L' := [(0, _), (1, _), (2, _), (3, _), (4, _), (6, _), (7, _), (8, _), (9, _), (10, _), (11, _), (12, _)]) aSx (fun _ h => h) ?_
  iterate 3 refine aS ?_
  try refine oWr ?_
  iterate 2 refine aS ?_
  exact s_backI (k + 1, (b9.1, b9.2), D ++ [⟨(nth L k).us, b6.1, b6.2, (nth L k).es, b7.1, b7.2, (nth L k).cs⟩]) (by (try simp only []); omega) ⟨by (try simp only []); omega, by simp [hk2], pln_take hkl hk3 rfl⟩ aSx (fun w h => by have h2 := HS.sub_app (sub := subN 26) (l := D) (x := (⟨(nth L k).us, b6.1, b6.2, (nth L k).es, b7.1, b7.2, (nth L k).cs⟩ : LNd)) (HS.star_close (Bs := [_, _]) (h.ent (Bs := [.own (.slice b6.1 (nth L k).es.length b6.2) 26 2 (nth L k).es.length ((nth L k).es.flatMap TEnt.vals), .own (.slice b7.1 (nth L k).cs.length b7.2) 3 1 (nth L k).cs.length ((nth L k).cs.flatMap inV), .star (D.map (subN 26)), .own (.slice b9.1 (D.length + 1) b9.2) 102 3 (D.length + 1) (D.flatMap LNd.vals ++ LNd.vals (⟨(nth L k).us, b6.1, b6.2, (nth L k).es, b7.1, b7.2, (nth L k).cs⟩ : LNd)), .blk b3 24 4 [.int .i64 co, .int .i64 mo, .int .i64 rm, .slice b9.1 (D.length + 1) b9.2], .blk b2 24 4 [.int .i64 0, .int .i64 0, .int .i64 0, .slice none 0 0], .blk b1 24 4 [.int .i64 co, .int .i64 mo, .int .i64 rm, .slice a L.length cap]]) aEt)); simp only [List.length_append, List.length_singleton, List.flatMap_append, List.flatMap_singleton]; exact h2.ent aEt)
 try simp only [decide_eq_false_iff_not] at h4
 obtain rfl : k = L.length := by omega
 have hD : pln D = pln L := by rw [hk3, ← pln_len L, List.take_length]
 refine s_exit_to rfl ?_
 iterate 3 refine aS ?_
 refine oSt ?_
 refine aS ?_
 exact s_retv (rs := [.cell 2 24]) rfl (.cell rfl sz_24 aPk rfl (.nil)) (fun w' h' => ⟨((ga, gc), D), by simp only [retV]; rw [hk2]; rfl, hD, by have h3 := HS.row_shut (a := ga) (cap := gc) (l := D) (sub := subN 26) (t := 102) (sz := 3) (vals := LNd.vals) (h'.ent (Bs := [.own (.slice ga D.length gc) 102 3 D.length (D.flatMap LNd.vals), .star (D.map (subN 26))]) aEt) rfl rfl; exact h3⟩)
theorem fn_33 : isFn Tryz.prog 33 = true := by kernel_rfl
theorem c23 (w : World) (a b : Option Addr) (c d : Nat) (l m : List Int) (hs : Rw inV 1 w [] a l) (ht : Rw inV 1 w [] b m) (hl : l.length ≤ 100000) (hm : m.length ≤ 100000) : Calls Tryz.prog 23 #[.slice a l.length c, .slice b m.length d] w fun en w' => en = .returned (.bool (decide (l = m))) ∧ Below w.heap.size w w' := by
 refine enter (args := [_, _]) Tryz.func23 Tryz.ntmps23 rfl rfl (HS.refl w []) ?_
 iterate 13 refine aS ?_
 refine s_cond rfl (fun h1 => ?_) fun h1 => ?_
 ·try simp only [Bool.not_eq_true', decide_eq_false_iff_not] at h1
  have hn9 : l ≠ m := fun e => by have hq := h1; rw [e] at hq; simp at hq
  iterate 4 refine aS ?_
  exact s_retv (rs := [.tmp 4]) rfl (.tmp rfl (.nil)) (fun w' h' => ⟨by rw [decide_eq_false hn9]; rfl, h'.below⟩)
 try simp only [Bool.not_eq_false', decide_eq_true_eq] at h1
 have hlm : l.length = m.length := by have hq := h1; omega
 iterate 7 refine aS ?_
 refine s_loopI (α := Nat) [4, 5, 11, 12, 13, 14, 15, 16, 17, 18, 19, 20, 21, 22, 23, 24, 25] (fun k => [(5, .int .i64 (k : Int))]) (fun _ => HS w [] []) (fun k => k ≤ l.length ∧ ∀ j, j < k → nth l j = nth m j) (fun k => l.length - k) 0 ⟨Nat.zero_le _, fun j h => absurd h (Nat.not_lt_zero j)⟩ aSx (fun w h => h.ent aEt) (fun k hx => ?_)
 obtain ⟨hk1, hk3⟩ := hx
 iterate 8 refine aS ?_
 refine s_cond rfl (fun h2 => ?_) fun h2 => ?_
 ·try simp only [decide_eq_true_eq] at h2
  have hk : k < l.length := by omega
  have hk2 : k < m.length := by omega
  iterate 4 refine aS ?_
  refine s_draw [] mixed ?_
  refine dP 0 ?_
  refine dP 1 ?_
  refine d_p 2 rfl (p_indexAddr rfl rfl rfl sl_30 (k) (by omega) (by omega) (Rw.some hs (by omega))) (by kernel_rfl) rfl rfl ?_
  refine d_q 3 [] rfl (q_load_old rfl rfl sz_3 ((hs.rdj 0 (by omega) rfl))) (by kernel_rfl) (by kernel_rfl) (by kernel_rfl) rfl ?_
  refine dP 4 ?_
  refine dP 5 ?_
  refine d_p 6 rfl (p_indexAddr rfl rfl rfl sl_30 (k) (by omega) (by omega) (Rw.some ht (by omega))) (by kernel_rfl) rfl rfl ?_
  refine d_q 7 [] rfl (q_load_old rfl rfl sz_3 ((ht.rdj 0 (by omega) rfl))) (by kernel_rfl) (by kernel_rfl) (by kernel_rfl) rfl ?_
  refine dP 8 ?_
  refine dNi ?_
  refine s_cond rfl (fun h3 => ?_) fun h3 => ?_
  ·try simp only [Bool.not_eq_true', decide_eq_false_iff_not] at h3
   have hn9 : l ≠ m := fun e => by have hq := h3; rw [e] at hq; simp at hq
   iterate 4 refine aS ?_
   exact s_retv (rs := [.tmp 4]) rfl (.tmp rfl (.nil)) (fun w' h' => ⟨by rw [decide_eq_false hn9]; rfl, h'.below⟩)
  try simp only [Bool.not_eq_false', decide_eq_true_eq] at h3
  have he9 : nth l k = nth m k := by have hq := h3; exact hq
  iterate 5 refine aS ?_
  try refine oWr ?_
  iterate 2 refine aS ?_
  exact s_backI (k + 1) (by omega) ⟨by omega, fun j hj => (Nat.lt_or_ge j k).elim (hk3 j) (fun h9 => by obtain rfl : j = k := (by omega); exact he9)⟩ aSx (fun w h => h.ent aEt)
 try simp only [decide_eq_false_iff_not] at h2
 have hl9 : l = m := list_ext_nth hlm fun j hj => hk3 j (by omega)
 refine s_exit_to rfl ?_
 iterate 4 refine aS ?_
 exact s_retv (rs := [.tmp 4]) rfl (.tmp rfl (.nil)) (fun w' h' => ⟨by rw [decide_eq_true hl9]; rfl, h'.below⟩)
theorem c62 (w : World) (a : Option Addr) (cap : Nat) (l : List TEnt) (i : Nat) (x : TEnt) (hs : Rw TEnt.vals 2 w [] a l) (hl : l.length ≤ 100000) (hi : i ≤ l.length) (hlc : l.length ≤ cap) : Calls Tryz.prog 62 #[.slice a l.length cap, .int .i64 (i : Int), .agg #[.string (bs x.key), .string (bs x.val)]] w fun en w' => ∃ g : Option Addr × Nat, en = .returned (.slice g.1 (insAt l i x).length g.2) ∧ True ∧ HS w [] [.own (.slice g.1 (insAt l i x).length g.2) 26 2 (insAt l i x).length ((insAt l i x).flatMap TEnt.vals)] w' := by
 refine enter (args := [_, _, _]) Tryz.func62 Tryz.ntmps62 rfl rfl (HS.refl w []) ?_
 iterate 2 refine aS ?_
 refine oBx fun b1 _ => ?_
 iterate 4 refine aS ?_
 refine o_h (h_buildSlice0 rfl sl_77) rfl (fun b2 _ => ?_)
 iterate 2 refine aS ?_
 refine o_p (p_slice _ _ 0 i rfl rfl sl_77 rfl ⟨_, _, rfl, rfl⟩ (by omega) (by omega)) rfl ?_
 refine o_h (h_appendS ((l.take i).flatMap TEnt.vals) rfl rfl rfl sl_77 Tryz.underlying77 zr_26 rfl aPk (fun w h => Rw.src ev2 (rw_take (Rw.cut (i := 0) hs hlc) i) h) (by rw [flat_length ev2, List.length_take, Nat.min_eq_left hi]; first | rfl | omega) (flat_one ev1 _) (by omega) (by simp only [maxLen]; omega)) rfl (fun b3 _ => ?_)
 iterate 3 refine aS ?_
 refine s_draw [3, 7] mixed ?_
 refine dP 0 ?_
 refine dLn 1 [[2], [3, 2]] ?_
 refine dP 4 ?_
 refine dP 5 ?_
 refine d_p 6 rfl (p_slice _ _ i l.length rfl rfl sl_77 ⟨_, _, rfl, rfl⟩ rfl (by omega) (by omega)) (by kernel_rfl) rfl rfl ?_
 refine d_h 2 rfl (h_buildSlice (cs := [_, _]) rfl rfl sl_77 zr_26 rfl rfl rfl) (by kernel_rfl) (fun w h => h.ent aEt) rfl (fun b4 _ => ?_)
 refine dBa ?_
 refine d_h 3 rfl (h_appendS (TEnt.vals x) rfl rfl rfl sl_77 Tryz.underlying77 zr_26 rfl aPk (src_blk aPk) rfl (ev1 _) (by omega) (by simp only [maxLen]; omega)) (by kernel_rfl) (fun w h => h.ent aEt) rfl (fun b5 _ => ?_)
 refine dTu [7] ?_
 refine d_h 7 rfl (h_appendS ((l.drop i).flatMap TEnt.vals) rfl rfl rfl sl_77 Tryz.underlying77 zr_26 rfl aPk (fun w h => Rw.src ev2 (Rw.cut hs hlc) h) (by rw [flat_length ev2, List.length_drop]) (flat_one ev1 _) (by omega) (by simp only [maxLen]; omega)) (by kernel_rfl) (fun w h => h.ent aEt) rfl (fun b6 _ => ?_)
 refine dTu [] ?_
 refine dP 8 ?_
 refine dNi ?_
 exact s_retv (rs := [.tmp 6]) rfl (.tmp rfl (.nil)) (fun w' h' => ⟨b6, by simp only [retV]; congr 2; rw [ins_len hi]; omega, trivial, by have h2 := h'; rw [show 0 + (i - 0) + 1 + (l.length - i) = l.length + 1 by omega, List.nil_append] at h2; rw [ins_len hi, show (insAt l i x).flatMap TEnt.vals = (l.take i).flatMap TEnt.vals ++ TEnt.vals x ++ (l.drop i).flatMap TEnt.vals by simp [insAt]]; exact h2.ent aEt⟩)
theorem c101 (w : World) (a : Option Addr) (cap : Nat) (l : List Int) (i : Nat) (x : Int) (hs : Rw inV 1 w [] a l) (hl : l.length ≤ 100000) (hi : i ≤ l.length) (hlc : l.length ≤ cap) : Calls Tryz.prog 101 #[.slice a l.length cap, .int .i64 (i : Int), .int .i64 x] w fun en w' => ∃ g : Option Addr × Nat, en = .returned (.slice g.1 (insAt l i x).length g.2) ∧ True ∧ HS w [] [.own (.slice g.1 (insAt l i x).length g.2) 3 1 (insAt l i x).length ((insAt l i x).flatMap inV)] w' := by
 refine enter (args := [_, _, _]) Tryz.func101 Tryz.ntmps101 rfl rfl (HS.refl w []) ?_
 iterate 6 refine aS ?_
 refine o_h (h_buildSlice0 rfl sl_30) rfl (fun b1 _ => ?_)
 iterate 2 refine aS ?_
 refine o_p (p_slice _ _ 0 i rfl rfl sl_30 rfl ⟨_, _, rfl, rfl⟩ (by omega) (by omega)) rfl ?_
 refine o_h (h_appendS ((l.take i).flatMap inV) rfl rfl rfl sl_30 Tryz.underlying30 zr_3 rfl aPk (fun w h => Rw.src iv1 (rw_take (Rw.cut (i := 0) hs hlc) i) h) (by rw [flat_length iv1, List.length_take, Nat.min_eq_left hi]; first | rfl | omega) (flat_one iv1c _) (by omega) (by simp only [maxLen]; omega)) rfl (fun b2 _ => ?_)
 iterate 3 refine aS ?_
 refine s_draw [3, 7] mixed ?_
 refine dP 0 ?_
 refine dP 1 ?_
 refine dP 4 ?_
 refine dP 5 ?_
 refine d_p 6 rfl (p_slice _ _ i l.length rfl rfl sl_30 ⟨_, _, rfl, rfl⟩ rfl (by omega) (by omega)) (by kernel_rfl) rfl rfl ?_
 refine d_h 2 rfl (h_buildSlice (cs := [_]) rfl rfl sl_30 zr_3 rfl rfl rfl) (by kernel_rfl) (fun w h => h.ent aEt) rfl (fun b3 _ => ?_)
 refine dBa ?_
 refine d_h 3 rfl (h_appendS (inV x) rfl rfl rfl sl_30 Tryz.underlying30 zr_3 rfl aPk (src_blk aPk) rfl (iv1c _) (by omega) (by simp only [maxLen]; omega)) (by kernel_rfl) (fun w h => h.ent aEt) rfl (fun b4 _ => ?_)
 refine dTu [7] ?_
 refine d_h 7 rfl (h_appendS ((l.drop i).flatMap inV) rfl rfl rfl sl_30 Tryz.underlying30 zr_3 rfl aPk (fun w h => Rw.src iv1 (Rw.cut hs hlc) h) (by rw [flat_length iv1, List.length_drop]) (flat_one iv1c _) (by omega) (by simp only [maxLen]; omega)) (by kernel_rfl) (fun w h => h.ent aEt) rfl (fun b5 _ => ?_)
 refine dTu [] ?_
 refine dP 8 ?_
 refine dNi ?_
 exact s_retv (rs := [.tmp 6]) rfl (.tmp rfl (.nil)) (fun w' h' => ⟨b5, by simp only [retV]; congr 2; rw [ins_len hi]; omega, trivial, by have h2 := h'; rw [show 0 + (i - 0) + 1 + (l.length - i) = l.length + 1 by omega, List.nil_append] at h2; rw [ins_len hi, show (insAt l i x).flatMap inV = (l.take i).flatMap inV ++ inV x ++ (l.drop i).flatMap inV by simp [insAt]]; exact h2.ent aEt⟩)
theorem c61 (w : World) (j : Nat) (mo rm : Int) (a : Option Addr) (cap : Nat) (L : List LNd) (i : Nat) (key : List UInt8) (hj : j ≤ 3) (hi : i < L.length) (hs : Nt w [] a L) (hl : L.length ≤ 1000) (hel : (nth L i).es.length ≤ 1000) (hK : ∀ y ∈ (nth L i).es, keyOk (j : Int) y.key = true ∧ y.key.length ≤ 1000000) (hk : keyOk (j : Int) key = true) (hkl : key.length ≤ 1000000) : Calls Tryz.prog 61 #[.agg #[.int .i64 (j : Int), .int .i64 mo, .int .i64 rm, .slice a L.length cap], .int .i64 (i : Int), .string (bs key)] w fun en w' => en = .returned (.tuple #[.int .i64 ((plc (j : Int) (nth L i).es key) : Int), .bool (fnd (j : Int) (nth L i).es key)]) ∧ Below w.heap.size w w' := by
 refine enter (args := [_, _, _]) Tryz.func61 Tryz.ntmps61 rfl rfl (HS.refl w []) ?_
 iterate 2 refine aS ?_
 refine oBx fun b1 _ => ?_
 iterate 8 refine aS ?_
 refine o_p (p_indexAddr rfl rfl rfl sl_22 (i) (by omega) (by omega) (Rw.some hs.1 (by omega))) rfl ?_
 refine aS ?_
 refine o_q (q_load_old rfl rfl sz_77 ((hs.1.rdj 1 hi rfl))) rfl ?_
 iterate 8 refine aS ?_
 refine s_loopI (α := Nat) [9, 16, 17, 18, 19, 20, 21, 22, 23, 24, 25, 26, 27, 28, 29, 30, 31, 32, 33] (fun k => [(9, .int .i64 (k : Int))]) (fun _ => HS w [] [.blk b1 24 4 [.int .i64 (j : Int), .int .i64 mo, .int .i64 rm, .slice a L.length cap]]) (fun k => k ≤ (nth L i).es.length ∧ ∀ q, q < k → cmpK (j : Int) (nth (nth L i).es q).key key < 0) (fun k => (nth L i).es.length - k) 0 ⟨Nat.zero_le _, fun j h => absurd h (Nat.not_lt_zero j)⟩ aSx (fun w h => h.ent aEt) (fun k hx => ?_)
 obtain ⟨hk1, hk3⟩ := hx
 iterate 2 refine aS ?_
 refine s_cutI (α := Bool) [16, 17, 18, 19, 20, 21, 22, 23, 24, 25, 26, 27, 28, 29, 30, 31] (fun x => [(31, .bool x)]) (fun _ => HS w [] [.blk b1 24 4 [.int .i64 (j : Int), .int .i64 mo, .int .i64 rm, .slice a L.length cap]]) (fun x => x = true ↔ (k < (nth L i).es.length ∧ cmpK (j : Int) (nth (nth L i).es k).key key < 0)) ?_ ?_
 ·skip
  refine s_draw [] mixed ?_
  refine dP 0 ?_
  refine dP 1 ?_
  refine d_p 2 rfl (p_len_slice rfl rfl Tryz.underlying77) (by kernel_rfl) rfl rfl ?_
  refine dP 3 ?_
  refine dP 4 ?_
  apply d_split 20
  ·exact rfl
  ·intro hg2
   have hs3 := hg2; try simp only [decide_eq_true_eq] at hs3
   refine dFo 5 20 hg2 ?_
   refine d_qon 6 20 [] rfl rfl rfl hg2 (q_load rfl rfl sz_3 aPk rfl) (by kernel_rfl) (by kernel_rfl) (by kernel_rfl) rfl ?_
   refine dPo 7 20 hg2 ?_
   refine dPo 8 20 hg2 ?_
   refine d_pon 9 20 rfl rfl rfl hg2 (p_indexAddr rfl rfl rfl sl_77 (k) (by omega) (by omega) (Rw.some (hs.es hi) (by omega))) (by kernel_rfl) rfl rfl ?_
   refine dFo 10 20 hg2 ?_
   refine d_qon 11 20 [] rfl rfl rfl hg2 (q_load_old rfl rfl sz_9 (((hs.es hi).rdj 0 (by omega) rfl))) (by kernel_rfl) (by kernel_rfl) (by kernel_rfl) rfl ?_
   refine dPo 12 20 hg2 ?_
   refine d_qon 13 20 [] rfl rfl rfl hg2 (q_call rfl fn_33 rfl (fun w1 h1 => c33 w1 j (nth (nth L i).es k).key key hj (hK _ (mem_nth (by omega))).1 hk (hK _ (mem_nth (by omega))).2 hkl)) (by kernel_rfl) (by kernel_rfl) (by kernel_rfl) rfl ?_
   refine dPo 14 20 hg2 ?_
   refine d_p 15 rfl (p_pickt rfl rfl hg2 rfl) (by kernel_rfl) rfl rfl ?_
   refine dNi ?_
   exact s_joinI (decide (cmpK (j : Int) (nth (nth L i).es k).key key < 0)) (by rw [decide_eq_true_eq]; omega) aSx (fun w h => h.ent aEt)
  intro hg4
  have hs5 := hg4; try simp only [decide_eq_false_iff_not] at hs5
  refine dOf 5 20 hg4 ?_
  refine dOf 6 20 hg4 ?_
  refine dOf 7 20 hg4 ?_
  refine dOf 8 20 hg4 ?_
  refine dOf 9 20 hg4 ?_
  refine dOf 10 20 hg4 ?_
  refine dOf 11 20 hg4 ?_
  refine dOf 12 20 hg4 ?_
  refine dOf 13 20 hg4 ?_
  refine dOf 14 20 hg4 ?_
  refine d_p 15 rfl (p_pickf rfl rfl hg4 rfl) (by kernel_rfl) rfl rfl ?_
  refine dNi ?_
  exact s_joinI false (by constructor <;> intro h9 <;> first | (cases h9; done) | omega) aSx (fun w h => h.ent aEt)
 intro x hx
 refine s_cond rfl (fun h6 => ?_) fun h6 => ?_
 ·skip
  obtain ⟨hk5, hk6⟩ := hx.1 (by assumption)
  iterate 5 refine aS ?_
  try refine oWr ?_
  iterate 3 refine aS ?_
  exact s_backI (k + 1) (by omega) ⟨by omega, fun q hq => (Nat.lt_or_ge q k).elim (hk3 q) (fun h9 => by obtain rfl : q = k := (by omega); exact hk6)⟩ aSx (fun w h => h.ent aEt)
 skip
 have hno : ¬ (k < (nth L i).es.length ∧ cmpK (j : Int) (nth (nth L i).es k).key key < 0) := fun h9 => by have h8 := hx.2 h9; simp_all
 have hpk : (plc (j : Int) (nth L i).es key) = k := plc_is hk1 hk3 hno
 refine s_exit_to rfl ?_
 refine aS ?_
 refine s_draw [] mixed ?_
 refine dP 0 ?_
 refine dP 1 ?_
 refine dP 2 ?_
 refine d_p 3 rfl (p_len_slice rfl rfl Tryz.underlying77) (by kernel_rfl) rfl rfl ?_
 refine dP 4 ?_
 refine dP 5 ?_
 apply d_split 39
 ·exact rfl
 ·intro hg7
  have hs8 := hg7; try simp only [decide_eq_true_eq] at hs8
  refine dFo 6 39 hg7 ?_
  refine d_qon 7 39 [] rfl rfl rfl hg7 (q_load rfl rfl sz_3 aPk rfl) (by kernel_rfl) (by kernel_rfl) (by kernel_rfl) rfl ?_
  refine dPo 8 39 hg7 ?_
  refine dPo 9 39 hg7 ?_
  refine d_pon 10 39 rfl rfl rfl hg7 (p_indexAddr rfl rfl rfl sl_77 (k) (by omega) (by omega) (Rw.some (hs.es hi) (by omega))) (by kernel_rfl) rfl rfl ?_
  refine dFo 11 39 hg7 ?_
  refine d_qon 12 39 [] rfl rfl rfl hg7 (q_load_old rfl rfl sz_9 (((hs.es hi).rdj 0 (by omega) rfl))) (by kernel_rfl) (by kernel_rfl) (by kernel_rfl) rfl ?_
  refine dPo 13 39 hg7 ?_
  refine d_qon 14 39 [] rfl rfl rfl hg7 (q_call rfl fn_33 rfl (fun w1 h1 => c33 w1 j (nth (nth L i).es k).key key hj (hK _ (mem_nth (by omega))).1 hk (hK _ (mem_nth (by omega))).2 hkl)) (by kernel_rfl) (by kernel_rfl) (by kernel_rfl) rfl ?_
  refine dPo 15 39 hg7 ?_
  refine d_p 16 rfl (p_pickt rfl rfl hg7 rfl) (by kernel_rfl) rfl rfl ?_
  refine dP 17 ?_
  refine dP 18 ?_
  refine dNi ?_
  exact s_retv (rs := [.tmp 6, .tmp 7]) rfl (.tmp rfl (.tmp rfl (.nil))) (fun w' h' => ⟨by simp only [retV, fnd]; rw [hpk]; first | (rw [decide_eq_true (show k < (nth L i).es.length by omega)]; rfl) | (rw [decide_eq_false (show ¬ k < (nth L i).es.length by omega)]; rfl), h'.below⟩)
 intro hg9
 have hs10 := hg9; try simp only [decide_eq_false_iff_not] at hs10
 refine dOf 6 39 hg9 ?_
 refine dOf 7 39 hg9 ?_
 refine dOf 8 39 hg9 ?_
 refine dOf 9 39 hg9 ?_
 refine dOf 10 39 hg9 ?_
 refine dOf 11 39 hg9 ?_
 refine dOf 12 39 hg9 ?_
 refine dOf 13 39 hg9 ?_
 refine dOf 14 39 hg9 ?_
 refine dOf 15 39 hg9 ?_
 refine d_p 16 rfl (p_pickf rfl rfl hg9 rfl) (by kernel_rfl) rfl rfl ?_
 refine dP 17 ?_
 refine dP 18 ?_
 refine dNi ?_
 exact s_retv (rs := [.tmp 6, .tmp 7]) rfl (.tmp rfl (.tmp rfl (.nil))) (fun w' h' => ⟨by simp only [retV, fnd]; rw [hpk]; first | (rw [decide_eq_true (show k < (nth L i).es.length by omega)]; rfl) | (rw [decide_eq_false (show ¬ k < (nth L i).es.length by omega)]; rfl), h'.below⟩)
theorem fn_61 : isFn Tryz.prog 61 = true := by kernel_rfl
theorem c20 (w : World) (j : Nat) (mo rm : Int) (a : Option Addr) (cap : Nat) (L : List LNd) (key : List UInt8) (hj : j ≤ 3) (h0 : 0 < L.length) (hB : Bd (pln L)) (hT : TOk (j : Int) (pln L)) (hs : Nt w [] a L) (hk : keyOk (j : Int) key = true) (hkl : key.length ≤ 1000000) : Calls Tryz.prog 20 #[.agg #[.int .i64 (j : Int), .int .i64 mo, .int .i64 rm, .slice a L.length cap], .string (bs key)] w fun en w' => ∃ g : Option Addr × Nat, en = .returned (.tuple #[.slice g.1 (pathN (j : Int) (pln L) key).1.length g.2, .bool (pathN (j : Int) (pln L) key).2.2]) ∧ True ∧ HS w [] [.own (.slice g.1 ((pathN (j : Int) (pln L) key).1).length g.2) 3 1 ((pathN (j : Int) (pln L) key).1).length (((pathN (j : Int) (pln L) key).1).map fun i : Nat => Value.int .i64 (i : Int))] w' := by
 have hK : ∀ i, i < L.length → ∀ y ∈ (nth L i).es, keyOk (j : Int) y.key = true ∧ y.key.length ≤ 1000000 := fun i hi y hy => tok_key hT i (by rw [pln_len]; exact hi) y (by rw [pln_nth hi]; exact hy)
 refine enter (args := [_, _]) Tryz.func20 Tryz.ntmps20 rfl rfl (HS.refl w []) ?_
 iterate 2 refine aS ?_
 refine oBx fun b1 _ => ?_
 iterate 9 refine aS ?_
 refine o_h (h_buildSlice (cs := [_]) rfl rfl sl_30 zr_3 rfl rfl rfl) rfl (fun b2 _ => ?_)
 iterate 3 refine aS ?_
 refine s_loopI (α := (Option Addr × Nat) × List Nat × Nat × Nat) [4, 5, 6, 7, 8, 9, 11, 12, 13, 14, 15, 16, 17, 18, 19, 20, 21, 22, 23, 24, 25, 26, 27, 28, 29, 30, 31, 32, 33, 34, 35, 36, 37, 38, 39, 40, 41, 42, 43] (fun x => [(7, .slice x.1.1 (x.2.1 ++ [x.2.2.1]).length x.1.2), (6, .int .i64 (x.2.2.1 : Int))]) (fun x => HS w [] [.own (.slice x.1.1 (x.2.1 ++ [x.2.2.1]).length x.1.2) 3 1 (x.2.1 ++ [x.2.2.1]).length ((x.2.1 ++ [x.2.2.1]).map fun i : Nat => Value.int .i64 (i : Int)), .blk b1 24 4 [.int .i64 (j : Int), .int .i64 mo, .int .i64 rm, .slice a L.length cap]]) (fun x => x.2.2.1 < L.length ∧ x.2.1.length + x.2.2.2 = L.length ∧ Gx.Way (pln L) (x.2.2.1 :: x.2.1.reverse) ∧ (pathN (j : Int) (pln L) key) = (x.2.1 ++ (pthN (j : Int) (pln L) key x.2.2.2 x.2.2.1).1, (pthN (j : Int) (pln L) key x.2.2.2 x.2.2.1).2)) (fun x => x.2.2.2) ((some ⟨b2, 0, none⟩, 1), [], 0, L.length) ⟨h0, by simp, rfl, by rw [pathN, pln_len]; rfl⟩ aSx (fun w h => (HS.own_shut (t := 3) (sz := 1) (n := 1) (cap := 1) (h.pick (A := .blk b2 3 (1 * 1) [.int .i64 0]) aPk) rfl (by decide) (by decide)).ent aEt) (fun ⟨⟨ga, gc⟩, P, i, f⟩ hx => ?_)
 dsimp only
 obtain ⟨hi, hlen, hway, hpath⟩ := hx
 simp only [] at hi hlen hway hpath
 have hwl := way_len hT (by rw [pln_len]; exact h0) hway
 simp only [List.length_cons, List.length_reverse, pln_len] at hwl
 obtain ⟨f, rfl⟩ : ∃ f9, f = f9 + 1 := ⟨f - 1, by omega⟩
 have hni := pln_nth hi
 have hle := hB.len
 rw [pln_len] at hle
 have hes9 := hB.es i (by rw [pln_len]; exact hi)
 have hcs9 := hB.cs i (by rw [pln_len]; exact hi)
 rw [hni] at hes9 hcs9
 have hPl : (P ++ [i]).length = P.length + 1 := by simp
 iterate 6 refine aS ?_
 refine o_q (q_call rfl fn_61 rfl (fun w1 h1 => c61 w1 j mo rm a cap L i key hj hi (hs.later h1.nil) (by omega) hes9 (hK i hi) hk hkl)) rfl ?_
 iterate 11 refine aS ?_
 refine o_or 9 19 28 _ _ rfl
  (by
   intro hg3
   have hs4 := hg3; skip
   refine oOn 19 hg3 ?_
   refine aS ?_
   refine oOn 19 hg3 ?_
   refine aS ?_
   refine oOn 19 hg3 ?_
   refine aS ?_
   refine oOn 19 hg3 ?_
   refine o_p (p_indexAddr rfl rfl rfl sl_22 (i) (by omega) (by omega) (Rw.some hs.1 (by omega))) rfl ?_
   refine oOn 19 hg3 ?_
   refine aS ?_
   refine oOn 19 hg3 ?_
   refine o_q (q_load_old rfl rfl sz_30 ((hs.1.rdj 2 hi rfl))) rfl ?_
   refine oOn 19 hg3 ?_
   refine aS ?_
   refine oOn 19 hg3 ?_
   refine aS ?_
   refine o_p (p_pickf rfl rfl hg3 rfl) rfl ?_
   refine aS ?_
   exact oJn 9 28)
  (by
   intro hg5
   have hs6 := hg5; skip
   refine oOf 19 hg5 ?_
   refine oOf 19 hg5 ?_
   refine oOf 19 hg5 ?_
   refine oOf 19 hg5 ?_
   refine oOf 19 hg5 ?_
   refine oOf 19 hg5 ?_
   refine oOf 19 hg5 ?_
   refine oOf 19 hg5 ?_
   refine o_p (p_pickt rfl rfl hg5 rfl) rfl ?_
   refine aS ?_
   exact oJn 9 28) ?_
 refine aS ?_
 refine s_cond rfl (fun h7 => ?_) fun h7 => ?_
 ·try simp only [Bool.or_eq_true, decide_eq_true_eq] at h7
  have hst : fnd (j : Int) (nth (pln L) i).es key = true ∨ (nth (pln L) i).cs.length = 0 := by rw [hni]; have hq := h7; first | exact hq | (simp at hq; simpa [LNd.pl] using hq)
  iterate 7 refine aS ?_
  exact s_retv (rs := [.tmp 4, .tmp 5]) rfl (.tmp rfl (.tmp rfl (.nil))) (fun w' h' => ⟨(ga, gc), by rw [hpath, pthN_stop hst, hni]; rfl, trivial, by rw [hpath, pthN_stop hst]; exact h'.ent aEt⟩)
 try simp only [Bool.or_eq_false_iff, decide_eq_false_iff_not] at h7
 have hst : ¬ (fnd (j : Int) (nth (pln L) i).es key = true ∨ (nth (pln L) i).cs.length = 0) := by rw [hni]; have hq := h7; first | exact hq | (simp at hq; simpa [LNd.pl] using hq)
 have hcl : (nth L i).cs.length = (nth L i).es.length + 1 := by rcases hT.shape i (by rw [pln_len]; exact hi) with h9 | h9; exact absurd (.inr h9) hst; rw [hni] at h9; exact h9
 have hple := plc_le (j : Int) key (nth L i).es
 have hpk : plc (j : Int) (nth L i).es key < (nth L i).cs.length := by omega
 have hkid := kid_in hT (by rw [pln_len]; exact hi) (i := i) (k := plc (j : Int) (nth L i).es key) (by rw [hni]; exact hpk)
 rw [hni, pln_len] at hkid
 simp only [LNd.pl] at hkid
 have hway2 := way_kid hway (by rw [pln_len]; exact hi) (k := plc (j : Int) (nth L i).es key) (by rw [hni]; exact hpk) (by rw [hni]; simp only [LNd.pl]; omega)
 rw [hni] at hway2
 simp only [LNd.pl] at hway2
 iterate 6 refine aS ?_
 refine o_p (p_indexAddr rfl rfl rfl sl_22 (i) (by omega) (by omega) (Rw.some hs.1 (by omega))) rfl ?_
 refine aS ?_
 refine o_q (q_load_old rfl rfl sz_30 ((hs.1.rdj 2 hi rfl))) rfl ?_
 refine aS ?_
 refine o_p (p_indexAddr rfl rfl rfl sl_30 (plc (j : Int) (nth L i).es key) (by omega) (by omega) (Rw.some (hs.cs hi) (by omega))) rfl ?_
 refine o_q (q_load_old rfl rfl sz_3 (((hs.cs hi).rdj 0 (i := plc (j : Int) (nth L i).es key) hpk rfl))) rfl ?_
 iterate 5 refine aS ?_
 refine o_h (h_buildSlice (cs := [_]) rfl rfl sl_30 zr_3 rfl rfl rfl) rfl (fun b8 _ => ?_)
 refine o_h (h_appendS [_] rfl rfl rfl sl_30 Tryz.underlying30 zr_3 rfl aPk (src_blk aPk) rfl (by intro u hu; simp only [List.mem_cons, List.mem_nil_iff, or_false] at hu; subst hu; rfl) (by omega) (by simp only [maxLen]; omega)) rfl (fun b9 _ => ?_)
 iterate 3 refine aS ?_
 exact s_backI ((b9.1, b9.2), P ++ [i], ((nth L i).cs.getD (plc (j : Int) (nth L i).es key) 0).toNat, f) (by (try simp only []); omega) ⟨by simp only []; omega, by simp only [List.length_append, List.length_singleton]; omega, by simp only [List.reverse_append, List.reverse_singleton, List.singleton_append]; exact hway2, by simp only []; rw [hpath, pthN_step hst]; simp [hni, LNd.pl]⟩ (by simp only [List.length_append (bs := [((nth L i).cs.getD (plc (j : Int) (nth L i).es key) 0).toNat]), List.length_singleton]; rw [Int.toNat_of_nonneg (by omega)]; exact aSx) (fun w h => by have h2 := h; simp only [List.length_append (bs := [((nth L i).cs.getD (plc (j : Int) (nth L i).es key) 0).toNat]), List.length_singleton, List.map_append (l₂ := [((nth L i).cs.getD (plc (j : Int) (nth L i).es key) 0).toNat]), List.map_cons, List.map_nil]; rw [Int.toNat_of_nonneg (by omega)]; exact h2.ent aEt)
theorem c100 (w : World) (j : Nat) (mo rm : Int) (a : Option Addr) (cap : Nat) (L : List LNd) (p : Nat) (c : Int) (hp : p < L.length) (hs : Nt w [] a L) (hl : L.length ≤ 1000) (hcl : (nth L p).cs.length ≤ 1000) : Calls Tryz.prog 100 #[.agg #[.int .i64 (j : Int), .int .i64 mo, .int .i64 rm, .slice a L.length cap], .int .i64 (p : Int), .int .i64 c] w fun en w' => en = .returned (.int .i64 (ixR (nth L p).cs c : Int)) ∧ Below w.heap.size w w' := by
 refine enter (args := [_, _, _]) Tryz.func100 Tryz.ntmps100 rfl rfl (HS.refl w []) ?_
 iterate 2 refine aS ?_
 refine oBx fun b1 _ => ?_
 iterate 8 refine aS ?_
 refine s_loopI (α := Nat) [6, 7, 8, 9, 10, 11, 12, 13, 14, 15, 16, 17, 18, 19, 20, 21, 22, 23, 24, 25, 26, 27, 28, 29, 30] (fun k => [(7, .int .i64 (k : Int))]) (fun _ => HS w [] [.blk b1 24 4 [.int .i64 (j : Int), .int .i64 mo, .int .i64 rm, .slice a L.length cap]]) (fun k => k ≤ (nth L p).cs.length ∧ ∀ q, q < k → (hasC (nth L p).cs c).getD q false = false) (fun k => (nth L p).cs.length - k) 0 ⟨Nat.zero_le _, fun j h => absurd h (Nat.not_lt_zero j)⟩ aSx (fun w h => h.ent aEt) (fun k hx => ?_)
 obtain ⟨hk1, hk3⟩ := hx
 iterate 7 refine aS ?_
 refine o_p (p_indexAddr rfl rfl rfl sl_22 (p) (by omega) (by omega) (Rw.some hs.1 (by omega))) rfl ?_
 refine aS ?_
 refine o_q (q_load_old rfl rfl sz_30 ((hs.1.rdj 2 hp rfl))) rfl ?_
 iterate 3 refine aS ?_
 refine s_cond rfl (fun h2 => ?_) fun h2 => ?_
 ·try simp only [decide_eq_true_eq] at h2
  have hk : k < (nth L p).cs.length := by omega
  iterate 8 refine aS ?_
  refine o_p (p_indexAddr rfl rfl rfl sl_22 (p) (by omega) (by omega) (Rw.some hs.1 (by omega))) rfl ?_
  refine aS ?_
  refine o_q (q_load_old rfl rfl sz_30 ((hs.1.rdj 2 hp rfl))) rfl ?_
  refine aS ?_
  refine o_p (p_indexAddr rfl rfl rfl sl_30 (k) (by omega) (by omega) (Rw.some (hs.cs hp) (by omega))) rfl ?_
  refine o_q (q_load_old rfl rfl sz_3 (((hs.cs hp).rdj 0 (by omega) rfl))) rfl ?_
  iterate 3 refine aS ?_
  refine s_cond rfl (fun h3 => ?_) fun h3 => ?_
  ·try simp only [decide_eq_true_eq] at h3
   have hq9 : c = (nth L p).cs.getD k 0 := (h3).symm
   have hix := ixB_eq (l := hasC (nth L p).cs c) (k := k) (by rw [hasC_len]; omega) hk3 (fun h9 => by rw [hasC_get hk]; exact decide_eq_true hq9)
   iterate 5 refine aS ?_
   exact s_retv (rs := [.tmp 6]) rfl (.tmp rfl (.nil)) (fun w' h' => ⟨by simp only [retV, ixR]; rw [hix, if_pos hk], h'.below⟩)
  try simp only [decide_eq_false_iff_not] at h3
  have hq9 : ¬ c = (nth L p).cs.getD k 0 := fun e => h3 e.symm
  iterate 5 refine aS ?_
  try refine oWr ?_
  iterate 2 refine aS ?_
  exact s_backI (k + 1) (by omega) ⟨by omega, fun q hq => (Nat.lt_or_ge q k).elim (hk3 q) (fun h9 => by obtain rfl : q = k := (by omega); rw [hasC_get hk]; exact decide_eq_false hq9)⟩ aSx (fun w h => h.ent aEt)
 try simp only [decide_eq_false_iff_not] at h2
 obtain rfl : k = (nth L p).cs.length := by omega
 have hix := ixB_eq (l := hasC (nth L p).cs c) (k := (nth L p).cs.length) (by rw [hasC_len]; omega) hk3 (fun h9 => absurd h9 (by rw [hasC_len]; omega))
 refine s_exit_to rfl ?_
 iterate 4 refine aS ?_
 exact s_retv (rs := [.tmp 6]) rfl (.tmp rfl (.nil)) (fun w' h' => ⟨by simp only [retV, ixR]; rw [hix, if_neg (Nat.lt_irrefl _)]; rfl, h'.below⟩)
theorem c64 (w : World) (bt : Nat) (j : Nat) (mo rm : Int) (gn cap : Nat) (L : List LNd) (hw : HS w (fps [.blk bt 24 4 [.int .i64 (j : Int), .int .i64 mo, .int .i64 rm, .slice (some ⟨gn, 0, none⟩) (L).length cap], .blk gn 102 (cap * 3) ((L).flatMap LNd.vals), .star ((L).map (subN 26))]) [.blk bt 24 4 [.int .i64 (j : Int), .int .i64 mo, .int .i64 rm, .slice (some ⟨gn, 0, none⟩) (L).length cap], .blk gn 102 (cap * 3) ((L).flatMap LNd.vals), .star ((L).map (subN 26))] w) (hnc : L.length ≤ cap) (hcm : cap ≤ maxLen) (h0 : 0 < L.length) (hl : L.length ≤ 1000) : Calls Tryz.prog 64 #[.pointer (some ⟨bt, 0, none⟩)] w fun en w' => ∃ g : (Nat × Nat) × List LNd, en = .returned (.int .i64 ((frsN (pln L)).1 : Int)) ∧ (pln g.2 = (frsN (pln L)).2 ∧ g.2.length ≤ g.1.2 ∧ g.1.2 ≤ maxLen) ∧ HS w (fps [.blk bt 24 4 [.int .i64 (j : Int), .int .i64 mo, .int .i64 rm, .slice (some ⟨gn, 0, none⟩) (L).length cap], .blk gn 102 (cap * 3) ((L).flatMap LNd.vals), .star ((L).map (subN 26))]) [.blk bt 24 4 [.int .i64 (j : Int), .int .i64 mo, .int .i64 rm, .slice (some ⟨g.1.1, 0, none⟩) (g.2).length g.1.2], .blk g.1.1 102 (g.1.2 * 3) ((g.2).flatMap LNd.vals), .star ((g.2).map (subN 26))] w' := by
 have hnl : (pln L).length = L.length := pln_len L
 refine enter (args := [_]) Tryz.func64 Tryz.ntmps64 rfl rfl hw ?_
 iterate 10 refine aS ?_
 refine s_loopI (α := Nat × Nat) [2, 3, 4, 5, 6, 7, 8, 9, 10, 11, 12, 13, 14, 15, 16, 17, 18, 19, 20, 21, 22, 23, 24, 25, 26, 27, 28, 29] (fun x => [(3, .int .i64 (x.1 : Int))]) (fun _ => HS w (fps [.blk bt 24 4 [.int .i64 (j : Int), .int .i64 mo, .int .i64 rm, .slice (some ⟨gn, 0, none⟩) (L).length cap], .blk gn 102 (cap * 3) ((L).flatMap LNd.vals), .star ((L).map (subN 26))]) [.blk bt 24 4 [.int .i64 (j : Int), .int .i64 mo, .int .i64 rm, .slice (some ⟨gn, 0, none⟩) (L).length cap], .blk gn 102 (cap * 3) ((L).flatMap LNd.vals), .star ((L).map (subN 26))]) (fun x => (1 ≤ x.1 ∧ x.1 ≤ L.length) ∧ x.1 + x.2 = L.length + 1 ∧ frsI (pln L) x.2 x.1 = (frsX (pln L))) (fun x => x.2) (1, L.length) ⟨⟨Nat.le_refl _, h0⟩, by simp only []; omega, by rw [frsX, hnl]⟩ aSx (fun w h => h.ent aEt) (fun ⟨i, f⟩ hx => ?_)
 dsimp only
 obtain ⟨⟨hi1, hi2⟩, hf1, hf2⟩ := hx
 simp only [] at hi1 hi2 hf1 hf2
 obtain ⟨f, rfl⟩ : ∃ f9, f = f9 + 1 := ⟨f - 1, by omega⟩
 rw [frsI] at hf2
 iterate 11 refine aS ?_
 refine s_cond rfl (fun h1 => ?_) fun h1 => ?_
 ·try simp only [decide_eq_true_eq] at h1
  have hil : i < L.length := by omega
  rw [if_pos (by rw [hnl]; exact hil), pln_nth hil] at hf2
  simp only [LNd.pl] at hf2
  iterate 10 refine aS ?_
  refine o_p (p_indexAddr rfl rfl rfl sl_22 (i) (by omega) (by omega) rfl) rfl ?_
  refine o_slot (show _ = Value.pointer (some ⟨gn, i * 3, none⟩) from by rw [Nat.zero_add]) ?_
  refine aS ?_
  refine o_q (q_load_at rfl rfl sz_4 (fun w h => HS.nd_cell (i := i) (by omega) h aPk 0 rfl (by decide))) rfl ?_
  iterate 2 refine aS ?_
  refine s_cond rfl (fun h2 => ?_) fun h2 => ?_
  ·try simp only [Bool.not_eq_true'] at h2
   have hus : ¬ (nth L i).us = true := by have hq := h2; simp [hq]
   have hf3 : i = (frsX (pln L)) := by rw [← hf2]; exact (if_neg hus).symm
   have hz : (frsX (pln L)) < (pln L).length := by rw [← hf3, hnl]; exact hil
   iterate 7 refine aS ?_
   refine o_p (p_build (cs := [_, _, _]) rfl rfl pl_102 zr_102 rfl) rfl ?_
   refine o_p (p_indexAddr rfl rfl rfl sl_22 (i) (by omega) (by omega) rfl) rfl ?_
   refine o_slot (show _ = Value.pointer (some ⟨gn, i * 3, none⟩) from by rw [Nat.zero_add]) ?_
   refine o_h0 (h_store rfl rfl rfl sz_102 rfl aPt (by rw [flat_length nv3]; show _ + 3 ≤ _; omega) rfl) (fun _ _ => ?_)
   iterate 6 refine aS ?_
   exact s_retv (rs := [.tmp 2]) rfl (.tmp rfl (.nil)) (fun w' h' => by obtain ⟨L9, hS9, hC⟩ := HS.node_fre (i := i) (gn := gn) (cap := cap) hil h' aPk aPk; exact ⟨((gn, cap), L9), by rw [frsN, if_pos hz, ← hf3]; rfl, ⟨by rw [hS9.pl, frsN, if_pos hz, ← hf3]; rfl, by simp only []; rw [hS9.len]; exact hnc, hcm⟩, by simp only []; rw [hS9.len]; exact hC.ent aEt⟩)
  try simp only [Bool.not_eq_false'] at h2
  have hus : (nth L i).us = true := by have hq := h2; simpa using hq
  have hf4 : frsI (pln L) f (i + 1) = (frsX (pln L)) := by rw [← hf2]; exact (if_pos hus).symm
  iterate 5 refine aS ?_
  try refine oWr ?_
  iterate 2 refine aS ?_
  exact s_backI (i + 1, f) (by (try simp only []); omega) ⟨⟨by (try simp only []); omega, by (try simp only []); omega⟩, by (try simp only []); omega, hf4⟩ aSx (fun w h => h.ent aEt)
 try simp only [decide_eq_false_iff_not] at h1
 obtain rfl : i = L.length := by omega
 rw [if_neg (by rw [hnl]; omega)] at hf2
 have hz : ¬ (frsX (pln L)) < (pln L).length := by rw [← hf2, hnl]; omega
 refine s_class (fun w h => (HS.own_shut (n := L.length) (h.ent (Bs := [.blk gn 102 (cap * 3) (L.flatMap LNd.vals), .star (L.map (subN 26)), .blk bt 24 4 [.int .i64 (j : Int), .int .i64 mo, .int .i64 rm, .slice (some ⟨gn, 0, none⟩) L.length cap]]) aEt) (flat_length nv3 L) hnc hcm)) ?_
 refine s_exit_to rfl ?_
 iterate 7 refine aS ?_
 refine o_p (p_build (cs := [_, _, _]) rfl rfl pl_102 zr_102 rfl) rfl ?_
 refine o_h (h_buildSlice (cs := [_, _, _]) rfl rfl sl_22 zr_102 rfl rfl rfl) rfl (fun b3 _ => ?_)
 refine o_h (h_appendS [_, _, _] rfl rfl rfl sl_22 Tryz.underlying22 zr_102 rfl aPk (src_blk aPk) rfl (by intro u hu; simp only [List.mem_cons, List.mem_nil_iff, or_false] at hu; rcases hu with rfl | rfl | rfl <;> rfl) (by omega) (by simp only [maxLen]; omega)) rfl (fun b4 _ => ?_)
 refine o_fact (fun w h => own_addr (n := L.length + 1) (by omega) h aPk) (fun hgn => ?_)
 obtain ⟨⟨ga, gc⟩, hga⟩ : ∃ q : Option Addr × Nat, b4 = q := ⟨_, rfl⟩
 subst hga
 obtain ⟨g9, e9, hn9, hm9⟩ := hgn
 simp only [] at e9 hn9 hm9
 subst e9
 refine o_class (fun w h => HS.own_at h aPk) ?_
 iterate 2 refine aS ?_
 refine o_h0 (h_store rfl rfl rfl sz_22 rfl aPt (by show 4 ≤ 4; omega) rfl) (fun _ _ => ?_)
 iterate 9 refine aS ?_
 try refine oWr ?_
 iterate 2 refine aS ?_
 exact s_retv (rs := [.tmp 2]) rfl (.tmp rfl (.nil)) (fun w' h' => ⟨((g9, gc), L ++ [(LNd.fre : LNd)]), by rw [frsN, if_neg hz, hnl]; simp only [retV]; congr 2; omega, ⟨by rw [frsN, if_neg hz, pln_app]; rfl, by simp only [List.length_append, List.length_singleton]; exact hn9, hm9⟩, by have h2 := HS.sub_app (sub := subN 26) (l := L) (x := (LNd.fre : LNd)) (HS.star_close (Bs := [_, _]) (((h'.ent (Bs := [.star (L.map (subN 26)), .blk bt 24 4 [.int .i64 (j : Int), .int .i64 mo, .int .i64 rm, .slice (some ⟨g9, 0, none⟩) (L.length + 1) gc], .blk g9 102 (gc * 3) (L.flatMap LNd.vals ++ [.bool true, .slice none 0 0, .slice none 0 0])]) aEt).own_nil 3 1).own_nil 26 2)); have e8 : (L ++ [(LNd.fre : LNd)]).flatMap LNd.vals = L.flatMap LNd.vals ++ [.bool true, .slice none 0 0, .slice none 0 0] := (by rw [List.flatMap_append]; rfl); have e7 : (L ++ [(LNd.fre : LNd)]).length = L.length + 1 := (by simp); dsimp only; rw [e8, e7]; exact h2.ent aEt⟩)
theorem fn_64 : isFn Tryz.prog 64 = true := by kernel_rfl
theorem fn_100 : isFn Tryz.prog 100 = true := by kernel_rfl
theorem fn_62 : isFn Tryz.prog 62 = true := by kernel_rfl
theorem fn_101 : isFn Tryz.prog 101 = true := by kernel_rfl
set_option maxHeartbeats 300000 in
theorem c63 (w : World) (bt : Nat) (j : Nat) (mo rm : Int) (gn cap : Nat) (L : List LNd) (p i : Nat) (hw : HS w (fps [.blk bt 24 4 [.int .i64 (j : Int), .int .i64 mo, .int .i64 rm, .slice (some ⟨gn, 0, none⟩) (L).length cap], .blk gn 102 (cap * 3) ((L).flatMap LNd.vals), .star ((L).map (subN 26))]) [.blk bt 24 4 [.int .i64 (j : Int), .int .i64 mo, .int .i64 rm, .slice (some ⟨gn, 0, none⟩) (L).length cap], .blk gn 102 (cap * 3) ((L).flatMap LNd.vals), .star ((L).map (subN 26))] w) (hnc : L.length ≤ cap) (hcm : cap ≤ maxLen) (hok : SpROk mo (pln L) p i) : Calls Tryz.prog 63 #[.pointer (some ⟨bt, 0, none⟩), .int .i64 (p : Int), .int .i64 (i : Int)] w fun en w' => ∃ g : (Nat × Nat) × List LNd, en = .returned (.tuple #[]) ∧ (pln g.2 = splR mo (pln L) p i ∧ g.2.length ≤ g.1.2 ∧ g.1.2 ≤ maxLen) ∧ HS w (fps [.blk bt 24 4 [.int .i64 (j : Int), .int .i64 mo, .int .i64 rm, .slice (some ⟨gn, 0, none⟩) (L).length cap], .blk gn 102 (cap * 3) ((L).flatMap LNd.vals), .star ((L).map (subN 26))]) [.blk bt 24 4 [.int .i64 (j : Int), .int .i64 mo, .int .i64 rm, .slice (some ⟨g.1.1, 0, none⟩) (g.2).length g.1.2], .blk g.1.1 102 (g.1.2 * 3) ((g.2).flatMap LNd.vals), .star ((g.2).map (subN 26))] w' := by
 have hlt0 := hok.lt
 have hln0 := hok.len
 have hpl0 := hok.par
 rw [pln_len] at hlt0 hln0 hpl0
 have hmo := hok.mo0
 have hes0 := hok.es
 have hcs0 := hok.cs
 have hne := frsN_ne hok.lt hok.us
 have hfn := frsN_nth hok.lt hne
 have hfl := frsN_lt (pln L)
 have hfl2 := frsN_len (pln L)
 rw [pln_len] at hfl2
 have hparE := hok.parE
 have hparC := hok.parC
 have hsA := hok.sm.splRA mo i
 refine enter (args := [_, _, _]) Tryz.func63 Tryz.ntmps63 rfl rfl hw ?_
 iterate 3 refine aS ?_
 refine o_h (h_callF (Cs := [.blk bt 24 4 [.int .i64 (j : Int), .int .i64 mo, .int .i64 rm, .slice (some ⟨gn, 0, none⟩) (L).length cap], .blk gn 102 (cap * 3) ((L).flatMap LNd.vals), .star ((L).map (subN 26))]) rfl fn_64 rfl aPs (fun w1 h1 hf => c64 w1 bt j mo rm gn cap L hf hnc hcm (by omega) (by omega))) rfl (fun ⟨⟨gn1, cap1⟩, L1⟩ hF1 => ?_)
 dsimp only
 obtain ⟨hL1, hn1, hm1⟩ := hF1
 simp only [] at hL1 hn1 hm1
 have hl1 : L1.length = (frsN (pln L)).2.length := by rw [← hL1, pln_len]
 have hi1 : i < L1.length := by omega
 have ho1 : (frsN (pln L)).1 < L1.length := by omega
 have hN1 : (nth L1 i).pl = nth (pln L) i := by rw [← pln_nth hi1, hL1, hfn]
 have hE1 : (nth L1 i).es = (nth (pln L) i).es := congrArg Nd.es hN1
 have hC1 : (nth L1 i).cs = (nth (pln L) i).cs := congrArg Nd.cs hN1
 have hsm1 : (splM mo) < (nth L1 i).es.length := by rw [hE1]; exact hes0
 have hsE1 := (hok.sm i).1
 rw [← hE1] at hsE1
 have hsC1 := (hok.sm i).2
 rw [← hC1] at hsC1
 rw [← hC1] at hcs0
 have hxF : nth (frsN (pln L)).2 i = (nth L1 i).pl := by rw [hfn, hN1]
 iterate 9 refine aS ?_
 refine o_p (p_indexAddr rfl rfl rfl sl_22 (i) (by omega) (by omega) rfl) rfl ?_
 refine o_slot (show _ = Value.pointer (some ⟨gn1, i * 3, none⟩) from by rw [Nat.zero_add]) ?_
 refine o_q (q_load_atn _ rfl rfl sz_102 rfl (fun w h => HS.nd_cells hi1 h aPk)) rfl ?_
 refine oAl (fun b1 _ => ?_) zr_102
 refine oSt ?_
 iterate 8 refine aS ?_
 try refine oWr ?_
 refine o_p (p_quo_nn rfl rfl rfl (by omega) (by omega) (by omega)) rfl ?_
 refine o_slot (show _ = Value.int .i64 ((splM mo) : Int) from by unfold splM; congr 1; omega) ?_
 iterate 6 refine aS ?_
 refine o_fact (fun w h => HS.es_some hi1 (by omega) h aPk) fun hge => ?_
 obtain ⟨ge, hge⟩ := hge
 refine o_fact (fun w h => HS.es_room hi1 h aPk) fun hrE => ?_
 refine o_fact (fun w h => HS.cs_room hi1 h aPk) fun hrC => ?_
 refine aS ?_
 refine o_p (p_indexAddr rfl rfl rfl sl_77 ((splM mo)) (by omega) (by omega) hge) rfl ?_
 refine o_q (q_load_atn _ rfl rfl sz_26 rfl (fun w h => HS.es_rd hi1 hsm1 hge h aPk)) rfl ?_
 refine oAl (fun b2 _ => ?_) zr_26
 refine oSt ?_
 iterate 2 refine aS ?_
 refine s_drawB [.blk bt 24 4 [.int .i64 (j : Int), .int .i64 mo, .int .i64 rm, .slice (some ⟨gn1, 0, none⟩) L1.length cap1], .blk gn1 102 (cap1 * 3) (L1.flatMap LNd.vals), .star (L1.map (subN 26)), .blk b1 102 3 (LNd.vals (nth L1 i)), .blk b2 26 2 (TEnt.vals (nth (nth L1 i).es (splM mo)))] [14] mixed ?_
 refine dP 0 ?_
 refine dP 1 ?_
 refine dFa 2 ?_
 refine dLd 3 [[]] ?_
 refine dP 4 ?_
 refine dFa 6 ?_
 refine dLd 7 [[]] ?_
 refine dP 8 ?_
 refine dP 9 ?_
 try refine dWr ?_
 refine d_p 10 rfl (p_slice _ _ ((splM mo) + 1) ((nth L1 i).es.length) rfl rfl sl_77 ⟨_, _, rfl, (by omega)⟩ rfl (by omega) (by omega)) (by kernel_rfl) rfl rfl ?_
 refine d_h 5 rfl (h_buildSlice0 rfl sl_77) (by kernel_rfl) (fun w h => h.ent aEt) rfl (fun b3 _ => ?_)
 refine d_h 11 rfl (h_appendS (((nth L1 i).es.drop ((splM mo) + 1)).flatMap TEnt.vals) rfl rfl rfl sl_77 Tryz.underlying77 zr_26 rfl aPk (fun w h => Rw.src ev2 (Rw.cut (HS.es_row hi1 h aPk) hrE.1) (HS.refl _ [])) (by rw [flat_length ev2, List.length_drop]) (flat_one ev1 _) (by omega) (by simp only [maxLen]; omega)) (by kernel_rfl) (fun w h => h.ent aEt) rfl (fun b4 _ => ?_)
 refine d_p 12 rfl (p_indexAddr rfl rfl rfl sl_22 ((frsN (pln L)).1) (by omega) (by omega) rfl) (by kernel_rfl) rfl rfl ?_
 refine d_slot (show _ = Value.pointer (some ⟨gn1, (frsN (pln L)).1 * 3, none⟩) from by rw [Nat.zero_add]) ?_
 refine dFa 13 ?_
 refine dSt 14 ?_ (hl := (by rw [flat_length nv3]; show _ + 1 ≤ _; omega))
 refine dTu [] ?_
 refine dNi ?_
 refine aS ?_
 refine s_weaken (L' := [(0, _), (1, _), (2, _), (6, _), (7, _), (8, _), (9, _)]) aSx (fun _ h => h) ?_
 refine s_ex (fun w h => HS.es_setN (gn := gn1) (cap := cap1) (ea := b4.1) (ec := b4.2) (es := (nth L1 i).es.drop ((splM mo) + 1)) (n := 0 + ((nth L1 i).es.length - ((splM mo) + 1))) (xs := [] ++ ((nth L1 i).es.drop ((splM mo) + 1)).flatMap TEnt.vals) ho1 (by rw [List.length_drop, Nat.zero_add]) (by rw [List.nil_append]) h aPk aPk aPk) fun L2 => ?_
 refine s_fact (fun w h => h.1) fun hS2 => ?_
 refine s_class (fun w h => h.2) ?_
 have hi2 : i < L2.length := by rw [hS2.len]; exact hi1
 have hN2 : nth L2 i = nth L1 i := hS2.other hi1 hne
 refine s_drawB [.blk bt 24 4 [.int .i64 (j : Int), .int .i64 mo, .int .i64 rm, .slice (some ⟨gn1, 0, none⟩) L1.length cap1], .blk gn1 102 (cap1 * 3) (L2.flatMap LNd.vals), .star (L2.map (subN 26)), .blk b1 102 3 (LNd.vals (nth L1 i)), .blk b2 26 2 (TEnt.vals (nth (nth L1 i).es (splM mo)))] [13] mixed ?_
 refine dP 0 ?_
 refine dP 1 ?_
 refine dFa 2 ?_
 refine dLd 3 [[]] ?_
 refine dP 4 ?_
 refine dFa 6 ?_
 refine dLd 7 [[]] ?_
 refine dP 8 ?_
 refine d_p 9 rfl (p_slice _ _ 0 (splM mo) rfl rfl sl_77 rfl ⟨_, _, rfl, rfl⟩ (by omega) (by omega)) (by kernel_rfl) rfl rfl ?_
 refine d_h 5 rfl (h_buildSlice0 rfl sl_77) (by kernel_rfl) (fun w h => h.ent aEt) rfl (fun b5 _ => ?_)
 refine d_h 10 rfl (h_appendS (((nth L1 i).es.take (splM mo)).flatMap TEnt.vals) rfl rfl rfl sl_77 Tryz.underlying77 zr_26 rfl aPk (fun w h => Rw.src ev2 (rw_take (Rw.cut (i := 0) (hN2 ▸ HS.es_row hi2 h aPk) hrE.1) (splM mo)) (HS.refl _ [])) (by rw [flat_length ev2, List.length_take]; omega) (flat_one ev1 _) (by omega) (by simp only [maxLen]; omega)) (by kernel_rfl) (fun w h => h.ent aEt) rfl (fun b6 _ => ?_)
 refine d_p 11 rfl (p_indexAddr rfl rfl rfl sl_22 (i) (by omega) (by omega) rfl) (by kernel_rfl) rfl rfl ?_
 refine d_slot (show _ = Value.pointer (some ⟨gn1, i * 3, none⟩) from by rw [Nat.zero_add]) ?_
 refine dFa 12 ?_
 refine dSt 13 ?_ (hl := (by rw [flat_length nv3]; show _ + 1 ≤ _; omega))
 refine dTu [] ?_
 refine dNi ?_
 iterate 4 refine aS ?_
 refine o_ex (fun w h => HS.es_setN (gn := gn1) (cap := cap1) (ea := b6.1) (ec := b6.2) (es := (nth L1 i).es.take (splM mo)) (n := 0 + ((splM mo) - 0)) (xs := [] ++ ((nth L1 i).es.take (splM mo)).flatMap TEnt.vals) hi2 (by rw [List.length_take]; omega) (by rw [List.nil_append]) h aPk aPk aPk) fun L3 => ?_
 refine o_fact (fun w h => h.1) fun hS3 => ?_
 refine o_class (fun w h => h.2) ?_
 have hi3 : i < L3.length := by rw [hS3.len]; exact hi2
 have ho3 : (frsN (pln L)).1 < L3.length := by rw [hS3.len, hS2.len]; exact ho1
 have hcr3 : (nth L3 i).ca = (nth L1 i).ca ∧ (nth L3 i).cc = (nth L1 i).cc ∧ (nth L3 i).cs = (nth L1 i).cs := by rw [hS3.at_, hN2]; exact ⟨rfl, rfl, rfl⟩
 iterate 4 refine aS ?_
 refine s_weaken (L' := [(0, _), (1, _), (2, _), (6, _), (7, _), (8, _), (9, _), (61, _)]) aSx (fun _ h => h) ?_
 refine s_cutI (α := List LNd) [62, 63, 64, 65, 66, 67, 68, 69, 70, 71, 72, 73, 74, 75, 76, 77, 78, 79, 80, 81, 82, 83, 84, 85, 86, 87, 88, 89] (fun _ => []) (fun x => HS w (fps [.blk bt 24 4 [.int .i64 (j : Int), .int .i64 mo, .int .i64 rm, .slice (some ⟨gn, 0, none⟩) (L).length cap], .blk gn 102 (cap * 3) ((L).flatMap LNd.vals), .star ((L).map (subN 26))]) [.blk bt 24 4 [.int .i64 (j : Int), .int .i64 mo, .int .i64 rm, .slice (some ⟨gn1, 0, none⟩) (x).length cap1], .blk gn1 102 (cap1 * 3) ((x).flatMap LNd.vals), .star ((x).map (subN 26)), .blk b2 26 2 (TEnt.vals (nth (nth L1 i).es (splM mo)))]) (fun x => pln x = (splRA mo (pln L) i) ∧ x.length = L1.length) ?_ ?_
 ·skip
  refine s_cond rfl (fun h7 => ?_) fun h7 => ?_
  ·try simp only [decide_eq_true_eq] at h7
   have hcz : (nth L1 i).cs.length ≠ 0 := by have hq := h7; omega
   have hsm4 : (splM mo) + 1 ≤ (nth L1 i).cs.length := by omega
   refine aS ?_
   refine s_drawB [.blk bt 24 4 [.int .i64 (j : Int), .int .i64 mo, .int .i64 rm, .slice (some ⟨gn1, 0, none⟩) L1.length cap1], .blk gn1 102 (cap1 * 3) (L3.flatMap LNd.vals), .star (L3.map (subN 26)), .blk b1 102 3 (LNd.vals (nth L1 i)), .blk b2 26 2 (TEnt.vals (nth (nth L1 i).es (splM mo)))] [14] mixed ?_
   refine dP 0 ?_
   refine dP 1 ?_
   refine dFa 2 ?_
   refine dLd 3 [[]] ?_
   refine dP 4 ?_
   refine dFa 6 ?_
   refine dLd 7 [[]] ?_
   refine dP 8 ?_
   refine dP 9 ?_
   try refine dWr ?_
   refine d_p 10 rfl (p_slice _ _ ((splM mo) + 1) ((nth L1 i).cs.length) rfl rfl sl_30 ⟨_, _, rfl, (by omega)⟩ rfl (by omega) (by omega)) (by kernel_rfl) rfl rfl ?_
   refine d_h 5 rfl (h_buildSlice0 rfl sl_30) (by kernel_rfl) (fun w h => h.ent aEt) rfl (fun b8 _ => ?_)
   refine d_h 11 rfl (h_appendS (((nth L1 i).cs.drop ((splM mo) + 1)).flatMap inV) rfl rfl rfl sl_30 Tryz.underlying30 zr_3 rfl aPk (fun w h => Rw.src iv1 (Rw.cut (cs_rowE hcr3 (HS.cs_row hi3 h aPk)) hrC.1) (HS.refl _ [])) (by rw [flat_length iv1, List.length_drop]) (flat_one iv1c _) (by omega) (by simp only [maxLen]; omega)) (by kernel_rfl) (fun w h => h.ent aEt) rfl (fun b9 _ => ?_)
   refine d_p 12 rfl (p_indexAddr rfl rfl rfl sl_22 ((frsN (pln L)).1) (by omega) (by omega) rfl) (by kernel_rfl) rfl rfl ?_
   refine d_slot (show _ = Value.pointer (some ⟨gn1, (frsN (pln L)).1 * 3, none⟩) from by rw [Nat.zero_add]) ?_
   refine dFa 13 ?_
   refine dSt 14 ?_ (hl := (by rw [flat_length nv3]; show _ + 1 ≤ _; omega))
   refine dTu [] ?_
   refine dNi ?_
   refine s_ex (fun w h => HS.cs_setN (gn := gn1) (cap := cap1) (ca := b9.1) (cc := b9.2) (cs := (nth L1 i).cs.drop ((splM mo) + 1)) (n := 0 + ((nth L1 i).cs.length - ((splM mo) + 1))) (xs := [] ++ ((nth L1 i).cs.drop ((splM mo) + 1)).flatMap inV) ho3 (by rw [List.length_drop, Nat.zero_add]) (by rw [List.nil_append]) h aPk aPk aPk) fun L4 => ?_
   refine s_fact (fun w h => h.1) fun hS4 => ?_
   refine s_class (fun w h => h.2) ?_
   have hi4 : i < L4.length := by rw [hS4.len]; exact hi3
   have hN4 : nth L4 i = nth L3 i := hS4.other hi3 hne
   have hcr4 : (nth L4 i).ca = (nth L1 i).ca ∧ (nth L4 i).cc = (nth L1 i).cc ∧ (nth L4 i).cs = (nth L1 i).cs := by rw [hN4]; exact hcr3
   refine s_drawB [.blk bt 24 4 [.int .i64 (j : Int), .int .i64 mo, .int .i64 rm, .slice (some ⟨gn1, 0, none⟩) L1.length cap1], .blk gn1 102 (cap1 * 3) (L4.flatMap LNd.vals), .star (L4.map (subN 26)), .blk b1 102 3 (LNd.vals (nth L1 i)), .blk b2 26 2 (TEnt.vals (nth (nth L1 i).es (splM mo)))] [14] mixed ?_
   refine dP 0 ?_
   refine dP 1 ?_
   refine dFa 2 ?_
   refine dLd 3 [[]] ?_
   refine dP 4 ?_
   refine dFa 6 ?_
   refine dLd 7 [[]] ?_
   refine dP 8 ?_
   refine dP 9 ?_
   try refine dWr ?_
   refine d_p 10 rfl (p_slice _ _ 0 ((splM mo) + 1) rfl rfl sl_30 rfl ⟨_, _, rfl, (by omega)⟩ (by omega) (by omega)) (by kernel_rfl) rfl rfl ?_
   refine d_h 5 rfl (h_buildSlice0 rfl sl_30) (by kernel_rfl) (fun w h => h.ent aEt) rfl (fun b10 _ => ?_)
   refine d_h 11 rfl (h_appendS (((nth L1 i).cs.take ((splM mo) + 1)).flatMap inV) rfl rfl rfl sl_30 Tryz.underlying30 zr_3 rfl aPk (fun w h => Rw.src iv1 (rw_take (Rw.cut (i := 0) (cs_rowE hcr4 (HS.cs_row hi4 h aPk)) hrC.1) ((splM mo) + 1)) (HS.refl _ [])) (by rw [flat_length iv1, List.length_take]; omega) (flat_one iv1c _) (by omega) (by simp only [maxLen]; omega)) (by kernel_rfl) (fun w h => h.ent aEt) rfl (fun b11 _ => ?_)
   refine d_p 12 rfl (p_indexAddr rfl rfl rfl sl_22 (i) (by omega) (by omega) rfl) (by kernel_rfl) rfl rfl ?_
   refine d_slot (show _ = Value.pointer (some ⟨gn1, i * 3, none⟩) from by rw [Nat.zero_add]) ?_
   refine dFa 13 ?_
   refine dSt 14 ?_ (hl := (by rw [flat_length nv3]; show _ + 1 ≤ _; omega))
   refine dTu [] ?_
   refine dNi ?_
   refine s_ex (fun w h => HS.cs_setN (gn := gn1) (cap := cap1) (ca := b11.1) (cc := b11.2) (cs := (nth L1 i).cs.take ((splM mo) + 1)) (n := 0 + ((splM mo) + 1 - 0)) (xs := [] ++ ((nth L1 i).cs.take ((splM mo) + 1)).flatMap inV) hi4 (by rw [List.length_take]; omega) (by rw [List.nil_append]) h aPk aPk aPk) fun L5 => ?_
   refine s_fact (fun w h => h.1) fun hS5 => ?_
   refine s_class (fun w h => h.2) ?_
   exact s_joinI L5 ⟨by rw [hS5.cs, hS4.cs, hS3.es, hS2.es]; exact (splRA_1 hL1.symm (hL1.symm ▸ hxF) hcz).symm, by rw [hS5.len, hS4.len, hS3.len, hS2.len]⟩ aSx (fun w h => by rw [hS5.len, hS4.len, hS3.len, hS2.len]; exact h.ent aEt)
  try simp only [decide_eq_false_iff_not] at h7
  have hcz : (nth L1 i).cs.length = 0 := by have hq := h7; omega
  refine aS ?_
  exact s_joinI L3 ⟨by rw [hS3.es, hS2.es]; exact (splRA_0 hL1.symm (hL1.symm ▸ hxF) hcz).symm, by rw [hS3.len, hS2.len]⟩ aSx (fun w h => by rw [hS3.len, hS2.len]; exact h.ent aEt)
 intro LA hx
 obtain ⟨hA, hlA⟩ := hx
 have hpA : p < LA.length := by omega
 have hNA : (nth LA p).pl = nth (splRA mo (pln L) i) p := by rw [← pln_nth hpA, hA]
 have hEA : (nth LA p).es = (nth (splRA mo (pln L) i) p).es := congrArg Nd.es hNA
 have hCA : (nth LA p).cs = (nth (splRA mo (pln L) i) p).cs := congrArg Nd.cs hNA
 have hsAE := (hsA p).1
 have hsAC := (hsA p).2
 rw [← hEA] at hsAE
 rw [← hCA] at hsAC
 have hparE2 : (ixR (nth (splRA mo (pln L) i) p).cs (i : Int)) ≤ (nth LA p).es.length := by rw [hEA]; exact hparE
 have hparC2 : (ixR (nth (splRA mo (pln L) i) p).cs (i : Int)) + 1 ≤ (nth LA p).cs.length := by rw [hCA]; exact hparC
 iterate 7 refine aS ?_
 refine o_q (q_call rfl fn_100 rfl (fun w1 h1 => c100 w1 j mo rm (some ⟨gn1, 0, none⟩) cap1 LA p (i : Int) hpA (HS.nt_at h1 aPk aPk) (by omega) (by omega))) rfl ?_
 refine o_slot (show _ = Value.int .i64 ((ixR (nth (splRA mo (pln L) i) p).cs (i : Int)) : Int) from by rw [hCA]) ?_
 iterate 3 refine aS ?_
 refine s_draw [18] mixed ?_
 refine dP 0 ?_
 refine dP 1 ?_
 refine dFa 2 ?_
 refine dLd 3 [[]] ?_
 refine dP 4 ?_
 refine dP 5 ?_
 refine dP 6 ?_
 refine dFa 7 ?_
 refine dLd 8 [[]] ?_
 refine dP 9 ?_
 refine d_p 10 rfl (p_indexAddr rfl rfl rfl sl_22 (p) (by omega) (by omega) rfl) (by kernel_rfl) rfl rfl ?_
 refine d_slot (show _ = Value.pointer (some ⟨gn1, p * 3, none⟩) from by rw [Nat.zero_add]) ?_
 refine dFa 11 ?_
 refine d_q 12 [[]] rfl (q_load_at rfl rfl sz_77 (fun w h => HS.nd_cell hpA h aPk 1 rfl (by decide))) (by kernel_rfl) (by kernel_rfl) (by kernel_rfl) rfl ?_
 refine dP 13 ?_
 refine dLn 14 [[]] ?_
 refine d_h 15 rfl (h_call rfl fn_62 rfl (fun w1 h1 => c62 w1 (nth LA p).ea (nth LA p).ec (nth LA p).es (ixR (nth (splRA mo (pln L) i) p).cs (i : Int)) (nth (nth L1 i).es (splM mo)) (HS.es_row hpA h1 aPk) (by omega) hparE2 (HS.es_room hpA h1 aPk).1)) (by kernel_rfl) (fun w h => h.ent aEt) rfl (fun b12 _ => ?_)
 refine dBa ?_
 refine d_p 16 rfl (p_indexAddr rfl rfl rfl sl_22 (p) (by omega) (by omega) rfl) (by kernel_rfl) rfl rfl ?_
 refine d_slot (show _ = Value.pointer (some ⟨gn1, p * 3, none⟩) from by rw [Nat.zero_add]) ?_
 refine dFa 17 ?_
 refine dSt 18 ?_ (hl := (by rw [flat_length nv3]; show _ + 1 ≤ _; omega))
 refine dTu [] ?_
 refine dNi ?_
 refine s_weaken (L' := [(0, _), (1, _), (6, _), (10, _)]) aSx (fun _ h => h) ?_
 refine s_ex (fun w h => HS.es_set (gn := gn1) (cap := cap1) (ea := b12.1) (ec := b12.2) (es := insAt (nth LA p).es (ixR (nth (splRA mo (pln L) i) p).cs (i : Int)) (nth (nth L1 i).es (splM mo))) hpA h aPk aPk aPk) fun LB => ?_
 refine s_fact (fun w h => h.1) fun hSB => ?_
 refine s_class (fun w h => h.2) ?_
 have hpB : p < LB.length := by rw [hSB.len]; exact hpA
 have hBC : (nth LB p).cs = (nth LA p).cs := by rw [hSB.at_]
 have hBCl : (nth LB p).cs.length = (nth LA p).cs.length := by rw [hBC]
 refine s_draw [19] mixed ?_
 refine dP 0 ?_
 refine dP 1 ?_
 refine dFa 2 ?_
 refine dLd 3 [[]] ?_
 refine dP 4 ?_
 refine dP 5 ?_
 refine dP 6 ?_
 refine dFa 7 ?_
 refine dLd 8 [[]] ?_
 refine dP 9 ?_
 refine d_p 10 rfl (p_indexAddr rfl rfl rfl sl_22 (p) (by omega) (by omega) rfl) (by kernel_rfl) rfl rfl ?_
 refine d_slot (show _ = Value.pointer (some ⟨gn1, p * 3, none⟩) from by rw [Nat.zero_add]) ?_
 refine dFa 11 ?_
 refine d_q 12 [[]] rfl (q_load_at rfl rfl sz_30 (fun w h => HS.nd_cell hpB h aPk 2 rfl (by decide))) (by kernel_rfl) (by kernel_rfl) (by kernel_rfl) rfl ?_
 refine dP 13 ?_
 refine dP 14 ?_
 try refine dWr ?_
 refine dP 15 ?_
 refine d_h 16 rfl (h_call rfl fn_101 rfl (fun w1 h1 => c101 w1 (nth LB p).ca (nth LB p).cc (nth LB p).cs ((ixR (nth (splRA mo (pln L) i) p).cs (i : Int)) + 1) ((frsN (pln L)).1 : Int) (HS.cs_row hpB h1 aPk) (by omega) (by omega) (HS.cs_room hpB h1 aPk).1)) (by kernel_rfl) (fun w h => h.ent aEt) rfl (fun b13 _ => ?_)
 refine dBa ?_
 refine d_p 17 rfl (p_indexAddr rfl rfl rfl sl_22 (p) (by omega) (by omega) rfl) (by kernel_rfl) rfl rfl ?_
 refine d_slot (show _ = Value.pointer (some ⟨gn1, p * 3, none⟩) from by rw [Nat.zero_add]) ?_
 refine dFa 18 ?_
 refine dSt 19 ?_ (hl := (by rw [flat_length nv3]; show _ + 1 ≤ _; omega))
 refine dTu [] ?_
 refine dNi ?_
 exact s_end0 rfl (fun w' h' => by obtain ⟨LC, hSC, hC⟩ := HS.cs_set (gn := gn1) (cap := cap1) (ca := b13.1) (cc := b13.2) (cs := insAt (nth LB p).cs ((ixR (nth (splRA mo (pln L) i) p).cs (i : Int)) + 1) ((frsN (pln L)).1 : Int)) hpB h' aPk aPk aPk; exact ⟨((gn1, cap1), LC), rfl, ⟨by rw [hSC.cs, hBC, hSB.es, hA, hEA, hCA]; unfold splR addP; rw [hxF]; rfl, by simp only []; rw [hSC.len, hSB.len, hlA]; exact hn1, hm1⟩, by simp only []; rw [hSC.len, hSB.len]; exact hC.ent aEt⟩)
theorem fn_17 : isFn Tryz.prog 17 = true := by kernel_rfl
theorem fn_20 : isFn Tryz.prog 20 = true := by kernel_rfl
theorem fn_63 : isFn Tryz.prog 63 = true := by kernel_rfl
set_option maxHeartbeats 400000 in
theorem c22 (w : World) (j : Nat) (mo rm : Int) (a : Option Addr) (cap : Nat) (L : List LNd) (x : TEnt) (hj : j ≤ 3) (h0 : 0 < L.length) (hB : Bd (pln L)) (hT : TOk (j : Int) (pln L)) (hs : Nt w [] a L) (hk : keyOk (j : Int) x.key = true) (hkl : x.key.length ≤ 1000000) (hok0 : InsROk (j : Int) mo rm (pln L) x) : Calls Tryz.prog 22 #[.agg #[.int .i64 (j : Int), .int .i64 mo, .int .i64 rm, .slice a L.length cap], .agg #[.string (bs x.key), .string (bs x.val)]] w fun en w' => ∃ g : (Option Addr × Nat) × List LNd, en = .returned (.agg #[.int .i64 (j : Int), .int .i64 mo, .int .i64 rm, .slice g.1.1 g.2.length g.1.2]) ∧ pln g.2 = insR (j : Int) mo rm (pln L) x ∧ HS w [] [.nodes 26 102 g.1.1 g.1.2 g.2] w' := by
 have hln0 := hB.len
 rw [pln_len] at hln0
 have hsmB : Sm 1000 (pln L) := sm_bd2 hB
 refine enter (args := [_, _]) Tryz.func22 Tryz.ntmps22 rfl rfl (HS.refl w []) ?_
 iterate 2 refine aS ?_
 refine oBx fun b1 _ => ?_
 refine oBx fun b2 _ => ?_
 refine oAl (fun b3 _ => ?_) zr_24
 iterate 4 refine aS ?_
 refine o_h (h_call rfl fn_17 rfl (fun w1 h1 => c17 w1 (j : Int) mo rm a cap L (hs.later h1.nil) hln0 hsmB)) rfl (fun ⟨⟨ga0, gc0⟩, L9⟩ hF9 => ?_)
 dsimp only
 have hL9 : pln L9 = pln L := hF9
 have hl9 : L9.length = L.length := by rw [← pln_len L9, hL9, pln_len]
 have h09 : 0 < L9.length := by omega
 refine o_ex (fun w h => nodes_split h09 h aPk) fun gn => ?_
 refine o_fact (p := ga0 = some ⟨gn, 0, none⟩ ∧ L9.length ≤ gc0 ∧ gc0 ≤ maxLen) (fun w h => ⟨h.1, h.2.1, h.2.2.1⟩) fun hgn => ?_
 obtain ⟨hga, hn9, hm9⟩ := hgn
 subst hga
 refine o_class (fun w h => h.2.2.2) ?_
 have hB9 : Bd (pln L9) := by rw [hL9]; exact hB
 have hT9 : TOk (j : Int) (pln L9) := by rw [hL9]; exact hT
 have hK9 : ∀ i, i < L9.length → ∀ y ∈ (nth L9 i).es, keyOk (j : Int) y.key = true ∧ y.key.length ≤ 1000000 := fun i hi y hy => tok_key hT9 i (by rw [pln_len]; exact hi) y (by rw [pln_nth hi]; exact hy)
 have hok : InsROk (j : Int) mo rm (pln L9) x := by rw [hL9]; exact hok0
 have hne := hok.ne
 have hlen9 := hok.len
 have hlf := hok.lf
 rw [pln_len] at hlf
 have hel9 := hB9.es _ (by rw [pln_len]; exact hlf)
 rw [pln_nth hlf] at hel9
 simp only [LNd.pl] at hel9
 refine oAl (fun b4 _ => ?_) zr_24
 refine oSt ?_
 iterate 6 refine aS ?_
 refine o_h (h_call rfl fn_20 rfl (fun w1 h1 => c20 w1 j mo rm (some ⟨gn, 0, none⟩) gc0 L9 x.key hj h09 hB9 hT9 (HS.nt_at h1 aPk aPk) hk hkl)) rfl (fun ⟨pa, pc⟩ _ => ?_)
 dsimp only
 refine o_fact (fun w h => HS.pown_some (P := (pathN (j : Int) (pln L9) x.key).1) (a := pa) (c := pc) hne h aPk) fun hpa => ?_
 obtain ⟨gp, hpa⟩ := hpa
 iterate 12 refine aS ?_
 try refine oWr ?_
 refine o_p (p_indexAddr rfl rfl rfl sl_30 ((pathN (j : Int) (pln L9) x.key).1.length - 1) (by omega) (by omega) hpa) rfl ?_
 refine o_q (q_load_at rfl rfl sz_3 (fun w h => HS.pown_rd (P := (pathN (j : Int) (pln L9) x.key).1) (a := pa) (c := pc) (k := (pathN (j : Int) (pln L9) x.key).1.length - 1) (by omega) hpa h aPk)) rfl ?_
 refine o_slot (show _ = Value.int .i64 ((lastN (pathN (j : Int) (pln L9) x.key).1) : Int) from rfl) ?_
 iterate 8 refine aS ?_
 refine o_q (q_call rfl fn_61 rfl (fun w1 h1 => c61 w1 j mo rm (some ⟨gn, 0, none⟩) gc0 L9 (lastN (pathN (j : Int) (pln L9) x.key).1) x.key hj hlf (HS.nt_at h1 aPk aPk) (by omega) hel9 (hK9 _ hlf) hk hkl)) rfl ?_
 iterate 7 refine aS ?_
 refine s_weaken (L' := [(3, _), (4, _), (5, _), (6, _), (8, _), (9, _)]) aSx (fun _ h => h) ?_
 refine s_draw [14] mixed ?_
 refine dFa 0 ?_
 refine dLd 1 [[]] ?_
 refine dP 2 ?_
 refine dFa 3 ?_
 refine dLd 4 [[]] ?_
 refine dP 5 ?_
 refine d_p 6 rfl (p_indexAddr rfl rfl rfl sl_22 ((lastN (pathN (j : Int) (pln L9) x.key).1)) (by omega) (by omega) rfl) (by kernel_rfl) rfl rfl ?_
 refine d_slot (show _ = Value.pointer (some ⟨gn, (lastN (pathN (j : Int) (pln L9) x.key).1) * 3, none⟩) from by rw [Nat.zero_add]) ?_
 refine dFa 7 ?_
 refine d_q 8 [[]] rfl (q_load_at rfl rfl sz_77 (fun w h => HS.nd_cell hlf h aPk 1 rfl (by decide))) (by kernel_rfl) (by kernel_rfl) (by kernel_rfl) rfl ?_
 refine dP 9 ?_
 refine dLn 10 [[]] ?_
 refine d_h 11 rfl (h_call rfl fn_62 rfl (fun w1 h1 => c62 w1 (nth L9 (lastN (pathN (j : Int) (pln L9) x.key).1)).ea (nth L9 (lastN (pathN (j : Int) (pln L9) x.key).1)).ec (nth L9 (lastN (pathN (j : Int) (pln L9) x.key).1)).es (plc (j : Int) (nth L9 (lastN (pathN (j : Int) (pln L9) x.key).1)).es x.key) x (HS.es_row hlf h1 aPk) (by omega) (plc_le _ _ _) (HS.es_room hlf h1 aPk).1)) (by kernel_rfl) (fun w h => h.ent aEt) rfl (fun b5 _ => ?_)
 refine dBa ?_
 refine d_p 12 rfl (p_indexAddr rfl rfl rfl sl_22 ((lastN (pathN (j : Int) (pln L9) x.key).1)) (by omega) (by omega) rfl) (by kernel_rfl) rfl rfl ?_
 refine d_slot (show _ = Value.pointer (some ⟨gn, (lastN (pathN (j : Int) (pln L9) x.key).1) * 3, none⟩) from by rw [Nat.zero_add]) ?_
 refine dFa 13 ?_
 refine dSt 14 ?_ (hl := (by rw [flat_length nv3]; show _ + 1 ≤ _; omega))
 refine dTu [] ?_
 refine dNi ?_
 iterate 4 refine aS ?_
 refine o_ex (fun w h => HS.es_set (gn := gn) (cap := gc0) (ea := b5.1) (ec := b5.2) (es := insAt (nth L9 (lastN (pathN (j : Int) (pln L9) x.key).1)).es (plc (j : Int) (nth L9 (lastN (pathN (j : Int) (pln L9) x.key).1)).es x.key) x) hlf h aPk aPk aPk) fun L1 => ?_
 refine o_fact (fun w h => h.1) fun hS1 => ?_
 refine o_class (fun w h => h.2) ?_
 have hL1 : pln L1 = (insRB (j : Int) (pln L9) x) := by rw [hS1.es, insRB, pln_nth hlf]; rfl
 refine o_class (C' := HS w [] [.blk b4 24 4 [.int .i64 (j : Int), .int .i64 mo, .int .i64 rm, .slice (some ⟨gn, 0, none⟩) (L1).length gc0], .blk gn 102 (gc0 * 3) ((L1).flatMap LNd.vals), .star ((L1).map (subN 26)), .own (.slice pa ((pathN (j : Int) (pln L9) x.key).1).length pc) 3 1 ((pathN (j : Int) (pln L9) x.key).1).length (((pathN (j : Int) (pln L9) x.key).1).map fun i : Nat => Value.int .i64 (i : Int)), .blk b2 26 2 (TEnt.vals x), .blk b3 24 4 [.int .i64 0, .int .i64 0, .int .i64 0, .slice none 0 0]]) (fun w2 h => by rw [hS1.len]; exact h.ent aEt) ?_
 iterate 2 refine aS ?_
 try refine oWr ?_
 refine o_slot (show _ = Value.int .i64 (((pathN (j : Int) (pln L9) x.key).1.length - 1 : Nat) : Int) from by congr 1; omega) ?_
 iterate 3 refine aS ?_
 refine s_weaken (L' := [(4, _), (5, _), (6, _), (11, _)]) aSx (fun _ h => h) ?_
 refine s_loopI (α := ((Nat × Nat) × List LNd) × Nat) [11, 53, 54, 55, 56, 57, 58, 59, 60, 61, 62, 63, 64, 65, 66, 67, 68, 69, 70, 71, 72, 73, 74, 75, 76, 77, 78, 79] (fun y => [(11, .int .i64 (y.2 : Int))]) (fun y => HS w [] [.blk b4 24 4 [.int .i64 (j : Int), .int .i64 mo, .int .i64 rm, .slice (some ⟨y.1.1.1, 0, none⟩) (y.1.2).length y.1.1.2], .blk y.1.1.1 102 (y.1.1.2 * 3) ((y.1.2).flatMap LNd.vals), .star ((y.1.2).map (subN 26)), .own (.slice pa ((pathN (j : Int) (pln L9) x.key).1).length pc) 3 1 ((pathN (j : Int) (pln L9) x.key).1).length (((pathN (j : Int) (pln L9) x.key).1).map fun i : Nat => Value.int .i64 (i : Int)), .blk b2 26 2 (TEnt.vals x), .blk b3 24 4 [.int .i64 0, .int .i64 0, .int .i64 0, .slice none 0 0]]) (fun y => grwRW mo (pathN (j : Int) (pln L9) x.key).1 y.2 (pln y.1.2) = grwRW mo (pathN (j : Int) (pln L9) x.key).1 ((pathN (j : Int) (pln L9) x.key).1.length - 1) (insRB (j : Int) (pln L9) x) ∧ GrwROk mo (pathN (j : Int) (pln L9) x.key).1 y.2 (pln y.1.2) ∧ y.2 < (pathN (j : Int) (pln L9) x.key).1.length ∧ y.1.2.length ≤ y.1.1.2 ∧ y.1.1.2 ≤ maxLen) (fun y => y.2) (((gn, gc0), L1), (pathN (j : Int) (pln L9) x.key).1.length - 1) ⟨by rw [hL1], by rw [hL1]; exact hok.grw, by simp only []; omega, by simp only []; rw [hS1.len]; exact hn9, hm9⟩ aSx (fun w h => h.ent aEt) (fun ⟨⟨⟨ga, gc⟩, Lk⟩, k⟩ hx => ?_)
 dsimp only
 obtain ⟨hx1, hx2, hx3, hx4, hx5⟩ := hx
 simp only [] at hx1 hx2 hx3 hx4 hx5
 iterate 6 refine aS ?_
 refine s_cond rfl (fun h6 => ?_) fun h6 => ?_
 ·try simp only [decide_eq_true_eq] at h6
  obtain ⟨k1, rfl⟩ : ∃ k1, k = k1 + 1 := ⟨k - 1, by omega⟩
  obtain ⟨hkl9, hsp⟩ := hx2.1
  rw [pln_len] at hkl9
  rw [pln_nth hkl9] at hsp
  simp only [LNd.pl] at hsp
  iterate 4 refine aS ?_
  refine s_draw [] mixed ?_
  refine dFa 0 ?_
  refine dLd 1 [] ?_
  refine dP 2 ?_
  refine dP 3 ?_
  refine d_p 4 rfl (p_indexAddr rfl rfl rfl sl_30 (k1 + 1) (by omega) (by omega) hpa) (by kernel_rfl) rfl rfl ?_
  refine d_q 5 [] rfl (q_load_at rfl rfl sz_3 (fun w h => HS.pown_rd (P := (pathN (j : Int) (pln L9) x.key).1) (a := pa) (c := pc) (k := k1 + 1) (by omega) hpa h aPk)) (by kernel_rfl) (by kernel_rfl) (by kernel_rfl) rfl ?_
  refine d_p 6 rfl (p_indexAddr rfl rfl rfl sl_22 ((nth (pathN (j : Int) (pln L9) x.key).1 (k1 + 1))) (by omega) (by omega) rfl) (by kernel_rfl) rfl rfl ?_
  refine d_slot (show _ = Value.pointer (some ⟨ga, (nth (pathN (j : Int) (pln L9) x.key).1 (k1 + 1)) * 3, none⟩) from by rw [Nat.zero_add]) ?_
  refine dFa 7 ?_
  refine d_q 8 [] rfl (q_load_at rfl rfl sz_77 (fun w h => HS.nd_cell hkl9 h aPk 1 rfl (by decide))) (by kernel_rfl) (by kernel_rfl) (by kernel_rfl) rfl ?_
  refine d_p 9 rfl (p_len_slice rfl rfl Tryz.underlying77) (by kernel_rfl) rfl rfl ?_
  refine dFa 10 ?_
  refine dLd 11 [] ?_
  refine dP 12 ?_
  refine dNi ?_
  refine s_cond rfl (fun h7 => ?_) fun h7 => ?_
  ·try simp only [decide_eq_true_eq] at h7
   have hbig : mo < ((nth Lk (nth (pathN (j : Int) (pln L9) x.key).1 (k1 + 1))).es.length : Int) := h7
   refine s_draw [9] mixed ?_
   refine dP 0 ?_
   refine dP 1 ?_
   refine dP 2 ?_
   try refine dWr ?_
   refine d_p 3 rfl (p_indexAddr rfl rfl rfl sl_30 (k1) (by omega) (by omega) hpa) (by kernel_rfl) rfl rfl ?_
   refine d_q 4 [[]] rfl (q_load_at rfl rfl sz_3 (fun w h => HS.pown_rd (P := (pathN (j : Int) (pln L9) x.key).1) (a := pa) (c := pc) (k := k1) (by omega) hpa h aPk)) (by kernel_rfl) (by kernel_rfl) (by kernel_rfl) rfl ?_
   refine dP 5 ?_
   refine dP 6 ?_
   refine d_p 7 rfl (p_indexAddr rfl rfl rfl sl_30 (k1 + 1) (by omega) (by omega) hpa) (by kernel_rfl) rfl rfl ?_
   refine d_q 8 [[]] rfl (q_load_at rfl rfl sz_3 (fun w h => HS.pown_rd (P := (pathN (j : Int) (pln L9) x.key).1) (a := pa) (c := pc) (k := k1 + 1) (by omega) hpa h aPk)) (by kernel_rfl) (by kernel_rfl) (by kernel_rfl) rfl ?_
   refine d_h 9 rfl (h_callF (Cs := [.blk b4 24 4 [.int .i64 (j : Int), .int .i64 mo, .int .i64 rm, .slice (some ⟨ga, 0, none⟩) (Lk).length gc], .blk ga 102 (gc * 3) ((Lk).flatMap LNd.vals), .star ((Lk).map (subN 26))]) rfl fn_63 rfl aPs (fun w1 h1 hf => c63 w1 b4 j mo rm ga gc Lk (nth (pathN (j : Int) (pln L9) x.key).1 k1) (nth (pathN (j : Int) (pln L9) x.key).1 (k1 + 1)) hf hx4 hx5 (hsp hbig))) (by kernel_rfl) (fun w h => h.ent aEt) rfl (fun ⟨⟨g5, c5⟩, L5⟩ hF5 => ?_)
   refine dTu [] ?_
   refine dNi ?_
   iterate 4 refine aS ?_
   try refine oWr ?_
   iterate 2 refine aS ?_
   exact s_backI (((g5, c5), L5), k1) (by (try simp only []); omega) ⟨by simp only []; rw [hF5.1, ← hx1, grwRW, if_pos (by rw [pln_nth hkl9]; exact hbig)], by simp only []; rw [hF5.1]; have h9 := hx2.2; rw [if_pos (by rw [pln_nth hkl9]; exact hbig)] at h9; exact h9, by simp only []; omega, hF5.2.1, hF5.2.2⟩ (by refine sl_c (congrArg (fun e => some (Value.int .i64 e)) (show _ = _ from by simp only []; omega)) ?_; repeat (first | exact sl_n | refine sl_c rfl ?_)) (fun w h => h.ent aEt)
  try simp only [decide_eq_false_iff_not] at h7
  have hbig : ¬ mo < ((nth Lk (nth (pathN (j : Int) (pln L9) x.key).1 (k1 + 1))).es.length : Int) := by have hq := h7; omega
  iterate 5 refine aS ?_
  try refine oWr ?_
  iterate 2 refine aS ?_
  exact s_backI (((ga, gc), Lk), k1) (by (try simp only []); omega) ⟨by simp only []; rw [← hx1, grwRW, if_neg (by rw [pln_nth hkl9]; exact hbig)], by simp only []; have h9 := hx2.2; rw [if_neg (by rw [pln_nth hkl9]; exact hbig)] at h9; exact h9, by simp only []; omega, hx4, hx5⟩ (by refine sl_c (congrArg (fun e => some (Value.int .i64 e)) (show _ = _ from by simp only []; omega)) ?_; repeat (first | exact sl_n | refine sl_c rfl ?_)) (fun w h => h.ent aEt)
 try simp only [decide_eq_false_iff_not] at h6
 obtain rfl : k = 0 := by omega
 have hLG : pln Lk = grwRW mo (pathN (j : Int) (pln L9) x.key).1 ((pathN (j : Int) (pln L9) x.key).1.length - 1) (insRB (j : Int) (pln L9) x) := hx1
 obtain ⟨LG, rfl⟩ : ∃ LG, LG = Lk := ⟨_, rfl⟩
 have hrt : RootROk mo rm (pln LG) := by rw [hLG]; exact hok.root
 have hiG : 0 < LG.length := by rw [← pln_len]; exact hrt.lt
 have hlG := hrt.len
 rw [pln_len] at hlG
 refine s_exit_to rfl ?_
 iterate 2 refine aS ?_
 refine s_draw [] mixed ?_
 refine dFa 0 ?_
 refine dLd 1 [] ?_
 refine d_p 2 rfl (p_indexAddr rfl rfl rfl sl_22 (0) (by omega) (by omega) rfl) (by kernel_rfl) rfl rfl ?_
 refine d_slot (show _ = Value.pointer (some ⟨ga, 0 * 3, none⟩) from by rw [Nat.zero_add]) ?_
 refine dFa 3 ?_
 refine d_q 4 [] rfl (q_load_at rfl rfl sz_77 (fun w h => HS.nd_cell hiG h aPk 1 rfl (by decide))) (by kernel_rfl) (by kernel_rfl) (by kernel_rfl) rfl ?_
 refine d_p 5 rfl (p_len_slice rfl rfl Tryz.underlying77) (by kernel_rfl) rfl rfl ?_
 refine dFa 6 ?_
 refine dLd 7 [] ?_
 refine dP 8 ?_
 refine dNi ?_
 refine s_weaken (L' := [(4, _), (5, _), (6, _), (11, _), (88, _)]) aSx (fun _ h => h) ?_
 refine s_cutI (α := (Nat × Nat) × List LNd) [12, 89, 90, 91, 92, 93, 94, 95, 96, 97, 98, 99, 100, 101, 102, 103, 104, 105, 106, 107, 108, 109, 110, 111, 112, 113, 114, 115, 116, 117, 118, 119, 120, 121, 122, 123, 124, 125, 126, 127, 128, 129, 130, 131] (fun _ => []) (fun y => HS w [] [.blk b4 24 4 [.int .i64 (j : Int), .int .i64 mo, .int .i64 rm, .slice (some ⟨y.1.1, 0, none⟩) (y.2).length y.1.2], .blk y.1.1 102 (y.1.2 * 3) ((y.2).flatMap LNd.vals), .star ((y.2).map (subN 26)), .blk b3 24 4 [.int .i64 0, .int .i64 0, .int .i64 0, .slice none 0 0]]) (fun y => pln y.2 = grwRR mo rm (pln LG) ∧ y.2.length ≤ y.1.2 ∧ y.1.2 ≤ maxLen) ?_ ?_
 ·skip
  refine s_cond rfl (fun h8 => ?_) fun h8 => ?_
  ·try simp only [decide_eq_true_eq] at h8
   have hbR : rm < ((nth (pln LG) 0).es.length : Int) := by rw [pln_nth hiG]; exact h8
   iterate 2 refine aS ?_
   refine o_h (h_callF (Cs := [.blk b4 24 4 [.int .i64 (j : Int), .int .i64 mo, .int .i64 rm, .slice (some ⟨ga, 0, none⟩) (LG).length gc], .blk ga 102 (gc * 3) ((LG).flatMap LNd.vals), .star ((LG).map (subN 26))]) rfl fn_64 rfl aPs (fun w1 h1 hf => c64 w1 b4 j mo rm ga gc LG hf hx4 hx5 hiG (by omega))) rfl (fun ⟨⟨g6, c6⟩, L6⟩ hF6 => ?_)
   dsimp only
   obtain ⟨hL6, hn6, hm6⟩ := hF6
   simp only [] at hL6 hn6 hm6
   have hi6 : 0 < L6.length := by have := frsN_len (pln LG); rw [← pln_len, hL6]; rw [pln_len] at this; omega
   have ho6 : (frsN (pln LG)).1 < L6.length := by rw [← pln_len, hL6]; exact frsN_lt _
   have hon : (frsN (pln LG)).1 ≠ 0 := by have := frsN_ge (ns := pln LG) (by rw [pln_len]; exact hiG); omega
   iterate 3 refine aS ?_
   refine s_draw [18, 21] mixed ?_
   refine dFa 0 ?_
   refine dLd 1 [[], []] ?_
   refine dP 2 ?_
   refine dFa 3 ?_
   refine dLd 4 [[], []] ?_
   refine dP 5 ?_
   refine dFa 6 ?_
   refine dLd 7 [[], []] ?_
   refine d_p 8 rfl (p_indexAddr rfl rfl rfl sl_22 (0) (by omega) (by omega) rfl) (by kernel_rfl) rfl rfl ?_
   refine d_slot (show _ = Value.pointer (some ⟨g6, 0 * 3, none⟩) from by rw [Nat.zero_add]) ?_
   refine dFa 9 ?_
   refine d_q 10 [[], []] rfl (q_load_at rfl rfl sz_77 (fun w h => HS.nd_cell hi6 h aPk 1 rfl (by decide))) (by kernel_rfl) (by kernel_rfl) (by kernel_rfl) rfl ?_
   refine dFa 11 ?_
   refine dLd 12 [[], []] ?_
   refine d_p 13 rfl (p_indexAddr rfl rfl rfl sl_22 (0) (by omega) (by omega) rfl) (by kernel_rfl) rfl rfl ?_
   refine d_slot (show _ = Value.pointer (some ⟨g6, 0 * 3, none⟩) from by rw [Nat.zero_add]) ?_
   refine dFa 14 ?_
   refine d_q 15 [[], []] rfl (q_load_at rfl rfl sz_30 (fun w h => HS.nd_cell hi6 h aPk 2 rfl (by decide))) (by kernel_rfl) (by kernel_rfl) (by kernel_rfl) rfl ?_
   refine d_p 16 rfl (p_indexAddr rfl rfl rfl sl_22 ((frsN (pln LG)).1) (by omega) (by omega) rfl) (by kernel_rfl) rfl rfl ?_
   refine d_slot (show _ = Value.pointer (some ⟨g6, (frsN (pln LG)).1 * 3, none⟩) from by rw [Nat.zero_add]) ?_
   refine dFa 17 ?_
   refine dSt 18 ?_ (hl := (by rw [flat_length nv3]; show _ + 1 ≤ _; omega))
   refine dTu [21] ?_
   refine d_p 19 rfl (p_indexAddr rfl rfl rfl sl_22 ((frsN (pln LG)).1) (by omega) (by omega) rfl) (by kernel_rfl) rfl rfl ?_
   refine d_slot (show _ = Value.pointer (some ⟨g6, (frsN (pln LG)).1 * 3, none⟩) from by rw [Nat.zero_add]) ?_
   refine dFa 20 ?_
   refine d_h0 21 rfl (h_store rfl rfl rfl sz_30 rfl aPt (by rw [setMany_length, flat_length nv3]; show _ + 1 ≤ _; omega) rfl) (by kernel_rfl) (fun w h => h.ent aEt) (fun _ _ => ?_)
   refine dTu [] ?_
   refine dNi ?_
   iterate 3 refine aS ?_
   refine o_ex (fun w h => HS.node_move (i := 0) (gn := g6) (cap := c6) hi6 ho6 (fun e => hon e.symm) h aPk aPk) fun L7 => ?_
   refine o_fact (fun w h => h.1) fun hS7 => ?_
   refine o_class (fun w h => h.2) ?_
   have hi7 : 0 < L7.length := by rw [hS7.len]; exact hi6
   have hN7 : nth L7 0 = nth L6 0 := hS7.other hi6 hon
   rw [← hN7]
   iterate 4 refine aS ?_
   refine o_h (h_buildSlice (cs := [_]) rfl rfl sl_30 zr_3 rfl rfl rfl) rfl (fun b9 _ => ?_)
   refine o_p (p_indexAddr rfl rfl rfl sl_22 (0) (by omega) (by omega) rfl) rfl ?_
   refine o_slot (show _ = Value.pointer (some ⟨g6, 0 * 3, none⟩) from by rw [Nat.zero_add]) ?_
   refine aS ?_
   refine o_h0 (h_store rfl rfl rfl sz_77 rfl aPt (by rw [flat_length nv3]; show _ + 1 ≤ _; omega) rfl) (fun _ _ => ?_)
   refine o_p (p_indexAddr rfl rfl rfl sl_22 (0) (by omega) (by omega) rfl) rfl ?_
   refine o_slot (show _ = Value.pointer (some ⟨g6, 0 * 3, none⟩) from by rw [Nat.zero_add]) ?_
   refine aS ?_
   refine o_h0 (h_store rfl rfl rfl sz_30 rfl aPt (by rw [setMany_length, flat_length nv3]; show _ + 1 ≤ _; omega) rfl) (fun _ _ => ?_)
   iterate 2 refine aS ?_
   refine s_weaken (L' := [(4, _), (5, _), (6, _), (11, _), (12, _), (88, _)]) aSx (fun _ h => h) ?_
   refine s_ex (fun w h => HS.node_low (i := 0) (gn := g6) (cap := c6) (ca := some ⟨b9, 0, none⟩) (cc := 1) (cs := [((frsN (pln LG)).1 : Int)]) hi7 (HS.own_shut (t := 3) (sz := 1) (n := 1) (cap := 1) (h.pick (A := .blk b9 3 (1 * 1) (inV ((frsN (pln LG)).1 : Int))) aPk) rfl (by decide) (by decide)) (.there aPk) .here aPk) fun L8 => ?_
   refine s_fact (fun w h => h.1) fun hS8 => ?_
   refine s_class (fun w h => h.2) ?_
   have ho8 : (frsN (pln LG)).1 < L8.length := by rw [hS8.len, hS7.len]; exact ho6
   have hl8 : L8.length = L6.length := by rw [hS8.len, hS7.len]
   have hL8 : pln L8 = (lowR (pln LG)).2 := lowR_eq hL6 hi6 ho6 hS7 hS8 hi7
   refine s_class (C' := HS w [] [.blk b4 24 4 [.int .i64 (j : Int), .int .i64 mo, .int .i64 rm, .slice (some ⟨g6, 0, none⟩) (L8).length c6], .blk g6 102 (c6 * 3) ((L8).flatMap LNd.vals), .star ((L8).map (subN 26)), .own (.slice pa ((pathN (j : Int) (pln L9) x.key).1).length pc) 3 1 ((pathN (j : Int) (pln L9) x.key).1).length (((pathN (j : Int) (pln L9) x.key).1).map fun i : Nat => Value.int .i64 (i : Int)), .blk b2 26 2 (TEnt.vals x), .blk b3 24 4 [.int .i64 0, .int .i64 0, .int .i64 0, .slice none 0 0]]) (fun w2 h => by rw [hl8]; exact h.ent aEt) ?_
   refine s_draw [] mixed ?_
   refine dFa 0 ?_
   refine dLd 1 [] ?_
   refine dP 2 ?_
   refine d_p 3 rfl (p_indexAddr rfl rfl rfl sl_22 ((frsN (pln LG)).1) (by omega) (by omega) rfl) (by kernel_rfl) rfl rfl ?_
   refine d_slot (show _ = Value.pointer (some ⟨g6, (frsN (pln LG)).1 * 3, none⟩) from by rw [Nat.zero_add]) ?_
   refine dFa 4 ?_
   refine d_q 5 [] rfl (q_load_at rfl rfl sz_77 (fun w h => HS.nd_cell ho8 h aPk 1 rfl (by decide))) (by kernel_rfl) (by kernel_rfl) (by kernel_rfl) rfl ?_
   refine d_p 6 rfl (p_len_slice rfl rfl Tryz.underlying77) (by kernel_rfl) rfl rfl ?_
   refine dFa 7 ?_
   refine dLd 8 [] ?_
   refine dP 9 ?_
   refine dNi ?_
   refine s_cond rfl (fun h10 => ?_) fun h10 => ?_
   ·try simp only [decide_eq_true_eq] at h10
    have hb8 : mo < ((nth (lowR (pln LG)).2 (lowR (pln LG)).1).es.length : Int) := by rw [← hL8, show (lowR (pln LG)).1 = (frsN (pln LG)).1 from rfl, pln_nth ho8]; exact h10
    have hspR := hrt.spl hbR hb8
    iterate 2 refine aS ?_
    refine o_h (h_callF (Cs := [.blk b4 24 4 [.int .i64 (j : Int), .int .i64 mo, .int .i64 rm, .slice (some ⟨g6, 0, none⟩) (L8).length c6], .blk g6 102 (c6 * 3) ((L8).flatMap LNd.vals), .star ((L8).map (subN 26))]) rfl fn_63 rfl aPs (fun w1 h1 hf => c63 w1 b4 j mo rm g6 c6 L8 0 (frsN (pln LG)).1 hf (by omega) hm6 (by rw [hL8]; exact hspR))) rfl (fun ⟨⟨g7, c7⟩, L9b⟩ hF7 => ?_)
    refine aS ?_
    exact s_joinI ((g7, c7), L9b) ⟨by rw [grwRR, if_pos hbR, if_pos hb8, ← hL8]; exact hF7.1, hF7.2.1, hF7.2.2⟩ aSx (fun w h => h.ent aEt)
   try simp only [decide_eq_false_iff_not] at h10
   have hb8 : ¬ mo < ((nth (lowR (pln LG)).2 (lowR (pln LG)).1).es.length : Int) := by rw [← hL8, show (lowR (pln LG)).1 = (frsN (pln LG)).1 from rfl, pln_nth ho8]; have hq := h10; simp only [LNd.pl]; omega
   refine aS ?_
   exact s_joinI ((g6, c6), L8) ⟨by rw [grwRR, if_pos hbR, if_neg hb8]; exact hL8, by simp only []; omega, hm6⟩ aSx (fun w h => h.ent aEt)
  try simp only [decide_eq_false_iff_not] at h8
  have hbR : ¬ rm < ((nth (pln LG) 0).es.length : Int) := by rw [pln_nth hiG]; have hq := h8; simp only [LNd.pl]; omega
  refine aS ?_
  exact s_joinI ((ga, gc), LG) ⟨by rw [grwRR, if_neg hbR], hx4, hx5⟩ aSx (fun w h => h.ent aEt)
 intro ⟨⟨gz, cz⟩, LZ⟩ hz
 dsimp only
 obtain ⟨hz1, hz2, hz3⟩ := hz
 simp only [] at hz1 hz2 hz3
 iterate 3 refine aS ?_
 refine o_h0 (h_store rfl rfl rfl sz_24 rfl aPt (by show 4 ≤ 4; omega) rfl) (fun _ _ => ?_)
 refine aS ?_
 exact s_retv (rs := [.cell 4 24]) rfl (.cell rfl sz_24 aPk rfl (.nil)) (fun w' h' => ⟨((some ⟨gz, 0, none⟩, cz), LZ), rfl, by rw [hz1, hLG, ← hL9]; rfl, nodes_join (h'.ent (Bs := [.blk gz 102 (cz * 3) (LZ.flatMap LNd.vals), .star (LZ.map (subN 26))]) aEt) hz2 hz3⟩)
end Go.Proofs
namespace Gx
set_option linter.unusedSimpArgs false
set_option linter.unusedVariables false
set_option linter.unusedSectionVars false
open Go Go.RowKit
theorem HS.sub_one {w0 w : World} {M : List Nat} {As : List HA} {a : Option Addr} {c : Nat} {et : Nat} (h : HS w0 M (.own (.slice none 0 0) et 2 0 [] :: .own (.slice none 0 0) 3 1 0 [] :: .own (.slice a 1 c) 102 3 1 [.bool true, .slice none 0 0, .slice none 0 0] :: As) w) : HS w0 M (.own (.slice a 1 c) 102 3 1 [.bool true, .slice none 0 0, .slice none 0 0] :: .star ([(LNd.fre : LNd)].map (subN et)) :: As) w := by
  have h1 := HS.star_close (Bs := [_, _]) h
  have h2 : HS w0 M (.star [.star [.own (.slice none 0 0) et 2 0 [], .own (.slice none 0 0) 3 1 0 []]] :: .own (.slice a 1 c) 102 3 1 [.bool true, .slice none 0 0, .slice none 0 0] :: As) w := HS.star_close (Bs := [_]) h1
  exact h2.perm (List.Perm.swap ..)
def smB (m : Nat) (ns : List Nd) : Bool := ns.all fun n => decide (n.es.length ≤ m) && decide (n.cs.length ≤ m)
theorem smB_ok {m : Nat} {ns : List Nd} (h : smB m ns = true) : Sm m ns := fun k => by
  rcases Nat.lt_or_ge k ns.length with hk | hk
  · have h1 := List.all_eq_true.1 h _ (mem_nth hk)
    simp only [Bool.and_eq_true, decide_eq_true_eq] at h1
    exact h1
  · rw [nth_out hk]
    exact ⟨Nat.zero_le _, Nat.zero_le _⟩
def bdB (ns : List Nd) : Bool := decide (ns.length ≤ 1000) && smB 1000 ns
theorem bdB_ok {ns : List Nd} (h : bdB ns = true) : Bd ns := by
  unfold bdB at h
  simp only [Bool.and_eq_true, decide_eq_true_eq] at h
  exact ⟨h.1, fun i _ => (smB_ok h.2 i).1, fun i _ => (smB_ok h.2 i).2⟩
def spRB (mo : Int) (ns : List Nd) (p i : Nat) : Bool := decide ((0 ≤ mo ∧ mo ≤ 1000) ∧ ns.length ≤ 900 ∧ smB 900 ns = true ∧ i < ns.length ∧ (nth ns i).us = true ∧ splM mo < (nth ns i).es.length ∧ ((nth ns i).cs.length = 0 ∨ splM mo + 1 ≤ (nth ns i).cs.length) ∧ p < ns.length ∧ ixR (nth (splRA mo ns i) p).cs (i : Int) ≤ (nth (splRA mo ns i) p).es.length ∧ ixR (nth (splRA mo ns i) p).cs (i : Int) + 1 ≤ (nth (splRA mo ns i) p).cs.length)
theorem spRB_ok {mo : Int} {ns : List Nd} {p i : Nat} (h : spRB mo ns p i = true) : SpROk mo ns p i := by
  obtain ⟨h1, h2, h3, h4, h5, h6, h7, h8, h9, h10⟩ := of_decide_eq_true h
  exact ⟨h1, h2, smB_ok h3, h4, h5, h6, h7, h8, h9, h10⟩
def grwRB (mo : Int) (P : List Nat) : Nat → List Nd → Bool
  | 0, _ => true
  | k + 1, ns => (decide (nth P (k + 1) < ns.length) && (!decide (mo < ((nth ns (nth P (k + 1))).es.length : Int)) || spRB mo ns (nth P k) (nth P (k + 1)))) && grwRB mo P k (if mo < ((nth ns (nth P (k + 1))).es.length : Int) then splR mo ns (nth P k) (nth P (k + 1)) else ns)
theorem imp_of {p : Prop} [Decidable p] {b : Bool} (h : (!decide p || b) = true) (hp : p) : b = true := by
  rw [decide_eq_true hp] at h
  exact h
theorem grwRB_ok {mo : Int} {P : List Nat} : ∀ {k : Nat} {ns : List Nd}, grwRB mo P k ns = true → GrwROk mo P k ns
  | 0, _, _ => trivial
  | k + 1, ns, h => by
    unfold grwRB at h
    rw [Bool.and_eq_true, Bool.and_eq_true, decide_eq_true_eq] at h
    exact ⟨⟨h.1.1, fun hp => spRB_ok (imp_of h.1.2 hp)⟩, grwRB_ok h.2⟩
def rootRB (mo rm : Int) (ns : List Nd) : Bool := decide (0 < ns.length ∧ ns.length ≤ 900 ∧ (nth ns 0).us = true ∧ (rm < ((nth ns 0).es.length : Int) → mo < ((nth (lowR ns).2 (lowR ns).1).es.length : Int) → spRB mo (lowR ns).2 0 (lowR ns).1 = true))
theorem rootRB_ok {mo rm : Int} {ns : List Nd} (h : rootRB mo rm ns = true) : RootROk mo rm ns := by
  obtain ⟨h1, h2, h3, h4⟩ := of_decide_eq_true h
  exact ⟨h1, h2, h3, fun a b => spRB_ok (h4 a b)⟩
def insRBk (co mo rm : Int) (ns : List Nd) (x : TEnt) : Bool := decide (0 < (pathN co ns x.key).1.length ∧ (pathN co ns x.key).1.length ≤ 900 ∧ lastN (pathN co ns x.key).1 < ns.length ∧ grwRB mo (pathN co ns x.key).1 ((pathN co ns x.key).1.length - 1) (insRB co ns x) = true ∧ rootRB mo rm (grwRW mo (pathN co ns x.key).1 ((pathN co ns x.key).1.length - 1) (insRB co ns x)) = true)
theorem insRBk_ok {co mo rm : Int} {ns : List Nd} {x : TEnt} (h : insRBk co mo rm ns x = true) : InsROk co mo rm ns x := by
  obtain ⟨h1, h2, h3, h4, h5⟩ := of_decide_eq_true h
  exact ⟨h1, h2, h3, grwRB_ok h4, rootRB_ok h5⟩
def spB (mo : Int) (ns : List Nd) (i : Nat) : Bool := decide ((0 ≤ mo ∧ mo ≤ 1000) ∧ ns.length ≤ 900 ∧ smB 900 ns = true ∧ i < ns.length ∧ (nth ns i).us = true ∧ splM mo < (nth ns i).es.length ∧ ((nth ns i).cs.length = 0 ∨ splM mo + 1 ≤ (nth ns i).cs.length) ∧ (parN (i : Int) (splA mo ns i) 0).1 < (splA mo ns i).length ∧ (parN (i : Int) (splA mo ns i) 0).2 ≤ (nth (splA mo ns i) (parN (i : Int) (splA mo ns i) 0).1).es.length ∧ (parN (i : Int) (splA mo ns i) 0).2 + 1 ≤ (nth (splA mo ns i) (parN (i : Int) (splA mo ns i) 0).1).cs.length)
theorem spB_ok {mo : Int} {ns : List Nd} {i : Nat} (h : spB mo ns i = true) : SpOk mo ns i := by
  obtain ⟨h1, h2, h3, h4, h5, h6, h7, h8, h9, h10⟩ := of_decide_eq_true h
  exact ⟨h1, h2, smB_ok h3, h4, h5, h6, h7, h8, h9, h10⟩
def grwB (mo : Int) : List Nd → List Nat → Bool
  | _, [] => true
  | ns, i :: P => (decide (i < ns.length) && (!decide (0 < i ∧ mo < ((nth ns i).es.length : Int)) || spB mo ns i)) && grwB mo (grw1 mo ns i) P
theorem grwB_ok {mo : Int} : ∀ {P : List Nat} {ns : List Nd}, grwB mo ns P = true → GrwOk mo ns P
  | [], _, _ => trivial
  | i :: P, ns, h => by
    unfold grwB at h
    rw [Bool.and_eq_true, Bool.and_eq_true, decide_eq_true_eq] at h
    exact ⟨⟨h.1.1, fun a b => spB_ok (imp_of h.1.2 ⟨a, b⟩)⟩, grwB_ok h.2⟩
def rootB (mo rm : Int) (ns : List Nd) : Bool := decide (0 < ns.length ∧ ns.length ≤ 900 ∧ (nth ns 0).us = true ∧ (rm < ((nth ns 0).es.length : Int) → mo < ((nth (lowN ns).2 (lowN ns).1).es.length : Int) → spB mo (lowN ns).2 (lowN ns).1 = true))
theorem rootB_ok {mo rm : Int} {ns : List Nd} (h : rootB mo rm ns = true) : RootOk mo rm ns := by
  obtain ⟨h1, h2, h3, h4⟩ := of_decide_eq_true h
  exact ⟨h1, h2, h3, fun a b => spB_ok (h4 a b)⟩
def insOB (co mo rm : Int) (ns : List Nd) (x : TEnt) : Bool := decide (0 < (pathN co ns x.key).1.length ∧ (pathN co ns x.key).1.length ≤ 900 ∧ leafN co ns x.key < ns.length ∧ (nth ns (leafN co ns x.key)).es.length ≤ 900 ∧ (pathN co ns x.key).2.1 ≤ (nth ns (leafN co ns x.key)).es.length ∧ grwB mo (insB co ns x) (pathN co ns x.key).1.reverse = true ∧ rootB mo rm (grwW mo (insB co ns x) (pathN co ns x.key).1.reverse) = true)
theorem insOB_ok {co mo rm : Int} {ns : List Nd} {x : TEnt} (h : insOB co mo rm ns x = true) : InsOk co mo rm ns x := by
  obtain ⟨h1, h2, h3, h4, h5, h6, h7⟩ := of_decide_eq_true h
  exact ⟨h1, h2, h3, h4, h5, grwB_ok h6, rootB_ok h7⟩
def filB (mo : Int) (ns : List Nd) (p k : Nat) : Bool := decide ((0 ≤ mo ∧ mo ≤ 1000) ∧ p < ns.length ∧ k < (nth ns p).cs.length ∧ (nth ns p).cs.length = (nth ns p).es.length + 1 ∧ (∀ x, x < (nth ns p).cs.length → 0 ≤ (nth ns p).cs.getD x 0 ∧ kdN ns p x < ns.length ∧ p ≠ kdN ns p x) ∧ (∀ x, x < (nth ns p).cs.length → ∀ y, y < (nth ns p).cs.length → x ≠ y → kdN ns p x ≠ kdN ns p y) ∧ ns.length ≤ 900 ∧ smB 900 ns = true)
theorem filB_ok {mo : Int} {ns : List Nd} {p k : Nat} (h : filB mo ns p k = true) : FilOk mo ns p k := by
  obtain ⟨h1, h2, h3, h4, h5, h6, h7, h8⟩ := of_decide_eq_true h
  exact ⟨h1, h2, h3, h4, h5, fun x y hx hy => h6 x hx y hy, h7, smB_ok h8⟩
def filsB (mo : Int) : List Nd → List Nat → Bool
  | _, [] => true
  | ns, i :: P => (decide (i < ns.length) && (!decide (0 < i ∧ ((nth ns i).es.length : Int) < mo / 2) || filB mo ns (parN (i : Int) ns 0).1 (parN (i : Int) ns 0).2)) && filsB mo (fil1 mo ns i) P
theorem filsB_ok {mo : Int} : ∀ {P : List Nat} {ns : List Nd}, filsB mo ns P = true → FilsOk mo ns P
  | [], _, _ => trivial
  | i :: P, ns, h => by
    unfold filsB at h
    rw [Bool.and_eq_true, Bool.and_eq_true, decide_eq_true_eq] at h
    exact ⟨⟨h.1.1, fun a b => filB_ok (imp_of h.1.2 ⟨a, b⟩)⟩, filsB_ok h.2⟩
def rotB (ns : List Nd) : Bool := decide (0 < ns.length ∧ ns.length ≤ 900 ∧ (nth ns 0).us = true ∧ ((nth ns 0).cs.length = 1 → 0 < (nth ns 0).cs.getD 0 0 ∧ kdN ns 0 0 < ns.length ∧ (nth ns (kdN ns 0 0)).us = true))
theorem rotB_ok {rm : Int} {ns : List Nd} (h : rotB ns = true) : RotOk rm ns := by
  obtain ⟨h1, h2, h3, h4⟩ := of_decide_eq_true h
  exact ⟨h1, h2, h3, h4⟩
def rgtB (ns : List Nd) : Nat → Nat → Bool
  | 0, _ => false
  | f + 1, i => decide (i < ns.length) && (decide ((nth ns i).cs.length = 0) || (decide (0 ≤ (nth ns i).cs.getD ((nth ns i).cs.length - 1) 0) && rgtB ns f (kdN ns i ((nth ns i).cs.length - 1))))
theorem rgtB_ok {ns : List Nd} : ∀ {f i : Nat}, rgtB ns f i = true → RgtOk ns f i
  | 0, _, h => (nomatch h)
  | f + 1, i, h => by
    unfold rgtB at h
    rw [Bool.and_eq_true, Bool.or_eq_true, Bool.and_eq_true, decide_eq_true_eq, decide_eq_true_eq, decide_eq_true_eq] at h
    refine ⟨h.1, ?_⟩
    rcases h.2 with h2 | h2
    · exact .inl h2
    · exact .inr ⟨h2.1, rgtB_ok h2.2⟩
def remB (mo rm : Int) (ns : List Nd) (P : List Nat) (k : Nat) : Bool := decide ((0 ≤ mo ∧ mo ≤ 1000) ∧ 0 < P.length ∧ P.length ≤ 900 ∧ ns.length ≤ 900 ∧ smB 900 ns = true ∧ lastN P < ns.length ∧ k < (nth ns (lastN P)).es.length ∧ (0 < (nth ns (lastN P)).cs.length → k < (nth ns (lastN P)).cs.length ∧ 0 ≤ (nth ns (lastN P)).cs.getD k 0 ∧ rgtB ns ns.length (kdN ns (lastN P) k) = true ∧ lastN P ≠ lastN (remQ ns P k) ∧ 0 < (nth ns (lastN (remQ ns P k))).es.length ∧ lastN (remQ ns P k) < ns.length) ∧ (0 < (remQ ns P k).length ∧ (remQ ns P k).length ≤ 1900) ∧ lastN (remQ ns P k) < ns.length ∧ remK ns P k < (nth (rem1 ns P k) (lastN (remQ ns P k))).es.length ∧ smB 900 (rem1 ns P k) = true ∧ filsB mo (rem2 ns P k) (remQ ns P k).reverse = true ∧ rotB (filW mo (rem2 ns P k) (remQ ns P k).reverse) = true)
theorem remB_ok {mo rm : Int} {ns : List Nd} {P : List Nat} {k : Nat} (h : remB mo rm ns P k = true) : RemOk mo rm ns P k := by
  obtain ⟨h1, h2, h3, h4, h5, h6, h7, h8, h9, h10, h11, h12, h13, h14⟩ := of_decide_eq_true h
  exact ⟨h1, h2, h3, h4, smB_ok h5, h6, h7, fun a => ⟨(h8 a).1, (h8 a).2.1, rgtB_ok (h8 a).2.2.1, (h8 a).2.2.2⟩, h9, h10, h11, smB_ok h12, filsB_ok h13, rotB_ok h14⟩
def ltrK (k : Nat) : TEnt := ⟨[UInt8.ofNat (97 + k)], []⟩
def ltrs : Nat → List Nd
  | 0 => [⟨true, [], []⟩]
  | k + 1 => insR 0 4 2 (ltrs k) (ltrK k)
theorem ltr_wrap : ∀ k, k < 11 → IntKind.u8.wrap (((97 + k : Nat) : Int) + 1) = ((97 + (k + 1) : Nat) : Int) := by decide
def letB (k : Nat) : Bool := decide (0 < (ltrs k).length) && (bdB (ltrs k) && (decide ((nodsE ⟨0, 4, 2, ltrs k⟩ (ltrs k).length 0 []).2 = 0) && (insRBk 0 4 2 (ltrs k) (ltrK k) && keyOk 0 (ltrK k).key)))
structure LetOk (k : Nat) : Prop where
  n0 : 0 < (ltrs k).length
  bd : Bd (ltrs k)
  tok : TOk 0 (ltrs k)
  ins : InsROk 0 4 2 (ltrs k) (ltrK k)
  key : keyOk 0 (ltrK k).key = true
theorem letB_ok {k : Nat} (h : letB k = true) : LetOk k := by
  unfold letB at h
  simp only [Bool.and_eq_true, decide_eq_true_eq] at h
  exact ⟨h.1, bdB_ok h.2.1, tok_of (t := ⟨0, 4, 2, ltrs k⟩) h.2.2.1, insRBk_ok h.2.2.2.1, h.2.2.2.2⟩
set_option maxRecDepth 100000 in
theorem letB_all : (List.range 11).all letB = true := by decide +kernel
theorem letOk {k : Nat} (h : k < 11) : LetOk k := letB_ok (List.all_eq_true.1 letB_all k (List.mem_range.2 h))
abbrev aK : TEnt := ⟨[107], []⟩
abbrev i0 : Int := ((0 : Nat) : Int)
theorem klen_tok {co : Int} {L : List LNd} (h : TOk co (pln L)) : ∀ i, i < L.length → ∀ x ∈ (nth L i).es, x.key.length ≤ 1000000 := fun i hi x hx => (tok_key h i (by rw [pln_len]; exact hi) x (by rw [pln_nth hi]; exact hx)).2
set_option maxRecDepth 100000 in
theorem aw_t10 : (treE ⟨i0, 4, 2, ltrs 10⟩).2 = 0 := by decide +kernel
set_option maxRecDepth 100000 in
theorem aw_t11 : (treE ⟨i0, 4, 2, ltrs 11⟩).2 = 0 := by decide +kernel
set_option maxRecDepth 100000 in
theorem aw_b11 : bdB (ltrs 11) = true := by decide +kernel
set_option maxRecDepth 100000 in
theorem aw_b10 : bdB (ltrs 10) = true := by decide +kernel
theorem aw_e : entE i0 aK = 0 := by decide +kernel
set_option maxRecDepth 100000 in
theorem aw_ins : insOB i0 4 2 (ltrs 10) aK = true := by decide +kernel
set_option maxRecDepth 100000 in
theorem aw_i0 : insE i0 4 2 (ltrs 10) aK = 0 := by decide +kernel
set_option maxRecDepth 100000 in
theorem aw_c1 : chgN (ltrs 10) (insT i0 4 2 (ltrs 10) aK) = [0, 3, 4, 5] := by decide +kernel
set_option maxRecDepth 100000 in
theorem aw_l1 : (insT i0 4 2 (ltrs 10) aK).length = 6 := by decide +kernel
set_option maxRecDepth 100000 in
theorem aw_s1 : smB 100000 (insT i0 4 2 (ltrs 10) aK) = true := by decide +kernel
theorem aw_k1 : keyE i0 [101] = 0 := by decide +kernel
theorem aw_k2 : keyE i0 [99] = 0 := by decide +kernel
set_option maxRecDepth 100000 in
theorem aw_p : (pathN i0 (ltrs 11) [101]).1 = [0, 5, 2] ∧ (pathN i0 (ltrs 11) [101]).2.2 = true := by decide +kernel
set_option maxRecDepth 100000 in
theorem aw_q : (pathN i0 (ltrs 11) [99]).2.2 = true := by decide +kernel
abbrev aR : List Nd := remN 4 2 (ltrs 11) (pathN i0 (ltrs 11) [99]).1 (pathN i0 (ltrs 11) [99]).2.1
set_option maxRecDepth 100000 in
theorem aw_r : remB 4 2 (ltrs 11) (pathN i0 (ltrs 11) [99]).1 (pathN i0 (ltrs 11) [99]).2.1 = true := by decide +kernel
set_option maxRecDepth 100000 in
theorem aw_c2 : chgN (ltrs 11) aR = [0, 1, 2, 5] := by decide +kernel
set_option maxRecDepth 100000 in
theorem aw_l2 : aR.length = 5 := by decide +kernel
set_option maxRecDepth 100000 in
theorem aw_s2 : smB 100000 aR = true := by decide +kernel
theorem chg_same {a b : List Nd} (h : a = b) : chgN a b = [] := by
  subst h
  unfold chgN chgK
  simp
end Gx
namespace Go.Proofs
open Go Go.RowKit Gx
set_option linter.unusedVariables false
set_option linter.unusedSimpArgs false
attribute [local irreducible] Go.Calls Gx.S Gx.O Gx.D Gx.OpP Gx.OpQ Gx.OpH
set_option maxRecDepth 20000
theorem fn_32 : isFn Tryz.prog 32 = true := by kernel_rfl
theorem zr_5 : tzero Tryz.prog 5 = some [.int .u8 0] := by kernel_rfl
theorem pl_26 : tplaces Tryz.prog 26 = some [(0, 1), (1, 1)] := by kernel_rfl
theorem fn_22 : isFn Tryz.prog 22 = true := by kernel_rfl
set_option maxHeartbeats 400000 in
theorem c56 (w : World) (N : Nat) (hN : N ≤ 11) : Calls Tryz.prog 56 #[.int .u8 ((96 + N : Nat) : Int)] w fun en w' => ∃ g : (Option Addr × Nat) × List LNd, en = .returned (.agg #[.int .i64 0, .int .i64 4, .int .i64 2, .slice g.1.1 g.2.length g.1.2]) ∧ pln g.2 = ltrs N ∧ HS w [] [.nodes 26 102 g.1.1 g.1.2 g.2] w' := by
 refine enter (args := [_]) Tryz.func56 Tryz.ntmps56 rfl rfl (HS.refl w []) ?_
 iterate 2 refine aS ?_
 refine oAl (fun b1 _ => ?_) zr_24
 iterate 3 refine aS ?_
 refine o_h (h_call rfl fn_32 rfl (fun w1 h1 => c32 w1 0 4 2)) rfl (fun b2 _ => ?_)
 refine oAl (fun b3 _ => ?_) zr_24
 refine oSt ?_
 iterate 7 refine aS ?_
 refine s_loopI (α := Nat × (Option Addr × Nat) × List LNd) [4, 6, 7, 8, 9, 10, 11, 12, 13, 14, 15, 16, 17, 18, 19, 20] (fun y => [(4, .int .u8 ((97 + y.1 : Nat) : Int))]) (fun y => HS w [] [.nodes 26 102 y.2.1.1 y.2.1.2 y.2.2, .blk b3 24 4 [.int .i64 0, .int .i64 4, .int .i64 2, .slice y.2.1.1 (y.2.2).length y.2.1.2], .blk b1 24 4 [.int .i64 0, .int .i64 0, .int .i64 0, .slice none 0 0]]) (fun y => y.1 ≤ N ∧ pln y.2.2 = ltrs y.1) (fun y => N - y.1) (0, (b2.1, b2.2), [(LNd.fre : LNd)]) ⟨Nat.zero_le _, rfl⟩ aSx (fun w h => by have h3 := HS.row_shut (a := b2.1) (cap := b2.2) (l := [(LNd.fre : LNd)]) (sub := subN 26) (t := 102) (sz := 3) (vals := LNd.vals) (n := 1) (HS.sub_one (((h.own_nil 3 1).own_nil 26 2).ent (Bs := [.own (.slice none 0 0) 26 2 0 [], .own (.slice none 0 0) 3 1 0 [], .own (.slice b2.1 1 b2.2) 102 3 1 [.bool true, .slice none 0 0, .slice none 0 0], .blk b3 24 4 [.int .i64 0, .int .i64 4, .int .i64 2, .slice b2.1 ([(LNd.fre : LNd)]).length b2.2], .blk b1 24 4 [.int .i64 0, .int .i64 0, .int .i64 0, .slice none 0 0]]) aEt)) rfl rfl; exact HS.ent (As := [.nodes 26 102 b2.1 b2.2 [(LNd.fre : LNd)], .blk b3 24 4 [.int .i64 0, .int .i64 4, .int .i64 2, .slice b2.1 ([(LNd.fre : LNd)]).length b2.2], .blk b1 24 4 [.int .i64 0, .int .i64 0, .int .i64 0, .slice none 0 0]]) aEt h3) (fun ⟨k, ⟨ga, gc⟩, Lk⟩ hx => ?_)
 dsimp only
 obtain ⟨hk1, hk2⟩ := hx
 simp only [] at hk1 hk2
 iterate 7 refine aS ?_
 refine o_and 3 9 12 _ _ rfl
  (by
   intro hg4
   have hs5 := hg4; try simp only [decide_eq_true_eq] at hs5
   refine oOn 9 hg4 ?_
   refine aS ?_
   refine oOn 9 hg4 ?_
   refine aS ?_
   refine o_p (p_pickt rfl rfl hg4 rfl) rfl ?_
   refine aS ?_
   exact oJn 3 12)
  (by
   intro hg6
   have hs7 := hg6; try simp only [decide_eq_false_iff_not] at hs7
   refine oOf 9 hg6 ?_
   refine oOf 9 hg6 ?_
   refine o_p (p_pickf rfl rfl hg6 rfl) rfl ?_
   refine aS ?_
   exact oJn 3 12) ?_
 refine aS ?_
 refine s_cond rfl (fun h8 => ?_) fun h8 => ?_
 ·try simp only [Bool.and_eq_true, decide_eq_true_eq] at h8
  have hkN : k < N := by omega
  obtain ⟨hl0, hlB, hlT, hlI, hlK⟩ := letOk (show k < 11 by omega)
  rw [← hk2] at hl0 hlB hlT hlI
  rw [pln_len] at hl0
  iterate 6 refine aS ?_
  refine o_h (h_buildSlice (cs := [_]) rfl rfl sl_150 zr_5 rfl rfl rfl) rfl (fun b9 _ => ?_)
  refine o_q (q_string_blk rfl rfl Tryz.underlying150 Tryz.underlying9 Tryz.underlying5 aPk (by simp) (by simp [isU8])) rfl ?_
  refine o_p (p_build (cs := [_, _]) rfl rfl pl_26 zr_26 rfl) rfl ?_
  refine o_h (h_call rfl fn_22 rfl (fun w1 h1 => c22 w1 0 4 2 ga gc Lk (ltrK k) (by decide) hl0 hlB hlT (HS.nt h1 aPk) hlK (by show 1 ≤ 1000000; decide) hlI)) rfl (fun ⟨gd, L5⟩ hF5 => ?_)
  dsimp only
  refine oSt ?_
  iterate 5 refine aS ?_
  try (refine o_slot (u8add _ _) ?_)
  refine o_slot (show _ = Value.int .u8 ((97 + (k + 1) : Nat) : Int) from congrArg (Value.int .u8) (ltr_wrap k (by omega))) ?_
  iterate 2 refine aS ?_
  exact s_backI (k + 1, (gd.1, gd.2), L5) (by (try simp only []); omega) ⟨by (try simp only []); omega, by simp only []; rw [hF5, hk2]; rfl⟩ aSx (fun w h => h.ent aEt)
 try simp only [Bool.and_eq_false_iff, decide_eq_false_iff_not] at h8
 obtain rfl : k = N := by omega
 refine s_exit_to rfl ?_
 iterate 3 refine aS ?_
 refine oSt ?_
 refine aS ?_
 exact s_retv (rs := [.cell 2 24]) rfl (.cell rfl sz_24 aPk rfl (.nil)) (fun w' h' => ⟨((ga, gc), Lk), rfl, hk2, h'.ent aEt⟩)
theorem fn_56 : isFn Tryz.prog 56 = true := by kernel_rfl
theorem fn_16 : isFn Tryz.prog 16 = true := by kernel_rfl
theorem fn_35 : isFn Tryz.prog 35 = true := by kernel_rfl
theorem fn_25 : isFn Tryz.prog 25 = true := by kernel_rfl
theorem fn_28 : isFn Tryz.prog 28 = true := by kernel_rfl
theorem fn_23 : isFn Tryz.prog 23 = true := by kernel_rfl
set_option maxHeartbeats 400000 in
theorem c13 (w : World)  : Calls Tryz.prog 13 #[] w fun en w' => en = .returned (.bool true) ∧ Below w.heap.size w w' := by
 refine enter (args := []) Tryz.func13 Tryz.ntmps13 rfl rfl (HS.refl w []) ?_
 iterate 6 refine aS ?_
 refine o_h (h_call rfl fn_56 rfl (fun w1 h1 => c56 w1 10 (by decide))) rfl (fun ⟨⟨ga1, gc1⟩, L1⟩ hL1 => ?_)
 dsimp only
 refine o_p (p_build (cs := [_, _]) rfl rfl pl_26 zr_26 rfl) rfl ?_
 refine o_h (h_call rfl fn_16 rfl (fun w1 h1 => c16o w1 0 4 2 (ga1) gc1 L1 aK (HS.nt h1 aPk) (by rw [hL1]; exact (bdB_ok (by exact aw_b10))) (klen_tok (co := i0) (by rw [hL1]; exact tok_of (t := ⟨i0, 4, 2, ltrs 10⟩) (treE_0 aw_t10).2.2.2.2.1)) (by rw [hL1]; exact aw_t10) (by decide) aw_e (fun _ => by rw [hL1]; exact insOB_ok aw_ins) (by rw [hL1]; exact aw_i0) (by rw [hL1]; exact smB_ok aw_s1))) rfl (fun ⟨⟨⟨gi, ci⟩, LI⟩, ⟨qa1, qc1⟩⟩ hFI => ?_)
 dsimp only
 have hLI : LI.length = 6 := by rw [← pln_len, hFI, hL1]; exact aw_l1
 rw [hL1, aw_c1, hLI]
 iterate 4 refine aS ?_
 refine oAl (fun b1 _ => ?_) zr_24
 refine o_h0 (h_store rfl rfl rfl sz_24 rfl aPt (by show 4 ≤ 4; omega) rfl) (fun _ _ => ?_)
 iterate 5 refine aS ?_
 refine o_h (h_call rfl fn_56 rfl (fun w1 h1 => c56 w1 11 (by decide))) rfl (fun ⟨⟨ga2, gc2⟩, L2⟩ hL2 => ?_)
 dsimp only
 refine o_h (h_call rfl fn_35 rfl (fun w1 h1 => c35o w1 0 4 2 ga2 gc2 L2 [101] (HS.nt h1 aPk) (by rw [hL2]; exact (bdB_ok (by exact aw_b11))) (klen_tok (co := i0) (by rw [hL2]; exact tok_of (t := ⟨i0, 4, 2, ltrs 11⟩) (treE_0 aw_t11).2.2.2.2.1)) (by rw [hL2]; exact aw_t11) (by decide) aw_k1)) rfl (fun ⟨qa2, qc2⟩ _ => ?_)
 dsimp only
 rw [hL2, aw_p.1, aw_p.2]
 iterate 10 refine aS ?_
 refine o_h (h_call rfl fn_56 rfl (fun w1 h1 => c56 w1 11 (by decide))) rfl (fun ⟨⟨ga3, gc3⟩, L3⟩ hL3 => ?_)
 dsimp only
 refine o_h (h_call rfl fn_25 rfl (fun w1 h1 => c25o w1 0 4 2 ga3 gc3 L3 [99] (HS.nt h1 aPk) (by rw [hL3]; exact (bdB_ok (by exact aw_b11))) (klen_tok (co := i0) (by rw [hL3]; exact tok_of (t := ⟨i0, 4, 2, ltrs 11⟩) (treE_0 aw_t11).2.2.2.2.1)) (by rw [hL3]; exact aw_t11) (by decide) aw_k2 (by rw [hL3]; exact aw_q) (by rw [hL3]; exact remB_ok aw_r) (by rw [hL3]; exact smB_ok aw_s2) (by rw [hL3]; exact (by rw [aw_l2]; decide)))) rfl (fun ⟨⟨⟨gr, cr⟩, LR⟩, ⟨qa3, qc3⟩⟩ hFR => ?_)
 dsimp only
 have hLR : LR.length = 5 := by rw [← pln_len, hFR, hL3]; exact aw_l2
 rw [hL3, aw_c2, hLR]
 iterate 4 refine aS ?_
 refine oAl (fun b2 _ => ?_) zr_24
 refine o_h0 (h_store rfl rfl rfl sz_24 rfl aPt (by show 4 ≤ 4; omega) rfl) (fun _ _ => ?_)
 iterate 5 refine aS ?_
 refine o_q (q_call rfl fn_28 rfl (fun w1 h1 => c28 w1 1 [97] [66] (by decide) (by decide))) rfl ?_
 iterate 7 refine aS ?_
 refine s_weaken (L' := [(0, _), (1, _), (2, _), (3, _), (4, _), (5, _), (6, _), (7, _), (8, _), (9, _), (10, _), (11, _)]) aSx (fun _ h => h) ?_
 iterate 4 refine aS ?_
 refine o_and 4 37 41 _ _ rfl
  (by
   intro hg3
   have hs4 := hg3; try simp only [decide_eq_true_eq] at hs4
   refine oOn 37 hg3 ?_
   refine aS ?_
   refine oOn 37 hg3 ?_
   refine o_h (h_buildSlice (cs := [_, _, _, _]) rfl rfl sl_30 zr_3 rfl rfl rfl) rfl (fun b5 _ => ?_)
   refine oOn 37 hg3 ?_
   refine o_q (q_call rfl fn_23 rfl (fun w1 h1 => c23 w1 qa1 (some ⟨b5, 0, none⟩) qc1 4 [0, 3, 4, 5] [0, 3, 4, 5] (HS.pown_row (P := [0, 3, 4, 5]) h1 aPk) (h1.rw_blk (l := [0, 3, 4, 5]) iv1 aPk) (by decide) (by decide))) rfl ?_
   refine o_p (p_pickt rfl rfl hg3 rfl) rfl ?_
   refine aS ?_
   exact oJn 4 41)
  (by
   intro hg6
   have hs7 := hg6; try simp only [decide_eq_false_iff_not] at hs7
   refine oOf 37 hg6 ?_
   refine oOf 37 hg6 ?_
   refine oOf 37 hg6 ?_
   refine o_p (p_pickf rfl rfl hg6 rfl) rfl ?_
   refine aS ?_
   exact oJn 4 41) ?_
 refine aS ?_
 refine o_and 5 42 47 _ _ rfl
  (by
   intro hg8
   have hs9 := hg8; try simp only [Bool.and_eq_true, decide_eq_true_eq] at hs9
   refine oOn 42 hg8 ?_
   refine aS ?_
   refine oOn 42 hg8 ?_
   refine aS ?_
   refine oOn 42 hg8 ?_
   refine aS ?_
   refine oOn 42 hg8 ?_
   refine aS ?_
   refine o_p (p_pickt rfl rfl hg8 rfl) rfl ?_
   refine aS ?_
   exact oJn 5 47)
  (by
   intro hg10
   have hs11 := hg10; try simp only [Bool.and_eq_false_iff, decide_eq_false_iff_not] at hs11
   refine oOf 42 hg10 ?_
   refine oOf 42 hg10 ?_
   refine oOf 42 hg10 ?_
   refine oOf 42 hg10 ?_
   refine o_p (p_pickf rfl rfl hg10 rfl) rfl ?_
   refine aS ?_
   exact oJn 5 47) ?_
 refine aS ?_
 refine o_and 3 48 51 _ _ rfl
  (by
   intro hg12
   have hs13 := hg12; try simp only [Bool.and_eq_true, decide_eq_true_eq] at hs13
   refine oOn 48 hg12 ?_
   refine aS ?_
   refine oOn 48 hg12 ?_
   refine aS ?_
   refine o_p (p_pickt rfl rfl hg12 rfl) rfl ?_
   refine aS ?_
   exact oJn 3 51)
  (by
   intro hg14
   have hs15 := hg14; try simp only [Bool.and_eq_false_iff, decide_eq_false_iff_not] at hs15
   refine oOf 48 hg14 ?_
   refine oOf 48 hg14 ?_
   refine o_p (p_pickf rfl rfl hg14 rfl) rfl ?_
   refine aS ?_
   exact oJn 3 51) ?_
 refine aS ?_
 refine o_and 2 52 54 _ _ rfl
  (by
   intro hg16
   have hs17 := hg16; try simp only [Bool.and_eq_true, decide_eq_true_eq] at hs17
   refine oOn 52 hg16 ?_
   refine aS ?_
   refine o_p (p_pickt rfl rfl hg16 rfl) rfl ?_
   refine aS ?_
   exact oJn 2 54)
  (by
   intro hg18
   have hs19 := hg18; try simp only [Bool.and_eq_false_iff, decide_eq_false_iff_not] at hs19
   refine oOf 52 hg18 ?_
   refine o_p (p_pickf rfl rfl hg18 rfl) rfl ?_
   refine aS ?_
   exact oJn 2 54) ?_
 refine aS ?_
 refine o_and 4 55 59 _ _ rfl
  (by
   intro hg20
   have hs21 := hg20; try simp only [Bool.and_eq_true, decide_eq_true_eq] at hs21
   refine oOn 55 hg20 ?_
   refine aS ?_
   refine oOn 55 hg20 ?_
   refine o_h (h_buildSlice (cs := [_, _, _]) rfl rfl sl_30 zr_3 rfl rfl rfl) rfl (fun b22 _ => ?_)
   refine oOn 55 hg20 ?_
   refine o_q (q_call rfl fn_23 rfl (fun w1 h1 => c23 w1 qa2 (some ⟨b22, 0, none⟩) qc2 3 [0, 5, 2] [0, 5, 2] (HS.pown_row (P := [0, 5, 2]) h1 aPk) (h1.rw_blk (l := [0, 5, 2]) iv1 aPk) (by decide) (by decide))) rfl ?_
   refine o_p (p_pickt rfl rfl hg20 rfl) rfl ?_
   refine aS ?_
   exact oJn 4 59)
  (by
   intro hg23
   have hs24 := hg23; try simp only [Bool.and_eq_false_iff, decide_eq_false_iff_not] at hs24
   refine oOf 55 hg23 ?_
   refine oOf 55 hg23 ?_
   refine oOf 55 hg23 ?_
   refine o_p (p_pickf rfl rfl hg23 rfl) rfl ?_
   refine aS ?_
   exact oJn 4 59) ?_
 refine aS ?_
 refine o_and 3 60 63 _ _ rfl
  (by
   intro hg25
   have hs26 := hg25; try simp only [Bool.and_eq_true, decide_eq_true_eq] at hs26
   refine oOn 60 hg25 ?_
   refine aS ?_
   refine oOn 60 hg25 ?_
   refine aS ?_
   refine o_p (p_pickt rfl rfl hg25 rfl) rfl ?_
   refine aS ?_
   exact oJn 3 63)
  (by
   intro hg27
   have hs28 := hg27; try simp only [Bool.and_eq_false_iff, decide_eq_false_iff_not] at hs28
   refine oOf 60 hg27 ?_
   refine oOf 60 hg27 ?_
   refine o_p (p_pickf rfl rfl hg27 rfl) rfl ?_
   refine aS ?_
   exact oJn 3 63) ?_
 refine aS ?_
 refine o_and 4 64 68 _ _ rfl
  (by
   intro hg29
   have hs30 := hg29; try simp only [Bool.and_eq_true, decide_eq_true_eq] at hs30
   refine oOn 64 hg29 ?_
   refine aS ?_
   refine oOn 64 hg29 ?_
   refine o_h (h_buildSlice (cs := [_, _, _, _]) rfl rfl sl_30 zr_3 rfl rfl rfl) rfl (fun b31 _ => ?_)
   refine oOn 64 hg29 ?_
   refine o_q (q_call rfl fn_23 rfl (fun w1 h1 => c23 w1 qa3 (some ⟨b31, 0, none⟩) qc3 4 [0, 1, 2, 5] [0, 1, 2, 5] (HS.pown_row (P := [0, 1, 2, 5]) h1 aPk) (h1.rw_blk (l := [0, 1, 2, 5]) iv1 aPk) (by decide) (by decide))) rfl ?_
   refine o_p (p_pickt rfl rfl hg29 rfl) rfl ?_
   refine aS ?_
   exact oJn 4 68)
  (by
   intro hg32
   have hs33 := hg32; try simp only [Bool.and_eq_false_iff, decide_eq_false_iff_not] at hs33
   refine oOf 64 hg32 ?_
   refine oOf 64 hg32 ?_
   refine oOf 64 hg32 ?_
   refine o_p (p_pickf rfl rfl hg32 rfl) rfl ?_
   refine aS ?_
   exact oJn 4 68) ?_
 refine aS ?_
 refine o_and 5 69 74 _ _ rfl
  (by
   intro hg34
   have hs35 := hg34; try simp only [Bool.and_eq_true, decide_eq_true_eq] at hs35
   refine oOn 69 hg34 ?_
   refine aS ?_
   refine oOn 69 hg34 ?_
   refine aS ?_
   refine oOn 69 hg34 ?_
   refine aS ?_
   refine oOn 69 hg34 ?_
   refine aS ?_
   refine o_p (p_pickt rfl rfl hg34 rfl) rfl ?_
   refine aS ?_
   exact oJn 5 74)
  (by
   intro hg36
   have hs37 := hg36; try simp only [Bool.and_eq_false_iff, decide_eq_false_iff_not] at hs37
   refine oOf 69 hg36 ?_
   refine oOf 69 hg36 ?_
   refine oOf 69 hg36 ?_
   refine oOf 69 hg36 ?_
   refine o_p (p_pickf rfl rfl hg36 rfl) rfl ?_
   refine aS ?_
   exact oJn 5 74) ?_
 refine aS ?_
 refine o_and 3 75 78 _ _ rfl
  (by
   intro hg38
   have hs39 := hg38; try simp only [Bool.and_eq_true, decide_eq_true_eq] at hs39
   refine oOn 75 hg38 ?_
   refine aS ?_
   refine oOn 75 hg38 ?_
   refine aS ?_
   refine o_p (p_pickt rfl rfl hg38 rfl) rfl ?_
   refine aS ?_
   exact oJn 3 78)
  (by
   intro hg40
   have hs41 := hg40; try simp only [Bool.and_eq_false_iff, decide_eq_false_iff_not] at hs41
   refine oOf 75 hg40 ?_
   refine oOf 75 hg40 ?_
   refine o_p (p_pickf rfl rfl hg40 rfl) rfl ?_
   refine aS ?_
   exact oJn 3 78) ?_
 refine aS ?_
 refine o_and 3 79 82 _ _ rfl
  (by
   intro hg42
   have hs43 := hg42; try simp only [Bool.and_eq_true, decide_eq_true_eq] at hs43
   refine oOn 79 hg42 ?_
   refine aS ?_
   refine oOn 79 hg42 ?_
   refine aS ?_
   refine o_p (p_pickt rfl rfl hg42 rfl) rfl ?_
   refine aS ?_
   exact oJn 3 82)
  (by
   intro hg44
   have hs45 := hg44; try simp only [Bool.and_eq_false_iff, decide_eq_false_iff_not] at hs45
   refine oOf 79 hg44 ?_
   refine oOf 79 hg44 ?_
   refine o_p (p_pickf rfl rfl hg44 rfl) rfl ?_
   refine aS ?_
   exact oJn 3 82) ?_
 iterate 2 refine aS ?_
 exact s_retv (rs := [.tmp 0]) rfl (.tmp rfl (.nil)) (fun w' h' => ⟨by rfl, h'.below⟩)
theorem fn_52 : isFn Tryz.prog 52 = true := by kernel_rfl
theorem fn_66 : isFn Tryz.prog 66 = true := by kernel_rfl
theorem fn_65 : isFn Tryz.prog 65 = true := by kernel_rfl
theorem fn_24 : isFn Tryz.prog 24 = true := by kernel_rfl
theorem c52 (w : World) (a b : Option Addr) (c d : Nat) (l m : List TEnt) (hs : Rw TEnt.vals 2 w [] a l) (ht : Rw TEnt.vals 2 w [] b m) (hl : l.length ≤ 100000) (hm : m.length ≤ 100000) : Calls Tryz.prog 52 #[.slice a l.length c, .slice b m.length d] w fun en w' => en = .returned (.bool (decide (l = m))) ∧ Below w.heap.size w w' := by
 refine enter (args := [_, _]) Tryz.func52 Tryz.ntmps52 rfl rfl (HS.refl w []) ?_
 iterate 13 refine aS ?_
 refine s_cond rfl (fun h1 => ?_) fun h1 => ?_
 ·try simp only [Bool.not_eq_true', decide_eq_false_iff_not] at h1
  have hn9 : l ≠ m := fun e => by have hq := h1; rw [e] at hq; simp at hq
  iterate 4 refine aS ?_
  exact s_retv (rs := [.tmp 4]) rfl (.tmp rfl (.nil)) (fun w' h' => ⟨by rw [decide_eq_false hn9]; rfl, h'.below⟩)
 try simp only [Bool.not_eq_false', decide_eq_true_eq] at h1
 have hlm : l.length = m.length := by have hq := h1; omega
 iterate 7 refine aS ?_
 refine s_loopI (α := Nat) [4, 5, 11, 12, 13, 14, 15, 16, 17, 18, 19, 20, 21, 22, 23, 24, 25] (fun k => [(5, .int .i64 (k : Int))]) (fun _ => HS w [] []) (fun k => k ≤ l.length ∧ ∀ j, j < k → nth l j = nth m j) (fun k => l.length - k) 0 ⟨Nat.zero_le _, fun j h => absurd h (Nat.not_lt_zero j)⟩ aSx (fun w h => h.ent aEt) (fun k hx => ?_)
 obtain ⟨hk1, hk3⟩ := hx
 iterate 8 refine aS ?_
 refine s_cond rfl (fun h2 => ?_) fun h2 => ?_
 ·try simp only [decide_eq_true_eq] at h2
  have hk : k < l.length := by omega
  have hk2 : k < m.length := by omega
  iterate 4 refine aS ?_
  refine s_draw [] mixed ?_
  refine dP 0 ?_
  refine dP 1 ?_
  refine d_p 2 rfl (p_indexAddr rfl rfl rfl sl_77 (k) (by omega) (by omega) (Rw.some hs (by omega))) (by kernel_rfl) rfl rfl ?_
  refine d_q 3 [] rfl (q_load_oldn _ rfl rfl sz_26 rfl (Rw.rd hs (by omega))) (by kernel_rfl) (by kernel_rfl) (by kernel_rfl) rfl ?_
  refine dP 4 ?_
  refine dP 5 ?_
  refine d_p 6 rfl (p_indexAddr rfl rfl rfl sl_77 (k) (by omega) (by omega) (Rw.some ht (by omega))) (by kernel_rfl) rfl rfl ?_
  refine d_q 7 [] rfl (q_load_oldn _ rfl rfl sz_26 rfl (Rw.rd ht (by omega))) (by kernel_rfl) (by kernel_rfl) (by kernel_rfl) rfl ?_
  refine d_p 8 rfl (p_neq_agg rfl rfl rfl eqk_26 (by rfl) (by rfl) (by rfl)) (by kernel_rfl) rfl rfl ?_
  refine dNi ?_
  refine s_cond rfl (fun h3 => ?_) fun h3 => ?_
  ·try simp only [Bool.not_eq_true', Bool.and_eq_false_iff, decide_eq_false_iff_not] at h3
   have hn9 : l ≠ m := fun e => by have hq := h3; rw [e] at hq; simp at hq
   iterate 4 refine aS ?_
   exact s_retv (rs := [.tmp 4]) rfl (.tmp rfl (.nil)) (fun w' h' => ⟨by rw [decide_eq_false hn9]; rfl, h'.below⟩)
  try simp only [Bool.not_eq_false', Bool.and_eq_true, decide_eq_true_eq] at h3
  have he9 : nth l k = nth m k := by have hq := h3; exact ent_ext hq.1 hq.2.1
  iterate 5 refine aS ?_
  try refine oWr ?_
  iterate 2 refine aS ?_
  exact s_backI (k + 1) (by omega) ⟨by omega, fun j hj => (Nat.lt_or_ge j k).elim (hk3 j) (fun h9 => by obtain rfl : j = k := (by omega); exact he9)⟩ aSx (fun w h => h.ent aEt)
 try simp only [decide_eq_false_iff_not] at h2
 have hl9 : l = m := list_ext_nth hlm fun j hj => hk3 j (by omega)
 refine s_exit_to rfl ?_
 iterate 4 refine aS ?_
 exact s_retv (rs := [.tmp 4]) rfl (.tmp rfl (.nil)) (fun w' h' => ⟨by rw [decide_eq_true hl9]; rfl, h'.below⟩)
theorem c65 (w : World) (n m : LNd) (hne : Rw TEnt.vals 2 w [] n.ea n.es) (hnc : Rw inV 1 w [] n.ca n.cs) (hme : Rw TEnt.vals 2 w [] m.ea m.es) (hmc : Rw inV 1 w [] m.ca m.cs) (h1 : n.es.length ≤ 100000 ∧ n.cs.length ≤ 100000) (h2 : m.es.length ≤ 100000 ∧ m.cs.length ≤ 100000) : Calls Tryz.prog 65 #[.agg #[.bool n.us, .slice n.ea n.es.length n.ec, .slice n.ca n.cs.length n.cc], .agg #[.bool m.us, .slice m.ea m.es.length m.ec, .slice m.ca m.cs.length m.cc]] w fun en w' => en = .returned (.bool (decide (n.pl = m.pl))) ∧ Below w.heap.size w w' := by
 refine enter (args := [_, _]) Tryz.func65 Tryz.ntmps65 rfl rfl (HS.refl w []) ?_
 iterate 2 refine aS ?_
 refine oBx fun b1 _ => ?_
 refine oBx fun b2 _ => ?_
 iterate 8 refine aS ?_
 refine o_p (p_eql_bool rfl rfl rfl Tryz.underlying4) rfl ?_
 refine aS ?_
 refine o_and 6 10 16 _ _ rfl
  (by
   intro hg3
   have hs4 := hg3; skip
   refine oOn 10 hg3 ?_
   refine aS ?_
   refine oOn 10 hg3 ?_
   refine aS ?_
   refine oOn 10 hg3 ?_
   refine aS ?_
   refine oOn 10 hg3 ?_
   refine aS ?_
   refine oOn 10 hg3 ?_
   refine o_q (q_call rfl fn_52 rfl (fun w1 h1 => c52 w1 n.ea m.ea n.ec m.ec n.es m.es (hne.later h1.nil) (hme.later h1.nil) (by omega) (by omega))) rfl ?_
   refine o_p (p_pickt rfl rfl hg3 rfl) rfl ?_
   refine aS ?_
   exact oJn 6 16)
  (by
   intro hg5
   have hs6 := hg5; skip
   refine oOf 10 hg5 ?_
   refine oOf 10 hg5 ?_
   refine oOf 10 hg5 ?_
   refine oOf 10 hg5 ?_
   refine oOf 10 hg5 ?_
   refine o_p (p_pickf rfl rfl hg5 rfl) rfl ?_
   refine aS ?_
   exact oJn 6 16) ?_
 refine aS ?_
 refine o_and 6 17 23 _ _ rfl
  (by
   intro hg7
   have hs8 := hg7; try simp only [Bool.and_eq_true, decide_eq_true_eq] at hs8
   refine oOn 17 hg7 ?_
   refine aS ?_
   refine oOn 17 hg7 ?_
   refine aS ?_
   refine oOn 17 hg7 ?_
   refine aS ?_
   refine oOn 17 hg7 ?_
   refine aS ?_
   refine oOn 17 hg7 ?_
   refine o_q (q_call rfl fn_23 rfl (fun w1 h1 => c23 w1 n.ca m.ca n.cc m.cc n.cs m.cs (hnc.later h1.nil) (hmc.later h1.nil) (by omega) (by omega))) rfl ?_
   refine o_p (p_pickt rfl rfl hg7 rfl) rfl ?_
   refine aS ?_
   exact oJn 6 23)
  (by
   intro hg9
   have hs10 := hg9; try simp only [Bool.and_eq_false_iff, decide_eq_false_iff_not] at hs10
   refine oOf 17 hg9 ?_
   refine oOf 17 hg9 ?_
   refine oOf 17 hg9 ?_
   refine oOf 17 hg9 ?_
   refine oOf 17 hg9 ?_
   refine o_p (p_pickf rfl rfl hg9 rfl) rfl ?_
   refine aS ?_
   exact oJn 6 23) ?_
 iterate 2 refine aS ?_
 exact s_retv (rs := [.tmp 4]) rfl (.tmp rfl (.nil)) (fun w' h' => ⟨by simp only [retV]; rw [alike_eq], h'.below⟩)
theorem c66 (w : World) (co mo rm : Int) (a : Option Addr) (cap : Nat) (L : List LNd) (k : Nat) (hs : Rw LNd.vals 3 w [] a L) : Calls Tryz.prog 66 #[.agg #[.int .i64 co, .int .i64 mo, .int .i64 rm, .slice a L.length cap], .int .i64 (k : Int)] w fun en w' => en = .returned (.agg (LNd.vals (nth L k)).toArray) ∧ Below w.heap.size w w' := by
 refine enter (args := [_, _]) Tryz.func66 Tryz.ntmps66 rfl rfl (HS.refl w []) ?_
 iterate 2 refine aS ?_
 refine oBx fun b1 _ => ?_
 refine oAl (fun b2 _ => ?_) zr_102
 iterate 10 refine aS ?_
 refine s_cond rfl (fun h3 => ?_) fun h3 => ?_
 ·try simp only [decide_eq_true_eq] at h3
  iterate 5 refine aS ?_
  refine o_p (p_indexAddr rfl rfl rfl sl_22 (k) (by omega) (by omega) (Rw.some hs (by omega))) rfl ?_
  refine o_q (q_load_oldn _ rfl rfl sz_102 rfl (Rw.rd hs (by omega))) rfl ?_
  refine oSt ?_
  refine aS ?_
  exact s_retv (rs := [.cell 4 102]) rfl (.cell rfl sz_102 aPk rfl (.nil)) (fun w' h' => ⟨by first | rfl | (rw [nth_out (by omega)]; rfl), h'.below⟩)
 try simp only [decide_eq_false_iff_not] at h3
 iterate 3 refine aS ?_
 refine o_p (p_build (cs := [_, _, _]) rfl rfl pl_102 zr_102 rfl) rfl ?_
 refine oSt ?_
 refine aS ?_
 exact s_retv (rs := [.cell 4 102]) rfl (.cell rfl sz_102 aPk rfl (.nil)) (fun w' h' => ⟨by first | rfl | (rw [nth_out (by omega)]; rfl), h'.below⟩)
theorem c24 (w : World) (co mo rm co2 mo2 rm2 : Int) (a b : Option Addr) (ca cb : Nat) (L M : List LNd) (hs : Nt w [] a L) (ht : Nt w [] b M) (hL : L.length ≤ 1000) (hM : M.length ≤ 1000) (hLs : Sm 100000 (pln L)) (hMs : Sm 100000 (pln M)) : Calls Tryz.prog 24 #[.agg #[.int .i64 co, .int .i64 mo, .int .i64 rm, .slice a L.length ca], .agg #[.int .i64 co2, .int .i64 mo2, .int .i64 rm2, .slice b M.length cb]] w fun en w' => ∃ g : Option Addr × Nat, en = .returned (.slice g.1 (chgN (pln L) (pln M)).length g.2) ∧ True ∧ HS w [] [.own (.slice g.1 ((chgN (pln L) (pln M))).length g.2) 3 1 ((chgN (pln L) (pln M))).length (((chgN (pln L) (pln M))).map fun i : Nat => Value.int .i64 (i : Int))] w' := by
 refine enter (args := [_, _]) Tryz.func24 Tryz.ntmps24 rfl rfl (HS.refl w []) ?_
 iterate 2 refine aS ?_
 refine oBx fun b1 _ => ?_
 refine oBx fun b2 _ => ?_
 iterate 12 refine aS ?_
 refine s_loopI (α := Nat × Option Addr × Nat) [5, 6, 7, 8, 9, 10, 11, 12, 13, 14, 15, 16, 17, 18, 19, 20, 21, 22, 23, 24, 25, 26, 27, 28, 29] (fun x => [(6, .int .i64 (x.1 : Int)), (5, .slice x.2.1 (chgK (pln L) (pln M) x.1).length x.2.2)]) (fun x => HS w [] [.own (.slice x.2.1 ((chgK (pln L) (pln M) x.1)).length x.2.2) 3 1 ((chgK (pln L) (pln M) x.1)).length (((chgK (pln L) (pln M) x.1)).map fun i : Nat => Value.int .i64 (i : Int)), .blk b1 24 4 [.int .i64 co, .int .i64 mo, .int .i64 rm, .slice a L.length ca], .blk b2 24 4 [.int .i64 co2, .int .i64 mo2, .int .i64 rm2, .slice b M.length cb]]) (fun x => x.1 ≤ (max L.length M.length)) (fun x => (max L.length M.length) - x.1) (0, none, 0) (Nat.zero_le _) aSx (fun w h => (h.own_nil 3 1).ent aEt) (fun ⟨k, ga, gc⟩ hk1 => ?_)
 dsimp only
 simp only [] at hk1
 iterate 10 refine aS ?_
 refine o_p (p_max2 rfl rfl rfl ) rfl ?_
 iterate 2 refine aS ?_
 refine s_cond rfl (fun h3 => ?_) fun h3 => ?_
 ·try simp only [decide_eq_true_eq] at h3
  have hk : k < (max L.length M.length) := by have hq := h3; omega
  have hkl := chgK_len (pln L) (pln M) k
  iterate 4 refine aS ?_
  refine s_draw [] mixed ?_
  refine dLn 0 [] ?_
  refine dP 1 ?_
  refine d_q 2 [] rfl (q_call rfl fn_66 rfl (fun w1 h1 => c66 w1 co mo rm a ca L k (Rw.later hs.1 h1.nil))) (by kernel_rfl) (by kernel_rfl) (by kernel_rfl) rfl ?_
  refine dLn 3 [] ?_
  refine dP 4 ?_
  refine d_q 5 [] rfl (q_call rfl fn_66 rfl (fun w1 h1 => c66 w1 co2 mo2 rm2 b cb M k (Rw.later ht.1 h1.nil))) (by kernel_rfl) (by kernel_rfl) (by kernel_rfl) rfl ?_
  refine d_q 6 [] rfl (q_call rfl fn_65 rfl (fun w1 h1 => c65 w1 (nth L k) (nth M k) ((hs.esA k).later h1.nil) ((hs.csA k).later h1.nil) ((ht.esA k).later h1.nil) ((ht.csA k).later h1.nil) (by have := hLs k; rw [pln_nth'] at this; exact this) (by have := hMs k; rw [pln_nth'] at this; exact this))) (by kernel_rfl) (by kernel_rfl) (by kernel_rfl) rfl ?_
  refine dP 7 ?_
  refine dNi ?_
  refine s_cond rfl (fun h4 => ?_) fun h4 => ?_
  ·try simp only [Bool.not_eq_true', decide_eq_false_iff_not] at h4
   have hne9 : nth (pln L) k ≠ nth (pln M) k := by rw [pln_nth', pln_nth']; have hq := h4; simpa using hq
   have hst := chgK_ne hne9
   iterate 3 refine aS ?_
   refine o_h (h_buildSlice (cs := [_]) rfl rfl sl_30 zr_3 rfl rfl rfl) rfl (fun b5 _ => ?_)
   refine o_h (h_appendS [_] rfl rfl rfl sl_30 Tryz.underlying30 zr_3 rfl aPk (src_blk aPk) rfl (by intro u hu; simp only [List.mem_cons, List.mem_nil_iff, or_false] at hu; subst hu; rfl) (by omega) (by simp only [maxLen]; omega)) rfl (fun b6 _ => ?_)
   iterate 6 refine aS ?_
   try refine oWr ?_
   iterate 2 refine aS ?_
   exact s_backI (k + 1, b6.1, b6.2) (by (try simp only []); omega) (by (try simp only []); omega) (by dsimp only; rw [hst]; simp only [List.length_append, List.length_singleton]; exact aSx) (fun w h => by have h2 := h; dsimp only; rw [hst]; simp only [List.length_append, List.length_singleton, List.map_append, List.map_cons, List.map_nil]; exact h2.ent aEt)
  try simp only [Bool.not_eq_false', decide_eq_true_eq] at h4
  have hne9 : nth (pln L) k = nth (pln M) k := by rw [pln_nth', pln_nth']; have hq := h4; simpa using hq
  have hst := chgK_eq hne9
  iterate 5 refine aS ?_
  try refine oWr ?_
  iterate 2 refine aS ?_
  exact s_backI (k + 1, ga, gc) (by (try simp only []); omega) (by (try simp only []); omega) (by dsimp only; rw [hst]; exact aSx) (fun w h => by dsimp only; rw [hst]; exact h.ent aEt)
 try simp only [decide_eq_false_iff_not] at h3
 obtain rfl : k = (max L.length M.length) := by omega
 refine s_exit_to rfl ?_
 iterate 5 refine aS ?_
 exact s_retv (rs := [.tmp 4]) rfl (.tmp rfl (.nil)) (fun w' h' => ⟨(ga, gc), by unfold chgN; rw [pln_len, pln_len]; rfl, trivial, by unfold chgN; rw [pln_len, pln_len]; exact h'.ent aEt⟩)
theorem c21 (w : World) (co mo rm : Int) (a b : Option Addr) (ca cb : Nat) (L M : List LNd) (hs : Nt w [] a L) (ht : Nt w [] b M) (hL : L.length ≤ 1000) (hM : M.length ≤ 1000) (hLs : Sm 100000 (pln L)) (hMs : Sm 100000 (pln M)) (he : pln L = pln M) : Calls Tryz.prog 21 #[.agg #[.int .i64 co, .int .i64 mo, .int .i64 rm, .slice a L.length ca], .agg #[.int .i64 co, .int .i64 mo, .int .i64 rm, .slice b M.length cb]] w fun en w' => en = .returned (.bool true) ∧ Below w.heap.size w w' := by
 have hl9 : L.length = M.length := by rw [← pln_len L, he, pln_len]
 have hch : (chgN (pln L) (pln M)) = [] := chg_same he
 refine enter (args := [_, _]) Tryz.func21 Tryz.ntmps21 rfl rfl (HS.refl w []) ?_
 iterate 2 refine aS ?_
 refine oBx fun b1 _ => ?_
 refine oBx fun b2 _ => ?_
 iterate 11 refine aS ?_
 refine o_or 6 10 16 _ _ rfl
  (by
   intro hg3
   have hs4 := hg3; try simp only [Bool.not_eq_false', decide_eq_true_eq] at hs4
   refine oOn 10 hg3 ?_
   refine aS ?_
   refine oOn 10 hg3 ?_
   refine aS ?_
   refine oOn 10 hg3 ?_
   refine aS ?_
   refine oOn 10 hg3 ?_
   refine aS ?_
   refine oOn 10 hg3 ?_
   refine aS ?_
   refine o_p (p_pickf rfl rfl hg3 rfl) rfl ?_
   refine aS ?_
   exact oJn 6 16)
  (by
   intro hg5
   have hs6 := hg5; try simp only [Bool.not_eq_true', decide_eq_false_iff_not] at hs6
   refine oOf 10 hg5 ?_
   refine oOf 10 hg5 ?_
   refine oOf 10 hg5 ?_
   refine oOf 10 hg5 ?_
   refine oOf 10 hg5 ?_
   refine o_p (p_pickt rfl rfl hg5 rfl) rfl ?_
   refine aS ?_
   exact oJn 6 16) ?_
 refine aS ?_
 refine o_or 6 17 23 _ _ rfl
  (by
   intro hg7
   have hs8 := hg7; try simp only [Bool.or_eq_false_iff, Bool.not_eq_false', decide_eq_true_eq] at hs8
   refine oOn 17 hg7 ?_
   refine aS ?_
   refine oOn 17 hg7 ?_
   refine aS ?_
   refine oOn 17 hg7 ?_
   refine aS ?_
   refine oOn 17 hg7 ?_
   refine aS ?_
   refine oOn 17 hg7 ?_
   refine aS ?_
   refine o_p (p_pickf rfl rfl hg7 rfl) rfl ?_
   refine aS ?_
   exact oJn 6 23)
  (by
   intro hg9
   have hs10 := hg9; try simp only [Bool.or_eq_true, Bool.not_eq_true', decide_eq_false_iff_not] at hs10
   refine oOf 17 hg9 ?_
   refine oOf 17 hg9 ?_
   refine oOf 17 hg9 ?_
   refine oOf 17 hg9 ?_
   refine oOf 17 hg9 ?_
   refine o_p (p_pickt rfl rfl hg9 rfl) rfl ?_
   refine aS ?_
   exact oJn 6 23) ?_
 refine aS ?_
 refine o_or 8 24 32 _ _ rfl
  (by
   intro hg11
   have hs12 := hg11; try simp only [Bool.or_eq_false_iff, Bool.not_eq_false', decide_eq_true_eq] at hs12
   refine oOn 24 hg11 ?_
   refine aS ?_
   refine oOn 24 hg11 ?_
   refine aS ?_
   refine oOn 24 hg11 ?_
   refine aS ?_
   refine oOn 24 hg11 ?_
   refine aS ?_
   refine oOn 24 hg11 ?_
   refine aS ?_
   refine oOn 24 hg11 ?_
   refine aS ?_
   refine oOn 24 hg11 ?_
   refine aS ?_
   refine o_p (p_pickf rfl rfl hg11 rfl) rfl ?_
   refine aS ?_
   exact oJn 8 32)
  (by
   intro hg13
   have hs14 := hg13; try simp only [Bool.or_eq_true, Bool.not_eq_true', decide_eq_false_iff_not] at hs14
   refine oOf 24 hg13 ?_
   refine oOf 24 hg13 ?_
   refine oOf 24 hg13 ?_
   refine oOf 24 hg13 ?_
   refine oOf 24 hg13 ?_
   refine oOf 24 hg13 ?_
   refine oOf 24 hg13 ?_
   refine o_p (p_pickt rfl rfl hg13 rfl) rfl ?_
   refine aS ?_
   exact oJn 8 32) ?_
 refine aS ?_
 refine s_cond rfl (fun h15 => ?_) fun h15 => ?_
 ·try simp only [Bool.or_eq_true, Bool.not_eq_true', decide_eq_false_iff_not] at h15
  exfalso; have hq9 := h15; simp [hl9] at hq9
 try simp only [Bool.or_eq_false_iff, Bool.not_eq_false', decide_eq_true_eq] at h15
 iterate 5 refine aS ?_
 refine o_h (h_call rfl fn_24 rfl (fun w1 h1 => c24 w1 co mo rm co mo rm a b ca cb L M (hs.later h1.nil) (ht.later h1.nil) hL hM hLs hMs)) rfl (fun b16 _ => ?_)
 rw [hch]
 iterate 4 refine aS ?_
 exact s_retv (rs := [.tmp 4]) rfl (.tmp rfl (.nil)) (fun w' h' => ⟨by rfl, h'.below⟩)
end Go.Proofs
namespace Gx
open Go Go.RowKit
section
variable {X : Ctx} {ops : Array Oper} {F : List Nat} {fuel i : Nat} {listed : Array Bool} {k : List KI} {L : Slots} {d ty : Nat} {op : Op} {pos : String} {aft : Array Edge} {w0 : World} {M : List Nat} {As Bs : List HA}
theorem d_hon {B : World → Prop} {G : Type} {V : G → Value} {Fg : G → Prop} {C' : G → World → Prop} {j : Nat} {want b : Bool} (i dj : Nat) (hi : ops[i]? = some ⟨some d, op, ty, pos, aft, some (j, want)⟩) (hj : (ops[j]?).bind (·.dst) = some dj) (hb : Slots.get L dj = some (.bool b)) (hw : b = want) (h : OpH X.P ⟨some d, op, ty, pos, aft, none⟩ L (HS w0 M As) V Fg C') (hr : (Region.ready .any ops listed == [i]) = true) (hB : ∀ w, HS w0 M As w → B w) (hd : Nat.blt d X.n = true)
    (next : ∀ g, Fg g → D X ops F B fuel (listed.setIfInBounds i true) k ((d, V g) :: L) (C' g)) : D X ops F B (fuel + 1) listed k L (HS w0 M As) := by
  intro hcl a ha
  have hy : yielded ops a.tmps j = some b := by simp [yielded, hj, ha.slot _ _ hb]
  have hr' : Region.ready .any ops listed = [i] := by simpa using hr
  refine WG_only hr' (fun _ => ⟨hB, HS.stab _ _ _⟩) ?_
  unfold StepA
  simp only [hi]
  rw [if_pos (by simp [Region.wanted, hy, hw])]
  exact ⟨G, V, Fg, C', fun w hw => h a.eval w ha.agr hw, fun g hg => next g hg (hcl.set (by rw [hr']; exact List.mem_singleton.2 rfl)) _ (ha.put d _ hd)⟩
end
end Gx
namespace Gx
set_option linter.unusedSimpArgs false
set_option linter.unusedVariables false
set_option linter.unusedSectionVars false
open Go Go.RowKit Go.Proofs
section
variable {w0 w : World} {M : List Nat} {As As' : List HA}
end
abbrev siz0 (co mo rm : Int) : Int := if colE12 co = 0 then sizE mo rm else colE12 co
abbrev cE1 (co : Int) (a : List UInt8) : Int := if colE12 co = 0 then keyE co a else colE12 co
end Gx
namespace Gx
set_option linter.unusedSimpArgs false
set_option linter.unusedVariables false
set_option linter.unusedSectionVars false
open Go Go.RowKit
def seenV (n : Nat) (S : List Int) : List Value := (List.range n).map fun k => Value.bool (decide (((k : Nat) : Int) ∈ S))
theorem seen_len (n : Nat) (S : List Int) : (seenV n S).length = n := by simp [seenV]
theorem seen_get {n k : Nat} {S : List Int} (h : k < n) : (seenV n S)[k]? = some (.bool (decide (((k : Nat) : Int) ∈ S))) := by
  unfold seenV
  rw [List.getElem?_map, List.getElem?_range h]
  rfl
theorem seen_set {n k : Nat} {S : List Int} (h : k < n) : setMany (seenV n S) k [.bool true] = seenV n (((k : Nat) : Int) :: S) := by
  apply List.ext_getElem?
  intro i
  show ((seenV n S).set k (.bool true))[i]? = _
  rw [List.getElem?_set]
  by_cases hi : i < n
  · rw [seen_get hi]
    by_cases e : k = i
    · subst e
      rw [if_pos rfl, if_pos (by rw [seen_len]; exact h), seen_get h, decide_eq_true (List.mem_cons_self ..)]
    · rw [if_neg e, seen_get hi]
      congr 2
      have hne : ((i : Nat) : Int) ≠ ((k : Nat) : Int) := by omega
      simp [List.mem_cons, hne]
  · rw [if_neg (by omega), List.getElem?_eq_none (by rw [seen_len]; omega), List.getElem?_eq_none (by rw [seen_len]; omega)]
theorem seen_dup {n : Nat} {c : Int} {S : List Int} (h : c ∈ S) : seenV n (c :: S) = seenV n S := by
  unfold seenV
  apply List.map_congr_left
  intro k _
  congr 1
  by_cases e : ((k : Nat) : Int) ∈ S
  · rw [decide_eq_true e, decide_eq_true (List.mem_cons_of_mem _ e)]
  · rw [decide_eq_false e, decide_eq_false (fun h2 => by
      rcases List.mem_cons.1 h2 with h3 | h3
      · exact e (h3 ▸ h)
      · exact e h3)]
theorem nodE_un {t : Tre} {i : Nat} {S : List Int} (h : ¬ (nth t.ns i).us = true) : nodE t i S = if (0 < i ∧ i + 1 < t.ns.length) ∧ (nth t.ns i).es.length + (nth t.ns i).cs.length = 0 then (0, S) else (3, S) := by
  unfold nodE
  simp only []
  rw [if_neg h]
section
variable {t : Tre} {i : Nat} {S : List Int} {n : Nd}
theorem nodE_16 (hn : nth t.ns i = n) (hu : n.us = true) (h : ¬ (n.es.length : Int) ≤ mostN t.mo t.rm i) : nodE t i S = (16, S) := by
  subst hn
  unfold nodE
  simp only []
  rw [if_pos hu, if_neg h]
theorem nodE_10 (hn : nth t.ns i = n) (hu : n.us = true) (h : (n.es.length : Int) ≤ mostN t.mo t.rm i) (h2 : ¬ (n.cs.length = 0 ∨ n.cs.length = n.es.length + 1)) : nodE t i S = (10, S) := by
  subst hn
  unfold nodE
  simp only []
  rw [if_pos hu, if_pos h, if_neg h2]
theorem nodE_en (hn : nth t.ns i = n) (hu : n.us = true) (h : (n.es.length : Int) ≤ mostN t.mo t.rm i) (h2 : n.cs.length = 0 ∨ n.cs.length = n.es.length + 1) (h3 : ¬ entsE t.co n.es = 0) : nodE t i S = (entsE t.co n.es, S) := by
  subst hn
  unfold nodE
  simp only []
  rw [if_pos hu, if_pos h, if_pos h2, if_neg h3]
theorem nodE_ki (hn : nth t.ns i = n) (hu : n.us = true) (h : (n.es.length : Int) ≤ mostN t.mo t.rm i) (h2 : n.cs.length = 0 ∨ n.cs.length = n.es.length + 1) (h3 : entsE t.co n.es = 0) (h4 : ¬ (kidsE t.ns n.cs S).1 = 0) : nodE t i S = kidsE t.ns n.cs S := by
  subst hn
  unfold nodE
  simp only []
  rw [if_pos hu, if_pos h, if_pos h2, if_pos h3, if_neg h4]
theorem nodE_or (hn : nth t.ns i = n) (hu : n.us = true) (h : (n.es.length : Int) ≤ mostN t.mo t.rm i) (h2 : n.cs.length = 0 ∨ n.cs.length = n.es.length + 1) (h3 : entsE t.co n.es = 0) (h4 : (kidsE t.ns n.cs S).1 = 0) : nodE t i S = (ordsE t.co n.es, (kidsE t.ns n.cs S).2) := by
  subst hn
  unfold nodE
  simp only []
  rw [if_pos hu, if_pos h, if_pos h2, if_pos h3, if_pos h4]
end
theorem eachF_at {es : List Int} {k : Nat} (hk : k < es.length) (h : ∀ j, j < k → es.getD j 0 = 0) (h2 : es.getD k 0 ≠ 0) : eachF es 0 = ((k : Int), es.getD k 0) := by
  have key : ∀ i, i ≤ k → eachF es 0 = eachF (es.drop i) i := by
    intro i
    induction i with
    | zero => intro _; rfl
    | succ i ih =>
      intro hi
      rw [ih (by omega), eachF_drop (by omega), if_pos (h i (by omega))]
  rw [key k (Nat.le_refl _), eachF_drop hk, if_neg h2]
theorem eachF_all {es : List Int} (h : ∀ j, j < es.length → es.getD j 0 = 0) : eachF es 0 = (0, 0) := by
  have key : ∀ i, i ≤ es.length → eachF es 0 = eachF (es.drop i) i := by
    intro i
    induction i with
    | zero => intro _; rfl
    | succ i ih =>
      intro hi
      rw [ih (by omega), eachF_drop (by omega), if_pos (h i (by omega))]
  rw [key _ (Nat.le_refl _), List.drop_length]
  rfl
theorem ents_bad {co : Int} {es : List TEnt} {k : Nat} (hk : k < es.length) (h1 : ∀ q, q < k → entE co (nth es q) = 0) (h2 : ¬ entE co (nth es k) = 0) : entsE co es = entE co (nth es k) := by
  unfold entsE
  rw [eachF_at (es := es.map (entE co)) (k := k) (by rw [List.length_map]; exact hk) (fun q hq => by rw [ents_get (by omega)]; exact h1 q hq) (by rw [ents_get hk]; exact h2), ents_get hk]
theorem ents_all {co : Int} {es : List TEnt} (h1 : ∀ q, q < es.length → entE co (nth es q) = 0) : entsE co es = 0 := by
  unfold entsE
  rw [eachF_all (fun q hq => by rw [List.length_map] at hq; rw [ents_get hq]; exact h1 q hq)]
theorem ords_bad {co : Int} {es : List TEnt} {k : Nat} (hk : k < es.length) (h1 : ∀ q, q < k → ordE co es q = 0) (h2 : ¬ ordE co es k = 0) : ordsE co es = ordE co es k := by
  unfold ordsE
  rw [eachF_at (es := (List.range es.length).map (ordE co es)) (k := k) (by simpa using hk) (fun q hq => by rw [ords_get (by omega)]; exact h1 q hq) (by rw [ords_get hk]; exact h2), ords_get hk]
theorem ords_all {co : Int} {es : List TEnt} (h1 : ∀ q, q < es.length → ordE co es q = 0) : ordsE co es = 0 := by
  unfold ordsE
  rw [eachF_all (fun q hq => by rw [List.length_map, List.length_range] at hq; rw [ords_get hq]; exact h1 q hq)]
theorem ents_0 {co : Int} {es : List TEnt} (h : ∀ x ∈ es, entE co x = 0) : entsE co es = 0 := by
  unfold entsE
  refine eachF_0.2 fun e he => ?_
  obtain ⟨x, hx, rfl⟩ := List.mem_map.1 he
  exact h x hx
theorem ords_0 {co : Int} {es : List TEnt} (h : Asc co es) : ordsE co es = 0 := by
  unfold ordsE
  refine eachF_0.2 fun e he => ?_
  obtain ⟨k, hk, rfl⟩ := List.mem_map.1 he
  have hk := List.mem_range.1 hk
  unfold ordE
  rw [if_pos]
  rcases Nat.eq_zero_or_pos k with h0 | h0
  · exact .inl h0
  · refine .inr ?_
    have := h (k - 1) (by omega)
    rwa [show k - 1 + 1 = k by omega] at this
theorem kids_0 {ns : List Nd} : ∀ {cs seen : List Int}, (∀ c ∈ cs, (1 ≤ c ∧ c ≤ (ns.length : Int) - 1) ∧ (nth ns c.toNat).us = true) → (seen.reverse ++ cs).Nodup → kidsE ns cs seen = (0, cs.reverse ++ seen)
  | [], seen, _, _ => rfl
  | c :: cs, seen, h, hn => by
    have hc : c ∉ seen := fun hm => by
      have h1 := List.nodup_append.1 hn
      exact h1.2.2 c (List.mem_reverse.2 hm) c (List.mem_cons_self ..) rfl
    rw [kidsE, if_pos (h c (List.mem_cons_self ..)), if_neg hc, kids_0 (fun x hx => h x (List.mem_cons_of_mem _ hx)) (by rw [List.reverse_cons, List.append_assoc]; exact hn), List.reverse_cons, List.append_assoc]
    rfl
theorem node_0 {t : Tre} {i : Nat} {seen : List Int} (hT : TOk t.co t.ns) (hi : i < t.ns.length) (hm : (nth t.ns i).us = true → ((nth t.ns i).es.length : Int) ≤ mostN t.mo t.rm i) (hn : (seen.reverse ++ (nth t.ns i).cs).Nodup) : nodE t i seen = (0, (nth t.ns i).cs.reverse ++ seen) := by
  cases hu : (nth t.ns i).us with
  | true =>
    have hk := kids_0 (hT.kid i hi) hn
    rw [nodE_or rfl hu (hm hu) (hT.shape i hi) (ents_0 (hT.ents i hi)) (by rw [hk]), hk, ords_0 (hT.asc i hi)]
  | false =>
    have h1 := hT.free i hi hu
    rw [nodE_un (by rw [hu]; decide), if_pos ⟨h1.1, by rw [h1.2.1, h1.2.2]; rfl⟩, h1.2.2]
    rfl
theorem nods_0 {t : Tre} (hT : TOk t.co t.ns) (hm : ∀ i, i < t.ns.length → (nth t.ns i).us = true → ((nth t.ns i).es.length : Int) ≤ mostN t.mo t.rm i) : ∀ (f i : Nat) (seen : List Int), i + f = t.ns.length → (seen.reverse ++ (t.ns.drop i).flatMap Nd.cs).Nodup → (nodsE t f i seen).2 = 0
  | 0, i, seen, _, _ => rfl
  | f + 1, i, seen, hf, hn => by
    have hi : i < t.ns.length := by omega
    have e : t.ns.drop i = nth t.ns i :: t.ns.drop (i + 1) := drop_nth hi
    rw [e, List.flatMap_cons, ← List.append_assoc] at hn
    have h1 := node_0 hT hi (hm i hi) (List.nodup_append.1 hn).1
    rw [nodsE, h1, if_pos rfl]
    refine nods_0 hT hm f (i + 1) _ (by omega) ?_
    rw [List.reverse_append, List.reverse_reverse]
    exact hn
theorem nodesL_bal {lo hi d : Nat} : ∀ {ks : List BT}, (∀ k ∈ ks, Bal lo hi d k) → ∀ p ∈ nodesL ks, lo ≤ p.2.es.length ∧ p.2.es.length ≤ hi := by
  induction d with
  | zero =>
    intro ks h p hp
    obtain ⟨k, hk, hp⟩ := nodesL_in (k := default) hp
    have hb := h k hk
    cases k with
    | nd i es js =>
      have e : js = [] := hb.1
      rw [e, BT.nodes, nodesL] at hp
      rcases List.mem_cons.1 hp with rfl | hp
      · exact hb.2
      · cases hp
  | succ d ih =>
    intro ks h p hp
    obtain ⟨k, hk, hp⟩ := nodesL_in (k := default) hp
    have hb := h k hk
    cases k with
    | nd i es js =>
      rw [BT.nodes] at hp
      rcases List.mem_cons.1 hp with rfl | hp
      · exact hb.2
      · exact ih hb.1.2 p hp
theorem btN_bt {ns : List Nd} {lo hi : Nat} : ∀ {d f : Nat} {T : BT}, Bel lo hi d T → NIn ns T → d < f → btN ns f T.idx = T
  | d, 0, _, _, _, h => absurd h (Nat.not_lt_zero _)
  | 0, f + 1, .nd i es ks, hB, hN, _ => by
    have hk := bel_0 hB
    subst hk
    show btN ns (f + 1) i = _
    rw [btN, hN.root.2]
    rfl
  | d + 1, f + 1, .nd i es ks, hB, hN, h => by
    show btN ns (f + 1) i = _
    rw [btN, hN.root.2]
    show BT.nd i es ((idxs ks).map fun c => btN ns f c.toNat) = _
    congr 1
    refine List.ext_getElem (by rw [List.length_map, idxs_len]) fun k h1 h2 => ?_
    rw [List.getElem_map]
    have e : (idxs ks)[k]'(by rw [idxs_len]; exact h2) = ((nth ks k).idx : Int) := by
      have := idxs_gd h2
      rw [List.getD_eq_getElem?_getD, List.getElem?_eq_getElem (by rw [idxs_len]; exact h2)] at this
      exact this
    rw [e, Int.toNat_natCast, btN_bt (bel_kid hB h2) (hN.kid h2) (by omega), show nth ks k = ks[k] from nth_eq (List.getElem?_eq_getElem h2)]
theorem deep_bt {ns : List Nd} {lo hi : Nat} : ∀ {d f : Nat} {T : BT}, Bel lo hi d T → NIn ns T → d < f → deepT ns f T.idx = (d : Int)
  | d, 0, _, _, _, h => absurd h (Nat.not_lt_zero _)
  | 0, f + 1, .nd i es ks, hB, hN, _ => by
    have hk := bel_0 hB
    subst hk
    show deepT ns (f + 1) i = _
    rw [deepT, hN.root.2]
    exact if_pos rfl
  | d + 1, f + 1, .nd i es ks, hB, hN, h => by
    have hl : 0 < ks.length := by have := hB.1; simp only [BT.ks, BT.es] at this; omega
    show deepT ns (f + 1) i = _
    rw [deepT, hN.root.2, if_neg (by show ¬ (idxs ks).length = 0; rw [idxs_len]; omega)]
    show deepT ns f ((idxs ks).getD 0 0).toNat + 1 = _
    rw [idxs_gd hl, Int.toNat_natCast, deep_bt (bel_kid hB hl) (hN.kid hl) (by omega)]
    simp
section
variable {co : Int} {es : List TEnt} {ks : List BT} {k : Nat}
theorem kid_lt (hs : Srt co (flatL es ks)) (h : ks.length = es.length + 1) (hk : k < es.length) {x : TEnt} (hx : x ∈ (nth ks k).flat) : cmpK co x.key (nth es k).key < 0 := by
  obtain ⟨B, hB⟩ := preK_ex (.inr h) (k := k + 1) (by omega)
  rw [hB, preK_one hk, midK_one (by omega)] at hs
  have h1 := (List.pairwise_append.1 hs).1
  exact (List.pairwise_append.1 h1).2.2 x (List.mem_append_right _ hx) _ (List.mem_singleton.2 rfl)
theorem kid_gt (hs : Srt co (flatL es ks)) (h : ks.length = es.length + 1) (hk : k < es.length) {x : TEnt} (hx : x ∈ (nth ks (k + 1)).flat) : cmpK co (nth es k).key x.key < 0 := by
  obtain ⟨B, hB⟩ := midK_ex (.inr h) (k := k + 1) (by omega)
  rw [hB, midK_one (by omega), preK_one hk] at hs
  have h1 := (List.pairwise_append.1 hs).1
  exact (List.pairwise_append.1 h1).2.2 _ (List.mem_append_right _ (List.mem_singleton.2 rfl)) x hx
theorem kid_srt (hs : Srt co (flatL es ks)) (h : ks.length = es.length + 1) (hk : k < ks.length) : Srt co (nth ks k).flat := by
  obtain ⟨B, hB⟩ := midK_ex (.inr h) (k := k) (by omega)
  rw [hB, midK_one (by omega)] at hs
  exact (List.pairwise_append.1 (List.pairwise_append.1 hs).1).2.1
end
theorem vis_in {co : Int} {ns : List Nd} {lo hi : Nat} : ∀ {d f : Nat} {T : BT} {v : Vis}, Bel lo hi d T → NIn ns T → d < f → v.i = T.idx → Srt co T.flat → (∀ x ∈ T.flat, InB co v.lo v.hi x) → ∀ u ∈ vis ns f v, (∀ x ∈ (nth ns u.i).es, InB co u.lo u.hi x) ∧ ((nth ns u.i).cs.length = 0 → u.d = v.d + (d : Int))
  | d, 0, _, _, _, _, h, _, _, _, _, _ => absurd h (Nat.not_lt_zero _)
  | 0, f + 1, .nd i es ks, v, hB, hN, _, hv, hs, hb, u, hu => by
    have hk := bel_0 hB
    subst hk
    have hi : v.i = i := hv
    rw [vis, hi, hN.root.2] at hu
    rcases List.mem_cons.1 hu with rfl | hu
    · rw [hi, hN.root.2]
      rw [BT.flat, flatL_nil] at hb
      exact ⟨hb, fun _ => by simp⟩
    · cases hu
  | d + 1, f + 1, .nd i es ks, v, hB, hN, h, hv, hs, hb, u, hu => by
    have hi : v.i = i := hv
    have hl : ks.length = es.length + 1 := hB.1
    rw [BT.flat] at hs hb
    rw [vis, hi, hN.root.2] at hu
    rcases List.mem_cons.1 hu with rfl | hu
    · rw [hi, hN.root.2]
      refine ⟨fun x hx => hb x ((es_sub es ks).subset hx), fun h9 => ?_⟩
      have h8 : (idxs ks).length = 0 := h9
      rw [idxs_len] at h8
      omega
    · obtain ⟨k, hk, hu⟩ := List.mem_flatMap.1 hu
      have hk := List.mem_range.1 hk
      have hk : k < ks.length := by rw [← idxs_len]; exact hk
      have hj : ((idxs ks).getD k 0).toNat = (nth ks k).idx := by rw [idxs_gd hk, Int.toNat_natCast]
      have h1 := vis_in (co := co) (f := f) (v := ⟨((idxs ks).getD k 0).toNat, v.d + 1, loK es k v.lo, hiK es k v.hi⟩) (bel_kid hB hk) (hN.kid hk) (by omega) hj (kid_srt hs hl hk) (fun x hx => ?_) u hu
      · refine ⟨h1.1, fun h9 => ?_⟩
        rw [h1.2 h9]
        show v.d + 1 + (d : Int) = _
        simp only [Int.natCast_add, Int.natCast_one]
        omega
      · have h2 := hb x (kid_mem hl hk hx)
        refine ⟨fun b hb2 => ?_, fun b hb2 => ?_⟩
        · change loK es k v.lo = some b at hb2
          unfold loK at hb2
          by_cases h0 : 0 < k
          · rw [if_pos h0] at hb2
            injection hb2 with hb2
            subst hb2
            obtain ⟨q, rfl⟩ : ∃ q, k = q + 1 := ⟨k - 1, by omega⟩
            exact kid_gt hs hl (by omega) hx
          · rw [if_neg h0] at hb2
            exact h2.1 b hb2
        · change hiK es k v.hi = some b at hb2
          unfold hiK at hb2
          by_cases h0 : k < es.length
          · rw [if_pos h0] at hb2
            injection hb2 with hb2
            subst hb2
            exact kid_lt hs hl h0 hx
          · rw [if_neg h0] at hb2
            exact h2.2 b hb2
theorem opn_no {ns : List Nd} {below : List Nat} : ∀ {f i : Nat}, (∀ j, i ≤ j → j < i + f → (nth ns j).us = true → j ∈ below) → opnF ns below f i = none
  | 0, i, _ => rfl
  | f + 1, i, h => by
    rw [opnF, if_neg (fun h1 => h1.2 (h i (Nat.le_refl _) (by omega) h1.1))]
    exact opn_no fun j h1 h2 => h j (by omega) (by omega)
theorem shp_no {t : Tre} {deep : Int} : ∀ {vs : List Vis}, (∀ v ∈ vs, visE t deep v = 0) → (shpF t deep vs).2 = 0
  | [], _ => rfl
  | v :: vs, h => by
    rw [shpF, if_pos (h v (List.mem_cons_self ..))]
    exact shp_no fun u hu => h u (List.mem_cons_of_mem _ hu)
theorem bel_lt {lo hi : Nat} : ∀ {d : Nat} {T : BT}, Bel lo hi d T → d < T.nodes.length
  | 0, .nd i es ks, h => by
    rw [BT.nodes]
    exact Nat.succ_pos _
  | d + 1, .nd i es ks, h => by
    have hl : 0 < ks.length := by have := h.1; simp only [BT.ks, BT.es] at this; omega
    have h1 := bel_lt (bel_kid h hl)
    rw [BT.nodes]
    cases ks with
    | nil => cases hl
    | cons k ks =>
      rw [nodesL, List.length_cons, List.length_append]
      have e : nth (k :: ks) 0 = k := rfl
      rw [e] at h1
      omega
theorem vt_tre {t : Tre} {lo hi rt d : Nat} {T : BT} (hc : colE12 t.co = 0) (hse : sizE t.mo t.rm = 0) (hz : Sz t.mo t.rm lo hi rt) (hR : RepT t.ns T) (hV : VT t.co lo hi rt d T) (hu : LastU t.ns) (hl : t.ns.length ≤ 120) : (treE t).2 = 0 := by
  have hT := rep_tok hR hV hu
  have hroot := hR.root
  have h0 : 0 < t.ns.length := by omega
  have hN := hR.nin
  have hdl : d < t.ns.length := Nat.lt_of_lt_of_le (bel_lt hV.bel) hR.nlen
  have hw : Gx.Way t.ns [0] := rfl
  have hbt : btN t.ns t.ns.length 0 = T := by
    have := btN_bt hV.bel hN hdl
    rwa [hV.idx] at this
  have hvb := vis_bt hT h0 t.ns.length root0 [] hw (by simp)
  rw [show root0.i = 0 from rfl, hbt] at hvb
  have hes : ∀ p ∈ T.nodes, p.1 = 0 ∨ (lo ≤ p.2.es.length ∧ p.2.es.length ≤ hi) := fun p hp => by
    cases T with
    | nd i es ks =>
      rw [BT.nodes] at hp
      rcases List.mem_cons.1 hp with rfl | hp
      · exact .inl hV.idx
      · cases d with
        | zero =>
          rw [bel_0 hV.bel, nodesL] at hp
          cases hp
        | succ d => exact .inr (nodesL_bal hV.bel.2 p hp)
  have hin : ∀ i, i < t.ns.length → (nth t.ns i).us = true → (i, nth t.ns i) ∈ T.nodes := fun i hi hus => by
    by_cases hm : i ∈ T.nodes.map Prod.fst
    · obtain ⟨p, hp, rfl⟩ := List.mem_map.1 hm
      rw [(hN p hp).2]
      exact hp
    · rw [RepN.rest hR i hi hm] at hus
      cases hus
  have hmost : ∀ i, i < t.ns.length → (nth t.ns i).us = true → ((nth t.ns i).es.length : Int) ≤ mostN t.mo t.rm i := fun i hi hus => by
    unfold mostN
    have e1 := hz.emo; have e2 := hz.erm
    by_cases h9 : i = 0
    · subst h9
      rw [if_pos rfl]
      have h8 := hroot.2
      rw [hV.idx] at h8
      rw [h8]
      have := hV.root
      simp only
      omega
    · rw [if_neg h9]
      rcases hes _ (hin i hi hus) with h | h
      · exact absurd h h9
      · simp only at h
        omega
  have hnods := nods_0 (t := t) hT hmost t.ns.length 0 [] (by omega) (by rw [List.drop_zero]; exact hT.once)
  unfold treE
  rw [if_pos hc, if_pos hse, if_pos h0, if_pos hl, if_pos hnods]
  have hop : opnF t.ns ((visT t.ns).map Vis.i) t.ns.length 0 = none := opn_no fun j _ h2 hus => by
    show j ∈ (vis t.ns t.ns.length root0).map Vis.i
    rw [hvb]
    exact List.mem_map.2 ⟨_, hin j (by omega) hus, rfl⟩
  rw [hop]
  have hdeep : deepT t.ns t.ns.length 0 = (d : Int) := by
    have := deep_bt hV.bel hN hdl
    rwa [hV.idx] at this
  refine shp_no fun u huv => ?_
  have h1 := vis_in (co := t.co) (v := root0) hV.bel hN hdl hV.idx.symm hV.srt (fun x _ => ⟨fun b h => (nomatch h), fun b h => (nomatch h)⟩) u huv
  have hmem : u.i ∈ T.nodes.map Prod.fst := by
    rw [← hvb]
    exact List.mem_map.2 ⟨u, huv, rfl⟩
  obtain ⟨p, hp, hpu⟩ := List.mem_map.1 hmem
  have hpn := hN p hp
  rw [hpu] at hpn
  rw [visE_eq, if_neg, if_neg, if_neg]
  · intro h9
    rw [hdeep] at h9
    have := h1.2 h9.1
    have e : root0.d = 1 := rfl
    omega
  · unfold outsB
    intro h9
    obtain ⟨x, hx, ho⟩ := List.any_eq_true.1 h9
    have h8 := h1.1 x hx
    rcases out_iff'.1 ho with ⟨b, hb, hle⟩ | ⟨b, hb, hle⟩
    · have := h8.1 b hb
      omega
    · have := h8.2 b hb
      omega
  · unfold gapB
    intro h9
    simp only [Bool.and_eq_true, Bool.or_eq_true, decide_eq_true_eq] at h9
    have e1 := hz.emo; have e2 := hz.erm; have e3 := hz.elo
    rcases hes p hp with h | h
    · omega
    · rw [hpn.2] at h9
      rcases h9.2 with h8 | h8
      · omega
      · have h7 := hroot.2
        rw [hV.idx] at h7
        rw [h7] at h8
        have hnil : T.es = [] := List.eq_nil_of_length_eq_zero h8.1.1
        have hm9 : (u.i : Int) ∈ idxs T.ks := h8.1.2
        obtain ⟨k, hk, hke⟩ := List.mem_map.1 hm9
        have hone : T.ks = [k] := by
          have hs := hV.bel.cs
          rcases hs with hs | hs
          · rw [hs] at hk
            cases hk
          · rw [hnil] at hs
            cases hks : T.ks with
            | nil =>
              rw [hks] at hk
              cases hk
            | cons q qs =>
              rw [hks] at hs hk
              have : qs = [] := List.eq_nil_of_length_eq_zero (by simpa using hs)
              subst this
              rcases List.mem_singleton.1 hk with rfl
              rfl
        have hg := hV.gap hnil k hone
        have hkn : (u.i, (⟨true, k.es, idxs k.ks⟩ : Nd)) ∈ T.nodes := by
          have : k.idx = u.i := by omega
          rw [← this]
          cases T with
          | nd i es ks =>
            rw [BT.nodes]
            refine List.mem_cons_of_mem _ (mem_nodesL (k := k) hk ?_)
            cases k with
            | nd a b c =>
              rw [BT.nodes]
              exact List.mem_cons_self ..
        have h6 := (hN _ hkn).2
        simp only at h6
        rw [hpn.2] at h6
        have h5 := h8.2
        rw [h6] at h5
        simp only at h5
        omega
end Gx
namespace Go.Proofs
open Go Go.RowKit Gx
set_option linter.unusedVariables false
set_option linter.unusedSimpArgs false
attribute [local irreducible] Go.Calls Gx.S Gx.O Gx.D Gx.OpP Gx.OpQ Gx.OpH
set_option maxRecDepth 20000
theorem fn_13 : isFn Tryz.prog 13 = true := by kernel_rfl
theorem ar_49 : tar Tryz.prog 49 = some (2, 3, 1) := by kernel_rfl
theorem fn_29 : isFn Tryz.prog 29 = true := by kernel_rfl
theorem fn_30 : isFn Tryz.prog 30 = true := by kernel_rfl
theorem fn_31 : isFn Tryz.prog 31 = true := by kernel_rfl
theorem fn_21 : isFn Tryz.prog 21 = true := by kernel_rfl
theorem fn_19 : isFn Tryz.prog 19 = true := by kernel_rfl
set_option maxHeartbeats 400000 in
theorem c85 (w : World) (j : Nat) (mo rm : Int) (a : Option Addr) (cap : Nat) (L : List LNd) (i sb scap tot : Nat) (S : List Int) (hw : HS w (fps [.blk sb 4 tot (seenV L.length S)]) [.blk sb 4 tot (seenV L.length S)] w) (hs : Nt w (fps [.blk sb 4 tot (seenV L.length S)]) a L) (hj : j ≤ 3) (hi : i < L.length) (hl : L.length ≤ 1000) (hel : (nth L i).es.length ≤ 1000) (hcl : (nth L i).cs.length ≤ 1000) (hK : ∀ x ∈ (nth L i).es, x.key.length ≤ 1000000) : Calls Tryz.prog 85 #[.agg #[.int .i64 (j : Int), .int .i64 mo, .int .i64 rm, .slice a L.length cap], .int .i64 (i : Int), .slice (some ⟨sb, 0, none⟩) L.length scap] w fun en w' => ∃ g : Unit, en = .returned (.int .i64 (nodE (⟨(j : Int), mo, rm, pln L⟩ : Tre) i S).1) ∧ True ∧ HS w (fps [.blk sb 4 tot (seenV L.length S)]) [.blk sb 4 tot (seenV L.length (nodE (⟨(j : Int), mo, rm, pln L⟩ : Tre) i S).2)] w' := by
 have hNI := pln_nth hi
 have hnl : (pln L).length = L.length := pln_len L
 refine enter (args := [_, _, _]) Tryz.func85 Tryz.ntmps85 rfl rfl hw ?_
 iterate 2 refine aS ?_
 refine oBx fun b1 _ => ?_
 iterate 7 refine aS ?_
 refine o_p (p_indexAddr rfl rfl rfl sl_22 (i) (by omega) (by omega) (Rw.some hs.1 (by omega))) rfl ?_
 refine o_q (q_load_oldn _ rfl rfl sz_102 rfl (Rw.rd hs.1 hi)) rfl ?_
 refine oAl (fun b2 _ => ?_) zr_102
 refine oSt ?_
 iterate 8 refine aS ?_
 refine s_cond rfl (fun h3 => ?_) fun h3 => ?_
 ·try simp only [Bool.not_eq_true'] at h3
  have hu9 : ¬ (nth L i).us = true := by have hq := h3; simp [hq]
  have hun := nodE_un (t := (⟨(j : Int), mo, rm, pln L⟩ : Tre)) (S := S) (i := i) (by rw [show ((⟨(j : Int), mo, rm, pln L⟩ : Tre)).ns = pln L from rfl, hNI]; exact hu9)
  rw [show ((⟨(j : Int), mo, rm, pln L⟩ : Tre)).ns = pln L from rfl, hNI, hnl] at hun
  iterate 6 refine aS ?_
  refine o_or 7 24 31 _ _ rfl
   (by
    intro hg4
    have hs5 := hg4; try simp only [decide_eq_false_iff_not] at hs5
    refine oOn 24 hg4 ?_
    refine aS ?_
    refine oOn 24 hg4 ?_
    refine aS ?_
    try refine oWr ?_
    refine oOn 24 hg4 ?_
    refine aS ?_
    refine oOn 24 hg4 ?_
    refine aS ?_
    refine oOn 24 hg4 ?_
    refine aS ?_
    refine oOn 24 hg4 ?_
    refine aS ?_
    refine o_p (p_pickf rfl rfl hg4 rfl) rfl ?_
    refine aS ?_
    exact oJn 7 31)
   (by
    intro hg6
    have hs7 := hg6; try simp only [decide_eq_true_eq] at hs7
    refine oOf 24 hg6 ?_
    refine oOf 24 hg6 ?_
    refine oOf 24 hg6 ?_
    refine oOf 24 hg6 ?_
    refine oOf 24 hg6 ?_
    refine oOf 24 hg6 ?_
    refine o_p (p_pickt rfl rfl hg6 rfl) rfl ?_
    refine aS ?_
    exact oJn 7 31) ?_
  refine aS ?_
  refine o_or 5 32 37 _ _ rfl
   (by
    intro hg8
    have hs9 := hg8; try simp only [Bool.or_eq_false_iff, decide_eq_false_iff_not] at hs9
    refine oOn 32 hg8 ?_
    refine aS ?_
    refine oOn 32 hg8 ?_
    refine aS ?_
    refine oOn 32 hg8 ?_
    refine aS ?_
    refine oOn 32 hg8 ?_
    refine aS ?_
    refine o_p (p_pickf rfl rfl hg8 rfl) rfl ?_
    refine aS ?_
    exact oJn 5 37)
   (by
    intro hg10
    have hs11 := hg10; try simp only [Bool.or_eq_true, decide_eq_true_eq] at hs11
    refine oOf 32 hg10 ?_
    refine oOf 32 hg10 ?_
    refine oOf 32 hg10 ?_
    refine oOf 32 hg10 ?_
    refine o_p (p_pickt rfl rfl hg10 rfl) rfl ?_
    refine aS ?_
    exact oJn 5 37) ?_
  refine aS ?_
  refine o_or 5 38 43 _ _ rfl
   (by
    intro hg12
    have hs13 := hg12; try simp only [Bool.or_eq_false_iff, decide_eq_false_iff_not] at hs13
    refine oOn 38 hg12 ?_
    refine aS ?_
    refine oOn 38 hg12 ?_
    refine aS ?_
    refine oOn 38 hg12 ?_
    refine aS ?_
    refine oOn 38 hg12 ?_
    refine aS ?_
    refine o_p (p_pickf rfl rfl hg12 rfl) rfl ?_
    refine aS ?_
    exact oJn 5 43)
   (by
    intro hg14
    have hs15 := hg14; try simp only [Bool.or_eq_true, decide_eq_true_eq] at hs15
    refine oOf 38 hg14 ?_
    refine oOf 38 hg14 ?_
    refine oOf 38 hg14 ?_
    refine oOf 38 hg14 ?_
    refine o_p (p_pickt rfl rfl hg14 rfl) rfl ?_
    refine aS ?_
    exact oJn 5 43) ?_
  refine aS ?_
  refine s_cond rfl (fun h16 => ?_) fun h16 => ?_
  ·try simp only [Bool.or_eq_true, decide_eq_true_eq] at h16
   have hn9 : ¬ ((0 < i ∧ i + 1 < L.length) ∧ (nth L i).es.length + (nth L i).cs.length = 0) := by have hq := h16; omega
   have hun2 : (nodE (⟨(j : Int), mo, rm, pln L⟩ : Tre) i S) = (3, S) := by rw [hun]; exact if_neg hn9
   iterate 4 refine aS ?_
   exact s_retv (rs := [.tmp 6]) rfl (.tmp rfl (.nil)) (fun w' h' => ⟨(), by rw [hun2]; rfl, trivial, by rw [hun2]; exact h'.ent aEt⟩)
  try simp only [Bool.or_eq_false_iff, decide_eq_false_iff_not] at h16
  have hn9 : (0 < i ∧ i + 1 < L.length) ∧ (nth L i).es.length + (nth L i).cs.length = 0 := by have hq := h16; omega
  have hun2 : (nodE (⟨(j : Int), mo, rm, pln L⟩ : Tre) i S) = (0, S) := by rw [hun]; exact if_pos hn9
  iterate 5 refine aS ?_
  exact s_retv (rs := [.tmp 6]) rfl (.tmp rfl (.nil)) (fun w' h' => ⟨(), by rw [hun2]; rfl, trivial, by rw [hun2]; exact h'.ent aEt⟩)
 try simp only [Bool.not_eq_false'] at h3
 have hu9 : (nth L i).us = true := by have hq := h3; simpa using hq
 iterate 13 refine aS ?_
 refine s_weaken (L' := [(2, _), (3, _), (6, _), (7, _), (8, _), (47, _)]) aSx (fun _ h => h) ?_
 refine s_cutS (α := Unit) [8, 48, 49] (fun _ => [(8, .int .i64 (mostN mo rm i))]) (fun _ => True) ?_ ?_
 ·skip
  refine s_cond rfl (fun h17 => ?_) fun h17 => ?_
  ·try simp only [decide_eq_true_eq] at h17
   have hi0 : i = 0 := by have hq := h17; omega
   iterate 5 refine aS ?_
   exact s_joinI () trivial (by rw [show mostN mo rm i = rm from if_pos hi0]; exact aSx) (fun w h => h)
  try simp only [decide_eq_false_iff_not] at h17
  have hi0 : ¬ i = 0 := by have hq := h17; omega
  refine aS ?_
  exact s_joinI () trivial (by rw [show mostN mo rm i = mo from if_neg hi0]; exact aSx) (fun w h => h)
 intro _ _
 iterate 9 refine aS ?_
 refine s_cond rfl (fun h18 => ?_) fun h18 => ?_
 ·try simp only [decide_eq_true_eq] at h18
  have h16 : (nodE (⟨(j : Int), mo, rm, pln L⟩ : Tre) i S) = (16, S) := nodE_16 (t := (⟨(j : Int), mo, rm, pln L⟩ : Tre)) hNI hu9 (by show ¬ ((nth L i).es.length : Int) ≤ mostN mo rm i; have hq := h18; omega)
  iterate 4 refine aS ?_
  exact s_retv (rs := [.tmp 6]) rfl (.tmp rfl (.nil)) (fun w' h' => ⟨(), by rw [h16]; rfl, trivial, by rw [h16]; exact h'.ent aEt⟩)
 try simp only [decide_eq_false_iff_not] at h18
 have hM9 : ((nth L i).es.length : Int) ≤ mostN mo rm i := by have hq := h18; omega
 iterate 9 refine aS ?_
 refine o_and 9 59 68 _ _ rfl
  (by
   intro hg19
   have hs20 := hg19; try simp only [decide_eq_true_eq] at hs20
   refine oOn 59 hg19 ?_
   refine aS ?_
   refine oOn 59 hg19 ?_
   refine aS ?_
   refine oOn 59 hg19 ?_
   refine aS ?_
   refine oOn 59 hg19 ?_
   refine aS ?_
   refine oOn 59 hg19 ?_
   refine aS ?_
   refine oOn 59 hg19 ?_
   refine aS ?_
   refine oOn 59 hg19 ?_
   refine aS ?_
   try refine oWr ?_
   refine oOn 59 hg19 ?_
   refine aS ?_
   refine o_p (p_pickt rfl rfl hg19 rfl) rfl ?_
   refine aS ?_
   exact oJn 9 68)
  (by
   intro hg21
   have hs22 := hg21; try simp only [decide_eq_false_iff_not] at hs22
   refine oOf 59 hg21 ?_
   refine oOf 59 hg21 ?_
   refine oOf 59 hg21 ?_
   refine oOf 59 hg21 ?_
   refine oOf 59 hg21 ?_
   refine oOf 59 hg21 ?_
   refine oOf 59 hg21 ?_
   refine oOf 59 hg21 ?_
   refine o_p (p_pickf rfl rfl hg21 rfl) rfl ?_
   refine aS ?_
   exact oJn 9 68) ?_
 refine aS ?_
 refine s_cond rfl (fun h23 => ?_) fun h23 => ?_
 ·try simp only [Bool.and_eq_true, decide_eq_true_eq, Bool.not_eq_true', decide_eq_false_iff_not] at h23
  have h10 : (nodE (⟨(j : Int), mo, rm, pln L⟩ : Tre) i S) = (10, S) := nodE_10 (t := (⟨(j : Int), mo, rm, pln L⟩ : Tre)) hNI hu9 hM9 (by show ¬ ((nth L i).cs.length = 0 ∨ (nth L i).cs.length = (nth L i).es.length + 1); have hq := h23; omega)
  iterate 4 refine aS ?_
  exact s_retv (rs := [.tmp 6]) rfl (.tmp rfl (.nil)) (fun w' h' => ⟨(), by rw [h10]; rfl, trivial, by rw [h10]; exact h'.ent aEt⟩)
 try simp only [Bool.and_eq_false_iff, decide_eq_false_iff_not, Bool.not_eq_false', decide_eq_true_eq] at h23
 have hS9 : (nth L i).cs.length = 0 ∨ (nth L i).cs.length = (nth L i).es.length + 1 := by have hq := h23; omega
 iterate 7 refine aS ?_
 refine s_weaken (L' := [(2, _), (3, _), (6, _), (7, _), (9, _)]) aSx (fun _ h => h) ?_
 refine s_loopI (α := Nat) [6, 9, 10, 69, 70, 71, 72, 73, 74, 75, 76, 77, 78, 79, 80, 81, 82, 83, 84, 85, 86] (fun k => [(9, .int .i64 (k : Int))]) (fun _ => HS w (fps [.blk sb 4 tot (seenV L.length S)]) [.blk sb 4 tot (seenV L.length S), .blk b1 24 4 [.int .i64 (j : Int), .int .i64 mo, .int .i64 rm, .slice a L.length cap], .blk b2 102 3 (LNd.vals (nth L i))]) (fun k => k ≤ (nth L i).es.length ∧ ∀ q, q < k → entE (j : Int) (nth (nth L i).es q) = 0) (fun k => (nth L i).es.length - k) 0 ⟨Nat.zero_le _, fun j h => absurd h (Nat.not_lt_zero j)⟩ aSx (fun w h => h.ent aEt) (fun k hx => ?_)
 obtain ⟨hk1, hk3⟩ := hx
 iterate 9 refine aS ?_
 refine s_cond rfl (fun h24 => ?_) fun h24 => ?_
 ·try simp only [decide_eq_true_eq] at h24
  have hk5 : k < (nth L i).es.length := by omega
  iterate 4 refine aS ?_
  refine s_draw [] mixed ?_
  refine dFa 0 ?_
  refine dLd 1 [] ?_
  refine dFa 2 ?_
  refine dLd 3 [] ?_
  refine dP 4 ?_
  refine d_p 5 rfl (p_indexAddr rfl rfl rfl sl_77 (k) (by omega) (by omega) (Rw.some (hs.es hi) (by omega))) (by kernel_rfl) rfl rfl ?_
  refine d_q 6 [] rfl (q_load_oldn _ rfl rfl sz_26 rfl (Rw.rd (hs.es hi) hk5)) (by kernel_rfl) (by kernel_rfl) (by kernel_rfl) rfl ?_
  refine d_q 7 [] rfl (q_call rfl fn_19 rfl (fun w1 h1 => c19 w1 j (nth (nth L i).es k) hj (hK _ (mem_nth hk5)))) (by kernel_rfl) (by kernel_rfl) (by kernel_rfl) rfl ?_
  refine dP 8 ?_
  refine dNi ?_
  iterate 5 refine aS ?_
  refine s_cond rfl (fun h25 => ?_) fun h25 => ?_
  ·try simp only [Bool.not_eq_true', decide_eq_false_iff_not] at h25
   have hz6 : ¬ entE (j : Int) (nth (nth L i).es k) = 0 := h25
   have hEb := ents_bad hk5 hk3 hz6
   have hEe : (nodE (⟨(j : Int), mo, rm, pln L⟩ : Tre) i S) = (entE (j : Int) (nth (nth L i).es k), S) := by rw [← hEb]; exact nodE_en (t := (⟨(j : Int), mo, rm, pln L⟩ : Tre)) hNI hu9 hM9 hS9 (by show ¬ entsE (j : Int) (nth L i).es = 0; rw [hEb]; exact hz6)
   iterate 5 refine aS ?_
   exact s_retv (rs := [.tmp 6]) rfl (.tmp rfl (.nil)) (fun w' h' => ⟨(), by rw [hEe]; rfl, trivial, by rw [hEe]; exact h'.ent aEt⟩)
  try simp only [Bool.not_eq_false', decide_eq_true_eq] at h25
  have hz6 : entE (j : Int) (nth (nth L i).es k) = 0 := by have hq := h25; omega
  iterate 5 refine aS ?_
  try refine oWr ?_
  iterate 2 refine aS ?_
  exact s_backI (k + 1) (by omega) ⟨by omega, fun q hq => (Nat.lt_or_ge q k).elim (hk3 q) (fun h9 => by obtain rfl : q = k := (by omega); exact hz6)⟩ aSx (fun w h => h.ent aEt)
 try simp only [decide_eq_false_iff_not] at h24
 have hEn : ∀ q, q < (nth L i).es.length → entE (j : Int) (nth (nth L i).es q) = 0 := fun q hq => hk3 q (by omega)
 have hE0 : entsE (j : Int) (nth L i).es = 0 := ents_all hEn
 refine s_exit_to rfl ?_
 iterate 6 refine aS ?_
 refine s_loopI (α := Nat × List Int) [6, 11, 12, 87, 88, 89, 90, 91, 92, 93, 94, 95, 96, 97, 98, 99, 100, 101, 102, 103, 104, 105, 106, 107, 108, 109, 110, 111, 112, 113, 114, 115, 116, 117, 118, 119, 120, 121] (fun y => [(11, .int .i64 (y.1 : Int))]) (fun y => HS w (fps [.blk sb 4 tot (seenV L.length S)]) [.blk sb 4 tot (seenV L.length y.2), .blk b1 24 4 [.int .i64 (j : Int), .int .i64 mo, .int .i64 rm, .slice a L.length cap], .blk b2 102 3 (LNd.vals (nth L i))]) (fun y => y.1 ≤ (nth L i).cs.length ∧ (kidsE (pln L) (nth L i).cs S) = kidsE (pln L) ((nth L i).cs.drop y.1) y.2) (fun y => (nth L i).cs.length - y.1) (0, S) ⟨Nat.zero_le _, rfl⟩ aSx (fun w h => h.ent aEt) (fun ⟨k, Sk⟩ hx => ?_)
 dsimp only
 obtain ⟨hk1, hk3⟩ := hx
 simp only [] at hk1 hk3
 iterate 9 refine aS ?_
 refine s_cond rfl (fun h26 => ?_) fun h26 => ?_
 ·try simp only [decide_eq_true_eq] at h26
  have hk5 : k < (nth L i).cs.length := by omega
  have hkd9 : nth (nth L i).cs k = ((nth L i).cs.getD k 0) := rfl
  have hst := kids_drop hk5
  rw [hst, kidsE_cons] at hk3
  iterate 8 refine aS ?_
  refine o_p (p_indexAddr rfl rfl rfl sl_30 (k) (by omega) (by omega) (Rw.some (hs.cs hi) (by omega))) rfl ?_
  refine o_q (q_load_old rfl rfl sz_3 (((hs.cs hi).rdj 0 hk5 rfl))) rfl ?_
  refine o_slot (show _ = Value.int .i64 ((nth L i).cs.getD k 0) from rfl) ?_
  iterate 10 refine aS ?_
  try refine oWr ?_
  refine o_q (q_call rfl fn_46 rfl (fun w1 h1 => c46 w1 _ _ _)) rfl ?_
  iterate 2 refine aS ?_
  refine o_or 8 106 114 _ _ rfl
   (by
    intro hg27
    have hs28 := hg27; try simp only [Bool.not_eq_false', Bool.and_eq_true, decide_eq_true_eq] at hs28
    refine oOn 106 hg27 ?_
    refine aS ?_
    refine oOn 106 hg27 ?_
    refine aS ?_
    refine oOn 106 hg27 ?_
    refine aS ?_
    refine oOn 106 hg27 ?_
    refine o_p (p_indexAddr rfl rfl rfl sl_22 (((nth L i).cs.getD k 0).toNat) (by omega) (by omega) (Rw.some hs.1 (by omega))) rfl ?_
    refine oOn 106 hg27 ?_
    refine aS ?_
    refine oOn 106 hg27 ?_
    refine o_q (q_load_old rfl rfl sz_4 ((hs.1.rdj 0 (i := ((nth L i).cs.getD k 0).toNat) (by omega) rfl))) rfl ?_
    refine oOn 106 hg27 ?_
    refine aS ?_
    refine o_p (p_pickf rfl rfl hg27 rfl) rfl ?_
    refine aS ?_
    exact oJn 8 114)
   (by
    intro hg29
    have hs30 := hg29; try simp only [Bool.not_eq_true', Bool.and_eq_false_iff, decide_eq_false_iff_not] at hs30
    refine oOf 106 hg29 ?_
    refine oOf 106 hg29 ?_
    refine oOf 106 hg29 ?_
    refine oOf 106 hg29 ?_
    refine oOf 106 hg29 ?_
    refine oOf 106 hg29 ?_
    refine oOf 106 hg29 ?_
    refine o_p (p_pickt rfl rfl hg29 rfl) rfl ?_
    refine aS ?_
    exact oJn 8 114) ?_
  refine aS ?_
  refine s_cond rfl (fun h31 => ?_) fun h31 => ?_
  ·try simp only [Bool.or_eq_true, Bool.not_eq_true', Bool.and_eq_false_iff, decide_eq_false_iff_not] at h31
   have hko : ¬ KidOk (pln L) ((nth L i).cs.getD k 0) := by rintro ⟨h91, h92⟩; rw [hnl] at h91; rw [pln_nth (by omega)] at h92; have hq := h31; exact hq.elim (fun hq => by omega) (fun hq => by rw [show (nth L ((nth L i).cs.getD k 0).toNat).pl.us = (nth L ((nth L i).cs.getD k 0).toNat).us from rfl, hq] at h92; cases h92)
   have hk6e : (nodE (⟨(j : Int), mo, rm, pln L⟩ : Tre) i S) = (6, Sk) := by have h8 : kidE1 (pln L) ((nth L i).cs.getD k 0) Sk = 6 := if_neg hko; have h7 : kidS1 (pln L) ((nth L i).cs.getD k 0) Sk = Sk := if_neg hko; rw [h8, h7, if_neg (by decide)] at hk3; rw [← hk3]; exact nodE_ki (t := (⟨(j : Int), mo, rm, pln L⟩ : Tre)) hNI hu9 hM9 hS9 hE0 (by show ¬ (kidsE (pln L) (nth L i).cs S).1 = 0; rw [hk3]; show ¬ (6 : Int) = 0; decide)
   refine aS ?_
   refine s_weaken (L' := [(2, _), (3, _), (7, _), (9, _), (11, _), (12, _), (69, _), (70, _), (71, _), (72, _), (73, _)]) aSx (fun _ h => h) ?_
   iterate 3 refine aS ?_
   exact s_retv (rs := [.tmp 6]) rfl (.tmp rfl (.nil)) (fun w' h' => ⟨(), by rw [hk6e]; rfl, trivial, by rw [hk6e]; exact h'.ent aEt⟩)
  try simp only [Bool.or_eq_false_iff, Bool.not_eq_false', Bool.and_eq_true, decide_eq_true_eq] at h31
  have hko : KidOk (pln L) ((nth L i).cs.getD k 0) := by have hq := h31; refine ⟨by rw [hnl]; exact hq.1, ?_⟩; rw [pln_nth (by omega)]; exact hq.2
  have hko1 := hko.1
  rw [hnl] at hko1
  have hcv2 : ((nth L i).cs.getD k 0).toNat < L.length := by omega
  have hcc : ((((nth L i).cs.getD k 0).toNat : Nat) : Int) = ((nth L i).cs.getD k 0) := Int.toNat_of_nonneg (by omega)
  have h7 : kidS1 (pln L) ((nth L i).cs.getD k 0) Sk = ((nth L i).cs.getD k 0) :: Sk := if_pos hko
  rw [h7] at hk3
  have hsv := seen_set (n := L.length) (S := Sk) hcv2
  rw [hcc] at hsv
  iterate 3 refine aS ?_
  refine s_weaken (L' := [(2, _), (3, _), (7, _), (9, _), (11, _), (12, _), (69, _), (70, _), (71, _), (72, _), (73, _)]) aSx (fun _ h => h) ?_
  iterate 3 refine aS ?_
  refine o_p (p_indexAddr rfl rfl rfl sl_140 (((nth L i).cs.getD k 0).toNat) (by omega) (by omega) rfl) rfl ?_
  refine o_slot (show _ = Value.pointer (some ⟨sb, ((nth L i).cs.getD k 0).toNat, none⟩) from by rw [Nat.zero_add, Nat.mul_one]) ?_
  refine o_q (q_load_at rfl rfl sz_4 (fun w h => h.rd_blk (Mc := []) aPk (seen_get hcv2) (by simp))) rfl ?_
  refine aS ?_
  refine s_cond rfl (fun h32 => ?_) fun h32 => ?_
  ·try simp only [decide_eq_true_eq] at h32
   have hmem : ((nth L i).cs.getD k 0) ∈ Sk := by have hq := h32; rw [hcc] at hq; exact hq
   have h8 : kidE1 (pln L) ((nth L i).cs.getD k 0) Sk = 23 := by rw [kidE1, if_pos hko, if_pos hmem]
   rw [h8, if_neg (by decide)] at hk3
   have hk23 : (nodE (⟨(j : Int), mo, rm, pln L⟩ : Tre) i S) = (23, ((nth L i).cs.getD k 0) :: Sk) := by rw [← hk3]; exact nodE_ki (t := (⟨(j : Int), mo, rm, pln L⟩ : Tre)) hNI hu9 hM9 hS9 hE0 (by show ¬ (kidsE (pln L) (nth L i).cs S).1 = 0; rw [hk3]; show ¬ (23 : Int) = 0; decide)
   iterate 4 refine aS ?_
   exact s_retv (rs := [.tmp 6]) rfl (.tmp rfl (.nil)) (fun w' h' => ⟨(), by rw [hk23]; rfl, trivial, by rw [hk23, seen_dup hmem]; exact h'.ent aEt⟩)
  try simp only [decide_eq_false_iff_not] at h32
  have hmem : ¬ ((nth L i).cs.getD k 0) ∈ Sk := by have hq := h32; rw [hcc] at hq; exact hq
  have h8 : kidE1 (pln L) ((nth L i).cs.getD k 0) Sk = 0 := by rw [kidE1, if_pos hko, if_neg hmem]
  rw [h8, if_pos rfl] at hk3
  have hk9 := hk3
  iterate 4 refine aS ?_
  refine o_p (p_indexAddr rfl rfl rfl sl_140 (((nth L i).cs.getD k 0).toNat) (by omega) (by omega) rfl) rfl ?_
  refine o_slot (show _ = Value.pointer (some ⟨sb, ((nth L i).cs.getD k 0).toNat, none⟩) from by rw [Nat.zero_add, Nat.mul_one]) ?_
  refine o_h0 (h_store rfl rfl rfl sz_4 rfl aPt (by rw [seen_len]; show _ + 1 ≤ _; omega) rfl) (fun _ _ => ?_)
  iterate 5 refine aS ?_
  try refine oWr ?_
  iterate 2 refine aS ?_
  exact s_backI (k + 1, ((nth L i).cs.getD k 0) :: Sk) (by (try simp only []); omega) ⟨by (try simp only []); omega, hk9⟩ aSx (fun w h => by have h2 := h; rw [show setMany (seenV L.length Sk) ((nth L i).cs.getD k 0).toNat (Value.cells (.bool true)).toList = seenV L.length (((nth L i).cs.getD k 0) :: Sk) from hsv] at h2; exact h2.ent aEt)
 try simp only [decide_eq_false_iff_not] at h26
 have hdr9 : (nth L i).cs.drop k = [] := List.drop_of_length_le (by omega)
 rw [hdr9] at hk3
 have hK0 : (kidsE (pln L) (nth L i).cs S).1 = 0 := by rw [hk3]; rfl
 have hK2 : (kidsE (pln L) (nth L i).cs S).2 = Sk := by rw [hk3]; rfl
 have hOr : (nodE (⟨(j : Int), mo, rm, pln L⟩ : Tre) i S) = (ordsE (j : Int) (nth L i).es, (kidsE (pln L) (nth L i).cs S).2) := by have h9 := nodE_or (t := (⟨(j : Int), mo, rm, pln L⟩ : Tre)) (i := i) (S := S) (n := (nth L i).pl) hNI hu9 hM9 hS9 hE0 hK0; exact h9
 refine s_exit_to rfl ?_
 iterate 6 refine aS ?_
 refine s_loopI (α := Nat) [6, 13, 122, 123, 124, 125, 126, 127, 128, 129, 130, 131, 132, 133, 134, 135, 136, 137, 138, 139, 140, 141, 142, 143, 144, 145] (fun k => [(13, .int .i64 (k : Int))]) (fun _ => HS w (fps [.blk sb 4 tot (seenV L.length S)]) [.blk sb 4 tot (seenV L.length (kidsE (pln L) (nth L i).cs S).2), .blk b1 24 4 [.int .i64 (j : Int), .int .i64 mo, .int .i64 rm, .slice a L.length cap], .blk b2 102 3 (LNd.vals (nth L i))]) (fun k => 1 ≤ k ∧ ∀ q, q < k → ordE (j : Int) (nth L i).es q = 0) (fun k => (nth L i).es.length - k) 1 ⟨Nat.le_refl _, fun q h => if_pos (.inl (by omega))⟩ aSx (fun w h => by rw [hK2]; exact h.ent aEt) (fun k hx => ?_)
 obtain ⟨hk1, hk3b⟩ := hx
 iterate 9 refine aS ?_
 refine s_cond rfl (fun h33 => ?_) fun h33 => ?_
 ·try simp only [decide_eq_true_eq] at h33
  have hk5 : k < (nth L i).es.length := by omega
  have hk6 : k - 1 < (nth L i).es.length := by omega
  iterate 4 refine aS ?_
  refine s_draw [] mixed ?_
  refine dFa 0 ?_
  refine dLd 1 [] ?_
  refine dFa 2 ?_
  refine dLd 3 [] ?_
  refine dP 4 ?_
  refine dP 5 ?_
  try refine dWr ?_
  refine d_p 6 rfl (p_indexAddr rfl rfl rfl sl_77 (k - 1) (by omega) (by omega) (Rw.some (hs.es hi) (by omega))) (by kernel_rfl) rfl rfl ?_
  refine dFa 7 ?_
  refine d_q 8 [] rfl (q_load_old rfl rfl sz_9 (((hs.es hi).rdj 0 hk6 rfl))) (by kernel_rfl) (by kernel_rfl) (by kernel_rfl) rfl ?_
  refine dFa 9 ?_
  refine dLd 10 [] ?_
  refine dP 11 ?_
  refine d_p 12 rfl (p_indexAddr rfl rfl rfl sl_77 (k) (by omega) (by omega) (Rw.some (hs.es hi) (by omega))) (by kernel_rfl) rfl rfl ?_
  refine dFa 13 ?_
  refine d_q 14 [] rfl (q_load_old rfl rfl sz_9 (((hs.es hi).rdj 0 hk5 rfl))) (by kernel_rfl) (by kernel_rfl) (by kernel_rfl) rfl ?_
  refine d_q 15 [] rfl (q_call rfl fn_33 rfl (fun w1 h1 => c33 w1 j (nth (nth L i).es (k - 1)).key (nth (nth L i).es k).key hj (entE_key (hEn _ hk6)) (entE_key (hEn _ hk5)) (hK _ (mem_nth hk6)) (hK _ (mem_nth hk5)))) (by kernel_rfl) (by kernel_rfl) (by kernel_rfl) rfl ?_
  refine dP 16 ?_
  refine dNi ?_
  refine s_cond rfl (fun h34 => ?_) fun h34 => ?_
  ·try simp only [decide_eq_true_eq] at h34
   have hz11 : ¬ ordE (j : Int) (nth L i).es k = 0 := by unfold ordE; rw [if_neg (by have hq := h34; omega)]; decide
   have hOb := ords_bad hk5 hk3b hz11
   have hOv : ordE (j : Int) (nth L i).es k = 9 := if_neg (by have hq := h34; omega)
   refine aS ?_
   refine s_weaken (L' := [(2, _), (3, _), (7, _), (9, _), (11, _), (13, _), (69, _), (70, _), (71, _), (72, _), (73, _), (87, _), (88, _), (89, _), (90, _), (91, _)]) aSx (fun _ h => h) ?_
   iterate 3 refine aS ?_
   exact s_retv (rs := [.tmp 6]) rfl (.tmp rfl (.nil)) (fun w' h' => ⟨(), by rw [hOr, hOb, hOv]; rfl, trivial, by rw [hOr]; exact h'.ent aEt⟩)
  try simp only [decide_eq_false_iff_not] at h34
  have hz11 : ordE (j : Int) (nth L i).es k = 0 := if_pos (.inr (by have hq := h34; omega))
  iterate 2 refine aS ?_
  refine s_weaken (L' := [(2, _), (3, _), (7, _), (9, _), (11, _), (13, _), (69, _), (70, _), (71, _), (72, _), (73, _), (87, _), (88, _), (89, _), (90, _), (91, _)]) aSx (fun _ h => h) ?_
  iterate 3 refine aS ?_
  try refine oWr ?_
  iterate 2 refine aS ?_
  exact s_backI (k + 1) (by omega) ⟨by omega, fun q hq => (Nat.lt_or_ge q k).elim (hk3b q) (fun h9 => by obtain rfl : q = k := (by omega); exact hz11)⟩ aSx (fun w h => h.ent aEt)
 try simp only [decide_eq_false_iff_not] at h33
 have hO0 : ordsE (j : Int) (nth L i).es = 0 := ords_all (fun q hq => hk3b q (by omega))
 refine s_exit_to rfl ?_
 iterate 4 refine aS ?_
 exact s_retv (rs := [.tmp 6]) rfl (.tmp rfl (.nil)) (fun w' h' => ⟨(), by rw [hOr, hO0]; rfl, trivial, by rw [hOr]; exact h'.ent aEt⟩)
end Go.Proofs
namespace Gx
set_option linter.unusedSimpArgs false
set_option linter.unusedVariables false
set_option linter.unusedSectionVars false
open Go Go.RowKit
def mkS (vs : List Vis) (S : List Int) : List Int := (vs.map fun v => ((v.i : Nat) : Int)).reverse ++ S
theorem mkS_app (A B : List Vis) (S : List Int) : mkS (A ++ B) S = mkS B (mkS A S) := by simp [mkS]
theorem mkS_mem {vs : List Vis} {c : Int} : c ∈ mkS vs [] ↔ ∃ v ∈ vs, ((v.i : Nat) : Int) = c := by simp [mkS]
end Gx
namespace Go.Proofs
open Go Go.RowKit Gx
set_option linter.unusedVariables false
set_option linter.unusedSimpArgs false
attribute [local irreducible] Go.Calls Gx.S Gx.O Gx.D Gx.OpP Gx.OpQ Gx.OpH
set_option maxRecDepth 20000
theorem fn_86 : isFn Tryz.prog 86 = true := by kernel_rfl
def MkC (j : Nat) (mo rm : Int) (a : Option Addr) (cap : Nat) (L : List LNd) (sb scap tot : Nat) (f : Nat) : Prop := ∀ (w : World) (S : List Int) (v : Vis) (P : List Nat), (HS w (fps [.blk sb 4 tot (seenV L.length S)]) [.blk sb 4 tot (seenV L.length S)] w) → (Nt w (fps [.blk sb 4 tot (seenV L.length S)]) a L) → (TOk (j : Int) (pln L)) → (Bd (pln L)) → (0 < L.length) → (Gx.Way (pln L) (v.i :: P)) → P.length + f = L.length → Calls Tryz.prog 86 #[.agg #[.int .i64 (j : Int), .int .i64 mo, .int .i64 rm, .slice a L.length cap], .int .i64 (v.i : Int), .slice (some ⟨sb, 0, none⟩) L.length scap] w fun en w' => ∃ g : Unit, en = .returned (.tuple #[]) ∧ True ∧ HS w (fps [.blk sb 4 tot (seenV L.length S)]) [.blk sb 4 tot (seenV L.length (mkS (vis (pln L) f v) S))] w'
theorem c86s (w : World) (j : Nat) (mo rm : Int) (a : Option Addr) (cap : Nat) (L : List LNd) (sb scap tot : Nat) (S : List Int) (v : Vis) (P : List Nat) (f : Nat) (hw : HS w (fps [.blk sb 4 tot (seenV L.length S)]) [.blk sb 4 tot (seenV L.length S)] w) (hs : Nt w (fps [.blk sb 4 tot (seenV L.length S)]) a L) (hT : TOk (j : Int) (pln L)) (hB : Bd (pln L)) (h0 : 0 < L.length) (hway : Gx.Way (pln L) (v.i :: P)) (hf : P.length + (f + 1) = L.length) (ih : MkC j mo rm a cap L sb scap tot f) : Calls Tryz.prog 86 #[.agg #[.int .i64 (j : Int), .int .i64 mo, .int .i64 rm, .slice a L.length cap], .int .i64 (v.i : Int), .slice (some ⟨sb, 0, none⟩) L.length scap] w fun en w' => ∃ g : Unit, en = .returned (.tuple #[]) ∧ True ∧ HS w (fps [.blk sb 4 tot (seenV L.length S)]) [.blk sb 4 tot (seenV L.length (mkS (vis (pln L) (f + 1) v) S))] w' := by
 have hi0 := way_lt hT (by rw [pln_len]; exact h0) hway v.i (List.mem_cons_self ..)
 have hi : v.i < L.length := by rw [pln_len] at hi0; exact hi0
 have hn := pln_nth hi
 have hle := hB.len
 rw [pln_len] at hle
 have hcl := hB.cs v.i hi0
 rw [hn] at hcl
 simp only [LNd.pl] at hcl
 refine enter (args := [_, _, _]) Tryz.func86 Tryz.ntmps86 rfl rfl hw ?_
 iterate 2 refine aS ?_
 refine oBx fun b1 _ => ?_
 iterate 5 refine aS ?_
 refine o_p (p_indexAddr rfl rfl rfl sl_140 (v.i) (by omega) (by omega) rfl) rfl ?_
 refine o_slot (show _ = Value.pointer (some ⟨sb, v.i, none⟩) from by rw [Nat.zero_add, Nat.mul_one]) ?_
 refine o_h0 (h_store rfl rfl rfl sz_4 rfl aPt (by rw [seen_len]; show _ + 1 ≤ _; omega) rfl) (fun _ _ => ?_)
 iterate 6 refine aS ?_
 refine s_loopI (α := Nat) [6, 10, 11, 12, 13, 14, 15, 16, 17, 18, 19, 20, 21, 22, 23, 24, 25, 26, 27, 28, 29, 30, 31, 32] (fun k => [(6, .int .i64 (k : Int))]) (fun k => HS w (fps [.blk sb 4 tot (seenV L.length S)]) [.blk sb 4 tot (seenV L.length (mkS (visK (pln L) f v k) S)), .blk b1 24 4 [.int .i64 (j : Int), .int .i64 mo, .int .i64 rm, .slice a L.length cap]]) (fun k => k ≤ (nth L v.i).cs.length) (fun k => (nth L v.i).cs.length - k) 0 (Nat.zero_le _) aSx (fun w h => by have h2 := h; rw [show setMany (seenV L.length S) v.i (Value.cells (.bool true)).toList = seenV L.length (((v.i : Nat) : Int) :: S) from seen_set hi] at h2; exact h2.ent aEt) (fun k hk1 => ?_)
 iterate 7 refine aS ?_
 refine o_p (p_indexAddr rfl rfl rfl sl_22 (v.i) (by omega) (by omega) (Rw.some hs.1 (by omega))) rfl ?_
 refine aS ?_
 refine o_q (q_load_old rfl rfl sz_30 ((hs.1.rdj 2 hi rfl))) rfl ?_
 iterate 3 refine aS ?_
 refine s_cond rfl (fun h2 => ?_) fun h2 => ?_
 ·try simp only [decide_eq_true_eq] at h2
  have hkl : k < (nth L v.i).cs.length := by omega
  have hkid := kid_in hT hi0 (k := k) (by rw [hn]; exact hkl)
  rw [hn, pln_len] at hkid
  simp only [LNd.pl] at hkid
  have hway2 := way_kid hway hi0 (k := k) (by rw [hn]; exact hkl) (by rw [hn]; simp only [LNd.pl]; omega)
  iterate 3 refine aS ?_
  refine s_draw [11] mixed ?_
  refine dLn 0 [[]] ?_
  refine dFa 1 ?_
  refine dLd 2 [[9, 8, 6, 5, 4]] ?_
  refine dP 3 ?_
  refine d_p 4 rfl (p_indexAddr rfl rfl rfl sl_22 (v.i) (by omega) (by omega) (Rw.some hs.1 (by omega))) (by kernel_rfl) rfl rfl ?_
  refine dFa 5 ?_
  refine d_q 6 [[9, 8]] rfl (q_load_old rfl rfl sz_30 ((hs.1.rdj 2 hi rfl))) (by kernel_rfl) (by kernel_rfl) (by kernel_rfl) rfl ?_
  refine dP 7 ?_
  refine d_p 8 rfl (p_indexAddr rfl rfl rfl sl_30 (k) (by omega) (by omega) (Rw.some (hs.cs hi) (by omega))) (by kernel_rfl) rfl rfl ?_
  refine d_q 9 [[]] rfl (q_load_old rfl rfl sz_3 (((hs.cs hi).rdj 0 (i := k) hkl rfl))) (by kernel_rfl) (by kernel_rfl) (by kernel_rfl) rfl ?_
  refine d_slot (show _ = Value.int .i64 ((kidV (pln L) v k).i : Int) from by rw [kidV, hn]; exact congrArg (Value.int .i64) (Int.toNat_of_nonneg (show 0 ≤ (nth L v.i).cs.getD k 0 by omega)).symm) ?_
  refine dP 10 ?_
  refine d_h 11 rfl (h_callF (Cs := [.blk sb 4 tot (seenV L.length (mkS (visK (pln L) f v k) S))]) rfl fn_86 rfl aPs (fun w1 h1 hf9 => ih w1 (mkS (visK (pln L) f v k) S) (kidV (pln L) v k) (v.i :: P) hf9 ((hs.keep h1).mono (fps_pick aPs)) hT hB h0 hway2 (by simp only [List.length_cons]; omega))) (by kernel_rfl) (fun w h => h.ent aEt) rfl (fun _ _ => ?_)
  refine dTu [] ?_
  refine dNi ?_
  iterate 4 refine aS ?_
  try refine oWr ?_
  iterate 2 refine aS ?_
  exact s_backI (k + 1) (by omega) (by omega) aSx (fun w h => by rw [visK_succ, mkS_app]; exact h.ent aEt)
 try simp only [decide_eq_false_iff_not] at h2
 obtain rfl : k = (nth L v.i).cs.length := by omega
 refine s_exit_to rfl ?_
 exact s_end0 rfl (fun w' h' => ⟨(), rfl, trivial, by rw [visK_all, hn]; exact h'.ent aEt⟩)
theorem c86 (j : Nat) (mo rm : Int) (a : Option Addr) (cap : Nat) (L : List LNd) (sb scap tot : Nat) : ∀ f, MkC j mo rm a cap L sb scap tot f
  | 0 => fun w S v P hw hs hT hB h0 hway hf => by
    have h1 := way_len hT (by rw [pln_len]; exact h0) hway
    rw [pln_len, List.length_cons] at h1
    omega
  | f + 1 => fun w S v P hw hs hT hB h0 hway hf => c86s w j mo rm a cap L sb scap tot S v P f hw hs hT hB h0 hway hf (c86 j mo rm a cap L sb scap tot f)
end Go.Proofs
namespace Gx
set_option linter.unusedSimpArgs false
set_option linter.unusedVariables false
set_option linter.unusedSectionVars false
open Go Go.RowKit
def StK (w : World) (p : Option Addr) (n : Nat) (o : Option (List UInt8)) : Prop := match o with
  | none => n = 0
  | some k => n = 1 ∧ ∃ b off, p = some ⟨b, off, none⟩ ∧ Rd w [] b off (.string (bs k))
theorem StK.later {w w' : World} {As : List HA} {p : Option Addr} {n : Nat} {o : Option (List UInt8)} (h : StK w p n o) (hs : HS w [] As w') : StK w' p n o := by
  cases o with
  | none => exact h
  | some k =>
    obtain ⟨h1, b, off, h2, h3⟩ := h
    exact ⟨h1, b, off, h2, h3.next hs⟩
theorem StK.of_pos {w : World} {p : Option Addr} {n : Nat} {o : Option (List UInt8)} (h : StK w p n o) (hn : 0 < n) : ∃ k b off, o = some k ∧ n = 1 ∧ p = some ⟨b, off, none⟩ ∧ Rd w [] b off (.string (bs k)) := by
  cases o with
  | none =>
    have : n = 0 := h
    omega
  | some k =>
    obtain ⟨h1, b, off, h2, h3⟩ := h
    exact ⟨k, b, off, rfl, h1, h2, h3⟩
theorem StK.of_no {w : World} {p : Option Addr} {n : Nat} {o : Option (List UInt8)} (h : StK w p n o) (hn : ¬ 0 < n) : o = none := by
  cases o with
  | none => rfl
  | some k =>
    obtain ⟨h1, _⟩ := h
    omega
theorem StK.new {w : World} {b : Nat} {k : List UInt8} (h : Rd w [] b 0 (.string (bs k))) : StK w (some ⟨b, 0, none⟩) 1 (some k) := ⟨rfl, b, 0, rfl, h⟩
theorem loK_pos {es : List TEnt} {k : Nat} {lo : Option (List UInt8)} (h : 0 < k) : loK es k lo = some (nth es (k - 1)).key := if_pos h
theorem loK_no {es : List TEnt} {k : Nat} {lo : Option (List UInt8)} (h : ¬ 0 < k) : loK es k lo = lo := if_neg h
theorem hiK_pos {es : List TEnt} {k : Nat} {hi : Option (List UInt8)} (h : k < es.length) : hiK es k hi = some (nth es k).key := if_pos h
theorem hiK_no {es : List TEnt} {k : Nat} {hi : Option (List UInt8)} (h : ¬ k < es.length) : hiK es k hi = hi := if_neg h
theorem shpF_app {t : Tre} {deep : Int} : ∀ (A B : List Vis), shpF t deep (A ++ B) = if (shpF t deep A).2 = 0 then shpF t deep B else shpF t deep A
  | [], B => rfl
  | v :: A, B => by
    rw [List.cons_append, shpF, shpF]
    by_cases h : visE t deep v = 0
    · rw [if_pos h, if_pos h]
      exact shpF_app A B
    · rw [if_neg h, if_neg h, if_neg h]
theorem gap_iff {t : Tre} {v : Vis} {N R : Nd} (hN : nth t.ns v.i = N) (hR : nth t.ns 0 = R) (h1 : R.cs.length = 0 ∨ R.cs.length = R.es.length + 1) (h2 : ∀ c ∈ R.cs, 1 ≤ c) : gapB t v = true ↔ (v.i ≠ 0 ∧ (N.es.length : Int) < t.mo / 2) ∨ (((R.es.length = 0 ∧ R.cs.length = 1) ∧ R.cs.getD 0 0 = (v.i : Int)) ∧ (N.es.length : Int) ≤ t.rm) := by
  subst hN hR
  unfold gapB
  simp only [Bool.and_eq_true, Bool.or_eq_true, decide_eq_true_eq]
  constructor
  · rintro ⟨h3, h4 | ⟨⟨h4, h5⟩, h6⟩⟩
    · exact .inl ⟨by omega, h4⟩
    · refine .inr ⟨⟨⟨h4, ?_⟩, ?_⟩, h6⟩
      · rcases h1 with h1 | h1
        · rw [List.eq_nil_of_length_eq_zero h1] at h5
          cases h5
        · omega
      · have hl : (nth t.ns 0).cs.length = 1 := by
          rcases h1 with h1 | h1
          · rw [List.eq_nil_of_length_eq_zero h1] at h5
            cases h5
          · omega
        obtain ⟨c, hc⟩ := List.length_eq_one_iff.1 hl
        rw [hc] at h5 ⊢
        exact (List.mem_singleton.1 h5).symm
  · rintro (⟨h3, h4⟩ | ⟨⟨⟨h4, h5⟩, h6⟩, h7⟩)
    · exact ⟨by omega, .inl h4⟩
    · obtain ⟨c, hc⟩ := List.length_eq_one_iff.1 h5
      have h8 := h2 c (by rw [hc]; exact List.mem_singleton.2 rfl)
      rw [hc] at h6 ⊢
      have h9 : c = (v.i : Int) := h6
      exact ⟨by omega, .inr ⟨⟨h4, List.mem_singleton.2 h9.symm⟩, h7⟩⟩
theorem visE_gap {t : Tre} {deep : Int} {v : Vis} (h : gapB t v = true) : visE t deep v = 14 := by rw [visE_eq, if_pos h]
theorem visE_out {t : Tre} {deep : Int} {v : Vis} (h : ¬ gapB t v = true) (h2 : outsB t v = true) : visE t deep v = 9 := by rw [visE_eq, if_neg h, if_pos h2]
theorem visE_22 {t : Tre} {deep : Int} {v : Vis} (h : ¬ gapB t v = true) (h2 : ¬ outsB t v = true) (h3 : (nth t.ns v.i).cs.length = 0 ∧ v.d ≠ deep + 1) : visE t deep v = 22 := by rw [visE_eq, if_neg h, if_neg h2, if_pos h3]
theorem visE_ok {t : Tre} {deep : Int} {v : Vis} (h : ¬ gapB t v = true) (h2 : ¬ outsB t v = true) (h3 : ¬ ((nth t.ns v.i).cs.length = 0 ∧ v.d ≠ deep + 1)) : visE t deep v = 0 := by rw [visE_eq, if_neg h, if_neg h2, if_neg h3]
theorem outs_hit {t : Tre} {v : Vis} {N : Nd} {k : Nat} (hN : nth t.ns v.i = N) (hk : k < N.es.length) (h : outB t v (nth N.es k) = true) : outsB t v = true := by
  subst hN
  exact List.any_eq_true.2 ⟨_, mem_nth hk, h⟩
theorem outs_no {t : Tre} {v : Vis} {N : Nd} (hN : nth t.ns v.i = N) (h : ∀ q, q < N.es.length → ¬ outB t v (nth N.es q) = true) : ¬ outsB t v = true := fun h2 => by
  subst hN
  obtain ⟨x, hx, h3⟩ := List.any_eq_true.1 h2
  obtain ⟨q, hq, e⟩ := List.getElem_of_mem hx
  have e2 : nth (nth t.ns v.i).es q = x := nth_eq (by rw [List.getElem?_eq_getElem hq, e])
  exact h q hq (by rw [e2]; exact h3)
theorem out_iff {t : Tre} {v : Vis} {x : TEnt} : outB t v x = true ↔ (∃ b, v.lo = some b ∧ 0 ≤ cmpK t.co b x.key) ∨ (∃ b, v.hi = some b ∧ 0 ≤ cmpK t.co x.key b) := by
  unfold outB
  cases v.lo <;> cases v.hi <;> simp
section
variable {t : Tre} {v : Vis} {x : TEnt} {kl kh : List UInt8}
theorem out_a (h1 : v.lo = some kl) (h : 0 ≤ cmpK t.co kl x.key) : (true = true ↔ outB t v x = true) := ⟨fun _ => out_iff.2 (.inl ⟨kl, h1, h⟩), fun _ => rfl⟩
theorem out_b (h1 : v.lo = some kl) (h : ¬ 0 ≤ cmpK t.co kl x.key) (h2 : v.hi = some kh) : (decide (cmpK t.co x.key kh ≥ 0) = true ↔ outB t v x = true) := by
  rw [decide_eq_true_eq, out_iff, h1, h2]
  constructor
  · exact fun h9 => .inr ⟨kh, rfl, h9⟩
  · rintro (⟨b, hb, h9⟩ | ⟨b, hb, h9⟩)
    · cases hb
      exact absurd h9 h
    · cases hb
      exact h9
theorem out_c (h1 : v.lo = some kl) (h : ¬ 0 ≤ cmpK t.co kl x.key) (h2 : v.hi = none) : (false = true ↔ outB t v x = true) := by
  rw [out_iff, h1, h2]
  constructor
  · exact fun h9 => (nomatch h9)
  · rintro (⟨b, hb, h9⟩ | ⟨b, hb, h9⟩)
    · cases hb
      exact absurd h9 h
    · cases hb
theorem out_d (h1 : v.lo = none) (h2 : v.hi = some kh) : (decide (cmpK t.co x.key kh ≥ 0) = true ↔ outB t v x = true) := by
  rw [decide_eq_true_eq, out_iff, h1, h2]
  constructor
  · exact fun h9 => .inr ⟨kh, rfl, h9⟩
  · rintro (⟨b, hb, h9⟩ | ⟨b, hb, h9⟩)
    · cases hb
    · cases hb
      exact h9
theorem out_e (h1 : v.lo = none) (h2 : v.hi = none) : (false = true ↔ outB t v x = true) := by
  rw [out_iff, h1, h2]
  constructor
  · exact fun h9 => (nomatch h9)
  · rintro (⟨b, hb, h9⟩ | ⟨b, hb, h9⟩) <;> cases hb
end
theorem shp_head {t : Tre} {deep : Int} {f : Nat} {v : Vis} (h : ¬ visE t deep v = 0) : shpF t deep (vis t.ns (f + 1) v) = ((v.i : Int), visE t deep v) := by
  rw [vis, shpF, if_neg h]
theorem shp_K0 {t : Tre} {deep : Int} {f : Nat} {v : Vis} (h : visE t deep v = 0) : (shpF t deep (visK t.ns f v 0)).2 = 0 := by
  rw [visK_0, shpF, if_pos h]
  rfl
end Gx
