/- Contracts of the program's functions, proved by walking them with the rules of the Gx texts; without conditions beyond those that each contract names. -/
import Derived.WalkKit
import Derived.Deep.Draws
import Derived.TacticsIn
import Derived.OrdersIn
import Derived.RangeFuncLeaves
import Derived.Lib.Strings
import Derived.Laws.BytesArg
import Derived.Laws.IdiomStrings
import Derived.Deep.Quiet
import Derived.ProofKit
import Derived.OpenShut
import Derived.Laws.StructEq
import Derived.ChangeKeysEq
import Derived.Laws.Externs
import Derived.Lib.Overlaps
import Derived.Carry
import Derived.Laws.Small
import Derived.Lib.Bytealg
import Derived.Test.YtfappgmkbnddiaaGreatProg
import Derived.KernelRfl
import Derived.Lib.Builder
import Derived.Laws.Pointers
import Derived.RangeFuncRecord
import Derived.Test.YtfappgmkbnddiaaGreatP4
namespace Go.Proofs
open Go Go.RowKit Gx
set_option linter.unusedVariables false
set_option linter.unusedSimpArgs false
attribute [local irreducible] Go.Calls Gx.S Gx.O Gx.D Gx.OpP Gx.OpQ Gx.OpH
set_option maxRecDepth 20000
theorem sl_174 : tsl Tryz.prog 174 = some (9, 1, 16) := by kernel_rfl
theorem zr_9 : tzero Tryz.prog 9 = some [.string (bs [])] := by kernel_rfl
theorem fn_87 : isFn Tryz.prog 87 = true := by kernel_rfl
def PlC (j : Nat) (mo rm : Int) (a : Option Addr) (cap : Nat) (L : List LNd) (deep : Int) (f : Nat) : Prop := ∀ (w : World) (v : Vis) (P : List Nat) (lv : Int) (pa qa : Option Addr) (pn pc qn qc : Nat), (Nt w [] a L) → (j ≤ 3) → ((0 ≤ mo ∧ mo ≤ 1000) ∧ (0 ≤ deep ∧ deep ≤ 1000)) → (TOk (j : Int) (pln L)) → (Bd (pln L)) → (0 < L.length) → (Gx.Way (pln L) (v.i :: P)) → (v.d = (P.length : Int) + 1) → (lv = deep + 1 - v.d) → (KOk (j : Int) v.lo) → (KOk (j : Int) v.hi) → (StK w pa pn v.lo) → (StK w qa qn v.hi) → P.length + f = L.length → Calls Tryz.prog 87 #[.agg #[.int .i64 (j : Int), .int .i64 mo, .int .i64 rm, .slice a L.length cap], .int .i64 (v.i : Int), .int .i64 lv, .slice pa pn pc, .slice qa qn qc] w fun en w' => en = .returned (.tuple #[.int .i64 (shpF (⟨(j : Int), mo, rm, pln L⟩ : Tre) deep (vis (pln L) f v)).1, .int .i64 (shpF (⟨(j : Int), mo, rm, pln L⟩ : Tre) deep (vis (pln L) f v)).2]) ∧ Below w.heap.size w w'
set_option maxHeartbeats 400000 in
theorem c87s (w : World) (j : Nat) (mo rm : Int) (a : Option Addr) (cap : Nat) (L : List LNd) (deep : Int) (v : Vis) (P : List Nat) (lv : Int) (pa qa : Option Addr) (pn pc qn qc : Nat) (f : Nat) (hs : Nt w [] a L) (hj : j ≤ 3) (hmo : (0 ≤ mo ∧ mo ≤ 1000) ∧ (0 ≤ deep ∧ deep ≤ 1000)) (hT : TOk (j : Int) (pln L)) (hB : Bd (pln L)) (h0 : 0 < L.length) (hway : Gx.Way (pln L) (v.i :: P)) (hd : v.d = (P.length : Int) + 1) (hlv : lv = deep + 1 - v.d) (hko : KOk (j : Int) v.lo) (hkp : KOk (j : Int) v.hi) (hlo : StK w pa pn v.lo) (hhi : StK w qa qn v.hi) (hf : P.length + (f + 1) = L.length) (ih : PlC j mo rm a cap L deep f) : Calls Tryz.prog 87 #[.agg #[.int .i64 (j : Int), .int .i64 mo, .int .i64 rm, .slice a L.length cap], .int .i64 (v.i : Int), .int .i64 lv, .slice pa pn pc, .slice qa qn qc] w fun en w' => en = .returned (.tuple #[.int .i64 (shpF (⟨(j : Int), mo, rm, pln L⟩ : Tre) deep (vis (pln L) (f + 1) v)).1, .int .i64 (shpF (⟨(j : Int), mo, rm, pln L⟩ : Tre) deep (vis (pln L) (f + 1) v)).2]) ∧ Below w.heap.size w w' := by
 have hi0 := way_lt hT (by rw [pln_len]; exact h0) hway v.i (List.mem_cons_self ..)
 have hi : v.i < L.length := by rw [pln_len] at hi0; exact hi0
 have hn := pln_nth hi
 have hn0 := pln_nth h0
 have hle := hB.len
 rw [pln_len] at hle
 have hwl := way_len hT (by rw [pln_len]; exact h0) hway
 rw [pln_len, List.length_cons] at hwl
 have hcl := hB.cs v.i hi0
 have hel := hB.es v.i hi0
 rw [hn] at hcl hel
 simp only [LNd.pl] at hcl hel
 have hsh := hT.shape v.i hi0
 rw [hn] at hsh
 simp only [LNd.pl] at hsh
 have hgi := gap_iff (t := (⟨(j : Int), mo, rm, pln L⟩ : Tre)) (v := v) hn hn0 (hn0 ▸ hT.shape 0 (by rw [pln_len]; exact h0)) (fun c hc => (hT.kid 0 (by rw [pln_len]; exact h0) c (by rw [hn0]; exact hc)).1.1)
 simp only [LNd.pl] at hgi
 have hE9 := ents_kok hT hi0
 rw [hn] at hE9
 simp only [LNd.pl] at hE9
 refine enter (args := [_, _, _, _, _]) Tryz.func87 Tryz.ntmps87 rfl rfl (HS.refl w []) ?_
 iterate 2 refine aS ?_
 refine oBx fun b1 _ => ?_
 iterate 8 refine aS ?_
 refine o_p (p_indexAddr rfl rfl rfl sl_22 (v.i) (by omega) (by omega) (Rw.some hs.1 (by omega))) rfl ?_
 refine o_q (q_load_oldn _ rfl rfl sz_102 rfl (Rw.rd hs.1 hi)) rfl ?_
 refine oAl (fun b2 _ => ?_) zr_102
 refine oSt ?_
 iterate 7 refine aS ?_
 refine o_and 8 27 35 _ _ rfl
  (by
   intro hg3
   have hs4 := hg3; try simp only [Bool.not_eq_true', decide_eq_false_iff_not] at hs4
   refine oOn 27 hg3 ?_
   refine aS ?_
   refine oOn 27 hg3 ?_
   refine aS ?_
   refine oOn 27 hg3 ?_
   refine aS ?_
   refine oOn 27 hg3 ?_
   refine aS ?_
   refine oOn 27 hg3 ?_
   refine aS ?_
   refine oOn 27 hg3 ?_
   refine o_p (p_quo_nn rfl rfl rfl (by omega) (by omega) (by omega)) rfl ?_
   refine oOn 27 hg3 ?_
   refine aS ?_
   refine o_p (p_pickt rfl rfl hg3 rfl) rfl ?_
   refine aS ?_
   exact oJn 8 35)
  (by
   intro hg5
   have hs6 := hg5; try simp only [Bool.not_eq_false', decide_eq_true_eq] at hs6
   refine oOf 27 hg5 ?_
   refine oOf 27 hg5 ?_
   refine oOf 27 hg5 ?_
   refine oOf 27 hg5 ?_
   refine oOf 27 hg5 ?_
   refine oOf 27 hg5 ?_
   refine oOf 27 hg5 ?_
   refine o_p (p_pickf rfl rfl hg5 rfl) rfl ?_
   refine aS ?_
   exact oJn 8 35) ?_
 refine aS ?_
 refine s_cond rfl (fun h7 => ?_) fun h7 => ?_
 ·try simp only [Bool.and_eq_true, Bool.not_eq_true', decide_eq_false_iff_not, decide_eq_true_eq] at h7
  have hgp : gapB (⟨(j : Int), mo, rm, pln L⟩ : Tre) v = true := hgi.2 (.inl (by have hq := h7; omega))
  have hV := visE_gap (deep := deep) hgp
  iterate 6 refine aS ?_
  exact s_retv (rs := [.tmp 10, .tmp 11]) rfl (.tmp rfl (.tmp rfl (.nil))) (fun w' h' => ⟨by rw [shp_head (by rw [hV]; decide), hV]; rfl, h'.below⟩)
 try simp only [Bool.and_eq_false_iff, Bool.not_eq_false', decide_eq_true_eq, decide_eq_false_iff_not] at h7
 have hng1 : ¬ (v.i ≠ 0 ∧ ((nth L v.i).es.length : Int) < mo / 2) := by have hq := h7; omega
 iterate 6 refine aS ?_
 refine o_p (p_indexAddr rfl rfl rfl sl_22 (0) (by omega) (by omega) (Rw.some hs.1 (by omega))) rfl ?_
 refine aS ?_
 refine o_q (q_load_old rfl rfl sz_77 ((hs.1.rdj 1 h0 rfl))) rfl ?_
 iterate 3 refine aS ?_
 refine o_and 8 44 52 _ _ rfl
  (by
   intro hg8
   have hs9 := hg8; try simp only [decide_eq_true_eq] at hs9
   refine oOn 44 hg8 ?_
   refine aS ?_
   refine oOn 44 hg8 ?_
   refine aS ?_
   refine oOn 44 hg8 ?_
   refine o_p (p_indexAddr rfl rfl rfl sl_22 (0) (by omega) (by omega) (Rw.some hs.1 (by omega))) rfl ?_
   refine oOn 44 hg8 ?_
   refine aS ?_
   refine oOn 44 hg8 ?_
   refine o_q (q_load_old rfl rfl sz_30 ((hs.1.rdj 2 h0 rfl))) rfl ?_
   refine oOn 44 hg8 ?_
   refine aS ?_
   refine oOn 44 hg8 ?_
   refine aS ?_
   refine o_p (p_pickt rfl rfl hg8 rfl) rfl ?_
   refine aS ?_
   exact oJn 8 52)
  (by
   intro hg10
   have hs11 := hg10; try simp only [decide_eq_false_iff_not] at hs11
   refine oOf 44 hg10 ?_
   refine oOf 44 hg10 ?_
   refine oOf 44 hg10 ?_
   refine oOf 44 hg10 ?_
   refine oOf 44 hg10 ?_
   refine oOf 44 hg10 ?_
   refine oOf 44 hg10 ?_
   refine o_p (p_pickf rfl rfl hg10 rfl) rfl ?_
   refine aS ?_
   exact oJn 8 52) ?_
 refine aS ?_
 refine o_and 10 53 63 _ _ rfl
  (by
   intro hg12
   have hs13 := hg12; try simp only [Bool.and_eq_true, decide_eq_true_eq] at hs13
   refine oOn 53 hg12 ?_
   refine aS ?_
   refine oOn 53 hg12 ?_
   refine aS ?_
   refine oOn 53 hg12 ?_
   refine o_p (p_indexAddr rfl rfl rfl sl_22 (0) (by omega) (by omega) (Rw.some hs.1 (by omega))) rfl ?_
   refine oOn 53 hg12 ?_
   refine aS ?_
   refine oOn 53 hg12 ?_
   refine o_q (q_load_old rfl rfl sz_30 ((hs.1.rdj 2 h0 rfl))) rfl ?_
   refine oOn 53 hg12 ?_
   refine o_p (p_indexAddr rfl rfl rfl sl_30 (0) (by omega) (by omega) (Rw.some (hs.cs h0) (by omega))) rfl ?_
   refine oOn 53 hg12 ?_
   refine o_q (q_load_old rfl rfl sz_3 (((hs.cs h0).rdj 0 (i := 0) (by omega) rfl))) rfl ?_
   refine oOn 53 hg12 ?_
   refine aS ?_
   refine oOn 53 hg12 ?_
   refine aS ?_
   refine o_p (p_pickt rfl rfl hg12 rfl) rfl ?_
   refine aS ?_
   exact oJn 10 63)
  (by
   intro hg14
   have hs15 := hg14; try simp only [Bool.and_eq_false_iff, decide_eq_false_iff_not] at hs15
   refine oOf 53 hg14 ?_
   refine oOf 53 hg14 ?_
   refine oOf 53 hg14 ?_
   refine oOf 53 hg14 ?_
   refine oOf 53 hg14 ?_
   refine oOf 53 hg14 ?_
   refine oOf 53 hg14 ?_
   refine oOf 53 hg14 ?_
   refine oOf 53 hg14 ?_
   refine o_p (p_pickf rfl rfl hg14 rfl) rfl ?_
   refine aS ?_
   exact oJn 10 63) ?_
 refine aS ?_
 refine o_and 7 64 71 _ _ rfl
  (by
   intro hg16
   have hs17 := hg16; try simp only [Bool.and_eq_true, decide_eq_true_eq] at hs17
   refine oOn 64 hg16 ?_
   refine aS ?_
   refine oOn 64 hg16 ?_
   refine aS ?_
   refine oOn 64 hg16 ?_
   refine aS ?_
   refine oOn 64 hg16 ?_
   refine aS ?_
   refine oOn 64 hg16 ?_
   refine aS ?_
   refine oOn 64 hg16 ?_
   refine aS ?_
   refine o_p (p_pickt rfl rfl hg16 rfl) rfl ?_
   refine aS ?_
   exact oJn 7 71)
  (by
   intro hg18
   have hs19 := hg18; try simp only [Bool.and_eq_false_iff, decide_eq_false_iff_not] at hs19
   refine oOf 64 hg18 ?_
   refine oOf 64 hg18 ?_
   refine oOf 64 hg18 ?_
   refine oOf 64 hg18 ?_
   refine oOf 64 hg18 ?_
   refine oOf 64 hg18 ?_
   refine o_p (p_pickf rfl rfl hg18 rfl) rfl ?_
   refine aS ?_
   exact oJn 7 71) ?_
 refine aS ?_
 refine s_cond rfl (fun h20 => ?_) fun h20 => ?_
 ·try simp only [Bool.and_eq_true, decide_eq_true_eq] at h20
  have hgp : gapB (⟨(j : Int), mo, rm, pln L⟩ : Tre) v = true := hgi.2 (.inr (by have hq := h20; exact ⟨⟨⟨by omega, by omega⟩, hq.1.2⟩, by omega⟩))
  have hV := visE_gap (deep := deep) hgp
  refine aS ?_
  refine s_weaken (L' := [(1, _), (2, _), (3, _), (4, _), (5, _), (10, _), (11, _), (12, _)]) aSx (fun _ h => h) ?_
  iterate 5 refine aS ?_
  exact s_retv (rs := [.tmp 10, .tmp 11]) rfl (.tmp rfl (.tmp rfl (.nil))) (fun w' h' => ⟨by rw [shp_head (by rw [hV]; decide), hV]; rfl, h'.below⟩)
 try simp only [Bool.and_eq_false_iff, decide_eq_false_iff_not] at h20
 have hgn : ¬ gapB (⟨(j : Int), mo, rm, pln L⟩ : Tre) v = true := fun h9 => (hgi.1 h9).elim hng1 (fun h8 => by have hq := h20; rcases hq with ((hq | hq) | hq) | hq <;> first | omega | exact hq h8.1.2)
 iterate 3 refine aS ?_
 refine s_weaken (L' := [(1, _), (2, _), (3, _), (4, _), (5, _), (10, _), (11, _), (12, _)]) aSx (fun _ h => h) ?_
 iterate 4 refine aS ?_
 refine s_loopI (α := Nat) [10, 11, 13, 14, 73, 74, 75, 76, 77, 78, 79, 80, 81, 82, 83, 84, 85, 86, 87, 88, 89, 90, 91, 92, 93, 94, 95, 96, 97, 98, 99, 100, 101, 102, 103, 104, 105, 106, 107, 108, 109, 110, 111, 112, 113, 114] (fun k => [(13, .int .i64 (k : Int))]) (fun _ => HS w [] [.blk b1 24 4 [.int .i64 (j : Int), .int .i64 mo, .int .i64 rm, .slice a L.length cap], .blk b2 102 3 (LNd.vals (nth L v.i))]) (fun k => k ≤ (nth L v.i).es.length ∧ ∀ q, q < k → ¬ outB (⟨(j : Int), mo, rm, pln L⟩ : Tre) v (nth (nth L v.i).es q) = true) (fun k => (nth L v.i).es.length - k) 0 ⟨Nat.zero_le _, fun q h => absurd h (Nat.not_lt_zero q)⟩ aSx (fun w h => h.ent aEt) (fun k hx9 => ?_)
 obtain ⟨hk1, hk3⟩ := hx9
 iterate 9 refine aS ?_
 refine s_cond rfl (fun h21 => ?_) fun h21 => ?_
 ·try simp only [decide_eq_true_eq] at h21
  have hk5 : k < (nth L v.i).es.length := by omega
  iterate 8 refine aS ?_
  refine o_p (p_indexAddr rfl rfl rfl sl_77 (k) (by omega) (by omega) (Rw.some (hs.es hi) (by omega))) rfl ?_
  refine aS ?_
  refine o_q (q_load_old rfl rfl sz_9 (((hs.es hi).rdj 0 hk5 rfl))) rfl ?_
  iterate 3 refine aS ?_
  refine s_weaken (L' := [(1, _), (2, _), (3, _), (4, _), (5, _), (12, _), (13, _), (14, _)]) aSx (fun _ h => h) ?_
  refine s_cutS (α := Bool) [86, 87, 88, 89, 90, 91, 92, 93, 94, 95, 96, 97, 98, 99, 100, 101, 102, 103, 104, 105, 106, 107, 108, 109, 110, 111, 112, 113] (fun x => [(113, .bool x)]) (fun x => x = true ↔ (outB (⟨(j : Int), mo, rm, pln L⟩ : Tre) v (nth (nth L v.i).es k)) = true) ?_ ?_
  ·skip
   refine s_draw [] mixed ?_
   refine dP 0 ?_
   refine d_p 1 rfl (p_len_slice rfl rfl Tryz.underlying174) (by kernel_rfl) rfl rfl ?_
   refine dP 2 ?_
   refine dP 3 ?_
   apply d_split 89
   ·exact rfl
   ·intro hg22
    have hs23 := hg22; try simp only [decide_eq_true_eq] at hs23
    refine dFo 4 89 hg22 ?_
    obtain ⟨kl, bl, ol, hlo1, hlo2, hlo3, hlo4⟩ := hlo.of_pos (by omega)
    refine d_qon 5 89 [] rfl rfl rfl hg22 (q_load rfl rfl sz_3 aPk rfl) (by kernel_rfl) (by kernel_rfl) (by kernel_rfl) rfl ?_
    refine dPo 6 89 hg22 ?_
    refine d_pon 7 89 rfl rfl rfl hg22 (p_indexAddr rfl rfl rfl sl_174 (0) (by omega) (by omega) hlo3) (by kernel_rfl) rfl rfl ?_
    refine d_qon 8 89 [] rfl rfl rfl hg22 (q_load_old rfl rfl sz_9 (hlo4)) (by kernel_rfl) (by kernel_rfl) (by kernel_rfl) rfl ?_
    refine dPo 9 89 hg22 ?_
    refine d_qon 10 89 [] rfl rfl rfl hg22 (q_call rfl fn_33 rfl (fun w1 h1 => c33 w1 j kl (nth (nth L v.i).es k).key hj (hko _ hlo1).1 (hE9 _ (mem_nth hk5)).1 (hko _ hlo1).2 (hE9 _ (mem_nth hk5)).2)) (by kernel_rfl) (by kernel_rfl) (by kernel_rfl) rfl ?_
    refine dPo 11 89 hg22 ?_
    refine d_p 12 rfl (p_pickt rfl rfl hg22 rfl) (by kernel_rfl) rfl rfl ?_
    refine dP 13 ?_
    apply d_split 99
    ·exact rfl
    ·intro hg24
     have hs25 := hg24; try simp only [decide_eq_true_eq] at hs25
     refine dOf 14 99 hg24 ?_
     refine dOf 15 99 hg24 ?_
     refine dOf 16 99 hg24 ?_
     refine dOf 17 99 hg24 ?_
     refine dOu 18 103 ?_
     refine dOu 19 103 ?_
     refine dOu 20 103 ?_
     refine dOu 21 103 ?_
     refine dOu 22 103 ?_
     refine dOu 23 103 ?_
     refine dOu 24 103 ?_
     refine dOu 25 103 ?_
     refine dOf 26 99 hg24 ?_
     refine d_p 27 rfl (p_pickt rfl rfl hg24 rfl) (by kernel_rfl) rfl rfl ?_
     refine dNi ?_
     exact s_joinI true (out_a hlo1 (by show 0 ≤ cmpK (j : Int) kl _; omega)) aSx (fun w h => h.ent aEt)
    intro hg26
    have hs27 := hg26; try simp only [decide_eq_false_iff_not] at hs27
    refine dPo 14 99 hg26 ?_
    refine d_pon 15 99 rfl rfl rfl hg26 (p_len_slice rfl rfl Tryz.underlying174) (by kernel_rfl) rfl rfl ?_
    refine dPo 16 99 hg26 ?_
    refine dPo 17 99 hg26 ?_
    apply d_split 103
    ·exact rfl
    ·intro hg28
     have hs29 := hg28; try simp only [decide_eq_true_eq] at hs29
     refine dFo 18 103 hg28 ?_
     obtain ⟨kh, bh, oh, hhi1, hhi2, hhi3, hhi4⟩ := hhi.of_pos (by omega)
     refine d_qon 19 103 [] rfl rfl rfl hg28 (q_load rfl rfl sz_3 aPk rfl) (by kernel_rfl) (by kernel_rfl) (by kernel_rfl) rfl ?_
     refine dPo 20 103 hg28 ?_
     refine dPo 21 103 hg28 ?_
     refine d_pon 22 103 rfl rfl rfl hg28 (p_indexAddr rfl rfl rfl sl_174 (0) (by omega) (by omega) hhi3) (by kernel_rfl) rfl rfl ?_
     refine d_qon 23 103 [] rfl rfl rfl hg28 (q_load_old rfl rfl sz_9 (hhi4)) (by kernel_rfl) (by kernel_rfl) (by kernel_rfl) rfl ?_
     refine d_qon 24 103 [] rfl rfl rfl hg28 (q_call rfl fn_33 rfl (fun w1 h1 => c33 w1 j (nth (nth L v.i).es k).key kh hj (hE9 _ (mem_nth hk5)).1 (hkp _ hhi1).1 (hE9 _ (mem_nth hk5)).2 (hkp _ hhi1).2)) (by kernel_rfl) (by kernel_rfl) (by kernel_rfl) rfl ?_
     refine dPo 25 103 hg28 ?_
     refine d_pon 26 99 rfl rfl rfl hg26 (p_pickt rfl rfl hg28 rfl) (by kernel_rfl) rfl rfl ?_
     refine d_p 27 rfl (p_pickf rfl rfl hg26 rfl) (by kernel_rfl) rfl rfl ?_
     refine dNi ?_
     exact s_joinI (decide (cmpK (j : Int) (nth (nth L v.i).es k).key kh ≥ 0)) (out_b (t := (⟨(j : Int), mo, rm, pln L⟩ : Tre)) hlo1 (by show ¬ 0 ≤ cmpK (j : Int) kl _; omega) hhi1) aSx (fun w h => h.ent aEt)
    intro hg30
    have hs31 := hg30; try simp only [decide_eq_false_iff_not] at hs31
    refine dOf 18 103 hg30 ?_
    refine dOf 19 103 hg30 ?_
    refine dOf 20 103 hg30 ?_
    refine dOf 21 103 hg30 ?_
    refine dOf 22 103 hg30 ?_
    refine dOf 23 103 hg30 ?_
    refine dOf 24 103 hg30 ?_
    refine dOf 25 103 hg30 ?_
    refine d_pon 26 99 rfl rfl rfl hg26 (p_pickf rfl rfl hg30 rfl) (by kernel_rfl) rfl rfl ?_
    refine d_p 27 rfl (p_pickf rfl rfl hg26 rfl) (by kernel_rfl) rfl rfl ?_
    refine dNi ?_
    exact s_joinI false (out_c hlo1 (by show ¬ 0 ≤ cmpK (j : Int) kl _; omega) (hhi.of_no (by omega))) aSx (fun w h => h.ent aEt)
   intro hg32
   have hs33 := hg32; try simp only [decide_eq_false_iff_not] at hs33
   refine dOf 4 89 hg32 ?_
   refine dOf 5 89 hg32 ?_
   refine dOf 6 89 hg32 ?_
   refine dOf 7 89 hg32 ?_
   refine dOf 8 89 hg32 ?_
   refine dOf 9 89 hg32 ?_
   refine dOf 10 89 hg32 ?_
   refine dOf 11 89 hg32 ?_
   refine d_p 12 rfl (p_pickf rfl rfl hg32 rfl) (by kernel_rfl) rfl rfl ?_
   refine dP 13 ?_
   apply d_split 99
   ·exact rfl
   ·intro hg34
    have hs35 := hg34; skip
    refine dOf 14 99 hg34 ?_
    refine dOf 15 99 hg34 ?_
    refine dOf 16 99 hg34 ?_
    refine dOf 17 99 hg34 ?_
    refine dOu 18 103 ?_
    refine dOu 19 103 ?_
    refine dOu 20 103 ?_
    refine dOu 21 103 ?_
    refine dOu 22 103 ?_
    refine dOu 23 103 ?_
    refine dOu 24 103 ?_
    refine dOu 25 103 ?_
    refine dOf 26 99 hg34 ?_
    refine d_p 27 rfl (p_pickt rfl rfl hg34 rfl) (by kernel_rfl) rfl rfl ?_
    refine dNi ?_
    exact s_joinI true (by exfalso; simp_all; done) aSx (fun w h => h.ent aEt)
   intro hg36
   have hs37 := hg36; skip
   refine dPo 14 99 hg36 ?_
   refine d_pon 15 99 rfl rfl rfl hg36 (p_len_slice rfl rfl Tryz.underlying174) (by kernel_rfl) rfl rfl ?_
   refine dPo 16 99 hg36 ?_
   refine dPo 17 99 hg36 ?_
   apply d_split 103
   ·exact rfl
   ·intro hg38
    have hs39 := hg38; try simp only [decide_eq_true_eq] at hs39
    refine dFo 18 103 hg38 ?_
    obtain ⟨kh, bh, oh, hhi1, hhi2, hhi3, hhi4⟩ := hhi.of_pos (by omega)
    refine d_qon 19 103 [] rfl rfl rfl hg38 (q_load rfl rfl sz_3 aPk rfl) (by kernel_rfl) (by kernel_rfl) (by kernel_rfl) rfl ?_
    refine dPo 20 103 hg38 ?_
    refine dPo 21 103 hg38 ?_
    refine d_pon 22 103 rfl rfl rfl hg38 (p_indexAddr rfl rfl rfl sl_174 (0) (by omega) (by omega) hhi3) (by kernel_rfl) rfl rfl ?_
    refine d_qon 23 103 [] rfl rfl rfl hg38 (q_load_old rfl rfl sz_9 (hhi4)) (by kernel_rfl) (by kernel_rfl) (by kernel_rfl) rfl ?_
    refine d_qon 24 103 [] rfl rfl rfl hg38 (q_call rfl fn_33 rfl (fun w1 h1 => c33 w1 j (nth (nth L v.i).es k).key kh hj (hE9 _ (mem_nth hk5)).1 (hkp _ hhi1).1 (hE9 _ (mem_nth hk5)).2 (hkp _ hhi1).2)) (by kernel_rfl) (by kernel_rfl) (by kernel_rfl) rfl ?_
    refine dPo 25 103 hg38 ?_
    refine d_pon 26 99 rfl rfl rfl hg36 (p_pickt rfl rfl hg38 rfl) (by kernel_rfl) rfl rfl ?_
    refine d_p 27 rfl (p_pickf rfl rfl hg36 rfl) (by kernel_rfl) rfl rfl ?_
    refine dNi ?_
    exact s_joinI (decide (cmpK (j : Int) (nth (nth L v.i).es k).key kh ≥ 0)) (out_d (t := (⟨(j : Int), mo, rm, pln L⟩ : Tre)) (hlo.of_no (by omega)) hhi1) aSx (fun w h => h.ent aEt)
   intro hg40
   have hs41 := hg40; try simp only [decide_eq_false_iff_not] at hs41
   refine dOf 18 103 hg40 ?_
   refine dOf 19 103 hg40 ?_
   refine dOf 20 103 hg40 ?_
   refine dOf 21 103 hg40 ?_
   refine dOf 22 103 hg40 ?_
   refine dOf 23 103 hg40 ?_
   refine dOf 24 103 hg40 ?_
   refine dOf 25 103 hg40 ?_
   refine d_pon 26 99 rfl rfl rfl hg36 (p_pickf rfl rfl hg40 rfl) (by kernel_rfl) rfl rfl ?_
   refine d_p 27 rfl (p_pickf rfl rfl hg36 rfl) (by kernel_rfl) rfl rfl ?_
   refine dNi ?_
   exact s_joinI false (out_e (hlo.of_no (by omega)) (hhi.of_no (by omega))) aSx (fun w h => h.ent aEt)
  intro x hx
  refine s_cond rfl (fun h42 => ?_) fun h42 => ?_
  ·skip
   have hV := visE_out (deep := deep) hgn (outs_hit hn hk5 (hx.1 h42))
   iterate 6 refine aS ?_
   exact s_retv (rs := [.tmp 10, .tmp 11]) rfl (.tmp rfl (.tmp rfl (.nil))) (fun w' h' => ⟨by rw [shp_head (by rw [hV]; decide), hV]; rfl, h'.below⟩)
  skip
  have hz3 : ¬ (outB (⟨(j : Int), mo, rm, pln L⟩ : Tre) v (nth (nth L v.i).es k)) = true := fun h9 => by have h8 := hx.2 h9; simp_all
  iterate 5 refine aS ?_
  try refine oWr ?_
  iterate 2 refine aS ?_
  exact s_backI (k + 1) (by omega) ⟨by omega, fun q hq => (Nat.lt_or_ge q k).elim (hk3 q) (fun h9 => by obtain rfl : q = k := (by omega); exact hz3)⟩ aSx (fun w h => h.ent aEt)
 try simp only [decide_eq_false_iff_not] at h21
 have hon : ¬ outsB (⟨(j : Int), mo, rm, pln L⟩ : Tre) v = true := outs_no hn (fun q hq => hk3 q (by have hq9 := hq; simp only [LNd.pl] at hq9; omega))
 refine s_exit_to rfl ?_
 iterate 8 refine aS ?_
 refine o_and 3 119 122 _ _ rfl
  (by
   intro hg43
   have hs44 := hg43; try simp only [decide_eq_true_eq] at hs44
   refine oOn 119 hg43 ?_
   refine aS ?_
   refine oOn 119 hg43 ?_
   refine aS ?_
   refine o_p (p_pickt rfl rfl hg43 rfl) rfl ?_
   refine aS ?_
   exact oJn 3 122)
  (by
   intro hg45
   have hs46 := hg45; try simp only [decide_eq_false_iff_not] at hs46
   refine oOf 119 hg45 ?_
   refine oOf 119 hg45 ?_
   refine o_p (p_pickf rfl rfl hg45 rfl) rfl ?_
   refine aS ?_
   exact oJn 3 122) ?_
 refine aS ?_
 refine s_cond rfl (fun h47 => ?_) fun h47 => ?_
 ·try simp only [Bool.and_eq_true, decide_eq_true_eq, Bool.not_eq_true', decide_eq_false_iff_not] at h47
  have hV := visE_22 (deep := deep) hgn hon (by rw [show ((⟨(j : Int), mo, rm, pln L⟩ : Tre)).ns = pln L from rfl, hn]; have hq := h47; simp only [LNd.pl]; omega)
  iterate 6 refine aS ?_
  exact s_retv (rs := [.tmp 10, .tmp 11]) rfl (.tmp rfl (.tmp rfl (.nil))) (fun w' h' => ⟨by rw [shp_head (by rw [hV]; decide), hV]; rfl, h'.below⟩)
 try simp only [Bool.and_eq_false_iff, decide_eq_false_iff_not, Bool.not_eq_false', decide_eq_true_eq] at h47
 have hV0 := visE_ok (deep := deep) hgn hon (by rw [show ((⟨(j : Int), mo, rm, pln L⟩ : Tre)).ns = pln L from rfl, hn]; have hq := h47; simp only [LNd.pl]; omega)
 iterate 7 refine aS ?_
 refine s_weaken (L' := [(1, _), (2, _), (3, _), (4, _), (5, _), (12, _), (13, _), (15, _)]) aSx (fun _ h => h) ?_
 refine s_loopI (α := Nat) [10, 11, 15, 16, 17, 18, 19, 124, 125, 126, 127, 128, 129, 130, 131, 132, 133, 134, 135, 136, 137, 138, 139, 140, 141, 142, 143, 144, 145, 146, 147, 148, 149, 150, 151, 152, 153, 154, 155, 156, 157, 158, 159, 160, 161, 162, 163, 164, 165, 166, 167, 168, 169, 170, 171, 172] (fun k => [(15, .int .i64 (k : Int))]) (fun _ => HS w [] [.blk b1 24 4 [.int .i64 (j : Int), .int .i64 mo, .int .i64 rm, .slice a L.length cap], .blk b2 102 3 (LNd.vals (nth L v.i))]) (fun k => k ≤ (nth L v.i).cs.length ∧ (shpF (⟨(j : Int), mo, rm, pln L⟩ : Tre) deep (visK (pln L) f v k)).2 = 0) (fun k => (nth L v.i).cs.length - k) 0 ⟨Nat.zero_le _, shp_K0 hV0⟩ aSx (fun w h => h.ent aEt) (fun k hx9 => ?_)
 obtain ⟨hk1, hk3⟩ := hx9
 iterate 9 refine aS ?_
 refine s_cond rfl (fun h48 => ?_) fun h48 => ?_
 ·try simp only [decide_eq_true_eq] at h48
  have hkl : k < (nth L v.i).cs.length := by omega
  have hkid := kid_in hT hi0 (k := k) (by rw [hn]; exact hkl)
  rw [hn, pln_len] at hkid
  simp only [LNd.pl] at hkid
  have hway2 := way_kid hway hi0 (k := k) (by rw [hn]; exact hkl) (by rw [hn]; simp only [LNd.pl]; omega)
  iterate 16 refine aS ?_
  refine s_cond rfl (fun h49 => ?_) fun h49 => ?_
  ·try simp only [decide_eq_true_eq] at h49
   have hk0 : 0 < k := by have hq := h49; omega
   iterate 5 refine aS ?_
   try refine oWr ?_
   refine o_p (p_indexAddr rfl rfl rfl sl_77 (k - 1) (by omega) (by omega) (Rw.some (hs.es hi) (by omega))) rfl ?_
   refine aS ?_
   refine o_q (q_load_old rfl rfl sz_9 (((hs.es hi).rdj 0 (i := k - 1) (by omega) rfl))) rfl ?_
   refine o_h (h_buildSlice (cs := [_]) rfl rfl sl_174 zr_9 rfl rfl rfl) rfl (fun b50 _ => ?_)
   iterate 11 refine aS ?_
   refine s_cond rfl (fun h51 => ?_) fun h51 => ?_
   ·try simp only [decide_eq_true_eq] at h51
    have hk9 : k < (nth L v.i).es.length := by have hq := h51; omega
    refine s_weaken (L' := [(1, _), (2, _), (3, _), (4, _), (5, _), (12, _), (13, _), (15, _), (16, _), (17, _)]) aSx (fun _ h => h) ?_
    iterate 4 refine aS ?_
    refine o_p (p_indexAddr rfl rfl rfl sl_77 (k) (by omega) (by omega) (Rw.some (hs.es hi) (by omega))) rfl ?_
    refine aS ?_
    refine o_q (q_load_old rfl rfl sz_9 (((hs.es hi).rdj 0 (i := k) (by omega) rfl))) rfl ?_
    refine o_h (h_buildSlice (cs := [_]) rfl rfl sl_174 zr_9 rfl rfl rfl) rfl (fun b52 _ => ?_)
    iterate 3 refine aS ?_
    refine s_draw [] mixed ?_
    refine dLn 0 [] ?_
    refine dFa 1 ?_
    refine dLd 2 [] ?_
    refine dP 3 ?_
    refine d_p 4 rfl (p_indexAddr rfl rfl rfl sl_30 (k) (by omega) (by omega) (Rw.some (hs.cs hi) (by omega))) (by kernel_rfl) rfl rfl ?_
    refine d_q 5 [] rfl (q_load_old rfl rfl sz_3 (((hs.cs hi).rdj 0 (i := k) hkl rfl))) (by kernel_rfl) (by kernel_rfl) (by kernel_rfl) rfl ?_
    refine d_slot (show _ = Value.int .i64 ((kidV (pln L) v k).i : Int) from by rw [kidV, hn]; exact congrArg (Value.int .i64) (Int.toNat_of_nonneg (show 0 ≤ (nth L v.i).cs.getD k 0 by omega)).symm) ?_
    refine dP 6 ?_
    refine dP 7 ?_
    try refine dWr ?_
    refine dP 8 ?_
    refine dP 9 ?_
    refine d_q 10 [] rfl (q_call rfl fn_87 rfl (fun w1 h1 => ih w1 (kidV (pln L) v k) (v.i :: P) (lv - 1) _ _ _ _ _ _ (hs.later h1) hj hmo hT hB h0 hway2 (by simp only [kidV, List.length_cons]; omega) (by simp only [kidV]; omega) (kok_lo hT hi0 (by rw [hn]; show k ≤ (nth L v.i).es.length; omega) hko) (kok_hi hT hi0 hkp) (by show StK w1 _ _ (loK (nth (pln L) v.i).es k v.lo); rw [hn]; show StK w1 _ _ (loK (nth L v.i).es k v.lo); first | (rw [loK_pos hk0]; exact StK.new (h1.rd_blk (Mc := []) aPk rfl (by simp))) | (rw [loK_no hk0]; exact hlo.later h1)) (by show StK w1 _ _ (hiK (nth (pln L) v.i).es k v.hi); rw [hn]; show StK w1 _ _ (hiK (nth L v.i).es k v.hi); first | (rw [hiK_pos hk9]; exact StK.new (h1.rd_blk (Mc := []) aPk rfl (by simp))) | (rw [hiK_no hk9]; exact hhi.later h1)) (by simp only [List.length_cons]; omega))) (by kernel_rfl) (by kernel_rfl) (by kernel_rfl) rfl ?_
    refine dP 11 ?_
    refine dP 12 ?_
    refine dP 13 ?_
    refine dP 14 ?_
    refine dP 15 ?_
    refine dNi ?_
    refine aS ?_
    refine s_weaken (L' := [(1, _), (2, _), (3, _), (4, _), (5, _), (12, _), (13, _), (15, _), (18, _), (19, _)]) aSx (fun _ h => h) ?_
    iterate 4 refine aS ?_
    refine s_cond rfl (fun h53 => ?_) fun h53 => ?_
    ·try simp only [Bool.not_eq_true', decide_eq_false_iff_not] at h53
     have hbad : shpF (⟨(j : Int), mo, rm, pln L⟩ : Tre) deep (vis (pln L) (f + 1) v) = shpF (⟨(j : Int), mo, rm, pln L⟩ : Tre) deep (vis (pln L) f (kidV (pln L) v k)) := by rw [visK_all, hn]; obtain ⟨B9, hB9⟩ := visK_more (pln L) f v (show k + 1 ≤ (nth L v.i).pl.cs.length by show k + 1 ≤ (nth L v.i).cs.length; omega); rw [hB9, visK_succ, List.append_assoc, shpF_app, if_pos hk3, shpF_app, if_neg h53]
     iterate 7 refine aS ?_
     exact s_retv (rs := [.tmp 10, .tmp 11]) rfl (.tmp rfl (.tmp rfl (.nil))) (fun w' h' => ⟨by rw [hbad]; rfl, h'.below⟩)
    try simp only [Bool.not_eq_false', decide_eq_true_eq] at h53
    have hgood : (shpF (⟨(j : Int), mo, rm, pln L⟩ : Tre) deep (visK (pln L) f v (k + 1))).2 = 0 := by rw [visK_succ, shpF_app, if_pos hk3]; have hq := h53; omega
    iterate 5 refine aS ?_
    try refine oWr ?_
    iterate 2 refine aS ?_
    exact s_backI (k + 1) (by omega) ⟨by omega, hgood⟩ aSx (fun w h => h.ent aEt)
   try simp only [decide_eq_false_iff_not] at h51
   have hk9 : ¬ k < (nth L v.i).es.length := by have hq := h51; omega
   iterate 2 refine aS ?_
   refine s_weaken (L' := [(1, _), (2, _), (3, _), (4, _), (5, _), (12, _), (13, _), (15, _), (16, _), (17, _)]) aSx (fun _ h => h) ?_
   refine s_draw [] mixed ?_
   refine dLn 0 [] ?_
   refine dFa 1 ?_
   refine dLd 2 [] ?_
   refine dP 3 ?_
   refine d_p 4 rfl (p_indexAddr rfl rfl rfl sl_30 (k) (by omega) (by omega) (Rw.some (hs.cs hi) (by omega))) (by kernel_rfl) rfl rfl ?_
   refine d_q 5 [] rfl (q_load_old rfl rfl sz_3 (((hs.cs hi).rdj 0 (i := k) hkl rfl))) (by kernel_rfl) (by kernel_rfl) (by kernel_rfl) rfl ?_
   refine d_slot (show _ = Value.int .i64 ((kidV (pln L) v k).i : Int) from by rw [kidV, hn]; exact congrArg (Value.int .i64) (Int.toNat_of_nonneg (show 0 ≤ (nth L v.i).cs.getD k 0 by omega)).symm) ?_
   refine dP 6 ?_
   refine dP 7 ?_
   try refine dWr ?_
   refine dP 8 ?_
   refine dP 9 ?_
   refine d_q 10 [] rfl (q_call rfl fn_87 rfl (fun w1 h1 => ih w1 (kidV (pln L) v k) (v.i :: P) (lv - 1) _ _ _ _ _ _ (hs.later h1) hj hmo hT hB h0 hway2 (by simp only [kidV, List.length_cons]; omega) (by simp only [kidV]; omega) (kok_lo hT hi0 (by rw [hn]; show k ≤ (nth L v.i).es.length; omega) hko) (kok_hi hT hi0 hkp) (by show StK w1 _ _ (loK (nth (pln L) v.i).es k v.lo); rw [hn]; show StK w1 _ _ (loK (nth L v.i).es k v.lo); first | (rw [loK_pos hk0]; exact StK.new (h1.rd_blk (Mc := []) aPk rfl (by simp))) | (rw [loK_no hk0]; exact hlo.later h1)) (by show StK w1 _ _ (hiK (nth (pln L) v.i).es k v.hi); rw [hn]; show StK w1 _ _ (hiK (nth L v.i).es k v.hi); first | (rw [hiK_pos hk9]; exact StK.new (h1.rd_blk (Mc := []) aPk rfl (by simp))) | (rw [hiK_no hk9]; exact hhi.later h1)) (by simp only [List.length_cons]; omega))) (by kernel_rfl) (by kernel_rfl) (by kernel_rfl) rfl ?_
   refine dP 11 ?_
   refine dP 12 ?_
   refine dP 13 ?_
   refine dP 14 ?_
   refine dP 15 ?_
   refine dNi ?_
   iterate 5 refine aS ?_
   refine s_cond rfl (fun h54 => ?_) fun h54 => ?_
   ·try simp only [Bool.not_eq_true', decide_eq_false_iff_not] at h54
    have hbad : shpF (⟨(j : Int), mo, rm, pln L⟩ : Tre) deep (vis (pln L) (f + 1) v) = shpF (⟨(j : Int), mo, rm, pln L⟩ : Tre) deep (vis (pln L) f (kidV (pln L) v k)) := by rw [visK_all, hn]; obtain ⟨B9, hB9⟩ := visK_more (pln L) f v (show k + 1 ≤ (nth L v.i).pl.cs.length by show k + 1 ≤ (nth L v.i).cs.length; omega); rw [hB9, visK_succ, List.append_assoc, shpF_app, if_pos hk3, shpF_app, if_neg h54]
    iterate 7 refine aS ?_
    exact s_retv (rs := [.tmp 10, .tmp 11]) rfl (.tmp rfl (.tmp rfl (.nil))) (fun w' h' => ⟨by rw [hbad]; rfl, h'.below⟩)
   try simp only [Bool.not_eq_false', decide_eq_true_eq] at h54
   have hgood : (shpF (⟨(j : Int), mo, rm, pln L⟩ : Tre) deep (visK (pln L) f v (k + 1))).2 = 0 := by rw [visK_succ, shpF_app, if_pos hk3]; have hq := h54; omega
   iterate 5 refine aS ?_
   try refine oWr ?_
   iterate 2 refine aS ?_
   exact s_backI (k + 1) (by omega) ⟨by omega, hgood⟩ aSx (fun w h => h.ent aEt)
  try simp only [decide_eq_false_iff_not] at h49
  have hk0 : ¬ 0 < k := by have hq := h49; omega
  iterate 10 refine aS ?_
  refine s_cond rfl (fun h55 => ?_) fun h55 => ?_
  ·try simp only [decide_eq_true_eq] at h55
   have hk9 : k < (nth L v.i).es.length := by have hq := h55; omega
   iterate 4 refine aS ?_
   refine o_p (p_indexAddr rfl rfl rfl sl_77 (k) (by omega) (by omega) (Rw.some (hs.es hi) (by omega))) rfl ?_
   refine aS ?_
   refine o_q (q_load_old rfl rfl sz_9 (((hs.es hi).rdj 0 (i := k) (by omega) rfl))) rfl ?_
   refine o_h (h_buildSlice (cs := [_]) rfl rfl sl_174 zr_9 rfl rfl rfl) rfl (fun b56 _ => ?_)
   iterate 3 refine aS ?_
   refine s_weaken (L' := [(1, _), (2, _), (3, _), (4, _), (5, _), (12, _), (13, _), (15, _), (16, _), (17, _)]) aSx (fun _ h => h) ?_
   refine s_draw [] mixed ?_
   refine dLn 0 [] ?_
   refine dFa 1 ?_
   refine dLd 2 [] ?_
   refine dP 3 ?_
   refine d_p 4 rfl (p_indexAddr rfl rfl rfl sl_30 (k) (by omega) (by omega) (Rw.some (hs.cs hi) (by omega))) (by kernel_rfl) rfl rfl ?_
   refine d_q 5 [] rfl (q_load_old rfl rfl sz_3 (((hs.cs hi).rdj 0 (i := k) hkl rfl))) (by kernel_rfl) (by kernel_rfl) (by kernel_rfl) rfl ?_
   refine d_slot (show _ = Value.int .i64 ((kidV (pln L) v k).i : Int) from by rw [kidV, hn]; exact congrArg (Value.int .i64) (Int.toNat_of_nonneg (show 0 ≤ (nth L v.i).cs.getD k 0 by omega)).symm) ?_
   refine dP 6 ?_
   refine dP 7 ?_
   try refine dWr ?_
   refine dP 8 ?_
   refine dP 9 ?_
   refine d_q 10 [] rfl (q_call rfl fn_87 rfl (fun w1 h1 => ih w1 (kidV (pln L) v k) (v.i :: P) (lv - 1) _ _ _ _ _ _ (hs.later h1) hj hmo hT hB h0 hway2 (by simp only [kidV, List.length_cons]; omega) (by simp only [kidV]; omega) (kok_lo hT hi0 (by rw [hn]; show k ≤ (nth L v.i).es.length; omega) hko) (kok_hi hT hi0 hkp) (by show StK w1 _ _ (loK (nth (pln L) v.i).es k v.lo); rw [hn]; show StK w1 _ _ (loK (nth L v.i).es k v.lo); first | (rw [loK_pos hk0]; exact StK.new (h1.rd_blk (Mc := []) aPk rfl (by simp))) | (rw [loK_no hk0]; exact hlo.later h1)) (by show StK w1 _ _ (hiK (nth (pln L) v.i).es k v.hi); rw [hn]; show StK w1 _ _ (hiK (nth L v.i).es k v.hi); first | (rw [hiK_pos hk9]; exact StK.new (h1.rd_blk (Mc := []) aPk rfl (by simp))) | (rw [hiK_no hk9]; exact hhi.later h1)) (by simp only [List.length_cons]; omega))) (by kernel_rfl) (by kernel_rfl) (by kernel_rfl) rfl ?_
   refine dP 11 ?_
   refine dP 12 ?_
   refine dP 13 ?_
   refine dP 14 ?_
   refine dP 15 ?_
   refine dNi ?_
   iterate 5 refine aS ?_
   refine s_cond rfl (fun h57 => ?_) fun h57 => ?_
   ·try simp only [Bool.not_eq_true', decide_eq_false_iff_not] at h57
    have hbad : shpF (⟨(j : Int), mo, rm, pln L⟩ : Tre) deep (vis (pln L) (f + 1) v) = shpF (⟨(j : Int), mo, rm, pln L⟩ : Tre) deep (vis (pln L) f (kidV (pln L) v k)) := by rw [visK_all, hn]; obtain ⟨B9, hB9⟩ := visK_more (pln L) f v (show k + 1 ≤ (nth L v.i).pl.cs.length by show k + 1 ≤ (nth L v.i).cs.length; omega); rw [hB9, visK_succ, List.append_assoc, shpF_app, if_pos hk3, shpF_app, if_neg h57]
    iterate 7 refine aS ?_
    exact s_retv (rs := [.tmp 10, .tmp 11]) rfl (.tmp rfl (.tmp rfl (.nil))) (fun w' h' => ⟨by rw [hbad]; rfl, h'.below⟩)
   try simp only [Bool.not_eq_false', decide_eq_true_eq] at h57
   have hgood : (shpF (⟨(j : Int), mo, rm, pln L⟩ : Tre) deep (visK (pln L) f v (k + 1))).2 = 0 := by rw [visK_succ, shpF_app, if_pos hk3]; have hq := h57; omega
   iterate 5 refine aS ?_
   try refine oWr ?_
   iterate 2 refine aS ?_
   exact s_backI (k + 1) (by omega) ⟨by omega, hgood⟩ aSx (fun w h => h.ent aEt)
  try simp only [decide_eq_false_iff_not] at h55
  have hk9 : ¬ k < (nth L v.i).es.length := by have hq := h55; omega
  iterate 2 refine aS ?_
  refine s_draw [] mixed ?_
  refine dLn 0 [] ?_
  refine dFa 1 ?_
  refine dLd 2 [] ?_
  refine dP 3 ?_
  refine d_p 4 rfl (p_indexAddr rfl rfl rfl sl_30 (k) (by omega) (by omega) (Rw.some (hs.cs hi) (by omega))) (by kernel_rfl) rfl rfl ?_
  refine d_q 5 [] rfl (q_load_old rfl rfl sz_3 (((hs.cs hi).rdj 0 (i := k) hkl rfl))) (by kernel_rfl) (by kernel_rfl) (by kernel_rfl) rfl ?_
  refine d_slot (show _ = Value.int .i64 ((kidV (pln L) v k).i : Int) from by rw [kidV, hn]; exact congrArg (Value.int .i64) (Int.toNat_of_nonneg (show 0 ≤ (nth L v.i).cs.getD k 0 by omega)).symm) ?_
  refine dP 6 ?_
  refine dP 7 ?_
  try refine dWr ?_
  refine dP 8 ?_
  refine dP 9 ?_
  refine d_q 10 [] rfl (q_call rfl fn_87 rfl (fun w1 h1 => ih w1 (kidV (pln L) v k) (v.i :: P) (lv - 1) _ _ _ _ _ _ (hs.later h1) hj hmo hT hB h0 hway2 (by simp only [kidV, List.length_cons]; omega) (by simp only [kidV]; omega) (kok_lo hT hi0 (by rw [hn]; show k ≤ (nth L v.i).es.length; omega) hko) (kok_hi hT hi0 hkp) (by show StK w1 _ _ (loK (nth (pln L) v.i).es k v.lo); rw [hn]; show StK w1 _ _ (loK (nth L v.i).es k v.lo); first | (rw [loK_pos hk0]; exact StK.new (h1.rd_blk (Mc := []) aPk rfl (by simp))) | (rw [loK_no hk0]; exact hlo.later h1)) (by show StK w1 _ _ (hiK (nth (pln L) v.i).es k v.hi); rw [hn]; show StK w1 _ _ (hiK (nth L v.i).es k v.hi); first | (rw [hiK_pos hk9]; exact StK.new (h1.rd_blk (Mc := []) aPk rfl (by simp))) | (rw [hiK_no hk9]; exact hhi.later h1)) (by simp only [List.length_cons]; omega))) (by kernel_rfl) (by kernel_rfl) (by kernel_rfl) rfl ?_
  refine dP 11 ?_
  refine dP 12 ?_
  refine dP 13 ?_
  refine dP 14 ?_
  refine dP 15 ?_
  refine dNi ?_
  refine aS ?_
  refine s_weaken (L' := [(1, _), (2, _), (3, _), (4, _), (5, _), (12, _), (13, _), (15, _), (18, _), (19, _)]) aSx (fun _ h => h) ?_
  iterate 4 refine aS ?_
  refine s_cond rfl (fun h58 => ?_) fun h58 => ?_
  ·try simp only [Bool.not_eq_true', decide_eq_false_iff_not] at h58
   have hbad : shpF (⟨(j : Int), mo, rm, pln L⟩ : Tre) deep (vis (pln L) (f + 1) v) = shpF (⟨(j : Int), mo, rm, pln L⟩ : Tre) deep (vis (pln L) f (kidV (pln L) v k)) := by rw [visK_all, hn]; obtain ⟨B9, hB9⟩ := visK_more (pln L) f v (show k + 1 ≤ (nth L v.i).pl.cs.length by show k + 1 ≤ (nth L v.i).cs.length; omega); rw [hB9, visK_succ, List.append_assoc, shpF_app, if_pos hk3, shpF_app, if_neg h58]
   iterate 7 refine aS ?_
   exact s_retv (rs := [.tmp 10, .tmp 11]) rfl (.tmp rfl (.tmp rfl (.nil))) (fun w' h' => ⟨by rw [hbad]; rfl, h'.below⟩)
  try simp only [Bool.not_eq_false', decide_eq_true_eq] at h58
  have hgood : (shpF (⟨(j : Int), mo, rm, pln L⟩ : Tre) deep (visK (pln L) f v (k + 1))).2 = 0 := by rw [visK_succ, shpF_app, if_pos hk3]; have hq := h58; omega
  iterate 5 refine aS ?_
  try refine oWr ?_
  iterate 2 refine aS ?_
  exact s_backI (k + 1) (by omega) ⟨by omega, hgood⟩ aSx (fun w h => h.ent aEt)
 try simp only [decide_eq_false_iff_not] at h48
 obtain rfl : k = (nth L v.i).cs.length := by omega
 have hfin : shpF (⟨(j : Int), mo, rm, pln L⟩ : Tre) deep (vis (pln L) (f + 1) v) = (0, 0) := by rw [visK_all, hn]; exact shpF_0 hk3
 refine s_exit_to rfl ?_
 iterate 5 refine aS ?_
 exact s_retv (rs := [.tmp 10, .tmp 11]) rfl (.tmp rfl (.tmp rfl (.nil))) (fun w' h' => ⟨by rw [hfin]; rfl, h'.below⟩)
theorem c87 (j : Nat) (mo rm : Int) (a : Option Addr) (cap : Nat) (L : List LNd) (deep : Int) : ∀ f, PlC j mo rm a cap L deep f
  | 0 => fun w v P lv pa qa pn pc qn qc hs hj hmo hT hB h0 hway hd hlv hko hkp hlo hhi hf => by
    have h1 := way_len hT (by rw [pln_len]; exact h0) hway
    rw [pln_len, List.length_cons] at h1
    omega
  | f + 1 => fun w v P lv pa qa pn pc qn qc hs hj hmo hT hB h0 hway hd hlv hko hkp hlo hhi hf => c87s w j mo rm a cap L deep v P lv pa qa pn pc qn qc f hs hj hmo hT hB h0 hway hd hlv hko hkp hlo hhi hf (c87 j mo rm a cap L deep f)
end Go.Proofs
namespace Gx
set_option linter.unusedSimpArgs false
set_option linter.unusedVariables false
set_option linter.unusedSectionVars false
open Go Go.RowKit
theorem treE_c {t : Tre} (h : ¬ colE12 t.co = 0) : treE t = (0, colE12 t.co) := by rw [treE_size (by rw [if_neg h]; exact h), if_neg h]
theorem treE_s {t : Tre} (h : colE12 t.co = 0) (h2 : ¬ sizE t.mo t.rm = 0) : treE t = (0, sizE t.mo t.rm) := by rw [treE_size (by rw [if_pos h]; exact h2), if_pos h]
theorem treE_l {t : Tre} (h : colE12 t.co = 0) (h2 : sizE t.mo t.rm = 0) (h3 : ¬ 0 < t.ns.length) : treE t = (0, 10) := by
  have e : lenE12 t.ns.length = 10 := if_neg h3
  rw [treE_len (by rw [if_pos h]; exact h2) (by rw [e]; decide), e]
theorem treE_g {t : Tre} (h : colE12 t.co = 0) (h2 : sizE t.mo t.rm = 0) (h3 : 0 < t.ns.length) (h4 : ¬ t.ns.length ≤ 120) : treE t = (0, 8) := by
  have e : lenE12 t.ns.length = 8 := by rw [lenE12, if_pos h3, if_neg h4]
  rw [treE_len (by rw [if_pos h]; exact h2) (by rw [e]; decide), e]
theorem treE_n {t : Tre} (h : colE12 t.co = 0) (h2 : sizE t.mo t.rm = 0) (h3 : 0 < t.ns.length) (h4 : t.ns.length ≤ 120) : treE t = if (nodsE t t.ns.length 0 []).2 = 0 then shapE t else nodsE t t.ns.length 0 [] := treE_nods (by rw [if_pos h]; exact h2) (by rw [lenE12, if_pos h3, if_pos h4])
theorem seen_nil (n : Nat) : zrow [Value.bool false] n = seenV n [] := by
  rw [zrow_one]
  apply List.ext_getElem?
  intro i
  by_cases hi : i < n
  · rw [seen_get hi, List.getElem?_replicate, if_pos hi]
    rfl
  · rw [List.getElem?_eq_none (by rw [List.length_replicate]; omega), List.getElem?_eq_none (by rw [seen_len]; omega)]
theorem open_mem {vs : List Vis} {k : Nat} : ((k : Nat) : Int) ∈ mkS vs [] ↔ k ∈ vs.map Vis.i := by
  rw [mkS_mem, List.mem_map]
  constructor
  · rintro ⟨v, hv, h⟩
    exact ⟨v, hv, by omega⟩
  · rintro ⟨v, hv, h⟩
    exact ⟨v, hv, by omega⟩
theorem deepT_le (ns : List Nd) : ∀ (f i : Nat), 0 ≤ deepT ns f i ∧ deepT ns f i ≤ f
  | 0, i => by rw [deepT]; omega
  | f + 1, i => by
    rw [deepT]
    split
    · omega
    · have := deepT_le ns f ((nth ns i).cs.getD 0 0).toNat
      omega
theorem deep_end {ns : List Nd} {f i : Nat} (h : (nth ns i).cs.length = 0) : deepT ns f i = 0 := by
  cases f with
  | zero => rfl
  | succ f => rw [deepT, if_pos h]
theorem deep_more {ns : List Nd} {f i : Nat} (h0 : 0 < f) (h : ¬ (nth ns i).cs.length = 0) : deepT ns f i = deepT ns (f - 1) ((nth ns i).cs.getD 0 0).toNat + 1 := by
  obtain ⟨g, rfl⟩ : ∃ g, f = g + 1 := ⟨f - 1, by omega⟩
  rw [deepT, if_neg h]
  rfl
end Gx
namespace Go.Proofs
open Go Go.RowKit Gx
set_option linter.unusedVariables false
set_option linter.unusedSimpArgs false
attribute [local irreducible] Go.Calls Gx.S Gx.O Gx.D Gx.OpP Gx.OpQ Gx.OpH
set_option maxRecDepth 20000
theorem fn_85 : isFn Tryz.prog 85 = true := by kernel_rfl
theorem fn_41 : isFn Tryz.prog 41 = true := by kernel_rfl
set_option maxHeartbeats 400000 in
theorem c41 (w : World) (co mo rm : Int) (a : Option Addr) (cap : Nat) (L : List LNd) (hs : Nt w [] a L) (hB : Bd (pln L)) (hkl : ∀ i, i < L.length → ∀ x ∈ (nth L i).es, x.key.length ≤ 1000000) : Calls Tryz.prog 41 #[.agg #[.int .i64 co, .int .i64 mo, .int .i64 rm, .slice a L.length cap]] w fun en w' => en = .returned (.tuple #[.int .i64 (treE (⟨co, mo, rm, pln L⟩ : Tre)).1, .int .i64 (treE (⟨co, mo, rm, pln L⟩ : Tre)).2]) ∧ Below w.heap.size w w' := by
 have hle := hB.len
 rw [pln_len] at hle
 have hes9 : ∀ i, i < L.length → (nth L i).es.length ≤ 1000 := fun i hi => by have h9 := hB.es i (by rw [pln_len]; exact hi); rw [pln_nth hi] at h9; exact h9
 have hcs9 : ∀ i, i < L.length → (nth L i).cs.length ≤ 1000 := fun i hi => by have h9 := hB.cs i (by rw [pln_len]; exact hi); rw [pln_nth hi] at h9; exact h9
 refine enter (args := [_]) Tryz.func41 Tryz.ntmps41 rfl rfl (HS.refl w []) ?_
 iterate 2 refine aS ?_
 refine oBx fun b1 _ => ?_
 iterate 8 refine aS ?_
 refine o_q (q_call rfl fn_30 rfl (fun w1 h1 => c30 w1 _)) rfl ?_
 iterate 7 refine aS ?_
 refine s_cond rfl (fun h2 => ?_) fun h2 => ?_
 ·try simp only [Bool.not_eq_true', decide_eq_false_iff_not] at h2
  have hz := treE_c (t := (⟨co, mo, rm, pln L⟩ : Tre)) h2
  iterate 6 refine aS ?_
  exact s_retv (rs := [.tmp 2, .tmp 3]) rfl (.tmp rfl (.tmp rfl (.nil))) (fun w' h' => ⟨by rw [hz]; rfl, h'.below⟩)
 try simp only [Bool.not_eq_false', decide_eq_true_eq] at h2
 have hc0 : colE12 co = 0 := by have hq := h2; omega
 obtain ⟨j, rfl, hj⟩ := col_ok hc0
 iterate 8 refine aS ?_
 refine o_q (q_call rfl fn_31 rfl (fun w1 h1 => c31 w1 _ _)) rfl ?_
 iterate 7 refine aS ?_
 refine s_cond rfl (fun h3 => ?_) fun h3 => ?_
 ·try simp only [Bool.not_eq_true', decide_eq_false_iff_not] at h3
  have hz := treE_s (t := (⟨(j : Int), mo, rm, pln L⟩ : Tre)) hc0 h3
  iterate 6 refine aS ?_
  exact s_retv (rs := [.tmp 2, .tmp 3]) rfl (.tmp rfl (.tmp rfl (.nil))) (fun w' h' => ⟨by rw [hz]; rfl, h'.below⟩)
 try simp only [Bool.not_eq_false', decide_eq_true_eq] at h3
 have hc1 : sizE mo rm = 0 := by have hq := h3; omega
 have hsz2 : (3 ≤ mo ∧ mo ≤ 8) ∧ (mo / 2 ≤ rm ∧ rm ≤ mo) := sizE_0 hc1
 have hTL : ((⟨(j : Int), mo, rm, pln L⟩ : Tre)).ns.length = L.length := pln_len L
 iterate 9 refine aS ?_
 refine s_cond rfl (fun h4 => ?_) fun h4 => ?_
 ·try simp only [decide_eq_true_eq] at h4
  have hz := treE_l (t := (⟨(j : Int), mo, rm, pln L⟩ : Tre)) hc0 hc1 (by rw [hTL]; have hq := h4; omega)
  iterate 5 refine aS ?_
  exact s_retv (rs := [.tmp 2, .tmp 3]) rfl (.tmp rfl (.tmp rfl (.nil))) (fun w' h' => ⟨by rw [hz]; rfl, h'.below⟩)
 try simp only [decide_eq_false_iff_not] at h4
 have h00 : 0 < L.length := by have hq := h4; omega
 iterate 9 refine aS ?_
 refine s_cond rfl (fun h5 => ?_) fun h5 => ?_
 ·try simp only [decide_eq_true_eq] at h5
  have hz := treE_g (t := (⟨(j : Int), mo, rm, pln L⟩ : Tre)) hc0 hc1 (by rw [hTL]; exact h00) (by rw [hTL]; have hq := h5; omega)
  iterate 5 refine aS ?_
  exact s_retv (rs := [.tmp 2, .tmp 3]) rfl (.tmp rfl (.tmp rfl (.nil))) (fun w' h' => ⟨by rw [hz]; rfl, h'.below⟩)
 try simp only [decide_eq_false_iff_not] at h5
 have h120 : L.length ≤ 120 := by have hq := h5; omega
 have hz := treE_n (t := (⟨(j : Int), mo, rm, pln L⟩ : Tre)) hc0 hc1 (by rw [hTL]; exact h00) (by rw [hTL]; exact h120)
 rw [hTL] at hz
 iterate 6 refine aS ?_
 refine o_h (h_make (n := L.length) rfl rfl rfl sl_140 zr_4 (by omega) (by omega)) rfl (fun b6 _ => ?_)
 refine o_class (fun w h => (show HS _ _ [.blk b6 4 L.length (seenV L.length []), .blk b1 24 4 [.int .i64 (j : Int), .int .i64 mo, .int .i64 rm, .slice a L.length cap]] w from by have h9 := h; rw [Nat.mul_one, seen_nil] at h9; exact h9.ent aEt)) ?_
 iterate 4 refine aS ?_
 refine s_weaken (L' := [(1, _), (2, _), (3, _), (6, _)]) aSx (fun _ h => h) ?_
 iterate 4 refine aS ?_
 refine s_loopI (α := Nat × List Int) [2, 3, 7, 8, 39, 40, 41, 42, 43, 44, 45, 46, 47, 48, 49, 50, 51, 52, 53] (fun x => [(7, .int .i64 (x.1 : Int))]) (fun x => HS w [] [.blk b6 4 L.length (seenV L.length x.2), .blk b1 24 4 [.int .i64 (j : Int), .int .i64 mo, .int .i64 rm, .slice a L.length cap]]) (fun x => x.1 ≤ L.length ∧ (nodsE (⟨(j : Int), mo, rm, pln L⟩ : Tre) L.length 0 []) = nodsE (⟨(j : Int), mo, rm, pln L⟩ : Tre) (L.length - x.1) x.1 x.2) (fun x => L.length - x.1) (0, []) ⟨Nat.zero_le _, rfl⟩ aSx (fun w h => h.ent aEt) (fun ⟨k, S9⟩ hx => ?_)
 dsimp only
 obtain ⟨hk1, hk3⟩ := hx
 simp only [] at hk1 hk3
 iterate 9 refine aS ?_
 refine s_cond rfl (fun h7 => ?_) fun h7 => ?_
 ·try simp only [decide_eq_true_eq] at h7
  have hkl9 : k < L.length := by omega
  have hst := nodsE_step (t := (⟨(j : Int), mo, rm, pln L⟩ : Tre)) (k := k) (seen := S9) (by rw [hTL]; exact hkl9)
  rw [hTL] at hst
  iterate 8 refine aS ?_
  refine o_h (h_callF (Cs := [.blk b6 4 L.length (seenV L.length S9)]) rfl fn_85 rfl aPs (fun w1 h1 hf => c85 w1 j mo rm a cap L k b6 L.length L.length S9 hf ((hs.keep h1).mono (fps_pick aPs)) hj hkl9 (by omega) (hes9 _ hkl9) (hcs9 _ hkl9) (hkl _ hkl9))) rfl (fun _ _ => ?_)
  iterate 7 refine aS ?_
  refine s_cond rfl (fun h8 => ?_) fun h8 => ?_
  ·try simp only [Bool.not_eq_true', decide_eq_false_iff_not] at h8
   have hz3 : (nodsE (⟨(j : Int), mo, rm, pln L⟩ : Tre) L.length 0 []) = ((k : Int), (nodE (⟨(j : Int), mo, rm, pln L⟩ : Tre) k S9).1) := by rw [hk3, hst, if_neg h8]
   rw [hz3, if_neg (show ¬ (((k : Int), (nodE (⟨(j : Int), mo, rm, pln L⟩ : Tre) k S9).1) : Int × Int).2 = 0 from h8)] at hz
   iterate 7 refine aS ?_
   exact s_retv (rs := [.tmp 2, .tmp 3]) rfl (.tmp rfl (.tmp rfl (.nil))) (fun w' h' => ⟨by rw [hz]; rfl, h'.below⟩)
  try simp only [Bool.not_eq_false', decide_eq_true_eq] at h8
  have hz3 : nodsE (⟨(j : Int), mo, rm, pln L⟩ : Tre) (L.length - k) k S9 = nodsE (⟨(j : Int), mo, rm, pln L⟩ : Tre) (L.length - (k + 1)) (k + 1) (nodE (⟨(j : Int), mo, rm, pln L⟩ : Tre) k S9).2 := by rw [hst, if_pos (by have hq := h8; omega)]
  iterate 5 refine aS ?_
  try refine oWr ?_
  iterate 2 refine aS ?_
  exact s_backI (k + 1, (nodE (⟨(j : Int), mo, rm, pln L⟩ : Tre) k S9).2) (by (try simp only []); omega) ⟨by (try simp only []); omega, by simp only []; rw [hk3, hz3]⟩ aSx (fun w h => h.ent aEt)
 try simp only [decide_eq_false_iff_not] at h7
 have hnd : (nodsE (⟨(j : Int), mo, rm, pln L⟩ : Tre) L.length 0 []) = (0, 0) := by rw [hk3, show L.length - k = 0 by omega]; rfl
 rw [hnd, if_pos rfl] at hz
 have hT : TOk (j : Int) (pln L) := tok_of (t := (⟨(j : Int), mo, rm, pln L⟩ : Tre)) (by show (nodsE (⟨(j : Int), mo, rm, pln L⟩ : Tre) (pln L).length 0 []).2 = 0; rw [pln_len, hnd])
 have hvis : vis (pln L) L.length root0 = visT (pln L) := by unfold visT; rw [pln_len]
 refine s_exit_to rfl ?_
 iterate 5 refine aS ?_
 refine o_h (h_make (n := L.length) rfl rfl rfl sl_140 zr_4 (by omega) (by omega)) rfl (fun b9 _ => ?_)
 refine o_class (fun w h => (show HS _ _ [.blk b9 4 L.length (seenV L.length []), .blk b1 24 4 [.int .i64 (j : Int), .int .i64 mo, .int .i64 rm, .slice a L.length cap]] w from by have h9 := h; rw [Nat.mul_one, seen_nil] at h9; exact h9.ent aEt)) ?_
 iterate 6 refine aS ?_
 refine o_h (h_callF (Cs := [.blk b9 4 L.length (seenV L.length [])]) rfl fn_86 rfl aPs (fun w1 h1 hf => c86 j mo rm a cap L b9 L.length L.length L.length w1 [] root0 [] hf ((hs.keep h1).mono (fps_pick aPs)) hT hB h00 rfl (by simp))) rfl (fun _ _ => ?_)
 iterate 7 refine aS ?_
 refine s_weaken (L' := [(1, _), (6, _), (7, _), (9, _), (10, _)]) aSx (fun _ h => h) ?_
 refine s_loopI (α := Nat) [2, 3, 10, 61, 62, 63, 64, 65, 66, 67, 68, 69, 70, 71, 72, 73, 74, 75, 76, 77, 78, 79, 80, 81] (fun k => [(10, .int .i64 (k : Int))]) (fun _ => HS w [] [.blk b9 4 L.length (seenV L.length (mkS (vis (pln L) L.length root0) [])), .blk b1 24 4 [.int .i64 (j : Int), .int .i64 mo, .int .i64 rm, .slice a L.length cap]]) (fun k => k ≤ L.length ∧ opnF (pln L) ((visT (pln L)).map Vis.i) L.length 0 = opnF (pln L) ((visT (pln L)).map Vis.i) (L.length - k) k) (fun k => L.length - k) 0 ⟨Nat.zero_le _, rfl⟩ aSx (fun w h => h.ent aEt) (fun k hx => ?_)
 obtain ⟨hk1, hk2⟩ := hx
 iterate 9 refine aS ?_
 refine s_cond rfl (fun h10 => ?_) fun h10 => ?_
 ·try simp only [decide_eq_true_eq] at h10
  have hkl9 : k < L.length := by omega
  have hst := opnF_step (ns := pln L) (below := ((visT (pln L)).map Vis.i)) (k := k) (by rw [pln_len]; exact hkl9)
  rw [pln_len, pln_nth hkl9] at hst
  iterate 8 refine aS ?_
  refine o_p (p_indexAddr rfl rfl rfl sl_22 (k) (by omega) (by omega) (Rw.some hs.1 (by omega))) rfl ?_
  refine aS ?_
  refine o_q (q_load_old rfl rfl sz_4 ((hs.1.rdj 0 hkl9 rfl))) rfl ?_
  refine aS ?_
  refine o_and 6 74 80 _ _ rfl
   (by
    intro hg11
    have hs12 := hg11; skip
    refine oOn 74 hg11 ?_
    refine aS ?_
    refine oOn 74 hg11 ?_
    refine aS ?_
    refine oOn 74 hg11 ?_
    refine o_p (p_indexAddr rfl rfl rfl sl_140 (k) (by omega) (by omega) rfl) rfl ?_
    refine o_slot (show _ = Value.pointer (some ⟨b9, k, none⟩) from by rw [Nat.zero_add, Nat.mul_one]) ?_
    refine oOn 74 hg11 ?_
    refine o_q (q_load_at rfl rfl sz_4 (fun w h => h.rd_blk (Mc := []) aPk (seen_get hkl9) (by simp))) rfl ?_
    refine oOn 74 hg11 ?_
    refine aS ?_
    refine o_p (p_pickt rfl rfl hg11 rfl) rfl ?_
    refine aS ?_
    exact oJn 6 80)
   (by
    intro hg13
    have hs14 := hg13; skip
    refine oOf 74 hg13 ?_
    refine oOf 74 hg13 ?_
    refine oOf 74 hg13 ?_
    refine oOf 74 hg13 ?_
    refine oOf 74 hg13 ?_
    refine o_p (p_pickf rfl rfl hg13 rfl) rfl ?_
    refine aS ?_
    exact oJn 6 80) ?_
  refine aS ?_
  refine s_cond rfl (fun h15 => ?_) fun h15 => ?_
  ·try simp only [Bool.and_eq_true, Bool.not_eq_true', decide_eq_false_iff_not] at h15
   have hz7 : (nth L k).pl.us = true ∧ k ∉ ((visT (pln L)).map Vis.i) := by have hq := h15; rw [← open_mem, ← hvis]; simp only [LNd.pl]; simpa using hq
   have hz8 := hz.trans (shapE_some (t := (⟨(j : Int), mo, rm, pln L⟩ : Tre)) (i := k) (show opnF (pln L) _ (pln L).length 0 = some k from by rw [pln_len, hk2, hst, if_pos hz7]))
   iterate 6 refine aS ?_
   exact s_retv (rs := [.tmp 2, .tmp 3]) rfl (.tmp rfl (.tmp rfl (.nil))) (fun w' h' => ⟨by rw [hz8]; rfl, h'.below⟩)
  try simp only [Bool.and_eq_false_iff, Bool.not_eq_false', decide_eq_true_eq] at h15
  have hz7 : ¬ ((nth L k).pl.us = true ∧ k ∉ ((visT (pln L)).map Vis.i)) := by have hq := h15; rw [← open_mem, ← hvis]; simp only [LNd.pl]; intro h9; exact hq.elim (fun h8 => by rw [h8] at h9; cases h9.1) (fun h8 => h9.2 h8)
  iterate 5 refine aS ?_
  try refine oWr ?_
  iterate 2 refine aS ?_
  exact s_backI (k + 1) (by omega) ⟨by omega, by rw [hk2, hst, if_neg hz7]⟩ aSx (fun w h => h.ent aEt)
 try simp only [decide_eq_false_iff_not] at h10
 have hnone : opnF (pln L) ((visT (pln L)).map Vis.i) L.length 0 = none := by rw [hk2, show L.length - k = 0 by omega]; rfl
 have hz8 := hz.trans (shapE_none (t := (⟨(j : Int), mo, rm, pln L⟩ : Tre)) (show opnF (pln L) _ (pln L).length 0 = none from by rw [pln_len]; exact hnone))
 refine s_exit_to rfl ?_
 iterate 10 refine aS ?_
 refine s_loopI (α := Nat × Nat × List Nat) [11, 12, 82, 83, 84, 85, 86, 87, 88, 89, 90, 91, 92, 93, 94, 95, 96, 97, 98, 99] (fun y => [(11, .int .i64 (y.1 : Int)), (12, .int .i64 (y.2.1 : Int))]) (fun _ => HS w [] [.blk b1 24 4 [.int .i64 (j : Int), .int .i64 mo, .int .i64 rm, .slice a L.length cap]]) (fun y => Gx.Way (pln L) (y.2.1 :: y.2.2) ∧ y.2.2.length = y.1 ∧ deepT (pln L) L.length 0 = (y.1 : Int) + deepT (pln L) (L.length - y.1) y.2.1) (fun y => L.length - y.1) (0, 0, []) ⟨rfl, rfl, by simp⟩ aSx (fun w h => h.ent aEt) (fun ⟨d, i, P⟩ hx => ?_)
 dsimp only
 obtain ⟨hway, hpl, hdp⟩ := hx
 simp only [] at hway hpl hdp
 have hil0 := way_lt hT (by rw [pln_len]; exact h00) hway i (List.mem_cons_self ..)
 have hil : i < L.length := by rw [pln_len] at hil0; exact hil0
 have hnI := pln_nth hil
 have hwl := way_len hT (by rw [pln_len]; exact h00) hway
 rw [pln_len, List.length_cons] at hwl
 have hcl := hcs9 i hil
 iterate 6 refine aS ?_
 refine o_p (p_indexAddr rfl rfl rfl sl_22 (i) (by omega) (by omega) (Rw.some hs.1 (by omega))) rfl ?_
 refine aS ?_
 refine o_q (q_load_old rfl rfl sz_30 ((hs.1.rdj 2 hil rfl))) rfl ?_
 iterate 3 refine aS ?_
 refine s_cond rfl (fun h16 => ?_) fun h16 => ?_
 ·try simp only [decide_eq_true_eq] at h16
  have hcl0 : 0 < (nth L i).cs.length := by have hq := h16; omega
  have hkid := kid_in hT (by rw [pln_len]; exact hil) (i := i) (k := 0) (by rw [hnI]; exact hcl0)
  rw [hnI, pln_len] at hkid
  simp only [LNd.pl] at hkid
  have hway2 := way_kid hway (by rw [pln_len]; exact hil) (k := 0) (by rw [hnI]; exact hcl0) (by rw [hnI]; simp only [LNd.pl]; omega)
  rw [hnI] at hway2
  have hwl2 := way_len hT (by rw [pln_len]; exact h00) hway2
  rw [pln_len, List.length_cons, List.length_cons] at hwl2
  have hdm := deep_more (ns := pln L) (f := L.length - d) (i := i) (by omega) (by rw [hnI]; show ¬ (nth L i).cs.length = 0; omega)
  rw [hnI] at hdm
  iterate 7 refine aS ?_
  refine o_p (p_indexAddr rfl rfl rfl sl_22 (i) (by omega) (by omega) (Rw.some hs.1 (by omega))) rfl ?_
  refine aS ?_
  refine o_q (q_load_old rfl rfl sz_30 ((hs.1.rdj 2 hil rfl))) rfl ?_
  refine o_p (p_indexAddr rfl rfl rfl sl_30 (0) (by omega) (by omega) (Rw.some (hs.cs hil) (by omega))) rfl ?_
  refine o_q (q_load_old rfl rfl sz_3 (((hs.cs hil).rdj 0 (i := 0) (by omega) rfl))) rfl ?_
  refine o_slot (show _ = Value.int .i64 (((nth L i).cs.getD 0 0).toNat : Int) from congrArg (Value.int .i64) (Int.toNat_of_nonneg (show 0 ≤ (nth L i).cs.getD 0 0 by omega)).symm) ?_
  iterate 6 refine aS ?_
  try refine oWr ?_
  iterate 2 refine aS ?_
  exact s_backI (d + 1, ((nth L i).cs.getD 0 0).toNat, i :: P) (by (try simp only []); omega) ⟨hway2, by simp [hpl], by simp only [] at *; rw [show L.length - (d + 1) = L.length - d - 1 by omega]; have h9 : (nth L i).pl.cs = (nth L i).cs := rfl; rw [h9] at hdm; omega⟩ aSx (fun w h => h.ent aEt)
 try simp only [decide_eq_false_iff_not] at h16
 have hde := deep_end (ns := pln L) (f := L.length - d) (i := i) (by rw [hnI]; show (nth L i).cs.length = 0; have hq := h16; omega)
 rw [hde, Int.add_zero] at hdp
 have hdl := deepT_le (pln L) L.length 0
 refine s_exit_to rfl ?_
 iterate 4 refine aS ?_
 refine o_q (q_call rfl fn_87 rfl (fun w1 h1 => c87 j mo rm a cap L (d : Int) L.length w1 root0 [] (d : Int) none none 0 0 0 0 (hs.later h1) hj (by omega) hT hB h00 rfl rfl (by show (d : Int) = d + 1 - 1; omega) (fun _ h => by cases h) (fun _ h => by cases h) rfl rfl (by simp))) rfl ?_
 iterate 5 refine aS ?_
 exact s_retv (rs := [.tmp 2, .tmp 3]) rfl (.tmp rfl (.tmp rfl (.nil))) (fun w' h' => ⟨by rw [hz8, show deepT ((⟨(j : Int), mo, rm, pln L⟩ : Tre)).ns ((⟨(j : Int), mo, rm, pln L⟩ : Tre)).ns.length 0 = (d : Int) from by rw [hTL]; exact hdp, show visT ((⟨(j : Int), mo, rm, pln L⟩ : Tre)).ns = vis (pln L) L.length root0 from hvis.symm]; rfl, h'.below⟩)
theorem c18 (w : World) (co mo rm : Int) (a : Option Addr) (cap : Nat) (L : List LNd) (hs : Nt w [] a L) (hB : Bd (pln L)) (hkl : ∀ i, i < L.length → ∀ x ∈ (nth L i).es, x.key.length ≤ 1000000) : Calls Tryz.prog 18 #[.agg #[.int .i64 co, .int .i64 mo, .int .i64 rm, .slice a L.length cap]] w fun en w' => en = .returned (.int .i64 (treE (⟨co, mo, rm, pln L⟩ : Tre)).2) ∧ Below w.heap.size w w' := by
 refine enter (args := [_]) Tryz.func18 Tryz.ntmps18 rfl rfl (HS.refl w []) ?_
 iterate 2 refine aS ?_
 refine oBx fun b1 _ => ?_
 iterate 5 refine aS ?_
 refine o_q (q_call rfl fn_41 rfl (fun w1 h1 => c41 w1 co mo rm a cap L (hs.later h1) hB hkl)) rfl ?_
 iterate 11 refine aS ?_
 exact s_retv (rs := [.tmp 2]) rfl (.tmp rfl (.nil)) (fun w' h' => ⟨by rfl, h'.below⟩)
end Go.Proofs
namespace Gx
set_option linter.unusedSimpArgs false
set_option linter.unusedVariables false
set_option linter.unusedSectionVars false
open Go Go.RowKit
def tslimB (x : TEnt) : Bool := decide (x.key.length ≤ 44 ∧ x.val.length ≤ 70)
def tshortB (es : List TEnt) : Bool := es.all tslimB
def tfewN (n : Nd) : Bool := decide (n.es.length ≤ 10 ∧ n.cs.length ≤ 11) && tshortB n.es
def tfewB (ns : List Nd) : Bool := decide (ns.length ≤ 122 ∧ ¬ (60 < ns.length ∧ ns.length ≤ 120)) && ns.all tfewN
theorem last_cons {i : Nat} {P : List Nat} (h : 0 < P.length) : lastN (i :: P) = lastN P := by
  cases P with
  | nil => exact absurd h (Nat.lt_irrefl _)
  | cons p P =>
    unfold lastN
    rw [show (i :: p :: P).length - 1 = (p :: P).length - 1 + 1 by simp]
    rfl
theorem pth_end {co : Int} {ns : List Nd} (hT : TOk co ns) (h0 : 0 < ns.length) (key : List UInt8) : ∀ (f i : Nat) (P : List Nat), Way ns (i :: P) → P.length + f = ns.length → 0 < (pthN co ns key f i).1.length ∧ (pthN co ns key f i).1.length ≤ f ∧ lastN (pthN co ns key f i).1 < ns.length ∧ (pthN co ns key f i).2.1 = plc co (nth ns (lastN (pthN co ns key f i).1)).es key ∧ (pthN co ns key f i).2.2 = fnd co (nth ns (lastN (pthN co ns key f i).1)).es key
  | 0, i, P, hw, hf => by
    have := way_len hT h0 hw
    rw [List.length_cons] at this
    omega
  | f + 1, i, P, hw, hf => by
    by_cases h : fnd co (nth ns i).es key = true ∨ (nth ns i).cs.length = 0
    · rw [pthN, if_pos h]
      exact ⟨Nat.one_pos, Nat.le_add_left 1 f, way_lt hT h0 hw i (List.mem_cons_self ..), rfl, rfl⟩
    · rw [pthN, if_neg h]
      have hi := way_lt hT h0 hw i (List.mem_cons_self ..)
      have hc : (nth ns i).cs.length = (nth ns i).es.length + 1 := by
        rcases hT.shape i hi with h9 | h9
        · exact absurd (.inr h9) h
        · exact h9
      have hk : plc co (nth ns i).es key < (nth ns i).cs.length := by
        have := plc_le co key (nth ns i).es
        omega
      have hkid := kid_in hT hi hk
      have ih := pth_end hT h0 key f ((nth ns i).cs.getD (plc co (nth ns i).es key) 0).toNat (i :: P) (way_kid hw hi hk (by omega)) (by rw [List.length_cons]; omega)
      simp only []
      rw [last_cons ih.1]
      exact ⟨by rw [List.length_cons]; omega, by rw [List.length_cons]; omega, ih.2.2⟩
theorem path_end {co : Int} {ns : List Nd} (hT : TOk co ns) (h0 : 0 < ns.length) (key : List UInt8) : 0 < (pathN co ns key).1.length ∧ (pathN co ns key).1.length ≤ ns.length ∧ lastN (pathN co ns key).1 < ns.length ∧ (pathN co ns key).2.1 = plc co (nth ns (lastN (pathN co ns key).1)).es key ∧ (pathN co ns key).2.2 = fnd co (nth ns (lastN (pathN co ns key).1)).es key := pth_end hT h0 key ns.length 0 [] rfl (by simp)
theorem fnd_lt {co : Int} {es : List TEnt} {key : List UInt8} (h : fnd co es key = true) : plc co es key < es.length := by
  rw [fnd, Bool.and_eq_true, decide_eq_true_eq] at h
  exact h.1
def entN (co : Int) (ns : List Nd) (key : List UInt8) : TEnt := nth (nth ns (lastN (pathN co ns key).1)).es (pathN co ns key).2.1
def repN (co : Int) (ns : List Nd) (x : TEnt) : List Nd := esN ns (lastN (pathN co ns x.key).1) ((nth ns (lastN (pathN co ns x.key).1)).es.set (pathN co ns x.key).2.1 x)
theorem nth_set9 {α : Type} [Inhabited α] (l : List α) (i k : Nat) (y : α) : nth (l.set i y) k = if i = k ∧ k < l.length then y else nth l k := by
  simp only [nth, List.getD_eq_getElem?_getD, List.getElem?_set]
  by_cases e : i = k
  · subst e
    by_cases hk : i < l.length
    · rw [if_pos rfl, if_pos hk, if_pos ⟨rfl, hk⟩]
      rfl
    · rw [if_pos rfl, if_neg hk, if_neg (fun h => hk h.2), List.getElem?_eq_none (by omega)]
  · rw [if_neg e, if_neg (fun h => e h.1)]
theorem repN_ln {co : Int} {ns : List Nd} {x : TEnt} : (repN co ns x).length = ns.length := by simp [repN, esN]
def GrU (m : Nat) (ns : List Nd) : Prop := ns.length ≤ m ∨ AllU ns
section
variable {ns : List Nd} {m : Nat}
theorem GrU.es (h : GrU m ns) (i : Nat) (es : List TEnt) : GrU m (esN ns i es) := h.imp (fun h => by rw [esN_len]; exact h) fun h => h.es i es
theorem GrU.cs (h : GrU m ns) (i : Nat) (cs : List Int) : GrU m (csN ns i cs) := h.imp (fun h => by rw [csN_len]; exact h) fun h => h.cs i cs
theorem ixFree_all (h : ¬ ixFree ns < ns.length) : AllU ns := fun i hi => by
  cases hu : (nth ns i).us with
  | true => rfl
  | false =>
    exfalso
    refine h ?_
    have h1 := ixB_le (ns.map fun n => !n.us)
    rw [List.length_map] at h1
    unfold ixFree
    rcases Nat.lt_or_ge (ixB (ns.map fun n => !n.us)) ns.length with h2 | h2
    · exact h2
    · exfalso
      have h3 := ixB_false (l := ns.map fun n => !n.us) (i := i) (by omega)
      rw [List.getD_eq_getElem?_getD, List.getElem?_map, nth_get hi] at h3
      simp [hu] at h3
theorem GrU.fre (h : GrU m ns) : GrU m (freN ns).2 := by
  by_cases h1 : ixFree ns < ns.length
  · rcases h with h | h
    · refine .inl ?_
      unfold freN
      rw [if_pos h1]
      show (usN ns (ixFree ns) true).length ≤ m
      rw [usN_len]
      exact h
    · exact .inr h.fre
  · exact .inr (ixFree_all h1).fre
theorem GrU.spl (h : GrU m ns) (mo : Int) (i : Nat) : GrU m (splN mo ns i) := by
  unfold splN addP
  refine GrU.cs (GrU.es ?_ _ _) _ _
  unfold splA
  split
  · exact (h.fre.es _ _).es _ _
  · exact (((h.fre.es _ _).es _ _).cs _ _).cs _ _
theorem GrU.low (h : GrU m ns) : GrU m (lowN ns).2 := by
  unfold lowN
  exact (((h.fre.es _ _).cs _ _).es _ _).cs _ _
theorem GrU.grw (h : GrU m ns) (mo : Int) (P : List Nat) : GrU m (grwW mo ns P) := by
  unfold grwW
  induction P generalizing ns with
  | nil => exact h
  | cons i P ih =>
    rw [List.foldl_cons]
    refine ih ?_
    unfold grw1
    split
    · exact h.spl _ _
    · exact h
theorem GrU.ins (h : GrU m ns) (co mo rm : Int) (x : TEnt) : GrU m (insT co mo rm ns x) := by
  unfold insT
  split
  · exact h
  · unfold grwN
    have h1 := (h.es (leafN co ns x.key) (insAt (nth ns (leafN co ns x.key)).es (pathN co ns x.key).2.1 x)).grw mo (pathN co ns x.key).1.reverse
    unfold grwR
    split
    · split
      · exact h1.low.spl _ _
      · exact h1.low
    · exact h1
end
structure Sv (co mo rm : Int) (m : Nat) (ns : List Nd) (fl : List TEnt) : Prop where
  tree : ∃ T d, RepT ns T ∧ VT co (mo.toNat / 2) mo.toNat rm.toNat d T ∧ T.flat = fl
  last : LastU ns
  len : ns.length ≤ m
section
variable {co mo rm : Int} {m : Nat} {ns : List Nd} {fl : List TEnt} {x : TEnt} {key : List UInt8}
theorem Sv.pos (h : Sv co mo rm m ns fl) : 0 < ns.length := by
  obtain ⟨T, d, hR, _⟩ := h.tree
  have := hR.root
  omega
theorem Sv.has (h : Sv co mo rm m ns fl) (key : List UInt8) : (pathN co ns key).2.2 = true ↔ fnd co fl key = true := by
  obtain ⟨T, d, hR, hV, rfl⟩ := h.tree
  exact (path_has hR hV key).trans (hasK_fnd hV.srt)
theorem Sv.tre (h : Sv co mo rm m ns fl) (hc : colE12 co = 0) (hs : sizE mo rm = 0) (hm : m ≤ 120) : (treE ⟨co, mo, rm, ns⟩).2 = 0 := by
  obtain ⟨T, d, hR, hV, _⟩ := h.tree
  exact vt_tre (t := ⟨co, mo, rm, ns⟩) hc hs (sz_of hs) hR hV h.last (Nat.le_trans h.len hm)
theorem Sv.ins (hs : sizE mo rm = 0) (h : Sv co mo rm m ns fl) (hm : m ≤ 400) (hfl : fl.length + 2 ≤ m) (hx : entE co x = 0) (hnf : ¬ (pathN co ns x.key).2.2 = true) : InsOk co mo rm ns x ∧ Sv co mo rm m (insT co mo rm ns x) (insAt fl (plc co fl x.key) x) := by
  obtain ⟨T, d, hR, hV, rfl⟩ := h.tree
  have hz := sz_of hs
  have hI := ins_all hz hR hV (Nat.le_trans h.len hm) h.last hx hnf
  obtain ⟨T2, d2, hR2, hV2, hf2⟩ := hI.tree
  refine ⟨hI.ok, ⟨T2, d2, hR2, hV2, hf2⟩, hI.last, ?_⟩
  rcases GrU.ins (m := m) (.inl h.len) co mo rm x with h1 | h1
  · exact h1
  · have h2 := h1.len hR2
    have h3 := bel_nodes (by have := hz.elo; have := hz.hi3; omega) hV2.bel
    rw [hf2, ins_len (plc_le _ _ _)] at h3
    omega
theorem Sv.rem (hs : sizE mo rm = 0) (h : Sv co mo rm m ns fl) (hm : m ≤ 400) (hf : (pathN co ns key).2.2 = true) : RemOk mo rm ns (pathN co ns key).1 (pathN co ns key).2.1 ∧ Sv co mo rm m (remN mo rm ns (pathN co ns key).1 (pathN co ns key).2.1) (others fl (plc co fl key)) := by
  obtain ⟨T, d, hR, hV, rfl⟩ := h.tree
  have hI := rem_all (sz_of hs) hR hV (Nat.le_trans h.len hm) hf
  exact ⟨hI.ok, hI.tree, hI.last, Nat.le_trans hI.len h.len⟩
end
section
variable {co mo rm : Int} {m q : Nat} {ns : List Nd} {fl es : List TEnt} {ks : List BT} {x e : TEnt} {key : List UInt8}
theorem cmpK_l {a b c : List UInt8} (h : cmpK co a b = 0) : cmpK co a c = cmpK co b c := by rw [cmpK_img, cmpK_img, cmpK_eq.1 h]
theorem cmpK_r {a b c : List UInt8} (h : cmpK co a b = 0) : cmpK co c a = cmpK co c b := by rw [cmpK_img, cmpK_img, cmpK_eq.1 h]
theorem preK_set : ∀ {k : Nat}, k ≤ q → preK (es.set q x) ks k = preK es ks k
  | 0, _ => rfl
  | k + 1, h => by
    rw [preK_succ, preK_succ, midK, midK, preK_set (by omega), List.length_set]
    by_cases h1 : k < es.length
    · rw [if_pos h1, if_pos h1, nth_set9, show (if q = k ∧ k < es.length then x else nth es k) = nth es k from if_neg fun h9 => by omega]
    · rw [if_neg h1, if_neg h1]
theorem flat_at (h : ks = [] ∨ ks.length = es.length + 1) (hq : q < es.length) (x : TEnt) : ∃ A B, flatL es ks = A ++ nth es q :: B ∧ flatL (es.set q x) ks = A ++ x :: B := by
  rcases h with h | h
  · subst h
    rw [flatL_nil, flatL_nil]
    refine ⟨es.take q, es.drop (q + 1), ?_, ?_⟩
    · rw [← drop_nth hq, List.take_append_drop]
    · rw [List.set_eq_take_append_cons_drop, if_pos hq]
  · have hl : (es.set q x).length = es.length := List.length_set
    have h1 := preK_rest (es := es) (ks := ks) h (k := q + 1) (by omega)
    have h2 := preK_rest (es := es.set q x) (ks := ks) (by rw [hl]; exact h) (k := q + 1) (by rw [hl]; omega)
    rw [preK_one hq] at h1
    rw [preK_one (by rw [hl]; exact hq), midK, preK_set (Nat.le_refl q), nth_set9, show (if q = q ∧ q < es.length then x else nth es q) = x from if_pos ⟨rfl, hq⟩, List.drop_set_of_lt (by omega)] at h2
    rw [← h1, ← h2]
    exact ⟨midK es ks q, flatL (es.drop (q + 1)) (ks.drop (q + 1)), by simp, by simp [midK]⟩
theorem plc_mid {P R : List TEnt} (hs : Srt co (P ++ e :: R)) (he : cmpK co e.key key = 0) : plc co (P ++ e :: R) key = P.length := by
  have h1 := (List.pairwise_append.1 hs).2.2
  rw [plc_app1 (fun y hy => by rw [← cmpK_r he]; exact h1 y hy e (List.mem_cons_self ..)), plc, if_neg (by omega)]
  rfl
theorem srt_rep {P R : List TEnt} (hs : Srt co (P ++ e :: R)) (he : cmpK co e.key x.key = 0) : Srt co (P ++ x :: R) := by
  have h1 := List.pairwise_append.1 hs
  have h2 := List.pairwise_cons.1 h1.2.1
  refine List.pairwise_append.2 ⟨h1.1, List.pairwise_cons.2 ⟨fun y hy => by rw [← cmpK_l he]; exact h2.1 y hy, h2.2⟩, fun a ha b hb => ?_⟩
  rcases List.mem_cons.1 hb with rfl | hb
  · rw [← cmpK_r he]
    exact h1.2.2 a ha e (List.mem_cons_self ..)
  · exact h1.2.2 a ha b (List.mem_cons_of_mem _ hb)
theorem Sv.rep (hs : sizE mo rm = 0) (h : Sv co mo rm m ns fl) (hx : entE co x = 0) (hf : (pathN co ns x.key).2.2 = true) : Sv co mo rm m (repN co ns x) (fl.set (plc co fl x.key) x) := by
  obtain ⟨T, d, hR, hV, rfl⟩ := h.tree
  obtain ⟨D, T', d', e1, e2, e3, e4, e5, e6, e7, e8, e9, e10⟩ := vt_desc hR hV x.key
  cases T' with
  | nd i es ks =>
    subst e1
    have hat := hR.at_
    have hlast : lastN (pathN co ns x.key).1 = i := by rw [e7]; exact last_app _ _
    have hfd : fnd co es x.key = true := by rw [e8] at hf; exact hf
    have hq0 := hfd
    unfold fnd at hq0
    rw [Bool.and_eq_true, decide_eq_true_eq, decide_eq_true_eq] at hq0
    have hq := hq0.1
    have hrep : repN co ns x = esN ns i (es.set (plc co es x.key) x) := by
      unfold repN
      rw [hlast, e8, show nth ns i = ⟨true, es, idxs ks⟩ from hat.2]
      rfl
    have hsh : ks = [] ∨ ks.length = es.length + 1 := e3.cs
    obtain ⟨A, B, f1, f2⟩ := flat_at (ks := ks) hsh hq x
    have hfl : (plug D (.nd i es ks)).flat = (preC D ++ A) ++ nth es (plc co es x.key) :: (B ++ sufC D) := by
      rw [plug_flat e2, BT.flat, f1]
      simp
    have hfl2 : (plug D (.nd i (es.set (plc co es x.key) x) ks)).flat = (preC D ++ A) ++ x :: (B ++ sufC D) := by
      rw [plug_flat e2, BT.flat, f2]
      simp
    have hsrt := hV.srt
    rw [hfl] at hsrt
    have hpl := plc_mid hsrt hq0.2
    have hes : (plug D (.nd i (es.set (plc co es x.key) x) ks)).flat = (plug D (.nd i es ks)).flat.set (plc co (plug D (.nd i es ks)).flat x.key) x := by
      rw [hfl, hpl, hfl2]
      simp
    have hln : (es.set (plc co es x.key) x).length = es.length := List.length_set
    refine ⟨⟨plug D (.nd i (es.set (plc co es x.key) x) ks), d, ?_, ⟨?_, ?_, ?_, ?_, ?_, fun y hy => ?_⟩, hes⟩, ?_, ?_⟩
    · rw [hrep]
      exact rep_es hR _
    · rw [plug_idx D (.nd i (es.set (plc co es x.key) x) ks) (.nd i es ks) rfl]
      exact hV.idx
    · rw [← e5]
      refine plug_bel e2 ?_ fun hD => ?_
      · cases d' with
        | zero => exact e3
        | succ d' => exact ⟨by show ks.length = (es.set _ x).length + 1; rw [hln]; exact e3.1, e3.2⟩
      · show _ ≤ (es.set _ x).length ∧ (es.set _ x).length ≤ _
        rw [hln]
        exact e4.2 hD
    · by_cases hD : D = []
      · subst hD
        show (es.set _ x).length ≤ _
        rw [hln]
        exact e4.1 rfl
      · exact plug_root _ e2 hD
    · refine nogap_plug e2 (T := .nd i es ks) (by show es.length = (es.set _ x).length; rw [hln]) (fun hD => ?_) hV.gap
      subst hD
      intro h9
      have h8 : (es.set (plc co es x.key) x).length = 0 := by rw [show es.set (plc co es x.key) x = [] from h9]; rfl
      omega
    · rw [hfl2]
      exact srt_rep hsrt hq0.2
    · rw [hfl2] at hy
      have hen := hV.ents
      rw [hfl] at hen
      rcases List.mem_append.1 hy with hy | hy
      · exact hen y (List.mem_append_left _ hy)
      · rcases List.mem_cons.1 hy with rfl | hy
        · exact hx
        · exact hen y (List.mem_append_right _ (List.mem_cons_of_mem _ hy))
    · rw [hrep]
      exact h.last.es _ _
    · rw [repN_ln]
      exact h.len
end
theorem flatL_mul {c : Nat} : ∀ {es : List TEnt} {ks : List BT}, ks.length = es.length + 1 → (∀ k ∈ ks, c ≤ k.flat.length + 1) → ks.length * c ≤ (flatL es ks).length + 1
  | [], [], h, _ => by simp at h
  | [], k :: k' :: ks, h, _ => by simp at h
  | [], [k], _, hk => by
    have := hk k (List.mem_cons_self ..)
    rw [flatL, flatL, List.append_nil]
    simpa using this
  | e :: es, [], h, _ => by simp at h
  | e :: es, k :: ks, h, hk => by
    have h1 := hk k (List.mem_cons_self ..)
    have h2 := flatL_mul (es := es) (ks := ks) (by simpa using h) fun q hq => hk q (List.mem_cons_of_mem _ hq)
    rw [flatL, List.length_append, List.length_cons, List.length_cons, Nat.succ_mul]
    omega
theorem bal_pow {lo hi : Nat} : ∀ {d : Nat} {T : BT}, Bal lo hi d T → (lo + 1) ^ (d + 1) ≤ T.flat.length + 1
  | 0, .nd i es ks, h => by
    have hk : ks = [] := h.1
    have h1 : lo ≤ es.length := h.2.1
    rw [hk, BT.flat, flatL_nil]
    simp only [Nat.zero_add, Nat.pow_one]
    omega
  | d + 1, .nd i es ks, h => by
    have h1 : lo ≤ es.length := h.2.1
    have h2 : ks.length = es.length + 1 := h.1.1
    have h3 := flatL_mul (c := (lo + 1) ^ (d + 1)) h2 fun k hk => bal_pow (h.1.2 k hk)
    rw [BT.flat, Nat.pow_succ, Nat.mul_comm]
    exact Nat.le_trans (Nat.mul_le_mul_right _ (by omega)) h3
theorem bel_pow {lo hi d : Nat} {T : BT} (h : Bel lo hi d T) : (lo + 1) ^ d ≤ T.flat.length + 1 := by
  cases d with
  | zero => simp
  | succ d =>
    cases T with
    | nd i es ks =>
      have h2 : ks.length = es.length + 1 := h.1
      have h3 := flatL_mul (c := (lo + 1) ^ (d + 1)) h2 fun k hk => bal_pow (h.2 k hk)
      rw [BT.flat]
      refine Nat.le_trans ?_ h3
      rw [h2]
      exact Nat.le_mul_of_pos_left _ (Nat.succ_pos _)
theorem pow_le_d {lo d k : Nat} (h : k ≤ d) : (lo + 1) ^ k ≤ (lo + 1) ^ d := Nat.pow_le_pow_right (Nat.succ_pos _) h
theorem Sv.nil {co mo rm : Int} {m : Nat} {ns : List Nd} (hs : sizE mo rm = 0) (h : Sv co mo rm m ns []) : ns = [⟨true, [], []⟩] := by
  obtain ⟨T, d, hR, hV, hf⟩ := h.tree
  have hz := sz_of hs
  have h1 := bel_nodes (by have := hz.elo; have := hz.hi3; omega) hV.bel
  rw [hf] at h1
  have hone : T = .nd 0 [] [] := by
    cases T with
    | nd i es ks =>
      have hi : i = 0 := hV.idx
      rw [BT.nodes] at h1
      have hk : ks = [] := by
        cases ks with
        | nil => rfl
        | cons k ks =>
          rw [nodesL, List.length_cons, List.length_append] at h1
          have := k.idx_mem
          have h9 : 0 < k.nodes.length := by
            cases k with
            | nd a b c =>
              rw [BT.nodes]
              exact Nat.succ_pos _
          simp only [List.length_nil] at h1
          omega
      subst hi hk
      rw [BT.flat, flatL_nil] at hf
      rw [hf]
  subst hone
  have hr := RepT.root hR
  have hl : ns.length = 1 := by
    have hlast := h.last
    have hp := h.pos
    unfold LastU at hlast
    by_cases h9 : ns.length - 1 = 0
    · omega
    · have h8 := RepN.rest hR (ns.length - 1) (by omega) (by
        rw [BT.nodes, nodesL]
        simp only [List.map_cons, List.map_nil, List.mem_singleton]
        exact h9)
      rw [h8] at hlast
      cases hlast
  cases ns with
  | nil => simp at hl
  | cons x xs =>
    have : xs = [] := List.eq_nil_of_length_eq_zero (by simpa using hl)
    subst this
    have h7 : nth [x] 0 = ⟨true, [], []⟩ := hr.2
    rw [← h7]
    rfl
section
variable {co mo rm : Int} {m : Nat} {ns : List Nd} {fl : List TEnt} {x : TEnt} {key : List UInt8}
theorem Sv.tok (h : Sv co mo rm m ns fl) : TOk co ns := by
  obtain ⟨T, d, hR, hV, _⟩ := h.tree
  exact rep_tok hR hV h.last
theorem Sv.bd (hs : sizE mo rm = 0) (h : Sv co mo rm m ns fl) (hm : m ≤ 1000) : Bd ns := by
  obtain ⟨T, d, hR, hV, _⟩ := h.tree
  exact rep_bd (sz_of hs) hR hV (Nat.le_trans h.len hm)
theorem Sv.sm (hs : sizE mo rm = 0) (h : Sv co mo rm m ns fl) : Sm 900 ns := by
  obtain ⟨T, d, hR, hV, _⟩ := h.tree
  have hz := sz_of hs
  exact (hR.sm hV.bel (Nat.le_refl _) (Nat.le_trans hV.root hz.rh)).mono (by have := hz.hi8; omega)
theorem Sv.keys (h : Sv co mo rm m ns fl) : ∀ y ∈ fl, keyOk co y.key = true ∧ y.key.length ≤ 1000000 := fun y hy => by
  obtain ⟨T, d, hR, hV, rfl⟩ := h.tree
  have h1 := entE_key (hV.ents y hy)
  exact ⟨h1, by have := keyOk_len h1; omega⟩
theorem Sv.kl {L : List LNd} (h : Sv co mo rm m (pln L) fl) : ∀ i, i < L.length → ∀ x ∈ (nth L i).es, x.key.length ≤ 1000000 := fun i hi x hx => (tok_key h.tok i (by rw [pln_len]; exact hi) x (by rw [pln_nth hi]; exact hx)).2
theorem Sv.insE (hs : sizE mo rm = 0) (h : Sv co mo rm 60 ns fl) (hfl : fl.length ≤ 50) (hx : entE co x = 0) : Gx.insE co mo rm ns x = if fnd co fl x.key = true then 5 else 0 := by
  unfold Gx.insE
  by_cases hf : (pathN co ns x.key).2.2 = true
  · rw [if_pos hf, if_pos ((h.has x.key).1 hf)]
  · rw [if_neg hf, if_neg (fun h9 => hf ((h.has x.key).2 h9)), if_pos]
    have := (h.ins hs (by decide) (by omega) hx hf).2.len
    omega
theorem Sv.one (hs : sizE mo rm = 0) (hm : 1 ≤ m) : Sv co mo rm m [⟨true, [], []⟩] [] := by
  have h := bld_one (co := co) (sz_of hs)
  obtain ⟨T, d, hR, hV, hf⟩ := h.tree
  exact ⟨⟨T, d, hR, hV, List.eq_nil_of_length_eq_zero hf⟩, h.last, by show 1 ≤ m; exact hm⟩
theorem Sv.deep (hs : sizE mo rm = 0) (h : Sv co mo rm m ns fl) : ∃ d : Nat, deepT ns ns.length 0 = (d : Int) ∧ (mo.toNat / 2 + 1) ^ d ≤ fl.length + 1 ∧ d ≤ m := by
  obtain ⟨T, d, hR, hV, rfl⟩ := h.tree
  have hdl : d < ns.length := Nat.lt_of_lt_of_le (bel_lt hV.bel) hR.nlen
  have h1 := deep_bt hV.bel hR.nin hdl
  rw [hV.idx] at h1
  exact ⟨d, h1, bel_pow hV.bel, by have := h.len; omega⟩
theorem Sv.bt (h : Sv co mo rm m ns fl) : ∃ T d, Bel (mo.toNat / 2) mo.toNat d T ∧ NIn ns T ∧ T.idx = 0 ∧ T.flat = fl := by
  obtain ⟨T, d, hR, hV, hf⟩ := h.tree
  exact ⟨T, d, hV.bel, hR.nin, hV.idx, hf⟩
end
def tzE (E v : Int) : Int := if E = 0 then v else 0
def actV (a : Int × TEnt) : List Value := .int .i64 a.1 :: a.2.vals
theorem act_rd {w : World} {M : List Nat} {a : Option Addr} {l : List (Int × TEnt)} (h : Rw actV 3 w M a l) {i : Nat} (hi : i < l.length) : ∀ q v, (TEnt.vals (nth l i).2)[q]? = some v → Rd w M (ab a) (ao a + i * 3 + 1 + q) v := fun q v hv => by
  have h1 := Rw.rd h hi (q + 1) v hv
  rwa [← Nat.add_assoc, Nat.add_right_comm] at h1
theorem others_len {l : List TEnt} {i : Nat} (h : i < l.length) : (others l i).length + 1 = l.length := by
  unfold others
  rw [List.length_append, List.length_take, List.length_drop]
  omega
end Gx
namespace Go.Proofs
open Go Go.RowKit Gx
set_option linter.unusedVariables false
set_option linter.unusedSimpArgs false
theorem zcells85 : Tryz.prog.cellsOf 85 = 3 := by kernel_rfl
section
variable {W : World} {d : Nat}
theorem act_of {cs : List Value} (h : okT Tryz.prog W d 85 cs) : ∃ x : Int × TEnt, cs = actV x ∧ True := by
  obtain ⟨d2, l, o⟩ := okT_st h Tryz.underlying85
  rw [zcells85] at l
  obtain ⟨x0, x1, x2, rfl⟩ := ln3 l
  simp only [List.mem_cons, List.mem_nil_iff, or_false, forall_eq_or_imp, forall_eq] at o
  rw [zcells3, zcells26] at o
  obtain ⟨n0, rfl⟩ := int_of (x := x0) o.1
  obtain ⟨y, hy, _⟩ := ent_of (cs := [x1, x2]) o.2
  exact ⟨(n0, y), by rw [actV, ← hy], trivial⟩
theorem acts_of {n : Nat} {a : Option Addr} {cell : Nat → List Value} (sl : Sl W [] a 3 n cell) (rows : ∀ i, i < n → okT Tryz.prog W d 85 (cell i)) : ∃ l : List (Int × TEnt), n = l.length ∧ Rw actV 3 W [] a l := by
  obtain ⟨l, h1, h2, _, _⟩ := rw_of (vals := actV) (Q := fun _ => True) sl fun i hi => act_of (rows i hi)
  exact ⟨l, h1, h2⟩
end
end Go.Proofs
namespace Go.Proofs
open Go Go.RowKit Gx
set_option linter.unusedVariables false
set_option linter.unusedSimpArgs false
attribute [local irreducible] Go.Calls Gx.S Gx.O Gx.D Gx.OpP Gx.OpQ Gx.OpH
set_option maxRecDepth 20000
theorem fn_15 : isFn Tryz.prog 15 = true := by kernel_rfl
theorem c15 (w : World) (x : TEnt) : Calls Tryz.prog 15 #[.agg #[.string (bs x.key), .string (bs x.val)]] w fun en w' => en = .returned (.bool (tslimB x)) ∧ Below w.heap.size w w' := by
 refine enter (args := [_]) Tryz.func15 Tryz.ntmps15 rfl rfl (HS.refl w []) ?_
 iterate 2 refine aS ?_
 refine oBx fun b1 _ => ?_
 iterate 6 refine aS ?_
 refine o_p (p_len_str rfl rfl Tryz.underlying9) rfl ?_
 iterate 2 refine aS ?_
 refine o_and 5 7 12 _ _ rfl
  (by
   intro hg2
   have hs3 := hg2; try simp only [decide_eq_true_eq] at hs3
   refine oOn 7 hg2 ?_
   refine aS ?_
   refine oOn 7 hg2 ?_
   refine aS ?_
   refine oOn 7 hg2 ?_
   refine o_p (p_len_str rfl rfl Tryz.underlying9) rfl ?_
   refine oOn 7 hg2 ?_
   refine aS ?_
   refine o_p (p_pickt rfl rfl hg2 rfl) rfl ?_
   refine aS ?_
   exact oJn 5 12)
  (by
   intro hg4
   have hs5 := hg4; try simp only [decide_eq_false_iff_not] at hs5
   refine oOf 7 hg4 ?_
   refine oOf 7 hg4 ?_
   refine oOf 7 hg4 ?_
   refine oOf 7 hg4 ?_
   refine o_p (p_pickf rfl rfl hg4 rfl) rfl ?_
   refine aS ?_
   exact oJn 5 12) ?_
 iterate 2 refine aS ?_
 exact s_retv (rs := [.tmp 2]) rfl (.tmp rfl (.nil)) (fun w' h' => ⟨by simp only [retV, tslimB, Bool.decide_and]; congr 3 <;> exact decide_eq_decide.2 (by omega), h'.below⟩)
theorem fn_18 : isFn Tryz.prog 18 = true := by kernel_rfl
end Go.Proofs
namespace Gx
set_option linter.unusedSimpArgs false
set_option linter.unusedVariables false
set_option linter.unusedSectionVars false
open Go Go.RowKit
def shA (ns : List Nd) : Nat → Int × Int × Int
  | 0 => (0, 0, 0)
  | k + 1 => if (nth ns k).us = true then ((shA ns k).1 + 1, (shA ns k).2.1 + ((nth ns k).es.length : Int), (shA ns k).2.2) else ((shA ns k).1, (shA ns k).2.1, (shA ns k).2.2 + 1)
theorem shA_t {ns : List Nd} {k : Nat} {n : Nd} (hn : nth ns k = n) (h : n.us = true) : shA ns (k + 1) = ((shA ns k).1 + 1, (shA ns k).2.1 + (n.es.length : Int), (shA ns k).2.2) := by
  subst hn
  rw [shA, if_pos h]
theorem shA_f {ns : List Nd} {k : Nat} {n : Nd} (hn : nth ns k = n) (h : ¬ n.us = true) : shA ns (k + 1) = ((shA ns k).1, (shA ns k).2.1, (shA ns k).2.2 + 1) := by
  subst hn
  rw [shA, if_neg h]
theorem shA_le {ns : List Nd} (hB : Bd ns) : ∀ k, k ≤ ns.length → (0 ≤ (shA ns k).1 ∧ (shA ns k).1 ≤ k) ∧ (0 ≤ (shA ns k).2.1 ∧ (shA ns k).2.1 ≤ 1000 * (k : Int)) ∧ (0 ≤ (shA ns k).2.2 ∧ (shA ns k).2.2 ≤ k)
  | 0, _ => by simp [shA]
  | k + 1, hk => by
    have ih := shA_le hB k (by omega)
    have he := hB.es k (by omega)
    rw [shA]
    split
    · simp only []
      omega
    · simp only []
      omega
def shpV (ns : List Nd) : List Value := [.int .i64 (deepT ns ns.length 0 + 1), .int .i64 (shA ns ns.length).1, .int .i64 (shA ns ns.length).2.1, .int .i64 (shA ns ns.length).2.2]
end Gx
namespace Go.Proofs
open Go Go.RowKit Gx
set_option linter.unusedVariables false
set_option linter.unusedSimpArgs false
attribute [local irreducible] Go.Calls Gx.S Gx.O Gx.D Gx.OpP Gx.OpQ Gx.OpH
set_option maxRecDepth 20000
theorem zr_71 : tzero Tryz.prog 71 = some [.int .i64 0, .int .i64 0, .int .i64 0, .int .i64 0] := by kernel_rfl
theorem pl_71 : tplaces Tryz.prog 71 = some [(0, 1), (1, 1), (2, 1), (3, 1)] := by kernel_rfl
theorem sz_71 : tsz Tryz.prog 71 = some (4, true) := by kernel_rfl
instance : TSz Tryz.prog 71 4 true := ⟨sz_71⟩
instance : TFd Tryz.prog 71 1 1 3 := ⟨by kernel_rfl⟩
instance : TFd Tryz.prog 71 3 3 3 := ⟨by kernel_rfl⟩
instance : TFd Tryz.prog 71 2 2 3 := ⟨by kernel_rfl⟩
theorem fd_71_0 : tfd Tryz.prog 71 0 = some (0, 3) := by kernel_rfl
instance : TFd Tryz.prog 71 0 0 3 := ⟨fd_71_0⟩
end Go.Proofs
namespace Gx
open Go Go.RowKit
theorem OpQ.toH {P : Program} {o : Oper} {L : Slots} {w0 : World} {M : List Nat} {As : List HA} {v : Value} (h : OpQ P o L (HS w0 M As) v) : OpH P o L (HS w0 M As) (fun _ : Unit => v) (fun _ => True) (fun _ => HS w0 M As) :=
  fun ρ w hρ hw => (h ρ w hρ hw).mono fun _ w' ⟨h1, h2⟩ => ⟨(), h1, trivial, HS.stab _ _ _ w w' hw h2⟩
end Gx
namespace Go.Proofs
open Go Go.RowKit Gx
set_option linter.unusedVariables false
set_option linter.unusedSimpArgs false
attribute [local irreducible] Go.Calls Gx.S Gx.O Gx.D Gx.OpP Gx.OpQ Gx.OpH
set_option maxRecDepth 20000
set_option maxHeartbeats 400000 in
theorem c42 (w : World) (j : Nat) (mo rm : Int) (a : Option Addr) (cap : Nat) (L : List LNd) (hs : Nt w [] a L) (hB : Bd (pln L)) (hl0 : 0 < L.length) (hT : TOk (j : Int) (pln L)) : Calls Tryz.prog 42 #[.agg #[.int .i64 (j : Int), .int .i64 mo, .int .i64 rm, .slice a L.length cap]] w fun en w' => en = .returned ((.agg (shpV (pln L)).toArray)) ∧ Below w.heap.size w w' := by
 have hnl : (pln L).length = L.length := pln_len L
 have hle := hB.len
 rw [hnl] at hle
 refine enter (args := [_]) Tryz.func42 Tryz.ntmps42 rfl rfl (HS.refl w []) ?_
 iterate 2 refine aS ?_
 refine oBx fun b1 _ => ?_
 refine oAl (fun b2 _ => ?_) zr_71
 iterate 3 refine aS ?_
 refine o_p (p_build (cs := [_, _, _, _]) rfl rfl pl_71 zr_71 rfl) rfl ?_
 refine oAl (fun b3 _ => ?_) zr_71
 refine oSt ?_
 iterate 7 refine aS ?_
 refine s_loopI (α := Nat × Nat × List Nat) [4, 7, 8, 9, 10, 11, 12, 13, 14, 15, 16, 17, 18, 19, 20, 21, 22, 23, 24, 25, 26] (fun y => [(4, .int .i64 (y.2.1 : Int))]) (fun y => HS w [] [.blk b3 71 4 [.int .i64 ((y.1 : Int) + 1), .int .i64 (shA (pln L) 0).1, .int .i64 (shA (pln L) 0).2.1, .int .i64 (shA (pln L) 0).2.2], .blk b2 71 4 [.int .i64 0, .int .i64 0, .int .i64 0, .int .i64 0], .blk b1 24 4 [.int .i64 (j : Int), .int .i64 mo, .int .i64 rm, .slice a L.length cap]]) (fun y => Gx.Way (pln L) (y.2.1 :: y.2.2) ∧ y.2.2.length = y.1 ∧ deepT (pln L) L.length 0 = (y.1 : Int) + deepT (pln L) (L.length - y.1) y.2.1) (fun y => L.length - y.1) (0, 0, []) ⟨rfl, rfl, by simp⟩ aSx (fun w h => h.ent aEt) (fun ⟨d, i, P⟩ hx => ?_)
 dsimp only
 obtain ⟨hway, hpl, hdp⟩ := hx
 simp only [] at hway hpl hdp
 have hil0 := way_lt hT (by rw [pln_len]; exact hl0) hway i (List.mem_cons_self ..)
 have hil : i < L.length := by rw [pln_len] at hil0; exact hil0
 have hnI := pln_nth hil
 have hwl := way_len hT (by rw [pln_len]; exact hl0) hway
 rw [pln_len, List.length_cons] at hwl
 have hcl := hB.cs i hil0
 rw [hnI] at hcl
 simp only [LNd.pl] at hcl
 iterate 6 refine aS ?_
 refine o_p (p_indexAddr rfl rfl rfl sl_22 (i) (by omega) (by omega) (Rw.some hs.1 (by omega))) rfl ?_
 refine aS ?_
 refine o_q (q_load_old rfl rfl sz_30 (hs.1.rdj 2 hil rfl)) rfl ?_
 iterate 3 refine aS ?_
 refine s_cond rfl (fun h4 => ?_) fun h4 => ?_
 ·try simp only [decide_eq_true_eq] at h4
  have hcl0 : 0 < (nth L i).cs.length := by have hq := h4; omega
  have hkid := kid_in hT hil0 (i := i) (k := 0) (by rw [hnI]; exact hcl0)
  rw [hnI, pln_len] at hkid
  simp only [LNd.pl] at hkid
  have hway2 := way_kid hway hil0 (k := 0) (by rw [hnI]; exact hcl0) (by rw [hnI]; simp only [LNd.pl]; omega)
  rw [hnI] at hway2
  have hwl2 := way_len hT (by rw [pln_len]; exact hl0) hway2
  rw [pln_len, List.length_cons, List.length_cons] at hwl2
  have hdm := deep_more (ns := pln L) (f := L.length - d) (i := i) (by omega) (by rw [hnI]; show ¬ (nth L i).cs.length = 0; omega)
  rw [hnI] at hdm
  iterate 7 refine aS ?_
  refine o_p (p_indexAddr rfl rfl rfl sl_22 (i) (by omega) (by omega) (Rw.some hs.1 (by omega))) rfl ?_
  refine aS ?_
  refine o_q (q_load_old rfl rfl sz_30 (hs.1.rdj 2 hil rfl)) rfl ?_
  refine o_p (p_indexAddr rfl rfl rfl sl_30 (0) (by omega) (by omega) (Rw.some (hs.cs hil) (by omega))) rfl ?_
  refine o_q (q_load_old rfl rfl sz_3 ((hs.cs hil).rdj 0 (i := 0) (by omega) rfl)) rfl ?_
  refine o_slot (show _ = Value.int .i64 (((nth L i).cs.getD 0 0).toNat : Int) from congrArg (Value.int .i64) (Int.toNat_of_nonneg (show 0 ≤ (nth L i).cs.getD 0 0 by omega)).symm) ?_
  iterate 7 refine aS ?_
  try refine oWr ?_
  refine aS ?_
  refine oSt ?_
  refine aS ?_
  exact s_backI (d + 1, ((nth L i).cs.getD 0 0).toNat, i :: P) (by (try simp only []); omega) ⟨hway2, by simp [hpl], by simp only [] at *; rw [show L.length - (d + 1) = L.length - d - 1 by omega]; have h9 : (nth L i).pl.cs = (nth L i).cs := rfl; rw [h9] at hdm; omega⟩ aSx (fun w h => by have h2 := h; simp only []; rw [show (((d + 1 : Nat) : Int) + 1) = (d : Int) + 1 + 1 by omega]; exact h2.ent aEt)
 try simp only [decide_eq_false_iff_not] at h4
 have hde := deep_end (ns := pln L) (f := L.length - d) (i := i) (by rw [hnI]; show (nth L i).cs.length = 0; have hq := h4; omega)
 rw [hde, Int.add_zero] at hdp
 refine s_exit_to rfl ?_
 iterate 6 refine aS ?_
 refine s_loopI (α := Nat) [5, 27, 28, 29, 30, 31, 32, 33, 34, 35, 36, 37, 38, 39, 40, 41, 42, 43, 44, 45, 46, 47, 48, 49, 50, 51, 52, 53, 54, 55, 56, 57, 58] (fun k => [(5, .int .i64 (k : Int))]) (fun k => HS w [] [.blk b3 71 4 [.int .i64 ((d : Int) + 1), .int .i64 (shA (pln L) k).1, .int .i64 (shA (pln L) k).2.1, .int .i64 (shA (pln L) k).2.2], .blk b2 71 4 [.int .i64 0, .int .i64 0, .int .i64 0, .int .i64 0], .blk b1 24 4 [.int .i64 (j : Int), .int .i64 mo, .int .i64 rm, .slice a L.length cap]]) (fun k => k ≤ L.length) (fun k => L.length - k) 0 (Nat.zero_le _) aSx (fun w h => h.ent aEt) (fun k hk1 => ?_)
 iterate 9 refine aS ?_
 refine s_cond rfl (fun h5 => ?_) fun h5 => ?_
 ·try simp only [decide_eq_true_eq] at h5
  have hkl9 : k < L.length := by omega
  have hnk := pln_nth hkl9
  have hsl := shA_le hB k (by rw [hnl]; omega)
  have hek := hB.es k (by rw [hnl]; omega)
  rw [hnk] at hek
  simp only [LNd.pl] at hek
  iterate 8 refine aS ?_
  refine o_p (p_indexAddr rfl rfl rfl sl_22 (k) (by omega) (by omega) (Rw.some hs.1 (by omega))) rfl ?_
  refine aS ?_
  refine o_q (q_load_old rfl rfl sz_4 (hs.1.rdj 0 hkl9 rfl)) rfl ?_
  refine aS ?_
  refine s_weaken (L' := [(0, _), (1, _), (2, _), (3, _), (4, _), (5, _), (6, _), (7, _), (8, _), (9, _), (10, _), (11, _), (12, _), (13, _), (14, _), (39, _)]) aSx (fun _ h => h) ?_
  refine s_cutI (α := Unit) [40, 41, 42, 43, 44, 45, 46, 47, 48, 49, 50, 51, 52, 53, 54, 55, 56, 57, 58] (fun _ => []) (fun _ => HS w [] [.blk b3 71 4 [.int .i64 ((d : Int) + 1), .int .i64 (shA (pln L) (k + 1)).1, .int .i64 (shA (pln L) (k + 1)).2.1, .int .i64 (shA (pln L) (k + 1)).2.2], .blk b2 71 4 [.int .i64 0, .int .i64 0, .int .i64 0, .int .i64 0], .blk b1 24 4 [.int .i64 (j : Int), .int .i64 mo, .int .i64 rm, .slice a L.length cap]]) (fun _ => True) ?_ ?_
  ·skip
   refine s_cond rfl (fun h6 => ?_) fun h6 => ?_
   ·skip
    have hst := shA_t (ns := pln L) hnk h6
    refine s_drawB [.blk b2 71 4 [.int .i64 0, .int .i64 0, .int .i64 0, .int .i64 0], .blk b1 24 4 [.int .i64 (j : Int), .int .i64 mo, .int .i64 rm, .slice a L.length cap]] [] mixed ?_
    refine dFa 0 ?_
    refine dFa 3 ?_
    refine dFa 5 ?_
    refine dLd 6 [] ?_
    refine dP 7 ?_
    refine d_p 8 rfl (p_indexAddr rfl rfl rfl sl_22 (k) (by omega) (by omega) (Rw.some hs.1 (by omega))) (by kernel_rfl) rfl rfl ?_
    refine dFa 9 ?_
    refine d_q 10 [] rfl (q_load_old rfl rfl sz_77 (hs.1.rdj 1 hkl9 rfl)) (by kernel_rfl) (by kernel_rfl) (by kernel_rfl) rfl ?_
    refine d_p 11 rfl (p_len_slice rfl rfl Tryz.underlying77) (by kernel_rfl) rfl rfl ?_
    refine d_two 1 4 rfl rfl  (OpQ.toH (q_load rfl rfl sz_3 aPk rfl)) (OpQ.toH (q_load rfl rfl sz_3 aPk rfl)) (by kernel_rfl) (fun w h => h.ent aEt) rfl rfl  (fun _ _ => ?_) (fun _ _ => ?_)
    ·skip
     refine dP 2 ?_
     try refine dWr ?_
     refine d_h 4 rfl (OpQ.toH (q_load rfl rfl sz_3 aPk rfl)) (by kernel_rfl) (fun w h => h.ent aEt) rfl (fun _ _ => ?_)
     refine dP 12 ?_
     try refine dWr ?_
     refine dFa 13 ?_
     refine dSt 14 ?_ (hl := (by simp only [setMany_length, List.length_set, List.length_cons, List.length_nil, List.length_map]; omega))
     refine dFa 15 ?_
     refine dSt 16 ?_ (hl := (by simp only [setMany_length, List.length_set, List.length_cons, List.length_nil, List.length_map]; omega))
     refine dNi ?_
     exact s_joinI () trivial aSx (fun w h => by rw [hst]; exact h.ent aEt)
    skip
    refine dP 12 ?_
    try refine dWr ?_
    refine d_h 1 rfl (OpQ.toH (q_load rfl rfl sz_3 aPk rfl)) (by kernel_rfl) (fun w h => h.ent aEt) rfl (fun _ _ => ?_)
    refine dP 2 ?_
    try refine dWr ?_
    refine dFa 13 ?_
    refine dSt 14 ?_ (hl := (by simp only [setMany_length, List.length_set, List.length_cons, List.length_nil, List.length_map]; omega))
    refine dFa 15 ?_
    refine dSt 16 ?_ (hl := (by simp only [setMany_length, List.length_set, List.length_cons, List.length_nil, List.length_map]; omega))
    refine dNi ?_
    exact s_joinI () trivial aSx (fun w h => by rw [hst]; exact h.ent aEt)
   skip
   have hst := shA_f (ns := pln L) hnk (by have hq := h6; simpa [LNd.pl] using hq)
   iterate 4 refine aS ?_
   try refine oWr ?_
   refine aS ?_
   refine oSt ?_
   refine aS ?_
   exact s_joinI () trivial aSx (fun w h => by rw [hst]; exact h.ent aEt)
  intro _ _
  iterate 4 refine aS ?_
  try refine oWr ?_
  iterate 2 refine aS ?_
  exact s_backI (k + 1) (by omega) (by omega) aSx (fun w h => h.ent aEt)
 try simp only [decide_eq_false_iff_not] at h5
 obtain rfl : k = L.length := by omega
 refine s_exit_to rfl ?_
 iterate 3 refine aS ?_
 refine oSt ?_
 refine aS ?_
 exact s_retv (rs := [.cell 2 71]) rfl (.cell rfl sz_71 aPk rfl (.nil)) (fun w' h' => ⟨by simp only [retV, shpV]; rw [hnl, hdp]; rfl, h'.below⟩)
theorem fn_42 : isFn Tryz.prog 42 = true := by kernel_rfl
theorem c37m (w : World) (j : Nat) (mo rm : Int) (a : Option Addr) (cap : Nat) (L : List LNd) (x : TEnt) (hs : Nt w [] a L) (hB : Bd (pln L)) (hkl : ∀ i, i < L.length → ∀ x ∈ (nth L i).es, x.key.length ≤ 1000000) (hkk : x.key.length ≤ 1000000) (h0 : (treE (⟨(j : Int), mo, rm, pln L⟩ : Tre)).2 = 0) (hx0 : entE (j : Int) x = 0) (hx : ¬ (pathN (j : Int) (pln L) x.key).2.2 = true) : Calls Tryz.prog 37 #[.agg #[.int .i64 (j : Int), .int .i64 mo, .int .i64 rm, .slice a L.length cap], .agg #[.string (bs x.key), .string (bs x.val)]] w fun en w' => en = .returned (.tuple #[.agg #[.int .i64 0, .int .i64 0, .int .i64 0, .slice none 0 0], .int .i64 0, .int .i64 6]) ∧ Below w.heap.size w w' := by
 obtain ⟨hc0, hz0, hl0, hl120, hn0, _, _⟩ := treE_0 h0
 rw [show ((⟨(j : Int), mo, rm, pln L⟩ : Tre)).ns = pln L from rfl, pln_len] at hl0 hl120
 have hj : j ≤ 3 := by obtain ⟨j9, e9, hj9⟩ := col_ok hc0; have e8 : ((j : Nat) : Int) = (j9 : Int) := e9; omega
 have hT : TOk (j : Int) (pln L) := tok_of (t := (⟨(j : Int), mo, rm, pln L⟩ : Tre)) hn0
 have hmo := (sizE_0 hz0).1
 simp only [] at hmo
 have hkey : keyOk (j : Int) x.key = true := entE_key hx0
 refine enter (args := [_, _]) Tryz.func37 Tryz.ntmps37 rfl rfl (HS.refl w []) ?_
 iterate 2 refine aS ?_
 refine oBx fun b1 _ => ?_
 refine oBx fun b2 _ => ?_
 refine oAl (fun b3 _ => ?_) zr_24
 iterate 7 refine aS ?_
 refine o_h (h_call rfl fn_57 rfl (fun w1 h1 => c57k w1 j mo rm a cap L x (hs.later h1.nil) hB hkl hkk h0)) rfl (fun ⟨b9, ⟨gn9, c9⟩, L9⟩ hF9 => ?_)
 dsimp only
 obtain ⟨hL9, hn9, hm9⟩ := hF9
 simp only [] at hL9 hn9 hm9
 have hl9 : L9.length = L.length := by rw [← pln_len L9, hL9, pln_len]
 have hB9 : Bd (pln L9) := by rw [hL9]; exact hB
 have hT9 : TOk (j : Int) (pln L9) := by rw [hL9]; exact hT
 have hK9 : ∀ i, i < L9.length → ∀ y ∈ (nth L9 i).es, keyOk (j : Int) y.key = true ∧ y.key.length ≤ 1000000 := fun i hi y hy => tok_key hT9 i (by rw [pln_len]; exact hi) y (by rw [pln_nth hi]; exact hy)
 iterate 12 refine aS ?_
 refine s_cond rfl (fun h4 => ?_) fun h4 => ?_
 ·try simp only [Bool.not_eq_true', decide_eq_false_iff_not] at h4
  exfalso; first | omega | (simp at h4; done) | (simp_all; done)
 try simp only [Bool.not_eq_false', decide_eq_true_eq] at h4
 iterate 6 refine aS ?_
 refine o_h (h_call rfl fn_68 rfl (fun w1 h1 => c68 w1 b9 j mo rm (some ⟨gn9, 0, none⟩) c9 L9 x.key hj (by omega) hB9 hT9 hK9 hkey hkk (HS.nt_at h1 aPk aPk) (HS.tbr h1 aPk))) rfl (fun ⟨pa, pc⟩ _ => ?_)
 dsimp only
 rw [hL9]
 iterate 14 refine aS ?_
 refine s_cond rfl (fun h5 => ?_) fun h5 => ?_
 ·try simp only [Bool.not_eq_true'] at h5
  refine aS ?_
  refine s_weaken (L' := [(3, _), (4, _), (5, _), (6, _), (7, _), (9, _), (10, _)]) aSx (fun _ h => h) ?_
  refine aS ?_
  refine o_p (p_build (cs := [_, _, _, _]) rfl rfl pl_24 zr_24 rfl) rfl ?_
  refine oSt ?_
  iterate 3 refine aS ?_
  exact s_retv (rs := [.cell 4 24, .tmp 5, .tmp 6]) rfl (.cell rfl sz_24 aPk rfl (.tmp rfl (.tmp rfl (.nil)))) (fun w' h' => ⟨rfl, h'.below⟩)
 try simp only [Bool.not_eq_false'] at h5
 exfalso; first | omega | (simp at h5; done) | (simp_all; done)
set_option maxHeartbeats 400000 in
theorem c37o (w : World) (j : Nat) (mo rm : Int) (a : Option Addr) (cap : Nat) (L : List LNd) (x : TEnt) (hs : Nt w [] a L) (hB : Bd (pln L)) (hkl : ∀ i, i < L.length → ∀ x ∈ (nth L i).es, x.key.length ≤ 1000000) (hkk : x.key.length ≤ 1000000) (h0 : (treE (⟨(j : Int), mo, rm, pln L⟩ : Tre)).2 = 0) (hx0 : entE (j : Int) x = 0) (hx : (pathN (j : Int) (pln L) x.key).2.2 = true) : Calls Tryz.prog 37 #[.agg #[.int .i64 (j : Int), .int .i64 mo, .int .i64 rm, .slice a L.length cap], .agg #[.string (bs x.key), .string (bs x.val)]] w fun en w' => ∃ g : (Nat × Nat) × List LNd, en = .returned (.tuple #[.agg #[.int .i64 (j : Int), .int .i64 mo, .int .i64 rm, .slice (some ⟨g.1.1, 0, none⟩) g.2.length g.1.2], .int .i64 ((lastN (pathN (j : Int) (pln L) x.key).1) : Int), .int .i64 0]) ∧ pln g.2 = (repN (j : Int) (pln L) x) ∧ HS w [] [.nodes 26 102 (some ⟨g.1.1, 0, none⟩) g.1.2 g.2] w' := by
 obtain ⟨hc0, hz0, hl0, hl120, hn0, _, _⟩ := treE_0 h0
 rw [show ((⟨(j : Int), mo, rm, pln L⟩ : Tre)).ns = pln L from rfl, pln_len] at hl0 hl120
 have hj : j ≤ 3 := by obtain ⟨j9, e9, hj9⟩ := col_ok hc0; have e8 : ((j : Nat) : Int) = (j9 : Int) := e9; omega
 have hT : TOk (j : Int) (pln L) := tok_of (t := (⟨(j : Int), mo, rm, pln L⟩ : Tre)) hn0
 have hmo := (sizE_0 hz0).1
 simp only [] at hmo
 have hkey : keyOk (j : Int) x.key = true := entE_key hx0
 have hend := path_end hT (by rw [pln_len]; exact hl0) x.key
 obtain ⟨hp1, hp2, hp3, hp4, hp5⟩ := hend
 rw [pln_len] at hp2 hp3
 refine enter (args := [_, _]) Tryz.func37 Tryz.ntmps37 rfl rfl (HS.refl w []) ?_
 iterate 2 refine aS ?_
 refine oBx fun b1 _ => ?_
 refine oBx fun b2 _ => ?_
 refine oAl (fun b3 _ => ?_) zr_24
 iterate 7 refine aS ?_
 refine o_h (h_call rfl fn_57 rfl (fun w1 h1 => c57k w1 j mo rm a cap L x (hs.later h1.nil) hB hkl hkk h0)) rfl (fun ⟨b9, ⟨gn9, c9⟩, L9⟩ hF9 => ?_)
 dsimp only
 obtain ⟨hL9, hn9, hm9⟩ := hF9
 simp only [] at hL9 hn9 hm9
 have hl9 : L9.length = L.length := by rw [← pln_len L9, hL9, pln_len]
 have hB9 : Bd (pln L9) := by rw [hL9]; exact hB
 have hT9 : TOk (j : Int) (pln L9) := by rw [hL9]; exact hT
 have hK9 : ∀ i, i < L9.length → ∀ y ∈ (nth L9 i).es, keyOk (j : Int) y.key = true ∧ y.key.length ≤ 1000000 := fun i hi y hy => tok_key hT9 i (by rw [pln_len]; exact hi) y (by rw [pln_nth hi]; exact hy)
 iterate 12 refine aS ?_
 refine s_cond rfl (fun h4 => ?_) fun h4 => ?_
 ·try simp only [Bool.not_eq_true', decide_eq_false_iff_not] at h4
  exfalso; first | omega | (simp at h4; done) | (simp_all; done)
 try simp only [Bool.not_eq_false', decide_eq_true_eq] at h4
 iterate 6 refine aS ?_
 refine o_h (h_call rfl fn_68 rfl (fun w1 h1 => c68 w1 b9 j mo rm (some ⟨gn9, 0, none⟩) c9 L9 x.key hj (by omega) hB9 hT9 hK9 hkey hkk (HS.nt_at h1 aPk aPk) (HS.tbr h1 aPk))) rfl (fun ⟨pa, pc⟩ _ => ?_)
 dsimp only
 rw [hL9]
 iterate 14 refine aS ?_
 refine s_cond rfl (fun h5 => ?_) fun h5 => ?_
 ·try simp only [Bool.not_eq_true'] at h5
  exfalso; first | omega | (simp at h5; done) | (simp_all; done)
 try simp only [Bool.not_eq_false'] at h5
 have hlf : (lastN (pathN (j : Int) (pln L) x.key).1) < L9.length := by omega
 have hn9f : nth (pln L) (lastN (pathN (j : Int) (pln L) x.key).1) = (nth L9 (lastN (pathN (j : Int) (pln L) x.key).1)).pl := by have h9 := pln_nth hlf; rw [hL9] at h9; exact h9
 have hat := fnd_lt (hp5 ▸ hx)
 rw [← hp4, hn9f] at hat
 simp only [LNd.pl] at hat
 have hpn : (pathN (j : Int) (pln L) x.key).1.length - 1 < (pathN (j : Int) (pln L) x.key).1.length := by omega
 refine s_fact (fun w h => HS.kids_some (by rw [iN_len]; omega) h aPk) fun hpa => ?_
 obtain ⟨gp, hpa⟩ := hpa
 refine s_fact (fun w h => HS.es_some (i := (lastN (pathN (j : Int) (pln L) x.key).1)) hlf (by omega) h aPk) fun hge => ?_
 obtain ⟨ge, hge⟩ := hge
 refine s_fact (fun w h => HS.es_room hlf h aPk) fun hrE => ?_
 iterate 2 refine aS ?_
 refine s_weaken (L' := [(3, _), (4, _), (5, _), (6, _), (7, _), (9, _), (10, _)]) aSx (fun _ h => h) ?_
 iterate 5 refine aS ?_
 try refine oWr ?_
 refine o_p (p_indexAddr rfl rfl rfl sl_30 ((pathN (j : Int) (pln L) x.key).1.length - 1) (by omega) (by omega) hpa) rfl ?_
 refine o_q (q_load_at rfl rfl sz_3 (fun w h => HS.path_rd hpn hpa h aPk)) rfl ?_
 refine o_slot (show _ = Value.int .i64 (((lastN (pathN (j : Int) (pln L) x.key).1) : Nat) : Int) from rfl) ?_
 iterate 3 refine aS ?_
 refine s_class (fun w h => HS.es_open hlf (by omega) hge h aPk) ?_
 refine s_drawB [.blk b9 112 6 (tbV (j : Int) mo rm (some ⟨gn9, 0, none⟩) L9.length c9), .blk gn9 102 (c9 * 3) (L9.flatMap LNd.vals), .blk b1 24 4 [.int .i64 (j : Int), .int .i64 mo, .int .i64 rm, .slice a L.length cap], .blk b2 26 2 (TEnt.vals x), .blk b3 24 4 [.int .i64 0, .int .i64 0, .int .i64 0, .slice none 0 0]] [12] mixed ?_
 refine dP 0 ?_
 refine dP 1 ?_
 refine dFa 2 ?_
 refine dFa 3 ?_
 refine dLd 4 [[]] ?_
 refine dP 5 ?_
 refine d_p 6 rfl (p_indexAddr rfl rfl rfl sl_22 ((lastN (pathN (j : Int) (pln L) x.key).1)) (by omega) (by omega) rfl) (by kernel_rfl) rfl rfl ?_
 refine d_slot (show _ = Value.pointer (some ⟨gn9, (lastN (pathN (j : Int) (pln L) x.key).1) * 3, none⟩) from by rw [Nat.zero_add]) ?_
 refine dFa 7 ?_
 refine d_q 8 [[]] rfl (q_load_at rfl rfl sz_77 (fun w h => HS.nd_cell hlf h aPk 1 rfl (by decide))) (by kernel_rfl) (by kernel_rfl) (by kernel_rfl) rfl ?_
 refine dP 9 ?_
 refine dLn 10 [[]] ?_
 refine d_p 11 rfl (p_indexAddr rfl rfl rfl sl_77 ((pathN (j : Int) (pln L) x.key).2.1) (by omega) (by omega) hge) (by kernel_rfl) rfl rfl ?_
 refine d_slot (show _ = Value.pointer (some ⟨ge, (pathN (j : Int) (pln L) x.key).2.1 * 2, none⟩) from by rw [Nat.zero_add]) ?_
 refine dSt 12 ?_ (hl := (by rw [flat_length ev2]; show _ + 2 ≤ _; omega))
 refine dTu [] ?_
 refine dNi ?_
 iterate 3 refine aS ?_
 refine o_ex (fun w h => HS.es_upd (gn := gn9) (cap := c9) (g := ge) (k := (pathN (j : Int) (pln L) x.key).2.1) (x := x) hlf hat hge h aPk aPk aPk hrE) fun L1 => ?_
 refine o_fact (fun w h => h.1) fun hS1 => ?_
 refine o_class (fun w h => h.2) ?_
 iterate 4 refine aS ?_
 refine oSt ?_
 iterate 3 refine aS ?_
 exact s_retv (rs := [.cell 4 24, .tmp 5, .tmp 6]) rfl (.cell rfl sz_24 aPk rfl (.tmp rfl (.tmp rfl (.nil)))) (fun w' h' => ⟨((gn9, c9), L1), by (try simp only [retV]); (try rw [hS1.len]); rfl, by rw [hS1.es, hL9, repN, hn9f]; rfl, nodes_join (h'.ent (Bs := [.blk gn9 102 (c9 * 3) (L1.flatMap LNd.vals), .star (L1.map (subN 26))]) aEt) (by rw [hS1.len]; exact hn9) hm9⟩)
theorem fn_37 : isFn Tryz.prog 37 = true := by kernel_rfl
theorem c29k (w : World) (j : Nat) (mo rm : Int) (hj : j ≤ 3) (hs0 : sizE mo rm = 0) : Calls Tryz.prog 29 #[.int .i64 (j : Int), .int .i64 mo, .int .i64 rm] w fun en w' => ∃ g : (Option Addr × Nat) × List LNd, en = .returned (.tuple #[.agg #[.int .i64 (j : Int), .int .i64 mo, .int .i64 rm, .slice g.1.1 g.2.length g.1.2], .int .i64 0]) ∧ pln g.2 = [⟨true, [], []⟩] ∧ HS w [] [.nodes 26 102 g.1.1 g.1.2 g.2] w' := by
  have hcE : colE12 (j : Int) = 0 := by unfold colE12; rw [if_pos (by omega)]
  have hEE : (if colE12 (j : Int) = 0 then sizE mo rm else colE12 (j : Int)) = 0 := by rw [if_pos hcE]; exact hs0
  have hemp : empT (j : Int) mo rm = ⟨(j : Int), mo, rm, [⟨true, [], []⟩]⟩ := by unfold empT; rw [if_pos hEE]
  have h9 := c29 w (j : Int) mo rm
  simp only [hemp, hEE] at h9
  exact h9
theorem fn_130 : isFn Tryz.prog 130 = true := by kernel_rfl
theorem fn_94 : isFn Tryz.prog 94 = true := by kernel_rfl
def AllC (S : Type) (I : Nat → S → Prop) (C : S → HA) (st : S → TEnt → S → Prop) (co : S → Bool) (Q : TEnt → Prop) (lr : Nat) (bt : Nat) (j : Nat) (mo rm : Int) (a : Option Addr) (cap : Nat) (L : List LNd) (T : BT) : Prop := ∀ (w : World) (s : S) (r : Nat), (HS w (fps [C s]) [C s] w) → ((∀ (n : Nat) (s2 : S) (x : TEnt) (w1 : World), HS w (fps [C s]) [C s2] w1 → I (n + 1) s2 → Q x → YieldTo Tryz.prog lr [Value.agg (TEnt.vals x).toArray].toArray w1 fun e w2 => ∃ s3 : S, e = .returned (.bool (co s3)) ∧ (st s2 x s3 ∧ (co s3 = true → I n s3)) ∧ HS w1 (fps [C s2]) [C s3] w2)) → (TbR w (fps [C s]) bt (j : Int) mo rm a L.length cap) → (Nt w (fps [C s]) a L) → (∀ x ∈ T.flat, Q x) → ((T.flat).length ≤ 10000) → (I ((T.flat).length + r) s) → Calls Tryz.prog 130 #[.pointer (some ⟨bt, 0, none⟩), .int .i64 (T.idx : Int), .func (.yield lr) #[] #[]] w fun en w' => ∃ g : S × Bool, en = .returned (.bool g.2) ∧ (RunY st co s T.flat g.1 g.2 ∧ (g.2 = true → I r g.1)) ∧ HS w (fps [C s]) [C g.1] w'
theorem c130s (w : World) (S : Type) (I : Nat → S → Prop) (C : S → HA) (st : S → TEnt → S → Prop) (co : S → Bool) (Q : TEnt → Prop) (lr : Nat) (bt : Nat) (j : Nat) (mo rm : Int) (a : Option Addr) (cap : Nat) (L : List LNd) (i : Nat) (es : List TEnt) (ks : List BT) (s : S) (r : Nat) (hw : HS w (fps [C s]) [C s] w) (hv : (∀ (n : Nat) (s2 : S) (x : TEnt) (w1 : World), HS w (fps [C s]) [C s2] w1 → I (n + 1) s2 → Q x → YieldTo Tryz.prog lr [Value.agg (TEnt.vals x).toArray].toArray w1 fun e w2 => ∃ s3 : S, e = .returned (.bool (co s3)) ∧ (st s2 x s3 ∧ (co s3 = true → I n s3)) ∧ HS w1 (fps [C s2]) [C s3] w2)) (ht : TbR w (fps [C s]) bt (j : Int) mo rm a L.length cap) (hs : Nt w (fps [C s]) a L) (hQ : ∀ x ∈ (flatL es ks), Q x) (hf : ((flatL es ks)).length ≤ 10000) (hI : I (((flatL es ks)).length + r) s) (hl : L.length ≤ 1000) (hi : i < L.length) (hn : nth (pln L) i = ⟨true, es, idxs ks⟩) (hsh : ks = [] ∨ ks.length = es.length + 1) (ih : ∀ k, k < ks.length → AllC S I C st co Q lr bt j mo rm a cap L (nth ks k)) : Calls Tryz.prog 130 #[.pointer (some ⟨bt, 0, none⟩), .int .i64 (i : Int), .func (.yield lr) #[] #[]] w fun en w' => ∃ g : S × Bool, en = .returned (.bool g.2) ∧ (RunY st co s (flatL es ks) g.1 g.2 ∧ (g.2 = true → I r g.1)) ∧ HS w (fps [C s]) [C g.1] w' := by
 rw [pln_nth hi] at hn
 have hes : (nth L i).es = es := congrArg Nd.es hn
 have hcs : (nth L i).cs = idxs ks := congrArg Nd.cs hn
 have hesl : (nth L i).es.length = es.length := by rw [hes]
 have hcsl : (nth L i).cs.length = ks.length := by rw [hcs, idxs_len]
 have hel : es.length ≤ 10000 := Nat.le_trans (es_sub es ks).length_le hf
 have hkl : ks.length ≤ 10001 := by rcases hsh with h | h; rw [h]; exact Nat.zero_le _; omega
 refine enter (args := [_, _, _]) Tryz.func130 Tryz.ntmps130 rfl rfl hw ?_
 iterate 10 refine aS ?_
 refine o_q (q_load_old rfl rfl sz_22 (ht 3 _ rfl)) rfl ?_
 refine aS ?_
 refine o_p (p_indexAddr rfl rfl rfl sl_22 (i) (by omega) (by omega) (Rw.some hs.1 (by omega))) rfl ?_
 refine o_q (q_load_oldn _ rfl rfl sz_102 rfl (Rw.rd hs.1 hi)) rfl ?_
 refine oAl (fun b1 _ => ?_) zr_102
 refine oSt ?_
 iterate 8 refine aS ?_
 try refine oWr ?_
 iterate 3 refine aS ?_
 refine s_weaken (L' := [(0, _), (2, _), (6, _), (7, _), (20, _), (21, _)]) aSx (fun _ h => h) ?_
 refine s_loopI (α := Nat × S) [6, 8, 21, 22, 23, 24, 25, 26, 27, 28, 29, 30, 31, 32, 33, 34, 35, 36, 37, 38, 39, 40, 41, 42, 43, 44, 45, 46, 47, 48, 49, 50, 51, 52, 53, 54] (fun x => [(21, .int .i64 (x.1 : Int))]) (fun x => HS w (fps [C s]) [.blk b1 102 3 (nth L i).vals, C x.2]) (fun x => x.1 ≤ es.length + 1 ∧ RunY st co s (preK es ks x.1) x.2 true ∧ I ((flatL es ks).length - (preK es ks x.1).length + r) x.2) (fun x => es.length + 1 - x.1) (0, s) ⟨Nat.zero_le _, .nil s, hI⟩ aSx (fun w h => h.ent aEt) (fun ⟨k, sk⟩ hx => ?_)
 dsimp only
 obtain ⟨hk1, hk2, hk3⟩ := hx
 simp only [] at hk1 hk2 hk3
 have hm1 := preK_len (k := k) hsh hk1
 iterate 5 refine aS ?_
 refine s_cond rfl (fun h2 => ?_) fun h2 => ?_
 ·try simp only [decide_eq_true_eq] at h2
  have hke : k ≤ es.length := by have hq := h2; omega
  have hm2 := midK_len hsh hke
  have hm3 := preK_len (k := k + 1) hsh (by omega)
  have hm6 := preK_mid (es := es) (ks := ks) (k := k)
  have hm7 := midK_pre (es := es) (ks := ks) (k := k)
  iterate 16 refine aS ?_
  refine o_grpI (α := S × Bool) 10 28 38 _ (fun x => !x.2) (fun x => HS w (fps [C s]) [.blk b1 102 3 (nth L i).vals, C x.1]) (fun x => RunY st co s (midK es ks k) x.1 x.2 ∧ (x.2 = true → I ((flatL es ks).length - (midK es ks k).length + r) x.1)) rfl
   (by
    intro hg3
    have hs4 := hg3; try simp only [decide_eq_true_eq] at hs4
    have hk0 : 0 < ks.length := by have hq := hg3; simp at hq; omega
    have hsk : ks.length = es.length + 1 := by rcases hsh with h | h; rw [h] at hk0; exact absurd hk0 (by decide); exact h
    have hkk : k < ks.length := by omega
    have hm4 := congrArg List.length (midK_one (es := es) (k := k) hk0)
    rw [List.length_append] at hm4
    refine oOn 28 hg3 ?_
    refine aS ?_
    refine oOn 28 hg3 ?_
    refine aS ?_
    refine oOn 28 hg3 ?_
    refine aS ?_
    refine oOn 28 hg3 ?_
    refine aS ?_
    refine oOn 28 hg3 ?_
    refine o_p (p_indexAddr rfl rfl rfl sl_30 (k) (by omega) (by omega) (Rw.some (hs.cs hi) (by omega))) rfl ?_
    refine oOn 28 hg3 ?_
    refine o_q (q_load_old rfl rfl sz_3 (((hs.cs hi).rdj 0 (i := k) (by omega) rfl))) rfl ?_
    refine o_slot (show _ = Value.int .i64 ((nth ks k).idx : Int) from congrArg (Value.int .i64) (by rw [hcs]; exact idxs_gd hkk)) ?_
    refine oOn 28 hg3 ?_
    refine aS ?_
    refine oOn 28 hg3 ?_
    refine o_h (h_callF (Cs := [C sk]) rfl fn_130 rfl aPs (fun w1 h1 hf9 => ih k hkk w1 sk ((flatL es ks).length - (midK es ks k).length + r) hf9 (fun n9 s2 x w2 h2 hI2 hQ2 => hv n9 s2 x w2 (HS.thenF (h1.ent (Bs := [C sk]) aEt) h2) hI2 hQ2) ((ht.keep h1).mono (fps_pick aPs)) ((hs.keep h1).mono (fps_pick aPs)) (fun x hx => hQ x (kid_mem hsk hkk hx)) (Nat.le_trans (kid_len hsk hkk) hf) (by rw [show (nth ks k).flat.length + ((flatL es ks).length - (midK es ks k).length + r) = ((flatL es ks).length - (preK es ks k).length + r) from by omega]; exact hk3))) rfl (fun ⟨sm, bm⟩ hRm => ?_)
    refine oOn 28 hg3 ?_
    refine aS ?_
    refine o_p (p_pickt rfl rfl hg3 rfl) rfl ?_
    refine aS ?_
    exact s_joinI (sm, bm) ⟨by rw [midK_one hk0]; exact hk2.app hRm.1, hRm.2⟩ aSx (fun w h => h.ent aEt))
   (by
    intro hg5
    have hs6 := hg5; try simp only [decide_eq_false_iff_not] at hs6
    have hk0 : ¬ 0 < ks.length := by have hq := hg5; simp at hq; omega
    refine oOf 28 hg5 ?_
    refine oOf 28 hg5 ?_
    refine oOf 28 hg5 ?_
    refine oOf 28 hg5 ?_
    refine oOf 28 hg5 ?_
    refine oOf 28 hg5 ?_
    refine oOf 28 hg5 ?_
    refine oOf 28 hg5 ?_
    refine oOf 28 hg5 ?_
    refine o_p (p_pickf rfl rfl hg5 rfl) rfl ?_
    refine aS ?_
    exact s_joinI (sk, true) ⟨by rw [midK_no hk0]; exact hk2, fun _ => by rw [midK_no hk0]; exact hk3⟩ aSx (fun w h => h.ent aEt)) ?_
  intro ⟨sm, bm⟩ hx
  dsimp only
  obtain ⟨hR1, hI1⟩ := hx
  simp only [] at hR1 hI1
  refine aS ?_
  refine s_cond rfl (fun h7 => ?_) fun h7 => ?_
  ·try simp only [Bool.not_eq_true'] at h7
   obtain rfl : bm = false := by have hq := h7; simpa using hq
   obtain ⟨B9, hB9⟩ := midK_ex hsh hke
   iterate 4 refine aS ?_
   exact s_retv (rs := [.tmp 6]) rfl (.tmp rfl (.nil)) (fun w' h' => ⟨(sm, false), rfl, ⟨by rw [hB9]; exact hR1.off B9, fun h => by cases h⟩, h'.ent aEt⟩)
  try simp only [Bool.not_eq_false'] at h7
  obtain rfl : bm = true := by have hq := h7; simpa using hq
  iterate 9 refine aS ?_
  refine o_grpI (α := S × Bool) 9 44 53 _ (fun x => !x.2) (fun x => HS w (fps [C s]) [.blk b1 102 3 (nth L i).vals, C x.1]) (fun x => RunY st co s (preK es ks (k + 1)) x.1 x.2 ∧ (x.2 = true → I ((flatL es ks).length - (preK es ks (k + 1)).length + r) x.1)) rfl
   (by
    intro hg8
    have hs9 := hg8; try simp only [decide_eq_true_eq] at hs9
    have hke2 : k < es.length := by have hq := hg8; simp at hq; omega
    have hm5 := congrArg List.length (preK_one (es := es) (ks := ks) hke2)
    rw [List.length_append, List.length_singleton] at hm5
    refine oOn 44 hg8 ?_
    refine aS ?_
    refine oOn 44 hg8 ?_
    refine aS ?_
    refine oOn 44 hg8 ?_
    refine aS ?_
    refine oOn 44 hg8 ?_
    refine aS ?_
    refine oOn 44 hg8 ?_
    refine o_p (p_indexAddr rfl rfl rfl sl_77 (k) (by omega) (by omega) (Rw.some (hs.es hi) (by omega))) rfl ?_
    refine oOn 44 hg8 ?_
    refine o_q (q_load_oldn _ rfl rfl sz_26 rfl (Rw.rd (hs.es hi) (by omega))) rfl ?_
    refine o_slot (show _ = Value.agg (TEnt.vals (nth es k)).toArray from by rw [hes]) ?_
    refine oOn 44 hg8 ?_
    refine o_h (h_yieldF (Cs := [C sm]) rfl rfl rfl aPs (fun w1 h1 hf9 => hv ((flatL es ks).length - (preK es ks (k + 1)).length + r) sm (nth es k) w1 (h1.ent aEt) (by rw [show ((flatL es ks).length - (preK es ks (k + 1)).length + r) + 1 = ((flatL es ks).length - (midK es ks k).length + r) from by omega]; exact hI1 rfl) (hQ _ (es_mem hsh hke2)))) rfl (fun sy hRy => ?_)
    refine oOn 44 hg8 ?_
    refine aS ?_
    refine o_p (p_pickt rfl rfl hg8 rfl) rfl ?_
    refine aS ?_
    exact s_joinI (sy, co sy) ⟨by rw [preK_one hke2]; exact hR1.app (RunY.one hRy.1), hRy.2⟩ aSx (fun w h => h.ent aEt))
   (by
    intro hg10
    have hs11 := hg10; try simp only [decide_eq_false_iff_not] at hs11
    have hke2 : ¬ k < es.length := by have hq := hg10; simp at hq; omega
    refine oOf 44 hg10 ?_
    refine oOf 44 hg10 ?_
    refine oOf 44 hg10 ?_
    refine oOf 44 hg10 ?_
    refine oOf 44 hg10 ?_
    refine oOf 44 hg10 ?_
    refine oOf 44 hg10 ?_
    refine oOf 44 hg10 ?_
    refine o_p (p_pickf rfl rfl hg10 rfl) rfl ?_
    refine aS ?_
    exact s_joinI (sm, true) ⟨by rw [preK_no hke2]; exact hR1, fun _ => by rw [preK_no hke2]; exact hI1 rfl⟩ aSx (fun w h => h.ent aEt)) ?_
  intro ⟨sy, by9⟩ hx
  dsimp only
  obtain ⟨hR2, hI2⟩ := hx
  simp only [] at hR2 hI2
  refine aS ?_
  refine s_cond rfl (fun h12 => ?_) fun h12 => ?_
  ·try simp only [Bool.not_eq_true'] at h12
   obtain rfl : by9 = false := by have hq := h12; simpa using hq
   obtain ⟨B9, hB9⟩ := preK_ex hsh (show k + 1 ≤ es.length + 1 by omega)
   iterate 4 refine aS ?_
   exact s_retv (rs := [.tmp 6]) rfl (.tmp rfl (.nil)) (fun w' h' => ⟨(sy, false), rfl, ⟨by rw [hB9]; exact hR2.off B9, fun h => by cases h⟩, h'.ent aEt⟩)
  try simp only [Bool.not_eq_false'] at h12
  obtain rfl : by9 = true := by have hq := h12; simpa using hq
  iterate 4 refine aS ?_
  try refine oWr ?_
  iterate 2 refine aS ?_
  exact s_backI (k + 1, sy) (by (try simp only []); omega) ⟨by (try simp only []); omega, hR2, hI2 rfl⟩ aSx (fun w h => h.ent aEt)
 try simp only [decide_eq_false_iff_not] at h2
 refine s_exit_to rfl ?_
 iterate 4 refine aS ?_
 exact s_retv (rs := [.tmp 6]) rfl (.tmp rfl (.nil)) (fun w' h' => ⟨(sk, true), rfl, by have hke : k = es.length + 1 := (by omega); rw [← preK_all hsh, ← hke]; exact ⟨hk2, fun _ => by rw [← preK_all hsh, ← hke, Nat.sub_self, Nat.zero_add] at hk3; exact hk3⟩, h'.ent aEt⟩)
theorem c130 (S : Type) (I : Nat → S → Prop) (C : S → HA) (st : S → TEnt → S → Prop) (co : S → Bool) (Q : TEnt → Prop) (lr : Nat) (bt : Nat) (j : Nat) (mo rm : Int) (a : Option Addr) (cap : Nat) (L : List LNd) (hl : L.length ≤ 1000) : ∀ (d : Nat) (T : BT) (lo hi : Nat), Bel lo hi d T → NIn (pln L) T → AllC S I C st co Q lr bt j mo rm a cap L T
  | 0, .nd i es ks, lo, hi, hB, hN => fun w s r hw hv ht hs hQ hf hI => by
    rw [BT.flat] at hQ hf hI ⊢
    have hk := bel_0 hB
    exact c130s w S I C st co Q lr bt j mo rm a cap L i es ks s r hw hv ht hs hQ hf hI hl (by have h9 := hN.root.1; rwa [pln_len] at h9) hN.root.2 (.inl hk) (fun k h => by rw [hk] at h; exact absurd h (Nat.not_lt_zero _))
  | d + 1, .nd i es ks, lo, hi, hB, hN => fun w s r hw hv ht hs hQ hf hI => by
    rw [BT.flat] at hQ hf hI ⊢
    exact c130s w S I C st co Q lr bt j mo rm a cap L i es ks s r hw hv ht hs hQ hf hI hl (by have h9 := hN.root.1; rwa [pln_len] at h9) hN.root.2 (.inr hB.1) (fun k h => c130 S I C st co Q lr bt j mo rm a cap L hl d (nth ks k) lo hi (bel_kid hB h) (hN.kid h))
theorem c130z (w : World) (S : Type) (I : Nat → S → Prop) (C : S → HA) (st : S → TEnt → S → Prop) (co : S → Bool) (Q : TEnt → Prop) (lr : Nat) (bt : Nat) (j : Nat) (mo rm : Int) (a : Option Addr) (cap : Nat) (L : List LNd) (T : BT) (d lo hi : Nat) (s : S) (r : Nat) (hw : HS w (fps [C s]) [C s] w) (hv : (∀ (n : Nat) (s2 : S) (x : TEnt) (w1 : World), HS w (fps [C s]) [C s2] w1 → I (n + 1) s2 → Q x → YieldTo Tryz.prog lr [Value.agg (TEnt.vals x).toArray].toArray w1 fun e w2 => ∃ s3 : S, e = .returned (.bool (co s3)) ∧ (st s2 x s3 ∧ (co s3 = true → I n s3)) ∧ HS w1 (fps [C s2]) [C s3] w2)) (ht : TbR w (fps [C s]) bt (j : Int) mo rm a L.length cap) (hs : Nt w (fps [C s]) a L) (hQ : ∀ x ∈ T.flat, Q x) (hf : (T.flat).length ≤ 10000) (hI : I ((T.flat).length + r) s) (hl : L.length ≤ 1000) (hB : Bel lo hi d T) (hN : NIn (pln L) T) (h0 : T.idx = 0) : Calls Tryz.prog 130 #[.pointer (some ⟨bt, 0, none⟩), .int .i64 0, .func (.yield lr) #[] #[]] w fun en w' => ∃ g : S × Bool, en = .returned (.bool g.2) ∧ (RunY st co s T.flat g.1 g.2 ∧ (g.2 = true → I r g.1)) ∧ HS w (fps [C s]) [C g.1] w' := by
  have h9 := c130 S I C st co Q lr bt j mo rm a cap L hl d T lo hi hB hN w s r hw hv ht hs hQ hf hI
  rw [h0] at h9
  exact h9
theorem run_app {St α : Type} {st : St → α → St → Prop} {f : St → List α} {l : List α} {s s1 : St} {b : Bool} (hst : ∀ s x s', st s x s' → f s' = f s ++ [x]) (h : RunY st (fun _ => true) s l s1 b) : f s1 = f s ++ l := by
  induction h with
  | nil s => rw [List.append_nil]
  | go h hc _ ih => rw [ih, hst _ _ _ h, List.append_assoc]; rfl
  | stop h hc => cases hc
theorem c94 (w : World) (S : Type) (I : Nat → S → Prop) (C : S → HA) (st : S → TEnt → S → Prop) (co : S → Bool) (Q : TEnt → Prop) (lr : Nat) (bt : Nat) (j : Nat) (mo rm : Int) (a : Option Addr) (cap : Nat) (L : List LNd) (T : BT) (d lo hi : Nat) (s : S) (r : Nat) (hw : HS w (fps [C s]) [C s] w) (hv : (∀ (n : Nat) (s2 : S) (x : TEnt) (w1 : World), HS w (fps [C s]) [C s2] w1 → I (n + 1) s2 → Q x → YieldTo Tryz.prog lr [Value.agg (TEnt.vals x).toArray].toArray w1 fun e w2 => ∃ s3 : S, e = .returned (.bool (co s3)) ∧ (st s2 x s3 ∧ (co s3 = true → I n s3)) ∧ HS w1 (fps [C s2]) [C s3] w2)) (ht : TbR w (fps [C s]) bt (j : Int) mo rm a L.length cap) (hs : Nt w (fps [C s]) a L) (hQ : ∀ x ∈ T.flat, Q x) (hf : (T.flat).length ≤ 10000) (hI : I ((T.flat).length + r) s) (hl : L.length ≤ 1000) (hB : Bel lo hi d T) (hN : NIn (pln L) T) (h0 : T.idx = 0) : Calls Tryz.prog 94 #[.pointer (some ⟨bt, 0, none⟩), .func (.yield lr) #[] #[]] w fun en w' => ∃ g : S × Bool, en = .returned (.tuple #[]) ∧ (RunY st co s T.flat g.1 g.2 ∧ (g.2 = true → I r g.1)) ∧ HS w (fps [C s]) [C g.1] w' := by
 refine enter (args := [_, _]) Tryz.func94 Tryz.ntmps94 rfl rfl hw ?_
 iterate 3 refine aS ?_
 refine o_h (h_callF (Cs := [C s]) rfl fn_130 rfl aPs (fun w1 h1 hf9 => c130z w1 S I C st co Q lr bt j mo rm a cap L T d lo hi s r hf9 (fun n9 s2 x w2 h2 hI2 hQ2 => hv n9 s2 x w2 (HS.thenF (h1.ent (Bs := [C s]) aEt) h2) hI2 hQ2) ((ht.keep h1).mono (fps_pick aPs)) ((hs.keep h1).mono (fps_pick aPs)) hQ hf hI hl hB hN h0)) rfl (fun ⟨sm, bm⟩ hRm => ?_)
 refine aS ?_
 exact s_end0 rfl (fun w' h' => ⟨(sm, bm), rfl, hRm, h'.ent aEt⟩)
theorem c131 (w : World) (bt : Nat) (j : Nat) (mo rm : Int) (a : Option Addr) (cap : Nat) (L : List LNd) (T : BT) (d lo hi : Nat) (hs : Nt w [] a L) (ht : TbR w [] bt (j : Int) mo rm a L.length cap) (hl : L.length ≤ 1000) (hB : Bel lo hi d T) (hN : NIn (pln L) T) (h0 : T.idx = 0) (hf : T.flat.length ≤ 10000) : Calls Tryz.prog 131 #[.slice none 0 0, .func (.func 94) #[.pointer (some ⟨bt, 0, none⟩)] #[]] w fun en w' => ∃ g : Option Addr × Nat, en = .returned (.slice g.1 (T.flat).length g.2) ∧ True ∧ HS w [] [.own (.slice g.1 (T.flat).length g.2) 26 2 (T.flat).length ((T.flat).flatMap TEnt.vals)] w' := by
 refine enter (args := [_, _]) Tryz.func131 Tryz.ntmps131 rfl rfl (HS.refl w []) ?_
 iterate 2 refine aS ?_
 refine oBx fun b1 _ => ?_
 iterate 8 refine aS ?_
 refine s_rangeL (G := {s : ((Option Addr × Nat) × List TEnt) // s.2 = T.flat}) (Bs := fun s => [.blk b1 77 1 [.slice s.1.1.1 s.1.2.length s.1.1.2], .own (.slice s.1.1.1 (s.1.2).length s.1.1.2) 26 2 (s.1.2).length ((s.1.2).flatMap TEnt.vals)]) (jmp := fun _ => none) rfl rfl rfl fn_94 (fun fid D l a9 w1 ob hob ha9 hw1 => ?_) (fun D x => ?_)
 ·skip
  have h2 : HS w [] [(fun s => .star [.obj l ob, .obj D (.deferred (some [])), .blk b1 77 1 [.slice s.1.1 s.2.length s.1.2], .own (.slice s.1.1 (s.2).length s.1.2) 26 2 (s.2).length ((s.2).flatMap TEnt.vals)]) ((none, 0), [])] w1 := HS.star_close (Bs := [_, _, _, _]) ((hw1.own_nil 26 2).ent aEt)
  refine Calls.mono (c94 w1 ((Option Addr × Nat) × List TEnt) (fun n s => s.2.length + n ≤ 10000) (fun s => .star [.obj l ob, .obj D (.deferred (some [])), .blk b1 77 1 [.slice s.1.1 s.2.length s.1.2], .own (.slice s.1.1 (s.2).length s.1.2) 26 2 (s.2).length ((s.2).flatMap TEnt.vals)]) (fun s x s3 => s3.2 = s.2 ++ [x]) (fun _ => true) (fun _ => True) l bt j mo rm a cap L T d lo hi ((none, 0), []) 0 (HS.focus (Cs := [_]) (Ds := []) h2) ?_ (ht.keep h2) (hs.keep h2) (fun _ _ => trivial) hf (by show 0 + _ ≤ _; omega) hl hB hN h0) fun e w2 hx => ?_
  rotate_left
  ·obtain ⟨⟨sm, bm⟩, he, ⟨hr, _⟩, h5⟩ := hx
   refine ⟨⟨_, he⟩, ⟨sm, by have h7 := run_app (f := fun s : ((Option Addr × Nat) × List TEnt) => s.2) (fun _ _ _ h => h) hr; simpa using h7⟩, ?_⟩
   have h6 := HS.star_open (HS.callA h2 h5)
   subst hob
   exact h6.ent aEt
  intro n9 s2 x w3 h3 hI2 _
  have h4 := HS.star_open (HS.focus (Cs := [_]) (Ds := []) h3)
  subst hob
  obtain ⟨⟨ga, gc⟩, lg⟩ := s2
  dsimp only at h4 hI2 ⊢
  refine y_roundA (α := Nat) (fn := Tryz.f131) (As1 := fun b5 => .obj D (.deferred (some [])) :: [.blk b1 77 1 [.slice ga lg.length gc], .own (.slice ga (lg).length gc) 26 2 (lg).length ((lg).flatMap TEnt.vals), .blk b5 26 2 (TEnt.vals x)]) (L1 := fun b5 => [(5, .pointer (some ⟨b5, 0, none⟩)), (2, .pointer (some ⟨b1, 0, none⟩))]) h4 rfl (FR.round1 ha9 7 _ rfl) ?_ ?_
  ·skip
   refine aS ?_
   refine oAl (fun b2 _ => ?_) zr_26
   refine oSt ?_
   refine aS ?_
   exact s_join b2 aSx (fun w h => h.ent aEt)
  skip
  intro b5
  iterate 4 refine aS ?_
  refine o_h (h_buildSlice (cs := [_, _]) rfl rfl sl_77 zr_26 rfl rfl rfl) rfl (fun b3 _ => ?_)
  refine o_h (h_appendS (TEnt.vals x) rfl rfl rfl sl_77 Tryz.underlying77 zr_26 rfl aPk (src_blk aPk) rfl (ev1 _) (by omega) (by simp only [maxLen]; omega)) rfl (fun b4 _ => ?_)
  refine oSt ?_
  iterate 2 refine aS ?_
  exact s_end_rd rfl aPk (fun w h => ⟨(b4, lg ++ [x]), rfl, ⟨rfl, fun _ => by simp only [List.length_append, List.length_singleton]; omega⟩, by refine HS.star_close (Bs := [_, _, _, _]) ?_; simp only [List.length_append, List.length_singleton, List.flatMap_append, List.flatMap_cons, List.flatMap_nil, List.append_nil]; exact h.ent aEt⟩)
 skip
 obtain ⟨⟨⟨gx, gy⟩, lg⟩, hlg⟩ := x
 dsimp only at hlg
 subst hlg
 dsimp only
 refine s_rng_out (.inl rfl) ?_
 iterate 5 refine aS ?_
 exact s_retm (rs := [.tmp 4]) rfl aPk (.tmp rfl (.nil)) (fun w' h' => ⟨(gx, gy), rfl, trivial, h'.ent aEt⟩)
end Go.Proofs
namespace Gx
open Go Go.RowKit
set_option linter.unusedVariables false
set_option linter.unusedSectionVars false
section
variable {w0 w : World} {M : List Nat} {As Cs Ds Es Fs : List HA}
end
end Gx
namespace Go.Proofs
open Go Go.RowKit Gx
set_option linter.unusedVariables false
set_option linter.unusedSimpArgs false
attribute [local irreducible] Go.Calls Gx.S Gx.O Gx.D Gx.OpP Gx.OpQ Gx.OpH
set_option maxRecDepth 20000
theorem fn_131 : isFn Tryz.prog 131 = true := by kernel_rfl
theorem fn_95 : isFn Tryz.prog 95 = true := by kernel_rfl
theorem c95 (w : World) (bt : Nat) (j : Nat) (mo rm : Int) (a : Option Addr) (cap : Nat) (L : List LNd) (T : BT) (d lo hi : Nat) (hs : Nt w [] a L) (ht : TbR w [] bt (j : Int) mo rm a L.length cap) (hl : L.length ≤ 1000) (hB : Bel lo hi d T) (hN : NIn (pln L) T) (h0 : T.idx = 0) (hf : T.flat.length ≤ 10000) : Calls Tryz.prog 95 #[.func (.func 94) #[.pointer (some ⟨bt, 0, none⟩)] #[]] w fun en w' => ∃ g : Option Addr × Nat, en = .returned (.slice g.1 (T.flat).length g.2) ∧ True ∧ HS w [] [.own (.slice g.1 (T.flat).length g.2) 26 2 (T.flat).length ((T.flat).flatMap TEnt.vals)] w' := by
 refine enter (args := [_]) Tryz.func95 Tryz.ntmps95 rfl rfl (HS.refl w []) ?_
 iterate 7 refine aS ?_
 refine o_h (h_call rfl fn_131 rfl (fun w1 h1 => c131 w1 bt j mo rm a cap L T d lo hi (hs.later h1.nil) (ht.next h1.nil) hl hB hN h0 hf)) rfl (fun ⟨gu, gv⟩ _ => ?_)
 iterate 2 refine aS ?_
 exact s_retv (rs := [.tmp 2]) rfl (.tmp rfl (.nil)) (fun w' h' => ⟨(gu, gv), rfl, trivial, h'.ent aEt⟩)
theorem c51o (w : World) (j : Nat) (mo rm : Int) (a : Option Addr) (cap : Nat) (L : List LNd) (T : BT) (d lo hi : Nat) (hs : Nt w [] a L) (hB : Bd (pln L)) (hkl : ∀ i, i < L.length → ∀ x ∈ (nth L i).es, x.key.length ≤ 1000000) (h0 : (treE (⟨(j : Int), mo, rm, pln L⟩ : Tre)).2 = 0) (hl2 : L.length ≤ 1000) (hBl : Bel lo hi d T) (hN : NIn (pln L) T) (hT0 : T.idx = 0) (hf : T.flat.length ≤ 10000) : Calls Tryz.prog 51 #[.agg #[.int .i64 (j : Int), .int .i64 mo, .int .i64 rm, .slice a L.length cap]] w fun en w' => ∃ g : Option Addr × Nat, en = .returned (.tuple #[.slice g.1 (T.flat).length g.2, .int .i64 0]) ∧ True ∧ HS w [] [.own (.slice g.1 (T.flat).length g.2) 26 2 (T.flat).length ((T.flat).flatMap TEnt.vals)] w' := by
 obtain ⟨hc0, hz0, hl0, hl120, hn0, _, _⟩ := treE_0 h0
 rw [show ((⟨(j : Int), mo, rm, pln L⟩ : Tre)).ns = pln L from rfl, pln_len] at hl0 hl120
 have hj : j ≤ 3 := by obtain ⟨j9, e9, hj9⟩ := col_ok hc0; have e8 : ((j : Nat) : Int) = (j9 : Int) := e9; omega
 have hT : TOk (j : Int) (pln L) := tok_of (t := (⟨(j : Int), mo, rm, pln L⟩ : Tre)) hn0
 have hmo := (sizE_0 hz0).1
 simp only [] at hmo
 refine enter (args := [_]) Tryz.func51 Tryz.ntmps51 rfl rfl (HS.refl w []) ?_
 iterate 2 refine aS ?_
 refine oBx fun b1 _ => ?_
 iterate 6 refine aS ?_
 refine o_h (h_call rfl fn_84 rfl (fun w1 h1 => c84o w1 j mo rm a cap L (hs.later h1.nil) hB hkl h0)) rfl (fun ⟨b9, ⟨gn9, c9⟩, L9⟩ hF9 => ?_)
 dsimp only
 obtain ⟨hL9, hn9, hm9⟩ := hF9
 simp only [] at hL9 hn9 hm9
 have hl9 : L9.length = L.length := by rw [← pln_len L9, hL9, pln_len]
 have hB9 : Bd (pln L9) := by rw [hL9]; exact hB
 have hT9 : TOk (j : Int) (pln L9) := by rw [hL9]; exact hT
 have hK9 : ∀ i, i < L9.length → ∀ y ∈ (nth L9 i).es, keyOk (j : Int) y.key = true ∧ y.key.length ≤ 1000000 := fun i hi y hy => tok_key hT9 i (by rw [pln_len]; exact hi) y (by rw [pln_nth hi]; exact hy)
 iterate 12 refine aS ?_
 refine s_cond rfl (fun h2 => ?_) fun h2 => ?_
 ·try simp only [Bool.not_eq_true', decide_eq_false_iff_not] at h2
  exfalso; first | omega | (simp at h2; done) | (simp_all; done)
 try simp only [Bool.not_eq_false', decide_eq_true_eq] at h2
 iterate 5 refine aS ?_
 refine o_h (h_call rfl fn_95 rfl (fun w1 h1 => c95 w1 b9 j mo rm (some ⟨gn9, 0, none⟩) c9 L9 T d lo hi (HS.nt_at h1 aPk aPk) (HS.tbr h1 aPk) (by omega) hBl (by rw [hL9]; exact hN) hT0 hf)) rfl (fun ⟨gu, gv⟩ _ => ?_)
 iterate 3 refine aS ?_
 exact s_retv (rs := [.tmp 2, .tmp 3]) rfl (.tmp rfl (.tmp rfl (.nil))) (fun w' h' => ⟨(gu, gv), rfl, trivial, h'.ent aEt⟩)
theorem fn_51 : isFn Tryz.prog 51 = true := by kernel_rfl
theorem c54 (w : World) (j : Nat) (a : Option Addr) (cap : Nat) (l : List TEnt) (key : List UInt8) (hj : j ≤ 3) (hs : Rw TEnt.vals 2 w [] a l) (hl : l.length ≤ 1000) (hK : ∀ y ∈ l, keyOk (j : Int) y.key = true ∧ y.key.length ≤ 1000000) (hk : keyOk (j : Int) key = true) (hkl : key.length ≤ 1000000) : Calls Tryz.prog 54 #[.int .i64 (j : Int), .slice a l.length cap, .string (bs key)] w fun en w' => en = .returned (.tuple #[.int .i64 ((plc (j : Int) l key) : Int), .bool (fnd (j : Int) l key)]) ∧ Below w.heap.size w w' := by
 refine enter (args := [_, _, _]) Tryz.func54 Tryz.ntmps54 rfl rfl (HS.refl w []) ?_
 iterate 11 refine aS ?_
 refine s_loopI (α := Nat) [8, 9, 10, 11, 12, 13, 14, 15, 16, 17, 18, 19, 20, 21, 22, 23, 24, 25] (fun k => [(8, .int .i64 (k : Int))]) (fun _ => HS w [] []) (fun k => k ≤ l.length ∧ ∀ q, q < k → cmpK (j : Int) (nth l q).key key < 0) (fun k => l.length - k) 0 ⟨Nat.zero_le _, fun j h => absurd h (Nat.not_lt_zero j)⟩ aSx (fun w h => h.ent aEt) (fun k hx => ?_)
 obtain ⟨hk1, hk3⟩ := hx
 iterate 8 refine aS ?_
 refine o_and 10 13 23 _ _ rfl
  (by
   intro hg1
   have hs2 := hg1; try simp only [decide_eq_true_eq] at hs2
   refine oOn 13 hg1 ?_
   refine aS ?_
   refine oOn 13 hg1 ?_
   refine aS ?_
   refine oOn 13 hg1 ?_
   refine aS ?_
   refine oOn 13 hg1 ?_
   refine o_p (p_indexAddr rfl rfl rfl sl_77 _ rfl (by omega) (Rw.some hs (by omega))) rfl ?_
   refine oOn 13 hg1 ?_
   refine aS ?_
   refine oOn 13 hg1 ?_
   refine o_q (q_load_old rfl rfl sz_9 ((hs.rdj 0 (i := k) (by omega) rfl))) rfl ?_
   refine oOn 13 hg1 ?_
   refine aS ?_
   refine oOn 13 hg1 ?_
   refine o_q (q_call rfl fn_33 rfl (fun w1 h1 => c33 w1 j (nth l k).key key hj (hK _ (mem_nth (by omega))).1 hk (hK _ (mem_nth (by omega))).2 hkl)) rfl ?_
   refine oOn 13 hg1 ?_
   refine aS ?_
   refine o_p (p_pickt rfl rfl hg1 rfl) rfl ?_
   refine aS ?_
   exact oJn 10 23)
  (by
   intro hg3
   have hs4 := hg3; try simp only [decide_eq_false_iff_not] at hs4
   refine oOf 13 hg3 ?_
   refine oOf 13 hg3 ?_
   refine oOf 13 hg3 ?_
   refine oOf 13 hg3 ?_
   refine oOf 13 hg3 ?_
   refine oOf 13 hg3 ?_
   refine oOf 13 hg3 ?_
   refine oOf 13 hg3 ?_
   refine oOf 13 hg3 ?_
   refine o_p (p_pickf rfl rfl hg3 rfl) rfl ?_
   refine aS ?_
   exact oJn 10 23) ?_
 refine aS ?_
 refine s_cond rfl (fun h5 => ?_) fun h5 => ?_
 ·try simp only [Bool.and_eq_true, decide_eq_true_eq] at h5
  obtain ⟨hk5, hk6⟩ := h5
  iterate 5 refine aS ?_
  try refine oWr ?_
  iterate 3 refine aS ?_
  exact s_backI (k + 1) (by omega) ⟨by omega, fun q hq => (Nat.lt_or_ge q k).elim (hk3 q) (fun h9 => by obtain rfl : q = k := (by omega); exact hk6)⟩ aSx (fun w h => h.ent aEt)
 try simp only [Bool.and_eq_false_iff, decide_eq_false_iff_not] at h5
 refine s_exit_to rfl ?_
 iterate 8 refine aS ?_
 refine o_and 10 31 41 _ _ rfl
  (by
   intro hg6
   have hs7 := hg6; try simp only [decide_eq_true_eq] at hs7
   refine oOn 31 hg6 ?_
   refine aS ?_
   refine oOn 31 hg6 ?_
   refine aS ?_
   refine oOn 31 hg6 ?_
   refine aS ?_
   refine oOn 31 hg6 ?_
   refine o_p (p_indexAddr rfl rfl rfl sl_77 _ rfl (by omega) (Rw.some hs (by omega))) rfl ?_
   refine oOn 31 hg6 ?_
   refine aS ?_
   refine oOn 31 hg6 ?_
   refine o_q (q_load_old rfl rfl sz_9 ((hs.rdj 0 (i := k) (by omega) rfl))) rfl ?_
   refine oOn 31 hg6 ?_
   refine aS ?_
   refine oOn 31 hg6 ?_
   refine o_q (q_call rfl fn_33 rfl (fun w1 h1 => c33 w1 j (nth l k).key key hj (hK _ (mem_nth (by omega))).1 hk (hK _ (mem_nth (by omega))).2 hkl)) rfl ?_
   refine oOn 31 hg6 ?_
   refine aS ?_
   refine o_p (p_pickt rfl rfl hg6 rfl) rfl ?_
   refine aS ?_
   exact oJn 10 41)
  (by
   intro hg8
   have hs9 := hg8; try simp only [decide_eq_false_iff_not] at hs9
   refine oOf 31 hg8 ?_
   refine oOf 31 hg8 ?_
   refine oOf 31 hg8 ?_
   refine oOf 31 hg8 ?_
   refine oOf 31 hg8 ?_
   refine oOf 31 hg8 ?_
   refine oOf 31 hg8 ?_
   refine oOf 31 hg8 ?_
   refine oOf 31 hg8 ?_
   refine o_p (p_pickf rfl rfl hg8 rfl) rfl ?_
   refine aS ?_
   exact oJn 10 41) ?_
 iterate 3 refine aS ?_
 exact s_retv (rs := [.tmp 6, .tmp 7]) rfl (.tmp rfl (.tmp rfl (.nil))) (fun w' h' => ⟨by have hpk : (plc (j : Int) l key) = k := plc_is hk1 hk3 (fun h9 => by omega); simp only [retV, fnd]; (rw [hpk]) <;> (try (first | rfl | (congr 3; simp) | simp)), h'.below⟩)
theorem c55 (w : World) (j : Nat) (mo rm : Int) (a : Option Addr) (cap : Nat) (L : List LNd) (count lo d : Nat) (hs : Nt w [] a L) (hB : Bd (pln L)) (hl0 : 0 < L.length) (hT : TOk (j : Int) (pln L)) (hd : deepT (pln L) (pln L).length 0 = (d : Int)) (hdl : d ≤ 1000) (hp : (lo + 1) ^ d ≤ count + 1) (hc : count ≤ 1000) (hmo : 0 ≤ mo ∧ mo ≤ 1000) (hlo : mo / 2 = (lo : Int)) : Calls Tryz.prog 55 #[.agg #[.int .i64 (j : Int), .int .i64 mo, .int .i64 rm, .slice a L.length cap], .int .i64 (count : Int)] w fun en w' => en = .returned (.bool true) ∧ Below w.heap.size w w' := by
 refine enter (args := [_, _]) Tryz.func55 Tryz.ntmps55 rfl rfl (HS.refl w []) ?_
 iterate 2 refine aS ?_
 refine oBx fun b1 _ => ?_
 iterate 5 refine aS ?_
 refine o_q (q_call rfl fn_42 rfl (fun w1 h1 => c42 w1 j mo rm a cap L (hs.later h1.nil) hB hl0 hT)) rfl ?_
 refine o_p (p_field1 rfl rfl fd_71_0 sz_3 rfl) rfl ?_
 refine o_slot (show _ = Value.int .i64 ((d : Int) + 1) from by rw [← hd]) ?_
 iterate 12 refine aS ?_
 refine s_loopI (α := Nat) [6, 7, 11, 12, 13, 14, 15, 16, 17, 18, 19, 20, 21] (fun k => [(7, .int .i64 ((k : Int) + 2)), (6, .int .i64 (((lo + 1) ^ k : Nat) : Int))]) (fun _ => HS w [] [.blk b1 24 4 [.int .i64 (j : Int), .int .i64 mo, .int .i64 rm, .slice a L.length cap]]) (fun k => k ≤ d) (fun k => d - k) 0 (Nat.zero_le _) aSx (fun w h => h.ent aEt) (fun k hk1 => ?_)
 have hpk := Nat.le_trans (pow_le_d (lo := lo) hk1) hp
 have hz9 : (((lo + 1) ^ k : Nat) : Int) ≤ (count : Int) + 1 := Int.ofNat_le.2 hpk
 iterate 7 refine aS ?_
 refine s_cond rfl (fun h2 => ?_) fun h2 => ?_
 ·try simp only [decide_eq_true_eq] at h2
  have hk2 : k + 1 ≤ d := by have hq := h2; omega
  have hpk1 := Nat.le_trans (pow_le_d (lo := lo) hk2) hp
  have hpe : (((lo + 1) ^ k : Nat) : Int) * ((lo : Int) + 1) = (((lo + 1) ^ (k + 1) : Nat) : Int) := by rw [Nat.pow_succ]; simp
  have hpe0 : (0 : Int) ≤ (((lo + 1) ^ (k + 1) : Nat) : Int) := Int.natCast_nonneg _
  have hpe1 : (((lo + 1) ^ (k + 1) : Nat) : Int) ≤ 1001 := Int.le_trans (Int.ofNat_le.2 (Nat.le_trans hpk1 (show count + 1 ≤ 1001 by omega))) (by decide)
  iterate 7 refine aS ?_
  refine o_p (p_quo_nn rfl rfl rfl (by omega) (by omega) (by omega)) rfl ?_
  refine aS ?_
  try refine oWr ?_
  try rw [hlo]
  refine aS ?_
  try refine oWr ?_
  refine o_slot (show _ = Value.int .i64 (((lo + 1) ^ (k + 1) : Nat) : Int) from by first | rfl | (rw [Nat.pow_succ]; simp)) ?_
  iterate 6 refine aS ?_
  try refine oWr ?_
  iterate 2 refine aS ?_
  exact s_backI (k + 1) (by omega) (by omega) (by rw [show ((k + 1 : Nat) : Int) + 2 = (k : Int) + 2 + 1 from by omega]; exact aSx) (fun w h => h.ent aEt)
 try simp only [decide_eq_false_iff_not] at h2
 refine s_exit_to rfl ?_
 iterate 5 refine aS ?_
 refine o_or 5 24 29 _ _ rfl
  (by
   intro hg3
   have hs4 := hg3; try simp only [decide_eq_false_iff_not] at hs4
   refine oOn 24 hg3 ?_
   refine aS ?_
   refine oOn 24 hg3 ?_
   refine aS ?_
   try refine oWr ?_
   refine oOn 24 hg3 ?_
   refine aS ?_
   refine oOn 24 hg3 ?_
   refine aS ?_
   refine o_p (p_pickf rfl rfl hg3 rfl) rfl ?_
   refine aS ?_
   exact oJn 5 29)
  (by
   intro hg5
   have hs6 := hg5; try simp only [decide_eq_true_eq] at hs6
   refine oOf 24 hg5 ?_
   refine oOf 24 hg5 ?_
   refine oOf 24 hg5 ?_
   refine oOf 24 hg5 ?_
   refine o_p (p_pickt rfl rfl hg5 rfl) rfl ?_
   refine aS ?_
   exact oJn 5 29) ?_
 iterate 2 refine aS ?_
 exact s_retv (rs := [.tmp 4]) rfl (.tmp rfl (.nil)) (fun w' h' => ⟨by simp only [retV, ge_iff_le, hz9, decide_true, Bool.or_true], h'.below⟩)
theorem c16u (w : World) (j : Nat) (mo rm : Int) (a : Option Addr) (cap : Nat) (L : List LNd) (x : TEnt) (fl : List TEnt) (hj : j ≤ 3) (hse : sizE mo rm = 0) (hs : Nt w [] a L) (hv : Sv (j : Int) mo rm 60 (pln L) fl) (hfl : fl.length ≤ 50) (hkk : x.key.length ≤ 1000000) (hx0 : entE (j : Int) x = 0) : Calls Tryz.prog 16 #[.agg #[.int .i64 (j : Int), .int .i64 mo, .int .i64 rm, .slice a L.length cap], .agg #[.string (bs x.key), .string (bs x.val)]] w fun en w' => ∃ g : ((Option Addr × Nat) × List LNd) × Value, en = .returned (.tuple #[.agg #[.int .i64 (tzE (if fnd (j : Int) fl x.key = true then 5 else 0 : Int) (j : Int)), .int .i64 (tzE (if fnd (j : Int) fl x.key = true then 5 else 0 : Int) mo), .int .i64 (tzE (if fnd (j : Int) fl x.key = true then 5 else 0 : Int) rm), .slice g.1.1.1 g.1.2.length g.1.1.2], g.2, .int .i64 (if fnd (j : Int) fl x.key = true then 5 else 0 : Int)]) ∧ ((if fnd (j : Int) fl x.key = true then 5 else 0 : Int) = 0 → Sv (j : Int) mo rm 60 (pln g.1.2) (insAt fl (plc (j : Int) fl x.key) x)) ∧ HS w [] [.nodes 26 102 g.1.1.1 g.1.1.2 g.1.2] w' := by
  have hce : colE12 (j : Int) = 0 := by unfold colE12; rw [if_pos (by omega)]
  have h0 := hv.tre hce hse (by decide)
  have hB := hv.bd hse (by decide)
  have hkl := hv.kl
  by_cases hf : fnd (j : Int) fl x.key = true
  · have hE : (if fnd (j : Int) fl x.key = true then 5 else 0 : Int) = 5 := if_pos hf
    rw [hE]
    have h9 := c16c w j mo rm a cap L x hs hB hkl h0 hkk hx0 (fun h8 => absurd ((hv.has x.key).2 hf) h8) (by rw [hv.insE hse hfl hx0, if_pos hf]; decide)
    rw [hv.insE hse hfl hx0, if_pos hf] at h9
    exact Calls.mono h9 fun en w' h => ⟨((((none, 0) : Option Addr × Nat), []), .slice none 0 0), h.1, ⟨fun h8 => absurd h8 (by decide), nodes_nil 26 102 (HS.of_below h.2)⟩⟩
  · have hE : (if fnd (j : Int) fl x.key = true then 5 else 0 : Int) = 0 := if_neg hf
    rw [hE]
    have hi := hv.ins hse (by decide) (by omega) hx0 (fun h9 => hf ((hv.has x.key).1 h9))
    refine (c16o w j mo rm a cap L x hs hB hkl h0 hkk hx0 (fun _ => hi.1) (by rw [hv.insE hse hfl hx0, if_neg hf]) ((hi.2.sm hse).mono (by decide))).mono fun en w' hh => ?_
    obtain ⟨g, he, hg, h⟩ := hh
    exact ⟨(((some ⟨g.1.1.1, 0, none⟩, g.1.1.2), g.1.2), _), he, fun _ => by rw [hg]; exact hi.2, h.ent aEt⟩
theorem c37u (w : World) (j : Nat) (mo rm : Int) (a : Option Addr) (cap : Nat) (L : List LNd) (x : TEnt) (fl : List TEnt) (hj : j ≤ 3) (hse : sizE mo rm = 0) (hs : Nt w [] a L) (hv : Sv (j : Int) mo rm 60 (pln L) fl) (hfl : fl.length ≤ 50) (hkk : x.key.length ≤ 1000000) (hx0 : entE (j : Int) x = 0) : Calls Tryz.prog 37 #[.agg #[.int .i64 (j : Int), .int .i64 mo, .int .i64 rm, .slice a L.length cap], .agg #[.string (bs x.key), .string (bs x.val)]] w fun en w' => ∃ g : ((Option Addr × Nat) × List LNd) × Value, en = .returned (.tuple #[.agg #[.int .i64 (tzE (if fnd (j : Int) fl x.key = true then 0 else 6 : Int) (j : Int)), .int .i64 (tzE (if fnd (j : Int) fl x.key = true then 0 else 6 : Int) mo), .int .i64 (tzE (if fnd (j : Int) fl x.key = true then 0 else 6 : Int) rm), .slice g.1.1.1 g.1.2.length g.1.1.2], g.2, .int .i64 (if fnd (j : Int) fl x.key = true then 0 else 6 : Int)]) ∧ ((if fnd (j : Int) fl x.key = true then 0 else 6 : Int) = 0 → Sv (j : Int) mo rm 60 (pln g.1.2) (fl.set (plc (j : Int) fl x.key) x)) ∧ HS w [] [.nodes 26 102 g.1.1.1 g.1.1.2 g.1.2] w' := by
  have hce : colE12 (j : Int) = 0 := by unfold colE12; rw [if_pos (by omega)]
  have h0 := hv.tre hce hse (by decide)
  have hB := hv.bd hse (by decide)
  have hkl := hv.kl
  by_cases hf : fnd (j : Int) fl x.key = true
  · have hE : (if fnd (j : Int) fl x.key = true then 0 else 6 : Int) = 0 := if_pos hf
    rw [hE]
    have hi := hv.rep hse hx0 ((hv.has x.key).2 hf)
    refine (c37o w j mo rm a cap L x hs hB hkl hkk h0 hx0 ((hv.has x.key).2 hf)).mono fun en w' hh => ?_
    obtain ⟨g, he, hg, h⟩ := hh
    exact ⟨(((some ⟨g.1.1, 0, none⟩, g.1.2), g.2), _), he, fun _ => by rw [hg]; exact hi, h.ent aEt⟩
  · have hE : (if fnd (j : Int) fl x.key = true then 0 else 6 : Int) = 6 := if_neg hf
    rw [hE]
    have h9 := c37m w j mo rm a cap L x hs hB hkl hkk h0 hx0 (fun h9 => hf ((hv.has x.key).1 h9))
    exact Calls.mono h9 fun en w' h => ⟨((((none, 0) : Option Addr × Nat), []), .int .i64 0), h.1, ⟨fun h8 => absurd h8 (by decide), nodes_nil 26 102 (HS.of_below h.2)⟩⟩
theorem c25u (w : World) (j : Nat) (mo rm : Int) (a : Option Addr) (cap : Nat) (L : List LNd) (key : List UInt8) (fl : List TEnt) (hj : j ≤ 3) (hse : sizE mo rm = 0) (hs : Nt w [] a L) (hv : Sv (j : Int) mo rm 60 (pln L) fl) (hfl : fl.length ≤ 50) (hkk : key.length ≤ 1000000) (hx0 : keyE (j : Int) key = 0) : Calls Tryz.prog 25 #[.agg #[.int .i64 (j : Int), .int .i64 mo, .int .i64 rm, .slice a L.length cap], .string (bs key)] w fun en w' => ∃ g : ((Option Addr × Nat) × List LNd) × Value, en = .returned (.tuple #[.agg #[.int .i64 (tzE (if fnd (j : Int) fl key = true then 0 else 6 : Int) (j : Int)), .int .i64 (tzE (if fnd (j : Int) fl key = true then 0 else 6 : Int) mo), .int .i64 (tzE (if fnd (j : Int) fl key = true then 0 else 6 : Int) rm), .slice g.1.1.1 g.1.2.length g.1.1.2], g.2, .int .i64 (if fnd (j : Int) fl key = true then 0 else 6 : Int)]) ∧ ((if fnd (j : Int) fl key = true then 0 else 6 : Int) = 0 → Sv (j : Int) mo rm 60 (pln g.1.2) (others fl (plc (j : Int) fl key))) ∧ HS w [] [.nodes 26 102 g.1.1.1 g.1.1.2 g.1.2] w' := by
  have hce : colE12 (j : Int) = 0 := by unfold colE12; rw [if_pos (by omega)]
  have h0 := hv.tre hce hse (by decide)
  have hB := hv.bd hse (by decide)
  have hkl := hv.kl
  by_cases hf : fnd (j : Int) fl key = true
  · have hE : (if fnd (j : Int) fl key = true then 0 else 6 : Int) = 0 := if_pos hf
    rw [hE]
    have hi := hv.rem hse (by decide) ((hv.has key).2 hf)
    refine (c25o w j mo rm a cap L key hs hB hkl h0 hkk hx0 ((hv.has key).2 hf) hi.1 ((hi.2.sm hse).mono (by decide)) (Nat.le_trans hi.2.len (by decide))).mono fun en w' hh => ?_
    obtain ⟨g, he, hg, h⟩ := hh
    exact ⟨(((some ⟨g.1.1.1, 0, none⟩, g.1.1.2), g.1.2), _), he, fun _ => by rw [hg]; exact hi.2, h.ent aEt⟩
  · have hE : (if fnd (j : Int) fl key = true then 0 else 6 : Int) = 6 := if_neg hf
    rw [hE]
    have h9 := c25m w j mo rm a cap L key hs hB hkl h0 hkk hx0 (fun h9 => hf ((hv.has key).1 h9))
    exact Calls.mono h9 fun en w' h => ⟨((((none, 0) : Option Addr × Nat), []), .slice none 0 0), h.1, ⟨fun h8 => absurd h8 (by decide), nodes_nil 26 102 (HS.of_below h.2)⟩⟩
set_option maxHeartbeats 400000 in
theorem c12z (w : World) (co mo rm : Int) (al : Option Addr) (ca : Nat) (l : List (Int × TEnt)) (hs : Rw actV 3 w [] al l) (hz : ¬ ((colE12 co = 0 ∧ sizE mo rm = 0) ∧ l.length ≤ 40)) : Calls Tryz.prog 12 #[.int .i64 co, .agg #[.int .i64 mo, .int .i64 rm], .slice al l.length ca] w fun en w' => en = .returned (.bool true) ∧ Below w.heap.size w w' := by
 refine enter (args := [_, _, _]) Tryz.func12 Tryz.ntmps12 rfl rfl (HS.refl w []) ?_
 iterate 2 refine aS ?_
 refine oBx fun b1 _ => ?_
 iterate 5 refine aS ?_
 refine o_q (q_call rfl fn_13 rfl (fun w1 h1 => c13 w1)) rfl ?_
 iterate 2 refine aS ?_
 refine s_cond rfl (fun h2 => ?_) fun h2 => ?_
 ·try simp only [Bool.not_true] at h2
  exfalso; simp at h2
 try simp only [Bool.not_true] at h2
 iterate 5 refine aS ?_
 refine o_q (q_call rfl fn_30 rfl (fun w1 h1 => c30 w1 co)) rfl ?_
 iterate 2 refine aS ?_
 refine o_or 7 25 32 _ _ rfl
  (by
   intro hg3
   have hs4 := hg3; try simp only [Bool.not_eq_false', decide_eq_true_eq] at hs4
   refine oOn 25 hg3 ?_
   refine o_p (p_indexAddr_arr rfl rfl rfl ar_49 (Int.toNat _) (Int.toNat_of_nonneg (by omega)).symm (by omega)) rfl ?_
   refine oOn 25 hg3 ?_
   refine aS ?_
   refine oOn 25 hg3 ?_
   refine o_p (p_indexAddr_arr rfl rfl rfl ar_49 (Int.toNat _) (Int.toNat_of_nonneg (by omega)).symm (by omega)) rfl ?_
   refine oOn 25 hg3 ?_
   refine aS ?_
   refine oOn 25 hg3 ?_
   refine o_q (q_call rfl fn_31 rfl (fun w1 h1 => c31 w1 mo rm)) rfl ?_
   refine oOn 25 hg3 ?_
   refine aS ?_
   refine o_p (p_pickf rfl rfl hg3 rfl) rfl ?_
   refine aS ?_
   exact oJn 7 32)
  (by
   intro hg5
   have hs6 := hg5; try simp only [Bool.not_eq_true', decide_eq_false_iff_not] at hs6
   refine oOf 25 hg5 ?_
   refine oOf 25 hg5 ?_
   refine oOf 25 hg5 ?_
   refine oOf 25 hg5 ?_
   refine oOf 25 hg5 ?_
   refine oOf 25 hg5 ?_
   refine o_p (p_pickt rfl rfl hg5 rfl) rfl ?_
   refine aS ?_
   exact oJn 7 32) ?_
 refine aS ?_
 refine o_or 4 33 37 _ _ rfl
  (by
   intro hg7
   have hs8 := hg7; try simp only [Bool.or_eq_false_iff, Bool.not_eq_false', decide_eq_true_eq] at hs8
   refine oOn 33 hg7 ?_
   refine aS ?_
   refine oOn 33 hg7 ?_
   refine aS ?_
   refine oOn 33 hg7 ?_
   refine aS ?_
   refine o_p (p_pickf rfl rfl hg7 rfl) rfl ?_
   refine aS ?_
   exact oJn 4 37)
  (by
   intro hg9
   have hs10 := hg9; try simp only [Bool.or_eq_true, Bool.not_eq_true', decide_eq_false_iff_not] at hs10
   refine oOf 33 hg9 ?_
   refine oOf 33 hg9 ?_
   refine oOf 33 hg9 ?_
   refine o_p (p_pickt rfl rfl hg9 rfl) rfl ?_
   refine aS ?_
   exact oJn 4 37) ?_
 refine aS ?_
 refine s_cond rfl (fun h11 => ?_) fun h11 => ?_
 ·try simp only [Bool.or_eq_true, Bool.not_eq_true', decide_eq_false_iff_not, decide_eq_true_eq] at h11
  iterate 4 refine aS ?_
  exact s_retv (rs := [.tmp 6]) rfl (.tmp rfl (.nil)) (fun w' h' => ⟨by rfl, h'.below⟩)
 try simp only [Bool.or_eq_false_iff, Bool.not_eq_false', decide_eq_true_eq, decide_eq_false_iff_not] at h11
 exfalso; obtain ⟨⟨q1, q2⟩, q3⟩ := h11; exact hz ⟨⟨q1, q2⟩, by omega⟩
theorem sl_82 : tsl Tryz.prog 82 = some (85, 3, 40) := by kernel_rfl
instance : TFd Tryz.prog 85 1 1 26 := ⟨by kernel_rfl⟩
instance : TFd Tryz.prog 85 0 0 3 := ⟨by kernel_rfl⟩
theorem fn_54 : isFn Tryz.prog 54 = true := by kernel_rfl
theorem fn_55 : isFn Tryz.prog 55 = true := by kernel_rfl
set_option maxHeartbeats 4000000 in
theorem c12o (w : World) (j : Nat) (mo rm : Int) (al : Option Addr) (ca : Nat) (l : List (Int × TEnt)) (hs : Rw actV 3 w [] al l) (hl : l.length ≤ 40) (hj : j ≤ 3) (hse : sizE mo rm = 0) : Calls Tryz.prog 12 #[.int .i64 (j : Int), .agg #[.int .i64 mo, .int .i64 rm], .slice al l.length ca] w fun en w' => en = .returned (.bool true) ∧ Below w.heap.size w w' := by
 have hz := sz_of hse
 have hcE : colE12 (j : Int) = 0 := by unfold colE12; rw [if_pos (by omega)]
 have hemo := hz.emo
 have hhi8 := hz.hi8
 have hmo : 0 ≤ mo ∧ mo ≤ 1000 := by omega
 have hlo : mo / 2 = ((mo.toNat / 2 : Nat) : Int) := by omega
 refine enter (args := [_, _, _]) Tryz.func12 Tryz.ntmps12 rfl rfl (HS.refl w []) ?_
 iterate 2 refine aS ?_
 refine oBx fun b1 _ => ?_
 iterate 5 refine aS ?_
 refine o_q (q_call rfl fn_13 rfl (fun w1 h1 => c13 w1)) rfl ?_
 iterate 2 refine aS ?_
 refine s_cond rfl (fun h2 => ?_) fun h2 => ?_
 ·try simp only [Bool.not_true] at h2
  exfalso; simp at h2
 try simp only [Bool.not_true] at h2
 iterate 5 refine aS ?_
 refine o_q (q_call rfl fn_30 rfl (fun w1 h1 => c30 w1 (j : Int))) rfl ?_
 iterate 2 refine aS ?_
 refine o_or 7 25 32 _ _ rfl
  (by
   intro hg3
   have hs4 := hg3; try simp only [Bool.not_eq_false', decide_eq_true_eq] at hs4
   refine oOn 25 hg3 ?_
   refine o_p (p_indexAddr_arr rfl rfl rfl ar_49 (Int.toNat _) (Int.toNat_of_nonneg (by omega)).symm (by omega)) rfl ?_
   refine oOn 25 hg3 ?_
   refine aS ?_
   refine oOn 25 hg3 ?_
   refine o_p (p_indexAddr_arr rfl rfl rfl ar_49 (Int.toNat _) (Int.toNat_of_nonneg (by omega)).symm (by omega)) rfl ?_
   refine oOn 25 hg3 ?_
   refine aS ?_
   refine oOn 25 hg3 ?_
   refine o_q (q_call rfl fn_31 rfl (fun w1 h1 => c31 w1 mo rm)) rfl ?_
   refine oOn 25 hg3 ?_
   refine aS ?_
   refine o_p (p_pickf rfl rfl hg3 rfl) rfl ?_
   refine aS ?_
   exact oJn 7 32)
  (by
   intro hg5
   have hs6 := hg5; try simp only [Bool.not_eq_true', decide_eq_false_iff_not] at hs6
   refine oOf 25 hg5 ?_
   refine oOf 25 hg5 ?_
   refine oOf 25 hg5 ?_
   refine oOf 25 hg5 ?_
   refine oOf 25 hg5 ?_
   refine oOf 25 hg5 ?_
   refine o_p (p_pickt rfl rfl hg5 rfl) rfl ?_
   refine aS ?_
   exact oJn 7 32) ?_
 refine aS ?_
 refine o_or 4 33 37 _ _ rfl
  (by
   intro hg7
   have hs8 := hg7; try simp only [Bool.or_eq_false_iff, Bool.not_eq_false', decide_eq_true_eq] at hs8
   refine oOn 33 hg7 ?_
   refine aS ?_
   refine oOn 33 hg7 ?_
   refine aS ?_
   refine oOn 33 hg7 ?_
   refine aS ?_
   refine o_p (p_pickf rfl rfl hg7 rfl) rfl ?_
   refine aS ?_
   exact oJn 4 37)
  (by
   intro hg9
   have hs10 := hg9; try simp only [Bool.or_eq_true, Bool.not_eq_true', decide_eq_false_iff_not] at hs10
   refine oOf 33 hg9 ?_
   refine oOf 33 hg9 ?_
   refine oOf 33 hg9 ?_
   refine o_p (p_pickt rfl rfl hg9 rfl) rfl ?_
   refine aS ?_
   exact oJn 4 37) ?_
 refine aS ?_
 refine s_cond rfl (fun h11 => ?_) fun h11 => ?_
 ·try simp only [Bool.or_eq_true, Bool.not_eq_true', decide_eq_false_iff_not, decide_eq_true_eq] at h11
  exfalso; revert h11; simp [hcE, hse]; omega
 try simp only [Bool.or_eq_false_iff, Bool.not_eq_false', decide_eq_true_eq, decide_eq_false_iff_not] at h11
 iterate 4 refine aS ?_
 refine o_p (p_indexAddr_arr rfl rfl rfl ar_49 (Int.toNat _) (Int.toNat_of_nonneg (by omega)).symm (by omega)) rfl ?_
 refine aS ?_
 refine o_p (p_indexAddr_arr rfl rfl rfl ar_49 (Int.toNat _) (Int.toNat_of_nonneg (by omega)).symm (by omega)) rfl ?_
 refine aS ?_
 refine o_h (h_call rfl fn_29 rfl (fun w1 h1 => c29k w1 j mo rm hj hse)) rfl (fun ⟨⟨ae, cE⟩, LE⟩ hLE => ?_)
 dsimp only
 have hLE2 : pln LE = [⟨true, [], []⟩] := hLE
 iterate 3 refine aS ?_
 refine oAl (fun b12 _ => ?_) zr_24
 refine oSt ?_
 iterate 8 refine aS ?_
 refine s_cond rfl (fun h13 => ?_) fun h13 => ?_
 ·try simp only [Bool.not_eq_true', decide_eq_false_iff_not] at h13
  exfalso; simp at h13
 try simp only [Bool.not_eq_false', decide_eq_true_eq] at h13
 iterate 11 refine aS ?_
 refine s_weaken (L' := [(0, _), (2, _), (4, _), (6, _), (7, _), (9, _), (10, _)]) aSx (fun _ h => h) ?_
 refine s_loopI (α := (Nat × (Option Addr × Nat) × (Option Addr × Nat)) × List LNd × List TEnt) [6, 9, 10, 11, 12, 13, 14, 15, 16, 17, 18, 19, 49, 50, 51, 52, 53, 54, 55, 56, 57, 58, 59, 60, 61, 62, 63, 64, 65, 66, 67, 68, 69, 70, 71, 72, 73, 74, 75, 76, 77, 78, 79, 80, 81, 82, 83, 84, 85, 86, 87, 88, 89, 90, 91, 92, 93, 94, 95, 96, 97, 98, 99, 100, 101, 102, 103, 104, 105, 106, 107, 108, 109, 110, 111, 112, 113, 114, 115, 116, 117, 118, 119, 120, 121, 122, 123, 124, 125, 126, 127, 128, 129, 130, 131, 132, 133, 134, 135, 136, 137, 138, 139, 140, 141, 142, 143, 144, 145, 146, 147, 148, 149, 150, 151, 152, 153, 154, 155, 156, 157, 158, 159, 160, 161, 162, 163, 164, 165, 166, 167, 168, 169, 170, 171, 172, 173, 174, 175, 176, 177, 178, 179, 180, 181, 182, 183, 184, 185, 186, 187, 188, 189, 190, 191, 192, 193, 194, 195, 196, 197, 198, 199, 200, 201, 202, 203] (fun x => [(10, .int .i64 (x.1.1 : Int)), (9, .slice x.1.2.2.1 x.2.2.length x.1.2.2.2)]) (fun x => HS w [] [.blk b1 49 2 [.int .i64 mo, .int .i64 rm], .blk b12 24 4 [.int .i64 (j : Int), .int .i64 mo, .int .i64 rm, .slice x.1.2.1.1 (x.2.1).length x.1.2.1.2], .nodes 26 102 x.1.2.1.1 x.1.2.1.2 x.2.1, .own (.slice x.1.2.2.1 (x.2.2).length x.1.2.2.2) 26 2 (x.2.2).length ((x.2.2).flatMap TEnt.vals)]) (fun x => x.1.1 ≤ l.length ∧ Sv (j : Int) mo rm 60 (pln x.2.1) x.2.2 ∧ x.2.2.length ≤ x.1.1) (fun x => l.length - x.1.1) ((0, (ae, cE), (none, 0)), LE, []) ⟨Nat.zero_le _, by show Sv _ _ _ _ (pln LE) []; rw [hLE2]; exact Sv.one hse (by decide), Nat.le_refl _⟩ aSx (fun w h => (h.own_nil 26 2).ent aEt) (fun ⟨⟨i, ⟨ga, cap⟩, ⟨gl, cl⟩⟩, L, fl⟩ hx => ?_)
 dsimp only
 obtain ⟨hi1, hv, hfl⟩ := hx
 simp only [] at hi1 hv hfl
 have hLl := hv.len
 rw [pln_len] at hLl
 have hpl9 := plc_le (j : Int) (nth l i).2.key fl
 refine s_fact (fun w h => (HS.own_facts aPk h).2.1) fun hlc => ?_
 iterate 8 refine aS ?_
 refine s_cond rfl (fun h14 => ?_) fun h14 => ?_
 ·try simp only [decide_eq_true_eq] at h14
  have hil : i < l.length := by have hq := h14; omega
  iterate 7 refine aS ?_
  refine o_p (p_indexAddr rfl rfl rfl sl_82 _ rfl (by omega) (Rw.some hs (by omega))) rfl ?_
  refine aS ?_
  refine o_q (q_load_oldn _ rfl rfl sz_26 rfl (act_rd hs (by omega))) rfl ?_
  refine oAl (fun b15 _ => ?_) zr_26
  refine oSt ?_
  iterate 5 refine aS ?_
  refine o_q (q_call rfl fn_15 rfl (fun w1 h1 => c15 w1 (nth l i).2)) rfl ?_
  iterate 2 refine aS ?_
  refine s_cond rfl (fun h16 => ?_) fun h16 => ?_
  ·try simp only [Bool.not_eq_true'] at h16
   iterate 4 refine aS ?_
   exact s_retv (rs := [.tmp 6]) rfl (.tmp rfl (.nil)) (fun w' h' => ⟨by rfl, h'.below⟩)
  try simp only [Bool.not_eq_false'] at h16
  have hsl9 : tslimB (nth l i).2 = true := by have hq := h16; simpa using hq
  have hkk : (nth l i).2.key.length ≤ 1000000 := by rw [tslimB, decide_eq_true_eq] at hsl9; omega
  iterate 6 refine aS ?_
  refine o_q (q_call rfl fn_19 rfl (fun w1 h1 => c19 w1 j (nth l i).2 hj hkk)) rfl ?_
  iterate 2 refine aS ?_
  refine o_or 8 67 75 _ _ rfl
   (by
    intro hg17
    have hs18 := hg17; try simp only [Bool.not_eq_false', decide_eq_true_eq] at hs18
    refine oOn 67 hg17 ?_
    refine aS ?_
    refine oOn 67 hg17 ?_
    refine aS ?_
    refine oOn 67 hg17 ?_
    refine o_p (p_indexAddr rfl rfl rfl sl_82 _ rfl (by omega) (Rw.some hs (by omega))) rfl ?_
    refine oOn 67 hg17 ?_
    refine aS ?_
    refine oOn 67 hg17 ?_
    refine o_q (q_load_old rfl rfl sz_3 ((hs.rdj 0 (i := i) (by omega) rfl))) rfl ?_
    refine oOn 67 hg17 ?_
    refine o_q (q_call rfl fn_46 rfl (fun w1 h1 => c46 w1 _ _ _)) rfl ?_
    refine oOn 67 hg17 ?_
    refine aS ?_
    refine o_p (p_pickf rfl rfl hg17 rfl) rfl ?_
    refine aS ?_
    exact oJn 8 75)
   (by
    intro hg19
    have hs20 := hg19; try simp only [Bool.not_eq_true', decide_eq_false_iff_not] at hs20
    refine oOf 67 hg19 ?_
    refine oOf 67 hg19 ?_
    refine oOf 67 hg19 ?_
    refine oOf 67 hg19 ?_
    refine oOf 67 hg19 ?_
    refine oOf 67 hg19 ?_
    refine oOf 67 hg19 ?_
    refine o_p (p_pickt rfl rfl hg19 rfl) rfl ?_
    refine aS ?_
    exact oJn 8 75) ?_
  refine aS ?_
  refine s_cond rfl (fun h21 => ?_) fun h21 => ?_
  ·try simp only [Bool.or_eq_true, Bool.not_eq_true', decide_eq_false_iff_not, Bool.and_eq_false_iff] at h21
   refine s_exit_to rfl ?_
   iterate 3 refine aS ?_
   try refine oWr ?_
   iterate 2 refine aS ?_
   exact s_backI ((i + 1, (ga, cap), (gl, cl)), L, fl) (by (try simp only []); omega) ⟨by (try simp only []); omega, hv, by (try simp only []); omega⟩ aSx (fun w h => h.ent aEt)
  try simp only [Bool.or_eq_false_iff, Bool.not_eq_false', decide_eq_true_eq, Bool.and_eq_true] at h21
  have hx0 : entE (j : Int) (nth l i).2 = 0 := by have hq := h21; exact hq.1
  have hkd : 0 ≤ (nth l i).1 ∧ (nth l i).1 ≤ 2 := by have hq := h21; omega
  iterate 7 refine aS ?_
  refine o_q (q_call rfl fn_54 rfl (fun w1 h1 => c54 w1 j gl cl fl (nth l i).2.key hj (HS.rw_own ev2 h1 aPk rfl) (by omega) hv.keys (entE_key hx0) hkk)) rfl ?_
  iterate 7 refine aS ?_
  refine s_weaken (L' := [(0, _), (2, _), (4, _), (7, _), (9, _), (10, _), (11, _), (12, _), (13, _)]) aSx (fun _ h => h) ?_
  refine aS ?_
  refine oAl (fun b22 _ => ?_) zr_24
  iterate 12 refine aS ?_
  refine o_h (h_call rfl fn_45 rfl (fun w1 h1 => c45 w1 gl cl fl (HS.rw_own ev2 h1 aPk rfl) (by omega))) rfl (fun ⟨gn, cn⟩ _ => ?_)
  iterate 7 refine aS ?_
  refine o_p (p_indexAddr rfl rfl rfl sl_82 _ rfl (by omega) (Rw.some hs (by omega))) rfl ?_
  refine aS ?_
  refine o_q (q_load_old rfl rfl sz_3 ((hs.rdj 0 (i := i) (by omega) rfl))) rfl ?_
  iterate 7 refine aS ?_
  refine s_cutI (α := Int × ((Option Addr × Nat) × List LNd) × ((Option Addr × Nat) × List TEnt)) [15, 16, 17, 93, 94, 95, 96, 97, 98, 99, 100, 101, 102, 103, 104, 105, 106, 107, 108, 109, 110, 111, 112, 113, 114, 115, 116, 117, 118, 119, 120, 121, 122, 123, 124, 125, 126, 127, 128, 129, 130, 131, 132, 133, 134, 135, 136, 137, 138, 139, 140, 141, 142, 143, 144, 145, 146, 147, 148, 149, 150] (fun x => [(15, .int .i64 x.1), (16, .int .i64 x.1), (17, .slice x.2.2.1.1 x.2.2.2.length x.2.2.1.2)]) (fun x => HS w [] [.blk b22 24 4 [.int .i64 (tzE x.1 (j : Int)), .int .i64 (tzE x.1 mo), .int .i64 (tzE x.1 rm), .slice x.2.1.1.1 x.2.1.2.length x.2.1.1.2], .nodes 26 102 x.2.1.1.1 x.2.1.1.2 x.2.1.2, .own (.slice x.2.2.1.1 (x.2.2.2).length x.2.2.1.2) 26 2 (x.2.2.2).length ((x.2.2.2).flatMap TEnt.vals), .blk b1 49 2 [.int .i64 mo, .int .i64 rm], .blk b12 24 4 [.int .i64 (j : Int), .int .i64 mo, .int .i64 rm, .slice ga (L).length cap], .nodes 26 102 ga cap L, .own (.slice gl (fl).length cl) 26 2 (fl).length ((fl).flatMap TEnt.vals), .blk b15 26 2 (TEnt.vals (nth l i).2)]) (fun x => x.1 = 0 → Sv (j : Int) mo rm 60 (pln x.2.1.2) x.2.2.2 ∧ x.2.2.2.length ≤ i + 1) ?_ ?_
  ·skip
   refine s_cond rfl (fun h23 => ?_) fun h23 => ?_
   ·try simp only [decide_eq_true_eq] at h23
    refine aS ?_
    refine s_draw [8] mixed ?_
    refine dLn 0 [[]] ?_
    refine dLn 2 [[]] ?_
    refine d_h 1 rfl (h_call rfl fn_17 rfl (fun w1 h1 => c17 w1 (j : Int) mo rm ga cap L (HS.nt h1 aPk) (by omega) ((hv.sm hse).mono (by decide)))) (by kernel_rfl) (fun w h => h.ent aEt) rfl (fun ⟨⟨ga1, gc1⟩, LC1⟩ hLC1 => ?_)
    refine dBa ?_
    refine d_h 3 rfl (h_call rfl fn_16 rfl (fun w1 h1 => c16u w1 j mo rm ga1 gc1 LC1 (nth l i).2 fl hj hse (HS.nt h1 aPk) (by rw [hLC1]; exact hv) (by omega) hkk hx0)) (by kernel_rfl) (fun w h => h.ent aEt) rfl (fun ⟨⟨⟨gu, cu⟩, LU⟩, vu⟩ hU => ?_)
    refine dBa ?_
    refine dP 4 ?_
    refine dP 5 ?_
    refine dP 6 ?_
    refine dP 7 ?_
    refine dSt 8 ?_ (hl := (by simp only [setMany_length, List.length_set, List.length_cons, List.length_nil, List.length_map]; omega))
    refine dTu [] ?_
    refine dP 9 ?_
    refine dNi ?_
    iterate 4 refine aS ?_
    refine s_cond rfl (fun h24 => ?_) fun h24 => ?_
    ·skip
     have hfd :  fnd (j : Int) fl (nth l i).2.key = true := by have hq := h24; first | exact hq | (simp [hq]; done) | (simp at hq; simp [hq]; done) | (simp at hq; exact hq)
     iterate 3 refine aS ?_
     exact s_joinI (5, ((gu, cu), LU), ((gn, cn), fl)) (fun h9 => by cases h9) (by have hE : (if fnd (j : Int) fl (nth l i).2.key = true then 5 else 0 : Int) = 5 := if_pos hfd; rw [hE]; exact aSx) (fun w h => by have hE : (if fnd (j : Int) fl (nth l i).2.key = true then 5 else 0 : Int) = 5 := if_pos hfd; rw [hE] at h; exact h.ent aEt)
    skip
    have hfd : ¬ fnd (j : Int) fl (nth l i).2.key = true := by have hq := h24; first | exact hq | (simp [hq]; done) | (simp at hq; simp [hq]; done) | (simp at hq; exact hq)
    refine s_draw [6, 10] mixed ?_
    refine dP 0 ?_
    refine dP 1 ?_
    refine d_p 2 rfl (p_slice _ _ 0 (plc (j : Int) fl (nth l i).2.key) rfl rfl sl_77 rfl ⟨_, _, rfl, rfl⟩ (by omega) (by omega)) (by kernel_rfl) rfl rfl ?_
    refine d_slot (show _ = Value.slice (subA gl cl 0 2) (fl.take (plc (j : Int) fl (nth l i).2.key)).length (cl - 0) from by rw [show (fl.take (plc (j : Int) fl (nth l i).2.key)).length = (plc (j : Int) fl (nth l i).2.key) - 0 from by rw [List.length_take]; omega]) ?_
    refine dLn 4 [[5], [6, 5]] ?_
    refine dP 7 ?_
    refine dP 8 ?_
    refine d_p 9 rfl (p_slice _ _ (plc (j : Int) fl (nth l i).2.key) fl.length rfl rfl sl_77 ⟨_, _, rfl, rfl⟩ rfl (by omega) (by omega)) (by kernel_rfl) rfl rfl ?_
    refine d_two 3 5 rfl rfl  (h_call rfl fn_45 rfl (fun w1 h1 => c45 w1 (subA gl cl 0 2) (cl - 0) (fl.take (plc (j : Int) fl (nth l i).2.key)) (rw_take (Rw.cut (i := 0) (HS.rw_own ev2 h1 aPk rfl) hlc) (plc (j : Int) fl (nth l i).2.key)) (by rw [List.length_take]; omega))) (h_buildSlice (cs := [_, _]) rfl rfl sl_77 zr_26 rfl rfl rfl) (by kernel_rfl) (fun w h => h.ent aEt) rfl rfl  (fun ⟨gk, ck⟩ _ => ?_) (fun b25 _ => ?_)
    ·skip
     refine dBa ?_
     refine d_h 5 rfl (h_buildSlice (cs := [_, _]) rfl rfl sl_77 zr_26 rfl rfl rfl) (by kernel_rfl) (fun w h => h.ent aEt) rfl (fun b26 _ => ?_)
     refine dBa ?_
     refine d_h 6 rfl (h_appendS (TEnt.vals (nth l i).2) rfl rfl rfl sl_77 Tryz.underlying77 zr_26 rfl aPk (src_blk aPk) rfl (ev1 _) (by rw [List.length_take]; omega) (by rw [List.length_take]; simp only [maxLen]; omega)) (by kernel_rfl) (fun w h => h.ent aEt) rfl (fun b27 _ => ?_)
     refine dTu [10] ?_
     refine d_h 10 rfl (h_appendS ((fl.drop (plc (j : Int) fl (nth l i).2.key)).flatMap TEnt.vals) rfl rfl rfl sl_77 Tryz.underlying77 zr_26 rfl aPk (fun w h => Rw.src ev2 (Rw.cut (HS.rw_own ev2 h aPk rfl) hlc) (HS.refl w [])) (by rw [flat_length ev2, List.length_drop]) (flat_one ev1 _) (by rw [List.length_take]; omega) (by rw [List.length_take]; simp only [maxLen]; omega)) (by kernel_rfl) (fun w h => h.ent aEt) rfl (fun b28 _ => ?_)
     refine dTu [] ?_
     refine dP 11 ?_
     refine dNi ?_
     exact s_joinI (0, ((gu, cu), LU), (b28, (insAt fl (plc (j : Int) fl (nth l i).2.key) (nth l i).2))) (fun _ => ⟨hU (if_neg hfd), by show (insAt _ _ _).length ≤ _; rw [ins_len hpl9]; omega⟩) (by have hE : (if fnd (j : Int) fl (nth l i).2.key = true then 5 else 0 : Int) = 0 := if_neg hfd; rw [hE]; have hil9 : (insAt fl (plc (j : Int) fl (nth l i).2.key) (nth l i).2).length = (fl.take (plc (j : Int) fl (nth l i).2.key)).length + 1 + (fl.length - (plc (j : Int) fl (nth l i).2.key)) := (by rw [ins_len hpl9, List.length_take]; omega); rw [hil9]; exact aSx) (fun w h => by have hE : (if fnd (j : Int) fl (nth l i).2.key = true then 5 else 0 : Int) = 0 := if_neg hfd; rw [hE] at h; dsimp only; have hil9 : (insAt fl (plc (j : Int) fl (nth l i).2.key) (nth l i).2).length = (fl.take (plc (j : Int) fl (nth l i).2.key)).length + 1 + (fl.length - (plc (j : Int) fl (nth l i).2.key)) := (by rw [ins_len hpl9, List.length_take]; omega); rw [hil9, show (insAt fl (plc (j : Int) fl (nth l i).2.key) (nth l i).2).flatMap TEnt.vals = (fl.take (plc (j : Int) fl (nth l i).2.key)).flatMap TEnt.vals ++ TEnt.vals (nth l i).2 ++ (fl.drop (plc (j : Int) fl (nth l i).2.key)).flatMap TEnt.vals from by simp [insAt]]; exact h.ent aEt)
    skip
    refine dBa ?_
    refine d_h 3 rfl (h_call rfl fn_45 rfl (fun w1 h1 => c45 w1 (subA gl cl 0 2) (cl - 0) (fl.take (plc (j : Int) fl (nth l i).2.key)) (rw_take (Rw.cut (i := 0) (HS.rw_own ev2 h1 aPk rfl) hlc) (plc (j : Int) fl (nth l i).2.key)) (by rw [List.length_take]; omega))) (by kernel_rfl) (fun w h => h.ent aEt) rfl (fun ⟨gk, ck⟩ _ => ?_)
    refine dBa ?_
    refine d_h 6 rfl (h_appendS (TEnt.vals (nth l i).2) rfl rfl rfl sl_77 Tryz.underlying77 zr_26 rfl aPk (src_blk aPk) rfl (ev1 _) (by rw [List.length_take]; omega) (by rw [List.length_take]; simp only [maxLen]; omega)) (by kernel_rfl) (fun w h => h.ent aEt) rfl (fun b29 _ => ?_)
    refine dTu [10] ?_
    refine d_h 10 rfl (h_appendS ((fl.drop (plc (j : Int) fl (nth l i).2.key)).flatMap TEnt.vals) rfl rfl rfl sl_77 Tryz.underlying77 zr_26 rfl aPk (fun w h => Rw.src ev2 (Rw.cut (HS.rw_own ev2 h aPk rfl) hlc) (HS.refl w [])) (by rw [flat_length ev2, List.length_drop]) (flat_one ev1 _) (by rw [List.length_take]; omega) (by rw [List.length_take]; simp only [maxLen]; omega)) (by kernel_rfl) (fun w h => h.ent aEt) rfl (fun b30 _ => ?_)
    refine dTu [] ?_
    refine dP 11 ?_
    refine dNi ?_
    exact s_joinI (0, ((gu, cu), LU), (b30, (insAt fl (plc (j : Int) fl (nth l i).2.key) (nth l i).2))) (fun _ => ⟨hU (if_neg hfd), by show (insAt _ _ _).length ≤ _; rw [ins_len hpl9]; omega⟩) (by have hE : (if fnd (j : Int) fl (nth l i).2.key = true then 5 else 0 : Int) = 0 := if_neg hfd; rw [hE]; have hil9 : (insAt fl (plc (j : Int) fl (nth l i).2.key) (nth l i).2).length = (fl.take (plc (j : Int) fl (nth l i).2.key)).length + 1 + (fl.length - (plc (j : Int) fl (nth l i).2.key)) := (by rw [ins_len hpl9, List.length_take]; omega); rw [hil9]; exact aSx) (fun w h => by have hE : (if fnd (j : Int) fl (nth l i).2.key = true then 5 else 0 : Int) = 0 := if_neg hfd; rw [hE] at h; dsimp only; have hil9 : (insAt fl (plc (j : Int) fl (nth l i).2.key) (nth l i).2).length = (fl.take (plc (j : Int) fl (nth l i).2.key)).length + 1 + (fl.length - (plc (j : Int) fl (nth l i).2.key)) := (by rw [ins_len hpl9, List.length_take]; omega); rw [hil9, show (insAt fl (plc (j : Int) fl (nth l i).2.key) (nth l i).2).flatMap TEnt.vals = (fl.take (plc (j : Int) fl (nth l i).2.key)).flatMap TEnt.vals ++ TEnt.vals (nth l i).2 ++ (fl.drop (plc (j : Int) fl (nth l i).2.key)).flatMap TEnt.vals from by simp [insAt]]; exact h.ent aEt)
   try simp only [decide_eq_false_iff_not] at h23
   iterate 5 refine aS ?_
   refine s_cond rfl (fun h31 => ?_) fun h31 => ?_
   ·try simp only [decide_eq_true_eq] at h31
    refine aS ?_
    refine s_draw [8] mixed ?_
    refine dLn 0 [[]] ?_
    refine dLn 2 [[]] ?_
    refine d_h 1 rfl (h_call rfl fn_17 rfl (fun w1 h1 => c17 w1 (j : Int) mo rm ga cap L (HS.nt h1 aPk) (by omega) ((hv.sm hse).mono (by decide)))) (by kernel_rfl) (fun w h => h.ent aEt) rfl (fun ⟨⟨ga2, gc2⟩, LC2⟩ hLC2 => ?_)
    refine dBa ?_
    refine d_h 3 rfl (h_call rfl fn_37 rfl (fun w1 h1 => c37u w1 j mo rm ga2 gc2 LC2 (nth l i).2 fl hj hse (HS.nt h1 aPk) (by rw [hLC2]; exact hv) (by omega) hkk hx0)) (by kernel_rfl) (fun w h => h.ent aEt) rfl (fun ⟨⟨⟨gu, cu⟩, LU⟩, vu⟩ hU => ?_)
    refine dBa ?_
    refine dP 4 ?_
    refine dP 5 ?_
    refine dP 6 ?_
    refine dP 7 ?_
    refine dSt 8 ?_ (hl := (by simp only [setMany_length, List.length_set, List.length_cons, List.length_nil, List.length_map]; omega))
    refine dTu [] ?_
    refine dP 9 ?_
    refine dNi ?_
    refine aS ?_
    refine s_weaken (L' := [(0, _), (2, _), (4, _), (7, _), (9, _), (10, _), (11, _), (12, _), (13, _), (14, _), (15, _), (16, _), (17, _), (84, _), (85, _), (86, _), (87, _), (88, _), (89, _), (90, _), (91, _), (92, _)]) aSx (fun _ h => h) ?_
    iterate 4 refine aS ?_
    refine s_cond rfl (fun h32 => ?_) fun h32 => ?_
    ·try simp only [Bool.not_eq_true'] at h32
     have hfd : ¬ fnd (j : Int) fl (nth l i).2.key = true := by have hq := h32; first | exact hq | (simp [hq]; done) | (simp at hq; simp [hq]; done) | (simp at hq; exact hq)
     iterate 3 refine aS ?_
     exact s_joinI (6, ((gu, cu), LU), ((gn, cn), fl)) (fun h9 => by cases h9) (by have hE : (if fnd (j : Int) fl (nth l i).2.key = true then 0 else 6 : Int) = 6 := if_neg hfd; rw [hE]; exact aSx) (fun w h => by have hE : (if fnd (j : Int) fl (nth l i).2.key = true then 0 else 6 : Int) = 6 := if_neg hfd; rw [hE] at h; exact h.ent aEt)
    try simp only [Bool.not_eq_false'] at h32
    have hfd :  fnd (j : Int) fl (nth l i).2.key = true := by have hq := h32; first | exact hq | (simp [hq]; done) | (simp at hq; simp [hq]; done) | (simp at hq; exact hq)
    have hplt := fnd_lt hfd
    iterate 4 refine aS ?_
    refine o_fact (fun w h => own_addr (a := gn) (cap := cn) (n := fl.length) (by have h9 := fnd_lt hfd; omega) h aPk) fun hgn => ?_
    obtain ⟨g9, hg9, hcn1, hcn2⟩ := hgn
    subst hg9
    refine o_class (fun w h => HS.own_at (g := g9) (cap := cn) h aPk) ?_
    refine o_p (p_indexAddr rfl rfl rfl sl_77 _ rfl (by omega) rfl) rfl ?_
    refine o_h0 (h_store rfl rfl rfl sz_26 rfl aPt (by rw [flat_length ev2]; have h9 := fnd_lt hfd; show _ + 2 ≤ _; omega) rfl) (fun _ _ => ?_)
    refine aS ?_
    exact s_joinI (0, ((gu, cu), LU), ((some ⟨g9, 0, none⟩, cn), (fl.set (plc (j : Int) fl (nth l i).2.key) (nth l i).2))) (fun _ => ⟨hU (if_pos hfd), by show (fl.set _ _).length ≤ _; rw [List.length_set]; omega⟩) (by have hE : (if fnd (j : Int) fl (nth l i).2.key = true then 0 else 6 : Int) = 0 := if_pos hfd; rw [hE]; have hsl8 : (fl.set (plc (j : Int) fl (nth l i).2.key) (nth l i).2).length = fl.length := List.length_set; rw [hsl8]; exact aSx) (fun w h => by have hE : (if fnd (j : Int) fl (nth l i).2.key = true then 0 else 6 : Int) = 0 := if_pos hfd; rw [hE] at h; have hset : setMany (fl.flatMap TEnt.vals) ((plc (j : Int) fl (nth l i).2.key) * 2) (TEnt.vals (nth l i).2) = (fl.set (plc (j : Int) fl (nth l i).2.key) (nth l i).2).flatMap TEnt.vals := flat_set ev2 fl _ 0 _ _ (nth l i).2 (nth_get hplt) rfl (by show 0 + 2 ≤ 2; decide); have h2 := h.pick (A := .blk g9 26 (cn * 2) (setMany (fl.flatMap TEnt.vals) (0 + (plc (j : Int) fl (nth l i).2.key) * 2) (TEnt.vals (nth l i).2))) aPk; rw [Nat.zero_add, hset] at h2; replace h := HS.own_shut (n := (fl.set (plc (j : Int) fl (nth l i).2.key) (nth l i).2).length) h2 (flat_length ev2 _) (by rw [List.length_set]; omega) hcn2; dsimp only; exact h.ent aEt)
   try simp only [decide_eq_false_iff_not] at h31
   iterate 5 refine aS ?_
   refine s_cond rfl (fun h33 => ?_) fun h33 => ?_
   ·try simp only [decide_eq_true_eq] at h33
    refine aS ?_
    refine s_draw [9] mixed ?_
    refine dLn 0 [[]] ?_
    refine dFa 2 ?_
    refine dLd 3 [[]] ?_
    refine d_h 1 rfl (h_call rfl fn_17 rfl (fun w1 h1 => c17 w1 (j : Int) mo rm ga cap L (HS.nt h1 aPk) (by omega) ((hv.sm hse).mono (by decide)))) (by kernel_rfl) (fun w h => h.ent aEt) rfl (fun ⟨⟨ga3, gc3⟩, LC3⟩ hLC3 => ?_)
    refine dBa ?_
    refine d_h 4 rfl (h_call rfl fn_25 rfl (fun w1 h1 => c25u w1 j mo rm ga3 gc3 LC3 (nth l i).2.key fl hj hse (HS.nt h1 aPk) (by rw [hLC3]; exact hv) (by omega) hkk (show keyE (j : Int) _ = 0 from if_pos (entE_key hx0)))) (by kernel_rfl) (fun w h => h.ent aEt) rfl (fun ⟨⟨⟨gu, cu⟩, LU⟩, vu⟩ hU => ?_)
    refine dBa ?_
    refine dP 5 ?_
    refine dP 6 ?_
    refine dP 7 ?_
    refine dP 8 ?_
    refine dSt 9 ?_ (hl := (by simp only [setMany_length, List.length_set, List.length_cons, List.length_nil, List.length_map]; omega))
    refine dTu [] ?_
    refine dP 10 ?_
    refine dNi ?_
    refine aS ?_
    refine s_weaken (L' := [(0, _), (2, _), (4, _), (7, _), (9, _), (10, _), (11, _), (12, _), (13, _), (14, _), (15, _), (16, _), (17, _), (84, _), (85, _), (86, _), (87, _), (88, _), (89, _), (90, _), (91, _), (92, _)]) aSx (fun _ h => h) ?_
    iterate 4 refine aS ?_
    refine s_cond rfl (fun h34 => ?_) fun h34 => ?_
    ·try simp only [Bool.not_eq_true'] at h34
     have hfd : ¬ fnd (j : Int) fl (nth l i).2.key = true := by have hq := h34; first | exact hq | (simp [hq]; done) | (simp at hq; simp [hq]; done) | (simp at hq; exact hq)
     iterate 3 refine aS ?_
     exact s_joinI (6, ((gu, cu), LU), ((gn, cn), fl)) (fun h9 => by cases h9) (by have hE : (if fnd (j : Int) fl (nth l i).2.key = true then 0 else 6 : Int) = 6 := if_neg hfd; rw [hE]; exact aSx) (fun w h => by have hE : (if fnd (j : Int) fl (nth l i).2.key = true then 0 else 6 : Int) = 6 := if_neg hfd; rw [hE] at h; exact h.ent aEt)
    try simp only [Bool.not_eq_false'] at h34
    have hfd :  fnd (j : Int) fl (nth l i).2.key = true := by have hq := h34; first | exact hq | (simp [hq]; done) | (simp at hq; simp [hq]; done) | (simp at hq; exact hq)
    have hplt := fnd_lt hfd
    refine s_draw [8] mixed ?_
    refine dP 0 ?_
    refine dP 1 ?_
    refine d_p 2 rfl (p_slice _ _ 0 (plc (j : Int) fl (nth l i).2.key) rfl rfl sl_77 rfl ⟨_, _, rfl, rfl⟩ (by omega) (by omega)) (by kernel_rfl) rfl rfl ?_
    refine d_slot (show _ = Value.slice (subA gl cl 0 2) (fl.take (plc (j : Int) fl (nth l i).2.key)).length (cl - 0) from by rw [show (fl.take (plc (j : Int) fl (nth l i).2.key)).length = (plc (j : Int) fl (nth l i).2.key) - 0 from by rw [List.length_take]; omega]) ?_
    refine dP 4 ?_
    refine dP 5 ?_
    refine dP 6 ?_
    try refine dWr ?_
    refine d_p 7 rfl (p_slice _ _ ((plc (j : Int) fl (nth l i).2.key) + 1) fl.length rfl rfl sl_77 ⟨_, _, rfl, rfl⟩ rfl (by omega) (by omega)) (by kernel_rfl) rfl rfl ?_
    refine d_h 3 rfl (h_call rfl fn_45 rfl (fun w1 h1 => c45 w1 (subA gl cl 0 2) (cl - 0) (fl.take (plc (j : Int) fl (nth l i).2.key)) (rw_take (Rw.cut (i := 0) (HS.rw_own ev2 h1 aPk rfl) hlc) (plc (j : Int) fl (nth l i).2.key)) (by rw [List.length_take]; omega))) (by kernel_rfl) (fun w h => h.ent aEt) rfl (fun ⟨gk, ck⟩ _ => ?_)
    refine dBa ?_
    refine d_h 8 rfl (h_appendS ((fl.drop ((plc (j : Int) fl (nth l i).2.key) + 1)).flatMap TEnt.vals) rfl rfl rfl sl_77 Tryz.underlying77 zr_26 rfl aPk (fun w h => Rw.src ev2 (Rw.cut (HS.rw_own ev2 h aPk rfl) hlc) (HS.refl w [])) (by rw [flat_length ev2, List.length_drop]) (flat_one ev1 _) (by rw [List.length_take]; omega) (by rw [List.length_take]; simp only [maxLen]; omega)) (by kernel_rfl) (fun w h => h.ent aEt) rfl (fun b35 _ => ?_)
    refine dTu [] ?_
    refine dP 9 ?_
    refine dNi ?_
    exact s_joinI (0, ((gu, cu), LU), (b35, (others fl (plc (j : Int) fl (nth l i).2.key)))) (fun _ => ⟨hU (if_pos hfd), by have h9 := others_len (fnd_lt hfd); show (others _ _).length ≤ _; omega⟩) (by have hE : (if fnd (j : Int) fl (nth l i).2.key = true then 0 else 6 : Int) = 0 := if_pos hfd; rw [hE]; have hol9 : (others fl (plc (j : Int) fl (nth l i).2.key)).length = (fl.take (plc (j : Int) fl (nth l i).2.key)).length + (fl.length - ((plc (j : Int) fl (nth l i).2.key) + 1)) := (by have h9 := others_len (fnd_lt hfd); rw [List.length_take]; have h8 := fnd_lt hfd; omega); rw [hol9]; exact aSx) (fun w h => by have hE : (if fnd (j : Int) fl (nth l i).2.key = true then 0 else 6 : Int) = 0 := if_pos hfd; rw [hE] at h; dsimp only; have hol9 : (others fl (plc (j : Int) fl (nth l i).2.key)).length = (fl.take (plc (j : Int) fl (nth l i).2.key)).length + (fl.length - ((plc (j : Int) fl (nth l i).2.key) + 1)) := (by have h9 := others_len (fnd_lt hfd); rw [List.length_take]; have h8 := fnd_lt hfd; omega); rw [hol9, show (others fl (plc (j : Int) fl (nth l i).2.key)).flatMap TEnt.vals = (fl.take (plc (j : Int) fl (nth l i).2.key)).flatMap TEnt.vals ++ (fl.drop ((plc (j : Int) fl (nth l i).2.key) + 1)).flatMap TEnt.vals from by simp [others]]; exact h.ent aEt)
   try simp only [decide_eq_false_iff_not] at h33
   exfalso; omega
  intro ⟨E9, ⟨⟨gu, cu⟩, LU⟩, ⟨⟨gn, cn⟩, fn⟩⟩ hI9
  dsimp only
  simp only [] at hI9
  iterate 8 refine aS ?_
  refine s_cond rfl (fun h36 => ?_) fun h36 => ?_
  ·try simp only [Bool.not_eq_true', decide_eq_false_iff_not] at h36
   exfalso; simp at h36
  try simp only [Bool.not_eq_false', decide_eq_true_eq] at h36
  iterate 7 refine aS ?_
  refine s_cond rfl (fun h37 => ?_) fun h37 => ?_
  ·try simp only [Bool.not_eq_true', decide_eq_false_iff_not] at h37
   refine s_exit_to rfl ?_
   iterate 3 refine aS ?_
   try refine oWr ?_
   iterate 2 refine aS ?_
   exact s_backI ((i + 1, (ga, cap), (gl, cl)), L, fl) (by (try simp only []); omega) ⟨by (try simp only []); omega, hv, by (try simp only []); omega⟩ aSx (fun w h => h.ent aEt)
  try simp only [Bool.not_eq_false', decide_eq_true_eq] at h37
  obtain rfl : E9 = 0 := by have hq := h37; first | exact hq | omega
  obtain ⟨hv2, hfn⟩ := hI9 rfl
  have hz1 : ∀ v, tzE 0 v = v := fun v => if_pos rfl
  rw [hz1 (j : Int), hz1 mo, hz1 rm]
  obtain ⟨T4, d4, hB4, hN4, hT4, hF4⟩ := hv2.bt
  subst hF4
  have hLu := hv2.len
  rw [pln_len] at hLu
  have hf4 : T4.flat.length ≤ 10000 := by omega
  have h04 := hv2.tre hcE hse (by decide)
  obtain ⟨d5, hd5, hp5, hdl5⟩ := hv2.deep hse
  iterate 5 refine aS ?_
  refine oSt ?_
  iterate 5 refine aS ?_
  refine o_h (h_call rfl fn_17 rfl (fun w1 h1 => c17 w1 (j : Int) mo rm gu cu LU (HS.nt h1 aPk) (by omega) ((hv2.sm hse).mono (by decide)))) rfl (fun ⟨⟨ga4, gc4⟩, LC4⟩ hLC4 => ?_)
  refine o_h (h_call rfl fn_51 rfl (fun w1 h1 => c51o w1 j mo rm ga4 gc4 LC4 T4 d4 _ _ (HS.nt h1 aPk) (by rw [hLC4]; exact hv2.bd hse (by decide)) (Sv.kl (L := LC4) (by rw [hLC4]; exact hv2)) (by rw [hLC4]; exact h04) (by rw [← pln_len, hLC4, pln_len]; omega) hB4 (by rw [hLC4]; exact hN4) hT4 hf4)) rfl (fun ⟨gp, gq⟩ _ => ?_)
  iterate 8 refine aS ?_
  refine s_weaken (L' := [(0, _), (2, _), (4, _), (7, _), (9, _), (10, _), (18, _), (19, _)]) aSx (fun _ h => h) ?_
  iterate 4 refine aS ?_
  refine o_or 5 166 171 _ _ rfl
   (by
    intro hg38
    have hs39 := hg38; try simp only [Bool.not_eq_false', decide_eq_true_eq] at hs39
    refine oOn 166 hg38 ?_
    refine aS ?_
    refine oOn 166 hg38 ?_
    refine aS ?_
    refine oOn 166 hg38 ?_
    refine o_q (q_call rfl fn_52 rfl (fun w1 h1 => c52 w1 gp gn gq cn T4.flat T4.flat (HS.rw_own ev2 h1 aPk rfl) (HS.rw_own ev2 h1 aPk rfl) (by omega) (by omega))) rfl ?_
    refine oOn 166 hg38 ?_
    refine aS ?_
    refine o_p (p_pickf rfl rfl hg38 rfl) rfl ?_
    refine aS ?_
    exact oJn 5 171)
   (by
    intro hg40
    have hs41 := hg40; try simp only [Bool.not_eq_true', decide_eq_false_iff_not] at hs41
    refine oOf 166 hg40 ?_
    refine oOf 166 hg40 ?_
    refine oOf 166 hg40 ?_
    refine oOf 166 hg40 ?_
    refine o_p (p_pickt rfl rfl hg40 rfl) rfl ?_
    refine aS ?_
    exact oJn 5 171) ?_
  refine aS ?_
  refine o_or 5 172 177 _ _ rfl
   (by
    intro hg42
    have hs43 := hg42; try simp only [Bool.or_eq_false_iff, Bool.not_eq_false', decide_eq_true_eq] at hs43
    refine oOn 172 hg42 ?_
    refine aS ?_
    refine oOn 172 hg42 ?_
    refine aS ?_
    refine oOn 172 hg42 ?_
    refine aS ?_
    refine oOn 172 hg42 ?_
    refine aS ?_
    refine o_p (p_pickf rfl rfl hg42 rfl) rfl ?_
    refine aS ?_
    exact oJn 5 177)
   (by
    intro hg44
    have hs45 := hg44; try simp only [Bool.or_eq_true, Bool.not_eq_true', decide_eq_false_iff_not] at hs45
    refine oOf 172 hg44 ?_
    refine oOf 172 hg44 ?_
    refine oOf 172 hg44 ?_
    refine oOf 172 hg44 ?_
    refine o_p (p_pickt rfl rfl hg44 rfl) rfl ?_
    refine aS ?_
    exact oJn 5 177) ?_
  refine aS ?_
  refine o_or 4 178 182 _ _ rfl
   (by
    intro hg46
    have hs47 := hg46; try simp only [Bool.or_eq_false_iff, Bool.not_eq_false', decide_eq_true_eq, decide_eq_false_iff_not] at hs47
    refine oOn 178 hg46 ?_
    refine aS ?_
    refine oOn 178 hg46 ?_
    refine o_q (q_call rfl fn_18 rfl (fun w1 h1 => c18 w1 (j : Int) mo rm gu cu LU (HS.nt h1 aPk) (hv2.bd hse (by decide)) hv2.kl)) rfl ?_
    refine oOn 178 hg46 ?_
    refine aS ?_
    refine o_p (p_pickf rfl rfl hg46 rfl) rfl ?_
    refine aS ?_
    exact oJn 4 182)
   (by
    intro hg48
    have hs49 := hg48; try simp only [Bool.or_eq_true, Bool.not_eq_true', decide_eq_false_iff_not, decide_eq_true_eq] at hs49
    refine oOf 178 hg48 ?_
    refine oOf 178 hg48 ?_
    refine oOf 178 hg48 ?_
    refine o_p (p_pickt rfl rfl hg48 rfl) rfl ?_
    refine aS ?_
    exact oJn 4 182) ?_
  refine aS ?_
  refine o_or 6 183 189 _ _ rfl
   (by
    intro hg50
    have hs51 := hg50; try simp only [Bool.or_eq_false_iff, Bool.not_eq_false', decide_eq_true_eq, decide_eq_false_iff_not] at hs51
    refine oOn 183 hg50 ?_
    refine aS ?_
    refine oOn 183 hg50 ?_
    refine aS ?_
    refine oOn 183 hg50 ?_
    refine aS ?_
    refine oOn 183 hg50 ?_
    refine o_q (q_call rfl fn_55 rfl (fun w1 h1 => c55 w1 j mo rm gu cu LU T4.flat.length (mo.toNat / 2) d5 (HS.nt h1 aPk) (hv2.bd hse (by decide)) (by have h9 := hv2.pos; rwa [pln_len] at h9) hv2.tok hd5 (by omega) hp5 (by omega) hmo hlo)) rfl ?_
    refine oOn 183 hg50 ?_
    refine aS ?_
    refine o_p (p_pickf rfl rfl hg50 rfl) rfl ?_
    refine aS ?_
    exact oJn 6 189)
   (by
    intro hg52
    have hs53 := hg52; try simp only [Bool.or_eq_true, Bool.not_eq_true', decide_eq_false_iff_not, decide_eq_true_eq] at hs53
    refine oOf 183 hg52 ?_
    refine oOf 183 hg52 ?_
    refine oOf 183 hg52 ?_
    refine oOf 183 hg52 ?_
    refine oOf 183 hg52 ?_
    refine o_p (p_pickt rfl rfl hg52 rfl) rfl ?_
    refine aS ?_
    exact oJn 6 189) ?_
  refine aS ?_
  refine s_cond rfl (fun h54 => ?_) fun h54 => ?_
  ·try simp only [Bool.not_true, Bool.or_eq_true, Bool.not_eq_true', decide_eq_false_iff_not, decide_eq_true_eq] at h54
   exfalso; have hq := h54; simp [h04] at hq; omega
  try simp only [Bool.not_true, Bool.or_eq_false_iff, Bool.not_eq_false', decide_eq_true_eq, decide_eq_false_iff_not] at h54
  iterate 2 refine aS ?_
  refine s_weaken (L' := [(0, _), (2, _), (4, _), (7, _), (9, _), (10, _)]) aSx (fun _ h => h) ?_
  refine s_cutS (α := Bool) [190, 191, 192, 193, 194, 195, 196, 197, 198, 199, 200, 201, 202, 203] (fun z => [(203, .bool z)]) (fun z => z = false) ?_ ?_
  ·skip
   refine s_draw [] mixed ?_
   refine dP 0 ?_
   refine d_p 1 rfl (p_len_slice rfl rfl Tryz.underlying77) (by kernel_rfl) rfl rfl ?_
   refine dP 2 ?_
   refine dP 3 ?_
   apply d_split 193
   ·exact rfl
   ·intro hg55
    have hs56 := hg55; try simp only [decide_eq_true_eq] at hs56
    refine d_qon 4 193 [] rfl rfl rfl hg55 (q_loadn rfl rfl sz_24 aPk rfl) (by kernel_rfl) (by kernel_rfl) (by kernel_rfl) rfl ?_
    refine dPo 5 193 hg55 ?_
    refine d_pon 6 193 rfl rfl rfl hg55 (p_indexAddr_arr rfl rfl rfl ar_49 (Int.toNat _) (Int.toNat_of_nonneg (by omega)).symm (by omega)) (by kernel_rfl) rfl rfl ?_
    refine d_qon 7 193 [] rfl rfl rfl hg55 (q_load rfl rfl sz_3 aPk rfl) (by kernel_rfl) (by kernel_rfl) (by kernel_rfl) rfl ?_
    refine d_pon 8 193 rfl rfl rfl hg55 (p_indexAddr_arr rfl rfl rfl ar_49 (Int.toNat _) (Int.toNat_of_nonneg (by omega)).symm (by omega)) (by kernel_rfl) rfl rfl ?_
    refine d_qon 9 193 [] rfl rfl rfl hg55 (q_load rfl rfl sz_3 aPk rfl) (by kernel_rfl) (by kernel_rfl) (by kernel_rfl) rfl ?_
    refine d_hon 10 193 rfl rfl rfl hg55 (h_call rfl fn_32 rfl (fun w1 h1 => c32 w1 (j : Int) mo rm)) (by kernel_rfl) (fun w h => h.ent aEt) rfl (fun ⟨ge, gf⟩ _ => ?_)
    refine dBa ?_
    refine d_qon 11 193 [] rfl rfl rfl hg55 (q_call rfl fn_21 rfl (fun w1 h1 => by have hn : T4.flat = [] := List.eq_nil_of_length_eq_zero (by have hq := hg55; simp at hq; simpa using hq); have hLU1 : pln LU = [⟨true, [], []⟩] := (by have h9 := hv2; rw [hn] at h9; exact h9.nil hse); have hLUl : LU.length = 1 := (by rw [← pln_len, hLU1]; rfl); exact c21 w1 (j : Int) mo rm gu ge cu gf LU [(⟨true, none, 0, [], none, 0, []⟩ : LNd)] (HS.nt h1 aPk) (HS.nt (nodes_one 26 (h1.pick aPk)) .here) (by omega) (by decide) ((hv2.sm hse).mono (by decide)) (by rw [show pln [(⟨true, none, 0, [], none, 0, []⟩ : LNd)] = pln LU from hLU1.symm]; exact (hv2.sm hse).mono (by decide)) hLU1)) (by kernel_rfl) (by kernel_rfl) (by kernel_rfl) rfl ?_
    refine dPo 12 193 hg55 ?_
    refine d_p 13 rfl (p_pickt rfl rfl hg55 rfl) (by kernel_rfl) rfl rfl ?_
    refine dNi ?_
    exact s_joinI (!true) rfl aSx (fun w h => h.ent aEt)
   intro hg57
   have hs58 := hg57; try simp only [decide_eq_false_iff_not] at hs58
   refine dOf 4 193 hg57 ?_
   refine dOf 5 193 hg57 ?_
   refine dOf 6 193 hg57 ?_
   refine dOf 7 193 hg57 ?_
   refine dOf 8 193 hg57 ?_
   refine dOf 9 193 hg57 ?_
   refine dOf 10 193 hg57 ?_
   refine dOf 11 193 hg57 ?_
   refine dOf 12 193 hg57 ?_
   refine d_p 13 rfl (p_pickf rfl rfl hg57 rfl) (by kernel_rfl) rfl rfl ?_
   refine dNi ?_
   exact s_joinI false rfl aSx (fun w h => h.ent aEt)
  intro z9 hz9
  subst hz9
  refine s_cond rfl (fun h59 => ?_) fun h59 => ?_
  ·skip
   exfalso; first | (simp at h59; done) | simp_all
  skip
  iterate 5 refine aS ?_
  try refine oWr ?_
  iterate 2 refine aS ?_
  exact s_backI ((i + 1, (gu, cu), (gn, cn)), LU, T4.flat) (by (try simp only []); omega) ⟨by (try simp only []); omega, hv2, hfn⟩ aSx (fun w h => h.ent aEt)
 try simp only [decide_eq_false_iff_not] at h14
 refine s_exit_to rfl ?_
 iterate 4 refine aS ?_
 exact s_retv (rs := [.tmp 6]) rfl (.tmp rfl (.nil)) (fun w' h' => ⟨by rfl, h'.below⟩)
theorem c12 (w : World) (co mo rm : Int) (al : Option Addr) (ca : Nat) (l : List (Int × TEnt)) (hs : Rw actV 3 w [] al l) : Calls Tryz.prog 12 #[.int .i64 co, .agg #[.int .i64 mo, .int .i64 rm], .slice al l.length ca] w fun en w' => en = .returned (.bool true) ∧ Below w.heap.size w w' := by
  by_cases hz : (colE12 co = 0 ∧ sizE mo rm = 0) ∧ l.length ≤ 40
  · obtain ⟨j, rfl, hj⟩ := col_ok hz.1.1
    exact c12o w j mo rm al ca l hs hz.2 hj hz.1.2
  · exact c12z w co mo rm al ca l hs hz
end Go.Proofs
