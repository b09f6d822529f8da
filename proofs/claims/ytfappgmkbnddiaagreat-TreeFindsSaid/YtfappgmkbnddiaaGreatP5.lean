/- Contracts of the program's functions, proved by walking them with the rules of the Gx texts; without conditions beyond those that each contract names. -/
import Derived.WalkKit
import Derived.Deep.Draws
import Derived.TacticsIn
import Derived.OrdersIn
import Derived.RangeFuncLeaves
import Derived.Lib.Strings
import Derived.Laws.BytesArg
import Derived.Laws.IdiomStrings
import Derived.Deep.Quiet
import Derived.ProofKit
import Derived.OpenShut
import Derived.Laws.StructEq
import Derived.ChangeKeysEq
import Derived.Laws.Externs
import Derived.Lib.Overlaps
import Derived.Carry
import Derived.Laws.Small
import Derived.Lib.Bytealg
import Derived.Test.YtfappgmkbnddiaaGreatProg
import Derived.KernelRfl
import Derived.Lib.Builder
import Derived.Laws.Pointers
import Derived.RangeFuncRecord
import Derived.Test.YtfappgmkbnddiaaGreatP4
namespace Go.Proofs
open Go Go.RowKit Gx
set_option linter.unusedVariables false
set_option linter.unusedSimpArgs false
attribute [local irreducible] Go.Calls Gx.S Gx.O Gx.D Gx.OpP Gx.OpQ Gx.OpH

theorem fn_85 : isFn Tryz.prog 85 = true := by kernel_rfl
theorem fn_41 : isFn Tryz.prog 41 = true := by kernel_rfl


set_option maxRecDepth 20000 in
set_option maxHeartbeats 400000 in
theorem c41 (w : World) (co mo rm : Int) (a : Option Addr) (cap : Nat) (L : List LNd) (hs : Nt w [] a L) (hB : Bd (pln L)) (hkl : ∀ i, i < L.length → ∀ x ∈ (nth L i).es, x.key.length ≤ 1000000) : Calls Tryz.prog 41 #[.agg #[.int .i64 co, .int .i64 mo, .int .i64 rm, .slice a L.length cap]] w fun en w' => en = .returned (.tuple #[.int .i64 (treE (⟨co, mo, rm, pln L⟩ : Tre)).1, .int .i64 (treE (⟨co, mo, rm, pln L⟩ : Tre)).2]) ∧ Below w.heap.size w w' := by
  have hle := hB.len
  rw [pln_len] at hle
  have hes9 : ∀ i, i < L.length → (nth L i).es.length ≤ 1000 := fun i hi => by have h9 := hB.es i (by rw [pln_len]; exact hi); rw [pln_nth hi] at h9; exact h9
  have hcs9 : ∀ i, i < L.length → (nth L i).cs.length ≤ 1000 := fun i hi => by have h9 := hB.cs i (by rw [pln_len]; exact hi); rw [pln_nth hi] at h9; exact h9
  refine enter (args := [_]) Tryz.func41 Tryz.ntmps41 rfl rfl (HS.refl w []) ?_
  refine s_seq ?_
  refine s_region ?_
  refine o_h (h_box rfl rfl) rfl (fun b1 _ => ?_)
  refine oP ?_
  refine oP ?_
  refine o_nil ?_
  refine s_seq ?_
  refine s_seq ?_
  refine s_region ?_
  refine o_p (p_fieldAddr rfl rfl fd_24_0 sz_3 rfl) rfl ?_
  refine o_q (q_load rfl rfl sz_3 aPk rfl) rfl ?_
  refine o_q (q_call rfl fn_30 rfl (fun w1 h1 => c30 w1 _)) rfl ?_
  refine oP ?_
  refine o_nil ?_
  refine s_seq ?_
  refine s_region ?_
  refine oP ?_
  refine oP ?_
  refine o_nil ?_
  refine s_cond rfl (fun h2 => ?_) (fun h2 => ?_)
  · try simp only [Bool.not_eq_true', decide_eq_false_iff_not] at h2
    have hz := treE_c (t := (⟨co, mo, rm, pln L⟩ : Tre)) h2
    refine s_seq ?_
    refine s_region ?_
    refine oP ?_
    refine oP ?_
    refine oP ?_
    refine o_nil ?_
    exact s_retv (rs := [.tmp 2, .tmp 3]) rfl (.tmp rfl (.tmp rfl (.nil))) (fun w' h' => ⟨by rw [hz]; rfl, h'.below⟩)
  · try simp only [Bool.not_eq_false', decide_eq_true_eq] at h2
    have hc0 : colE12 co = 0 := by have hq := h2; omega
    obtain ⟨j, rfl, hj⟩ := col_ok hc0
    refine s_skip ?_
    refine s_seq ?_
    refine s_seq ?_
    refine s_region ?_
    refine o_p (p_fieldAddr rfl rfl fd_24_1 sz_3 rfl) rfl ?_
    refine o_q (q_load rfl rfl sz_3 aPk rfl) rfl ?_
    refine o_p (p_fieldAddr rfl rfl fd_24_2 sz_3 rfl) rfl ?_
    refine o_q (q_load rfl rfl sz_3 aPk rfl) rfl ?_
    refine o_q (q_call rfl fn_31 rfl (fun w1 h1 => c31 w1 _ _)) rfl ?_
    refine oP ?_
    refine o_nil ?_
    refine s_seq ?_
    refine s_region ?_
    refine oP ?_
    refine oP ?_
    refine o_nil ?_
    refine s_cond rfl (fun h3 => ?_) (fun h3 => ?_)
    · try simp only [Bool.not_eq_true', decide_eq_false_iff_not] at h3
      have hz := treE_s (t := (⟨(j : Int), mo, rm, pln L⟩ : Tre)) hc0 h3
      refine s_seq ?_
      refine s_region ?_
      refine oP ?_
      refine oP ?_
      refine oP ?_
      refine o_nil ?_
      exact s_retv (rs := [.tmp 2, .tmp 3]) rfl (.tmp rfl (.tmp rfl (.nil))) (fun w' h' => ⟨by rw [hz]; rfl, h'.below⟩)
    · try simp only [Bool.not_eq_false', decide_eq_true_eq] at h3
      have hc1 : sizE mo rm = 0 := by have hq := h3; omega
      have hsz2 : (3 ≤ mo ∧ mo ≤ 8) ∧ (mo / 2 ≤ rm ∧ rm ≤ mo) := sizE_0 hc1
      have hTL : ((⟨(j : Int), mo, rm, pln L⟩ : Tre)).ns.length = L.length := pln_len L
      refine s_skip ?_
      refine s_seq ?_
      refine s_seq ?_
      refine s_region ?_
      refine o_p (p_fieldAddr rfl rfl fd_24_3 sz_22 rfl) rfl ?_
      refine o_q (q_load rfl rfl sz_22 aPk rfl) rfl ?_
      refine o_p (p_len_slice rfl rfl Tryz.underlying22) rfl ?_
      refine oP ?_
      refine o_nil ?_
      refine s_cond rfl (fun h4 => ?_) (fun h4 => ?_)
      · try simp only [decide_eq_true_eq] at h4
        have hz := treE_l (t := (⟨(j : Int), mo, rm, pln L⟩ : Tre)) hc0 hc1 (by rw [hTL]; have hq := h4; omega)
        refine s_seq ?_
        refine s_region ?_
        refine oP ?_
        refine oP ?_
        refine o_nil ?_
        exact s_retv (rs := [.tmp 2, .tmp 3]) rfl (.tmp rfl (.tmp rfl (.nil))) (fun w' h' => ⟨by rw [hz]; rfl, h'.below⟩)
      · try simp only [decide_eq_false_iff_not] at h4
        have h00 : 0 < L.length := by have hq := h4; omega
        refine s_skip ?_
        refine s_seq ?_
        refine s_seq ?_
        refine s_region ?_
        refine o_p (p_fieldAddr rfl rfl fd_24_3 sz_22 rfl) rfl ?_
        refine o_q (q_load rfl rfl sz_22 aPk rfl) rfl ?_
        refine o_p (p_len_slice rfl rfl Tryz.underlying22) rfl ?_
        refine oP ?_
        refine o_nil ?_
        refine s_cond rfl (fun h5 => ?_) (fun h5 => ?_)
        · try simp only [decide_eq_true_eq] at h5
          have hz := treE_g (t := (⟨(j : Int), mo, rm, pln L⟩ : Tre)) hc0 hc1 (by rw [hTL]; exact h00) (by rw [hTL]; have hq := h5; omega)
          refine s_seq ?_
          refine s_region ?_
          refine oP ?_
          refine oP ?_
          refine o_nil ?_
          exact s_retv (rs := [.tmp 2, .tmp 3]) rfl (.tmp rfl (.tmp rfl (.nil))) (fun w' h' => ⟨by rw [hz]; rfl, h'.below⟩)
        · try simp only [decide_eq_false_iff_not] at h5
          have h120 : L.length ≤ 120 := by have hq := h5; omega
          have hz := treE_n (t := (⟨(j : Int), mo, rm, pln L⟩ : Tre)) hc0 hc1 (by rw [hTL]; exact h00) (by rw [hTL]; exact h120)
          rw [hTL] at hz
          refine s_skip ?_
          refine s_seq ?_
          refine s_region ?_
          refine o_p (p_fieldAddr rfl rfl fd_24_3 sz_22 rfl) rfl ?_
          refine o_q (q_load rfl rfl sz_22 aPk rfl) rfl ?_
          refine o_p (p_len_slice rfl rfl Tryz.underlying22) rfl ?_
          refine o_h (h_make (n := L.length) rfl rfl rfl sl_140 zr_4 (by omega) (by omega)) rfl (fun b6 _ => ?_)
          refine o_class (fun w h => (show HS _ _ [.blk b6 4 L.length (seenV L.length []), .blk b1 24 4 [.int .i64 (j : Int), .int .i64 mo, .int .i64 rm, .slice a L.length cap]] w from by have h9 := h; rw [Nat.mul_one, seen_nil] at h9; exact h9.ent aEt)) ?_
          refine oP ?_
          refine o_nil ?_
          refine s_seq ?_
          refine s_seq ?_
          refine s_weaken (L' := [(1, _), (2, _), (3, _), (6, _)]) aSx (fun _ h => h) ?_
          refine s_region ?_
          refine oP ?_
          refine o_nil ?_
          refine s_block ?_
          refine s_loopI (α := Nat × List Int) [2, 3, 7, 8, 39, 40, 41, 42, 43, 44, 45, 46, 47, 48, 49, 50, 51, 52, 53] (fun x => [(7, .int .i64 (x.1 : Int))]) (fun x => HS w [] [.blk b6 4 L.length (seenV L.length x.2), .blk b1 24 4 [.int .i64 (j : Int), .int .i64 mo, .int .i64 rm, .slice a L.length cap]]) (fun x => x.1 ≤ L.length ∧ (nodsE (⟨(j : Int), mo, rm, pln L⟩ : Tre) L.length 0 []) = nodsE (⟨(j : Int), mo, rm, pln L⟩ : Tre) (L.length - x.1) x.1 x.2) (fun x => L.length - x.1) (0, []) ⟨Nat.zero_le _, rfl⟩ aSx (fun w h => h.ent aEt) (fun ⟨k, S9⟩ hx => ?_)
          dsimp only
          obtain ⟨hk1, hk3⟩ := hx
          simp only [] at hk1 hk3
          refine s_seq ?_
          refine s_seq ?_
          refine s_region ?_
          refine oP ?_
          refine o_p (p_fieldAddr rfl rfl fd_24_3 sz_22 rfl) rfl ?_
          refine o_q (q_load rfl rfl sz_22 aPk rfl) rfl ?_
          refine o_p (p_len_slice rfl rfl Tryz.underlying22) rfl ?_
          refine oP ?_
          refine o_nil ?_
          refine s_cond rfl (fun h7 => ?_) (fun h7 => ?_)
          · try simp only [decide_eq_true_eq] at h7
            have hkl9 : k < L.length := by omega
            have hst := nodsE_step (t := (⟨(j : Int), mo, rm, pln L⟩ : Tre)) (k := k) (seen := S9) (by rw [hTL]; exact hkl9)
            rw [hTL] at hst
            refine s_skip ?_
            refine s_seq ?_
            refine s_block ?_
            refine s_seq ?_
            refine s_region ?_
            refine o_q (q_loadn rfl rfl sz_24 aPk rfl) rfl ?_
            refine oP ?_
            refine oP ?_
            refine o_h (h_callF (Cs := [.blk b6 4 L.length (seenV L.length S9)]) rfl fn_85 rfl aPs (fun w1 h1 hf => c85 w1 j mo rm a cap L k b6 L.length L.length S9 hf ((hs.keep h1).mono (fps_pick aPs)) hj hkl9 (by omega) (hes9 _ hkl9) (hcs9 _ hkl9) (hkl _ hkl9))) rfl (fun _ _ => ?_)
            refine oP ?_
            refine o_nil ?_
            refine s_seq ?_
            refine s_region ?_
            refine oP ?_
            refine oP ?_
            refine o_nil ?_
            refine s_cond rfl (fun h8 => ?_) (fun h8 => ?_)
            · try simp only [Bool.not_eq_true', decide_eq_false_iff_not] at h8
              have hz3 : (nodsE (⟨(j : Int), mo, rm, pln L⟩ : Tre) L.length 0 []) = ((k : Int), (nodE (⟨(j : Int), mo, rm, pln L⟩ : Tre) k S9).1) := by rw [hk3, hst, if_neg h8]
              rw [hz3, if_neg (show ¬ (((k : Int), (nodE (⟨(j : Int), mo, rm, pln L⟩ : Tre) k S9).1) : Int × Int).2 = 0 from h8)] at hz
              refine s_seq ?_
              refine s_region ?_
              refine oP ?_
              refine oP ?_
              refine oP ?_
              refine oP ?_
              refine o_nil ?_
              exact s_retv (rs := [.tmp 2, .tmp 3]) rfl (.tmp rfl (.tmp rfl (.nil))) (fun w' h' => ⟨by rw [hz]; rfl, h'.below⟩)
            · try simp only [Bool.not_eq_false', decide_eq_true_eq] at h8
              have hz3 : nodsE (⟨(j : Int), mo, rm, pln L⟩ : Tre) (L.length - k) k S9 = nodsE (⟨(j : Int), mo, rm, pln L⟩ : Tre) (L.length - (k + 1)) (k + 1) (nodE (⟨(j : Int), mo, rm, pln L⟩ : Tre) k S9).2 := by rw [hst, if_pos (by have hq := h8; omega)]
              refine s_skip ?_
              refine s_blk ?_
              refine s_region ?_
              refine oP ?_
              refine oP ?_
              try (refine o_slot (i64w (by omega) (by omega)) ?_)
              refine oP ?_
              refine o_nil ?_
              exact s_backI (k + 1, (nodE (⟨(j : Int), mo, rm, pln L⟩ : Tre) k S9).2) (by (try simp only []); omega) ⟨by (try simp only []); omega, by simp only []; rw [hk3, hz3]⟩ aSx (fun w h => h.ent aEt)
          · try simp only [decide_eq_false_iff_not] at h7
            have hnd : (nodsE (⟨(j : Int), mo, rm, pln L⟩ : Tre) L.length 0 []) = (0, 0) := by rw [hk3, show L.length - k = 0 by omega]; rfl
            rw [hnd, if_pos rfl] at hz
            have hT : TOk (j : Int) (pln L) := tok_of (t := (⟨(j : Int), mo, rm, pln L⟩ : Tre)) (by show (nodsE (⟨(j : Int), mo, rm, pln L⟩ : Tre) (pln L).length 0 []).2 = 0; rw [pln_len, hnd])
            have hvis : vis (pln L) L.length root0 = visT (pln L) := by unfold visT; rw [pln_len]
            refine s_exit_to rfl ?_
            refine s_seq ?_
            refine s_region ?_
            refine o_p (p_fieldAddr rfl rfl fd_24_3 sz_22 rfl) rfl ?_
            refine o_q (q_load rfl rfl sz_22 aPk rfl) rfl ?_
            refine o_p (p_len_slice rfl rfl Tryz.underlying22) rfl ?_
            refine o_h (h_make (n := L.length) rfl rfl rfl sl_140 zr_4 (by omega) (by omega)) rfl (fun b9 _ => ?_)
            refine o_class (fun w h => (show HS _ _ [.blk b9 4 L.length (seenV L.length []), .blk b1 24 4 [.int .i64 (j : Int), .int .i64 mo, .int .i64 rm, .slice a L.length cap]] w from by have h9 := h; rw [Nat.mul_one, seen_nil] at h9; exact h9.ent aEt)) ?_
            refine oP ?_
            refine o_nil ?_
            refine s_seq ?_
            refine s_region ?_
            refine o_q (q_loadn rfl rfl sz_24 aPk rfl) rfl ?_
            refine oP ?_
            refine o_h (h_callF (Cs := [.blk b9 4 L.length (seenV L.length [])]) rfl fn_86 rfl aPs (fun w1 h1 hf => c86 j mo rm a cap L b9 L.length L.length L.length w1 [] root0 [] hf ((hs.keep h1).mono (fps_pick aPs)) hT hB h00 rfl (by simp))) rfl (fun _ _ => ?_)
            refine o_nil ?_
            refine s_seq ?_
            refine s_seq ?_
            refine s_region ?_
            refine oP ?_
            refine o_nil ?_
            refine s_block ?_
            refine s_weaken (L' := [(1, _), (6, _), (7, _), (9, _), (10, _)]) aSx (fun _ h => h) ?_
            refine s_loopI (α := Nat) [2, 3, 10, 61, 62, 63, 64, 65, 66, 67, 68, 69, 70, 71, 72, 73, 74, 75, 76, 77, 78, 79, 80, 81] (fun k => [(10, .int .i64 (k : Int))]) (fun _ => HS w [] [.blk b9 4 L.length (seenV L.length (mkS (vis (pln L) L.length root0) [])), .blk b1 24 4 [.int .i64 (j : Int), .int .i64 mo, .int .i64 rm, .slice a L.length cap]]) (fun k => k ≤ L.length ∧ opnF (pln L) ((visT (pln L)).map Vis.i) L.length 0 = opnF (pln L) ((visT (pln L)).map Vis.i) (L.length - k) k) (fun k => L.length - k) 0 ⟨Nat.zero_le _, rfl⟩ aSx (fun w h => h.ent aEt) (fun k hx => ?_)
            obtain ⟨hk1, hk2⟩ := hx
            refine s_seq ?_
            refine s_seq ?_
            refine s_region ?_
            refine oP ?_
            refine o_p (p_fieldAddr rfl rfl fd_24_3 sz_22 rfl) rfl ?_
            refine o_q (q_load rfl rfl sz_22 aPk rfl) rfl ?_
            refine o_p (p_len_slice rfl rfl Tryz.underlying22) rfl ?_
            refine oP ?_
            refine o_nil ?_
            refine s_cond rfl (fun h10 => ?_) (fun h10 => ?_)
            · try simp only [decide_eq_true_eq] at h10
              have hkl9 : k < L.length := by omega
              have hst := opnF_step (ns := pln L) (below := ((visT (pln L)).map Vis.i)) (k := k) (by rw [pln_len]; exact hkl9)
              rw [pln_len, pln_nth hkl9] at hst
              refine s_skip ?_
              refine s_seq ?_
              refine s_block ?_
              refine s_seq ?_
              refine s_region ?_
              refine o_p (p_fieldAddr rfl rfl fd_24_3 sz_22 rfl) rfl ?_
              refine o_q (q_load rfl rfl sz_22 aPk rfl) rfl ?_
              refine oP ?_
              refine o_p (p_indexAddr rfl rfl rfl sl_22 (k) (by omega) (by omega) (Rw.some hs.1 (by omega))) rfl ?_
              refine o_p (p_fieldAddr rfl rfl fd_102_0 sz_4 rfl) rfl ?_
              refine o_q (q_load_old rfl rfl sz_4 ((hs.1.rdj 0 hkl9 rfl))) rfl ?_
              refine oP ?_
              refine o_and 6 74 80 _ _ rfl
                (by
                  intro hg11
                  have hs12 := hg11; skip
                  refine o_on 74 _ rfl rfl hg11 ?_
                  refine oP ?_
                  refine o_on 74 _ rfl rfl hg11 ?_
                  refine oP ?_
                  refine o_on 74 _ rfl rfl hg11 ?_
                  refine o_p (p_indexAddr rfl rfl rfl sl_140 (k) (by omega) (by omega) rfl) rfl ?_
                  refine o_slot (show _ = Value.pointer (some ⟨b9, k, none⟩) from by rw [Nat.zero_add, Nat.mul_one]) ?_
                  refine o_on 74 _ rfl rfl hg11 ?_
                  refine o_q (q_load_at rfl rfl sz_4 (fun w h => h.rd_blk (Mc := []) aPk (seen_get hkl9) (by simp))) rfl ?_
                  refine o_on 74 _ rfl rfl hg11 ?_
                  refine oP ?_
                  refine o_p (p_pickt rfl rfl hg11 rfl) rfl ?_
                  refine o_nil ?_
                  exact s_joinN 6 80 _ rfl rfl rfl (fun w h => by first | exact h | exact h.ent aEt))
                (by
                  intro hg13
                  have hs14 := hg13; skip
                  refine o_off 74 _ rfl rfl hg13 rfl ?_
                  refine o_off 74 _ rfl rfl hg13 rfl ?_
                  refine o_off 74 _ rfl rfl hg13 rfl ?_
                  refine o_off 74 _ rfl rfl hg13 rfl ?_
                  refine o_off 74 _ rfl rfl hg13 rfl ?_
                  refine o_p (p_pickf rfl rfl hg13 rfl) rfl ?_
                  refine o_nil ?_
                  exact s_joinN 6 80 _ rfl rfl rfl (fun w h => by first | exact h | exact h.ent aEt)) ?_
              refine o_nil ?_
              refine s_cond rfl (fun h15 => ?_) (fun h15 => ?_)
              · try simp only [Bool.and_eq_true, Bool.not_eq_true', decide_eq_false_iff_not] at h15
                have hz7 : (nth L k).pl.us = true ∧ k ∉ ((visT (pln L)).map Vis.i) := by have hq := h15; rw [← open_mem, ← hvis]; simp only [LNd.pl]; simpa using hq
                have hz8 := hz.trans (shapE_some (t := (⟨(j : Int), mo, rm, pln L⟩ : Tre)) (i := k) (show opnF (pln L) _ (pln L).length 0 = some k from by rw [pln_len, hk2, hst, if_pos hz7]))
                refine s_seq ?_
                refine s_region ?_
                refine oP ?_
                refine oP ?_
                refine oP ?_
                refine o_nil ?_
                exact s_retv (rs := [.tmp 2, .tmp 3]) rfl (.tmp rfl (.tmp rfl (.nil))) (fun w' h' => ⟨by rw [hz8]; rfl, h'.below⟩)
              · try simp only [Bool.and_eq_false_iff, Bool.not_eq_false', decide_eq_true_eq] at h15
                have hz7 : ¬ ((nth L k).pl.us = true ∧ k ∉ ((visT (pln L)).map Vis.i)) := by have hq := h15; rw [← open_mem, ← hvis]; simp only [LNd.pl]; intro h9; exact hq.elim (fun h8 => by rw [h8] at h9; cases h9.1) (fun h8 => h9.2 h8)
                refine s_skip ?_
                refine s_blk ?_
                refine s_region ?_
                refine oP ?_
                refine oP ?_
                try (refine o_slot (i64w (by omega) (by omega)) ?_)
                refine oP ?_
                refine o_nil ?_
                exact s_backI (k + 1) (by omega) ⟨by omega, by rw [hk2, hst, if_neg hz7]⟩ aSx (fun w h => h.ent aEt)
            · try simp only [decide_eq_false_iff_not] at h10
              have hnone : opnF (pln L) ((visT (pln L)).map Vis.i) L.length 0 = none := by rw [hk2, show L.length - k = 0 by omega]; rfl
              have hz8 := hz.trans (shapE_none (t := (⟨(j : Int), mo, rm, pln L⟩ : Tre)) (show opnF (pln L) _ (pln L).length 0 = none from by rw [pln_len]; exact hnone))
              refine s_exit_to rfl ?_
              refine s_seq ?_
              refine s_region ?_
              refine oP ?_
              refine o_nil ?_
              refine s_seq ?_
              refine s_seq ?_
              refine s_region ?_
              refine oP ?_
              refine o_nil ?_
              refine s_block ?_
              refine s_loopI (α := Nat × Nat × List Nat) [11, 12, 82, 83, 84, 85, 86, 87, 88, 89, 90, 91, 92, 93, 94, 95, 96, 97, 98, 99] (fun y => [(11, .int .i64 (y.1 : Int)), (12, .int .i64 (y.2.1 : Int))]) (fun _ => HS w [] [.blk b1 24 4 [.int .i64 (j : Int), .int .i64 mo, .int .i64 rm, .slice a L.length cap]]) (fun y => Gx.Way (pln L) (y.2.1 :: y.2.2) ∧ y.2.2.length = y.1 ∧ deepT (pln L) L.length 0 = (y.1 : Int) + deepT (pln L) (L.length - y.1) y.2.1) (fun y => L.length - y.1) (0, 0, []) ⟨rfl, rfl, by simp⟩ aSx (fun w h => h.ent aEt) (fun ⟨d, i, P⟩ hx => ?_)
              dsimp only
              obtain ⟨hway, hpl, hdp⟩ := hx
              simp only [] at hway hpl hdp
              have hil0 := way_lt hT (by rw [pln_len]; exact h00) hway i (List.mem_cons_self ..)
              have hil : i < L.length := by rw [pln_len] at hil0; exact hil0
              have hnI := pln_nth hil
              have hwl := way_len hT (by rw [pln_len]; exact h00) hway
              rw [pln_len, List.length_cons] at hwl
              have hcl := hcs9 i hil
              refine s_seq ?_
              refine s_seq ?_
              refine s_region ?_
              refine o_p (p_fieldAddr rfl rfl fd_24_3 sz_22 rfl) rfl ?_
              refine o_q (q_load rfl rfl sz_22 aPk rfl) rfl ?_
              refine oP ?_
              refine o_p (p_indexAddr rfl rfl rfl sl_22 (i) (by omega) (by omega) (Rw.some hs.1 (by omega))) rfl ?_
              refine o_p (p_fieldAddr rfl rfl fd_102_2 sz_30 rfl) rfl ?_
              refine o_q (q_load_old rfl rfl sz_30 ((hs.1.rdj 2 hil rfl))) rfl ?_
              refine o_p (p_len_slice rfl rfl Tryz.underlying30) rfl ?_
              refine oP ?_
              refine o_nil ?_
              refine s_cond rfl (fun h16 => ?_) (fun h16 => ?_)
              · try simp only [decide_eq_true_eq] at h16
                have hcl0 : 0 < (nth L i).cs.length := by have hq := h16; omega
                have hkid := kid_in hT (by rw [pln_len]; exact hil) (i := i) (k := 0) (by rw [hnI]; exact hcl0)
                rw [hnI, pln_len] at hkid
                simp only [LNd.pl] at hkid
                have hway2 := way_kid hway (by rw [pln_len]; exact hil) (k := 0) (by rw [hnI]; exact hcl0) (by rw [hnI]; simp only [LNd.pl]; omega)
                rw [hnI] at hway2
                have hwl2 := way_len hT (by rw [pln_len]; exact h00) hway2
                rw [pln_len, List.length_cons, List.length_cons] at hwl2
                have hdm := deep_more (ns := pln L) (f := L.length - d) (i := i) (by omega) (by rw [hnI]; show ¬ (nth L i).cs.length = 0; omega)
                rw [hnI] at hdm
                refine s_skip ?_
                refine s_seq ?_
                refine s_block ?_
                refine s_region ?_
                refine o_p (p_fieldAddr rfl rfl fd_24_3 sz_22 rfl) rfl ?_
                refine o_q (q_load rfl rfl sz_22 aPk rfl) rfl ?_
                refine oP ?_
                refine o_p (p_indexAddr rfl rfl rfl sl_22 (i) (by omega) (by omega) (Rw.some hs.1 (by omega))) rfl ?_
                refine o_p (p_fieldAddr rfl rfl fd_102_2 sz_30 rfl) rfl ?_
                refine o_q (q_load_old rfl rfl sz_30 ((hs.1.rdj 2 hil rfl))) rfl ?_
                refine o_p (p_indexAddr rfl rfl rfl sl_30 (0) (by omega) (by omega) (Rw.some (hs.cs hil) (by omega))) rfl ?_
                refine o_q (q_load_old rfl rfl sz_3 (((hs.cs hil).rdj 0 (i := 0) (by omega) rfl))) rfl ?_
                refine o_slot (show _ = Value.int .i64 (((nth L i).cs.getD 0 0).toNat : Int) from congrArg (Value.int .i64) (Int.toNat_of_nonneg (show 0 ≤ (nth L i).cs.getD 0 0 by omega)).symm) ?_
                refine oP ?_
                refine o_nil ?_
                refine s_blk ?_
                refine s_region ?_
                refine oP ?_
                refine oP ?_
                try (refine o_slot (i64w (by omega) (by omega)) ?_)
                refine oP ?_
                refine o_nil ?_
                exact s_backI (d + 1, ((nth L i).cs.getD 0 0).toNat, i :: P) (by (try simp only []); omega) ⟨hway2, by simp [hpl], by simp only [] at *; rw [show L.length - (d + 1) = L.length - d - 1 by omega]; have h9 : (nth L i).pl.cs = (nth L i).cs := rfl; rw [h9] at hdm; omega⟩ aSx (fun w h => h.ent aEt)
              · try simp only [decide_eq_false_iff_not] at h16
                have hde := deep_end (ns := pln L) (f := L.length - d) (i := i) (by rw [hnI]; show (nth L i).cs.length = 0; have hq := h16; omega)
                rw [hde, Int.add_zero] at hdp
                have hdl := deepT_le (pln L) L.length 0
                refine s_exit_to rfl ?_
                refine s_seq ?_
                refine s_region ?_
                refine o_q (q_loadn rfl rfl sz_24 aPk rfl) rfl ?_
                refine oP ?_
                refine o_q (q_call rfl fn_87 rfl (fun w1 h1 => c87 j mo rm a cap L (d : Int) L.length w1 root0 [] (d : Int) none none 0 0 0 0 (hs.later h1) hj (by omega) hT hB h00 rfl rfl (by show (d : Int) = d + 1 - 1; omega) (fun _ h => by cases h) (fun _ h => by cases h) rfl rfl (by simp))) rfl ?_
                refine oP ?_
                refine oP ?_
                refine oP ?_
                refine oP ?_
                refine o_nil ?_
                exact s_retv (rs := [.tmp 2, .tmp 3]) rfl (.tmp rfl (.tmp rfl (.nil))) (fun w' h' => ⟨by rw [hz8, show deepT ((⟨(j : Int), mo, rm, pln L⟩ : Tre)).ns ((⟨(j : Int), mo, rm, pln L⟩ : Tre)).ns.length 0 = (d : Int) from by rw [hTL]; exact hdp, show visT ((⟨(j : Int), mo, rm, pln L⟩ : Tre)).ns = vis (pln L) L.length root0 from hvis.symm]; rfl, h'.below⟩)

set_option maxRecDepth 20000 in
theorem c18 (w : World) (co mo rm : Int) (a : Option Addr) (cap : Nat) (L : List LNd) (hs : Nt w [] a L) (hB : Bd (pln L)) (hkl : ∀ i, i < L.length → ∀ x ∈ (nth L i).es, x.key.length ≤ 1000000) : Calls Tryz.prog 18 #[.agg #[.int .i64 co, .int .i64 mo, .int .i64 rm, .slice a L.length cap]] w fun en w' => en = .returned (.int .i64 (treE (⟨co, mo, rm, pln L⟩ : Tre)).2) ∧ Below w.heap.size w w' := by
  refine enter (args := [_]) Tryz.func18 Tryz.ntmps18 rfl rfl (HS.refl w []) ?_
  refine s_seq ?_
  refine s_region ?_
  refine o_h (h_box rfl rfl) rfl (fun b1 _ => ?_)
  refine oP ?_
  refine o_nil ?_
  refine s_seq ?_
  refine s_region ?_
  refine o_q (q_loadn rfl rfl sz_24 aPk rfl) rfl ?_
  refine o_q (q_call rfl fn_41 rfl (fun w1 h1 => c41 w1 co mo rm a cap L (hs.later h1) hB hkl)) rfl ?_
  refine oP ?_
  refine oP ?_
  refine oP ?_
  refine oP ?_
  refine oP ?_
  refine o_nil ?_
  refine s_seq ?_
  refine s_region ?_
  refine oP ?_
  refine oP ?_
  refine o_nil ?_
  exact s_retv (rs := [.tmp 2]) rfl (.tmp rfl (.nil)) (fun w' h' => ⟨by rfl, h'.below⟩)

end Go.Proofs

/- Chapter 12: small trees; the end of a way. Plain data. -/
namespace Gx
set_option linter.unusedSimpArgs false
set_option linter.unusedVariables false
set_option linter.unusedSectionVars false
open Go Go.RowKit
def tslimB (x : TEnt) : Bool := decide (x.key.length ≤ 44 ∧ x.val.length ≤ 70)
def tshortB (es : List TEnt) : Bool := es.all tslimB
def tfewN (n : Nd) : Bool := decide (n.es.length ≤ 10 ∧ n.cs.length ≤ 11) && tshortB n.es
def tfewB (ns : List Nd) : Bool := decide (ns.length ≤ 122 ∧ ¬ (60 < ns.length ∧ ns.length ≤ 120)) && ns.all tfewN
theorem tfewN_t {n : Nd} (h1 : n.es.length ≤ 10) (h2 : n.cs.length ≤ 11) (h3 : tshortB n.es = true) : tfewN n = true := by
  rw [tfewN, decide_eq_true (And.intro h1 h2), h3]
  rfl
theorem tfewN_f {n : Nd} (h : (10 < n.es.length ∨ 11 < n.cs.length) ∨ tshortB n.es = false) : ¬ tfewN n = true := fun h9 => by
  rw [tfewN, Bool.and_eq_true, decide_eq_true_eq] at h9
  rcases h with h | h
  · omega
  · rw [h] at h9
    cases h9.2
theorem tshortB_t {es : List TEnt} (h : ∀ q, q < es.length → tslimB (nth es q) = true) : tshortB es = true := by
  refine List.all_eq_true.2 fun x hx => ?_
  obtain ⟨q, hq, e⟩ := List.getElem_of_mem hx
  have e2 : nth es q = x := nth_eq (by rw [List.getElem?_eq_getElem hq, e])
  rw [← e2]
  exact h q hq
theorem tshortB_f {es : List TEnt} {k : Nat} (hk : k < es.length) (h : ¬ tslimB (nth es k) = true) : tshortB es = false := by
  cases e : tshortB es
  · rfl
  · exact absurd (List.all_eq_true.1 e _ (mem_nth hk)) h
theorem tfewB_t {ns : List Nd} (h0 : ns.length ≤ 122 ∧ ¬ (60 < ns.length ∧ ns.length ≤ 120)) (h : ∀ q, q < ns.length → tfewN (nth ns q) = true) : tfewB ns = true := by
  rw [tfewB, decide_eq_true h0, Bool.true_and]
  refine List.all_eq_true.2 fun x hx => ?_
  obtain ⟨q, hq, e⟩ := List.getElem_of_mem hx
  have e2 : nth ns q = x := nth_eq (by rw [List.getElem?_eq_getElem hq, e])
  rw [← e2]
  exact h q hq
theorem tfewB_f {ns : List Nd} {k : Nat} (hk : k < ns.length) (h : ¬ tfewN (nth ns k) = true) : tfewB ns = false := by
  cases e : tfewB ns
  · rfl
  · rw [tfewB, Bool.and_eq_true] at e
    exact absurd (List.all_eq_true.1 e.2 _ (mem_nth hk)) h
theorem tfewB_n {ns : List Nd} (h : ¬ (ns.length ≤ 122 ∧ ¬ (60 < ns.length ∧ ns.length ≤ 120))) : tfewB ns = false := by
  rw [tfewB, decide_eq_false h, Bool.false_and]
theorem tfew_len {ns : List Nd} (h : tfewB ns = true) : ns.length ≤ 122 := by
  rw [tfewB, Bool.and_eq_true, decide_eq_true_eq] at h
  exact h.1.1
theorem tfew_nd {ns : List Nd} (h : tfewB ns = true) {k : Nat} (hk : k < ns.length) : (nth ns k).es.length ≤ 10 ∧ (nth ns k).cs.length ≤ 11 ∧ ∀ x ∈ (nth ns k).es, x.key.length ≤ 44 ∧ x.val.length ≤ 70 := by
  rw [tfewB, Bool.and_eq_true] at h
  have h2 := List.all_eq_true.1 h.2 _ (mem_nth hk)
  rw [tfewN, Bool.and_eq_true, decide_eq_true_eq] at h2
  refine ⟨h2.1.1, h2.1.2, fun x hx => ?_⟩
  have h3 := List.all_eq_true.1 h2.2 _ hx
  rw [tslimB, decide_eq_true_eq] at h3
  exact h3
theorem tfew_bd {ns : List Nd} (h : tfewB ns = true) : Bd ns where
  len := Nat.le_trans (tfew_len h) (by decide)
  es i hi := Nat.le_trans (tfew_nd h hi).1 (by decide)
  cs i hi := Nat.le_trans (tfew_nd h hi).2.1 (by decide)
theorem tfew_sm {ns : List Nd} (h : tfewB ns = true) : Sm 1000 ns := fun k => by
  rcases Nat.lt_or_ge k ns.length with hk | hk
  · exact ⟨Nat.le_trans (tfew_nd h hk).1 (by decide), Nat.le_trans (tfew_nd h hk).2.1 (by decide)⟩
  · rw [nth_out hk]
    exact ⟨Nat.zero_le _, Nat.zero_le _⟩
theorem tfew_keys {L : List LNd} (h : tfewB (pln L) = true) : ∀ i, i < L.length → ∀ x ∈ (nth L i).es, x.key.length ≤ 1000000 := fun i hi x hx => by
  have h2 := (tfew_nd h (k := i) (by rw [pln_len]; exact hi)).2.2 x (by rw [pln_nth hi]; exact hx)
  omega
/-! ## Where a way ends -/
theorem last_cons {i : Nat} {P : List Nat} (h : 0 < P.length) : lastN (i :: P) = lastN P := by
  cases P with
  | nil => exact absurd h (Nat.lt_irrefl _)
  | cons p P =>
    unfold lastN
    rw [show (i :: p :: P).length - 1 = (p :: P).length - 1 + 1 by simp]
    rfl
theorem pth_end {co : Int} {ns : List Nd} (hT : TOk co ns) (h0 : 0 < ns.length) (key : List UInt8) : ∀ (f i : Nat) (P : List Nat), Way ns (i :: P) → P.length + f = ns.length → 0 < (pthN co ns key f i).1.length ∧ (pthN co ns key f i).1.length ≤ f ∧ lastN (pthN co ns key f i).1 < ns.length ∧ (pthN co ns key f i).2.1 = plc co (nth ns (lastN (pthN co ns key f i).1)).es key ∧ (pthN co ns key f i).2.2 = fnd co (nth ns (lastN (pthN co ns key f i).1)).es key
  | 0, i, P, hw, hf => by
    have := way_len hT h0 hw
    rw [List.length_cons] at this
    omega
  | f + 1, i, P, hw, hf => by
    by_cases h : fnd co (nth ns i).es key = true ∨ (nth ns i).cs.length = 0
    · rw [pthN, if_pos h]
      exact ⟨Nat.one_pos, Nat.le_add_left 1 f, way_lt hT h0 hw i (List.mem_cons_self ..), rfl, rfl⟩
    · rw [pthN, if_neg h]
      have hi := way_lt hT h0 hw i (List.mem_cons_self ..)
      have hc : (nth ns i).cs.length = (nth ns i).es.length + 1 := by
        rcases hT.shape i hi with h9 | h9
        · exact absurd (.inr h9) h
        · exact h9
      have hk : plc co (nth ns i).es key < (nth ns i).cs.length := by
        have := plc_le co key (nth ns i).es
        omega
      have hkid := kid_in hT hi hk
      have ih := pth_end hT h0 key f ((nth ns i).cs.getD (plc co (nth ns i).es key) 0).toNat (i :: P) (way_kid hw hi hk (by omega)) (by rw [List.length_cons]; omega)
      simp only []
      rw [last_cons ih.1]
      exact ⟨by rw [List.length_cons]; omega, by rw [List.length_cons]; omega, ih.2.2⟩
theorem path_end {co : Int} {ns : List Nd} (hT : TOk co ns) (h0 : 0 < ns.length) (key : List UInt8) : 0 < (pathN co ns key).1.length ∧ (pathN co ns key).1.length ≤ ns.length ∧ lastN (pathN co ns key).1 < ns.length ∧ (pathN co ns key).2.1 = plc co (nth ns (lastN (pathN co ns key).1)).es key ∧ (pathN co ns key).2.2 = fnd co (nth ns (lastN (pathN co ns key).1)).es key := pth_end hT h0 key ns.length 0 [] rfl (by simp)
theorem fnd_lt {co : Int} {es : List TEnt} {key : List UInt8} (h : fnd co es key = true) : plc co es key < es.length := by
  rw [fnd, Bool.and_eq_true, decide_eq_true_eq] at h
  exact h.1
/-- The entry at a key. -/
def entN (co : Int) (ns : List Nd) (key : List UInt8) : TEnt := nth (nth ns (lastN (pathN co ns key).1)).es (pathN co ns key).2.1
end Gx

namespace Go.Proofs
open Go Go.RowKit Gx
set_option linter.unusedVariables false
set_option linter.unusedSimpArgs false
attribute [local irreducible] Go.Calls Gx.S Gx.O Gx.D Gx.OpP Gx.OpQ Gx.OpH

theorem fn_15 : isFn Tryz.prog 15 = true := by kernel_rfl
theorem fn_43 : isFn Tryz.prog 43 = true := by kernel_rfl


set_option maxRecDepth 20000 in
theorem c15 (w : World) (x : TEnt) : Calls Tryz.prog 15 #[.agg #[.string (bs x.key), .string (bs x.val)]] w fun en w' => en = .returned (.bool (tslimB x)) ∧ Below w.heap.size w w' := by
  refine enter (args := [_]) Tryz.func15 Tryz.ntmps15 rfl rfl (HS.refl w []) ?_
  refine s_seq ?_
  refine s_region ?_
  refine o_h (h_box rfl rfl) rfl (fun b1 _ => ?_)
  refine oP ?_
  refine o_nil ?_
  refine s_seq ?_
  refine s_region ?_
  refine o_p (p_fieldAddr rfl rfl fd_26_0 sz_9 rfl) rfl ?_
  refine o_q (q_load rfl rfl sz_9 aPk rfl) rfl ?_
  refine o_p (p_len_str rfl rfl Tryz.underlying9) rfl ?_
  refine oP ?_
  refine oP ?_
  refine o_and 5 7 12 _ _ rfl
    (by
      intro hg2
      have hs3 := hg2; try simp only [decide_eq_true_eq] at hs3
      refine o_on 7 _ rfl rfl hg2 ?_
      refine o_p (p_fieldAddr rfl rfl fd_26_1 sz_9 rfl) rfl ?_
      refine o_on 7 _ rfl rfl hg2 ?_
      refine o_q (q_load rfl rfl sz_9 aPk rfl) rfl ?_
      refine o_on 7 _ rfl rfl hg2 ?_
      refine o_p (p_len_str rfl rfl Tryz.underlying9) rfl ?_
      refine o_on 7 _ rfl rfl hg2 ?_
      refine oP ?_
      refine o_p (p_pickt rfl rfl hg2 rfl) rfl ?_
      refine o_nil ?_
      exact s_joinN 5 12 _ rfl rfl rfl (fun w h => by first | exact h | exact h.ent aEt))
    (by
      intro hg4
      have hs5 := hg4; try simp only [decide_eq_false_iff_not] at hs5
      refine o_off 7 _ rfl rfl hg4 rfl ?_
      refine o_off 7 _ rfl rfl hg4 rfl ?_
      refine o_off 7 _ rfl rfl hg4 rfl ?_
      refine o_off 7 _ rfl rfl hg4 rfl ?_
      refine o_p (p_pickf rfl rfl hg4 rfl) rfl ?_
      refine o_nil ?_
      exact s_joinN 5 12 _ rfl rfl rfl (fun w h => by first | exact h | exact h.ent aEt)) ?_
  refine oP ?_
  refine o_nil ?_
  exact s_retv (rs := [.tmp 2]) rfl (.tmp rfl (.nil)) (fun w' h' => ⟨by simp only [retV, tslimB, Bool.decide_and]; congr 3 <;> exact decide_eq_decide.2 (by omega), h'.below⟩)

set_option maxRecDepth 20000 in
theorem c43 (w : World) (a : Option Addr) (cap : Nat) (l : List TEnt) (hs : Rw TEnt.vals 2 w [] a l) (hl : l.length ≤ 1000) : Calls Tryz.prog 43 #[.slice a l.length cap] w fun en w' => en = .returned (.bool (tshortB l)) ∧ Below w.heap.size w w' := by
  refine enter (args := [_]) Tryz.func43 Tryz.ntmps43 rfl rfl (HS.refl w []) ?_
  refine s_seq ?_
  refine s_region ?_
  refine oP ?_
  refine o_nil ?_
  refine s_seq ?_
  refine s_seq ?_
  refine s_region ?_
  refine oP ?_
  refine o_nil ?_
  refine s_block ?_
  refine s_loopI (α := Nat) [2, 3, 4, 5, 6, 7, 8, 9, 10, 11, 12, 13, 14, 15] (fun k => [(3, .int .i64 (k : Int))]) (fun _ => HS w [] []) (fun k => k ≤ l.length ∧ ∀ q, q < k → tslimB (nth l q) = true) (fun k => l.length - k) 0 ⟨Nat.zero_le _, fun q h => absurd h (Nat.not_lt_zero q)⟩ aSx (fun w h => h.ent aEt) (fun k hx => ?_)
  obtain ⟨hk1, hk3⟩ := hx
  refine s_seq ?_
  refine s_seq ?_
  refine s_region ?_
  refine oP ?_
  refine oP ?_
  refine o_p (p_len_slice rfl rfl Tryz.underlying77) rfl ?_
  refine oP ?_
  refine o_nil ?_
  refine s_cond rfl (fun h1 => ?_) (fun h1 => ?_)
  · try simp only [decide_eq_true_eq] at h1
    have hk5 : k < l.length := by omega
    refine s_skip ?_
    refine s_seq ?_
    refine s_block ?_
    refine s_seq ?_
    refine s_region ?_
    refine oP ?_
    refine oP ?_
    refine o_p (p_indexAddr rfl rfl rfl sl_77 (k) (by omega) (by omega) (Rw.some hs (by omega))) rfl ?_
    refine o_q (q_load_oldn _ rfl rfl sz_26 rfl (Rw.rd hs hk5)) rfl ?_
    refine o_q (q_call rfl fn_15 rfl (fun w1 h1 => c15 w1 (nth l k))) rfl ?_
    refine oP ?_
    refine o_nil ?_
    refine s_cond rfl (fun h2 => ?_) (fun h2 => ?_)
    · try simp only [Bool.not_eq_true'] at h2
      have hz1 : ¬ tslimB (nth l k) = true := by have hq := h2; simp [hq]
      have hbad := tshortB_f hk5 hz1
      refine s_seq ?_
      refine s_region ?_
      refine oP ?_
      refine o_nil ?_
      exact s_retv (rs := [.tmp 2]) rfl (.tmp rfl (.nil)) (fun w' h' => ⟨by rw [hbad]; rfl, h'.below⟩)
    · try simp only [Bool.not_eq_false'] at h2
      have hz1 : tslimB (nth l k) = true := by have hq := h2; simpa using hq
      refine s_skip ?_
      refine s_blk ?_
      refine s_region ?_
      refine oP ?_
      refine oP ?_
      try (refine o_slot (i64w (by omega) (by omega)) ?_)
      refine oP ?_
      refine o_nil ?_
      exact s_backI (k + 1) (by omega) ⟨by omega, fun q hq => (Nat.lt_or_ge q k).elim (hk3 q) (fun h9 => by obtain rfl : q = k := (by omega); exact hz1)⟩ aSx (fun w h => h.ent aEt)
  · try simp only [decide_eq_false_iff_not] at h1
    have hall := tshortB_t (es := l) (fun q hq => hk3 q (by omega))
    refine s_exit_to rfl ?_
    refine s_seq ?_
    refine s_region ?_
    refine oP ?_
    refine o_nil ?_
    exact s_retv (rs := [.tmp 2]) rfl (.tmp rfl (.nil)) (fun w' h' => ⟨by rw [hall]; rfl, h'.below⟩)

set_option maxRecDepth 20000 in
theorem c14 (w : World) (co mo rm : Int) (a : Option Addr) (cap : Nat) (L : List LNd) (hs : Nt w [] a L) : Calls Tryz.prog 14 #[.agg #[.int .i64 co, .int .i64 mo, .int .i64 rm, .slice a L.length cap]] w fun en w' => en = .returned (.bool (tfewB (pln L))) ∧ Below w.heap.size w w' := by
  have hnl : (pln L).length = L.length := pln_len L
  refine enter (args := [_]) Tryz.func14 Tryz.ntmps14 rfl rfl (HS.refl w []) ?_
  refine s_seq ?_
  refine s_region ?_
  refine o_h (h_box rfl rfl) rfl (fun b1 _ => ?_)
  refine oP ?_
  refine o_nil ?_
  refine s_seq ?_
  refine s_seq ?_
  refine s_region ?_
  refine o_p (p_fieldAddr rfl rfl fd_24_3 sz_22 rfl) rfl ?_
  refine o_q (q_load rfl rfl sz_22 aPk rfl) rfl ?_
  refine o_p (p_len_slice rfl rfl Tryz.underlying22) rfl ?_
  refine oP ?_
  refine oP ?_
  refine o_and 5 8 13 _ _ rfl
    (by
      intro hg2
      have hs3 := hg2; try simp only [decide_eq_true_eq] at hs3
      refine o_on 8 _ rfl rfl hg2 ?_
      refine o_p (p_fieldAddr rfl rfl fd_24_3 sz_22 rfl) rfl ?_
      refine o_on 8 _ rfl rfl hg2 ?_
      refine o_q (q_load rfl rfl sz_22 aPk rfl) rfl ?_
      refine o_on 8 _ rfl rfl hg2 ?_
      refine o_p (p_len_slice rfl rfl Tryz.underlying22) rfl ?_
      refine o_on 8 _ rfl rfl hg2 ?_
      refine oP ?_
      refine o_p (p_pickt rfl rfl hg2 rfl) rfl ?_
      refine o_nil ?_
      exact s_joinN 5 13 _ rfl rfl rfl (fun w h => by first | exact h | exact h.ent aEt))
    (by
      intro hg4
      have hs5 := hg4; try simp only [decide_eq_false_iff_not] at hs5
      refine o_off 8 _ rfl rfl hg4 rfl ?_
      refine o_off 8 _ rfl rfl hg4 rfl ?_
      refine o_off 8 _ rfl rfl hg4 rfl ?_
      refine o_off 8 _ rfl rfl hg4 rfl ?_
      refine o_p (p_pickf rfl rfl hg4 rfl) rfl ?_
      refine o_nil ?_
      exact s_joinN 5 13 _ rfl rfl rfl (fun w h => by first | exact h | exact h.ent aEt)) ?_
  refine oP ?_
  refine o_or 5 14 19 _ _ rfl
    (by
      intro hg6
      have hs7 := hg6; try simp only [Bool.and_eq_false_iff, decide_eq_false_iff_not] at hs7
      refine o_on 14 _ rfl rfl hg6 ?_
      refine o_p (p_fieldAddr rfl rfl fd_24_3 sz_22 rfl) rfl ?_
      refine o_on 14 _ rfl rfl hg6 ?_
      refine o_q (q_load rfl rfl sz_22 aPk rfl) rfl ?_
      refine o_on 14 _ rfl rfl hg6 ?_
      refine o_p (p_len_slice rfl rfl Tryz.underlying22) rfl ?_
      refine o_on 14 _ rfl rfl hg6 ?_
      refine oP ?_
      refine o_p (p_pickf rfl rfl hg6 rfl) rfl ?_
      refine o_nil ?_
      exact s_joinN 5 19 _ rfl rfl rfl (fun w h => by first | exact h | exact h.ent aEt))
    (by
      intro hg8
      have hs9 := hg8; try simp only [Bool.and_eq_true, decide_eq_true_eq] at hs9
      refine o_off 14 _ rfl rfl hg8 rfl ?_
      refine o_off 14 _ rfl rfl hg8 rfl ?_
      refine o_off 14 _ rfl rfl hg8 rfl ?_
      refine o_off 14 _ rfl rfl hg8 rfl ?_
      refine o_p (p_pickt rfl rfl hg8 rfl) rfl ?_
      refine o_nil ?_
      exact s_joinN 5 19 _ rfl rfl rfl (fun w h => by first | exact h | exact h.ent aEt)) ?_
  refine o_nil ?_
  refine s_cond rfl (fun h10 => ?_) (fun h10 => ?_)
  · try simp only [Bool.or_eq_true, Bool.and_eq_true, decide_eq_true_eq] at h10
    have hbad := tfewB_n (ns := pln L) (by rw [hnl]; have hq := h10; omega)
    refine s_seq ?_
    refine s_region ?_
    refine oP ?_
    refine o_nil ?_
    exact s_retv (rs := [.tmp 2]) rfl (.tmp rfl (.nil)) (fun w' h' => ⟨by rw [hbad]; rfl, h'.below⟩)
  · try simp only [Bool.or_eq_false_iff, Bool.and_eq_false_iff, decide_eq_false_iff_not] at h10
    have hlen : L.length ≤ 122 ∧ ¬ (60 < L.length ∧ L.length ≤ 120) := by have hq := h10; omega
    refine s_skip ?_
    refine s_seq ?_
    refine s_seq ?_
    refine s_region ?_
    refine oP ?_
    refine o_nil ?_
    refine s_block ?_
    refine s_loopI (α := Nat) [2, 3, 20, 21, 22, 23, 24, 25, 26, 27, 28, 29, 30, 31, 32, 33, 34, 35, 36, 37, 38, 39, 40, 41, 42, 43, 44, 45, 46, 47, 48, 49, 50, 51, 52, 53, 54] (fun k => [(3, .int .i64 (k : Int))]) (fun _ => HS w [] [.blk b1 24 4 [.int .i64 co, .int .i64 mo, .int .i64 rm, .slice a L.length cap]]) (fun k => k ≤ L.length ∧ ∀ q, q < k → tfewN (nth (pln L) q) = true) (fun k => L.length - k) 0 ⟨Nat.zero_le _, fun q h => absurd h (Nat.not_lt_zero q)⟩ aSx (fun w h => h.ent aEt) (fun k hx => ?_)
    obtain ⟨hk1, hk3⟩ := hx
    refine s_seq ?_
    refine s_seq ?_
    refine s_region ?_
    refine oP ?_
    refine o_p (p_fieldAddr rfl rfl fd_24_3 sz_22 rfl) rfl ?_
    refine o_q (q_load rfl rfl sz_22 aPk rfl) rfl ?_
    refine o_p (p_len_slice rfl rfl Tryz.underlying22) rfl ?_
    refine oP ?_
    refine o_nil ?_
    refine s_cond rfl (fun h11 => ?_) (fun h11 => ?_)
    · try simp only [decide_eq_true_eq] at h11
      have hk5 : k < L.length := by omega
      have hnk := pln_nth hk5
      refine s_skip ?_
      refine s_seq ?_
      refine s_block ?_
      refine s_seq ?_
      refine s_region ?_
      refine o_p (p_fieldAddr rfl rfl fd_24_3 sz_22 rfl) rfl ?_
      refine o_q (q_load rfl rfl sz_22 aPk rfl) rfl ?_
      refine oP ?_
      refine o_p (p_indexAddr rfl rfl rfl sl_22 (k) (by omega) (by omega) (Rw.some hs.1 (by omega))) rfl ?_
      refine o_p (p_fieldAddr rfl rfl fd_102_1 sz_77 rfl) rfl ?_
      refine o_q (q_load_old rfl rfl sz_77 ((hs.1.rdj 1 hk5 rfl))) rfl ?_
      refine o_p (p_len_slice rfl rfl Tryz.underlying77) rfl ?_
      refine oP ?_
      refine oP ?_
      refine o_or 9 35 44 _ _ rfl
        (by
          intro hg12
          have hs13 := hg12; try simp only [decide_eq_false_iff_not] at hs13
          refine o_on 35 _ rfl rfl hg12 ?_
          refine o_p (p_fieldAddr rfl rfl fd_24_3 sz_22 rfl) rfl ?_
          refine o_on 35 _ rfl rfl hg12 ?_
          refine o_q (q_load rfl rfl sz_22 aPk rfl) rfl ?_
          refine o_on 35 _ rfl rfl hg12 ?_
          refine oP ?_
          refine o_on 35 _ rfl rfl hg12 ?_
          refine o_p (p_indexAddr rfl rfl rfl sl_22 (k) (by omega) (by omega) (Rw.some hs.1 (by omega))) rfl ?_
          refine o_on 35 _ rfl rfl hg12 ?_
          refine o_p (p_fieldAddr rfl rfl fd_102_2 sz_30 rfl) rfl ?_
          refine o_on 35 _ rfl rfl hg12 ?_
          refine o_q (q_load_old rfl rfl sz_30 ((hs.1.rdj 2 hk5 rfl))) rfl ?_
          refine o_on 35 _ rfl rfl hg12 ?_
          refine o_p (p_len_slice rfl rfl Tryz.underlying30) rfl ?_
          refine o_on 35 _ rfl rfl hg12 ?_
          refine oP ?_
          refine o_p (p_pickf rfl rfl hg12 rfl) rfl ?_
          refine o_nil ?_
          exact s_joinN 9 44 _ rfl rfl rfl (fun w h => by first | exact h | exact h.ent aEt))
        (by
          intro hg14
          have hs15 := hg14; try simp only [decide_eq_true_eq] at hs15
          refine o_off 35 _ rfl rfl hg14 rfl ?_
          refine o_off 35 _ rfl rfl hg14 rfl ?_
          refine o_off 35 _ rfl rfl hg14 rfl ?_
          refine o_off 35 _ rfl rfl hg14 rfl ?_
          refine o_off 35 _ rfl rfl hg14 rfl ?_
          refine o_off 35 _ rfl rfl hg14 rfl ?_
          refine o_off 35 _ rfl rfl hg14 rfl ?_
          refine o_off 35 _ rfl rfl hg14 rfl ?_
          refine o_p (p_pickt rfl rfl hg14 rfl) rfl ?_
          refine o_nil ?_
          exact s_joinN 9 44 _ rfl rfl rfl (fun w h => by first | exact h | exact h.ent aEt)) ?_
      refine oP ?_
      refine o_or 9 45 54 _ _ rfl
        (by
          intro hg16
          have hs17 := hg16; try simp only [Bool.or_eq_false_iff, decide_eq_false_iff_not] at hs17
          refine o_on 45 _ rfl rfl hg16 ?_
          refine o_p (p_fieldAddr rfl rfl fd_24_3 sz_22 rfl) rfl ?_
          refine o_on 45 _ rfl rfl hg16 ?_
          refine o_q (q_load rfl rfl sz_22 aPk rfl) rfl ?_
          refine o_on 45 _ rfl rfl hg16 ?_
          refine oP ?_
          refine o_on 45 _ rfl rfl hg16 ?_
          refine o_p (p_indexAddr rfl rfl rfl sl_22 (k) (by omega) (by omega) (Rw.some hs.1 (by omega))) rfl ?_
          refine o_on 45 _ rfl rfl hg16 ?_
          refine o_p (p_fieldAddr rfl rfl fd_102_1 sz_77 rfl) rfl ?_
          refine o_on 45 _ rfl rfl hg16 ?_
          refine o_q (q_load_old rfl rfl sz_77 ((hs.1.rdj 1 hk5 rfl))) rfl ?_
          refine o_on 45 _ rfl rfl hg16 ?_
          refine o_q (q_call rfl fn_43 rfl (fun w1 h1 => c43 w1 (nth L k).ea (nth L k).ec (nth L k).es ((hs.es hk5).later h1) (by have hq := hg16; omega))) rfl ?_
          refine o_on 45 _ rfl rfl hg16 ?_
          refine oP ?_
          refine o_p (p_pickf rfl rfl hg16 rfl) rfl ?_
          refine o_nil ?_
          exact s_joinN 9 54 _ rfl rfl rfl (fun w h => by first | exact h | exact h.ent aEt))
        (by
          intro hg18
          have hs19 := hg18; try simp only [Bool.or_eq_true, decide_eq_true_eq] at hs19
          refine o_off 45 _ rfl rfl hg18 rfl ?_
          refine o_off 45 _ rfl rfl hg18 rfl ?_
          refine o_off 45 _ rfl rfl hg18 rfl ?_
          refine o_off 45 _ rfl rfl hg18 rfl ?_
          refine o_off 45 _ rfl rfl hg18 rfl ?_
          refine o_off 45 _ rfl rfl hg18 rfl ?_
          refine o_off 45 _ rfl rfl hg18 rfl ?_
          refine o_off 45 _ rfl rfl hg18 rfl ?_
          refine o_p (p_pickt rfl rfl hg18 rfl) rfl ?_
          refine o_nil ?_
          exact s_joinN 9 54 _ rfl rfl rfl (fun w h => by first | exact h | exact h.ent aEt)) ?_
      refine o_nil ?_
      refine s_cond rfl (fun h20 => ?_) (fun h20 => ?_)
      · try simp only [Bool.or_eq_true, decide_eq_true_eq, Bool.not_eq_true'] at h20
        have hz1 : ¬ tfewN (nth (pln L) k) = true := by rw [hnk]; have hq := h20; exact tfewN_f (hq.imp (fun h9 => by show 10 < (nth L k).es.length ∨ 11 < (nth L k).cs.length; omega) id)
        have hbad := tfewB_f (by rw [hnl]; exact hk5) hz1
        refine s_seq ?_
        refine s_region ?_
        refine oP ?_
        refine o_nil ?_
        exact s_retv (rs := [.tmp 2]) rfl (.tmp rfl (.nil)) (fun w' h' => ⟨by rw [hbad]; rfl, h'.below⟩)
      · try simp only [Bool.or_eq_false_iff, decide_eq_false_iff_not, Bool.not_eq_false'] at h20
        have hz1 : tfewN (nth (pln L) k) = true := by rw [hnk]; have hq := h20; exact tfewN_t (by show (nth L k).es.length ≤ 10; omega) (by show (nth L k).cs.length ≤ 11; omega) hq.2
        refine s_skip ?_
        refine s_blk ?_
        refine s_region ?_
        refine oP ?_
        refine oP ?_
        try (refine o_slot (i64w (by omega) (by omega)) ?_)
        refine oP ?_
        refine o_nil ?_
        exact s_backI (k + 1) (by omega) ⟨by omega, fun q hq => (Nat.lt_or_ge q k).elim (hk3 q) (fun h9 => by obtain rfl : q = k := (by omega); exact hz1)⟩ aSx (fun w h => h.ent aEt)
    · try simp only [decide_eq_false_iff_not] at h11
      have hall := tfewB_t (ns := pln L) (by rw [hnl]; exact hlen) (fun q hq => hk3 q (by rw [hnl] at hq; omega))
      refine s_exit_to rfl ?_
      refine s_seq ?_
      refine s_region ?_
      refine oP ?_
      refine o_nil ?_
      exact s_retv (rs := [.tmp 2]) rfl (.tmp rfl (.nil)) (fun w' h' => ⟨by rw [hall]; rfl, h'.below⟩)

end Go.Proofs

namespace Go.Proofs
open Go Go.RowKit Gx
set_option linter.unusedVariables false
set_option linter.unusedSimpArgs false
attribute [local irreducible] Go.Calls Gx.S Gx.O Gx.D Gx.OpP Gx.OpQ Gx.OpH



set_option maxRecDepth 20000 in
theorem c34e (w : World) (co mo rm : Int) (a : Option Addr) (cap : Nat) (L : List LNd) (key : List UInt8) (hs : Nt w [] a L) (hB : Bd (pln L)) (hkl : ∀ i, i < L.length → ∀ x ∈ (nth L i).es, x.key.length ≤ 1000000) (he : ¬ (treE (⟨co, mo, rm, pln L⟩ : Tre)).2 = 0) : Calls Tryz.prog 34 #[.agg #[.int .i64 co, .int .i64 mo, .int .i64 rm, .slice a L.length cap], .string (bs key)] w fun en w' => en = .returned (.tuple #[.agg #[.string (bs []), .string (bs [])], .int .i64 (treE (⟨co, mo, rm, pln L⟩ : Tre)).2]) ∧ Below w.heap.size w w' := by
  refine enter (args := [_, _]) Tryz.func34 Tryz.ntmps34 rfl rfl (HS.refl w []) ?_
  refine s_seq ?_
  refine s_region ?_
  refine o_h (h_box rfl rfl) rfl (fun b1 _ => ?_)
  refine o_h (h_alloc rfl zr_26) rfl (fun b2 _ => ?_)
  refine oP ?_
  refine o_nil ?_
  refine s_seq ?_
  refine s_region ?_
  refine o_q (q_loadn rfl rfl sz_24 aPk rfl) rfl ?_
  refine oP ?_
  refine o_q (q_call rfl fn_67 rfl (fun w1 h1 => c67e w1 co mo rm a cap L key (hs.later h1.nil) hB hkl he)) rfl ?_
  refine oP ?_
  refine oP ?_
  refine oP ?_
  refine oP ?_
  refine oP ?_
  refine o_nil ?_
  refine s_seq ?_
  refine s_seq ?_
  refine s_region ?_
  refine oP ?_
  refine oP ?_
  refine o_nil ?_
  refine s_cond rfl (fun h3 => ?_) (fun h3 => ?_)
  · try simp only [Bool.not_eq_true', decide_eq_false_iff_not] at h3
    refine s_seq ?_
    refine s_region ?_
    refine o_p (p_build (cs := [_, _]) rfl rfl pl_26 zr_26 rfl) rfl ?_
    refine oP ?_
    refine o_h0 (h_store rfl rfl rfl sz_26 rfl aPt (by simp only [setMany_length, List.length_set, List.length_cons, List.length_nil, List.length_map]; omega) rfl) (fun _ _ => ?_)
    refine oP ?_
    refine o_nil ?_
    exact s_retv (rs := [.cell 4 26, .tmp 5]) rfl (.cell rfl sz_26 aPk rfl (.tmp rfl (.nil))) (fun w' h' => ⟨rfl, h'.below⟩)
  · try simp only [Bool.not_eq_false', decide_eq_true_eq] at h3
    exfalso; first | omega | (simp at h3; done) | (simp_all; done)

set_option maxRecDepth 20000 in
theorem c34x (w : World) (j : Nat) (mo rm : Int) (a : Option Addr) (cap : Nat) (L : List LNd) (key : List UInt8) (hs : Nt w [] a L) (hB : Bd (pln L)) (hkl : ∀ i, i < L.length → ∀ x ∈ (nth L i).es, x.key.length ≤ 1000000) (hkk : key.length ≤ 1000000) (h0 : (treE (⟨(j : Int), mo, rm, pln L⟩ : Tre)).2 = 0) (hx : ¬ keyE (j : Int) key = 0) : Calls Tryz.prog 34 #[.agg #[.int .i64 (j : Int), .int .i64 mo, .int .i64 rm, .slice a L.length cap], .string (bs key)] w fun en w' => en = .returned (.tuple #[.agg #[.string (bs []), .string (bs [])], .int .i64 (keyE (j : Int) key)]) ∧ Below w.heap.size w w' := by
  obtain ⟨hc0, hz0, hl0, hl120, hn0, _, _⟩ := treE_0 h0
  rw [show ((⟨(j : Int), mo, rm, pln L⟩ : Tre)).ns = pln L from rfl, pln_len] at hl0 hl120
  have hj : j ≤ 3 := by obtain ⟨j9, e9, hj9⟩ := col_ok hc0; have e8 : ((j : Nat) : Int) = (j9 : Int) := e9; omega
  have hT : TOk (j : Int) (pln L) := tok_of (t := (⟨(j : Int), mo, rm, pln L⟩ : Tre)) hn0
  have hmo := (sizE_0 hz0).1
  simp only [] at hmo
  refine enter (args := [_, _]) Tryz.func34 Tryz.ntmps34 rfl rfl (HS.refl w []) ?_
  refine s_seq ?_
  refine s_region ?_
  refine o_h (h_box rfl rfl) rfl (fun b1 _ => ?_)
  refine o_h (h_alloc rfl zr_26) rfl (fun b2 _ => ?_)
  refine oP ?_
  refine o_nil ?_
  refine s_seq ?_
  refine s_region ?_
  refine o_q (q_loadn rfl rfl sz_24 aPk rfl) rfl ?_
  refine oP ?_
  refine o_h (h_call rfl fn_67 rfl (fun w1 h1 => c67k w1 j mo rm a cap L key (hs.later h1.nil) hB hkl hkk h0)) rfl (fun ⟨b9, ⟨gn9, c9⟩, L9⟩ hF9 => ?_)
  dsimp only
  obtain ⟨hL9, hn9, hm9⟩ := hF9
  simp only [] at hL9 hn9 hm9
  have hl9 : L9.length = L.length := by rw [← pln_len L9, hL9, pln_len]
  have hB9 : Bd (pln L9) := by rw [hL9]; exact hB
  have hT9 : TOk (j : Int) (pln L9) := by rw [hL9]; exact hT
  have hK9 : ∀ i, i < L9.length → ∀ y ∈ (nth L9 i).es, keyOk (j : Int) y.key = true ∧ y.key.length ≤ 1000000 := fun i hi y hy => tok_key hT9 i (by rw [pln_len]; exact hi) y (by rw [pln_nth hi]; exact hy)
  refine oP ?_
  refine oP ?_
  refine oP ?_
  refine oP ?_
  refine oP ?_
  refine o_nil ?_
  refine s_seq ?_
  refine s_seq ?_
  refine s_region ?_
  refine oP ?_
  refine oP ?_
  refine o_nil ?_
  refine s_cond rfl (fun h3 => ?_) (fun h3 => ?_)
  · try simp only [Bool.not_eq_true', decide_eq_false_iff_not] at h3
    refine s_seq ?_
    refine s_region ?_
    refine o_p (p_build (cs := [_, _]) rfl rfl pl_26 zr_26 rfl) rfl ?_
    refine oP ?_
    refine o_h0 (h_store rfl rfl rfl sz_26 rfl aPt (by simp only [setMany_length, List.length_set, List.length_cons, List.length_nil, List.length_map]; omega) rfl) (fun _ _ => ?_)
    refine oP ?_
    refine o_nil ?_
    exact s_retv (rs := [.cell 4 26, .tmp 5]) rfl (.cell rfl sz_26 aPk rfl (.tmp rfl (.nil))) (fun w' h' => ⟨rfl, h'.below⟩)
  · try simp only [Bool.not_eq_false', decide_eq_true_eq] at h3
    exfalso; first | omega | (simp at h3; done) | (simp_all; done)

set_option maxRecDepth 20000 in
theorem c34m (w : World) (j : Nat) (mo rm : Int) (a : Option Addr) (cap : Nat) (L : List LNd) (key : List UInt8) (hs : Nt w [] a L) (hB : Bd (pln L)) (hkl : ∀ i, i < L.length → ∀ x ∈ (nth L i).es, x.key.length ≤ 1000000) (h0 : (treE (⟨(j : Int), mo, rm, pln L⟩ : Tre)).2 = 0) (hkk : key.length ≤ 1000000) (hx0 : keyE (j : Int) key = 0) (hx : ¬ (pathN (j : Int) (pln L) key).2.2 = true) : Calls Tryz.prog 34 #[.agg #[.int .i64 (j : Int), .int .i64 mo, .int .i64 rm, .slice a L.length cap], .string (bs key)] w fun en w' => en = .returned (.tuple #[.agg #[.string (bs []), .string (bs [])], .int .i64 6]) ∧ Below w.heap.size w w' := by
  obtain ⟨hc0, hz0, hl0, hl120, hn0, _, _⟩ := treE_0 h0
  rw [show ((⟨(j : Int), mo, rm, pln L⟩ : Tre)).ns = pln L from rfl, pln_len] at hl0 hl120
  have hj : j ≤ 3 := by obtain ⟨j9, e9, hj9⟩ := col_ok hc0; have e8 : ((j : Nat) : Int) = (j9 : Int) := e9; omega
  have hT : TOk (j : Int) (pln L) := tok_of (t := (⟨(j : Int), mo, rm, pln L⟩ : Tre)) hn0
  have hmo := (sizE_0 hz0).1
  simp only [] at hmo
  have hkey : keyOk (j : Int) key = true := keyE_ok hx0
  refine enter (args := [_, _]) Tryz.func34 Tryz.ntmps34 rfl rfl (HS.refl w []) ?_
  refine s_seq ?_
  refine s_region ?_
  refine o_h (h_box rfl rfl) rfl (fun b1 _ => ?_)
  refine o_h (h_alloc rfl zr_26) rfl (fun b2 _ => ?_)
  refine oP ?_
  refine o_nil ?_
  refine s_seq ?_
  refine s_region ?_
  refine o_q (q_loadn rfl rfl sz_24 aPk rfl) rfl ?_
  refine oP ?_
  refine o_h (h_call rfl fn_67 rfl (fun w1 h1 => c67k w1 j mo rm a cap L key (hs.later h1.nil) hB hkl hkk h0)) rfl (fun ⟨b9, ⟨gn9, c9⟩, L9⟩ hF9 => ?_)
  dsimp only
  obtain ⟨hL9, hn9, hm9⟩ := hF9
  simp only [] at hL9 hn9 hm9
  have hl9 : L9.length = L.length := by rw [← pln_len L9, hL9, pln_len]
  have hB9 : Bd (pln L9) := by rw [hL9]; exact hB
  have hT9 : TOk (j : Int) (pln L9) := by rw [hL9]; exact hT
  have hK9 : ∀ i, i < L9.length → ∀ y ∈ (nth L9 i).es, keyOk (j : Int) y.key = true ∧ y.key.length ≤ 1000000 := fun i hi y hy => tok_key hT9 i (by rw [pln_len]; exact hi) y (by rw [pln_nth hi]; exact hy)
  refine oP ?_
  refine oP ?_
  refine oP ?_
  refine oP ?_
  refine oP ?_
  refine o_nil ?_
  refine s_seq ?_
  refine s_seq ?_
  refine s_region ?_
  refine oP ?_
  refine oP ?_
  refine o_nil ?_
  refine s_cond rfl (fun h3 => ?_) (fun h3 => ?_)
  · try simp only [Bool.not_eq_true', decide_eq_false_iff_not] at h3
    exfalso; first | omega | (simp at h3; done) | (simp_all; done)
  · try simp only [Bool.not_eq_false', decide_eq_true_eq] at h3
    refine s_skip ?_
    refine s_seq ?_
    refine s_region ?_
    refine oP ?_
    refine oP ?_
    refine o_h (h_call rfl fn_68 rfl (fun w1 h1 => c68 w1 b9 j mo rm (some ⟨gn9, 0, none⟩) c9 L9 key hj (by omega) hB9 hT9 hK9 hkey hkk (HS.nt_at h1 aPk aPk) (HS.tbr h1 aPk))) rfl (fun ⟨pa, pc⟩ _ => ?_)
    dsimp only
    rw [hL9]
    refine oP ?_
    refine oP ?_
    refine oP ?_
    refine oP ?_
    refine oP ?_
    refine oP ?_
    refine oP ?_
    refine o_nil ?_
    refine s_seq ?_
    refine s_seq ?_
    refine s_region ?_
    refine oP ?_
    refine oP ?_
    refine o_nil ?_
    refine s_cond rfl (fun h4 => ?_) (fun h4 => ?_)
    · try simp only [Bool.not_eq_true'] at h4
      refine s_seq ?_
      refine s_region ?_
      refine o_p (p_build (cs := [_, _]) rfl rfl pl_26 zr_26 rfl) rfl ?_
      refine o_h0 (h_store rfl rfl rfl sz_26 rfl aPt (by simp only [setMany_length, List.length_set, List.length_cons, List.length_nil, List.length_map]; omega) rfl) (fun _ _ => ?_)
      refine oP ?_
      refine o_nil ?_
      exact s_retv (rs := [.cell 4 26, .tmp 5]) rfl (.cell rfl sz_26 aPk rfl (.tmp rfl (.nil))) (fun w' h' => ⟨rfl, h'.below⟩)
    · try simp only [Bool.not_eq_false'] at h4
      exfalso; first | omega | (simp at h4; done) | (simp_all; done)

set_option maxRecDepth 20000 in
theorem c34o (w : World) (j : Nat) (mo rm : Int) (a : Option Addr) (cap : Nat) (L : List LNd) (key : List UInt8) (hs : Nt w [] a L) (hB : Bd (pln L)) (hkl : ∀ i, i < L.length → ∀ x ∈ (nth L i).es, x.key.length ≤ 1000000) (h0 : (treE (⟨(j : Int), mo, rm, pln L⟩ : Tre)).2 = 0) (hkk : key.length ≤ 1000000) (hx0 : keyE (j : Int) key = 0) (hx : (pathN (j : Int) (pln L) key).2.2 = true) : Calls Tryz.prog 34 #[.agg #[.int .i64 (j : Int), .int .i64 mo, .int .i64 rm, .slice a L.length cap], .string (bs key)] w fun en w' => en = .returned (.tuple #[.agg #[.string (bs (entN (j : Int) (pln L) key).key), .string (bs (entN (j : Int) (pln L) key).val)], .int .i64 0]) ∧ Below w.heap.size w w' := by
  obtain ⟨hc0, hz0, hl0, hl120, hn0, _, _⟩ := treE_0 h0
  rw [show ((⟨(j : Int), mo, rm, pln L⟩ : Tre)).ns = pln L from rfl, pln_len] at hl0 hl120
  have hj : j ≤ 3 := by obtain ⟨j9, e9, hj9⟩ := col_ok hc0; have e8 : ((j : Nat) : Int) = (j9 : Int) := e9; omega
  have hT : TOk (j : Int) (pln L) := tok_of (t := (⟨(j : Int), mo, rm, pln L⟩ : Tre)) hn0
  have hmo := (sizE_0 hz0).1
  simp only [] at hmo
  have hkey : keyOk (j : Int) key = true := keyE_ok hx0
  have hend := path_end hT (by rw [pln_len]; exact hl0) key
  obtain ⟨hp1, hp2, hp3, hp4, hp5⟩ := hend
  rw [pln_len] at hp2 hp3
  refine enter (args := [_, _]) Tryz.func34 Tryz.ntmps34 rfl rfl (HS.refl w []) ?_
  refine s_seq ?_
  refine s_region ?_
  refine o_h (h_box rfl rfl) rfl (fun b1 _ => ?_)
  refine o_h (h_alloc rfl zr_26) rfl (fun b2 _ => ?_)
  refine oP ?_
  refine o_nil ?_
  refine s_seq ?_
  refine s_region ?_
  refine o_q (q_loadn rfl rfl sz_24 aPk rfl) rfl ?_
  refine oP ?_
  refine o_h (h_call rfl fn_67 rfl (fun w1 h1 => c67k w1 j mo rm a cap L key (hs.later h1.nil) hB hkl hkk h0)) rfl (fun ⟨b9, ⟨gn9, c9⟩, L9⟩ hF9 => ?_)
  dsimp only
  obtain ⟨hL9, hn9, hm9⟩ := hF9
  simp only [] at hL9 hn9 hm9
  have hl9 : L9.length = L.length := by rw [← pln_len L9, hL9, pln_len]
  have hB9 : Bd (pln L9) := by rw [hL9]; exact hB
  have hT9 : TOk (j : Int) (pln L9) := by rw [hL9]; exact hT
  have hK9 : ∀ i, i < L9.length → ∀ y ∈ (nth L9 i).es, keyOk (j : Int) y.key = true ∧ y.key.length ≤ 1000000 := fun i hi y hy => tok_key hT9 i (by rw [pln_len]; exact hi) y (by rw [pln_nth hi]; exact hy)
  refine oP ?_
  refine oP ?_
  refine oP ?_
  refine oP ?_
  refine oP ?_
  refine o_nil ?_
  refine s_seq ?_
  refine s_seq ?_
  refine s_region ?_
  refine oP ?_
  refine oP ?_
  refine o_nil ?_
  refine s_cond rfl (fun h3 => ?_) (fun h3 => ?_)
  · try simp only [Bool.not_eq_true', decide_eq_false_iff_not] at h3
    exfalso; first | omega | (simp at h3; done) | (simp_all; done)
  · try simp only [Bool.not_eq_false', decide_eq_true_eq] at h3
    refine s_skip ?_
    refine s_seq ?_
    refine s_region ?_
    refine oP ?_
    refine oP ?_
    refine o_h (h_call rfl fn_68 rfl (fun w1 h1 => c68 w1 b9 j mo rm (some ⟨gn9, 0, none⟩) c9 L9 key hj (by omega) hB9 hT9 hK9 hkey hkk (HS.nt_at h1 aPk aPk) (HS.tbr h1 aPk))) rfl (fun ⟨pa, pc⟩ _ => ?_)
    dsimp only
    rw [hL9]
    refine oP ?_
    refine oP ?_
    refine oP ?_
    refine oP ?_
    refine oP ?_
    refine oP ?_
    refine oP ?_
    refine o_nil ?_
    refine s_seq ?_
    refine s_seq ?_
    refine s_region ?_
    refine oP ?_
    refine oP ?_
    refine o_nil ?_
    refine s_cond rfl (fun h4 => ?_) (fun h4 => ?_)
    · try simp only [Bool.not_eq_true'] at h4
      exfalso; first | omega | (simp at h4; done) | (simp_all; done)
    · try simp only [Bool.not_eq_false'] at h4
      have hlf : (lastN (pathN (j : Int) (pln L) key).1) < L9.length := by omega
      have hn9f : nth (pln L) (lastN (pathN (j : Int) (pln L) key).1) = (nth L9 (lastN (pathN (j : Int) (pln L) key).1)).pl := by have h9 := pln_nth hlf; rw [hL9] at h9; exact h9
      have hat := fnd_lt (hp5 ▸ hx)
      rw [← hp4, hn9f] at hat
      simp only [LNd.pl] at hat
      have hpn : (pathN (j : Int) (pln L) key).1.length - 1 < (pathN (j : Int) (pln L) key).1.length := by omega
      have hXN : (entN (j : Int) (pln L) key) = nth (nth L9 (lastN (pathN (j : Int) (pln L) key).1)).es (pathN (j : Int) (pln L) key).2.1 := by rw [entN, hn9f]; rfl
      refine s_fact (fun w h => HS.kids_some (by rw [iN_len]; omega) h aPk) fun hpa => ?_
      obtain ⟨gp, hpa⟩ := hpa
      refine s_fact (fun w h => HS.es_some (i := (lastN (pathN (j : Int) (pln L) key).1)) hlf (by omega) h aPk) fun hge => ?_
      obtain ⟨ge, hge⟩ := hge
      refine s_skip ?_
      refine s_seq ?_
      refine s_draw [17] mixed ?_
      refine dP 0 ?_
      refine dP 1 ?_
      refine d_p 2 rfl (p_fieldAddr rfl rfl fd_112_0 sz_24 rfl) (by kernel_rfl) rfl rfl ?_
      refine d_p 3 rfl (p_fieldAddr rfl rfl fd_24_3 sz_22 rfl) (by kernel_rfl) rfl rfl ?_
      refine d_q 4 [[]] rfl (q_load rfl rfl sz_22 aPk rfl) (by kernel_rfl) (by kernel_rfl) (by kernel_rfl) rfl ?_
      refine dP 5 ?_
      refine dP 6 ?_
      refine d_p 7 rfl (p_len_slice rfl rfl Tryz.underlying30) (by kernel_rfl) rfl rfl ?_
      refine dP 8 ?_
      try (refine d_slot (i64w (by omega) (by omega)) ?_)
      refine d_p 9 rfl (p_indexAddr rfl rfl rfl sl_30 ((pathN (j : Int) (pln L) key).1.length - 1) (by omega) (by omega) hpa) (by kernel_rfl) rfl rfl ?_
      refine d_q 10 [[]] rfl (q_load_at rfl rfl sz_3 (fun w h => HS.path_rd hpn hpa h aPk)) (by kernel_rfl) (by kernel_rfl) (by kernel_rfl) rfl ?_
      refine d_slot (show _ = Value.int .i64 (((lastN (pathN (j : Int) (pln L) key).1) : Nat) : Int) from rfl) ?_
      refine d_p 11 rfl (p_indexAddr rfl rfl rfl sl_22 ((lastN (pathN (j : Int) (pln L) key).1)) (by omega) (by omega) rfl) (by kernel_rfl) rfl rfl ?_
      refine d_slot (show _ = Value.pointer (some ⟨gn9, (lastN (pathN (j : Int) (pln L) key).1) * 3, none⟩) from by rw [Nat.zero_add]) ?_
      refine d_p 12 rfl (p_fieldAddr rfl rfl fd_102_1 sz_77 rfl) (by kernel_rfl) rfl rfl ?_
      refine d_q 13 [[]] rfl (q_load_at rfl rfl sz_77 (fun w h => HS.nd_cell hlf h aPk 1 rfl (by decide))) (by kernel_rfl) (by kernel_rfl) (by kernel_rfl) rfl ?_
      refine dP 14 ?_
      refine d_p 15 rfl (p_indexAddr rfl rfl rfl sl_77 ((pathN (j : Int) (pln L) key).2.1) (by omega) (by omega) hge) (by kernel_rfl) rfl rfl ?_
      refine d_q 16 [[]] rfl (q_load_atn _ rfl rfl sz_26 (by rfl) (fun w h => HS.es_rd (i := (lastN (pathN (j : Int) (pln L) key).1)) hlf hat hge h aPk)) (by kernel_rfl) (by kernel_rfl) (by kernel_rfl) rfl ?_
      refine d_h0 17 rfl (h_store rfl rfl rfl sz_26 rfl aPt (by simp only [setMany_length, List.length_set, List.length_cons, List.length_nil, List.length_map]; omega) rfl) (by kernel_rfl) (fun w h => h.ent aEt) (fun _ _ => ?_)
      refine d_turn [] (by kernel_rfl) ?_
      refine dP 18 ?_
      refine d_nil (by kernel_rfl) (fun w h => by first | exact h | exact h.ent aEt) ?_
      exact s_retv (rs := [.cell 4 26, .tmp 5]) rfl (.cell rfl sz_26 aPk rfl (.tmp rfl (.nil))) (fun w' h' => ⟨by rw [hXN]; rfl, h'.below⟩)

set_option maxRecDepth 20000 in
theorem c36m (w : World) (j : Nat) (mo rm : Int) (a : Option Addr) (cap : Nat) (L : List LNd) (key : List UInt8) (hs : Nt w [] a L) (hB : Bd (pln L)) (hj : j ≤ 3) (hl0 : 0 < L.length) (hT : TOk (j : Int) (pln L)) (hkk : key.length ≤ 1000000) (hx0 : keyE (j : Int) key = 0) (hx : ¬ (pathN (j : Int) (pln L) key).2.2 = true) : Calls Tryz.prog 36 #[.agg #[.int .i64 (j : Int), .int .i64 mo, .int .i64 rm, .slice a L.length cap], .string (bs key)] w fun en w' => en = .returned (.tuple #[.agg #[.string (bs []), .string (bs [])], .bool false]) ∧ Below w.heap.size w w' := by
  have hkey : keyOk (j : Int) key = true := keyE_ok hx0
  refine enter (args := [_, _]) Tryz.func36 Tryz.ntmps36 rfl rfl (HS.refl w []) ?_
  refine s_seq ?_
  refine s_region ?_
  refine o_h (h_box rfl rfl) rfl (fun b1 _ => ?_)
  refine o_h (h_alloc rfl zr_26) rfl (fun b2 _ => ?_)
  refine oP ?_
  refine o_nil ?_
  refine s_seq ?_
  refine s_region ?_
  refine o_q (q_loadn rfl rfl sz_24 aPk rfl) rfl ?_
  refine oP ?_
  refine o_h (h_call rfl fn_20 rfl (fun w1 h1 => c20 w1 j mo rm a cap L key hj hl0 hB hT (hs.later h1.nil) hkey hkk)) rfl (fun ⟨pa, pc⟩ _ => ?_)
  refine oP ?_
  refine oP ?_
  refine oP ?_
  refine oP ?_
  refine oP ?_
  refine o_nil ?_
  refine s_seq ?_
  refine s_seq ?_
  refine s_region ?_
  refine oP ?_
  refine oP ?_
  refine o_nil ?_
  refine s_cond rfl (fun h3 => ?_) (fun h3 => ?_)
  · try simp only [Bool.not_eq_true'] at h3
    refine s_seq ?_
    refine s_region ?_
    refine o_p (p_build (cs := [_, _]) rfl rfl pl_26 zr_26 rfl) rfl ?_
    refine o_h0 (h_store rfl rfl rfl sz_26 rfl aPt (by simp only [setMany_length, List.length_set, List.length_cons, List.length_nil, List.length_map]; omega) rfl) (fun _ _ => ?_)
    refine oP ?_
    refine o_nil ?_
    exact s_retv (rs := [.cell 4 26, .tmp 5]) rfl (.cell rfl sz_26 aPk rfl (.tmp rfl (.nil))) (fun w' h' => ⟨rfl, h'.below⟩)
  · try simp only [Bool.not_eq_false'] at h3
    exfalso; first | omega | (simp at h3; done) | (simp_all; done)

set_option maxRecDepth 20000 in
theorem c36o (w : World) (j : Nat) (mo rm : Int) (a : Option Addr) (cap : Nat) (L : List LNd) (key : List UInt8) (hs : Nt w [] a L) (hB : Bd (pln L)) (hj : j ≤ 3) (hl0 : 0 < L.length) (hT : TOk (j : Int) (pln L)) (hkk : key.length ≤ 1000000) (hx0 : keyE (j : Int) key = 0) (hx : (pathN (j : Int) (pln L) key).2.2 = true) : Calls Tryz.prog 36 #[.agg #[.int .i64 (j : Int), .int .i64 mo, .int .i64 rm, .slice a L.length cap], .string (bs key)] w fun en w' => en = .returned (.tuple #[.agg #[.string (bs (entN (j : Int) (pln L) key).key), .string (bs (entN (j : Int) (pln L) key).val)], .bool true]) ∧ Below w.heap.size w w' := by
  have hkey : keyOk (j : Int) key = true := keyE_ok hx0
  have hK : ∀ i, i < L.length → ∀ y ∈ (nth L i).es, keyOk (j : Int) y.key = true ∧ y.key.length ≤ 1000000 := fun i hi y hy => tok_key hT i (by rw [pln_len]; exact hi) y (by rw [pln_nth hi]; exact hy)
  have hend := path_end hT (by rw [pln_len]; exact hl0) key
  obtain ⟨hp1, hp2, hp3, hp4, hp5⟩ := hend
  rw [pln_len] at hp2 hp3
  have hlf : (lastN (pathN (j : Int) (pln L) key).1) < L.length := hp3
  have hnf := pln_nth hlf
  have hat := fnd_lt (hp5 ▸ hx)
  rw [← hp4, hnf] at hat
  simp only [LNd.pl] at hat
  have hpl4 : plc (j : Int) (nth L (lastN (pathN (j : Int) (pln L) key).1)).es key = (pathN (j : Int) (pln L) key).2.1 := by rw [hp4, hnf]; rfl
  have hXN : (entN (j : Int) (pln L) key) = nth (nth L (lastN (pathN (j : Int) (pln L) key).1)).es (pathN (j : Int) (pln L) key).2.1 := by rw [entN, hnf]; rfl
  have hel := hB.es (lastN (pathN (j : Int) (pln L) key).1) (by rw [pln_len]; exact hlf)
  rw [hnf] at hel
  simp only [LNd.pl] at hel
  have hle := hB.len
  rw [pln_len] at hle
  refine enter (args := [_, _]) Tryz.func36 Tryz.ntmps36 rfl rfl (HS.refl w []) ?_
  refine s_seq ?_
  refine s_region ?_
  refine o_h (h_box rfl rfl) rfl (fun b1 _ => ?_)
  refine o_h (h_alloc rfl zr_26) rfl (fun b2 _ => ?_)
  refine oP ?_
  refine o_nil ?_
  refine s_seq ?_
  refine s_region ?_
  refine o_q (q_loadn rfl rfl sz_24 aPk rfl) rfl ?_
  refine oP ?_
  refine o_h (h_call rfl fn_20 rfl (fun w1 h1 => c20 w1 j mo rm a cap L key hj hl0 hB hT (hs.later h1.nil) hkey hkk)) rfl (fun ⟨pa, pc⟩ _ => ?_)
  dsimp only
  refine o_fact (fun w h => HS.pown_some (P := (pathN (j : Int) (pln L) key).1) (a := pa) (c := pc) hp1 h aPk) fun hpa => ?_
  obtain ⟨gp, hpa⟩ := hpa
  refine oP ?_
  refine oP ?_
  refine oP ?_
  refine oP ?_
  refine oP ?_
  refine o_nil ?_
  refine s_seq ?_
  refine s_seq ?_
  refine s_region ?_
  refine oP ?_
  refine oP ?_
  refine o_nil ?_
  refine s_cond rfl (fun h3 => ?_) (fun h3 => ?_)
  · try simp only [Bool.not_eq_true'] at h3
    exfalso; first | omega | (simp at h3; done) | (simp_all; done)
  · try simp only [Bool.not_eq_false'] at h3
    refine s_skip ?_
    refine s_seq ?_
    refine s_region ?_
    refine oP ?_
    refine oP ?_
    refine o_p (p_len_slice rfl rfl Tryz.underlying30) rfl ?_
    refine oP ?_
    try (refine o_slot (i64w (by omega) (by omega)) ?_)
    refine o_p (p_indexAddr rfl rfl rfl sl_30 ((pathN (j : Int) (pln L) key).1.length - 1) (by omega) (by omega) hpa) rfl ?_
    refine o_q (q_load_at rfl rfl sz_3 (fun w h => HS.pown_rd (P := (pathN (j : Int) (pln L) key).1) (a := pa) (c := pc) (k := (pathN (j : Int) (pln L) key).1.length - 1) (by omega) hpa h aPk)) rfl ?_
    refine o_slot (show _ = Value.int .i64 (((lastN (pathN (j : Int) (pln L) key).1) : Nat) : Int) from rfl) ?_
    refine oP ?_
    refine o_nil ?_
    refine s_seq ?_
    refine s_region ?_
    refine o_q (q_loadn rfl rfl sz_24 aPk rfl) rfl ?_
    refine oP ?_
    refine oP ?_
    refine o_q (q_call rfl fn_61 rfl (fun w1 h1 => by have h9 := c61 w1 j mo rm a cap L (lastN (pathN (j : Int) (pln L) key).1) key hj hlf (hs.later h1.nil) hle hel (hK _ hlf) hkey hkk; rw [hpl4] at h9; exact h9)) rfl ?_
    refine oP ?_
    refine oP ?_
    refine oP ?_
    refine oP ?_
    refine oP ?_
    refine o_nil ?_
    refine s_seq ?_
    refine s_weaken (L' := [(2, _), (4, _), (5, _), (8, _), (9, _)]) aSx (fun _ h => h) ?_
    refine s_region ?_
    refine o_p (p_fieldAddr rfl rfl fd_24_3 sz_22 rfl) rfl ?_
    refine o_q (q_load rfl rfl sz_22 aPk rfl) rfl ?_
    refine oP ?_
    refine o_p (p_indexAddr rfl rfl rfl sl_22 ((lastN (pathN (j : Int) (pln L) key).1)) (by omega) (by omega) (Rw.some hs.1 (by omega))) rfl ?_
    refine o_p (p_fieldAddr rfl rfl fd_102_1 sz_77 rfl) rfl ?_
    refine o_q (q_load_old rfl rfl sz_77 ((hs.1.rdj 1 hlf rfl))) rfl ?_
    refine oP ?_
    refine o_p (p_indexAddr rfl rfl rfl sl_77 ((pathN (j : Int) (pln L) key).2.1) (by omega) (by omega) (Rw.some (hs.es hlf) (by omega))) rfl ?_
    refine o_q (q_load_oldn _ rfl rfl sz_26 rfl (Rw.rd (hs.es hlf) hat)) rfl ?_
    refine o_h0 (h_store rfl rfl rfl sz_26 rfl aPt (by simp only [setMany_length, List.length_set, List.length_cons, List.length_nil, List.length_map]; omega) rfl) (fun _ _ => ?_)
    refine oP ?_
    refine o_nil ?_
    exact s_retv (rs := [.cell 4 26, .tmp 5]) rfl (.cell rfl sz_26 aPk rfl (.tmp rfl (.nil))) (fun w' h' => ⟨by rw [hXN]; rfl, h'.below⟩)

end Go.Proofs

namespace Go.Proofs
open Go Go.RowKit Gx
set_option linter.unusedVariables false
set_option linter.unusedSimpArgs false
attribute [local irreducible] Go.Calls Gx.S Gx.O Gx.D Gx.OpP Gx.OpQ Gx.OpH

theorem fn_14 : isFn Tryz.prog 14 = true := by kernel_rfl
theorem fn_34 : isFn Tryz.prog 34 = true := by kernel_rfl
theorem fn_18 : isFn Tryz.prog 18 = true := by kernel_rfl
theorem fn_36 : isFn Tryz.prog 36 = true := by kernel_rfl


theorem c23P (w : World) (a b : Option Addr) (c d : Nat) (P Q : List Nat) (hs : Rw inV 1 w [] a (iN P)) (ht : Rw inV 1 w [] b (iN Q)) (hl : P.length ≤ 100000) (hm : Q.length ≤ 100000) : Calls Tryz.prog 23 #[.slice a P.length c, .slice b Q.length d] w fun en w' => en = .returned (.bool (decide (iN P = iN Q))) ∧ Below w.heap.size w w' := by
  have h := c23 w a b c d (iN P) (iN Q) hs ht (by rw [iN_len]; exact hl) (by rw [iN_len]; exact hm)
  rw [iN_len, iN_len] at h
  exact h

set_option maxRecDepth 20000 in
set_option maxHeartbeats 400000 in
theorem c6z (w : World) (co mo rm : Int) (a : Option Addr) (cap : Nat) (L : List LNd) (key : List UInt8) (hs : Nt w [] a L) (hz : ¬ (tfewB (pln L) = true ∧ key.length ≤ 44)) : Calls Tryz.prog 6 #[.agg #[.int .i64 co, .int .i64 mo, .int .i64 rm, .slice a L.length cap], .string (bs key)] w fun en w' => en = .returned (.bool true) ∧ Below w.heap.size w w' := by
  refine enter (args := [_, _]) Tryz.func6 Tryz.ntmps6 rfl rfl (HS.refl w []) ?_
  refine s_seq ?_
  refine s_region ?_
  refine o_h (h_box rfl rfl) rfl (fun b1 _ => ?_)
  refine oP ?_
  refine o_nil ?_
  refine s_seq ?_
  refine s_seq ?_
  refine s_region ?_
  refine o_q (q_call rfl fn_13 rfl (fun w1 h1 => c13 w1)) rfl ?_
  refine oP ?_
  refine o_nil ?_
  refine s_cond rfl (fun h2 => ?_) (fun h2 => ?_)
  · try simp only [Bool.not_true] at h2
    exfalso; simp at h2
  · try simp only [Bool.not_true] at h2
    refine s_skip ?_
    refine s_seq ?_
    refine s_seq ?_
    refine s_region ?_
    refine o_q (q_loadn rfl rfl sz_24 aPk rfl) rfl ?_
    refine o_q (q_call rfl fn_14 rfl (fun w1 h1 => c14 w1 co mo rm a cap L (hs.later h1.nil))) rfl ?_
    refine oP ?_
    refine oP ?_
    refine o_or 4 20 24 _ _ rfl
      (by
        intro hg3
        have hs4 := hg3; try simp only [Bool.not_eq_false'] at hs4
        refine o_on 20 _ rfl rfl hg3 ?_
        refine oP ?_
        refine o_on 20 _ rfl rfl hg3 ?_
        refine o_p (p_len_str rfl rfl Tryz.underlying9) rfl ?_
        refine o_on 20 _ rfl rfl hg3 ?_
        refine oP ?_
        refine o_p (p_pickf rfl rfl hg3 rfl) rfl ?_
        refine o_nil ?_
        exact s_joinN 4 24 _ rfl rfl rfl (fun w h => by first | exact h | exact h.ent aEt))
      (by
        intro hg5
        have hs6 := hg5; try simp only [Bool.not_eq_true'] at hs6
        refine o_off 20 _ rfl rfl hg5 rfl ?_
        refine o_off 20 _ rfl rfl hg5 rfl ?_
        refine o_off 20 _ rfl rfl hg5 rfl ?_
        refine o_p (p_pickt rfl rfl hg5 rfl) rfl ?_
        refine o_nil ?_
        exact s_joinN 4 24 _ rfl rfl rfl (fun w h => by first | exact h | exact h.ent aEt)) ?_
    refine o_nil ?_
    refine s_cond rfl (fun h7 => ?_) (fun h7 => ?_)
    · try simp only [Bool.or_eq_true, Bool.not_eq_true', decide_eq_true_eq] at h7
      refine s_seq ?_
      refine s_region ?_
      refine oP ?_
      refine o_nil ?_
      exact s_retv (rs := [.tmp 4]) rfl (.tmp rfl (.nil)) (fun w' h' => ⟨by rfl, h'.below⟩)
    · try simp only [Bool.or_eq_false_iff, Bool.not_eq_false', decide_eq_false_iff_not] at h7
      exfalso; simp at h7; exact hz ⟨h7.1, by omega⟩

set_option maxRecDepth 20000 in
set_option maxHeartbeats 400000 in
theorem c6e (w : World) (co mo rm : Int) (a : Option Addr) (cap : Nat) (L : List LNd) (key : List UInt8) (hs : Nt w [] a L) (hfw : tfewB (pln L) = true) (hk44 : key.length ≤ 44) (he : ¬ (treE (⟨co, mo, rm, pln L⟩ : Tre)).2 = 0) : Calls Tryz.prog 6 #[.agg #[.int .i64 co, .int .i64 mo, .int .i64 rm, .slice a L.length cap], .string (bs key)] w fun en w' => en = .returned (.bool true) ∧ Below w.heap.size w w' := by
  have hB := tfew_bd hfw
  have hkl := tfew_keys hfw
  have hsm := tfew_sm hfw
  have hle := hB.len
  rw [pln_len] at hle
  have hkk : key.length ≤ 1000000 := by omega
  refine enter (args := [_, _]) Tryz.func6 Tryz.ntmps6 rfl rfl (HS.refl w []) ?_
  refine s_seq ?_
  refine s_region ?_
  refine o_h (h_box rfl rfl) rfl (fun b1 _ => ?_)
  refine oP ?_
  refine o_nil ?_
  refine s_seq ?_
  refine s_seq ?_
  refine s_region ?_
  refine o_q (q_call rfl fn_13 rfl (fun w1 h1 => c13 w1)) rfl ?_
  refine oP ?_
  refine o_nil ?_
  refine s_cond rfl (fun h2 => ?_) (fun h2 => ?_)
  · try simp only [Bool.not_true] at h2
    exfalso; simp at h2
  · try simp only [Bool.not_true] at h2
    refine s_skip ?_
    refine s_seq ?_
    refine s_seq ?_
    refine s_region ?_
    refine o_q (q_loadn rfl rfl sz_24 aPk rfl) rfl ?_
    refine o_q (q_call rfl fn_14 rfl (fun w1 h1 => c14 w1 co mo rm a cap L (hs.later h1.nil))) rfl ?_
    refine oP ?_
    refine oP ?_
    refine o_or 4 20 24 _ _ rfl
      (by
        intro hg3
        have hs4 := hg3; try simp only [Bool.not_eq_false'] at hs4
        refine o_on 20 _ rfl rfl hg3 ?_
        refine oP ?_
        refine o_on 20 _ rfl rfl hg3 ?_
        refine o_p (p_len_str rfl rfl Tryz.underlying9) rfl ?_
        refine o_on 20 _ rfl rfl hg3 ?_
        refine oP ?_
        refine o_p (p_pickf rfl rfl hg3 rfl) rfl ?_
        refine o_nil ?_
        exact s_joinN 4 24 _ rfl rfl rfl (fun w h => by first | exact h | exact h.ent aEt))
      (by
        intro hg5
        have hs6 := hg5; try simp only [Bool.not_eq_true'] at hs6
        refine o_off 20 _ rfl rfl hg5 rfl ?_
        refine o_off 20 _ rfl rfl hg5 rfl ?_
        refine o_off 20 _ rfl rfl hg5 rfl ?_
        refine o_p (p_pickt rfl rfl hg5 rfl) rfl ?_
        refine o_nil ?_
        exact s_joinN 4 24 _ rfl rfl rfl (fun w h => by first | exact h | exact h.ent aEt)) ?_
    refine o_nil ?_
    refine s_cond rfl (fun h7 => ?_) (fun h7 => ?_)
    · try simp only [Bool.or_eq_true, Bool.not_eq_true', decide_eq_true_eq] at h7
      exfalso; simp [hfw] at h7; omega
    · try simp only [Bool.or_eq_false_iff, Bool.not_eq_false', decide_eq_false_iff_not] at h7
      refine s_skip ?_
      refine s_seq ?_
      refine s_region ?_
      refine o_q (q_loadn rfl rfl sz_24 aPk rfl) rfl ?_
      refine o_h (h_call rfl fn_17 rfl (fun w1 h1 => c17 w1 co mo rm a cap L (hs.later h1.nil) hle hsm)) rfl (fun ⟨⟨ga1, gc1⟩, LC1⟩ hLC1 => ?_)
      dsimp only
      refine oP ?_
      refine o_q (q_call rfl fn_34 rfl (fun w1 h1 => c34e w1 co mo rm ga1 gc1 LC1 key (HS.nt h1 aPk) (by rw [hLC1]; exact hB) (tfew_keys (by rw [hLC1]; exact hfw)) (by rw [hLC1]; exact he))) rfl ?_
      rw [hLC1]
      refine oP ?_
      refine oP ?_
      refine oP ?_
      refine o_h (h_alloc rfl zr_26) rfl (fun b8 _ => ?_)
      refine o_h0 (h_store rfl rfl rfl sz_26 rfl aPt (by simp only [setMany_length, List.length_set, List.length_cons, List.length_nil, List.length_map]; omega) rfl) (fun _ _ => ?_)
      refine oP ?_
      refine o_nil ?_
      refine s_seq ?_
      refine s_region ?_
      refine o_q (q_loadn rfl rfl sz_24 aPk rfl) rfl ?_
      refine o_h (h_call rfl fn_17 rfl (fun w1 h1 => c17 w1 co mo rm a cap L (hs.later h1.nil) hle hsm)) rfl (fun ⟨⟨ga2, gc2⟩, LC2⟩ hLC2 => ?_)
      dsimp only
      refine oP ?_
      refine o_q (q_call rfl fn_35 rfl (fun w1 h1 => c35e w1 co mo rm ga2 gc2 LC2 key (HS.nt h1 aPk) (by rw [hLC2]; exact hB) (tfew_keys (by rw [hLC2]; exact hfw)) (by rw [hLC2]; exact he))) rfl ?_
      rw [hLC2]
      refine oP ?_
      refine oP ?_
      refine oP ?_
      refine oP ?_
      refine oP ?_
      refine oP ?_
      refine oP ?_
      refine o_nil ?_
      refine s_seq ?_
      refine s_weaken (L' := [(1, _), (2, _), (4, _), (5, _), (6, _), (7, _), (8, _), (9, _)]) aSx (fun _ h => h) ?_
      refine s_region ?_
      refine o_q (q_loadn rfl rfl sz_24 aPk rfl) rfl ?_
      refine o_q (q_call rfl fn_18 rfl (fun w1 h1 => c18 w1 co mo rm a cap L (hs.later h1.nil) hB hkl)) rfl ?_
      refine oP ?_
      refine o_nil ?_
      refine s_seq ?_
      refine s_seq ?_
      refine s_region ?_
      refine oP ?_
      refine oP ?_
      refine o_nil ?_
      refine s_cond rfl (fun h9 => ?_) (fun h9 => ?_)
      · try simp only [decide_eq_true_eq] at h9
        exfalso; omega
      · try simp only [decide_eq_false_iff_not] at h9
        refine s_skip ?_
        refine s_seq ?_
        refine s_seq ?_
        refine s_region ?_
        refine oP ?_
        refine oP ?_
        refine o_nil ?_
        refine s_cond rfl (fun h10 => ?_) (fun h10 => ?_)
        · try simp only [Bool.not_eq_true', decide_eq_false_iff_not] at h10
          refine s_seq ?_
          refine s_region ?_
          refine oP ?_
          refine oP ?_
          refine oP ?_
          refine oP ?_
          refine o_and 4 53 57 _ _ rfl
            (by
              intro hg11
              have hs12 := hg11; try simp only [decide_eq_true_eq] at hs12
              refine o_on 53 _ rfl rfl hg11 ?_
              refine oP ?_
              refine o_on 53 _ rfl rfl hg11 ?_
              refine oP ?_
              refine o_on 53 _ rfl rfl hg11 ?_
              refine oP ?_
              refine o_p (p_pickt rfl rfl hg11 rfl) rfl ?_
              refine o_nil ?_
              exact s_joinN 4 57 _ rfl rfl rfl (fun w h => by first | exact h | exact h.ent aEt))
            (by
              intro hg13
              have hs14 := hg13; try simp only [decide_eq_false_iff_not] at hs14
              refine o_off 53 _ rfl rfl hg13 rfl ?_
              refine o_off 53 _ rfl rfl hg13 rfl ?_
              refine o_off 53 _ rfl rfl hg13 rfl ?_
              refine o_p (p_pickf rfl rfl hg13 rfl) rfl ?_
              refine o_nil ?_
              exact s_joinN 4 57 _ rfl rfl rfl (fun w h => by first | exact h | exact h.ent aEt)) ?_
          refine oP ?_
          refine o_and 4 58 62 _ _ rfl
            (by
              intro hg15
              have hs16 := hg15; try simp only [Bool.and_eq_true, decide_eq_true_eq] at hs16
              refine o_on 58 _ rfl rfl hg15 ?_
              refine o_q (q_loadn rfl rfl sz_26 aPk rfl) rfl ?_
              refine o_on 58 _ rfl rfl hg15 ?_
              refine o_p (p_build (cs := [_, _]) rfl rfl pl_26 zr_26 rfl) rfl ?_
              refine o_on 58 _ rfl rfl hg15 ?_
              refine o_p (p_eql_agg rfl rfl rfl eqk_26 (by rfl) (by rfl) (by rfl)) rfl ?_
              refine o_p (p_pickt rfl rfl hg15 rfl) rfl ?_
              refine o_nil ?_
              exact s_joinN 4 62 _ rfl rfl rfl (fun w h => by first | exact h | exact h.ent aEt))
            (by
              intro hg17
              have hs18 := hg17; try simp only [Bool.and_eq_false_iff, decide_eq_false_iff_not] at hs18
              refine o_off 58 _ rfl rfl hg17 rfl ?_
              refine o_off 58 _ rfl rfl hg17 rfl ?_
              refine o_off 58 _ rfl rfl hg17 rfl ?_
              refine o_p (p_pickf rfl rfl hg17 rfl) rfl ?_
              refine o_nil ?_
              exact s_joinN 4 62 _ rfl rfl rfl (fun w h => by first | exact h | exact h.ent aEt)) ?_
          refine oP ?_
          refine o_and 4 63 67 _ _ rfl
            (by
              intro hg19
              have hs20 := hg19; try simp only [Bool.and_eq_true, decide_eq_true_eq] at hs20
              refine o_on 63 _ rfl rfl hg19 ?_
              refine oP ?_
              refine o_on 63 _ rfl rfl hg19 ?_
              refine o_p (p_len_slice rfl rfl Tryz.underlying30) rfl ?_
              refine o_on 63 _ rfl rfl hg19 ?_
              refine oP ?_
              refine o_p (p_pickt rfl rfl hg19 rfl) rfl ?_
              refine o_nil ?_
              exact s_joinN 4 67 _ rfl rfl rfl (fun w h => by first | exact h | exact h.ent aEt))
            (by
              intro hg21
              have hs22 := hg21; try simp only [Bool.and_eq_false_iff, decide_eq_false_iff_not] at hs22
              refine o_off 63 _ rfl rfl hg21 rfl ?_
              refine o_off 63 _ rfl rfl hg21 rfl ?_
              refine o_off 63 _ rfl rfl hg21 rfl ?_
              refine o_p (p_pickf rfl rfl hg21 rfl) rfl ?_
              refine o_nil ?_
              exact s_joinN 4 67 _ rfl rfl rfl (fun w h => by first | exact h | exact h.ent aEt)) ?_
          refine oP ?_
          refine o_and 3 68 71 _ _ rfl
            (by
              intro hg23
              have hs24 := hg23; try simp only [Bool.and_eq_true, decide_eq_true_eq] at hs24
              refine o_on 68 _ rfl rfl hg23 ?_
              refine oP ?_
              refine o_on 68 _ rfl rfl hg23 ?_
              refine oP ?_
              refine o_p (p_pickt rfl rfl hg23 rfl) rfl ?_
              refine o_nil ?_
              exact s_joinN 3 71 _ rfl rfl rfl (fun w h => by first | exact h | exact h.ent aEt))
            (by
              intro hg25
              have hs26 := hg25; try simp only [Bool.and_eq_false_iff, decide_eq_false_iff_not] at hs26
              refine o_off 68 _ rfl rfl hg25 rfl ?_
              refine o_off 68 _ rfl rfl hg25 rfl ?_
              refine o_p (p_pickf rfl rfl hg25 rfl) rfl ?_
              refine o_nil ?_
              exact s_joinN 3 71 _ rfl rfl rfl (fun w h => by first | exact h | exact h.ent aEt)) ?_
          refine oP ?_
          refine o_nil ?_
          exact s_retv (rs := [.tmp 4]) rfl (.tmp rfl (.nil)) (fun w' h' => ⟨by simp [retV], h'.below⟩)
        · try simp only [Bool.not_eq_false', decide_eq_true_eq] at h10
          exfalso; omega

set_option maxRecDepth 20000 in
set_option maxHeartbeats 400000 in
theorem c6x (w : World) (j : Nat) (mo rm : Int) (a : Option Addr) (cap : Nat) (L : List LNd) (key : List UInt8) (hs : Nt w [] a L) (hfw : tfewB (pln L) = true) (hk44 : key.length ≤ 44) (h0 : (treE (⟨(j : Int), mo, rm, pln L⟩ : Tre)).2 = 0) (hx : ¬ keyE (j : Int) key = 0) : Calls Tryz.prog 6 #[.agg #[.int .i64 (j : Int), .int .i64 mo, .int .i64 rm, .slice a L.length cap], .string (bs key)] w fun en w' => en = .returned (.bool true) ∧ Below w.heap.size w w' := by
  have hB := tfew_bd hfw
  have hkl := tfew_keys hfw
  have hsm := tfew_sm hfw
  have hle := hB.len
  rw [pln_len] at hle
  have hkk : key.length ≤ 1000000 := by omega
  obtain ⟨hc0, hz0, hl0, hl120, hn0, _, _⟩ := treE_0 h0
  rw [show ((⟨(j : Int), mo, rm, pln L⟩ : Tre)).ns = pln L from rfl, pln_len] at hl0 hl120
  have hj : j ≤ 3 := by obtain ⟨j9, e9, hj9⟩ := col_ok hc0; have e8 : ((j : Nat) : Int) = (j9 : Int) := e9; omega
  have hT : TOk (j : Int) (pln L) := tok_of (t := (⟨(j : Int), mo, rm, pln L⟩ : Tre)) hn0
  have hmo := (sizE_0 hz0).1
  simp only [] at hmo
  refine enter (args := [_, _]) Tryz.func6 Tryz.ntmps6 rfl rfl (HS.refl w []) ?_
  refine s_seq ?_
  refine s_region ?_
  refine o_h (h_box rfl rfl) rfl (fun b1 _ => ?_)
  refine oP ?_
  refine o_nil ?_
  refine s_seq ?_
  refine s_seq ?_
  refine s_region ?_
  refine o_q (q_call rfl fn_13 rfl (fun w1 h1 => c13 w1)) rfl ?_
  refine oP ?_
  refine o_nil ?_
  refine s_cond rfl (fun h2 => ?_) (fun h2 => ?_)
  · try simp only [Bool.not_true] at h2
    exfalso; simp at h2
  · try simp only [Bool.not_true] at h2
    refine s_skip ?_
    refine s_seq ?_
    refine s_seq ?_
    refine s_region ?_
    refine o_q (q_loadn rfl rfl sz_24 aPk rfl) rfl ?_
    refine o_q (q_call rfl fn_14 rfl (fun w1 h1 => c14 w1 (j : Int) mo rm a cap L (hs.later h1.nil))) rfl ?_
    refine oP ?_
    refine oP ?_
    refine o_or 4 20 24 _ _ rfl
      (by
        intro hg3
        have hs4 := hg3; try simp only [Bool.not_eq_false'] at hs4
        refine o_on 20 _ rfl rfl hg3 ?_
        refine oP ?_
        refine o_on 20 _ rfl rfl hg3 ?_
        refine o_p (p_len_str rfl rfl Tryz.underlying9) rfl ?_
        refine o_on 20 _ rfl rfl hg3 ?_
        refine oP ?_
        refine o_p (p_pickf rfl rfl hg3 rfl) rfl ?_
        refine o_nil ?_
        exact s_joinN 4 24 _ rfl rfl rfl (fun w h => by first | exact h | exact h.ent aEt))
      (by
        intro hg5
        have hs6 := hg5; try simp only [Bool.not_eq_true'] at hs6
        refine o_off 20 _ rfl rfl hg5 rfl ?_
        refine o_off 20 _ rfl rfl hg5 rfl ?_
        refine o_off 20 _ rfl rfl hg5 rfl ?_
        refine o_p (p_pickt rfl rfl hg5 rfl) rfl ?_
        refine o_nil ?_
        exact s_joinN 4 24 _ rfl rfl rfl (fun w h => by first | exact h | exact h.ent aEt)) ?_
    refine o_nil ?_
    refine s_cond rfl (fun h7 => ?_) (fun h7 => ?_)
    · try simp only [Bool.or_eq_true, Bool.not_eq_true', decide_eq_true_eq] at h7
      exfalso; simp [hfw] at h7; omega
    · try simp only [Bool.or_eq_false_iff, Bool.not_eq_false', decide_eq_false_iff_not] at h7
      refine s_skip ?_
      refine s_seq ?_
      refine s_region ?_
      refine o_q (q_loadn rfl rfl sz_24 aPk rfl) rfl ?_
      refine o_h (h_call rfl fn_17 rfl (fun w1 h1 => c17 w1 (j : Int) mo rm a cap L (hs.later h1.nil) hle hsm)) rfl (fun ⟨⟨ga1, gc1⟩, LC1⟩ hLC1 => ?_)
      dsimp only
      refine oP ?_
      refine o_q (q_call rfl fn_34 rfl (fun w1 h1 => c34x w1 j mo rm ga1 gc1 LC1 key (HS.nt h1 aPk) (by rw [hLC1]; exact hB) (tfew_keys (by rw [hLC1]; exact hfw)) hkk (by rw [hLC1]; exact h0) hx)) rfl ?_
      try rw [hLC1]
      refine oP ?_
      refine oP ?_
      refine oP ?_
      refine o_h (h_alloc rfl zr_26) rfl (fun b8 _ => ?_)
      refine o_h0 (h_store rfl rfl rfl sz_26 rfl aPt (by simp only [setMany_length, List.length_set, List.length_cons, List.length_nil, List.length_map]; omega) rfl) (fun _ _ => ?_)
      refine oP ?_
      refine o_nil ?_
      refine s_seq ?_
      refine s_region ?_
      refine o_q (q_loadn rfl rfl sz_24 aPk rfl) rfl ?_
      refine o_h (h_call rfl fn_17 rfl (fun w1 h1 => c17 w1 (j : Int) mo rm a cap L (hs.later h1.nil) hle hsm)) rfl (fun ⟨⟨ga2, gc2⟩, LC2⟩ hLC2 => ?_)
      dsimp only
      refine oP ?_
      refine o_q (q_call rfl fn_35 rfl (fun w1 h1 => c35x w1 j mo rm ga2 gc2 LC2 key (HS.nt h1 aPk) (by rw [hLC2]; exact hB) (tfew_keys (by rw [hLC2]; exact hfw)) hkk (by rw [hLC2]; exact h0) hx)) rfl ?_
      try dsimp only
      try rw [hLC2]
      refine oP ?_
      refine oP ?_
      refine oP ?_
      refine oP ?_
      refine oP ?_
      refine oP ?_
      refine oP ?_
      refine o_nil ?_
      refine s_seq ?_
      refine s_weaken (L' := [(1, _), (2, _), (4, _), (5, _), (6, _), (7, _), (8, _), (9, _)]) aSx (fun _ h => h) ?_
      refine s_region ?_
      refine o_q (q_loadn rfl rfl sz_24 aPk rfl) rfl ?_
      refine o_q (q_call rfl fn_18 rfl (fun w1 h1 => c18 w1 (j : Int) mo rm a cap L (hs.later h1.nil) hB hkl)) rfl ?_
      refine oP ?_
      refine o_nil ?_
      refine s_seq ?_
      refine s_seq ?_
      refine s_region ?_
      refine oP ?_
      refine oP ?_
      refine o_nil ?_
      refine s_cond rfl (fun h9 => ?_) (fun h9 => ?_)
      · try simp only [decide_eq_true_eq] at h9
        refine s_region ?_
        refine o_p (p_fieldAddr rfl rfl fd_24_0 sz_3 rfl) rfl ?_
        refine o_q (q_load rfl rfl sz_3 aPk rfl) rfl ?_
        refine oP ?_
        refine o_q (q_call rfl fn_26 rfl (fun w1 h1 => c26 w1 j key hj hkk)) rfl ?_
        refine oP ?_
        refine o_nil ?_
        refine s_seq ?_
        refine s_seq ?_
        refine s_region ?_
        refine oP ?_
        refine oP ?_
        refine o_nil ?_
        refine s_cond rfl (fun h10 => ?_) (fun h10 => ?_)
        · try simp only [Bool.not_eq_true', decide_eq_false_iff_not] at h10
          refine s_seq ?_
          refine s_region ?_
          refine oP ?_
          refine oP ?_
          refine oP ?_
          refine oP ?_
          refine o_and 4 53 57 _ _ rfl
            (by
              intro hg11
              have hs12 := hg11; try simp only [decide_eq_true_eq] at hs12
              refine o_on 53 _ rfl rfl hg11 ?_
              refine oP ?_
              refine o_on 53 _ rfl rfl hg11 ?_
              refine oP ?_
              refine o_on 53 _ rfl rfl hg11 ?_
              refine oP ?_
              refine o_p (p_pickt rfl rfl hg11 rfl) rfl ?_
              refine o_nil ?_
              exact s_joinN 4 57 _ rfl rfl rfl (fun w h => by first | exact h | exact h.ent aEt))
            (by
              intro hg13
              have hs14 := hg13; try simp only [decide_eq_false_iff_not] at hs14
              refine o_off 53 _ rfl rfl hg13 rfl ?_
              refine o_off 53 _ rfl rfl hg13 rfl ?_
              refine o_off 53 _ rfl rfl hg13 rfl ?_
              refine o_p (p_pickf rfl rfl hg13 rfl) rfl ?_
              refine o_nil ?_
              exact s_joinN 4 57 _ rfl rfl rfl (fun w h => by first | exact h | exact h.ent aEt)) ?_
          refine oP ?_
          refine o_and 4 58 62 _ _ rfl
            (by
              intro hg15
              have hs16 := hg15; try simp only [Bool.and_eq_true, decide_eq_true_eq] at hs16
              refine o_on 58 _ rfl rfl hg15 ?_
              refine o_q (q_loadn rfl rfl sz_26 aPk rfl) rfl ?_
              refine o_on 58 _ rfl rfl hg15 ?_
              refine o_p (p_build (cs := [_, _]) rfl rfl pl_26 zr_26 rfl) rfl ?_
              refine o_on 58 _ rfl rfl hg15 ?_
              refine o_p (p_eql_agg rfl rfl rfl eqk_26 (by rfl) (by rfl) (by rfl)) rfl ?_
              refine o_p (p_pickt rfl rfl hg15 rfl) rfl ?_
              refine o_nil ?_
              exact s_joinN 4 62 _ rfl rfl rfl (fun w h => by first | exact h | exact h.ent aEt))
            (by
              intro hg17
              have hs18 := hg17; try simp only [Bool.and_eq_false_iff, decide_eq_false_iff_not] at hs18
              refine o_off 58 _ rfl rfl hg17 rfl ?_
              refine o_off 58 _ rfl rfl hg17 rfl ?_
              refine o_off 58 _ rfl rfl hg17 rfl ?_
              refine o_p (p_pickf rfl rfl hg17 rfl) rfl ?_
              refine o_nil ?_
              exact s_joinN 4 62 _ rfl rfl rfl (fun w h => by first | exact h | exact h.ent aEt)) ?_
          refine oP ?_
          refine o_and 4 63 67 _ _ rfl
            (by
              intro hg19
              have hs20 := hg19; try simp only [Bool.and_eq_true, decide_eq_true_eq] at hs20
              refine o_on 63 _ rfl rfl hg19 ?_
              refine oP ?_
              refine o_on 63 _ rfl rfl hg19 ?_
              refine o_p (p_len_slice rfl rfl Tryz.underlying30) rfl ?_
              refine o_on 63 _ rfl rfl hg19 ?_
              refine oP ?_
              refine o_p (p_pickt rfl rfl hg19 rfl) rfl ?_
              refine o_nil ?_
              exact s_joinN 4 67 _ rfl rfl rfl (fun w h => by first | exact h | exact h.ent aEt))
            (by
              intro hg21
              have hs22 := hg21; try simp only [Bool.and_eq_false_iff, decide_eq_false_iff_not] at hs22
              refine o_off 63 _ rfl rfl hg21 rfl ?_
              refine o_off 63 _ rfl rfl hg21 rfl ?_
              refine o_off 63 _ rfl rfl hg21 rfl ?_
              refine o_p (p_pickf rfl rfl hg21 rfl) rfl ?_
              refine o_nil ?_
              exact s_joinN 4 67 _ rfl rfl rfl (fun w h => by first | exact h | exact h.ent aEt)) ?_
          refine oP ?_
          refine o_and 3 68 71 _ _ rfl
            (by
              intro hg23
              have hs24 := hg23; try simp only [Bool.and_eq_true, decide_eq_true_eq] at hs24
              refine o_on 68 _ rfl rfl hg23 ?_
              refine oP ?_
              refine o_on 68 _ rfl rfl hg23 ?_
              refine oP ?_
              refine o_p (p_pickt rfl rfl hg23 rfl) rfl ?_
              refine o_nil ?_
              exact s_joinN 3 71 _ rfl rfl rfl (fun w h => by first | exact h | exact h.ent aEt))
            (by
              intro hg25
              have hs26 := hg25; try simp only [Bool.and_eq_false_iff, decide_eq_false_iff_not] at hs26
              refine o_off 68 _ rfl rfl hg25 rfl ?_
              refine o_off 68 _ rfl rfl hg25 rfl ?_
              refine o_p (p_pickf rfl rfl hg25 rfl) rfl ?_
              refine o_nil ?_
              exact s_joinN 3 71 _ rfl rfl rfl (fun w h => by first | exact h | exact h.ent aEt)) ?_
          refine oP ?_
          refine o_nil ?_
          exact s_retv (rs := [.tmp 4]) rfl (.tmp rfl (.nil)) (fun w' h' => ⟨by simp [retV], h'.below⟩)
        · try simp only [Bool.not_eq_false', decide_eq_true_eq] at h10
          exfalso; omega
      · try simp only [decide_eq_false_iff_not] at h9
        exfalso; omega

set_option maxRecDepth 20000 in
set_option maxHeartbeats 400000 in
theorem c6m (w : World) (j : Nat) (mo rm : Int) (a : Option Addr) (cap : Nat) (L : List LNd) (key : List UInt8) (hs : Nt w [] a L) (hfw : tfewB (pln L) = true) (hk44 : key.length ≤ 44) (h0 : (treE (⟨(j : Int), mo, rm, pln L⟩ : Tre)).2 = 0) (hx0 : keyE (j : Int) key = 0) (hx : ¬ (pathN (j : Int) (pln L) key).2.2 = true) : Calls Tryz.prog 6 #[.agg #[.int .i64 (j : Int), .int .i64 mo, .int .i64 rm, .slice a L.length cap], .string (bs key)] w fun en w' => en = .returned (.bool true) ∧ Below w.heap.size w w' := by
  have hB := tfew_bd hfw
  have hkl := tfew_keys hfw
  have hsm := tfew_sm hfw
  have hle := hB.len
  rw [pln_len] at hle
  have hkk : key.length ≤ 1000000 := by omega
  obtain ⟨hc0, hz0, hl0, hl120, hn0, _, _⟩ := treE_0 h0
  rw [show ((⟨(j : Int), mo, rm, pln L⟩ : Tre)).ns = pln L from rfl, pln_len] at hl0 hl120
  have hj : j ≤ 3 := by obtain ⟨j9, e9, hj9⟩ := col_ok hc0; have e8 : ((j : Nat) : Int) = (j9 : Int) := e9; omega
  have hT : TOk (j : Int) (pln L) := tok_of (t := (⟨(j : Int), mo, rm, pln L⟩ : Tre)) hn0
  have hmo := (sizE_0 hz0).1
  simp only [] at hmo
  have hend := path_end hT (by rw [pln_len]; exact hl0) key
  obtain ⟨hp1, hp2, hp3, hp4, hp5⟩ := hend
  rw [pln_len] at hp2 hp3
  refine enter (args := [_, _]) Tryz.func6 Tryz.ntmps6 rfl rfl (HS.refl w []) ?_
  refine s_seq ?_
  refine s_region ?_
  refine o_h (h_box rfl rfl) rfl (fun b1 _ => ?_)
  refine oP ?_
  refine o_nil ?_
  refine s_seq ?_
  refine s_seq ?_
  refine s_region ?_
  refine o_q (q_call rfl fn_13 rfl (fun w1 h1 => c13 w1)) rfl ?_
  refine oP ?_
  refine o_nil ?_
  refine s_cond rfl (fun h2 => ?_) (fun h2 => ?_)
  · try simp only [Bool.not_true] at h2
    exfalso; simp at h2
  · try simp only [Bool.not_true] at h2
    refine s_skip ?_
    refine s_seq ?_
    refine s_seq ?_
    refine s_region ?_
    refine o_q (q_loadn rfl rfl sz_24 aPk rfl) rfl ?_
    refine o_q (q_call rfl fn_14 rfl (fun w1 h1 => c14 w1 (j : Int) mo rm a cap L (hs.later h1.nil))) rfl ?_
    refine oP ?_
    refine oP ?_
    refine o_or 4 20 24 _ _ rfl
      (by
        intro hg3
        have hs4 := hg3; try simp only [Bool.not_eq_false'] at hs4
        refine o_on 20 _ rfl rfl hg3 ?_
        refine oP ?_
        refine o_on 20 _ rfl rfl hg3 ?_
        refine o_p (p_len_str rfl rfl Tryz.underlying9) rfl ?_
        refine o_on 20 _ rfl rfl hg3 ?_
        refine oP ?_
        refine o_p (p_pickf rfl rfl hg3 rfl) rfl ?_
        refine o_nil ?_
        exact s_joinN 4 24 _ rfl rfl rfl (fun w h => by first | exact h | exact h.ent aEt))
      (by
        intro hg5
        have hs6 := hg5; try simp only [Bool.not_eq_true'] at hs6
        refine o_off 20 _ rfl rfl hg5 rfl ?_
        refine o_off 20 _ rfl rfl hg5 rfl ?_
        refine o_off 20 _ rfl rfl hg5 rfl ?_
        refine o_p (p_pickt rfl rfl hg5 rfl) rfl ?_
        refine o_nil ?_
        exact s_joinN 4 24 _ rfl rfl rfl (fun w h => by first | exact h | exact h.ent aEt)) ?_
    refine o_nil ?_
    refine s_cond rfl (fun h7 => ?_) (fun h7 => ?_)
    · try simp only [Bool.or_eq_true, Bool.not_eq_true', decide_eq_true_eq] at h7
      exfalso; simp [hfw] at h7; omega
    · try simp only [Bool.or_eq_false_iff, Bool.not_eq_false', decide_eq_false_iff_not] at h7
      refine s_skip ?_
      refine s_seq ?_
      refine s_region ?_
      refine o_q (q_loadn rfl rfl sz_24 aPk rfl) rfl ?_
      refine o_h (h_call rfl fn_17 rfl (fun w1 h1 => c17 w1 (j : Int) mo rm a cap L (hs.later h1.nil) hle hsm)) rfl (fun ⟨⟨ga1, gc1⟩, LC1⟩ hLC1 => ?_)
      dsimp only
      refine oP ?_
      refine o_q (q_call rfl fn_34 rfl (fun w1 h1 => c34m w1 j mo rm ga1 gc1 LC1 key (HS.nt h1 aPk) (by rw [hLC1]; exact hB) (tfew_keys (by rw [hLC1]; exact hfw)) (by rw [hLC1]; exact h0) hkk hx0 (by rw [hLC1]; exact hx))) rfl ?_
      try rw [hLC1]
      refine oP ?_
      refine oP ?_
      refine oP ?_
      refine o_h (h_alloc rfl zr_26) rfl (fun b8 _ => ?_)
      refine o_h0 (h_store rfl rfl rfl sz_26 rfl aPt (by simp only [setMany_length, List.length_set, List.length_cons, List.length_nil, List.length_map]; omega) rfl) (fun _ _ => ?_)
      refine oP ?_
      refine o_nil ?_
      refine s_seq ?_
      refine s_region ?_
      refine o_q (q_loadn rfl rfl sz_24 aPk rfl) rfl ?_
      refine o_h (h_call rfl fn_17 rfl (fun w1 h1 => c17 w1 (j : Int) mo rm a cap L (hs.later h1.nil) hle hsm)) rfl (fun ⟨⟨ga2, gc2⟩, LC2⟩ hLC2 => ?_)
      dsimp only
      refine oP ?_
      refine o_h (h_call rfl fn_35 rfl (fun w1 h1 => c35o w1 j mo rm ga2 gc2 LC2 key (HS.nt h1 aPk) (by rw [hLC2]; exact hB) (tfew_keys (by rw [hLC2]; exact hfw)) (by rw [hLC2]; exact h0) hkk hx0)) rfl (fun ⟨qa, qc⟩ _ => ?_)
      try dsimp only
      try rw [hLC2]
      refine oP ?_
      refine oP ?_
      refine oP ?_
      refine oP ?_
      refine oP ?_
      refine oP ?_
      refine oP ?_
      refine o_nil ?_
      refine s_seq ?_
      refine s_weaken (L' := [(1, _), (2, _), (4, _), (5, _), (6, _), (7, _), (8, _), (9, _)]) aSx (fun _ h => h) ?_
      refine s_region ?_
      refine o_q (q_loadn rfl rfl sz_24 aPk rfl) rfl ?_
      refine o_q (q_call rfl fn_18 rfl (fun w1 h1 => c18 w1 (j : Int) mo rm a cap L (hs.later h1.nil) hB hkl)) rfl ?_
      refine oP ?_
      refine o_nil ?_
      refine s_seq ?_
      refine s_seq ?_
      refine s_region ?_
      refine oP ?_
      refine oP ?_
      refine o_nil ?_
      refine s_cond rfl (fun h9 => ?_) (fun h9 => ?_)
      · try simp only [decide_eq_true_eq] at h9
        refine s_region ?_
        refine o_p (p_fieldAddr rfl rfl fd_24_0 sz_3 rfl) rfl ?_
        refine o_q (q_load rfl rfl sz_3 aPk rfl) rfl ?_
        refine oP ?_
        refine o_q (q_call rfl fn_26 rfl (fun w1 h1 => c26 w1 j key hj hkk)) rfl ?_
        refine oP ?_
        refine o_nil ?_
        refine s_seq ?_
        refine s_seq ?_
        refine s_region ?_
        refine oP ?_
        refine oP ?_
        refine o_nil ?_
        refine s_cond rfl (fun h10 => ?_) (fun h10 => ?_)
        · try simp only [Bool.not_eq_true', decide_eq_false_iff_not] at h10
          exfalso; omega
        · try simp only [Bool.not_eq_false', decide_eq_true_eq] at h10
          refine s_skip ?_
          refine s_seq ?_
          refine s_region ?_
          refine o_q (q_loadn rfl rfl sz_24 aPk rfl) rfl ?_
          refine oP ?_
          refine o_h (h_call rfl fn_20 rfl (fun w1 h1 => c20 w1 j mo rm a cap L key hj hl0 hB hT (hs.later h1.nil) (keyE_ok hx0) hkk)) rfl (fun ⟨ra, rc⟩ _ => ?_)
          dsimp only
          refine oP ?_
          refine oP ?_
          refine oP ?_
          refine oP ?_
          refine oP ?_
          refine o_nil ?_
          refine s_seq ?_
          refine s_seq ?_
          refine s_region ?_
          refine oP ?_
          refine oP ?_
          refine oP ?_
          refine o_or 4 80 84 _ _ rfl
            (by
              intro hg11
              have hs12 := hg11; try simp only [Bool.not_eq_false', decide_eq_true_eq] at hs12
              refine o_on 80 _ rfl rfl hg11 ?_
              refine oP ?_
              refine o_on 80 _ rfl rfl hg11 ?_
              refine oP ?_
              refine o_on 80 _ rfl rfl hg11 ?_
              refine o_p (p_neq_bool rfl rfl rfl Tryz.underlying4) rfl ?_
              refine o_p (p_pickf rfl rfl hg11 rfl) rfl ?_
              refine o_nil ?_
              exact s_joinN 4 84 _ rfl rfl rfl (fun w h => by first | exact h | exact h.ent aEt))
            (by
              intro hg13
              have hs14 := hg13; try simp only [Bool.not_eq_true', decide_eq_false_iff_not] at hs14
              refine o_off 80 _ rfl rfl hg13 rfl ?_
              refine o_off 80 _ rfl rfl hg13 rfl ?_
              refine o_off 80 _ rfl rfl hg13 rfl ?_
              refine o_p (p_pickt rfl rfl hg13 rfl) rfl ?_
              refine o_nil ?_
              exact s_joinN 4 84 _ rfl rfl rfl (fun w h => by first | exact h | exact h.ent aEt)) ?_
          refine oP ?_
          refine o_or 5 85 90 _ _ rfl
            (by
              intro hg15
              have hs16 := hg15; try simp only [Bool.or_eq_false_iff, Bool.not_eq_false', decide_eq_true_eq] at hs16
              refine o_on 85 _ rfl rfl hg15 ?_
              refine oP ?_
              refine o_on 85 _ rfl rfl hg15 ?_
              refine oP ?_
              refine o_on 85 _ rfl rfl hg15 ?_
              refine o_q (q_call rfl fn_23 rfl (fun w1 h1 => c23P w1 qa ra qc rc (pathN (j : Int) (pln L) key).1 (pathN (j : Int) (pln L) key).1 (HS.pown_row (P := (pathN (j : Int) (pln L) key).1) h1 aPk) (HS.pown_row (P := (pathN (j : Int) (pln L) key).1) h1 aPk) (by omega) (by omega))) rfl ?_
              refine o_on 85 _ rfl rfl hg15 ?_
              refine oP ?_
              refine o_p (p_pickf rfl rfl hg15 rfl) rfl ?_
              refine o_nil ?_
              exact s_joinN 5 90 _ rfl rfl rfl (fun w h => by first | exact h | exact h.ent aEt))
            (by
              intro hg17
              have hs18 := hg17; try simp only [Bool.or_eq_true, Bool.not_eq_true', decide_eq_false_iff_not] at hs18
              refine o_off 85 _ rfl rfl hg17 rfl ?_
              refine o_off 85 _ rfl rfl hg17 rfl ?_
              refine o_off 85 _ rfl rfl hg17 rfl ?_
              refine o_off 85 _ rfl rfl hg17 rfl ?_
              refine o_p (p_pickt rfl rfl hg17 rfl) rfl ?_
              refine o_nil ?_
              exact s_joinN 5 90 _ rfl rfl rfl (fun w h => by first | exact h | exact h.ent aEt)) ?_
          refine o_nil ?_
          refine s_cond rfl (fun h19 => ?_) (fun h19 => ?_)
          · try simp only [Bool.or_eq_true, Bool.not_eq_true', decide_eq_false_iff_not] at h19
            exfalso; simp at h19
          · try simp only [Bool.or_eq_false_iff, Bool.not_eq_false', decide_eq_true_eq] at h19
            refine s_skip ?_
            refine s_seq ?_
            refine s_weaken (L' := [(1, _), (2, _), (4, _), (5, _), (6, _)]) aSx (fun _ h => h) ?_
            refine s_region ?_
            refine o_q (q_loadn rfl rfl sz_24 aPk rfl) rfl ?_
            refine oP ?_
            refine o_q (q_call rfl fn_36 rfl (fun w1 h1 => c36m w1 j mo rm a cap L key (hs.later h1.nil) hB hj hl0 hT hkk hx0 hx)) rfl ?_
            refine oP ?_
            refine oP ?_
            refine oP ?_
            refine o_h (h_alloc rfl zr_26) rfl (fun b20 _ => ?_)
            refine o_h0 (h_store rfl rfl rfl sz_26 rfl aPt (by simp only [setMany_length, List.length_set, List.length_cons, List.length_nil, List.length_map]; omega) rfl) (fun _ _ => ?_)
            refine oP ?_
            refine o_nil ?_
            refine s_seq ?_
            refine s_region ?_
            refine oP ?_
            refine oP ?_
            refine o_and 3 98 101 _ _ rfl
              (by
                intro hg21
                have hs22 := hg21; skip
                refine o_on 98 _ rfl rfl hg21 ?_
                refine oP ?_
                refine o_on 98 _ rfl rfl hg21 ?_
                refine oP ?_
                refine o_p (p_pickt rfl rfl hg21 rfl) rfl ?_
                refine o_nil ?_
                exact s_joinN 3 101 _ rfl rfl rfl (fun w h => by first | exact h | exact h.ent aEt))
              (by
                intro hg23
                have hs24 := hg23; skip
                refine o_off 98 _ rfl rfl hg23 rfl ?_
                refine o_off 98 _ rfl rfl hg23 rfl ?_
                refine o_p (p_pickf rfl rfl hg23 rfl) rfl ?_
                refine o_nil ?_
                exact s_joinN 3 101 _ rfl rfl rfl (fun w h => by first | exact h | exact h.ent aEt)) ?_
            refine oP ?_
            refine o_and 4 102 106 _ _ rfl
              (by
                intro hg25
                have hs26 := hg25; try simp only [Bool.and_eq_true, decide_eq_true_eq] at hs26
                refine o_on 102 _ rfl rfl hg25 ?_
                refine o_q (q_loadn rfl rfl sz_26 aPk rfl) rfl ?_
                refine o_on 102 _ rfl rfl hg25 ?_
                refine o_q (q_loadn rfl rfl sz_26 aPk rfl) rfl ?_
                refine o_on 102 _ rfl rfl hg25 ?_
                refine o_p (p_eql_agg rfl rfl rfl eqk_26 (by rfl) (by rfl) (by rfl)) rfl ?_
                refine o_p (p_pickt rfl rfl hg25 rfl) rfl ?_
                refine o_nil ?_
                exact s_joinN 4 106 _ rfl rfl rfl (fun w h => by first | exact h | exact h.ent aEt))
              (by
                intro hg27
                have hs28 := hg27; try simp only [Bool.and_eq_false_iff, decide_eq_false_iff_not] at hs28
                refine o_off 102 _ rfl rfl hg27 rfl ?_
                refine o_off 102 _ rfl rfl hg27 rfl ?_
                refine o_off 102 _ rfl rfl hg27 rfl ?_
                refine o_p (p_pickf rfl rfl hg27 rfl) rfl ?_
                refine o_nil ?_
                exact s_joinN 4 106 _ rfl rfl rfl (fun w h => by first | exact h | exact h.ent aEt)) ?_
            refine oP ?_
            refine o_or 12 107 119 _ _ rfl
              (by
                intro hg29
                have hs30 := hg29; try simp only [Bool.and_eq_false_iff, decide_eq_false_iff_not] at hs30
                refine o_on 107 _ rfl rfl hg29 ?_
                refine oP ?_
                refine o_on 107 _ rfl rfl hg29 ?_
                refine oP ?_
                refine o_on 107 _ rfl rfl hg29 ?_
                refine oP ?_
                refine o_and 3 110 113 _ _ rfl
                  (by
                    intro hg31
                    have hs32 := hg31; try simp only [Bool.not_false] at hs32
                    refine o_on 110 _ rfl rfl hg31 ?_
                    refine oP ?_
                    refine o_on 110 _ rfl rfl hg31 ?_
                    refine oP ?_
                    refine o_on 107 _ rfl rfl hg29 ?_
                    refine o_p (p_pickt rfl rfl hg31 rfl) rfl ?_
                    refine o_nil ?_
                    exact s_joinN 3 113 _ rfl rfl rfl (fun w h => by first | exact h | exact h.ent aEt))
                  (by
                    intro hg33
                    have hs34 := hg33; try simp only [Bool.not_false] at hs34
                    refine o_off 110 _ rfl rfl hg33 rfl ?_
                    refine o_off 110 _ rfl rfl hg33 rfl ?_
                    refine o_on 107 _ rfl rfl hg29 ?_
                    refine o_p (p_pickf rfl rfl hg33 rfl) rfl ?_
                    refine o_nil ?_
                    exact s_joinN 3 113 _ rfl rfl rfl (fun w h => by first | exact h | exact h.ent aEt)) ?_
                refine o_on 107 _ rfl rfl hg29 ?_
                refine oP ?_
                refine o_and 4 114 118 _ _ rfl
                  (by
                    intro hg35
                    have hs36 := hg35; try simp only [Bool.not_false, Bool.and_eq_true, decide_eq_true_eq] at hs36
                    refine o_on 114 _ rfl rfl hg35 ?_
                    refine o_q (q_loadn rfl rfl sz_26 aPk rfl) rfl ?_
                    refine o_on 114 _ rfl rfl hg35 ?_
                    refine o_p (p_build (cs := [_, _]) rfl rfl pl_26 zr_26 rfl) rfl ?_
                    refine o_on 114 _ rfl rfl hg35 ?_
                    refine o_p (p_eql_agg rfl rfl rfl eqk_26 (by rfl) (by rfl) (by rfl)) rfl ?_
                    refine o_on 107 _ rfl rfl hg29 ?_
                    refine o_p (p_pickt rfl rfl hg35 rfl) rfl ?_
                    refine o_nil ?_
                    exact s_joinN 4 118 _ rfl rfl rfl (fun w h => by first | exact h | exact h.ent aEt))
                  (by
                    intro hg37
                    have hs38 := hg37; try simp only [Bool.not_false, Bool.and_eq_false_iff, decide_eq_false_iff_not] at hs38
                    refine o_off 114 _ rfl rfl hg37 rfl ?_
                    refine o_off 114 _ rfl rfl hg37 rfl ?_
                    refine o_off 114 _ rfl rfl hg37 rfl ?_
                    refine o_on 107 _ rfl rfl hg29 ?_
                    refine o_p (p_pickf rfl rfl hg37 rfl) rfl ?_
                    refine o_nil ?_
                    exact s_joinN 4 118 _ rfl rfl rfl (fun w h => by first | exact h | exact h.ent aEt)) ?_
                refine o_p (p_pickf rfl rfl hg29 rfl) rfl ?_
                refine o_nil ?_
                exact s_joinN 7 119 _ rfl rfl rfl (fun w h => by first | exact h | exact h.ent aEt))
              (by
                intro hg39
                have hs40 := hg39; try simp only [Bool.and_eq_true, decide_eq_true_eq] at hs40
                refine o_off 107 _ rfl rfl hg39 rfl ?_
                refine o_off 107 _ rfl rfl hg39 rfl ?_
                refine o_off 107 _ rfl rfl hg39 rfl ?_
                refine o_off' 110 rfl rfl rfl ?_
                refine o_off' 110 rfl rfl rfl ?_
                refine o_off 107 _ rfl rfl hg39 rfl ?_
                refine o_off 107 _ rfl rfl hg39 rfl ?_
                refine o_off' 114 rfl rfl rfl ?_
                refine o_off' 114 rfl rfl rfl ?_
                refine o_off' 114 rfl rfl rfl ?_
                refine o_off 107 _ rfl rfl hg39 rfl ?_
                refine o_p (p_pickt rfl rfl hg39 rfl) rfl ?_
                refine o_nil ?_
                exact s_joinN 12 119 _ rfl rfl rfl (fun w h => by first | exact h | exact h.ent aEt)) ?_
            refine oP ?_
            refine o_nil ?_
            exact s_retv (rs := [.tmp 4]) rfl (.tmp rfl (.nil)) (fun w' h' => ⟨by simp [retV], h'.below⟩)
      · try simp only [decide_eq_false_iff_not] at h9
        exfalso; omega

set_option maxRecDepth 20000 in
set_option maxHeartbeats 400000 in
theorem c6o (w : World) (j : Nat) (mo rm : Int) (a : Option Addr) (cap : Nat) (L : List LNd) (key : List UInt8) (hs : Nt w [] a L) (hfw : tfewB (pln L) = true) (hk44 : key.length ≤ 44) (h0 : (treE (⟨(j : Int), mo, rm, pln L⟩ : Tre)).2 = 0) (hx0 : keyE (j : Int) key = 0) (hx : (pathN (j : Int) (pln L) key).2.2 = true) : Calls Tryz.prog 6 #[.agg #[.int .i64 (j : Int), .int .i64 mo, .int .i64 rm, .slice a L.length cap], .string (bs key)] w fun en w' => en = .returned (.bool true) ∧ Below w.heap.size w w' := by
  have hB := tfew_bd hfw
  have hkl := tfew_keys hfw
  have hsm := tfew_sm hfw
  have hle := hB.len
  rw [pln_len] at hle
  have hkk : key.length ≤ 1000000 := by omega
  obtain ⟨hc0, hz0, hl0, hl120, hn0, _, _⟩ := treE_0 h0
  rw [show ((⟨(j : Int), mo, rm, pln L⟩ : Tre)).ns = pln L from rfl, pln_len] at hl0 hl120
  have hj : j ≤ 3 := by obtain ⟨j9, e9, hj9⟩ := col_ok hc0; have e8 : ((j : Nat) : Int) = (j9 : Int) := e9; omega
  have hT : TOk (j : Int) (pln L) := tok_of (t := (⟨(j : Int), mo, rm, pln L⟩ : Tre)) hn0
  have hmo := (sizE_0 hz0).1
  simp only [] at hmo
  have hend := path_end hT (by rw [pln_len]; exact hl0) key
  obtain ⟨hp1, hp2, hp3, hp4, hp5⟩ := hend
  rw [pln_len] at hp2 hp3
  refine enter (args := [_, _]) Tryz.func6 Tryz.ntmps6 rfl rfl (HS.refl w []) ?_
  refine s_seq ?_
  refine s_region ?_
  refine o_h (h_box rfl rfl) rfl (fun b1 _ => ?_)
  refine oP ?_
  refine o_nil ?_
  refine s_seq ?_
  refine s_seq ?_
  refine s_region ?_
  refine o_q (q_call rfl fn_13 rfl (fun w1 h1 => c13 w1)) rfl ?_
  refine oP ?_
  refine o_nil ?_
  refine s_cond rfl (fun h2 => ?_) (fun h2 => ?_)
  · try simp only [Bool.not_true] at h2
    exfalso; simp at h2
  · try simp only [Bool.not_true] at h2
    refine s_skip ?_
    refine s_seq ?_
    refine s_seq ?_
    refine s_region ?_
    refine o_q (q_loadn rfl rfl sz_24 aPk rfl) rfl ?_
    refine o_q (q_call rfl fn_14 rfl (fun w1 h1 => c14 w1 (j : Int) mo rm a cap L (hs.later h1.nil))) rfl ?_
    refine oP ?_
    refine oP ?_
    refine o_or 4 20 24 _ _ rfl
      (by
        intro hg3
        have hs4 := hg3; try simp only [Bool.not_eq_false'] at hs4
        refine o_on 20 _ rfl rfl hg3 ?_
        refine oP ?_
        refine o_on 20 _ rfl rfl hg3 ?_
        refine o_p (p_len_str rfl rfl Tryz.underlying9) rfl ?_
        refine o_on 20 _ rfl rfl hg3 ?_
        refine oP ?_
        refine o_p (p_pickf rfl rfl hg3 rfl) rfl ?_
        refine o_nil ?_
        exact s_joinN 4 24 _ rfl rfl rfl (fun w h => by first | exact h | exact h.ent aEt))
      (by
        intro hg5
        have hs6 := hg5; try simp only [Bool.not_eq_true'] at hs6
        refine o_off 20 _ rfl rfl hg5 rfl ?_
        refine o_off 20 _ rfl rfl hg5 rfl ?_
        refine o_off 20 _ rfl rfl hg5 rfl ?_
        refine o_p (p_pickt rfl rfl hg5 rfl) rfl ?_
        refine o_nil ?_
        exact s_joinN 4 24 _ rfl rfl rfl (fun w h => by first | exact h | exact h.ent aEt)) ?_
    refine o_nil ?_
    refine s_cond rfl (fun h7 => ?_) (fun h7 => ?_)
    · try simp only [Bool.or_eq_true, Bool.not_eq_true', decide_eq_true_eq] at h7
      exfalso; simp [hfw] at h7; omega
    · try simp only [Bool.or_eq_false_iff, Bool.not_eq_false', decide_eq_false_iff_not] at h7
      refine s_skip ?_
      refine s_seq ?_
      refine s_region ?_
      refine o_q (q_loadn rfl rfl sz_24 aPk rfl) rfl ?_
      refine o_h (h_call rfl fn_17 rfl (fun w1 h1 => c17 w1 (j : Int) mo rm a cap L (hs.later h1.nil) hle hsm)) rfl (fun ⟨⟨ga1, gc1⟩, LC1⟩ hLC1 => ?_)
      dsimp only
      refine oP ?_
      refine o_q (q_call rfl fn_34 rfl (fun w1 h1 => c34o w1 j mo rm ga1 gc1 LC1 key (HS.nt h1 aPk) (by rw [hLC1]; exact hB) (tfew_keys (by rw [hLC1]; exact hfw)) (by rw [hLC1]; exact h0) hkk hx0 (by rw [hLC1]; exact hx))) rfl ?_
      try rw [hLC1]
      refine oP ?_
      refine oP ?_
      refine oP ?_
      refine o_h (h_alloc rfl zr_26) rfl (fun b8 _ => ?_)
      refine o_h0 (h_store rfl rfl rfl sz_26 rfl aPt (by simp only [setMany_length, List.length_set, List.length_cons, List.length_nil, List.length_map]; omega) rfl) (fun _ _ => ?_)
      refine oP ?_
      refine o_nil ?_
      refine s_seq ?_
      refine s_region ?_
      refine o_q (q_loadn rfl rfl sz_24 aPk rfl) rfl ?_
      refine o_h (h_call rfl fn_17 rfl (fun w1 h1 => c17 w1 (j : Int) mo rm a cap L (hs.later h1.nil) hle hsm)) rfl (fun ⟨⟨ga2, gc2⟩, LC2⟩ hLC2 => ?_)
      dsimp only
      refine oP ?_
      refine o_h (h_call rfl fn_35 rfl (fun w1 h1 => c35o w1 j mo rm ga2 gc2 LC2 key (HS.nt h1 aPk) (by rw [hLC2]; exact hB) (tfew_keys (by rw [hLC2]; exact hfw)) (by rw [hLC2]; exact h0) hkk hx0)) rfl (fun ⟨qa, qc⟩ _ => ?_)
      try dsimp only
      try rw [hLC2]
      refine oP ?_
      refine oP ?_
      refine oP ?_
      refine oP ?_
      refine oP ?_
      refine oP ?_
      refine oP ?_
      refine o_nil ?_
      refine s_seq ?_
      refine s_weaken (L' := [(1, _), (2, _), (4, _), (5, _), (6, _), (7, _), (8, _), (9, _)]) aSx (fun _ h => h) ?_
      refine s_region ?_
      refine o_q (q_loadn rfl rfl sz_24 aPk rfl) rfl ?_
      refine o_q (q_call rfl fn_18 rfl (fun w1 h1 => c18 w1 (j : Int) mo rm a cap L (hs.later h1.nil) hB hkl)) rfl ?_
      refine oP ?_
      refine o_nil ?_
      refine s_seq ?_
      refine s_seq ?_
      refine s_region ?_
      refine oP ?_
      refine oP ?_
      refine o_nil ?_
      refine s_cond rfl (fun h9 => ?_) (fun h9 => ?_)
      · try simp only [decide_eq_true_eq] at h9
        refine s_region ?_
        refine o_p (p_fieldAddr rfl rfl fd_24_0 sz_3 rfl) rfl ?_
        refine o_q (q_load rfl rfl sz_3 aPk rfl) rfl ?_
        refine oP ?_
        refine o_q (q_call rfl fn_26 rfl (fun w1 h1 => c26 w1 j key hj hkk)) rfl ?_
        refine oP ?_
        refine o_nil ?_
        refine s_seq ?_
        refine s_seq ?_
        refine s_region ?_
        refine oP ?_
        refine oP ?_
        refine o_nil ?_
        refine s_cond rfl (fun h10 => ?_) (fun h10 => ?_)
        · try simp only [Bool.not_eq_true', decide_eq_false_iff_not] at h10
          exfalso; omega
        · try simp only [Bool.not_eq_false', decide_eq_true_eq] at h10
          refine s_skip ?_
          refine s_seq ?_
          refine s_region ?_
          refine o_q (q_loadn rfl rfl sz_24 aPk rfl) rfl ?_
          refine oP ?_
          refine o_h (h_call rfl fn_20 rfl (fun w1 h1 => c20 w1 j mo rm a cap L key hj hl0 hB hT (hs.later h1.nil) (keyE_ok hx0) hkk)) rfl (fun ⟨ra, rc⟩ _ => ?_)
          dsimp only
          refine oP ?_
          refine oP ?_
          refine oP ?_
          refine oP ?_
          refine oP ?_
          refine o_nil ?_
          refine s_seq ?_
          refine s_seq ?_
          refine s_region ?_
          refine oP ?_
          refine oP ?_
          refine oP ?_
          refine o_or 4 80 84 _ _ rfl
            (by
              intro hg11
              have hs12 := hg11; try simp only [Bool.not_eq_false', decide_eq_true_eq] at hs12
              refine o_on 80 _ rfl rfl hg11 ?_
              refine oP ?_
              refine o_on 80 _ rfl rfl hg11 ?_
              refine oP ?_
              refine o_on 80 _ rfl rfl hg11 ?_
              refine o_p (p_neq_bool rfl rfl rfl Tryz.underlying4) rfl ?_
              refine o_p (p_pickf rfl rfl hg11 rfl) rfl ?_
              refine o_nil ?_
              exact s_joinN 4 84 _ rfl rfl rfl (fun w h => by first | exact h | exact h.ent aEt))
            (by
              intro hg13
              have hs14 := hg13; try simp only [Bool.not_eq_true', decide_eq_false_iff_not] at hs14
              refine o_off 80 _ rfl rfl hg13 rfl ?_
              refine o_off 80 _ rfl rfl hg13 rfl ?_
              refine o_off 80 _ rfl rfl hg13 rfl ?_
              refine o_p (p_pickt rfl rfl hg13 rfl) rfl ?_
              refine o_nil ?_
              exact s_joinN 4 84 _ rfl rfl rfl (fun w h => by first | exact h | exact h.ent aEt)) ?_
          refine oP ?_
          refine o_or 5 85 90 _ _ rfl
            (by
              intro hg15
              have hs16 := hg15; try simp only [Bool.or_eq_false_iff, Bool.not_eq_false', decide_eq_true_eq] at hs16
              refine o_on 85 _ rfl rfl hg15 ?_
              refine oP ?_
              refine o_on 85 _ rfl rfl hg15 ?_
              refine oP ?_
              refine o_on 85 _ rfl rfl hg15 ?_
              refine o_q (q_call rfl fn_23 rfl (fun w1 h1 => c23P w1 qa ra qc rc (pathN (j : Int) (pln L) key).1 (pathN (j : Int) (pln L) key).1 (HS.pown_row (P := (pathN (j : Int) (pln L) key).1) h1 aPk) (HS.pown_row (P := (pathN (j : Int) (pln L) key).1) h1 aPk) (by omega) (by omega))) rfl ?_
              refine o_on 85 _ rfl rfl hg15 ?_
              refine oP ?_
              refine o_p (p_pickf rfl rfl hg15 rfl) rfl ?_
              refine o_nil ?_
              exact s_joinN 5 90 _ rfl rfl rfl (fun w h => by first | exact h | exact h.ent aEt))
            (by
              intro hg17
              have hs18 := hg17; try simp only [Bool.or_eq_true, Bool.not_eq_true', decide_eq_false_iff_not] at hs18
              refine o_off 85 _ rfl rfl hg17 rfl ?_
              refine o_off 85 _ rfl rfl hg17 rfl ?_
              refine o_off 85 _ rfl rfl hg17 rfl ?_
              refine o_off 85 _ rfl rfl hg17 rfl ?_
              refine o_p (p_pickt rfl rfl hg17 rfl) rfl ?_
              refine o_nil ?_
              exact s_joinN 5 90 _ rfl rfl rfl (fun w h => by first | exact h | exact h.ent aEt)) ?_
          refine o_nil ?_
          refine s_cond rfl (fun h19 => ?_) (fun h19 => ?_)
          · try simp only [Bool.or_eq_true, Bool.not_eq_true', decide_eq_false_iff_not] at h19
            exfalso; simp at h19
          · try simp only [Bool.or_eq_false_iff, Bool.not_eq_false', decide_eq_true_eq] at h19
            refine s_skip ?_
            refine s_seq ?_
            refine s_weaken (L' := [(1, _), (2, _), (4, _), (5, _), (6, _)]) aSx (fun _ h => h) ?_
            refine s_region ?_
            refine o_q (q_loadn rfl rfl sz_24 aPk rfl) rfl ?_
            refine oP ?_
            refine o_q (q_call rfl fn_36 rfl (fun w1 h1 => c36o w1 j mo rm a cap L key (hs.later h1.nil) hB hj hl0 hT hkk hx0 hx)) rfl ?_
            refine oP ?_
            refine oP ?_
            refine oP ?_
            refine o_h (h_alloc rfl zr_26) rfl (fun b20 _ => ?_)
            refine o_h0 (h_store rfl rfl rfl sz_26 rfl aPt (by simp only [setMany_length, List.length_set, List.length_cons, List.length_nil, List.length_map]; omega) rfl) (fun _ _ => ?_)
            refine oP ?_
            refine o_nil ?_
            refine s_seq ?_
            refine s_region ?_
            refine oP ?_
            refine oP ?_
            refine o_and 3 98 101 _ _ rfl
              (by
                intro hg21
                have hs22 := hg21; skip
                refine o_on 98 _ rfl rfl hg21 ?_
                refine oP ?_
                refine o_on 98 _ rfl rfl hg21 ?_
                refine oP ?_
                refine o_p (p_pickt rfl rfl hg21 rfl) rfl ?_
                refine o_nil ?_
                exact s_joinN 3 101 _ rfl rfl rfl (fun w h => by first | exact h | exact h.ent aEt))
              (by
                intro hg23
                have hs24 := hg23; skip
                refine o_off 98 _ rfl rfl hg23 rfl ?_
                refine o_off 98 _ rfl rfl hg23 rfl ?_
                refine o_p (p_pickf rfl rfl hg23 rfl) rfl ?_
                refine o_nil ?_
                exact s_joinN 3 101 _ rfl rfl rfl (fun w h => by first | exact h | exact h.ent aEt)) ?_
            refine oP ?_
            refine o_and 4 102 106 _ _ rfl
              (by
                intro hg25
                have hs26 := hg25; try simp only [Bool.and_eq_true, decide_eq_true_eq] at hs26
                refine o_on 102 _ rfl rfl hg25 ?_
                refine o_q (q_loadn rfl rfl sz_26 aPk rfl) rfl ?_
                refine o_on 102 _ rfl rfl hg25 ?_
                refine o_q (q_loadn rfl rfl sz_26 aPk rfl) rfl ?_
                refine o_on 102 _ rfl rfl hg25 ?_
                refine o_p (p_eql_agg rfl rfl rfl eqk_26 (by rfl) (by rfl) (by rfl)) rfl ?_
                refine o_p (p_pickt rfl rfl hg25 rfl) rfl ?_
                refine o_nil ?_
                exact s_joinN 4 106 _ rfl rfl rfl (fun w h => by first | exact h | exact h.ent aEt))
              (by
                intro hg27
                have hs28 := hg27; try simp only [Bool.and_eq_false_iff, decide_eq_false_iff_not] at hs28
                refine o_off 102 _ rfl rfl hg27 rfl ?_
                refine o_off 102 _ rfl rfl hg27 rfl ?_
                refine o_off 102 _ rfl rfl hg27 rfl ?_
                refine o_p (p_pickf rfl rfl hg27 rfl) rfl ?_
                refine o_nil ?_
                exact s_joinN 4 106 _ rfl rfl rfl (fun w h => by first | exact h | exact h.ent aEt)) ?_
            refine oP ?_
            refine o_or 12 107 119 _ _ rfl
              (by
                intro hg29
                have hs30 := hg29; try simp only [Bool.and_eq_false_iff, decide_eq_false_iff_not] at hs30
                refine o_on 107 _ rfl rfl hg29 ?_
                refine oP ?_
                refine o_on 107 _ rfl rfl hg29 ?_
                refine oP ?_
                refine o_on 107 _ rfl rfl hg29 ?_
                refine oP ?_
                refine o_and 3 110 113 _ _ rfl
                  (by
                    intro hg31
                    have hs32 := hg31; try simp only [Bool.not_true] at hs32
                    refine o_on 110 _ rfl rfl hg31 ?_
                    refine oP ?_
                    refine o_on 110 _ rfl rfl hg31 ?_
                    refine oP ?_
                    refine o_on 107 _ rfl rfl hg29 ?_
                    refine o_p (p_pickt rfl rfl hg31 rfl) rfl ?_
                    refine o_nil ?_
                    exact s_joinN 3 113 _ rfl rfl rfl (fun w h => by first | exact h | exact h.ent aEt))
                  (by
                    intro hg33
                    have hs34 := hg33; try simp only [Bool.not_true] at hs34
                    refine o_off 110 _ rfl rfl hg33 rfl ?_
                    refine o_off 110 _ rfl rfl hg33 rfl ?_
                    refine o_on 107 _ rfl rfl hg29 ?_
                    refine o_p (p_pickf rfl rfl hg33 rfl) rfl ?_
                    refine o_nil ?_
                    exact s_joinN 3 113 _ rfl rfl rfl (fun w h => by first | exact h | exact h.ent aEt)) ?_
                refine o_on 107 _ rfl rfl hg29 ?_
                refine oP ?_
                refine o_and 4 114 118 _ _ rfl
                  (by
                    intro hg35
                    have hs36 := hg35; try simp only [Bool.not_true, Bool.and_eq_true, decide_eq_true_eq] at hs36
                    refine o_on 114 _ rfl rfl hg35 ?_
                    refine o_q (q_loadn rfl rfl sz_26 aPk rfl) rfl ?_
                    refine o_on 114 _ rfl rfl hg35 ?_
                    refine o_p (p_build (cs := [_, _]) rfl rfl pl_26 zr_26 rfl) rfl ?_
                    refine o_on 114 _ rfl rfl hg35 ?_
                    refine o_p (p_eql_agg rfl rfl rfl eqk_26 (by rfl) (by rfl) (by rfl)) rfl ?_
                    refine o_on 107 _ rfl rfl hg29 ?_
                    refine o_p (p_pickt rfl rfl hg35 rfl) rfl ?_
                    refine o_nil ?_
                    exact s_joinN 4 118 _ rfl rfl rfl (fun w h => by first | exact h | exact h.ent aEt))
                  (by
                    intro hg37
                    have hs38 := hg37; try simp only [Bool.not_true, Bool.and_eq_false_iff, decide_eq_false_iff_not] at hs38
                    refine o_off 114 _ rfl rfl hg37 rfl ?_
                    refine o_off 114 _ rfl rfl hg37 rfl ?_
                    refine o_off 114 _ rfl rfl hg37 rfl ?_
                    refine o_on 107 _ rfl rfl hg29 ?_
                    refine o_p (p_pickf rfl rfl hg37 rfl) rfl ?_
                    refine o_nil ?_
                    exact s_joinN 4 118 _ rfl rfl rfl (fun w h => by first | exact h | exact h.ent aEt)) ?_
                refine o_p (p_pickf rfl rfl hg29 rfl) rfl ?_
                refine o_nil ?_
                exact s_joinN 7 119 _ rfl rfl rfl (fun w h => by first | exact h | exact h.ent aEt))
              (by
                intro hg39
                have hs40 := hg39; try simp only [Bool.and_eq_true, decide_eq_true_eq] at hs40
                refine o_off 107 _ rfl rfl hg39 rfl ?_
                refine o_off 107 _ rfl rfl hg39 rfl ?_
                refine o_off 107 _ rfl rfl hg39 rfl ?_
                refine o_off' 110 rfl rfl rfl ?_
                refine o_off' 110 rfl rfl rfl ?_
                refine o_off 107 _ rfl rfl hg39 rfl ?_
                refine o_off 107 _ rfl rfl hg39 rfl ?_
                refine o_off' 114 rfl rfl rfl ?_
                refine o_off' 114 rfl rfl rfl ?_
                refine o_off' 114 rfl rfl rfl ?_
                refine o_off 107 _ rfl rfl hg39 rfl ?_
                refine o_p (p_pickt rfl rfl hg39 rfl) rfl ?_
                refine o_nil ?_
                exact s_joinN 12 119 _ rfl rfl rfl (fun w h => by first | exact h | exact h.ent aEt)) ?_
            refine oP ?_
            refine o_nil ?_
            exact s_retv (rs := [.tmp 4]) rfl (.tmp rfl (.nil)) (fun w' h' => ⟨by simp [retV], h'.below⟩)
      · try simp only [decide_eq_false_iff_not] at h9
        exfalso; omega

theorem c6 (w : World) (co mo rm : Int) (a : Option Addr) (cap : Nat) (L : List LNd) (key : List UInt8) (hs : Nt w [] a L) : Calls Tryz.prog 6 #[.agg #[.int .i64 co, .int .i64 mo, .int .i64 rm, .slice a L.length cap], .string (bs key)] w fun en w' => en = .returned (.bool true) ∧ Below w.heap.size w w' := by
  by_cases hz : tfewB (pln L) = true ∧ key.length ≤ 44
  · by_cases h0 : (treE (⟨co, mo, rm, pln L⟩ : Tre)).2 = 0
    · obtain ⟨j, rfl, hj⟩ := col_ok (treE_0 h0).1
      by_cases hx0 : keyE (j : Int) key = 0
      · by_cases hx : (pathN (j : Int) (pln L) key).2.2 = true
        · exact c6o w j mo rm a cap L key hs hz.1 hz.2 h0 hx0 hx
        · exact c6m w j mo rm a cap L key hs hz.1 hz.2 h0 hx0 hx
      · exact c6x w j mo rm a cap L key hs hz.1 hz.2 h0 hx0
    · exact c6e w co mo rm a cap L key hs hz.1 hz.2 h0
  · exact c6z w co mo rm a cap L key hs hz

end Go.Proofs

