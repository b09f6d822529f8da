/- Contracts of the program's functions, proved by walking them with the rules of the Gx texts; without conditions beyond those that each contract names. -/
import Derived.WalkKit
import Derived.Deep.Draws
import Derived.TacticsIn
import Derived.OrdersIn
import Derived.RangeFuncLeaves
import Derived.Lib.Strings
import Derived.Laws.BytesArg
import Derived.Laws.IdiomStrings
import Derived.Deep.Quiet
import Derived.ProofKit
import Derived.OpenShut
import Derived.Laws.StructEq
import Derived.ChangeKeysEq
import Derived.Laws.Externs
import Derived.Lib.Overlaps
import Derived.Carry
import Derived.Laws.Small
import Derived.Lib.Bytealg
import Derived.Test.YtfappgmkbnddiaaGreatProg
import Derived.KernelRfl
import Derived.Lib.Builder
import Derived.Laws.Pointers
import Derived.RangeFuncRecord
import Derived.Test.YtfappgmkbnddiaaGreatP4
namespace Go.Proofs
open Go Go.RowKit Gx
set_option linter.unusedVariables false
set_option linter.unusedSimpArgs false
attribute [local irreducible] Go.Calls Gx.S Gx.O Gx.D Gx.OpP Gx.OpQ Gx.OpH

theorem sl_174 : tsl Tryz.prog 174 = some (9, 1, 16) := by kernel_rfl
theorem zr_9 : tzero Tryz.prog 9 = some [.string (bs [])] := by kernel_rfl
theorem fn_87 : isFn Tryz.prog 87 = true := by kernel_rfl


def PlC (j : Nat) (mo rm : Int) (a : Option Addr) (cap : Nat) (L : List LNd) (deep : Int) (f : Nat) : Prop := ∀ (w : World) (v : Vis) (P : List Nat) (lv : Int) (pa qa : Option Addr) (pn pc qn qc : Nat), (Nt w [] a L) → (j ≤ 3) → ((0 ≤ mo ∧ mo ≤ 1000) ∧ (0 ≤ deep ∧ deep ≤ 1000)) → (TOk (j : Int) (pln L)) → (Bd (pln L)) → (0 < L.length) → (Gx.Way (pln L) (v.i :: P)) → (v.d = (P.length : Int) + 1) → (lv = deep + 1 - v.d) → (KOk (j : Int) v.lo) → (KOk (j : Int) v.hi) → (StK w pa pn v.lo) → (StK w qa qn v.hi) → P.length + f = L.length → Calls Tryz.prog 87 #[.agg #[.int .i64 (j : Int), .int .i64 mo, .int .i64 rm, .slice a L.length cap], .int .i64 (v.i : Int), .int .i64 lv, .slice pa pn pc, .slice qa qn qc] w fun en w' => en = .returned (.tuple #[.int .i64 (shpF (⟨(j : Int), mo, rm, pln L⟩ : Tre) deep (vis (pln L) f v)).1, .int .i64 (shpF (⟨(j : Int), mo, rm, pln L⟩ : Tre) deep (vis (pln L) f v)).2]) ∧ Below w.heap.size w w'

set_option maxRecDepth 20000 in
set_option maxHeartbeats 400000 in
theorem c87s (w : World) (j : Nat) (mo rm : Int) (a : Option Addr) (cap : Nat) (L : List LNd) (deep : Int) (v : Vis) (P : List Nat) (lv : Int) (pa qa : Option Addr) (pn pc qn qc : Nat) (f : Nat) (hs : Nt w [] a L) (hj : j ≤ 3) (hmo : (0 ≤ mo ∧ mo ≤ 1000) ∧ (0 ≤ deep ∧ deep ≤ 1000)) (hT : TOk (j : Int) (pln L)) (hB : Bd (pln L)) (h0 : 0 < L.length) (hway : Gx.Way (pln L) (v.i :: P)) (hd : v.d = (P.length : Int) + 1) (hlv : lv = deep + 1 - v.d) (hko : KOk (j : Int) v.lo) (hkp : KOk (j : Int) v.hi) (hlo : StK w pa pn v.lo) (hhi : StK w qa qn v.hi) (hf : P.length + (f + 1) = L.length) (ih : PlC j mo rm a cap L deep f) : Calls Tryz.prog 87 #[.agg #[.int .i64 (j : Int), .int .i64 mo, .int .i64 rm, .slice a L.length cap], .int .i64 (v.i : Int), .int .i64 lv, .slice pa pn pc, .slice qa qn qc] w fun en w' => en = .returned (.tuple #[.int .i64 (shpF (⟨(j : Int), mo, rm, pln L⟩ : Tre) deep (vis (pln L) (f + 1) v)).1, .int .i64 (shpF (⟨(j : Int), mo, rm, pln L⟩ : Tre) deep (vis (pln L) (f + 1) v)).2]) ∧ Below w.heap.size w w' := by
  have hi0 := way_lt hT (by rw [pln_len]; exact h0) hway v.i (List.mem_cons_self ..)
  have hi : v.i < L.length := by rw [pln_len] at hi0; exact hi0
  have hn := pln_nth hi
  have hn0 := pln_nth h0
  have hle := hB.len
  rw [pln_len] at hle
  have hwl := way_len hT (by rw [pln_len]; exact h0) hway
  rw [pln_len, List.length_cons] at hwl
  have hcl := hB.cs v.i hi0
  have hel := hB.es v.i hi0
  rw [hn] at hcl hel
  simp only [LNd.pl] at hcl hel
  have hsh := hT.shape v.i hi0
  rw [hn] at hsh
  simp only [LNd.pl] at hsh
  have hgi := gap_iff (t := (⟨(j : Int), mo, rm, pln L⟩ : Tre)) (v := v) hn hn0 (hn0 ▸ hT.shape 0 (by rw [pln_len]; exact h0)) (fun c hc => (hT.kid 0 (by rw [pln_len]; exact h0) c (by rw [hn0]; exact hc)).1.1)
  simp only [LNd.pl] at hgi
  have hE9 := ents_kok hT hi0
  rw [hn] at hE9
  simp only [LNd.pl] at hE9
  refine enter (args := [_, _, _, _, _]) Tryz.func87 Tryz.ntmps87 rfl rfl (HS.refl w []) ?_
  refine s_seq ?_
  refine s_region ?_
  refine o_h (h_box rfl rfl) rfl (fun b1 _ => ?_)
  refine oP ?_
  refine oP ?_
  refine o_nil ?_
  refine s_seq ?_
  refine s_region ?_
  refine o_p (p_fieldAddr rfl rfl fd_24_3 sz_22 rfl) rfl ?_
  refine o_q (q_load rfl rfl sz_22 aPk rfl) rfl ?_
  refine oP ?_
  refine o_p (p_indexAddr rfl rfl rfl sl_22 (v.i) (by omega) (by omega) (Rw.some hs.1 (by omega))) rfl ?_
  refine o_q (q_load_oldn _ rfl rfl sz_102 rfl (Rw.rd hs.1 hi)) rfl ?_
  refine o_h (h_alloc rfl zr_102) rfl (fun b2 _ => ?_)
  refine o_h0 (h_store rfl rfl rfl sz_102 rfl aPt (by simp only [setMany_length, List.length_set, List.length_cons, List.length_nil, List.length_map]; omega) rfl) (fun _ _ => ?_)
  refine o_nil ?_
  refine s_seq ?_
  refine s_seq ?_
  refine s_region ?_
  refine oP ?_
  refine oP ?_
  refine oP ?_
  refine o_and 8 27 35 _ _ rfl
    (by
      intro hg3
      have hs4 := hg3; try simp only [Bool.not_eq_true', decide_eq_false_iff_not] at hs4
      refine o_on 27 _ rfl rfl hg3 ?_
      refine o_p (p_fieldAddr rfl rfl fd_102_1 sz_77 rfl) rfl ?_
      refine o_on 27 _ rfl rfl hg3 ?_
      refine o_q (q_load rfl rfl sz_77 aPk rfl) rfl ?_
      refine o_on 27 _ rfl rfl hg3 ?_
      refine o_p (p_len_slice rfl rfl Tryz.underlying77) rfl ?_
      refine o_on 27 _ rfl rfl hg3 ?_
      refine o_p (p_fieldAddr rfl rfl fd_24_1 sz_3 rfl) rfl ?_
      refine o_on 27 _ rfl rfl hg3 ?_
      refine o_q (q_load rfl rfl sz_3 aPk rfl) rfl ?_
      refine o_on 27 _ rfl rfl hg3 ?_
      refine o_p (p_quo_nn rfl rfl rfl (by omega) (by omega) (by omega)) rfl ?_
      refine o_on 27 _ rfl rfl hg3 ?_
      refine oP ?_
      refine o_p (p_pickt rfl rfl hg3 rfl) rfl ?_
      refine o_nil ?_
      exact s_joinN 8 35 _ rfl rfl rfl (fun w h => by first | exact h | exact h.ent aEt))
    (by
      intro hg5
      have hs6 := hg5; try simp only [Bool.not_eq_false', decide_eq_true_eq] at hs6
      refine o_off 27 _ rfl rfl hg5 rfl ?_
      refine o_off 27 _ rfl rfl hg5 rfl ?_
      refine o_off 27 _ rfl rfl hg5 rfl ?_
      refine o_off 27 _ rfl rfl hg5 rfl ?_
      refine o_off 27 _ rfl rfl hg5 rfl ?_
      refine o_off 27 _ rfl rfl hg5 rfl ?_
      refine o_off 27 _ rfl rfl hg5 rfl ?_
      refine o_p (p_pickf rfl rfl hg5 rfl) rfl ?_
      refine o_nil ?_
      exact s_joinN 8 35 _ rfl rfl rfl (fun w h => by first | exact h | exact h.ent aEt)) ?_
  refine o_nil ?_
  refine s_cond rfl (fun h7 => ?_) (fun h7 => ?_)
  · try simp only [Bool.and_eq_true, Bool.not_eq_true', decide_eq_false_iff_not, decide_eq_true_eq] at h7
    have hgp : gapB (⟨(j : Int), mo, rm, pln L⟩ : Tre) v = true := hgi.2 (.inl (by have hq := h7; omega))
    have hV := visE_gap (deep := deep) hgp
    refine s_seq ?_
    refine s_region ?_
    refine oP ?_
    refine oP ?_
    refine oP ?_
    refine o_nil ?_
    exact s_retv (rs := [.tmp 10, .tmp 11]) rfl (.tmp rfl (.tmp rfl (.nil))) (fun w' h' => ⟨by rw [shp_head (by rw [hV]; decide), hV]; rfl, h'.below⟩)
  · try simp only [Bool.and_eq_false_iff, Bool.not_eq_false', decide_eq_true_eq, decide_eq_false_iff_not] at h7
    have hng1 : ¬ (v.i ≠ 0 ∧ ((nth L v.i).es.length : Int) < mo / 2) := by have hq := h7; omega
    refine s_skip ?_
    refine s_seq ?_
    refine s_seq ?_
    refine s_region ?_
    refine o_p (p_fieldAddr rfl rfl fd_24_3 sz_22 rfl) rfl ?_
    refine o_q (q_load rfl rfl sz_22 aPk rfl) rfl ?_
    refine o_p (p_indexAddr rfl rfl rfl sl_22 (0) (by omega) (by omega) (Rw.some hs.1 (by omega))) rfl ?_
    refine o_p (p_fieldAddr rfl rfl fd_102_1 sz_77 rfl) rfl ?_
    refine o_q (q_load_old rfl rfl sz_77 ((hs.1.rdj 1 h0 rfl))) rfl ?_
    refine o_p (p_len_slice rfl rfl Tryz.underlying77) rfl ?_
    refine oP ?_
    refine oP ?_
    refine o_and 8 44 52 _ _ rfl
      (by
        intro hg8
        have hs9 := hg8; try simp only [decide_eq_true_eq] at hs9
        refine o_on 44 _ rfl rfl hg8 ?_
        refine o_p (p_fieldAddr rfl rfl fd_24_3 sz_22 rfl) rfl ?_
        refine o_on 44 _ rfl rfl hg8 ?_
        refine o_q (q_load rfl rfl sz_22 aPk rfl) rfl ?_
        refine o_on 44 _ rfl rfl hg8 ?_
        refine o_p (p_indexAddr rfl rfl rfl sl_22 (0) (by omega) (by omega) (Rw.some hs.1 (by omega))) rfl ?_
        refine o_on 44 _ rfl rfl hg8 ?_
        refine o_p (p_fieldAddr rfl rfl fd_102_2 sz_30 rfl) rfl ?_
        refine o_on 44 _ rfl rfl hg8 ?_
        refine o_q (q_load_old rfl rfl sz_30 ((hs.1.rdj 2 h0 rfl))) rfl ?_
        refine o_on 44 _ rfl rfl hg8 ?_
        refine o_p (p_len_slice rfl rfl Tryz.underlying30) rfl ?_
        refine o_on 44 _ rfl rfl hg8 ?_
        refine oP ?_
        refine o_p (p_pickt rfl rfl hg8 rfl) rfl ?_
        refine o_nil ?_
        exact s_joinN 8 52 _ rfl rfl rfl (fun w h => by first | exact h | exact h.ent aEt))
      (by
        intro hg10
        have hs11 := hg10; try simp only [decide_eq_false_iff_not] at hs11
        refine o_off 44 _ rfl rfl hg10 rfl ?_
        refine o_off 44 _ rfl rfl hg10 rfl ?_
        refine o_off 44 _ rfl rfl hg10 rfl ?_
        refine o_off 44 _ rfl rfl hg10 rfl ?_
        refine o_off 44 _ rfl rfl hg10 rfl ?_
        refine o_off 44 _ rfl rfl hg10 rfl ?_
        refine o_off 44 _ rfl rfl hg10 rfl ?_
        refine o_p (p_pickf rfl rfl hg10 rfl) rfl ?_
        refine o_nil ?_
        exact s_joinN 8 52 _ rfl rfl rfl (fun w h => by first | exact h | exact h.ent aEt)) ?_
    refine oP ?_
    refine o_and 10 53 63 _ _ rfl
      (by
        intro hg12
        have hs13 := hg12; try simp only [Bool.and_eq_true, decide_eq_true_eq] at hs13
        refine o_on 53 _ rfl rfl hg12 ?_
        refine o_p (p_fieldAddr rfl rfl fd_24_3 sz_22 rfl) rfl ?_
        refine o_on 53 _ rfl rfl hg12 ?_
        refine o_q (q_load rfl rfl sz_22 aPk rfl) rfl ?_
        refine o_on 53 _ rfl rfl hg12 ?_
        refine o_p (p_indexAddr rfl rfl rfl sl_22 (0) (by omega) (by omega) (Rw.some hs.1 (by omega))) rfl ?_
        refine o_on 53 _ rfl rfl hg12 ?_
        refine o_p (p_fieldAddr rfl rfl fd_102_2 sz_30 rfl) rfl ?_
        refine o_on 53 _ rfl rfl hg12 ?_
        refine o_q (q_load_old rfl rfl sz_30 ((hs.1.rdj 2 h0 rfl))) rfl ?_
        refine o_on 53 _ rfl rfl hg12 ?_
        refine o_p (p_indexAddr rfl rfl rfl sl_30 (0) (by omega) (by omega) (Rw.some (hs.cs h0) (by omega))) rfl ?_
        refine o_on 53 _ rfl rfl hg12 ?_
        refine o_q (q_load_old rfl rfl sz_3 (((hs.cs h0).rdj 0 (i := 0) (by omega) rfl))) rfl ?_
        refine o_on 53 _ rfl rfl hg12 ?_
        refine oP ?_
        refine o_on 53 _ rfl rfl hg12 ?_
        refine oP ?_
        refine o_p (p_pickt rfl rfl hg12 rfl) rfl ?_
        refine o_nil ?_
        exact s_joinN 10 63 _ rfl rfl rfl (fun w h => by first | exact h | exact h.ent aEt))
      (by
        intro hg14
        have hs15 := hg14; try simp only [Bool.and_eq_false_iff, decide_eq_false_iff_not] at hs15
        refine o_off 53 _ rfl rfl hg14 rfl ?_
        refine o_off 53 _ rfl rfl hg14 rfl ?_
        refine o_off 53 _ rfl rfl hg14 rfl ?_
        refine o_off 53 _ rfl rfl hg14 rfl ?_
        refine o_off 53 _ rfl rfl hg14 rfl ?_
        refine o_off 53 _ rfl rfl hg14 rfl ?_
        refine o_off 53 _ rfl rfl hg14 rfl ?_
        refine o_off 53 _ rfl rfl hg14 rfl ?_
        refine o_off 53 _ rfl rfl hg14 rfl ?_
        refine o_p (p_pickf rfl rfl hg14 rfl) rfl ?_
        refine o_nil ?_
        exact s_joinN 10 63 _ rfl rfl rfl (fun w h => by first | exact h | exact h.ent aEt)) ?_
    refine oP ?_
    refine o_and 7 64 71 _ _ rfl
      (by
        intro hg16
        have hs17 := hg16; try simp only [Bool.and_eq_true, decide_eq_true_eq] at hs17
        refine o_on 64 _ rfl rfl hg16 ?_
        refine o_p (p_fieldAddr rfl rfl fd_102_1 sz_77 rfl) rfl ?_
        refine o_on 64 _ rfl rfl hg16 ?_
        refine o_q (q_load rfl rfl sz_77 aPk rfl) rfl ?_
        refine o_on 64 _ rfl rfl hg16 ?_
        refine o_p (p_len_slice rfl rfl Tryz.underlying77) rfl ?_
        refine o_on 64 _ rfl rfl hg16 ?_
        refine o_p (p_fieldAddr rfl rfl fd_24_2 sz_3 rfl) rfl ?_
        refine o_on 64 _ rfl rfl hg16 ?_
        refine o_q (q_load rfl rfl sz_3 aPk rfl) rfl ?_
        refine o_on 64 _ rfl rfl hg16 ?_
        refine oP ?_
        refine o_p (p_pickt rfl rfl hg16 rfl) rfl ?_
        refine o_nil ?_
        exact s_joinN 7 71 _ rfl rfl rfl (fun w h => by first | exact h | exact h.ent aEt))
      (by
        intro hg18
        have hs19 := hg18; try simp only [Bool.and_eq_false_iff, decide_eq_false_iff_not] at hs19
        refine o_off 64 _ rfl rfl hg18 rfl ?_
        refine o_off 64 _ rfl rfl hg18 rfl ?_
        refine o_off 64 _ rfl rfl hg18 rfl ?_
        refine o_off 64 _ rfl rfl hg18 rfl ?_
        refine o_off 64 _ rfl rfl hg18 rfl ?_
        refine o_off 64 _ rfl rfl hg18 rfl ?_
        refine o_p (p_pickf rfl rfl hg18 rfl) rfl ?_
        refine o_nil ?_
        exact s_joinN 7 71 _ rfl rfl rfl (fun w h => by first | exact h | exact h.ent aEt)) ?_
    refine o_nil ?_
    refine s_cond rfl (fun h20 => ?_) (fun h20 => ?_)
    · try simp only [Bool.and_eq_true, decide_eq_true_eq] at h20
      have hgp : gapB (⟨(j : Int), mo, rm, pln L⟩ : Tre) v = true := hgi.2 (.inr (by have hq := h20; exact ⟨⟨⟨by omega, by omega⟩, hq.1.2⟩, by omega⟩))
      have hV := visE_gap (deep := deep) hgp
      refine s_seq ?_
      refine s_weaken (L' := [(1, _), (2, _), (3, _), (4, _), (5, _), (10, _), (11, _), (12, _)]) aSx (fun _ h => h) ?_
      refine s_region ?_
      refine oP ?_
      refine oP ?_
      refine oP ?_
      refine o_nil ?_
      exact s_retv (rs := [.tmp 10, .tmp 11]) rfl (.tmp rfl (.tmp rfl (.nil))) (fun w' h' => ⟨by rw [shp_head (by rw [hV]; decide), hV]; rfl, h'.below⟩)
    · try simp only [Bool.and_eq_false_iff, decide_eq_false_iff_not] at h20
      have hgn : ¬ gapB (⟨(j : Int), mo, rm, pln L⟩ : Tre) v = true := fun h9 => (hgi.1 h9).elim hng1 (fun h8 => by have hq := h20; rcases hq with ((hq | hq) | hq) | hq <;> first | omega | exact hq h8.1.2)
      refine s_skip ?_
      refine s_seq ?_
      refine s_seq ?_
      refine s_weaken (L' := [(1, _), (2, _), (3, _), (4, _), (5, _), (10, _), (11, _), (12, _)]) aSx (fun _ h => h) ?_
      refine s_region ?_
      refine oP ?_
      refine o_nil ?_
      refine s_block ?_
      refine s_loopI (α := Nat) [10, 11, 13, 14, 73, 74, 75, 76, 77, 78, 79, 80, 81, 82, 83, 84, 85, 86, 87, 88, 89, 90, 91, 92, 93, 94, 95, 96, 97, 98, 99, 100, 101, 102, 103, 104, 105, 106, 107, 108, 109, 110, 111, 112, 113, 114] (fun k => [(13, .int .i64 (k : Int))]) (fun _ => HS w [] [.blk b1 24 4 [.int .i64 (j : Int), .int .i64 mo, .int .i64 rm, .slice a L.length cap], .blk b2 102 3 (LNd.vals (nth L v.i))]) (fun k => k ≤ (nth L v.i).es.length ∧ ∀ q, q < k → ¬ outB (⟨(j : Int), mo, rm, pln L⟩ : Tre) v (nth (nth L v.i).es q) = true) (fun k => (nth L v.i).es.length - k) 0 ⟨Nat.zero_le _, fun q h => absurd h (Nat.not_lt_zero q)⟩ aSx (fun w h => h.ent aEt) (fun k hx9 => ?_)
      obtain ⟨hk1, hk3⟩ := hx9
      refine s_seq ?_
      refine s_seq ?_
      refine s_region ?_
      refine oP ?_
      refine o_p (p_fieldAddr rfl rfl fd_102_1 sz_77 rfl) rfl ?_
      refine o_q (q_load rfl rfl sz_77 aPk rfl) rfl ?_
      refine o_p (p_len_slice rfl rfl Tryz.underlying77) rfl ?_
      refine oP ?_
      refine o_nil ?_
      refine s_cond rfl (fun h21 => ?_) (fun h21 => ?_)
      · try simp only [decide_eq_true_eq] at h21
        have hk5 : k < (nth L v.i).es.length := by omega
        refine s_skip ?_
        refine s_seq ?_
        refine s_block ?_
        refine s_seq ?_
        refine s_region ?_
        refine o_p (p_fieldAddr rfl rfl fd_102_1 sz_77 rfl) rfl ?_
        refine o_q (q_load rfl rfl sz_77 aPk rfl) rfl ?_
        refine oP ?_
        refine o_p (p_indexAddr rfl rfl rfl sl_77 (k) (by omega) (by omega) (Rw.some (hs.es hi) (by omega))) rfl ?_
        refine o_p (p_fieldAddr rfl rfl fd_26_0 sz_9 rfl) rfl ?_
        refine o_q (q_load_old rfl rfl sz_9 (((hs.es hi).rdj 0 hk5 rfl))) rfl ?_
        refine oP ?_
        refine o_nil ?_
        refine s_seq ?_
        refine s_weaken (L' := [(1, _), (2, _), (3, _), (4, _), (5, _), (12, _), (13, _), (14, _)]) aSx (fun _ h => h) ?_
        refine s_cutS (α := Bool) [86, 87, 88, 89, 90, 91, 92, 93, 94, 95, 96, 97, 98, 99, 100, 101, 102, 103, 104, 105, 106, 107, 108, 109, 110, 111, 112, 113] (fun x => [(113, .bool x)]) (fun x => x = true ↔ (outB (⟨(j : Int), mo, rm, pln L⟩ : Tre) v (nth (nth L v.i).es k)) = true) ?_ ?_
        · skip
          refine s_draw [] mixed ?_
          refine dP 0 ?_
          refine d_p 1 rfl (p_len_slice rfl rfl Tryz.underlying174) (by kernel_rfl) rfl rfl ?_
          refine dP 2 ?_
          refine dP 3 ?_
          apply d_split 89
          · exact rfl
          · intro hg22
            have hs23 := hg22; try simp only [decide_eq_true_eq] at hs23
            refine d_pon 4 89 rfl rfl rfl hg22 (p_fieldAddr rfl rfl fd_24_0 sz_3 rfl) (by kernel_rfl) rfl rfl ?_
            obtain ⟨kl, bl, ol, hlo1, hlo2, hlo3, hlo4⟩ := hlo.of_pos (by omega)
            refine d_qon 5 89 [] rfl rfl rfl hg22 (q_load rfl rfl sz_3 aPk rfl) (by kernel_rfl) (by kernel_rfl) (by kernel_rfl) rfl ?_
            refine d_pon 6 89 rfl rfl rfl hg22 (p_pure rfl) (by kernel_rfl) rfl rfl ?_
            refine d_pon 7 89 rfl rfl rfl hg22 (p_indexAddr rfl rfl rfl sl_174 (0) (by omega) (by omega) hlo3) (by kernel_rfl) rfl rfl ?_
            refine d_qon 8 89 [] rfl rfl rfl hg22 (q_load_old rfl rfl sz_9 (hlo4)) (by kernel_rfl) (by kernel_rfl) (by kernel_rfl) rfl ?_
            refine d_pon 9 89 rfl rfl rfl hg22 (p_pure rfl) (by kernel_rfl) rfl rfl ?_
            refine d_qon 10 89 [] rfl rfl rfl hg22 (q_call rfl fn_33 rfl (fun w1 h1 => c33 w1 j kl (nth (nth L v.i).es k).key hj (hko _ hlo1).1 (hE9 _ (mem_nth hk5)).1 (hko _ hlo1).2 (hE9 _ (mem_nth hk5)).2)) (by kernel_rfl) (by kernel_rfl) (by kernel_rfl) rfl ?_
            refine d_pon 11 89 rfl rfl rfl hg22 (p_pure rfl) (by kernel_rfl) rfl rfl ?_
            refine d_p 12 rfl (p_pickt rfl rfl hg22 rfl) (by kernel_rfl) rfl rfl ?_
            refine dP 13 ?_
            apply d_split 99
            · exact rfl
            · intro hg24
              have hs25 := hg24; try simp only [decide_eq_true_eq] at hs25
              refine d_off 14 99 rfl rfl rfl hg24 (by kernel_rfl) rfl rfl ?_
              refine d_off 15 99 rfl rfl rfl hg24 (by kernel_rfl) rfl rfl ?_
              refine d_off 16 99 rfl rfl rfl hg24 (by kernel_rfl) rfl rfl ?_
              refine d_off 17 99 rfl rfl rfl hg24 (by kernel_rfl) rfl rfl ?_
              refine d_offU 18 103 rfl rfl rfl (by kernel_rfl) rfl rfl ?_
              refine d_offU 19 103 rfl rfl rfl (by kernel_rfl) rfl rfl ?_
              refine d_offU 20 103 rfl rfl rfl (by kernel_rfl) rfl rfl ?_
              refine d_offU 21 103 rfl rfl rfl (by kernel_rfl) rfl rfl ?_
              refine d_offU 22 103 rfl rfl rfl (by kernel_rfl) rfl rfl ?_
              refine d_offU 23 103 rfl rfl rfl (by kernel_rfl) rfl rfl ?_
              refine d_offU 24 103 rfl rfl rfl (by kernel_rfl) rfl rfl ?_
              refine d_offU 25 103 rfl rfl rfl (by kernel_rfl) rfl rfl ?_
              refine d_off 26 99 rfl rfl rfl hg24 (by kernel_rfl) rfl rfl ?_
              refine d_p 27 rfl (p_pickt rfl rfl hg24 rfl) (by kernel_rfl) rfl rfl ?_
              refine d_nil (by kernel_rfl) (fun w h => by first | exact h | exact h.ent aEt) ?_
              exact s_joinI true (out_a hlo1 (by show 0 ≤ cmpK (j : Int) kl _; omega)) aSx (fun w h => h.ent aEt)
            · intro hg26
              have hs27 := hg26; try simp only [decide_eq_false_iff_not] at hs27
              refine d_pon 14 99 rfl rfl rfl hg26 (p_pure rfl) (by kernel_rfl) rfl rfl ?_
              refine d_pon 15 99 rfl rfl rfl hg26 (p_len_slice rfl rfl Tryz.underlying174) (by kernel_rfl) rfl rfl ?_
              refine d_pon 16 99 rfl rfl rfl hg26 (p_pure rfl) (by kernel_rfl) rfl rfl ?_
              refine d_pon 17 99 rfl rfl rfl hg26 (p_pure rfl) (by kernel_rfl) rfl rfl ?_
              apply d_split 103
              · exact rfl
              · intro hg28
                have hs29 := hg28; try simp only [decide_eq_true_eq] at hs29
                refine d_pon 18 103 rfl rfl rfl hg28 (p_fieldAddr rfl rfl fd_24_0 sz_3 rfl) (by kernel_rfl) rfl rfl ?_
                obtain ⟨kh, bh, oh, hhi1, hhi2, hhi3, hhi4⟩ := hhi.of_pos (by omega)
                refine d_qon 19 103 [] rfl rfl rfl hg28 (q_load rfl rfl sz_3 aPk rfl) (by kernel_rfl) (by kernel_rfl) (by kernel_rfl) rfl ?_
                refine d_pon 20 103 rfl rfl rfl hg28 (p_pure rfl) (by kernel_rfl) rfl rfl ?_
                refine d_pon 21 103 rfl rfl rfl hg28 (p_pure rfl) (by kernel_rfl) rfl rfl ?_
                refine d_pon 22 103 rfl rfl rfl hg28 (p_indexAddr rfl rfl rfl sl_174 (0) (by omega) (by omega) hhi3) (by kernel_rfl) rfl rfl ?_
                refine d_qon 23 103 [] rfl rfl rfl hg28 (q_load_old rfl rfl sz_9 (hhi4)) (by kernel_rfl) (by kernel_rfl) (by kernel_rfl) rfl ?_
                refine d_qon 24 103 [] rfl rfl rfl hg28 (q_call rfl fn_33 rfl (fun w1 h1 => c33 w1 j (nth (nth L v.i).es k).key kh hj (hE9 _ (mem_nth hk5)).1 (hkp _ hhi1).1 (hE9 _ (mem_nth hk5)).2 (hkp _ hhi1).2)) (by kernel_rfl) (by kernel_rfl) (by kernel_rfl) rfl ?_
                refine d_pon 25 103 rfl rfl rfl hg28 (p_pure rfl) (by kernel_rfl) rfl rfl ?_
                refine d_pon 26 99 rfl rfl rfl hg26 (p_pickt rfl rfl hg28 rfl) (by kernel_rfl) rfl rfl ?_
                refine d_p 27 rfl (p_pickf rfl rfl hg26 rfl) (by kernel_rfl) rfl rfl ?_
                refine d_nil (by kernel_rfl) (fun w h => by first | exact h | exact h.ent aEt) ?_
                exact s_joinI (decide (cmpK (j : Int) (nth (nth L v.i).es k).key kh ≥ 0)) (out_b (t := (⟨(j : Int), mo, rm, pln L⟩ : Tre)) hlo1 (by show ¬ 0 ≤ cmpK (j : Int) kl _; omega) hhi1) aSx (fun w h => h.ent aEt)
              · intro hg30
                have hs31 := hg30; try simp only [decide_eq_false_iff_not] at hs31
                refine d_off 18 103 rfl rfl rfl hg30 (by kernel_rfl) rfl rfl ?_
                refine d_off 19 103 rfl rfl rfl hg30 (by kernel_rfl) rfl rfl ?_
                refine d_off 20 103 rfl rfl rfl hg30 (by kernel_rfl) rfl rfl ?_
                refine d_off 21 103 rfl rfl rfl hg30 (by kernel_rfl) rfl rfl ?_
                refine d_off 22 103 rfl rfl rfl hg30 (by kernel_rfl) rfl rfl ?_
                refine d_off 23 103 rfl rfl rfl hg30 (by kernel_rfl) rfl rfl ?_
                refine d_off 24 103 rfl rfl rfl hg30 (by kernel_rfl) rfl rfl ?_
                refine d_off 25 103 rfl rfl rfl hg30 (by kernel_rfl) rfl rfl ?_
                refine d_pon 26 99 rfl rfl rfl hg26 (p_pickf rfl rfl hg30 rfl) (by kernel_rfl) rfl rfl ?_
                refine d_p 27 rfl (p_pickf rfl rfl hg26 rfl) (by kernel_rfl) rfl rfl ?_
                refine d_nil (by kernel_rfl) (fun w h => by first | exact h | exact h.ent aEt) ?_
                exact s_joinI false (out_c hlo1 (by show ¬ 0 ≤ cmpK (j : Int) kl _; omega) (hhi.of_no (by omega))) aSx (fun w h => h.ent aEt)
          · intro hg32
            have hs33 := hg32; try simp only [decide_eq_false_iff_not] at hs33
            refine d_off 4 89 rfl rfl rfl hg32 (by kernel_rfl) rfl rfl ?_
            refine d_off 5 89 rfl rfl rfl hg32 (by kernel_rfl) rfl rfl ?_
            refine d_off 6 89 rfl rfl rfl hg32 (by kernel_rfl) rfl rfl ?_
            refine d_off 7 89 rfl rfl rfl hg32 (by kernel_rfl) rfl rfl ?_
            refine d_off 8 89 rfl rfl rfl hg32 (by kernel_rfl) rfl rfl ?_
            refine d_off 9 89 rfl rfl rfl hg32 (by kernel_rfl) rfl rfl ?_
            refine d_off 10 89 rfl rfl rfl hg32 (by kernel_rfl) rfl rfl ?_
            refine d_off 11 89 rfl rfl rfl hg32 (by kernel_rfl) rfl rfl ?_
            refine d_p 12 rfl (p_pickf rfl rfl hg32 rfl) (by kernel_rfl) rfl rfl ?_
            refine dP 13 ?_
            apply d_split 99
            · exact rfl
            · intro hg34
              have hs35 := hg34; skip
              refine d_off 14 99 rfl rfl rfl hg34 (by kernel_rfl) rfl rfl ?_
              refine d_off 15 99 rfl rfl rfl hg34 (by kernel_rfl) rfl rfl ?_
              refine d_off 16 99 rfl rfl rfl hg34 (by kernel_rfl) rfl rfl ?_
              refine d_off 17 99 rfl rfl rfl hg34 (by kernel_rfl) rfl rfl ?_
              refine d_offU 18 103 rfl rfl rfl (by kernel_rfl) rfl rfl ?_
              refine d_offU 19 103 rfl rfl rfl (by kernel_rfl) rfl rfl ?_
              refine d_offU 20 103 rfl rfl rfl (by kernel_rfl) rfl rfl ?_
              refine d_offU 21 103 rfl rfl rfl (by kernel_rfl) rfl rfl ?_
              refine d_offU 22 103 rfl rfl rfl (by kernel_rfl) rfl rfl ?_
              refine d_offU 23 103 rfl rfl rfl (by kernel_rfl) rfl rfl ?_
              refine d_offU 24 103 rfl rfl rfl (by kernel_rfl) rfl rfl ?_
              refine d_offU 25 103 rfl rfl rfl (by kernel_rfl) rfl rfl ?_
              refine d_off 26 99 rfl rfl rfl hg34 (by kernel_rfl) rfl rfl ?_
              refine d_p 27 rfl (p_pickt rfl rfl hg34 rfl) (by kernel_rfl) rfl rfl ?_
              refine d_nil (by kernel_rfl) (fun w h => by first | exact h | exact h.ent aEt) ?_
              exact s_joinI true (by exfalso; simp_all; done) aSx (fun w h => h.ent aEt)
            · intro hg36
              have hs37 := hg36; skip
              refine d_pon 14 99 rfl rfl rfl hg36 (p_pure rfl) (by kernel_rfl) rfl rfl ?_
              refine d_pon 15 99 rfl rfl rfl hg36 (p_len_slice rfl rfl Tryz.underlying174) (by kernel_rfl) rfl rfl ?_
              refine d_pon 16 99 rfl rfl rfl hg36 (p_pure rfl) (by kernel_rfl) rfl rfl ?_
              refine d_pon 17 99 rfl rfl rfl hg36 (p_pure rfl) (by kernel_rfl) rfl rfl ?_
              apply d_split 103
              · exact rfl
              · intro hg38
                have hs39 := hg38; try simp only [decide_eq_true_eq] at hs39
                refine d_pon 18 103 rfl rfl rfl hg38 (p_fieldAddr rfl rfl fd_24_0 sz_3 rfl) (by kernel_rfl) rfl rfl ?_
                obtain ⟨kh, bh, oh, hhi1, hhi2, hhi3, hhi4⟩ := hhi.of_pos (by omega)
                refine d_qon 19 103 [] rfl rfl rfl hg38 (q_load rfl rfl sz_3 aPk rfl) (by kernel_rfl) (by kernel_rfl) (by kernel_rfl) rfl ?_
                refine d_pon 20 103 rfl rfl rfl hg38 (p_pure rfl) (by kernel_rfl) rfl rfl ?_
                refine d_pon 21 103 rfl rfl rfl hg38 (p_pure rfl) (by kernel_rfl) rfl rfl ?_
                refine d_pon 22 103 rfl rfl rfl hg38 (p_indexAddr rfl rfl rfl sl_174 (0) (by omega) (by omega) hhi3) (by kernel_rfl) rfl rfl ?_
                refine d_qon 23 103 [] rfl rfl rfl hg38 (q_load_old rfl rfl sz_9 (hhi4)) (by kernel_rfl) (by kernel_rfl) (by kernel_rfl) rfl ?_
                refine d_qon 24 103 [] rfl rfl rfl hg38 (q_call rfl fn_33 rfl (fun w1 h1 => c33 w1 j (nth (nth L v.i).es k).key kh hj (hE9 _ (mem_nth hk5)).1 (hkp _ hhi1).1 (hE9 _ (mem_nth hk5)).2 (hkp _ hhi1).2)) (by kernel_rfl) (by kernel_rfl) (by kernel_rfl) rfl ?_
                refine d_pon 25 103 rfl rfl rfl hg38 (p_pure rfl) (by kernel_rfl) rfl rfl ?_
                refine d_pon 26 99 rfl rfl rfl hg36 (p_pickt rfl rfl hg38 rfl) (by kernel_rfl) rfl rfl ?_
                refine d_p 27 rfl (p_pickf rfl rfl hg36 rfl) (by kernel_rfl) rfl rfl ?_
                refine d_nil (by kernel_rfl) (fun w h => by first | exact h | exact h.ent aEt) ?_
                exact s_joinI (decide (cmpK (j : Int) (nth (nth L v.i).es k).key kh ≥ 0)) (out_d (t := (⟨(j : Int), mo, rm, pln L⟩ : Tre)) (hlo.of_no (by omega)) hhi1) aSx (fun w h => h.ent aEt)
              · intro hg40
                have hs41 := hg40; try simp only [decide_eq_false_iff_not] at hs41
                refine d_off 18 103 rfl rfl rfl hg40 (by kernel_rfl) rfl rfl ?_
                refine d_off 19 103 rfl rfl rfl hg40 (by kernel_rfl) rfl rfl ?_
                refine d_off 20 103 rfl rfl rfl hg40 (by kernel_rfl) rfl rfl ?_
                refine d_off 21 103 rfl rfl rfl hg40 (by kernel_rfl) rfl rfl ?_
                refine d_off 22 103 rfl rfl rfl hg40 (by kernel_rfl) rfl rfl ?_
                refine d_off 23 103 rfl rfl rfl hg40 (by kernel_rfl) rfl rfl ?_
                refine d_off 24 103 rfl rfl rfl hg40 (by kernel_rfl) rfl rfl ?_
                refine d_off 25 103 rfl rfl rfl hg40 (by kernel_rfl) rfl rfl ?_
                refine d_pon 26 99 rfl rfl rfl hg36 (p_pickf rfl rfl hg40 rfl) (by kernel_rfl) rfl rfl ?_
                refine d_p 27 rfl (p_pickf rfl rfl hg36 rfl) (by kernel_rfl) rfl rfl ?_
                refine d_nil (by kernel_rfl) (fun w h => by first | exact h | exact h.ent aEt) ?_
                exact s_joinI false (out_e (hlo.of_no (by omega)) (hhi.of_no (by omega))) aSx (fun w h => h.ent aEt)
        · intro x hx
          refine s_cond rfl (fun h42 => ?_) (fun h42 => ?_)
          · skip
            have hV := visE_out (deep := deep) hgn (outs_hit hn hk5 (hx.1 h42))
            refine s_seq ?_
            refine s_region ?_
            refine oP ?_
            refine oP ?_
            refine oP ?_
            refine o_nil ?_
            exact s_retv (rs := [.tmp 10, .tmp 11]) rfl (.tmp rfl (.tmp rfl (.nil))) (fun w' h' => ⟨by rw [shp_head (by rw [hV]; decide), hV]; rfl, h'.below⟩)
          · skip
            have hz3 : ¬ (outB (⟨(j : Int), mo, rm, pln L⟩ : Tre) v (nth (nth L v.i).es k)) = true := fun h9 => by have h8 := hx.2 h9; simp_all
            refine s_skip ?_
            refine s_blk ?_
            refine s_region ?_
            refine oP ?_
            refine oP ?_
            try (refine o_slot (i64w (by omega) (by omega)) ?_)
            refine oP ?_
            refine o_nil ?_
            exact s_backI (k + 1) (by omega) ⟨by omega, fun q hq => (Nat.lt_or_ge q k).elim (hk3 q) (fun h9 => by obtain rfl : q = k := (by omega); exact hz3)⟩ aSx (fun w h => h.ent aEt)
      · try simp only [decide_eq_false_iff_not] at h21
        have hon : ¬ outsB (⟨(j : Int), mo, rm, pln L⟩ : Tre) v = true := outs_no hn (fun q hq => hk3 q (by have hq9 := hq; simp only [LNd.pl] at hq9; omega))
        refine s_exit_to rfl ?_
        refine s_seq ?_
        refine s_seq ?_
        refine s_region ?_
        refine o_p (p_fieldAddr rfl rfl fd_102_2 sz_30 rfl) rfl ?_
        refine o_q (q_load rfl rfl sz_30 aPk rfl) rfl ?_
        refine o_p (p_len_slice rfl rfl Tryz.underlying30) rfl ?_
        refine oP ?_
        refine oP ?_
        refine o_and 3 119 122 _ _ rfl
          (by
            intro hg43
            have hs44 := hg43; try simp only [decide_eq_true_eq] at hs44
            refine o_on 119 _ rfl rfl hg43 ?_
            refine oP ?_
            refine o_on 119 _ rfl rfl hg43 ?_
            refine oP ?_
            refine o_p (p_pickt rfl rfl hg43 rfl) rfl ?_
            refine o_nil ?_
            exact s_joinN 3 122 _ rfl rfl rfl (fun w h => by first | exact h | exact h.ent aEt))
          (by
            intro hg45
            have hs46 := hg45; try simp only [decide_eq_false_iff_not] at hs46
            refine o_off 119 _ rfl rfl hg45 rfl ?_
            refine o_off 119 _ rfl rfl hg45 rfl ?_
            refine o_p (p_pickf rfl rfl hg45 rfl) rfl ?_
            refine o_nil ?_
            exact s_joinN 3 122 _ rfl rfl rfl (fun w h => by first | exact h | exact h.ent aEt)) ?_
        refine o_nil ?_
        refine s_cond rfl (fun h47 => ?_) (fun h47 => ?_)
        · try simp only [Bool.and_eq_true, decide_eq_true_eq, Bool.not_eq_true', decide_eq_false_iff_not] at h47
          have hV := visE_22 (deep := deep) hgn hon (by rw [show ((⟨(j : Int), mo, rm, pln L⟩ : Tre)).ns = pln L from rfl, hn]; have hq := h47; simp only [LNd.pl]; omega)
          refine s_seq ?_
          refine s_region ?_
          refine oP ?_
          refine oP ?_
          refine oP ?_
          refine o_nil ?_
          exact s_retv (rs := [.tmp 10, .tmp 11]) rfl (.tmp rfl (.tmp rfl (.nil))) (fun w' h' => ⟨by rw [shp_head (by rw [hV]; decide), hV]; rfl, h'.below⟩)
        · try simp only [Bool.and_eq_false_iff, decide_eq_false_iff_not, Bool.not_eq_false', decide_eq_true_eq] at h47
          have hV0 := visE_ok (deep := deep) hgn hon (by rw [show ((⟨(j : Int), mo, rm, pln L⟩ : Tre)).ns = pln L from rfl, hn]; have hq := h47; simp only [LNd.pl]; omega)
          refine s_skip ?_
          refine s_seq ?_
          refine s_seq ?_
          refine s_region ?_
          refine oP ?_
          refine o_nil ?_
          refine s_block ?_
          refine s_weaken (L' := [(1, _), (2, _), (3, _), (4, _), (5, _), (12, _), (13, _), (15, _)]) aSx (fun _ h => h) ?_
          refine s_loopI (α := Nat) [10, 11, 15, 16, 17, 18, 19, 124, 125, 126, 127, 128, 129, 130, 131, 132, 133, 134, 135, 136, 137, 138, 139, 140, 141, 142, 143, 144, 145, 146, 147, 148, 149, 150, 151, 152, 153, 154, 155, 156, 157, 158, 159, 160, 161, 162, 163, 164, 165, 166, 167, 168, 169, 170, 171, 172] (fun k => [(15, .int .i64 (k : Int))]) (fun _ => HS w [] [.blk b1 24 4 [.int .i64 (j : Int), .int .i64 mo, .int .i64 rm, .slice a L.length cap], .blk b2 102 3 (LNd.vals (nth L v.i))]) (fun k => k ≤ (nth L v.i).cs.length ∧ (shpF (⟨(j : Int), mo, rm, pln L⟩ : Tre) deep (visK (pln L) f v k)).2 = 0) (fun k => (nth L v.i).cs.length - k) 0 ⟨Nat.zero_le _, shp_K0 hV0⟩ aSx (fun w h => h.ent aEt) (fun k hx9 => ?_)
          obtain ⟨hk1, hk3⟩ := hx9
          refine s_seq ?_
          refine s_seq ?_
          refine s_region ?_
          refine oP ?_
          refine o_p (p_fieldAddr rfl rfl fd_102_2 sz_30 rfl) rfl ?_
          refine o_q (q_load rfl rfl sz_30 aPk rfl) rfl ?_
          refine o_p (p_len_slice rfl rfl Tryz.underlying30) rfl ?_
          refine oP ?_
          refine o_nil ?_
          refine s_cond rfl (fun h48 => ?_) (fun h48 => ?_)
          · try simp only [decide_eq_true_eq] at h48
            have hkl : k < (nth L v.i).cs.length := by omega
            have hkid := kid_in hT hi0 (k := k) (by rw [hn]; exact hkl)
            rw [hn, pln_len] at hkid
            simp only [LNd.pl] at hkid
            have hway2 := way_kid hway hi0 (k := k) (by rw [hn]; exact hkl) (by rw [hn]; simp only [LNd.pl]; omega)
            refine s_skip ?_
            refine s_seq ?_
            refine s_block ?_
            refine s_seq ?_
            refine s_region ?_
            refine oP ?_
            refine oP ?_
            refine oP ?_
            refine oP ?_
            refine o_nil ?_
            refine s_seq ?_
            refine s_seq ?_
            refine s_region ?_
            refine oP ?_
            refine oP ?_
            refine o_nil ?_
            refine s_cond rfl (fun h49 => ?_) (fun h49 => ?_)
            · try simp only [decide_eq_true_eq] at h49
              have hk0 : 0 < k := by have hq := h49; omega
              refine s_region ?_
              refine o_p (p_fieldAddr rfl rfl fd_102_1 sz_77 rfl) rfl ?_
              refine o_q (q_load rfl rfl sz_77 aPk rfl) rfl ?_
              refine oP ?_
              refine oP ?_
              try (refine o_slot (i64w (by omega) (by omega)) ?_)
              refine o_p (p_indexAddr rfl rfl rfl sl_77 (k - 1) (by omega) (by omega) (Rw.some (hs.es hi) (by omega))) rfl ?_
              refine o_p (p_fieldAddr rfl rfl fd_26_0 sz_9 rfl) rfl ?_
              refine o_q (q_load_old rfl rfl sz_9 (((hs.es hi).rdj 0 (i := k - 1) (by omega) rfl))) rfl ?_
              refine o_h (h_buildSlice (cs := [_]) rfl rfl sl_174 zr_9 rfl rfl rfl) rfl (fun b50 _ => ?_)
              refine oP ?_
              refine o_nil ?_
              refine s_seq ?_
              refine s_seq ?_
              refine s_region ?_
              refine oP ?_
              refine o_p (p_fieldAddr rfl rfl fd_102_1 sz_77 rfl) rfl ?_
              refine o_q (q_load rfl rfl sz_77 aPk rfl) rfl ?_
              refine o_p (p_len_slice rfl rfl Tryz.underlying77) rfl ?_
              refine oP ?_
              refine o_nil ?_
              refine s_cond rfl (fun h51 => ?_) (fun h51 => ?_)
              · try simp only [decide_eq_true_eq] at h51
                have hk9 : k < (nth L v.i).es.length := by have hq := h51; omega
                refine s_weaken (L' := [(1, _), (2, _), (3, _), (4, _), (5, _), (12, _), (13, _), (15, _), (16, _), (17, _)]) aSx (fun _ h => h) ?_
                refine s_region ?_
                refine o_p (p_fieldAddr rfl rfl fd_102_1 sz_77 rfl) rfl ?_
                refine o_q (q_load rfl rfl sz_77 aPk rfl) rfl ?_
                refine oP ?_
                refine o_p (p_indexAddr rfl rfl rfl sl_77 (k) (by omega) (by omega) (Rw.some (hs.es hi) (by omega))) rfl ?_
                refine o_p (p_fieldAddr rfl rfl fd_26_0 sz_9 rfl) rfl ?_
                refine o_q (q_load_old rfl rfl sz_9 (((hs.es hi).rdj 0 (i := k) (by omega) rfl))) rfl ?_
                refine o_h (h_buildSlice (cs := [_]) rfl rfl sl_174 zr_9 rfl rfl rfl) rfl (fun b52 _ => ?_)
                refine oP ?_
                refine o_nil ?_
                refine s_seq ?_
                refine s_draw [] mixed ?_
                refine d_q 0 [] rfl (q_loadn rfl rfl sz_24 aPk rfl) (by kernel_rfl) (by kernel_rfl) (by kernel_rfl) rfl ?_
                refine d_p 1 rfl (p_fieldAddr rfl rfl fd_102_2 sz_30 rfl) (by kernel_rfl) rfl rfl ?_
                refine d_q 2 [] rfl (q_load rfl rfl sz_30 aPk rfl) (by kernel_rfl) (by kernel_rfl) (by kernel_rfl) rfl ?_
                refine dP 3 ?_
                refine d_p 4 rfl (p_indexAddr rfl rfl rfl sl_30 (k) (by omega) (by omega) (Rw.some (hs.cs hi) (by omega))) (by kernel_rfl) rfl rfl ?_
                refine d_q 5 [] rfl (q_load_old rfl rfl sz_3 (((hs.cs hi).rdj 0 (i := k) hkl rfl))) (by kernel_rfl) (by kernel_rfl) (by kernel_rfl) rfl ?_
                refine d_slot (show _ = Value.int .i64 ((kidV (pln L) v k).i : Int) from by rw [kidV, hn]; exact congrArg (Value.int .i64) (Int.toNat_of_nonneg (show 0 ≤ (nth L v.i).cs.getD k 0 by omega)).symm) ?_
                refine dP 6 ?_
                refine dP 7 ?_
                try (refine d_slot (i64w (by omega) (by omega)) ?_)
                refine dP 8 ?_
                refine dP 9 ?_
                refine d_q 10 [] rfl (q_call rfl fn_87 rfl (fun w1 h1 => ih w1 (kidV (pln L) v k) (v.i :: P) (lv - 1) _ _ _ _ _ _ (hs.later h1) hj hmo hT hB h0 hway2 (by simp only [kidV, List.length_cons]; omega) (by simp only [kidV]; omega) (kok_lo hT hi0 (by rw [hn]; show k ≤ (nth L v.i).es.length; omega) hko) (kok_hi hT hi0 hkp) (by show StK w1 _ _ (loK (nth (pln L) v.i).es k v.lo); rw [hn]; show StK w1 _ _ (loK (nth L v.i).es k v.lo); first | (rw [loK_pos hk0]; exact StK.new (h1.rd_blk (Mc := []) aPk rfl (by simp))) | (rw [loK_no hk0]; exact hlo.later h1)) (by show StK w1 _ _ (hiK (nth (pln L) v.i).es k v.hi); rw [hn]; show StK w1 _ _ (hiK (nth L v.i).es k v.hi); first | (rw [hiK_pos hk9]; exact StK.new (h1.rd_blk (Mc := []) aPk rfl (by simp))) | (rw [hiK_no hk9]; exact hhi.later h1)) (by simp only [List.length_cons]; omega))) (by kernel_rfl) (by kernel_rfl) (by kernel_rfl) rfl ?_
                refine dP 11 ?_
                refine dP 12 ?_
                refine dP 13 ?_
                refine dP 14 ?_
                refine dP 15 ?_
                refine d_nil (by kernel_rfl) (fun w h => by first | exact h | exact h.ent aEt) ?_
                refine s_seq ?_
                refine s_weaken (L' := [(1, _), (2, _), (3, _), (4, _), (5, _), (12, _), (13, _), (15, _), (18, _), (19, _)]) aSx (fun _ h => h) ?_
                refine s_region ?_
                refine oP ?_
                refine oP ?_
                refine o_nil ?_
                refine s_cond rfl (fun h53 => ?_) (fun h53 => ?_)
                · try simp only [Bool.not_eq_true', decide_eq_false_iff_not] at h53
                  have hbad : shpF (⟨(j : Int), mo, rm, pln L⟩ : Tre) deep (vis (pln L) (f + 1) v) = shpF (⟨(j : Int), mo, rm, pln L⟩ : Tre) deep (vis (pln L) f (kidV (pln L) v k)) := by rw [visK_all, hn]; obtain ⟨B9, hB9⟩ := visK_more (pln L) f v (show k + 1 ≤ (nth L v.i).pl.cs.length by show k + 1 ≤ (nth L v.i).cs.length; omega); rw [hB9, visK_succ, List.append_assoc, shpF_app, if_pos hk3, shpF_app, if_neg h53]
                  refine s_seq ?_
                  refine s_region ?_
                  refine oP ?_
                  refine oP ?_
                  refine oP ?_
                  refine oP ?_
                  refine o_nil ?_
                  exact s_retv (rs := [.tmp 10, .tmp 11]) rfl (.tmp rfl (.tmp rfl (.nil))) (fun w' h' => ⟨by rw [hbad]; rfl, h'.below⟩)
                · try simp only [Bool.not_eq_false', decide_eq_true_eq] at h53
                  have hgood : (shpF (⟨(j : Int), mo, rm, pln L⟩ : Tre) deep (visK (pln L) f v (k + 1))).2 = 0 := by rw [visK_succ, shpF_app, if_pos hk3]; have hq := h53; omega
                  refine s_skip ?_
                  refine s_blk ?_
                  refine s_region ?_
                  refine oP ?_
                  refine oP ?_
                  try (refine o_slot (i64w (by omega) (by omega)) ?_)
                  refine oP ?_
                  refine o_nil ?_
                  exact s_backI (k + 1) (by omega) ⟨by omega, hgood⟩ aSx (fun w h => h.ent aEt)
              · try simp only [decide_eq_false_iff_not] at h51
                have hk9 : ¬ k < (nth L v.i).es.length := by have hq := h51; omega
                refine s_skip ?_
                refine s_seq ?_
                refine s_weaken (L' := [(1, _), (2, _), (3, _), (4, _), (5, _), (12, _), (13, _), (15, _), (16, _), (17, _)]) aSx (fun _ h => h) ?_
                refine s_draw [] mixed ?_
                refine d_q 0 [] rfl (q_loadn rfl rfl sz_24 aPk rfl) (by kernel_rfl) (by kernel_rfl) (by kernel_rfl) rfl ?_
                refine d_p 1 rfl (p_fieldAddr rfl rfl fd_102_2 sz_30 rfl) (by kernel_rfl) rfl rfl ?_
                refine d_q 2 [] rfl (q_load rfl rfl sz_30 aPk rfl) (by kernel_rfl) (by kernel_rfl) (by kernel_rfl) rfl ?_
                refine dP 3 ?_
                refine d_p 4 rfl (p_indexAddr rfl rfl rfl sl_30 (k) (by omega) (by omega) (Rw.some (hs.cs hi) (by omega))) (by kernel_rfl) rfl rfl ?_
                refine d_q 5 [] rfl (q_load_old rfl rfl sz_3 (((hs.cs hi).rdj 0 (i := k) hkl rfl))) (by kernel_rfl) (by kernel_rfl) (by kernel_rfl) rfl ?_
                refine d_slot (show _ = Value.int .i64 ((kidV (pln L) v k).i : Int) from by rw [kidV, hn]; exact congrArg (Value.int .i64) (Int.toNat_of_nonneg (show 0 ≤ (nth L v.i).cs.getD k 0 by omega)).symm) ?_
                refine dP 6 ?_
                refine dP 7 ?_
                try (refine d_slot (i64w (by omega) (by omega)) ?_)
                refine dP 8 ?_
                refine dP 9 ?_
                refine d_q 10 [] rfl (q_call rfl fn_87 rfl (fun w1 h1 => ih w1 (kidV (pln L) v k) (v.i :: P) (lv - 1) _ _ _ _ _ _ (hs.later h1) hj hmo hT hB h0 hway2 (by simp only [kidV, List.length_cons]; omega) (by simp only [kidV]; omega) (kok_lo hT hi0 (by rw [hn]; show k ≤ (nth L v.i).es.length; omega) hko) (kok_hi hT hi0 hkp) (by show StK w1 _ _ (loK (nth (pln L) v.i).es k v.lo); rw [hn]; show StK w1 _ _ (loK (nth L v.i).es k v.lo); first | (rw [loK_pos hk0]; exact StK.new (h1.rd_blk (Mc := []) aPk rfl (by simp))) | (rw [loK_no hk0]; exact hlo.later h1)) (by show StK w1 _ _ (hiK (nth (pln L) v.i).es k v.hi); rw [hn]; show StK w1 _ _ (hiK (nth L v.i).es k v.hi); first | (rw [hiK_pos hk9]; exact StK.new (h1.rd_blk (Mc := []) aPk rfl (by simp))) | (rw [hiK_no hk9]; exact hhi.later h1)) (by simp only [List.length_cons]; omega))) (by kernel_rfl) (by kernel_rfl) (by kernel_rfl) rfl ?_
                refine dP 11 ?_
                refine dP 12 ?_
                refine dP 13 ?_
                refine dP 14 ?_
                refine dP 15 ?_
                refine d_nil (by kernel_rfl) (fun w h => by first | exact h | exact h.ent aEt) ?_
                refine s_seq ?_
                refine s_region ?_
                refine oP ?_
                refine oP ?_
                refine o_nil ?_
                refine s_cond rfl (fun h54 => ?_) (fun h54 => ?_)
                · try simp only [Bool.not_eq_true', decide_eq_false_iff_not] at h54
                  have hbad : shpF (⟨(j : Int), mo, rm, pln L⟩ : Tre) deep (vis (pln L) (f + 1) v) = shpF (⟨(j : Int), mo, rm, pln L⟩ : Tre) deep (vis (pln L) f (kidV (pln L) v k)) := by rw [visK_all, hn]; obtain ⟨B9, hB9⟩ := visK_more (pln L) f v (show k + 1 ≤ (nth L v.i).pl.cs.length by show k + 1 ≤ (nth L v.i).cs.length; omega); rw [hB9, visK_succ, List.append_assoc, shpF_app, if_pos hk3, shpF_app, if_neg h54]
                  refine s_seq ?_
                  refine s_region ?_
                  refine oP ?_
                  refine oP ?_
                  refine oP ?_
                  refine oP ?_
                  refine o_nil ?_
                  exact s_retv (rs := [.tmp 10, .tmp 11]) rfl (.tmp rfl (.tmp rfl (.nil))) (fun w' h' => ⟨by rw [hbad]; rfl, h'.below⟩)
                · try simp only [Bool.not_eq_false', decide_eq_true_eq] at h54
                  have hgood : (shpF (⟨(j : Int), mo, rm, pln L⟩ : Tre) deep (visK (pln L) f v (k + 1))).2 = 0 := by rw [visK_succ, shpF_app, if_pos hk3]; have hq := h54; omega
                  refine s_skip ?_
                  refine s_blk ?_
                  refine s_region ?_
                  refine oP ?_
                  refine oP ?_
                  try (refine o_slot (i64w (by omega) (by omega)) ?_)
                  refine oP ?_
                  refine o_nil ?_
                  exact s_backI (k + 1) (by omega) ⟨by omega, hgood⟩ aSx (fun w h => h.ent aEt)
            · try simp only [decide_eq_false_iff_not] at h49
              have hk0 : ¬ 0 < k := by have hq := h49; omega
              refine s_skip ?_
              refine s_seq ?_
              refine s_seq ?_
              refine s_region ?_
              refine oP ?_
              refine o_p (p_fieldAddr rfl rfl fd_102_1 sz_77 rfl) rfl ?_
              refine o_q (q_load rfl rfl sz_77 aPk rfl) rfl ?_
              refine o_p (p_len_slice rfl rfl Tryz.underlying77) rfl ?_
              refine oP ?_
              refine o_nil ?_
              refine s_cond rfl (fun h55 => ?_) (fun h55 => ?_)
              · try simp only [decide_eq_true_eq] at h55
                have hk9 : k < (nth L v.i).es.length := by have hq := h55; omega
                refine s_region ?_
                refine o_p (p_fieldAddr rfl rfl fd_102_1 sz_77 rfl) rfl ?_
                refine o_q (q_load rfl rfl sz_77 aPk rfl) rfl ?_
                refine oP ?_
                refine o_p (p_indexAddr rfl rfl rfl sl_77 (k) (by omega) (by omega) (Rw.some (hs.es hi) (by omega))) rfl ?_
                refine o_p (p_fieldAddr rfl rfl fd_26_0 sz_9 rfl) rfl ?_
                refine o_q (q_load_old rfl rfl sz_9 (((hs.es hi).rdj 0 (i := k) (by omega) rfl))) rfl ?_
                refine o_h (h_buildSlice (cs := [_]) rfl rfl sl_174 zr_9 rfl rfl rfl) rfl (fun b56 _ => ?_)
                refine oP ?_
                refine o_nil ?_
                refine s_seq ?_
                refine s_weaken (L' := [(1, _), (2, _), (3, _), (4, _), (5, _), (12, _), (13, _), (15, _), (16, _), (17, _)]) aSx (fun _ h => h) ?_
                refine s_draw [] mixed ?_
                refine d_q 0 [] rfl (q_loadn rfl rfl sz_24 aPk rfl) (by kernel_rfl) (by kernel_rfl) (by kernel_rfl) rfl ?_
                refine d_p 1 rfl (p_fieldAddr rfl rfl fd_102_2 sz_30 rfl) (by kernel_rfl) rfl rfl ?_
                refine d_q 2 [] rfl (q_load rfl rfl sz_30 aPk rfl) (by kernel_rfl) (by kernel_rfl) (by kernel_rfl) rfl ?_
                refine dP 3 ?_
                refine d_p 4 rfl (p_indexAddr rfl rfl rfl sl_30 (k) (by omega) (by omega) (Rw.some (hs.cs hi) (by omega))) (by kernel_rfl) rfl rfl ?_
                refine d_q 5 [] rfl (q_load_old rfl rfl sz_3 (((hs.cs hi).rdj 0 (i := k) hkl rfl))) (by kernel_rfl) (by kernel_rfl) (by kernel_rfl) rfl ?_
                refine d_slot (show _ = Value.int .i64 ((kidV (pln L) v k).i : Int) from by rw [kidV, hn]; exact congrArg (Value.int .i64) (Int.toNat_of_nonneg (show 0 ≤ (nth L v.i).cs.getD k 0 by omega)).symm) ?_
                refine dP 6 ?_
                refine dP 7 ?_
                try (refine d_slot (i64w (by omega) (by omega)) ?_)
                refine dP 8 ?_
                refine dP 9 ?_
                refine d_q 10 [] rfl (q_call rfl fn_87 rfl (fun w1 h1 => ih w1 (kidV (pln L) v k) (v.i :: P) (lv - 1) _ _ _ _ _ _ (hs.later h1) hj hmo hT hB h0 hway2 (by simp only [kidV, List.length_cons]; omega) (by simp only [kidV]; omega) (kok_lo hT hi0 (by rw [hn]; show k ≤ (nth L v.i).es.length; omega) hko) (kok_hi hT hi0 hkp) (by show StK w1 _ _ (loK (nth (pln L) v.i).es k v.lo); rw [hn]; show StK w1 _ _ (loK (nth L v.i).es k v.lo); first | (rw [loK_pos hk0]; exact StK.new (h1.rd_blk (Mc := []) aPk rfl (by simp))) | (rw [loK_no hk0]; exact hlo.later h1)) (by show StK w1 _ _ (hiK (nth (pln L) v.i).es k v.hi); rw [hn]; show StK w1 _ _ (hiK (nth L v.i).es k v.hi); first | (rw [hiK_pos hk9]; exact StK.new (h1.rd_blk (Mc := []) aPk rfl (by simp))) | (rw [hiK_no hk9]; exact hhi.later h1)) (by simp only [List.length_cons]; omega))) (by kernel_rfl) (by kernel_rfl) (by kernel_rfl) rfl ?_
                refine dP 11 ?_
                refine dP 12 ?_
                refine dP 13 ?_
                refine dP 14 ?_
                refine dP 15 ?_
                refine d_nil (by kernel_rfl) (fun w h => by first | exact h | exact h.ent aEt) ?_
                refine s_seq ?_
                refine s_region ?_
                refine oP ?_
                refine oP ?_
                refine o_nil ?_
                refine s_cond rfl (fun h57 => ?_) (fun h57 => ?_)
                · try simp only [Bool.not_eq_true', decide_eq_false_iff_not] at h57
                  have hbad : shpF (⟨(j : Int), mo, rm, pln L⟩ : Tre) deep (vis (pln L) (f + 1) v) = shpF (⟨(j : Int), mo, rm, pln L⟩ : Tre) deep (vis (pln L) f (kidV (pln L) v k)) := by rw [visK_all, hn]; obtain ⟨B9, hB9⟩ := visK_more (pln L) f v (show k + 1 ≤ (nth L v.i).pl.cs.length by show k + 1 ≤ (nth L v.i).cs.length; omega); rw [hB9, visK_succ, List.append_assoc, shpF_app, if_pos hk3, shpF_app, if_neg h57]
                  refine s_seq ?_
                  refine s_region ?_
                  refine oP ?_
                  refine oP ?_
                  refine oP ?_
                  refine oP ?_
                  refine o_nil ?_
                  exact s_retv (rs := [.tmp 10, .tmp 11]) rfl (.tmp rfl (.tmp rfl (.nil))) (fun w' h' => ⟨by rw [hbad]; rfl, h'.below⟩)
                · try simp only [Bool.not_eq_false', decide_eq_true_eq] at h57
                  have hgood : (shpF (⟨(j : Int), mo, rm, pln L⟩ : Tre) deep (visK (pln L) f v (k + 1))).2 = 0 := by rw [visK_succ, shpF_app, if_pos hk3]; have hq := h57; omega
                  refine s_skip ?_
                  refine s_blk ?_
                  refine s_region ?_
                  refine oP ?_
                  refine oP ?_
                  try (refine o_slot (i64w (by omega) (by omega)) ?_)
                  refine oP ?_
                  refine o_nil ?_
                  exact s_backI (k + 1) (by omega) ⟨by omega, hgood⟩ aSx (fun w h => h.ent aEt)
              · try simp only [decide_eq_false_iff_not] at h55
                have hk9 : ¬ k < (nth L v.i).es.length := by have hq := h55; omega
                refine s_skip ?_
                refine s_seq ?_
                refine s_draw [] mixed ?_
                refine d_q 0 [] rfl (q_loadn rfl rfl sz_24 aPk rfl) (by kernel_rfl) (by kernel_rfl) (by kernel_rfl) rfl ?_
                refine d_p 1 rfl (p_fieldAddr rfl rfl fd_102_2 sz_30 rfl) (by kernel_rfl) rfl rfl ?_
                refine d_q 2 [] rfl (q_load rfl rfl sz_30 aPk rfl) (by kernel_rfl) (by kernel_rfl) (by kernel_rfl) rfl ?_
                refine dP 3 ?_
                refine d_p 4 rfl (p_indexAddr rfl rfl rfl sl_30 (k) (by omega) (by omega) (Rw.some (hs.cs hi) (by omega))) (by kernel_rfl) rfl rfl ?_
                refine d_q 5 [] rfl (q_load_old rfl rfl sz_3 (((hs.cs hi).rdj 0 (i := k) hkl rfl))) (by kernel_rfl) (by kernel_rfl) (by kernel_rfl) rfl ?_
                refine d_slot (show _ = Value.int .i64 ((kidV (pln L) v k).i : Int) from by rw [kidV, hn]; exact congrArg (Value.int .i64) (Int.toNat_of_nonneg (show 0 ≤ (nth L v.i).cs.getD k 0 by omega)).symm) ?_
                refine dP 6 ?_
                refine dP 7 ?_
                try (refine d_slot (i64w (by omega) (by omega)) ?_)
                refine dP 8 ?_
                refine dP 9 ?_
                refine d_q 10 [] rfl (q_call rfl fn_87 rfl (fun w1 h1 => ih w1 (kidV (pln L) v k) (v.i :: P) (lv - 1) _ _ _ _ _ _ (hs.later h1) hj hmo hT hB h0 hway2 (by simp only [kidV, List.length_cons]; omega) (by simp only [kidV]; omega) (kok_lo hT hi0 (by rw [hn]; show k ≤ (nth L v.i).es.length; omega) hko) (kok_hi hT hi0 hkp) (by show StK w1 _ _ (loK (nth (pln L) v.i).es k v.lo); rw [hn]; show StK w1 _ _ (loK (nth L v.i).es k v.lo); first | (rw [loK_pos hk0]; exact StK.new (h1.rd_blk (Mc := []) aPk rfl (by simp))) | (rw [loK_no hk0]; exact hlo.later h1)) (by show StK w1 _ _ (hiK (nth (pln L) v.i).es k v.hi); rw [hn]; show StK w1 _ _ (hiK (nth L v.i).es k v.hi); first | (rw [hiK_pos hk9]; exact StK.new (h1.rd_blk (Mc := []) aPk rfl (by simp))) | (rw [hiK_no hk9]; exact hhi.later h1)) (by simp only [List.length_cons]; omega))) (by kernel_rfl) (by kernel_rfl) (by kernel_rfl) rfl ?_
                refine dP 11 ?_
                refine dP 12 ?_
                refine dP 13 ?_
                refine dP 14 ?_
                refine dP 15 ?_
                refine d_nil (by kernel_rfl) (fun w h => by first | exact h | exact h.ent aEt) ?_
                refine s_seq ?_
                refine s_weaken (L' := [(1, _), (2, _), (3, _), (4, _), (5, _), (12, _), (13, _), (15, _), (18, _), (19, _)]) aSx (fun _ h => h) ?_
                refine s_region ?_
                refine oP ?_
                refine oP ?_
                refine o_nil ?_
                refine s_cond rfl (fun h58 => ?_) (fun h58 => ?_)
                · try simp only [Bool.not_eq_true', decide_eq_false_iff_not] at h58
                  have hbad : shpF (⟨(j : Int), mo, rm, pln L⟩ : Tre) deep (vis (pln L) (f + 1) v) = shpF (⟨(j : Int), mo, rm, pln L⟩ : Tre) deep (vis (pln L) f (kidV (pln L) v k)) := by rw [visK_all, hn]; obtain ⟨B9, hB9⟩ := visK_more (pln L) f v (show k + 1 ≤ (nth L v.i).pl.cs.length by show k + 1 ≤ (nth L v.i).cs.length; omega); rw [hB9, visK_succ, List.append_assoc, shpF_app, if_pos hk3, shpF_app, if_neg h58]
                  refine s_seq ?_
                  refine s_region ?_
                  refine oP ?_
                  refine oP ?_
                  refine oP ?_
                  refine oP ?_
                  refine o_nil ?_
                  exact s_retv (rs := [.tmp 10, .tmp 11]) rfl (.tmp rfl (.tmp rfl (.nil))) (fun w' h' => ⟨by rw [hbad]; rfl, h'.below⟩)
                · try simp only [Bool.not_eq_false', decide_eq_true_eq] at h58
                  have hgood : (shpF (⟨(j : Int), mo, rm, pln L⟩ : Tre) deep (visK (pln L) f v (k + 1))).2 = 0 := by rw [visK_succ, shpF_app, if_pos hk3]; have hq := h58; omega
                  refine s_skip ?_
                  refine s_blk ?_
                  refine s_region ?_
                  refine oP ?_
                  refine oP ?_
                  try (refine o_slot (i64w (by omega) (by omega)) ?_)
                  refine oP ?_
                  refine o_nil ?_
                  exact s_backI (k + 1) (by omega) ⟨by omega, hgood⟩ aSx (fun w h => h.ent aEt)
          · try simp only [decide_eq_false_iff_not] at h48
            obtain rfl : k = (nth L v.i).cs.length := by omega
            have hfin : shpF (⟨(j : Int), mo, rm, pln L⟩ : Tre) deep (vis (pln L) (f + 1) v) = (0, 0) := by rw [visK_all, hn]; exact shpF_0 hk3
            refine s_exit_to rfl ?_
            refine s_seq ?_
            refine s_region ?_
            refine oP ?_
            refine oP ?_
            refine o_nil ?_
            exact s_retv (rs := [.tmp 10, .tmp 11]) rfl (.tmp rfl (.tmp rfl (.nil))) (fun w' h' => ⟨by rw [hfin]; rfl, h'.below⟩)

theorem c87 (j : Nat) (mo rm : Int) (a : Option Addr) (cap : Nat) (L : List LNd) (deep : Int) : ∀ f, PlC j mo rm a cap L deep f
  | 0 => fun w v P lv pa qa pn pc qn qc hs hj hmo hT hB h0 hway hd hlv hko hkp hlo hhi hf => by
    have h1 := way_len hT (by rw [pln_len]; exact h0) hway
    rw [pln_len, List.length_cons] at h1
    omega
  | f + 1 => fun w v P lv pa qa pn pc qn qc hs hj hmo hT hB h0 hway hd hlv hko hkp hlo hhi hf => c87s w j mo rm a cap L deep v P lv pa qa pn pc qn qc f hs hj hmo hT hB h0 hway hd hlv hko hkp hlo hhi hf (c87 j mo rm a cap L deep f)

end Go.Proofs

/- Chapter 12: the check of a tree, as the reference makes it. Plain data. -/
namespace Gx
set_option linter.unusedSimpArgs false
set_option linter.unusedVariables false
set_option linter.unusedSectionVars false
open Go Go.RowKit
theorem treE_c {t : Tre} (h : ¬ colE12 t.co = 0) : treE t = (0, colE12 t.co) := by rw [treE_size (by rw [if_neg h]; exact h), if_neg h]
theorem treE_s {t : Tre} (h : colE12 t.co = 0) (h2 : ¬ sizE t.mo t.rm = 0) : treE t = (0, sizE t.mo t.rm) := by rw [treE_size (by rw [if_pos h]; exact h2), if_pos h]
theorem treE_l {t : Tre} (h : colE12 t.co = 0) (h2 : sizE t.mo t.rm = 0) (h3 : ¬ 0 < t.ns.length) : treE t = (0, 10) := by
  have e : lenE12 t.ns.length = 10 := if_neg h3
  rw [treE_len (by rw [if_pos h]; exact h2) (by rw [e]; decide), e]
theorem treE_g {t : Tre} (h : colE12 t.co = 0) (h2 : sizE t.mo t.rm = 0) (h3 : 0 < t.ns.length) (h4 : ¬ t.ns.length ≤ 120) : treE t = (0, 8) := by
  have e : lenE12 t.ns.length = 8 := by rw [lenE12, if_pos h3, if_neg h4]
  rw [treE_len (by rw [if_pos h]; exact h2) (by rw [e]; decide), e]
theorem treE_n {t : Tre} (h : colE12 t.co = 0) (h2 : sizE t.mo t.rm = 0) (h3 : 0 < t.ns.length) (h4 : t.ns.length ≤ 120) : treE t = if (nodsE t t.ns.length 0 []).2 = 0 then shapE t else nodsE t t.ns.length 0 [] := treE_nods (by rw [if_pos h]; exact h2) (by rw [lenE12, if_pos h3, if_pos h4])
theorem seen_nil (n : Nat) : zrow [Value.bool false] n = seenV n [] := by
  rw [zrow_one]
  apply List.ext_getElem?
  intro i
  by_cases hi : i < n
  · rw [seen_get hi, List.getElem?_replicate, if_pos hi]
    rfl
  · rw [List.getElem?_eq_none (by rw [List.length_replicate]; omega), List.getElem?_eq_none (by rw [seen_len]; omega)]
theorem open_mem {vs : List Vis} {k : Nat} : ((k : Nat) : Int) ∈ mkS vs [] ↔ k ∈ vs.map Vis.i := by
  rw [mkS_mem, List.mem_map]
  constructor
  · rintro ⟨v, hv, h⟩
    exact ⟨v, hv, by omega⟩
  · rintro ⟨v, hv, h⟩
    exact ⟨v, hv, by omega⟩
theorem deepT_le (ns : List Nd) : ∀ (f i : Nat), 0 ≤ deepT ns f i ∧ deepT ns f i ≤ f
  | 0, i => by rw [deepT]; omega
  | f + 1, i => by
    rw [deepT]
    split
    · omega
    · have := deepT_le ns f ((nth ns i).cs.getD 0 0).toNat
      omega
theorem deep_end {ns : List Nd} {f i : Nat} (h : (nth ns i).cs.length = 0) : deepT ns f i = 0 := by
  cases f with
  | zero => rfl
  | succ f => rw [deepT, if_pos h]
theorem deep_more {ns : List Nd} {f i : Nat} (h0 : 0 < f) (h : ¬ (nth ns i).cs.length = 0) : deepT ns f i = deepT ns (f - 1) ((nth ns i).cs.getD 0 0).toNat + 1 := by
  obtain ⟨g, rfl⟩ : ∃ g, f = g + 1 := ⟨f - 1, by omega⟩
  rw [deepT, if_neg h]
  rfl
end Gx

namespace Go.Proofs
open Go Go.RowKit Gx
set_option linter.unusedVariables false
set_option linter.unusedSimpArgs false
attribute [local irreducible] Go.Calls Gx.S Gx.O Gx.D Gx.OpP Gx.OpQ Gx.OpH

theorem fn_85 : isFn Tryz.prog 85 = true := by kernel_rfl
theorem fn_41 : isFn Tryz.prog 41 = true := by kernel_rfl


set_option maxRecDepth 20000 in
set_option maxHeartbeats 400000 in
theorem c41 (w : World) (co mo rm : Int) (a : Option Addr) (cap : Nat) (L : List LNd) (hs : Nt w [] a L) (hB : Bd (pln L)) (hkl : ∀ i, i < L.length → ∀ x ∈ (nth L i).es, x.key.length ≤ 1000000) : Calls Tryz.prog 41 #[.agg #[.int .i64 co, .int .i64 mo, .int .i64 rm, .slice a L.length cap]] w fun en w' => en = .returned (.tuple #[.int .i64 (treE (⟨co, mo, rm, pln L⟩ : Tre)).1, .int .i64 (treE (⟨co, mo, rm, pln L⟩ : Tre)).2]) ∧ Below w.heap.size w w' := by
  have hle := hB.len
  rw [pln_len] at hle
  have hes9 : ∀ i, i < L.length → (nth L i).es.length ≤ 1000 := fun i hi => by have h9 := hB.es i (by rw [pln_len]; exact hi); rw [pln_nth hi] at h9; exact h9
  have hcs9 : ∀ i, i < L.length → (nth L i).cs.length ≤ 1000 := fun i hi => by have h9 := hB.cs i (by rw [pln_len]; exact hi); rw [pln_nth hi] at h9; exact h9
  refine enter (args := [_]) Tryz.func41 Tryz.ntmps41 rfl rfl (HS.refl w []) ?_
  refine s_seq ?_
  refine s_region ?_
  refine o_h (h_box rfl rfl) rfl (fun b1 _ => ?_)
  refine oP ?_
  refine oP ?_
  refine o_nil ?_
  refine s_seq ?_
  refine s_seq ?_
  refine s_region ?_
  refine o_p (p_fieldAddr rfl rfl fd_24_0 sz_3 rfl) rfl ?_
  refine o_q (q_load rfl rfl sz_3 aPk rfl) rfl ?_
  refine o_q (q_call rfl fn_30 rfl (fun w1 h1 => c30 w1 _)) rfl ?_
  refine oP ?_
  refine o_nil ?_
  refine s_seq ?_
  refine s_region ?_
  refine oP ?_
  refine oP ?_
  refine o_nil ?_
  refine s_cond rfl (fun h2 => ?_) (fun h2 => ?_)
  · try simp only [Bool.not_eq_true', decide_eq_false_iff_not] at h2
    have hz := treE_c (t := (⟨co, mo, rm, pln L⟩ : Tre)) h2
    refine s_seq ?_
    refine s_region ?_
    refine oP ?_
    refine oP ?_
    refine oP ?_
    refine o_nil ?_
    exact s_retv (rs := [.tmp 2, .tmp 3]) rfl (.tmp rfl (.tmp rfl (.nil))) (fun w' h' => ⟨by rw [hz]; rfl, h'.below⟩)
  · try simp only [Bool.not_eq_false', decide_eq_true_eq] at h2
    have hc0 : colE12 co = 0 := by have hq := h2; omega
    obtain ⟨j, rfl, hj⟩ := col_ok hc0
    refine s_skip ?_
    refine s_seq ?_
    refine s_seq ?_
    refine s_region ?_
    refine o_p (p_fieldAddr rfl rfl fd_24_1 sz_3 rfl) rfl ?_
    refine o_q (q_load rfl rfl sz_3 aPk rfl) rfl ?_
    refine o_p (p_fieldAddr rfl rfl fd_24_2 sz_3 rfl) rfl ?_
    refine o_q (q_load rfl rfl sz_3 aPk rfl) rfl ?_
    refine o_q (q_call rfl fn_31 rfl (fun w1 h1 => c31 w1 _ _)) rfl ?_
    refine oP ?_
    refine o_nil ?_
    refine s_seq ?_
    refine s_region ?_
    refine oP ?_
    refine oP ?_
    refine o_nil ?_
    refine s_cond rfl (fun h3 => ?_) (fun h3 => ?_)
    · try simp only [Bool.not_eq_true', decide_eq_false_iff_not] at h3
      have hz := treE_s (t := (⟨(j : Int), mo, rm, pln L⟩ : Tre)) hc0 h3
      refine s_seq ?_
      refine s_region ?_
      refine oP ?_
      refine oP ?_
      refine oP ?_
      refine o_nil ?_
      exact s_retv (rs := [.tmp 2, .tmp 3]) rfl (.tmp rfl (.tmp rfl (.nil))) (fun w' h' => ⟨by rw [hz]; rfl, h'.below⟩)
    · try simp only [Bool.not_eq_false', decide_eq_true_eq] at h3
      have hc1 : sizE mo rm = 0 := by have hq := h3; omega
      have hsz2 : (3 ≤ mo ∧ mo ≤ 8) ∧ (mo / 2 ≤ rm ∧ rm ≤ mo) := sizE_0 hc1
      have hTL : ((⟨(j : Int), mo, rm, pln L⟩ : Tre)).ns.length = L.length := pln_len L
      refine s_skip ?_
      refine s_seq ?_
      refine s_seq ?_
      refine s_region ?_
      refine o_p (p_fieldAddr rfl rfl fd_24_3 sz_22 rfl) rfl ?_
      refine o_q (q_load rfl rfl sz_22 aPk rfl) rfl ?_
      refine o_p (p_len_slice rfl rfl Tryz.underlying22) rfl ?_
      refine oP ?_
      refine o_nil ?_
      refine s_cond rfl (fun h4 => ?_) (fun h4 => ?_)
      · try simp only [decide_eq_true_eq] at h4
        have hz := treE_l (t := (⟨(j : Int), mo, rm, pln L⟩ : Tre)) hc0 hc1 (by rw [hTL]; have hq := h4; omega)
        refine s_seq ?_
        refine s_region ?_
        refine oP ?_
        refine oP ?_
        refine o_nil ?_
        exact s_retv (rs := [.tmp 2, .tmp 3]) rfl (.tmp rfl (.tmp rfl (.nil))) (fun w' h' => ⟨by rw [hz]; rfl, h'.below⟩)
      · try simp only [decide_eq_false_iff_not] at h4
        have h00 : 0 < L.length := by have hq := h4; omega
        refine s_skip ?_
        refine s_seq ?_
        refine s_seq ?_
        refine s_region ?_
        refine o_p (p_fieldAddr rfl rfl fd_24_3 sz_22 rfl) rfl ?_
        refine o_q (q_load rfl rfl sz_22 aPk rfl) rfl ?_
        refine o_p (p_len_slice rfl rfl Tryz.underlying22) rfl ?_
        refine oP ?_
        refine o_nil ?_
        refine s_cond rfl (fun h5 => ?_) (fun h5 => ?_)
        · try simp only [decide_eq_true_eq] at h5
          have hz := treE_g (t := (⟨(j : Int), mo, rm, pln L⟩ : Tre)) hc0 hc1 (by rw [hTL]; exact h00) (by rw [hTL]; have hq := h5; omega)
          refine s_seq ?_
          refine s_region ?_
          refine oP ?_
          refine oP ?_
          refine o_nil ?_
          exact s_retv (rs := [.tmp 2, .tmp 3]) rfl (.tmp rfl (.tmp rfl (.nil))) (fun w' h' => ⟨by rw [hz]; rfl, h'.below⟩)
        · try simp only [decide_eq_false_iff_not] at h5
          have h120 : L.length ≤ 120 := by have hq := h5; omega
          have hz := treE_n (t := (⟨(j : Int), mo, rm, pln L⟩ : Tre)) hc0 hc1 (by rw [hTL]; exact h00) (by rw [hTL]; exact h120)
          rw [hTL] at hz
          refine s_skip ?_
          refine s_seq ?_
          refine s_region ?_
          refine o_p (p_fieldAddr rfl rfl fd_24_3 sz_22 rfl) rfl ?_
          refine o_q (q_load rfl rfl sz_22 aPk rfl) rfl ?_
          refine o_p (p_len_slice rfl rfl Tryz.underlying22) rfl ?_
          refine o_h (h_make (n := L.length) rfl rfl rfl sl_140 zr_4 (by omega) (by omega)) rfl (fun b6 _ => ?_)
          refine o_class (fun w h => (show HS _ _ [.blk b6 4 L.length (seenV L.length []), .blk b1 24 4 [.int .i64 (j : Int), .int .i64 mo, .int .i64 rm, .slice a L.length cap]] w from by have h9 := h; rw [Nat.mul_one, seen_nil] at h9; exact h9.ent aEt)) ?_
          refine oP ?_
          refine o_nil ?_
          refine s_seq ?_
          refine s_seq ?_
          refine s_weaken (L' := [(1, _), (2, _), (3, _), (6, _)]) aSx (fun _ h => h) ?_
          refine s_region ?_
          refine oP ?_
          refine o_nil ?_
          refine s_block ?_
          refine s_loopI (α := Nat × List Int) [2, 3, 7, 8, 39, 40, 41, 42, 43, 44, 45, 46, 47, 48, 49, 50, 51, 52, 53] (fun x => [(7, .int .i64 (x.1 : Int))]) (fun x => HS w [] [.blk b6 4 L.length (seenV L.length x.2), .blk b1 24 4 [.int .i64 (j : Int), .int .i64 mo, .int .i64 rm, .slice a L.length cap]]) (fun x => x.1 ≤ L.length ∧ (nodsE (⟨(j : Int), mo, rm, pln L⟩ : Tre) L.length 0 []) = nodsE (⟨(j : Int), mo, rm, pln L⟩ : Tre) (L.length - x.1) x.1 x.2) (fun x => L.length - x.1) (0, []) ⟨Nat.zero_le _, rfl⟩ aSx (fun w h => h.ent aEt) (fun ⟨k, S9⟩ hx => ?_)
          dsimp only
          obtain ⟨hk1, hk3⟩ := hx
          simp only [] at hk1 hk3
          refine s_seq ?_
          refine s_seq ?_
          refine s_region ?_
          refine oP ?_
          refine o_p (p_fieldAddr rfl rfl fd_24_3 sz_22 rfl) rfl ?_
          refine o_q (q_load rfl rfl sz_22 aPk rfl) rfl ?_
          refine o_p (p_len_slice rfl rfl Tryz.underlying22) rfl ?_
          refine oP ?_
          refine o_nil ?_
          refine s_cond rfl (fun h7 => ?_) (fun h7 => ?_)
          · try simp only [decide_eq_true_eq] at h7
            have hkl9 : k < L.length := by omega
            have hst := nodsE_step (t := (⟨(j : Int), mo, rm, pln L⟩ : Tre)) (k := k) (seen := S9) (by rw [hTL]; exact hkl9)
            rw [hTL] at hst
            refine s_skip ?_
            refine s_seq ?_
            refine s_block ?_
            refine s_seq ?_
            refine s_region ?_
            refine o_q (q_loadn rfl rfl sz_24 aPk rfl) rfl ?_
            refine oP ?_
            refine oP ?_
            refine o_h (h_callF (Cs := [.blk b6 4 L.length (seenV L.length S9)]) rfl fn_85 rfl aPs (fun w1 h1 hf => c85 w1 j mo rm a cap L k b6 L.length L.length S9 hf ((hs.keep h1).mono (fps_pick aPs)) hj hkl9 (by omega) (hes9 _ hkl9) (hcs9 _ hkl9) (hkl _ hkl9))) rfl (fun _ _ => ?_)
            refine oP ?_
            refine o_nil ?_
            refine s_seq ?_
            refine s_region ?_
            refine oP ?_
            refine oP ?_
            refine o_nil ?_
            refine s_cond rfl (fun h8 => ?_) (fun h8 => ?_)
            · try simp only [Bool.not_eq_true', decide_eq_false_iff_not] at h8
              have hz3 : (nodsE (⟨(j : Int), mo, rm, pln L⟩ : Tre) L.length 0 []) = ((k : Int), (nodE (⟨(j : Int), mo, rm, pln L⟩ : Tre) k S9).1) := by rw [hk3, hst, if_neg h8]
              rw [hz3, if_neg (show ¬ (((k : Int), (nodE (⟨(j : Int), mo, rm, pln L⟩ : Tre) k S9).1) : Int × Int).2 = 0 from h8)] at hz
              refine s_seq ?_
              refine s_region ?_
              refine oP ?_
              refine oP ?_
              refine oP ?_
              refine oP ?_
              refine o_nil ?_
              exact s_retv (rs := [.tmp 2, .tmp 3]) rfl (.tmp rfl (.tmp rfl (.nil))) (fun w' h' => ⟨by rw [hz]; rfl, h'.below⟩)
            · try simp only [Bool.not_eq_false', decide_eq_true_eq] at h8
              have hz3 : nodsE (⟨(j : Int), mo, rm, pln L⟩ : Tre) (L.length - k) k S9 = nodsE (⟨(j : Int), mo, rm, pln L⟩ : Tre) (L.length - (k + 1)) (k + 1) (nodE (⟨(j : Int), mo, rm, pln L⟩ : Tre) k S9).2 := by rw [hst, if_pos (by have hq := h8; omega)]
              refine s_skip ?_
              refine s_blk ?_
              refine s_region ?_
              refine oP ?_
              refine oP ?_
              try (refine o_slot (i64w (by omega) (by omega)) ?_)
              refine oP ?_
              refine o_nil ?_
              exact s_backI (k + 1, (nodE (⟨(j : Int), mo, rm, pln L⟩ : Tre) k S9).2) (by (try simp only []); omega) ⟨by (try simp only []); omega, by simp only []; rw [hk3, hz3]⟩ aSx (fun w h => h.ent aEt)
          · try simp only [decide_eq_false_iff_not] at h7
            have hnd : (nodsE (⟨(j : Int), mo, rm, pln L⟩ : Tre) L.length 0 []) = (0, 0) := by rw [hk3, show L.length - k = 0 by omega]; rfl
            rw [hnd, if_pos rfl] at hz
            have hT : TOk (j : Int) (pln L) := tok_of (t := (⟨(j : Int), mo, rm, pln L⟩ : Tre)) (by show (nodsE (⟨(j : Int), mo, rm, pln L⟩ : Tre) (pln L).length 0 []).2 = 0; rw [pln_len, hnd])
            have hvis : vis (pln L) L.length root0 = visT (pln L) := by unfold visT; rw [pln_len]
            refine s_exit_to rfl ?_
            refine s_seq ?_
            refine s_region ?_
            refine o_p (p_fieldAddr rfl rfl fd_24_3 sz_22 rfl) rfl ?_
            refine o_q (q_load rfl rfl sz_22 aPk rfl) rfl ?_
            refine o_p (p_len_slice rfl rfl Tryz.underlying22) rfl ?_
            refine o_h (h_make (n := L.length) rfl rfl rfl sl_140 zr_4 (by omega) (by omega)) rfl (fun b9 _ => ?_)
            refine o_class (fun w h => (show HS _ _ [.blk b9 4 L.length (seenV L.length []), .blk b1 24 4 [.int .i64 (j : Int), .int .i64 mo, .int .i64 rm, .slice a L.length cap]] w from by have h9 := h; rw [Nat.mul_one, seen_nil] at h9; exact h9.ent aEt)) ?_
            refine oP ?_
            refine o_nil ?_
            refine s_seq ?_
            refine s_region ?_
            refine o_q (q_loadn rfl rfl sz_24 aPk rfl) rfl ?_
            refine oP ?_
            refine o_h (h_callF (Cs := [.blk b9 4 L.length (seenV L.length [])]) rfl fn_86 rfl aPs (fun w1 h1 hf => c86 j mo rm a cap L b9 L.length L.length L.length w1 [] root0 [] hf ((hs.keep h1).mono (fps_pick aPs)) hT hB h00 rfl (by simp))) rfl (fun _ _ => ?_)
            refine o_nil ?_
            refine s_seq ?_
            refine s_seq ?_
            refine s_region ?_
            refine oP ?_
            refine o_nil ?_
            refine s_block ?_
            refine s_weaken (L' := [(1, _), (6, _), (7, _), (9, _), (10, _)]) aSx (fun _ h => h) ?_
            refine s_loopI (α := Nat) [2, 3, 10, 61, 62, 63, 64, 65, 66, 67, 68, 69, 70, 71, 72, 73, 74, 75, 76, 77, 78, 79, 80, 81] (fun k => [(10, .int .i64 (k : Int))]) (fun _ => HS w [] [.blk b9 4 L.length (seenV L.length (mkS (vis (pln L) L.length root0) [])), .blk b1 24 4 [.int .i64 (j : Int), .int .i64 mo, .int .i64 rm, .slice a L.length cap]]) (fun k => k ≤ L.length ∧ opnF (pln L) ((visT (pln L)).map Vis.i) L.length 0 = opnF (pln L) ((visT (pln L)).map Vis.i) (L.length - k) k) (fun k => L.length - k) 0 ⟨Nat.zero_le _, rfl⟩ aSx (fun w h => h.ent aEt) (fun k hx => ?_)
            obtain ⟨hk1, hk2⟩ := hx
            refine s_seq ?_
            refine s_seq ?_
            refine s_region ?_
            refine oP ?_
            refine o_p (p_fieldAddr rfl rfl fd_24_3 sz_22 rfl) rfl ?_
            refine o_q (q_load rfl rfl sz_22 aPk rfl) rfl ?_
            refine o_p (p_len_slice rfl rfl Tryz.underlying22) rfl ?_
            refine oP ?_
            refine o_nil ?_
            refine s_cond rfl (fun h10 => ?_) (fun h10 => ?_)
            · try simp only [decide_eq_true_eq] at h10
              have hkl9 : k < L.length := by omega
              have hst := opnF_step (ns := pln L) (below := ((visT (pln L)).map Vis.i)) (k := k) (by rw [pln_len]; exact hkl9)
              rw [pln_len, pln_nth hkl9] at hst
              refine s_skip ?_
              refine s_seq ?_
              refine s_block ?_
              refine s_seq ?_
              refine s_region ?_
              refine o_p (p_fieldAddr rfl rfl fd_24_3 sz_22 rfl) rfl ?_
              refine o_q (q_load rfl rfl sz_22 aPk rfl) rfl ?_
              refine oP ?_
              refine o_p (p_indexAddr rfl rfl rfl sl_22 (k) (by omega) (by omega) (Rw.some hs.1 (by omega))) rfl ?_
              refine o_p (p_fieldAddr rfl rfl fd_102_0 sz_4 rfl) rfl ?_
              refine o_q (q_load_old rfl rfl sz_4 ((hs.1.rdj 0 hkl9 rfl))) rfl ?_
              refine oP ?_
              refine o_and 6 74 80 _ _ rfl
                (by
                  intro hg11
                  have hs12 := hg11; skip
                  refine o_on 74 _ rfl rfl hg11 ?_
                  refine oP ?_
                  refine o_on 74 _ rfl rfl hg11 ?_
                  refine oP ?_
                  refine o_on 74 _ rfl rfl hg11 ?_
                  refine o_p (p_indexAddr rfl rfl rfl sl_140 (k) (by omega) (by omega) rfl) rfl ?_
                  refine o_slot (show _ = Value.pointer (some ⟨b9, k, none⟩) from by rw [Nat.zero_add, Nat.mul_one]) ?_
                  refine o_on 74 _ rfl rfl hg11 ?_
                  refine o_q (q_load_at rfl rfl sz_4 (fun w h => h.rd_blk (Mc := []) aPk (seen_get hkl9) (by simp))) rfl ?_
                  refine o_on 74 _ rfl rfl hg11 ?_
                  refine oP ?_
                  refine o_p (p_pickt rfl rfl hg11 rfl) rfl ?_
                  refine o_nil ?_
                  exact s_joinN 6 80 _ rfl rfl rfl (fun w h => by first | exact h | exact h.ent aEt))
                (by
                  intro hg13
                  have hs14 := hg13; skip
                  refine o_off 74 _ rfl rfl hg13 rfl ?_
                  refine o_off 74 _ rfl rfl hg13 rfl ?_
                  refine o_off 74 _ rfl rfl hg13 rfl ?_
                  refine o_off 74 _ rfl rfl hg13 rfl ?_
                  refine o_off 74 _ rfl rfl hg13 rfl ?_
                  refine o_p (p_pickf rfl rfl hg13 rfl) rfl ?_
                  refine o_nil ?_
                  exact s_joinN 6 80 _ rfl rfl rfl (fun w h => by first | exact h | exact h.ent aEt)) ?_
              refine o_nil ?_
              refine s_cond rfl (fun h15 => ?_) (fun h15 => ?_)
              · try simp only [Bool.and_eq_true, Bool.not_eq_true', decide_eq_false_iff_not] at h15
                have hz7 : (nth L k).pl.us = true ∧ k ∉ ((visT (pln L)).map Vis.i) := by have hq := h15; rw [← open_mem, ← hvis]; simp only [LNd.pl]; simpa using hq
                have hz8 := hz.trans (shapE_some (t := (⟨(j : Int), mo, rm, pln L⟩ : Tre)) (i := k) (show opnF (pln L) _ (pln L).length 0 = some k from by rw [pln_len, hk2, hst, if_pos hz7]))
                refine s_seq ?_
                refine s_region ?_
                refine oP ?_
                refine oP ?_
                refine oP ?_
                refine o_nil ?_
                exact s_retv (rs := [.tmp 2, .tmp 3]) rfl (.tmp rfl (.tmp rfl (.nil))) (fun w' h' => ⟨by rw [hz8]; rfl, h'.below⟩)
              · try simp only [Bool.and_eq_false_iff, Bool.not_eq_false', decide_eq_true_eq] at h15
                have hz7 : ¬ ((nth L k).pl.us = true ∧ k ∉ ((visT (pln L)).map Vis.i)) := by have hq := h15; rw [← open_mem, ← hvis]; simp only [LNd.pl]; intro h9; exact hq.elim (fun h8 => by rw [h8] at h9; cases h9.1) (fun h8 => h9.2 h8)
                refine s_skip ?_
                refine s_blk ?_
                refine s_region ?_
                refine oP ?_
                refine oP ?_
                try (refine o_slot (i64w (by omega) (by omega)) ?_)
                refine oP ?_
                refine o_nil ?_
                exact s_backI (k + 1) (by omega) ⟨by omega, by rw [hk2, hst, if_neg hz7]⟩ aSx (fun w h => h.ent aEt)
            · try simp only [decide_eq_false_iff_not] at h10
              have hnone : opnF (pln L) ((visT (pln L)).map Vis.i) L.length 0 = none := by rw [hk2, show L.length - k = 0 by omega]; rfl
              have hz8 := hz.trans (shapE_none (t := (⟨(j : Int), mo, rm, pln L⟩ : Tre)) (show opnF (pln L) _ (pln L).length 0 = none from by rw [pln_len]; exact hnone))
              refine s_exit_to rfl ?_
              refine s_seq ?_
              refine s_region ?_
              refine oP ?_
              refine o_nil ?_
              refine s_seq ?_
              refine s_seq ?_
              refine s_region ?_
              refine oP ?_
              refine o_nil ?_
              refine s_block ?_
              refine s_loopI (α := Nat × Nat × List Nat) [11, 12, 82, 83, 84, 85, 86, 87, 88, 89, 90, 91, 92, 93, 94, 95, 96, 97, 98, 99] (fun y => [(11, .int .i64 (y.1 : Int)), (12, .int .i64 (y.2.1 : Int))]) (fun _ => HS w [] [.blk b1 24 4 [.int .i64 (j : Int), .int .i64 mo, .int .i64 rm, .slice a L.length cap]]) (fun y => Gx.Way (pln L) (y.2.1 :: y.2.2) ∧ y.2.2.length = y.1 ∧ deepT (pln L) L.length 0 = (y.1 : Int) + deepT (pln L) (L.length - y.1) y.2.1) (fun y => L.length - y.1) (0, 0, []) ⟨rfl, rfl, by simp⟩ aSx (fun w h => h.ent aEt) (fun ⟨d, i, P⟩ hx => ?_)
              dsimp only
              obtain ⟨hway, hpl, hdp⟩ := hx
              simp only [] at hway hpl hdp
              have hil0 := way_lt hT (by rw [pln_len]; exact h00) hway i (List.mem_cons_self ..)
              have hil : i < L.length := by rw [pln_len] at hil0; exact hil0
              have hnI := pln_nth hil
              have hwl := way_len hT (by rw [pln_len]; exact h00) hway
              rw [pln_len, List.length_cons] at hwl
              have hcl := hcs9 i hil
              refine s_seq ?_
              refine s_seq ?_
              refine s_region ?_
              refine o_p (p_fieldAddr rfl rfl fd_24_3 sz_22 rfl) rfl ?_
              refine o_q (q_load rfl rfl sz_22 aPk rfl) rfl ?_
              refine oP ?_
              refine o_p (p_indexAddr rfl rfl rfl sl_22 (i) (by omega) (by omega) (Rw.some hs.1 (by omega))) rfl ?_
              refine o_p (p_fieldAddr rfl rfl fd_102_2 sz_30 rfl) rfl ?_
              refine o_q (q_load_old rfl rfl sz_30 ((hs.1.rdj 2 hil rfl))) rfl ?_
              refine o_p (p_len_slice rfl rfl Tryz.underlying30) rfl ?_
              refine oP ?_
              refine o_nil ?_
              refine s_cond rfl (fun h16 => ?_) (fun h16 => ?_)
              · try simp only [decide_eq_true_eq] at h16
                have hcl0 : 0 < (nth L i).cs.length := by have hq := h16; omega
                have hkid := kid_in hT (by rw [pln_len]; exact hil) (i := i) (k := 0) (by rw [hnI]; exact hcl0)
                rw [hnI, pln_len] at hkid
                simp only [LNd.pl] at hkid
                have hway2 := way_kid hway (by rw [pln_len]; exact hil) (k := 0) (by rw [hnI]; exact hcl0) (by rw [hnI]; simp only [LNd.pl]; omega)
                rw [hnI] at hway2
                have hwl2 := way_len hT (by rw [pln_len]; exact h00) hway2
                rw [pln_len, List.length_cons, List.length_cons] at hwl2
                have hdm := deep_more (ns := pln L) (f := L.length - d) (i := i) (by omega) (by rw [hnI]; show ¬ (nth L i).cs.length = 0; omega)
                rw [hnI] at hdm
                refine s_skip ?_
                refine s_seq ?_
                refine s_block ?_
                refine s_region ?_
                refine o_p (p_fieldAddr rfl rfl fd_24_3 sz_22 rfl) rfl ?_
                refine o_q (q_load rfl rfl sz_22 aPk rfl) rfl ?_
                refine oP ?_
                refine o_p (p_indexAddr rfl rfl rfl sl_22 (i) (by omega) (by omega) (Rw.some hs.1 (by omega))) rfl ?_
                refine o_p (p_fieldAddr rfl rfl fd_102_2 sz_30 rfl) rfl ?_
                refine o_q (q_load_old rfl rfl sz_30 ((hs.1.rdj 2 hil rfl))) rfl ?_
                refine o_p (p_indexAddr rfl rfl rfl sl_30 (0) (by omega) (by omega) (Rw.some (hs.cs hil) (by omega))) rfl ?_
                refine o_q (q_load_old rfl rfl sz_3 (((hs.cs hil).rdj 0 (i := 0) (by omega) rfl))) rfl ?_
                refine o_slot (show _ = Value.int .i64 (((nth L i).cs.getD 0 0).toNat : Int) from congrArg (Value.int .i64) (Int.toNat_of_nonneg (show 0 ≤ (nth L i).cs.getD 0 0 by omega)).symm) ?_
                refine oP ?_
                refine o_nil ?_
                refine s_blk ?_
                refine s_region ?_
                refine oP ?_
                refine oP ?_
                try (refine o_slot (i64w (by omega) (by omega)) ?_)
                refine oP ?_
                refine o_nil ?_
                exact s_backI (d + 1, ((nth L i).cs.getD 0 0).toNat, i :: P) (by (try simp only []); omega) ⟨hway2, by simp [hpl], by simp only [] at *; rw [show L.length - (d + 1) = L.length - d - 1 by omega]; have h9 : (nth L i).pl.cs = (nth L i).cs := rfl; rw [h9] at hdm; omega⟩ aSx (fun w h => h.ent aEt)
              · try simp only [decide_eq_false_iff_not] at h16
                have hde := deep_end (ns := pln L) (f := L.length - d) (i := i) (by rw [hnI]; show (nth L i).cs.length = 0; have hq := h16; omega)
                rw [hde, Int.add_zero] at hdp
                have hdl := deepT_le (pln L) L.length 0
                refine s_exit_to rfl ?_
                refine s_seq ?_
                refine s_region ?_
                refine o_q (q_loadn rfl rfl sz_24 aPk rfl) rfl ?_
                refine oP ?_
                refine o_q (q_call rfl fn_87 rfl (fun w1 h1 => c87 j mo rm a cap L (d : Int) L.length w1 root0 [] (d : Int) none none 0 0 0 0 (hs.later h1) hj (by omega) hT hB h00 rfl rfl (by show (d : Int) = d + 1 - 1; omega) (fun _ h => by cases h) (fun _ h => by cases h) rfl rfl (by simp))) rfl ?_
                refine oP ?_
                refine oP ?_
                refine oP ?_
                refine oP ?_
                refine o_nil ?_
                exact s_retv (rs := [.tmp 2, .tmp 3]) rfl (.tmp rfl (.tmp rfl (.nil))) (fun w' h' => ⟨by rw [hz8, show deepT ((⟨(j : Int), mo, rm, pln L⟩ : Tre)).ns ((⟨(j : Int), mo, rm, pln L⟩ : Tre)).ns.length 0 = (d : Int) from by rw [hTL]; exact hdp, show visT ((⟨(j : Int), mo, rm, pln L⟩ : Tre)).ns = vis (pln L) L.length root0 from hvis.symm]; rfl, h'.below⟩)

set_option maxRecDepth 20000 in
theorem c18 (w : World) (co mo rm : Int) (a : Option Addr) (cap : Nat) (L : List LNd) (hs : Nt w [] a L) (hB : Bd (pln L)) (hkl : ∀ i, i < L.length → ∀ x ∈ (nth L i).es, x.key.length ≤ 1000000) : Calls Tryz.prog 18 #[.agg #[.int .i64 co, .int .i64 mo, .int .i64 rm, .slice a L.length cap]] w fun en w' => en = .returned (.int .i64 (treE (⟨co, mo, rm, pln L⟩ : Tre)).2) ∧ Below w.heap.size w w' := by
  refine enter (args := [_]) Tryz.func18 Tryz.ntmps18 rfl rfl (HS.refl w []) ?_
  refine s_seq ?_
  refine s_region ?_
  refine o_h (h_box rfl rfl) rfl (fun b1 _ => ?_)
  refine oP ?_
  refine o_nil ?_
  refine s_seq ?_
  refine s_region ?_
  refine o_q (q_loadn rfl rfl sz_24 aPk rfl) rfl ?_
  refine o_q (q_call rfl fn_41 rfl (fun w1 h1 => c41 w1 co mo rm a cap L (hs.later h1) hB hkl)) rfl ?_
  refine oP ?_
  refine oP ?_
  refine oP ?_
  refine oP ?_
  refine oP ?_
  refine o_nil ?_
  refine s_seq ?_
  refine s_region ?_
  refine oP ?_
  refine oP ?_
  refine o_nil ?_
  exact s_retv (rs := [.tmp 2]) rfl (.tmp rfl (.nil)) (fun w' h' => ⟨by rfl, h'.below⟩)

end Go.Proofs

/- Chapter 12: small trees; the end of a way. Plain data. -/
namespace Gx
set_option linter.unusedSimpArgs false
set_option linter.unusedVariables false
set_option linter.unusedSectionVars false
open Go Go.RowKit
def tslimB (x : TEnt) : Bool := decide (x.key.length ≤ 44 ∧ x.val.length ≤ 70)
def tshortB (es : List TEnt) : Bool := es.all tslimB
def tfewN (n : Nd) : Bool := decide (n.es.length ≤ 10 ∧ n.cs.length ≤ 11) && tshortB n.es
def tfewB (ns : List Nd) : Bool := decide (ns.length ≤ 122 ∧ ¬ (60 < ns.length ∧ ns.length ≤ 120)) && ns.all tfewN
theorem tfewN_t {n : Nd} (h1 : n.es.length ≤ 10) (h2 : n.cs.length ≤ 11) (h3 : tshortB n.es = true) : tfewN n = true := by
  rw [tfewN, decide_eq_true (And.intro h1 h2), h3]
  rfl
theorem tfewN_f {n : Nd} (h : (10 < n.es.length ∨ 11 < n.cs.length) ∨ tshortB n.es = false) : ¬ tfewN n = true := fun h9 => by
  rw [tfewN, Bool.and_eq_true, decide_eq_true_eq] at h9
  rcases h with h | h
  · omega
  · rw [h] at h9
    cases h9.2
theorem tshortB_t {es : List TEnt} (h : ∀ q, q < es.length → tslimB (nth es q) = true) : tshortB es = true := by
  refine List.all_eq_true.2 fun x hx => ?_
  obtain ⟨q, hq, e⟩ := List.getElem_of_mem hx
  have e2 : nth es q = x := nth_eq (by rw [List.getElem?_eq_getElem hq, e])
  rw [← e2]
  exact h q hq
theorem tshortB_f {es : List TEnt} {k : Nat} (hk : k < es.length) (h : ¬ tslimB (nth es k) = true) : tshortB es = false := by
  cases e : tshortB es
  · rfl
  · exact absurd (List.all_eq_true.1 e _ (mem_nth hk)) h
theorem tfewB_t {ns : List Nd} (h0 : ns.length ≤ 122 ∧ ¬ (60 < ns.length ∧ ns.length ≤ 120)) (h : ∀ q, q < ns.length → tfewN (nth ns q) = true) : tfewB ns = true := by
  rw [tfewB, decide_eq_true h0, Bool.true_and]
  refine List.all_eq_true.2 fun x hx => ?_
  obtain ⟨q, hq, e⟩ := List.getElem_of_mem hx
  have e2 : nth ns q = x := nth_eq (by rw [List.getElem?_eq_getElem hq, e])
  rw [← e2]
  exact h q hq
theorem tfewB_f {ns : List Nd} {k : Nat} (hk : k < ns.length) (h : ¬ tfewN (nth ns k) = true) : tfewB ns = false := by
  cases e : tfewB ns
  · rfl
  · rw [tfewB, Bool.and_eq_true] at e
    exact absurd (List.all_eq_true.1 e.2 _ (mem_nth hk)) h
theorem tfewB_n {ns : List Nd} (h : ¬ (ns.length ≤ 122 ∧ ¬ (60 < ns.length ∧ ns.length ≤ 120))) : tfewB ns = false := by
  rw [tfewB, decide_eq_false h, Bool.false_and]
theorem tfew_len {ns : List Nd} (h : tfewB ns = true) : ns.length ≤ 122 := by
  rw [tfewB, Bool.and_eq_true, decide_eq_true_eq] at h
  exact h.1.1
theorem tfew_nd {ns : List Nd} (h : tfewB ns = true) {k : Nat} (hk : k < ns.length) : (nth ns k).es.length ≤ 10 ∧ (nth ns k).cs.length ≤ 11 ∧ ∀ x ∈ (nth ns k).es, x.key.length ≤ 44 ∧ x.val.length ≤ 70 := by
  rw [tfewB, Bool.and_eq_true] at h
  have h2 := List.all_eq_true.1 h.2 _ (mem_nth hk)
  rw [tfewN, Bool.and_eq_true, decide_eq_true_eq] at h2
  refine ⟨h2.1.1, h2.1.2, fun x hx => ?_⟩
  have h3 := List.all_eq_true.1 h2.2 _ hx
  rw [tslimB, decide_eq_true_eq] at h3
  exact h3
theorem tfew_bd {ns : List Nd} (h : tfewB ns = true) : Bd ns where
  len := Nat.le_trans (tfew_len h) (by decide)
  es i hi := Nat.le_trans (tfew_nd h hi).1 (by decide)
  cs i hi := Nat.le_trans (tfew_nd h hi).2.1 (by decide)
theorem tfew_sm {ns : List Nd} (h : tfewB ns = true) : Sm 1000 ns := fun k => by
  rcases Nat.lt_or_ge k ns.length with hk | hk
  · exact ⟨Nat.le_trans (tfew_nd h hk).1 (by decide), Nat.le_trans (tfew_nd h hk).2.1 (by decide)⟩
  · rw [nth_out hk]
    exact ⟨Nat.zero_le _, Nat.zero_le _⟩
theorem tfew_keys {L : List LNd} (h : tfewB (pln L) = true) : ∀ i, i < L.length → ∀ x ∈ (nth L i).es, x.key.length ≤ 1000000 := fun i hi x hx => by
  have h2 := (tfew_nd h (k := i) (by rw [pln_len]; exact hi)).2.2 x (by rw [pln_nth hi]; exact hx)
  omega
/-! ## Where a way ends -/
theorem last_cons {i : Nat} {P : List Nat} (h : 0 < P.length) : lastN (i :: P) = lastN P := by
  cases P with
  | nil => exact absurd h (Nat.lt_irrefl _)
  | cons p P =>
    unfold lastN
    rw [show (i :: p :: P).length - 1 = (p :: P).length - 1 + 1 by simp]
    rfl
theorem pth_end {co : Int} {ns : List Nd} (hT : TOk co ns) (h0 : 0 < ns.length) (key : List UInt8) : ∀ (f i : Nat) (P : List Nat), Way ns (i :: P) → P.length + f = ns.length → 0 < (pthN co ns key f i).1.length ∧ (pthN co ns key f i).1.length ≤ f ∧ lastN (pthN co ns key f i).1 < ns.length ∧ (pthN co ns key f i).2.1 = plc co (nth ns (lastN (pthN co ns key f i).1)).es key ∧ (pthN co ns key f i).2.2 = fnd co (nth ns (lastN (pthN co ns key f i).1)).es key
  | 0, i, P, hw, hf => by
    have := way_len hT h0 hw
    rw [List.length_cons] at this
    omega
  | f + 1, i, P, hw, hf => by
    by_cases h : fnd co (nth ns i).es key = true ∨ (nth ns i).cs.length = 0
    · rw [pthN, if_pos h]
      exact ⟨Nat.one_pos, Nat.le_add_left 1 f, way_lt hT h0 hw i (List.mem_cons_self ..), rfl, rfl⟩
    · rw [pthN, if_neg h]
      have hi := way_lt hT h0 hw i (List.mem_cons_self ..)
      have hc : (nth ns i).cs.length = (nth ns i).es.length + 1 := by
        rcases hT.shape i hi with h9 | h9
        · exact absurd (.inr h9) h
        · exact h9
      have hk : plc co (nth ns i).es key < (nth ns i).cs.length := by
        have := plc_le co key (nth ns i).es
        omega
      have hkid := kid_in hT hi hk
      have ih := pth_end hT h0 key f ((nth ns i).cs.getD (plc co (nth ns i).es key) 0).toNat (i :: P) (way_kid hw hi hk (by omega)) (by rw [List.length_cons]; omega)
      simp only []
      rw [last_cons ih.1]
      exact ⟨by rw [List.length_cons]; omega, by rw [List.length_cons]; omega, ih.2.2⟩
theorem path_end {co : Int} {ns : List Nd} (hT : TOk co ns) (h0 : 0 < ns.length) (key : List UInt8) : 0 < (pathN co ns key).1.length ∧ (pathN co ns key).1.length ≤ ns.length ∧ lastN (pathN co ns key).1 < ns.length ∧ (pathN co ns key).2.1 = plc co (nth ns (lastN (pathN co ns key).1)).es key ∧ (pathN co ns key).2.2 = fnd co (nth ns (lastN (pathN co ns key).1)).es key := pth_end hT h0 key ns.length 0 [] rfl (by simp)
theorem fnd_lt {co : Int} {es : List TEnt} {key : List UInt8} (h : fnd co es key = true) : plc co es key < es.length := by
  rw [fnd, Bool.and_eq_true, decide_eq_true_eq] at h
  exact h.1
/-- The entry at a key. -/
def entN (co : Int) (ns : List Nd) (key : List UInt8) : TEnt := nth (nth ns (lastN (pathN co ns key).1)).es (pathN co ns key).2.1
end Gx

namespace Go.Proofs
open Go Go.RowKit Gx
set_option linter.unusedVariables false
set_option linter.unusedSimpArgs false
attribute [local irreducible] Go.Calls Gx.S Gx.O Gx.D Gx.OpP Gx.OpQ Gx.OpH

theorem fn_15 : isFn Tryz.prog 15 = true := by kernel_rfl
theorem fn_43 : isFn Tryz.prog 43 = true := by kernel_rfl


set_option maxRecDepth 20000 in
theorem c15 (w : World) (x : TEnt) : Calls Tryz.prog 15 #[.agg #[.string (bs x.key), .string (bs x.val)]] w fun en w' => en = .returned (.bool (tslimB x)) ∧ Below w.heap.size w w' := by
  refine enter (args := [_]) Tryz.func15 Tryz.ntmps15 rfl rfl (HS.refl w []) ?_
  refine s_seq ?_
  refine s_region ?_
  refine o_h (h_box rfl rfl) rfl (fun b1 _ => ?_)
  refine oP ?_
  refine o_nil ?_
  refine s_seq ?_
  refine s_region ?_
  refine o_p (p_fieldAddr rfl rfl fd_26_0 sz_9 rfl) rfl ?_
  refine o_q (q_load rfl rfl sz_9 aPk rfl) rfl ?_
  refine o_p (p_len_str rfl rfl Tryz.underlying9) rfl ?_
  refine oP ?_
  refine oP ?_
  refine o_and 5 7 12 _ _ rfl
    (by
      intro hg2
      have hs3 := hg2; try simp only [decide_eq_true_eq] at hs3
      refine o_on 7 _ rfl rfl hg2 ?_
      refine o_p (p_fieldAddr rfl rfl fd_26_1 sz_9 rfl) rfl ?_
      refine o_on 7 _ rfl rfl hg2 ?_
      refine o_q (q_load rfl rfl sz_9 aPk rfl) rfl ?_
      refine o_on 7 _ rfl rfl hg2 ?_
      refine o_p (p_len_str rfl rfl Tryz.underlying9) rfl ?_
      refine o_on 7 _ rfl rfl hg2 ?_
      refine oP ?_
      refine o_p (p_pickt rfl rfl hg2 rfl) rfl ?_
      refine o_nil ?_
      exact s_joinN 5 12 _ rfl rfl rfl (fun w h => by first | exact h | exact h.ent aEt))
    (by
      intro hg4
      have hs5 := hg4; try simp only [decide_eq_false_iff_not] at hs5
      refine o_off 7 _ rfl rfl hg4 rfl ?_
      refine o_off 7 _ rfl rfl hg4 rfl ?_
      refine o_off 7 _ rfl rfl hg4 rfl ?_
      refine o_off 7 _ rfl rfl hg4 rfl ?_
      refine o_p (p_pickf rfl rfl hg4 rfl) rfl ?_
      refine o_nil ?_
      exact s_joinN 5 12 _ rfl rfl rfl (fun w h => by first | exact h | exact h.ent aEt)) ?_
  refine oP ?_
  refine o_nil ?_
  exact s_retv (rs := [.tmp 2]) rfl (.tmp rfl (.nil)) (fun w' h' => ⟨by simp only [retV, tslimB, Bool.decide_and]; congr 3 <;> exact decide_eq_decide.2 (by omega), h'.below⟩)

set_option maxRecDepth 20000 in
theorem c43 (w : World) (a : Option Addr) (cap : Nat) (l : List TEnt) (hs : Rw TEnt.vals 2 w [] a l) (hl : l.length ≤ 1000) : Calls Tryz.prog 43 #[.slice a l.length cap] w fun en w' => en = .returned (.bool (tshortB l)) ∧ Below w.heap.size w w' := by
  refine enter (args := [_]) Tryz.func43 Tryz.ntmps43 rfl rfl (HS.refl w []) ?_
  refine s_seq ?_
  refine s_region ?_
  refine oP ?_
  refine o_nil ?_
  refine s_seq ?_
  refine s_seq ?_
  refine s_region ?_
  refine oP ?_
  refine o_nil ?_
  refine s_block ?_
  refine s_loopI (α := Nat) [2, 3, 4, 5, 6, 7, 8, 9, 10, 11, 12, 13, 14, 15] (fun k => [(3, .int .i64 (k : Int))]) (fun _ => HS w [] []) (fun k => k ≤ l.length ∧ ∀ q, q < k → tslimB (nth l q) = true) (fun k => l.length - k) 0 ⟨Nat.zero_le _, fun q h => absurd h (Nat.not_lt_zero q)⟩ aSx (fun w h => h.ent aEt) (fun k hx => ?_)
  obtain ⟨hk1, hk3⟩ := hx
  refine s_seq ?_
  refine s_seq ?_
  refine s_region ?_
  refine oP ?_
  refine oP ?_
  refine o_p (p_len_slice rfl rfl Tryz.underlying77) rfl ?_
  refine oP ?_
  refine o_nil ?_
  refine s_cond rfl (fun h1 => ?_) (fun h1 => ?_)
  · try simp only [decide_eq_true_eq] at h1
    have hk5 : k < l.length := by omega
    refine s_skip ?_
    refine s_seq ?_
    refine s_block ?_
    refine s_seq ?_
    refine s_region ?_
    refine oP ?_
    refine oP ?_
    refine o_p (p_indexAddr rfl rfl rfl sl_77 (k) (by omega) (by omega) (Rw.some hs (by omega))) rfl ?_
    refine o_q (q_load_oldn _ rfl rfl sz_26 rfl (Rw.rd hs hk5)) rfl ?_
    refine o_q (q_call rfl fn_15 rfl (fun w1 h1 => c15 w1 (nth l k))) rfl ?_
    refine oP ?_
    refine o_nil ?_
    refine s_cond rfl (fun h2 => ?_) (fun h2 => ?_)
    · try simp only [Bool.not_eq_true'] at h2
      have hz1 : ¬ tslimB (nth l k) = true := by have hq := h2; simp [hq]
      have hbad := tshortB_f hk5 hz1
      refine s_seq ?_
      refine s_region ?_
      refine oP ?_
      refine o_nil ?_
      exact s_retv (rs := [.tmp 2]) rfl (.tmp rfl (.nil)) (fun w' h' => ⟨by rw [hbad]; rfl, h'.below⟩)
    · try simp only [Bool.not_eq_false'] at h2
      have hz1 : tslimB (nth l k) = true := by have hq := h2; simpa using hq
      refine s_skip ?_
      refine s_blk ?_
      refine s_region ?_
      refine oP ?_
      refine oP ?_
      try (refine o_slot (i64w (by omega) (by omega)) ?_)
      refine oP ?_
      refine o_nil ?_
      exact s_backI (k + 1) (by omega) ⟨by omega, fun q hq => (Nat.lt_or_ge q k).elim (hk3 q) (fun h9 => by obtain rfl : q = k := (by omega); exact hz1)⟩ aSx (fun w h => h.ent aEt)
  · try simp only [decide_eq_false_iff_not] at h1
    have hall := tshortB_t (es := l) (fun q hq => hk3 q (by omega))
    refine s_exit_to rfl ?_
    refine s_seq ?_
    refine s_region ?_
    refine oP ?_
    refine o_nil ?_
    exact s_retv (rs := [.tmp 2]) rfl (.tmp rfl (.nil)) (fun w' h' => ⟨by rw [hall]; rfl, h'.below⟩)

set_option maxRecDepth 20000 in
theorem c14 (w : World) (co mo rm : Int) (a : Option Addr) (cap : Nat) (L : List LNd) (hs : Nt w [] a L) : Calls Tryz.prog 14 #[.agg #[.int .i64 co, .int .i64 mo, .int .i64 rm, .slice a L.length cap]] w fun en w' => en = .returned (.bool (tfewB (pln L))) ∧ Below w.heap.size w w' := by
  have hnl : (pln L).length = L.length := pln_len L
  refine enter (args := [_]) Tryz.func14 Tryz.ntmps14 rfl rfl (HS.refl w []) ?_
  refine s_seq ?_
  refine s_region ?_
  refine o_h (h_box rfl rfl) rfl (fun b1 _ => ?_)
  refine oP ?_
  refine o_nil ?_
  refine s_seq ?_
  refine s_seq ?_
  refine s_region ?_
  refine o_p (p_fieldAddr rfl rfl fd_24_3 sz_22 rfl) rfl ?_
  refine o_q (q_load rfl rfl sz_22 aPk rfl) rfl ?_
  refine o_p (p_len_slice rfl rfl Tryz.underlying22) rfl ?_
  refine oP ?_
  refine oP ?_
  refine o_and 5 8 13 _ _ rfl
    (by
      intro hg2
      have hs3 := hg2; try simp only [decide_eq_true_eq] at hs3
      refine o_on 8 _ rfl rfl hg2 ?_
      refine o_p (p_fieldAddr rfl rfl fd_24_3 sz_22 rfl) rfl ?_
      refine o_on 8 _ rfl rfl hg2 ?_
      refine o_q (q_load rfl rfl sz_22 aPk rfl) rfl ?_
      refine o_on 8 _ rfl rfl hg2 ?_
      refine o_p (p_len_slice rfl rfl Tryz.underlying22) rfl ?_
      refine o_on 8 _ rfl rfl hg2 ?_
      refine oP ?_
      refine o_p (p_pickt rfl rfl hg2 rfl) rfl ?_
      refine o_nil ?_
      exact s_joinN 5 13 _ rfl rfl rfl (fun w h => by first | exact h | exact h.ent aEt))
    (by
      intro hg4
      have hs5 := hg4; try simp only [decide_eq_false_iff_not] at hs5
      refine o_off 8 _ rfl rfl hg4 rfl ?_
      refine o_off 8 _ rfl rfl hg4 rfl ?_
      refine o_off 8 _ rfl rfl hg4 rfl ?_
      refine o_off 8 _ rfl rfl hg4 rfl ?_
      refine o_p (p_pickf rfl rfl hg4 rfl) rfl ?_
      refine o_nil ?_
      exact s_joinN 5 13 _ rfl rfl rfl (fun w h => by first | exact h | exact h.ent aEt)) ?_
  refine oP ?_
  refine o_or 5 14 19 _ _ rfl
    (by
      intro hg6
      have hs7 := hg6; try simp only [Bool.and_eq_false_iff, decide_eq_false_iff_not] at hs7
      refine o_on 14 _ rfl rfl hg6 ?_
      refine o_p (p_fieldAddr rfl rfl fd_24_3 sz_22 rfl) rfl ?_
      refine o_on 14 _ rfl rfl hg6 ?_
      refine o_q (q_load rfl rfl sz_22 aPk rfl) rfl ?_
      refine o_on 14 _ rfl rfl hg6 ?_
      refine o_p (p_len_slice rfl rfl Tryz.underlying22) rfl ?_
      refine o_on 14 _ rfl rfl hg6 ?_
      refine oP ?_
      refine o_p (p_pickf rfl rfl hg6 rfl) rfl ?_
      refine o_nil ?_
      exact s_joinN 5 19 _ rfl rfl rfl (fun w h => by first | exact h | exact h.ent aEt))
    (by
      intro hg8
      have hs9 := hg8; try simp only [Bool.and_eq_true, decide_eq_true_eq] at hs9
      refine o_off 14 _ rfl rfl hg8 rfl ?_
      refine o_off 14 _ rfl rfl hg8 rfl ?_
      refine o_off 14 _ rfl rfl hg8 rfl ?_
      refine o_off 14 _ rfl rfl hg8 rfl ?_
      refine o_p (p_pickt rfl rfl hg8 rfl) rfl ?_
      refine o_nil ?_
      exact s_joinN 5 19 _ rfl rfl rfl (fun w h => by first | exact h | exact h.ent aEt)) ?_
  refine o_nil ?_
  refine s_cond rfl (fun h10 => ?_) (fun h10 => ?_)
  · try simp only [Bool.or_eq_true, Bool.and_eq_true, decide_eq_true_eq] at h10
    have hbad := tfewB_n (ns := pln L) (by rw [hnl]; have hq := h10; omega)
    refine s_seq ?_
    refine s_region ?_
    refine oP ?_
    refine o_nil ?_
    exact s_retv (rs := [.tmp 2]) rfl (.tmp rfl (.nil)) (fun w' h' => ⟨by rw [hbad]; rfl, h'.below⟩)
  · try simp only [Bool.or_eq_false_iff, Bool.and_eq_false_iff, decide_eq_false_iff_not] at h10
    have hlen : L.length ≤ 122 ∧ ¬ (60 < L.length ∧ L.length ≤ 120) := by have hq := h10; omega
    refine s_skip ?_
    refine s_seq ?_
    refine s_seq ?_
    refine s_region ?_
    refine oP ?_
    refine o_nil ?_
    refine s_block ?_
    refine s_loopI (α := Nat) [2, 3, 20, 21, 22, 23, 24, 25, 26, 27, 28, 29, 30, 31, 32, 33, 34, 35, 36, 37, 38, 39, 40, 41, 42, 43, 44, 45, 46, 47, 48, 49, 50, 51, 52, 53, 54] (fun k => [(3, .int .i64 (k : Int))]) (fun _ => HS w [] [.blk b1 24 4 [.int .i64 co, .int .i64 mo, .int .i64 rm, .slice a L.length cap]]) (fun k => k ≤ L.length ∧ ∀ q, q < k → tfewN (nth (pln L) q) = true) (fun k => L.length - k) 0 ⟨Nat.zero_le _, fun q h => absurd h (Nat.not_lt_zero q)⟩ aSx (fun w h => h.ent aEt) (fun k hx => ?_)
    obtain ⟨hk1, hk3⟩ := hx
    refine s_seq ?_
    refine s_seq ?_
    refine s_region ?_
    refine oP ?_
    refine o_p (p_fieldAddr rfl rfl fd_24_3 sz_22 rfl) rfl ?_
    refine o_q (q_load rfl rfl sz_22 aPk rfl) rfl ?_
    refine o_p (p_len_slice rfl rfl Tryz.underlying22) rfl ?_
    refine oP ?_
    refine o_nil ?_
    refine s_cond rfl (fun h11 => ?_) (fun h11 => ?_)
    · try simp only [decide_eq_true_eq] at h11
      have hk5 : k < L.length := by omega
      have hnk := pln_nth hk5
      refine s_skip ?_
      refine s_seq ?_
      refine s_block ?_
      refine s_seq ?_
      refine s_region ?_
      refine o_p (p_fieldAddr rfl rfl fd_24_3 sz_22 rfl) rfl ?_
      refine o_q (q_load rfl rfl sz_22 aPk rfl) rfl ?_
      refine oP ?_
      refine o_p (p_indexAddr rfl rfl rfl sl_22 (k) (by omega) (by omega) (Rw.some hs.1 (by omega))) rfl ?_
      refine o_p (p_fieldAddr rfl rfl fd_102_1 sz_77 rfl) rfl ?_
      refine o_q (q_load_old rfl rfl sz_77 ((hs.1.rdj 1 hk5 rfl))) rfl ?_
      refine o_p (p_len_slice rfl rfl Tryz.underlying77) rfl ?_
      refine oP ?_
      refine oP ?_
      refine o_or 9 35 44 _ _ rfl
        (by
          intro hg12
          have hs13 := hg12; try simp only [decide_eq_false_iff_not] at hs13
          refine o_on 35 _ rfl rfl hg12 ?_
          refine o_p (p_fieldAddr rfl rfl fd_24_3 sz_22 rfl) rfl ?_
          refine o_on 35 _ rfl rfl hg12 ?_
          refine o_q (q_load rfl rfl sz_22 aPk rfl) rfl ?_
          refine o_on 35 _ rfl rfl hg12 ?_
          refine oP ?_
          refine o_on 35 _ rfl rfl hg12 ?_
          refine o_p (p_indexAddr rfl rfl rfl sl_22 (k) (by omega) (by omega) (Rw.some hs.1 (by omega))) rfl ?_
          refine o_on 35 _ rfl rfl hg12 ?_
          refine o_p (p_fieldAddr rfl rfl fd_102_2 sz_30 rfl) rfl ?_
          refine o_on 35 _ rfl rfl hg12 ?_
          refine o_q (q_load_old rfl rfl sz_30 ((hs.1.rdj 2 hk5 rfl))) rfl ?_
          refine o_on 35 _ rfl rfl hg12 ?_
          refine o_p (p_len_slice rfl rfl Tryz.underlying30) rfl ?_
          refine o_on 35 _ rfl rfl hg12 ?_
          refine oP ?_
          refine o_p (p_pickf rfl rfl hg12 rfl) rfl ?_
          refine o_nil ?_
          exact s_joinN 9 44 _ rfl rfl rfl (fun w h => by first | exact h | exact h.ent aEt))
        (by
          intro hg14
          have hs15 := hg14; try simp only [decide_eq_true_eq] at hs15
          refine o_off 35 _ rfl rfl hg14 rfl ?_
          refine o_off 35 _ rfl rfl hg14 rfl ?_
          refine o_off 35 _ rfl rfl hg14 rfl ?_
          refine o_off 35 _ rfl rfl hg14 rfl ?_
          refine o_off 35 _ rfl rfl hg14 rfl ?_
          refine o_off 35 _ rfl rfl hg14 rfl ?_
          refine o_off 35 _ rfl rfl hg14 rfl ?_
          refine o_off 35 _ rfl rfl hg14 rfl ?_
          refine o_p (p_pickt rfl rfl hg14 rfl) rfl ?_
          refine o_nil ?_
          exact s_joinN 9 44 _ rfl rfl rfl (fun w h => by first | exact h | exact h.ent aEt)) ?_
      refine oP ?_
      refine o_or 9 45 54 _ _ rfl
        (by
          intro hg16
          have hs17 := hg16; try simp only [Bool.or_eq_false_iff, decide_eq_false_iff_not] at hs17
          refine o_on 45 _ rfl rfl hg16 ?_
          refine o_p (p_fieldAddr rfl rfl fd_24_3 sz_22 rfl) rfl ?_
          refine o_on 45 _ rfl rfl hg16 ?_
          refine o_q (q_load rfl rfl sz_22 aPk rfl) rfl ?_
          refine o_on 45 _ rfl rfl hg16 ?_
          refine oP ?_
          refine o_on 45 _ rfl rfl hg16 ?_
          refine o_p (p_indexAddr rfl rfl rfl sl_22 (k) (by omega) (by omega) (Rw.some hs.1 (by omega))) rfl ?_
          refine o_on 45 _ rfl rfl hg16 ?_
          refine o_p (p_fieldAddr rfl rfl fd_102_1 sz_77 rfl) rfl ?_
          refine o_on 45 _ rfl rfl hg16 ?_
          refine o_q (q_load_old rfl rfl sz_77 ((hs.1.rdj 1 hk5 rfl))) rfl ?_
          refine o_on 45 _ rfl rfl hg16 ?_
          refine o_q (q_call rfl fn_43 rfl (fun w1 h1 => c43 w1 (nth L k).ea (nth L k).ec (nth L k).es ((hs.es hk5).later h1) (by have hq := hg16; omega))) rfl ?_
          refine o_on 45 _ rfl rfl hg16 ?_
          refine oP ?_
          refine o_p (p_pickf rfl rfl hg16 rfl) rfl ?_
          refine o_nil ?_
          exact s_joinN 9 54 _ rfl rfl rfl (fun w h => by first | exact h | exact h.ent aEt))
        (by
          intro hg18
          have hs19 := hg18; try simp only [Bool.or_eq_true, decide_eq_true_eq] at hs19
          refine o_off 45 _ rfl rfl hg18 rfl ?_
          refine o_off 45 _ rfl rfl hg18 rfl ?_
          refine o_off 45 _ rfl rfl hg18 rfl ?_
          refine o_off 45 _ rfl rfl hg18 rfl ?_
          refine o_off 45 _ rfl rfl hg18 rfl ?_
          refine o_off 45 _ rfl rfl hg18 rfl ?_
          refine o_off 45 _ rfl rfl hg18 rfl ?_
          refine o_off 45 _ rfl rfl hg18 rfl ?_
          refine o_p (p_pickt rfl rfl hg18 rfl) rfl ?_
          refine o_nil ?_
          exact s_joinN 9 54 _ rfl rfl rfl (fun w h => by first | exact h | exact h.ent aEt)) ?_
      refine o_nil ?_
      refine s_cond rfl (fun h20 => ?_) (fun h20 => ?_)
      · try simp only [Bool.or_eq_true, decide_eq_true_eq, Bool.not_eq_true'] at h20
        have hz1 : ¬ tfewN (nth (pln L) k) = true := by rw [hnk]; have hq := h20; exact tfewN_f (hq.imp (fun h9 => by show 10 < (nth L k).es.length ∨ 11 < (nth L k).cs.length; omega) id)
        have hbad := tfewB_f (by rw [hnl]; exact hk5) hz1
        refine s_seq ?_
        refine s_region ?_
        refine oP ?_
        refine o_nil ?_
        exact s_retv (rs := [.tmp 2]) rfl (.tmp rfl (.nil)) (fun w' h' => ⟨by rw [hbad]; rfl, h'.below⟩)
      · try simp only [Bool.or_eq_false_iff, decide_eq_false_iff_not, Bool.not_eq_false'] at h20
        have hz1 : tfewN (nth (pln L) k) = true := by rw [hnk]; have hq := h20; exact tfewN_t (by show (nth L k).es.length ≤ 10; omega) (by show (nth L k).cs.length ≤ 11; omega) hq.2
        refine s_skip ?_
        refine s_blk ?_
        refine s_region ?_
        refine oP ?_
        refine oP ?_
        try (refine o_slot (i64w (by omega) (by omega)) ?_)
        refine oP ?_
        refine o_nil ?_
        exact s_backI (k + 1) (by omega) ⟨by omega, fun q hq => (Nat.lt_or_ge q k).elim (hk3 q) (fun h9 => by obtain rfl : q = k := (by omega); exact hz1)⟩ aSx (fun w h => h.ent aEt)
    · try simp only [decide_eq_false_iff_not] at h11
      have hall := tfewB_t (ns := pln L) (by rw [hnl]; exact hlen) (fun q hq => hk3 q (by rw [hnl] at hq; omega))
      refine s_exit_to rfl ?_
      refine s_seq ?_
      refine s_region ?_
      refine oP ?_
      refine o_nil ?_
      exact s_retv (rs := [.tmp 2]) rfl (.tmp rfl (.nil)) (fun w' h' => ⟨by rw [hall]; rfl, h'.below⟩)

end Go.Proofs

namespace Go.Proofs
open Go Go.RowKit Gx
set_option linter.unusedVariables false
set_option linter.unusedSimpArgs false
attribute [local irreducible] Go.Calls Gx.S Gx.O Gx.D Gx.OpP Gx.OpQ Gx.OpH



end Go.Proofs

namespace Go.Proofs
open Go Go.RowKit Gx
set_option linter.unusedVariables false
set_option linter.unusedSimpArgs false
attribute [local irreducible] Go.Calls Gx.S Gx.O Gx.D Gx.OpP Gx.OpQ Gx.OpH

theorem fn_14 : isFn Tryz.prog 14 = true := by kernel_rfl
theorem fn_18 : isFn Tryz.prog 18 = true := by kernel_rfl
end Go.Proofs

/- Chapter 12: the shape of a tree. Plain data. -/
namespace Gx
set_option linter.unusedSimpArgs false
set_option linter.unusedVariables false
set_option linter.unusedSectionVars false
open Go Go.RowKit
/-- Of the first k nodes: how many are used, how many entries they have, how many are not used. -/
def shA (ns : List Nd) : Nat → Int × Int × Int
  | 0 => (0, 0, 0)
  | k + 1 => if (nth ns k).us = true then ((shA ns k).1 + 1, (shA ns k).2.1 + ((nth ns k).es.length : Int), (shA ns k).2.2) else ((shA ns k).1, (shA ns k).2.1, (shA ns k).2.2 + 1)
/-- Depth, nodes, entries, free nodes. -/
def shpV (ns : List Nd) : List Value := [.int .i64 (deepT ns ns.length 0 + 1), .int .i64 (shA ns ns.length).1, .int .i64 (shA ns ns.length).2.1, .int .i64 (shA ns ns.length).2.2]
end Gx

namespace Go.Proofs
open Go Go.RowKit Gx
set_option linter.unusedVariables false
set_option linter.unusedSimpArgs false
attribute [local irreducible] Go.Calls Gx.S Gx.O Gx.D Gx.OpP Gx.OpQ Gx.OpH

end Go.Proofs

/- Regions whose order is open: a read that no base holds, taken as it comes. Nothing of a program is named here. -/
namespace Gx
open Go Go.RowKit
end Gx

namespace Go.Proofs
open Go Go.RowKit Gx
set_option linter.unusedVariables false
set_option linter.unusedSimpArgs false
attribute [local irreducible] Go.Calls Gx.S Gx.O Gx.D Gx.OpP Gx.OpQ Gx.OpH



end Go.Proofs

namespace Go.Proofs
open Go Go.RowKit Gx
set_option linter.unusedVariables false
set_option linter.unusedSimpArgs false
attribute [local irreducible] Go.Calls Gx.S Gx.O Gx.D Gx.OpP Gx.OpQ Gx.OpH

end Go.Proofs

/- Chapter 12: an entry in the place of one. Plain data. -/
namespace Gx
set_option linter.unusedSimpArgs false
set_option linter.unusedVariables false
set_option linter.unusedSectionVars false
open Go Go.RowKit
def repN (co : Int) (ns : List Nd) (x : TEnt) : List Nd := esN ns (lastN (pathN co ns x.key).1) ((nth ns (lastN (pathN co ns x.key).1)).es.set (pathN co ns x.key).2.1 x)
theorem nth_set9 {α : Type} [Inhabited α] (l : List α) (i k : Nat) (y : α) : nth (l.set i y) k = if i = k ∧ k < l.length then y else nth l k := by
  simp only [nth, List.getD_eq_getElem?_getD, List.getElem?_set]
  by_cases e : i = k
  · subst e
    by_cases hk : i < l.length
    · rw [if_pos rfl, if_pos hk, if_pos ⟨rfl, hk⟩]
      rfl
    · rw [if_pos rfl, if_neg hk, if_neg (fun h => hk h.2), List.getElem?_eq_none (by omega)]
  · rw [if_neg e, if_neg (fun h => e h.1)]
theorem repN_sm {co : Int} {ns : List Nd} {x : TEnt} {m : Nat} (h : Sm m ns) : Sm m (repN co ns x) := fun k => by
  unfold repN esN
  rw [nth_set9]
  split
  · rename_i e
    have h2 := h (lastN (pathN co ns x.key).1)
    simp only [List.length_set]
    exact h2
  · exact h k
theorem repN_ln {co : Int} {ns : List Nd} {x : TEnt} : (repN co ns x).length = ns.length := by simp [repN, esN]
end Gx

namespace Go.Proofs
open Go Go.RowKit Gx
set_option linter.unusedVariables false
set_option linter.unusedSimpArgs false
attribute [local irreducible] Go.Calls Gx.S Gx.O Gx.D Gx.OpP Gx.OpQ Gx.OpH



set_option maxRecDepth 20000 in
theorem c37e (w : World) (co mo rm : Int) (a : Option Addr) (cap : Nat) (L : List LNd) (x : TEnt) (hs : Nt w [] a L) (hB : Bd (pln L)) (hkl : ∀ i, i < L.length → ∀ x ∈ (nth L i).es, x.key.length ≤ 1000000) (he : ¬ (treE (⟨co, mo, rm, pln L⟩ : Tre)).2 = 0) : Calls Tryz.prog 37 #[.agg #[.int .i64 co, .int .i64 mo, .int .i64 rm, .slice a L.length cap], .agg #[.string (bs x.key), .string (bs x.val)]] w fun en w' => en = .returned (.tuple #[.agg #[.int .i64 0, .int .i64 0, .int .i64 0, .slice none 0 0], .int .i64 0, .int .i64 (treE (⟨co, mo, rm, pln L⟩ : Tre)).2]) ∧ Below w.heap.size w w' := by
  refine enter (args := [_, _]) Tryz.func37 Tryz.ntmps37 rfl rfl (HS.refl w []) ?_
  refine s_seq ?_
  refine s_region ?_
  refine o_h (h_box rfl rfl) rfl (fun b1 _ => ?_)
  refine o_h (h_box rfl rfl) rfl (fun b2 _ => ?_)
  refine o_h (h_alloc rfl zr_24) rfl (fun b3 _ => ?_)
  refine oP ?_
  refine oP ?_
  refine o_nil ?_
  refine s_seq ?_
  refine s_region ?_
  refine o_q (q_loadn rfl rfl sz_24 aPk rfl) rfl ?_
  refine o_q (q_loadn rfl rfl sz_26 aPk rfl) rfl ?_
  refine o_q (q_call rfl fn_57 rfl (fun w1 h1 => c57e w1 co mo rm a cap L x (hs.later h1.nil) hB hkl he)) rfl ?_
  refine oP ?_
  refine oP ?_
  refine oP ?_
  refine oP ?_
  refine oP ?_
  refine o_nil ?_
  refine s_seq ?_
  refine s_seq ?_
  refine s_region ?_
  refine oP ?_
  refine oP ?_
  refine o_nil ?_
  refine s_cond rfl (fun h4 => ?_) (fun h4 => ?_)
  · try simp only [Bool.not_eq_true', decide_eq_false_iff_not] at h4
    refine s_seq ?_
    refine s_region ?_
    refine o_p (p_build (cs := [_, _, _, _]) rfl rfl pl_24 zr_24 rfl) rfl ?_
    refine oP ?_
    refine o_h0 (h_store rfl rfl rfl sz_24 rfl aPt (by simp only [setMany_length, List.length_set, List.length_cons, List.length_nil, List.length_map]; omega) rfl) (fun _ _ => ?_)
    refine oP ?_
    refine oP ?_
    refine o_nil ?_
    exact s_retv (rs := [.cell 4 24, .tmp 5, .tmp 6]) rfl (.cell rfl sz_24 aPk rfl (.tmp rfl (.tmp rfl (.nil)))) (fun w' h' => ⟨rfl, h'.below⟩)
  · try simp only [Bool.not_eq_false', decide_eq_true_eq] at h4
    exfalso; first | omega | (simp at h4; done) | (simp_all; done)

set_option maxRecDepth 20000 in
theorem c37x (w : World) (j : Nat) (mo rm : Int) (a : Option Addr) (cap : Nat) (L : List LNd) (x : TEnt) (hs : Nt w [] a L) (hB : Bd (pln L)) (hkl : ∀ i, i < L.length → ∀ x ∈ (nth L i).es, x.key.length ≤ 1000000) (hkk : x.key.length ≤ 1000000) (h0 : (treE (⟨(j : Int), mo, rm, pln L⟩ : Tre)).2 = 0) (hx : ¬ entE (j : Int) x = 0) : Calls Tryz.prog 37 #[.agg #[.int .i64 (j : Int), .int .i64 mo, .int .i64 rm, .slice a L.length cap], .agg #[.string (bs x.key), .string (bs x.val)]] w fun en w' => en = .returned (.tuple #[.agg #[.int .i64 0, .int .i64 0, .int .i64 0, .slice none 0 0], .int .i64 0, .int .i64 (entE (j : Int) x)]) ∧ Below w.heap.size w w' := by
  obtain ⟨hc0, hz0, hl0, hl120, hn0, _, _⟩ := treE_0 h0
  rw [show ((⟨(j : Int), mo, rm, pln L⟩ : Tre)).ns = pln L from rfl, pln_len] at hl0 hl120
  have hj : j ≤ 3 := by obtain ⟨j9, e9, hj9⟩ := col_ok hc0; have e8 : ((j : Nat) : Int) = (j9 : Int) := e9; omega
  have hT : TOk (j : Int) (pln L) := tok_of (t := (⟨(j : Int), mo, rm, pln L⟩ : Tre)) hn0
  have hmo := (sizE_0 hz0).1
  simp only [] at hmo
  refine enter (args := [_, _]) Tryz.func37 Tryz.ntmps37 rfl rfl (HS.refl w []) ?_
  refine s_seq ?_
  refine s_region ?_
  refine o_h (h_box rfl rfl) rfl (fun b1 _ => ?_)
  refine o_h (h_box rfl rfl) rfl (fun b2 _ => ?_)
  refine o_h (h_alloc rfl zr_24) rfl (fun b3 _ => ?_)
  refine oP ?_
  refine oP ?_
  refine o_nil ?_
  refine s_seq ?_
  refine s_region ?_
  refine o_q (q_loadn rfl rfl sz_24 aPk rfl) rfl ?_
  refine o_q (q_loadn rfl rfl sz_26 aPk rfl) rfl ?_
  refine o_h (h_call rfl fn_57 rfl (fun w1 h1 => c57k w1 j mo rm a cap L x (hs.later h1.nil) hB hkl hkk h0)) rfl (fun ⟨b9, ⟨gn9, c9⟩, L9⟩ hF9 => ?_)
  dsimp only
  obtain ⟨hL9, hn9, hm9⟩ := hF9
  simp only [] at hL9 hn9 hm9
  have hl9 : L9.length = L.length := by rw [← pln_len L9, hL9, pln_len]
  have hB9 : Bd (pln L9) := by rw [hL9]; exact hB
  have hT9 : TOk (j : Int) (pln L9) := by rw [hL9]; exact hT
  have hK9 : ∀ i, i < L9.length → ∀ y ∈ (nth L9 i).es, keyOk (j : Int) y.key = true ∧ y.key.length ≤ 1000000 := fun i hi y hy => tok_key hT9 i (by rw [pln_len]; exact hi) y (by rw [pln_nth hi]; exact hy)
  refine oP ?_
  refine oP ?_
  refine oP ?_
  refine oP ?_
  refine oP ?_
  refine o_nil ?_
  refine s_seq ?_
  refine s_seq ?_
  refine s_region ?_
  refine oP ?_
  refine oP ?_
  refine o_nil ?_
  refine s_cond rfl (fun h4 => ?_) (fun h4 => ?_)
  · try simp only [Bool.not_eq_true', decide_eq_false_iff_not] at h4
    refine s_seq ?_
    refine s_region ?_
    refine o_p (p_build (cs := [_, _, _, _]) rfl rfl pl_24 zr_24 rfl) rfl ?_
    refine oP ?_
    refine o_h0 (h_store rfl rfl rfl sz_24 rfl aPt (by simp only [setMany_length, List.length_set, List.length_cons, List.length_nil, List.length_map]; omega) rfl) (fun _ _ => ?_)
    refine oP ?_
    refine oP ?_
    refine o_nil ?_
    exact s_retv (rs := [.cell 4 24, .tmp 5, .tmp 6]) rfl (.cell rfl sz_24 aPk rfl (.tmp rfl (.tmp rfl (.nil)))) (fun w' h' => ⟨rfl, h'.below⟩)
  · try simp only [Bool.not_eq_false', decide_eq_true_eq] at h4
    exfalso; first | omega | (simp at h4; done) | (simp_all; done)

set_option maxRecDepth 20000 in
theorem c37m (w : World) (j : Nat) (mo rm : Int) (a : Option Addr) (cap : Nat) (L : List LNd) (x : TEnt) (hs : Nt w [] a L) (hB : Bd (pln L)) (hkl : ∀ i, i < L.length → ∀ x ∈ (nth L i).es, x.key.length ≤ 1000000) (hkk : x.key.length ≤ 1000000) (h0 : (treE (⟨(j : Int), mo, rm, pln L⟩ : Tre)).2 = 0) (hx0 : entE (j : Int) x = 0) (hx : ¬ (pathN (j : Int) (pln L) x.key).2.2 = true) : Calls Tryz.prog 37 #[.agg #[.int .i64 (j : Int), .int .i64 mo, .int .i64 rm, .slice a L.length cap], .agg #[.string (bs x.key), .string (bs x.val)]] w fun en w' => en = .returned (.tuple #[.agg #[.int .i64 0, .int .i64 0, .int .i64 0, .slice none 0 0], .int .i64 0, .int .i64 6]) ∧ Below w.heap.size w w' := by
  obtain ⟨hc0, hz0, hl0, hl120, hn0, _, _⟩ := treE_0 h0
  rw [show ((⟨(j : Int), mo, rm, pln L⟩ : Tre)).ns = pln L from rfl, pln_len] at hl0 hl120
  have hj : j ≤ 3 := by obtain ⟨j9, e9, hj9⟩ := col_ok hc0; have e8 : ((j : Nat) : Int) = (j9 : Int) := e9; omega
  have hT : TOk (j : Int) (pln L) := tok_of (t := (⟨(j : Int), mo, rm, pln L⟩ : Tre)) hn0
  have hmo := (sizE_0 hz0).1
  simp only [] at hmo
  have hkey : keyOk (j : Int) x.key = true := entE_key hx0
  refine enter (args := [_, _]) Tryz.func37 Tryz.ntmps37 rfl rfl (HS.refl w []) ?_
  refine s_seq ?_
  refine s_region ?_
  refine o_h (h_box rfl rfl) rfl (fun b1 _ => ?_)
  refine o_h (h_box rfl rfl) rfl (fun b2 _ => ?_)
  refine o_h (h_alloc rfl zr_24) rfl (fun b3 _ => ?_)
  refine oP ?_
  refine oP ?_
  refine o_nil ?_
  refine s_seq ?_
  refine s_region ?_
  refine o_q (q_loadn rfl rfl sz_24 aPk rfl) rfl ?_
  refine o_q (q_loadn rfl rfl sz_26 aPk rfl) rfl ?_
  refine o_h (h_call rfl fn_57 rfl (fun w1 h1 => c57k w1 j mo rm a cap L x (hs.later h1.nil) hB hkl hkk h0)) rfl (fun ⟨b9, ⟨gn9, c9⟩, L9⟩ hF9 => ?_)
  dsimp only
  obtain ⟨hL9, hn9, hm9⟩ := hF9
  simp only [] at hL9 hn9 hm9
  have hl9 : L9.length = L.length := by rw [← pln_len L9, hL9, pln_len]
  have hB9 : Bd (pln L9) := by rw [hL9]; exact hB
  have hT9 : TOk (j : Int) (pln L9) := by rw [hL9]; exact hT
  have hK9 : ∀ i, i < L9.length → ∀ y ∈ (nth L9 i).es, keyOk (j : Int) y.key = true ∧ y.key.length ≤ 1000000 := fun i hi y hy => tok_key hT9 i (by rw [pln_len]; exact hi) y (by rw [pln_nth hi]; exact hy)
  refine oP ?_
  refine oP ?_
  refine oP ?_
  refine oP ?_
  refine oP ?_
  refine o_nil ?_
  refine s_seq ?_
  refine s_seq ?_
  refine s_region ?_
  refine oP ?_
  refine oP ?_
  refine o_nil ?_
  refine s_cond rfl (fun h4 => ?_) (fun h4 => ?_)
  · try simp only [Bool.not_eq_true', decide_eq_false_iff_not] at h4
    exfalso; first | omega | (simp at h4; done) | (simp_all; done)
  · try simp only [Bool.not_eq_false', decide_eq_true_eq] at h4
    refine s_skip ?_
    refine s_seq ?_
    refine s_region ?_
    refine oP ?_
    refine o_p (p_fieldAddr rfl rfl fd_26_0 sz_9 rfl) rfl ?_
    refine o_q (q_load rfl rfl sz_9 aPk rfl) rfl ?_
    refine o_h (h_call rfl fn_68 rfl (fun w1 h1 => c68 w1 b9 j mo rm (some ⟨gn9, 0, none⟩) c9 L9 x.key hj (by omega) hB9 hT9 hK9 hkey hkk (HS.nt_at h1 aPk aPk) (HS.tbr h1 aPk))) rfl (fun ⟨pa, pc⟩ _ => ?_)
    dsimp only
    rw [hL9]
    refine oP ?_
    refine oP ?_
    refine oP ?_
    refine oP ?_
    refine oP ?_
    refine oP ?_
    refine oP ?_
    refine o_nil ?_
    refine s_seq ?_
    refine s_seq ?_
    refine s_region ?_
    refine oP ?_
    refine oP ?_
    refine o_nil ?_
    refine s_cond rfl (fun h5 => ?_) (fun h5 => ?_)
    · try simp only [Bool.not_eq_true'] at h5
      refine s_seq ?_
      refine s_weaken (L' := [(3, _), (4, _), (5, _), (6, _), (7, _), (9, _), (10, _)]) aSx (fun _ h => h) ?_
      refine s_region ?_
      refine o_p (p_build (cs := [_, _, _, _]) rfl rfl pl_24 zr_24 rfl) rfl ?_
      refine o_h0 (h_store rfl rfl rfl sz_24 rfl aPt (by simp only [setMany_length, List.length_set, List.length_cons, List.length_nil, List.length_map]; omega) rfl) (fun _ _ => ?_)
      refine oP ?_
      refine oP ?_
      refine o_nil ?_
      exact s_retv (rs := [.cell 4 24, .tmp 5, .tmp 6]) rfl (.cell rfl sz_24 aPk rfl (.tmp rfl (.tmp rfl (.nil)))) (fun w' h' => ⟨rfl, h'.below⟩)
    · try simp only [Bool.not_eq_false'] at h5
      exfalso; first | omega | (simp at h5; done) | (simp_all; done)

set_option maxRecDepth 20000 in
set_option maxHeartbeats 400000 in
theorem c37o (w : World) (j : Nat) (mo rm : Int) (a : Option Addr) (cap : Nat) (L : List LNd) (x : TEnt) (hs : Nt w [] a L) (hB : Bd (pln L)) (hkl : ∀ i, i < L.length → ∀ x ∈ (nth L i).es, x.key.length ≤ 1000000) (hkk : x.key.length ≤ 1000000) (h0 : (treE (⟨(j : Int), mo, rm, pln L⟩ : Tre)).2 = 0) (hx0 : entE (j : Int) x = 0) (hx : (pathN (j : Int) (pln L) x.key).2.2 = true) : Calls Tryz.prog 37 #[.agg #[.int .i64 (j : Int), .int .i64 mo, .int .i64 rm, .slice a L.length cap], .agg #[.string (bs x.key), .string (bs x.val)]] w fun en w' => ∃ g : (Nat × Nat) × List LNd, en = .returned (.tuple #[.agg #[.int .i64 (j : Int), .int .i64 mo, .int .i64 rm, .slice (some ⟨g.1.1, 0, none⟩) g.2.length g.1.2], .int .i64 ((lastN (pathN (j : Int) (pln L) x.key).1) : Int), .int .i64 0]) ∧ pln g.2 = (repN (j : Int) (pln L) x) ∧ HS w [] [.nodes 26 102 (some ⟨g.1.1, 0, none⟩) g.1.2 g.2] w' := by
  obtain ⟨hc0, hz0, hl0, hl120, hn0, _, _⟩ := treE_0 h0
  rw [show ((⟨(j : Int), mo, rm, pln L⟩ : Tre)).ns = pln L from rfl, pln_len] at hl0 hl120
  have hj : j ≤ 3 := by obtain ⟨j9, e9, hj9⟩ := col_ok hc0; have e8 : ((j : Nat) : Int) = (j9 : Int) := e9; omega
  have hT : TOk (j : Int) (pln L) := tok_of (t := (⟨(j : Int), mo, rm, pln L⟩ : Tre)) hn0
  have hmo := (sizE_0 hz0).1
  simp only [] at hmo
  have hkey : keyOk (j : Int) x.key = true := entE_key hx0
  have hend := path_end hT (by rw [pln_len]; exact hl0) x.key
  obtain ⟨hp1, hp2, hp3, hp4, hp5⟩ := hend
  rw [pln_len] at hp2 hp3
  refine enter (args := [_, _]) Tryz.func37 Tryz.ntmps37 rfl rfl (HS.refl w []) ?_
  refine s_seq ?_
  refine s_region ?_
  refine o_h (h_box rfl rfl) rfl (fun b1 _ => ?_)
  refine o_h (h_box rfl rfl) rfl (fun b2 _ => ?_)
  refine o_h (h_alloc rfl zr_24) rfl (fun b3 _ => ?_)
  refine oP ?_
  refine oP ?_
  refine o_nil ?_
  refine s_seq ?_
  refine s_region ?_
  refine o_q (q_loadn rfl rfl sz_24 aPk rfl) rfl ?_
  refine o_q (q_loadn rfl rfl sz_26 aPk rfl) rfl ?_
  refine o_h (h_call rfl fn_57 rfl (fun w1 h1 => c57k w1 j mo rm a cap L x (hs.later h1.nil) hB hkl hkk h0)) rfl (fun ⟨b9, ⟨gn9, c9⟩, L9⟩ hF9 => ?_)
  dsimp only
  obtain ⟨hL9, hn9, hm9⟩ := hF9
  simp only [] at hL9 hn9 hm9
  have hl9 : L9.length = L.length := by rw [← pln_len L9, hL9, pln_len]
  have hB9 : Bd (pln L9) := by rw [hL9]; exact hB
  have hT9 : TOk (j : Int) (pln L9) := by rw [hL9]; exact hT
  have hK9 : ∀ i, i < L9.length → ∀ y ∈ (nth L9 i).es, keyOk (j : Int) y.key = true ∧ y.key.length ≤ 1000000 := fun i hi y hy => tok_key hT9 i (by rw [pln_len]; exact hi) y (by rw [pln_nth hi]; exact hy)
  refine oP ?_
  refine oP ?_
  refine oP ?_
  refine oP ?_
  refine oP ?_
  refine o_nil ?_
  refine s_seq ?_
  refine s_seq ?_
  refine s_region ?_
  refine oP ?_
  refine oP ?_
  refine o_nil ?_
  refine s_cond rfl (fun h4 => ?_) (fun h4 => ?_)
  · try simp only [Bool.not_eq_true', decide_eq_false_iff_not] at h4
    exfalso; first | omega | (simp at h4; done) | (simp_all; done)
  · try simp only [Bool.not_eq_false', decide_eq_true_eq] at h4
    refine s_skip ?_
    refine s_seq ?_
    refine s_region ?_
    refine oP ?_
    refine o_p (p_fieldAddr rfl rfl fd_26_0 sz_9 rfl) rfl ?_
    refine o_q (q_load rfl rfl sz_9 aPk rfl) rfl ?_
    refine o_h (h_call rfl fn_68 rfl (fun w1 h1 => c68 w1 b9 j mo rm (some ⟨gn9, 0, none⟩) c9 L9 x.key hj (by omega) hB9 hT9 hK9 hkey hkk (HS.nt_at h1 aPk aPk) (HS.tbr h1 aPk))) rfl (fun ⟨pa, pc⟩ _ => ?_)
    dsimp only
    rw [hL9]
    refine oP ?_
    refine oP ?_
    refine oP ?_
    refine oP ?_
    refine oP ?_
    refine oP ?_
    refine oP ?_
    refine o_nil ?_
    refine s_seq ?_
    refine s_seq ?_
    refine s_region ?_
    refine oP ?_
    refine oP ?_
    refine o_nil ?_
    refine s_cond rfl (fun h5 => ?_) (fun h5 => ?_)
    · try simp only [Bool.not_eq_true'] at h5
      exfalso; first | omega | (simp at h5; done) | (simp_all; done)
    · try simp only [Bool.not_eq_false'] at h5
      have hlf : (lastN (pathN (j : Int) (pln L) x.key).1) < L9.length := by omega
      have hn9f : nth (pln L) (lastN (pathN (j : Int) (pln L) x.key).1) = (nth L9 (lastN (pathN (j : Int) (pln L) x.key).1)).pl := by have h9 := pln_nth hlf; rw [hL9] at h9; exact h9
      have hat := fnd_lt (hp5 ▸ hx)
      rw [← hp4, hn9f] at hat
      simp only [LNd.pl] at hat
      have hpn : (pathN (j : Int) (pln L) x.key).1.length - 1 < (pathN (j : Int) (pln L) x.key).1.length := by omega
      refine s_fact (fun w h => HS.kids_some (by rw [iN_len]; omega) h aPk) fun hpa => ?_
      obtain ⟨gp, hpa⟩ := hpa
      refine s_fact (fun w h => HS.es_some (i := (lastN (pathN (j : Int) (pln L) x.key).1)) hlf (by omega) h aPk) fun hge => ?_
      obtain ⟨ge, hge⟩ := hge
      refine s_fact (fun w h => HS.es_room hlf h aPk) fun hrE => ?_
      refine s_skip ?_
      refine s_seq ?_
      refine s_weaken (L' := [(3, _), (4, _), (5, _), (6, _), (7, _), (9, _), (10, _)]) aSx (fun _ h => h) ?_
      refine s_region ?_
      refine oP ?_
      refine oP ?_
      refine o_p (p_len_slice rfl rfl Tryz.underlying30) rfl ?_
      refine oP ?_
      try (refine o_slot (i64w (by omega) (by omega)) ?_)
      refine o_p (p_indexAddr rfl rfl rfl sl_30 ((pathN (j : Int) (pln L) x.key).1.length - 1) (by omega) (by omega) hpa) rfl ?_
      refine o_q (q_load_at rfl rfl sz_3 (fun w h => HS.path_rd hpn hpa h aPk)) rfl ?_
      refine o_slot (show _ = Value.int .i64 (((lastN (pathN (j : Int) (pln L) x.key).1) : Nat) : Int) from rfl) ?_
      refine oP ?_
      refine o_nil ?_
      refine s_seq ?_
      refine s_class (fun w h => HS.es_open hlf (by omega) hge h aPk) ?_
      refine s_drawB [.blk b9 112 6 (tbV (j : Int) mo rm (some ⟨gn9, 0, none⟩) L9.length c9), .blk gn9 102 (c9 * 3) (L9.flatMap LNd.vals), .blk b1 24 4 [.int .i64 (j : Int), .int .i64 mo, .int .i64 rm, .slice a L.length cap], .blk b2 26 2 (TEnt.vals x), .blk b3 24 4 [.int .i64 0, .int .i64 0, .int .i64 0, .slice none 0 0]] [12] mixed ?_
      refine dP 0 ?_
      refine dP 1 ?_
      refine d_p 2 rfl (p_fieldAddr rfl rfl fd_112_0 sz_24 rfl) (by kernel_rfl) rfl rfl ?_
      refine d_p 3 rfl (p_fieldAddr rfl rfl fd_24_3 sz_22 rfl) (by kernel_rfl) rfl rfl ?_
      refine d_q 4 [[]] rfl (q_load rfl rfl sz_22 aPk rfl) (by kernel_rfl) (by kernel_rfl) (by kernel_rfl) rfl ?_
      refine dP 5 ?_
      refine d_p 6 rfl (p_indexAddr rfl rfl rfl sl_22 ((lastN (pathN (j : Int) (pln L) x.key).1)) (by omega) (by omega) rfl) (by kernel_rfl) rfl rfl ?_
      refine d_slot (show _ = Value.pointer (some ⟨gn9, (lastN (pathN (j : Int) (pln L) x.key).1) * 3, none⟩) from by rw [Nat.zero_add]) ?_
      refine d_p 7 rfl (p_fieldAddr rfl rfl fd_102_1 sz_77 rfl) (by kernel_rfl) rfl rfl ?_
      refine d_q 8 [[]] rfl (q_load_at rfl rfl sz_77 (fun w h => HS.nd_cell hlf h aPk 1 rfl (by decide))) (by kernel_rfl) (by kernel_rfl) (by kernel_rfl) rfl ?_
      refine dP 9 ?_
      refine d_q 10 [[]] rfl (q_loadn rfl rfl sz_26 aPk rfl) (by kernel_rfl) (by kernel_rfl) (by kernel_rfl) rfl ?_
      refine d_p 11 rfl (p_indexAddr rfl rfl rfl sl_77 ((pathN (j : Int) (pln L) x.key).2.1) (by omega) (by omega) hge) (by kernel_rfl) rfl rfl ?_
      refine d_slot (show _ = Value.pointer (some ⟨ge, (pathN (j : Int) (pln L) x.key).2.1 * 2, none⟩) from by rw [Nat.zero_add]) ?_
      refine d_h0 12 rfl (h_store rfl rfl rfl sz_26 rfl aPt (by rw [flat_length ev2]; show _ + 2 ≤ _; omega) rfl) (by kernel_rfl) (fun w h => h.ent aEt) (fun _ _ => ?_)
      refine d_turn [] (by kernel_rfl) ?_
      refine d_nil (by kernel_rfl) (fun w h => by first | exact h | exact h.ent aEt) ?_
      refine s_seq ?_
      refine s_region ?_
      refine oP ?_
      refine o_ex (fun w h => HS.es_upd (gn := gn9) (cap := c9) (g := ge) (k := (pathN (j : Int) (pln L) x.key).2.1) (x := x) hlf hat hge h aPk aPk aPk hrE) fun L1 => ?_
      refine o_fact (fun w h => h.1) fun hS1 => ?_
      refine o_class (fun w h => h.2) ?_
      refine oP ?_
      refine o_p (p_fieldAddr rfl rfl fd_112_0 sz_24 rfl) rfl ?_
      refine o_q (q_loadn rfl rfl sz_24 aPk rfl) rfl ?_
      refine oP ?_
      refine o_h0 (h_store rfl rfl rfl sz_24 rfl aPt (by simp only [setMany_length, List.length_set, List.length_cons, List.length_nil, List.length_map]; omega) rfl) (fun _ _ => ?_)
      refine oP ?_
      refine oP ?_
      refine o_nil ?_
      exact s_retv (rs := [.cell 4 24, .tmp 5, .tmp 6]) rfl (.cell rfl sz_24 aPk rfl (.tmp rfl (.tmp rfl (.nil)))) (fun w' h' => ⟨((gn9, c9), L1), by (try simp only [retV]); (try rw [hS1.len]); rfl, by rw [hS1.es, hL9, repN, hn9f]; rfl, nodes_join (h'.ent (Bs := [.blk gn9 102 (c9 * 3) (L1.flatMap LNd.vals), .star (L1.map (subN 26))]) aEt) (by rw [hS1.len]; exact hn9) hm9⟩)

end Go.Proofs

namespace Go.Proofs
open Go Go.RowKit Gx
set_option linter.unusedVariables false
set_option linter.unusedSimpArgs false
attribute [local irreducible] Go.Calls Gx.S Gx.O Gx.D Gx.OpP Gx.OpQ Gx.OpH



set_option maxRecDepth 20000 in
set_option maxHeartbeats 400000 in
theorem c38 (w : World) (j : Nat) (mo rm : Int) (a : Option Addr) (cap : Nat) (L : List LNd) (x : TEnt) (hs : Nt w [] a L) (hB : Bd (pln L)) (hj : j ≤ 3) (hl0 : 0 < L.length) (hT : TOk (j : Int) (pln L)) (hkk : x.key.length ≤ 1000000) (hx0 : entE (j : Int) x = 0) (hx : (pathN (j : Int) (pln L) x.key).2.2 = true) : Calls Tryz.prog 38 #[.agg #[.int .i64 (j : Int), .int .i64 mo, .int .i64 rm, .slice a L.length cap], .agg #[.string (bs x.key), .string (bs x.val)]] w fun en w' => ∃ g : (Option Addr × Nat) × List LNd, en = .returned (.tuple #[.agg #[.int .i64 (j : Int), .int .i64 mo, .int .i64 rm, .slice g.1.1 g.2.length g.1.2], .int .i64 ((lastN (pathN (j : Int) (pln L) x.key).1) : Int)]) ∧ pln g.2 = (repN (j : Int) (pln L) x) ∧ HS w [] [.nodes 26 102 g.1.1 g.1.2 g.2] w' := by
  have hkey : keyOk (j : Int) x.key = true := entE_key hx0
  have hend := path_end hT (by rw [pln_len]; exact hl0) x.key
  obtain ⟨hp1, hp2, hp3, hp4, hp5⟩ := hend
  rw [pln_len] at hp2 hp3
  have hln0 := hB.len
  rw [pln_len] at hln0
  have hsmB : Sm 1000 (pln L) := sm_bd2 hB
  refine enter (args := [_, _]) Tryz.func38 Tryz.ntmps38 rfl rfl (HS.refl w []) ?_
  refine s_seq ?_
  refine s_region ?_
  refine o_h (h_box rfl rfl) rfl (fun b1 _ => ?_)
  refine o_h (h_box rfl rfl) rfl (fun b2 _ => ?_)
  refine o_h (h_alloc rfl zr_24) rfl (fun b3 _ => ?_)
  refine oP ?_
  refine o_nil ?_
  refine s_seq ?_
  refine s_region ?_
  refine o_q (q_loadn rfl rfl sz_24 aPk rfl) rfl ?_
  refine o_h (h_call rfl fn_17 rfl (fun w1 h1 => c17 w1 (j : Int) mo rm a cap L (hs.later h1.nil) hln0 hsmB)) rfl (fun ⟨⟨ga0, gc0⟩, L9⟩ hF9 => ?_)
  dsimp only
  have hL9 : pln L9 = pln L := hF9
  have hl9 : L9.length = L.length := by rw [← pln_len L9, hL9, pln_len]
  have h09 : 0 < L9.length := by omega
  refine o_ex (fun w h => nodes_split h09 h aPk) fun gn => ?_
  refine o_fact (p := ga0 = some ⟨gn, 0, none⟩ ∧ L9.length ≤ gc0 ∧ gc0 ≤ maxLen) (fun w h => ⟨h.1, h.2.1, h.2.2.1⟩) fun hgn => ?_
  obtain ⟨hga, hn9, hm9⟩ := hgn
  subst hga
  refine o_class (fun w h => h.2.2.2) ?_
  have hB9 : Bd (pln L9) := by rw [hL9]; exact hB
  have hT9 : TOk (j : Int) (pln L9) := by rw [hL9]; exact hT
  have hK9 : ∀ i, i < L9.length → ∀ y ∈ (nth L9 i).es, keyOk (j : Int) y.key = true ∧ y.key.length ≤ 1000000 := fun i hi y hy => tok_key hT9 i (by rw [pln_len]; exact hi) y (by rw [pln_nth hi]; exact hy)
  have hlf : (lastN (pathN (j : Int) (pln L) x.key).1) < L9.length := by omega
  have hn9f : nth (pln L) (lastN (pathN (j : Int) (pln L) x.key).1) = (nth L9 (lastN (pathN (j : Int) (pln L) x.key).1)).pl := by have h9 := pln_nth hlf; rw [hL9] at h9; exact h9
  have hat := fnd_lt (hp5 ▸ hx)
  rw [← hp4, hn9f] at hat
  simp only [LNd.pl] at hat
  have hpl4 : plc (j : Int) (nth L9 (lastN (pathN (j : Int) (pln L) x.key).1)).es x.key = (pathN (j : Int) (pln L) x.key).2.1 := by rw [hp4, hn9f]; rfl
  have hel9 := hB.es (lastN (pathN (j : Int) (pln L) x.key).1) (by rw [pln_len]; exact hp3)
  rw [hn9f] at hel9
  simp only [LNd.pl] at hel9
  refine o_h (h_alloc rfl zr_24) rfl (fun b4 _ => ?_)
  refine o_h0 (h_store rfl rfl rfl sz_24 rfl aPt (by simp only [setMany_length, List.length_set, List.length_cons, List.length_nil, List.length_map]; omega) rfl) (fun _ _ => ?_)
  refine o_nil ?_
  refine s_seq ?_
  refine s_region ?_
  refine o_q (q_loadn rfl rfl sz_24 aPk rfl) rfl ?_
  refine o_p (p_fieldAddr rfl rfl fd_26_0 sz_9 rfl) rfl ?_
  refine o_q (q_load rfl rfl sz_9 aPk rfl) rfl ?_
  refine o_h (h_call rfl fn_20 rfl (fun w1 h1 => c20 w1 j mo rm (some ⟨gn, 0, none⟩) gc0 L9 x.key hj h09 hB9 hT9 (HS.nt_at h1 aPk aPk) hkey hkk)) rfl (fun ⟨pa, pc⟩ _ => ?_)
  dsimp only
  rw [hL9]
  refine o_fact (fun w h => HS.pown_some (P := (pathN (j : Int) (pln L) x.key).1) (a := pa) (c := pc) hp1 h aPk) fun hpa => ?_
  obtain ⟨gp, hpa⟩ := hpa
  refine oP ?_
  refine oP ?_
  refine oP ?_
  refine oP ?_
  refine oP ?_
  refine o_nil ?_
  refine s_seq ?_
  refine s_region ?_
  refine oP ?_
  refine oP ?_
  refine o_p (p_len_slice rfl rfl Tryz.underlying30) rfl ?_
  refine oP ?_
  try (refine o_slot (i64w (by omega) (by omega)) ?_)
  refine o_p (p_indexAddr rfl rfl rfl sl_30 ((pathN (j : Int) (pln L) x.key).1.length - 1) (by omega) (by omega) hpa) rfl ?_
  refine o_q (q_load_at rfl rfl sz_3 (fun w h => HS.pown_rd (P := (pathN (j : Int) (pln L) x.key).1) (a := pa) (c := pc) (k := (pathN (j : Int) (pln L) x.key).1.length - 1) (by omega) hpa h aPk)) rfl ?_
  refine o_slot (show _ = Value.int .i64 (((lastN (pathN (j : Int) (pln L) x.key).1) : Nat) : Int) from rfl) ?_
  refine oP ?_
  refine o_nil ?_
  refine s_seq ?_
  refine s_region ?_
  refine o_q (q_loadn rfl rfl sz_24 aPk rfl) rfl ?_
  refine oP ?_
  refine o_p (p_fieldAddr rfl rfl fd_26_0 sz_9 rfl) rfl ?_
  refine o_q (q_load rfl rfl sz_9 aPk rfl) rfl ?_
  refine o_q (q_call rfl fn_61 rfl (fun w1 h1 => by have h9 := c61 w1 j mo rm (some ⟨gn, 0, none⟩) gc0 L9 (lastN (pathN (j : Int) (pln L) x.key).1) x.key hj hlf (HS.nt_at h1 aPk aPk) (by omega) hel9 (hK9 _ hlf) hkey hkk; rw [hpl4] at h9; exact h9)) rfl ?_
  refine oP ?_
  refine oP ?_
  refine oP ?_
  refine oP ?_
  refine oP ?_
  refine o_nil ?_
  refine s_seq ?_
  refine s_weaken (L' := [(3, _), (4, _), (5, _), (6, _), (9, _), (10, _)]) aSx (fun _ h => h) ?_
  refine s_fact (fun w h => HS.es_some (i := (lastN (pathN (j : Int) (pln L) x.key).1)) hlf (by omega) h aPk) fun hge => ?_
  obtain ⟨ge, hge⟩ := hge
  refine s_fact (fun w h => HS.es_room hlf h aPk) fun hrE => ?_
  refine s_class (fun w h => HS.es_open hlf (by omega) hge h aPk) ?_
  refine s_drawB [.blk b4 24 4 [.int .i64 (j : Int), .int .i64 mo, .int .i64 rm, .slice (some ⟨gn, 0, none⟩) L9.length gc0], .blk gn 102 (gc0 * 3) (L9.flatMap LNd.vals), .blk b1 24 4 [.int .i64 (j : Int), .int .i64 mo, .int .i64 rm, .slice a L.length cap], .blk b2 26 2 (TEnt.vals x), .blk b3 24 4 [.int .i64 0, .int .i64 0, .int .i64 0, .slice none 0 0]] [9] mixed ?_
  refine d_p 0 rfl (p_fieldAddr rfl rfl fd_24_3 sz_22 rfl) (by kernel_rfl) rfl rfl ?_
  refine d_q 1 [[]] rfl (q_load rfl rfl sz_22 aPk rfl) (by kernel_rfl) (by kernel_rfl) (by kernel_rfl) rfl ?_
  refine dP 2 ?_
  refine d_p 3 rfl (p_indexAddr rfl rfl rfl sl_22 ((lastN (pathN (j : Int) (pln L) x.key).1)) (by omega) (by omega) rfl) (by kernel_rfl) rfl rfl ?_
  refine d_slot (show _ = Value.pointer (some ⟨gn, (lastN (pathN (j : Int) (pln L) x.key).1) * 3, none⟩) from by rw [Nat.zero_add]) ?_
  refine d_p 4 rfl (p_fieldAddr rfl rfl fd_102_1 sz_77 rfl) (by kernel_rfl) rfl rfl ?_
  refine d_q 5 [[]] rfl (q_load_at rfl rfl sz_77 (fun w h => HS.nd_cell hlf h aPk 1 rfl (by decide))) (by kernel_rfl) (by kernel_rfl) (by kernel_rfl) rfl ?_
  refine dP 6 ?_
  refine d_q 7 [[]] rfl (q_loadn rfl rfl sz_26 aPk rfl) (by kernel_rfl) (by kernel_rfl) (by kernel_rfl) rfl ?_
  refine d_p 8 rfl (p_indexAddr rfl rfl rfl sl_77 ((pathN (j : Int) (pln L) x.key).2.1) (by omega) (by omega) hge) (by kernel_rfl) rfl rfl ?_
  refine d_slot (show _ = Value.pointer (some ⟨ge, (pathN (j : Int) (pln L) x.key).2.1 * 2, none⟩) from by rw [Nat.zero_add]) ?_
  refine d_h0 9 rfl (h_store rfl rfl rfl sz_26 rfl aPt (by rw [flat_length ev2]; show _ + 2 ≤ _; omega) rfl) (by kernel_rfl) (fun w h => h.ent aEt) (fun _ _ => ?_)
  refine d_turn [] (by kernel_rfl) ?_
  refine d_nil (by kernel_rfl) (fun w h => by first | exact h | exact h.ent aEt) ?_
  refine s_seq ?_
  refine s_region ?_
  refine o_q (q_loadn rfl rfl sz_24 aPk rfl) rfl ?_
  refine o_ex (fun w h => HS.es_upd (gn := gn) (cap := gc0) (g := ge) (k := (pathN (j : Int) (pln L) x.key).2.1) (x := x) hlf hat hge h aPk aPk aPk hrE) fun L1 => ?_
  refine o_fact (fun w h => h.1) fun hS1 => ?_
  refine o_class (fun w h => h.2) ?_
  refine oP ?_
  refine o_h0 (h_store rfl rfl rfl sz_24 rfl aPt (by simp only [setMany_length, List.length_set, List.length_cons, List.length_nil, List.length_map]; omega) rfl) (fun _ _ => ?_)
  refine oP ?_
  refine o_nil ?_
  exact s_retv (rs := [.cell 4 24, .tmp 5]) rfl (.cell rfl sz_24 aPk rfl (.tmp rfl (.nil))) (fun w' h' => ⟨((some ⟨gn, 0, none⟩, gc0), L1), by (try simp only [retV]); (try rw [hS1.len]); rfl, by rw [hS1.es, hL9, repN, hn9f]; rfl, nodes_join (h'.ent (Bs := [.blk gn 102 (gc0 * 3) (L1.flatMap LNd.vals), .star (L1.map (subN 26))]) aEt) (by rw [hS1.len]; exact hn9) hm9⟩)

end Go.Proofs

namespace Go.Proofs
open Go Go.RowKit Gx
set_option linter.unusedVariables false
set_option linter.unusedSimpArgs false
attribute [local irreducible] Go.Calls Gx.S Gx.O Gx.D Gx.OpP Gx.OpQ Gx.OpH

theorem fn_37 : isFn Tryz.prog 37 = true := by kernel_rfl
theorem fn_38 : isFn Tryz.prog 38 = true := by kernel_rfl


set_option maxRecDepth 20000 in
set_option maxHeartbeats 400000 in
theorem c7z (w : World) (co mo rm : Int) (a : Option Addr) (cap : Nat) (L : List LNd) (x : TEnt) (hs : Nt w [] a L) (hz : ¬ (tfewB (pln L) = true ∧ tslimB x = true)) : Calls Tryz.prog 7 #[.agg #[.int .i64 co, .int .i64 mo, .int .i64 rm, .slice a L.length cap], .agg #[.string (bs x.key), .string (bs x.val)]] w fun en w' => en = .returned (.bool true) ∧ Below w.heap.size w w' := by
  refine enter (args := [_, _]) Tryz.func7 Tryz.ntmps7 rfl rfl (HS.refl w []) ?_
  refine s_seq ?_
  refine s_region ?_
  refine o_h (h_box rfl rfl) rfl (fun b1 _ => ?_)
  refine o_h (h_box rfl rfl) rfl (fun b2 _ => ?_)
  refine oP ?_
  refine o_nil ?_
  refine s_seq ?_
  refine s_seq ?_
  refine s_region ?_
  refine o_q (q_call rfl fn_13 rfl (fun w1 h1 => c13 w1)) rfl ?_
  refine oP ?_
  refine o_nil ?_
  refine s_cond rfl (fun h3 => ?_) (fun h3 => ?_)
  · try simp only [Bool.not_true] at h3
    exfalso; simp at h3
  · try simp only [Bool.not_true] at h3
    refine s_skip ?_
    refine s_seq ?_
    refine s_seq ?_
    refine s_region ?_
    refine o_q (q_loadn rfl rfl sz_24 aPk rfl) rfl ?_
    refine o_q (q_call rfl fn_14 rfl (fun w1 h1 => c14 w1 co mo rm a cap L (hs.later h1.nil))) rfl ?_
    refine oP ?_
    refine oP ?_
    refine o_or 4 18 22 _ _ rfl
      (by
        intro hg4
        have hs5 := hg4; try simp only [Bool.not_eq_false'] at hs5
        refine o_on 18 _ rfl rfl hg4 ?_
        refine o_q (q_loadn rfl rfl sz_26 aPk rfl) rfl ?_
        refine o_on 18 _ rfl rfl hg4 ?_
        refine o_q (q_call rfl fn_15 rfl (fun w1 h1 => c15 w1 x)) rfl ?_
        refine o_on 18 _ rfl rfl hg4 ?_
        refine oP ?_
        refine o_p (p_pickf rfl rfl hg4 rfl) rfl ?_
        refine o_nil ?_
        exact s_joinN 4 22 _ rfl rfl rfl (fun w h => by first | exact h | exact h.ent aEt))
      (by
        intro hg6
        have hs7 := hg6; try simp only [Bool.not_eq_true'] at hs7
        refine o_off 18 _ rfl rfl hg6 rfl ?_
        refine o_off 18 _ rfl rfl hg6 rfl ?_
        refine o_off 18 _ rfl rfl hg6 rfl ?_
        refine o_p (p_pickt rfl rfl hg6 rfl) rfl ?_
        refine o_nil ?_
        exact s_joinN 4 22 _ rfl rfl rfl (fun w h => by first | exact h | exact h.ent aEt)) ?_
    refine o_nil ?_
    refine s_cond rfl (fun h8 => ?_) (fun h8 => ?_)
    · try simp only [Bool.or_eq_true, Bool.not_eq_true'] at h8
      refine s_seq ?_
      refine s_region ?_
      refine oP ?_
      refine o_nil ?_
      exact s_retv (rs := [.tmp 4]) rfl (.tmp rfl (.nil)) (fun w' h' => ⟨by rfl, h'.below⟩)
    · try simp only [Bool.or_eq_false_iff, Bool.not_eq_false'] at h8
      exfalso; have hq := h8; exact hz (by first | exact hq | simpa using hq)

set_option maxRecDepth 20000 in
set_option maxHeartbeats 400000 in
theorem c7e (w : World) (co mo rm : Int) (a : Option Addr) (cap : Nat) (L : List LNd) (x : TEnt) (hs : Nt w [] a L) (hfw : tfewB (pln L) = true) (hsl : tslimB x = true) (he : ¬ (treE (⟨co, mo, rm, pln L⟩ : Tre)).2 = 0) : Calls Tryz.prog 7 #[.agg #[.int .i64 co, .int .i64 mo, .int .i64 rm, .slice a L.length cap], .agg #[.string (bs x.key), .string (bs x.val)]] w fun en w' => en = .returned (.bool true) ∧ Below w.heap.size w w' := by
  have hB := tfew_bd hfw
  have hkl := tfew_keys hfw
  have hsm := tfew_sm hfw
  have hle := hB.len
  rw [pln_len] at hle
  have hkk : x.key.length ≤ 1000000 := by have h9 := hsl; rw [tslimB, decide_eq_true_eq] at h9; omega
  refine enter (args := [_, _]) Tryz.func7 Tryz.ntmps7 rfl rfl (HS.refl w []) ?_
  refine s_seq ?_
  refine s_region ?_
  refine o_h (h_box rfl rfl) rfl (fun b1 _ => ?_)
  refine o_h (h_box rfl rfl) rfl (fun b2 _ => ?_)
  refine oP ?_
  refine o_nil ?_
  refine s_seq ?_
  refine s_seq ?_
  refine s_region ?_
  refine o_q (q_call rfl fn_13 rfl (fun w1 h1 => c13 w1)) rfl ?_
  refine oP ?_
  refine o_nil ?_
  refine s_cond rfl (fun h3 => ?_) (fun h3 => ?_)
  · try simp only [Bool.not_true] at h3
    exfalso; simp at h3
  · try simp only [Bool.not_true] at h3
    refine s_skip ?_
    refine s_seq ?_
    refine s_seq ?_
    refine s_region ?_
    refine o_q (q_loadn rfl rfl sz_24 aPk rfl) rfl ?_
    refine o_q (q_call rfl fn_14 rfl (fun w1 h1 => c14 w1 co mo rm a cap L (hs.later h1.nil))) rfl ?_
    refine oP ?_
    refine oP ?_
    refine o_or 4 18 22 _ _ rfl
      (by
        intro hg4
        have hs5 := hg4; try simp only [Bool.not_eq_false'] at hs5
        refine o_on 18 _ rfl rfl hg4 ?_
        refine o_q (q_loadn rfl rfl sz_26 aPk rfl) rfl ?_
        refine o_on 18 _ rfl rfl hg4 ?_
        refine o_q (q_call rfl fn_15 rfl (fun w1 h1 => c15 w1 x)) rfl ?_
        refine o_on 18 _ rfl rfl hg4 ?_
        refine oP ?_
        refine o_p (p_pickf rfl rfl hg4 rfl) rfl ?_
        refine o_nil ?_
        exact s_joinN 4 22 _ rfl rfl rfl (fun w h => by first | exact h | exact h.ent aEt))
      (by
        intro hg6
        have hs7 := hg6; try simp only [Bool.not_eq_true'] at hs7
        refine o_off 18 _ rfl rfl hg6 rfl ?_
        refine o_off 18 _ rfl rfl hg6 rfl ?_
        refine o_off 18 _ rfl rfl hg6 rfl ?_
        refine o_p (p_pickt rfl rfl hg6 rfl) rfl ?_
        refine o_nil ?_
        exact s_joinN 4 22 _ rfl rfl rfl (fun w h => by first | exact h | exact h.ent aEt)) ?_
    refine o_nil ?_
    refine s_cond rfl (fun h8 => ?_) (fun h8 => ?_)
    · try simp only [Bool.or_eq_true, Bool.not_eq_true'] at h8
      exfalso; simp [hfw, hsl] at h8
    · try simp only [Bool.or_eq_false_iff, Bool.not_eq_false'] at h8
      refine s_skip ?_
      refine s_seq ?_
      refine s_cutI (α := Nat) [5, 6, 7, 23, 24, 25, 26, 27, 28, 29, 30] (fun y => [(5, .pointer (some ⟨y, 0, none⟩)), (6, .int .i64 0), (7, .int .i64 (treE (⟨co, mo, rm, pln L⟩ : Tre)).2)]) (fun y => HS w [] [.blk y 24 4 [.int .i64 0, .int .i64 0, .int .i64 0, .slice none 0 0], .blk b1 24 4 [.int .i64 co, .int .i64 mo, .int .i64 rm, .slice a L.length cap], .blk b2 26 2 (TEnt.vals x)]) (fun _ => True) ?_ ?_
      · skip
        refine s_draw [9] mixed ?_
        refine d_q 0 [[]] rfl (q_loadn rfl rfl sz_24 aPk rfl) (by kernel_rfl) (by kernel_rfl) (by kernel_rfl) rfl ?_
        refine d_q 2 [[]] rfl (q_loadn rfl rfl sz_26 aPk rfl) (by kernel_rfl) (by kernel_rfl) (by kernel_rfl) rfl ?_
        refine d_two 1 8 rfl rfl  (h_call rfl fn_17 rfl (fun w1 h1 => c17 w1 co mo rm a cap L (hs.later h1.nil) hle hsm)) (h_alloc rfl zr_24) (by kernel_rfl) (fun w h => h.ent aEt) rfl rfl  (fun ⟨⟨ga1, gc1⟩, LC1⟩ hLC1 => ?_) (fun b9 _ => ?_)
        · skip
          refine d_base (fun w h => h.ent aEt) ?_
          dsimp only
          refine d_q 3 [[]] rfl (q_call rfl fn_37 rfl (fun w1 h1 => c37e w1 co mo rm ga1 gc1 LC1 x (HS.nt h1 aPk) (by rw [hLC1]; exact hB) (tfew_keys (by rw [hLC1]; exact hfw)) (by rw [hLC1]; exact he))) (by kernel_rfl) (by kernel_rfl) (by kernel_rfl) rfl ?_
          rw [hLC1]
          refine dP 4 ?_
          refine dP 5 ?_
          refine dP 6 ?_
          refine dP 7 ?_
          refine d_h 8 rfl (h_alloc rfl zr_24) (by kernel_rfl) (fun w h => h.ent aEt) rfl (fun b10 _ => ?_)
          refine d_base (fun w h => h.ent aEt) ?_
          refine d_h0 9 rfl (h_store rfl rfl rfl sz_24 rfl aPt (by simp only [setMany_length, List.length_set, List.length_cons, List.length_nil, List.length_map]; omega) rfl) (by kernel_rfl) (fun w h => h.ent aEt) (fun _ _ => ?_)
          refine d_turn [] (by kernel_rfl) ?_
          refine dP 10 ?_
          refine dP 11 ?_
          refine d_nil (by kernel_rfl) (fun w h => by first | exact h | exact h.ent aEt) ?_
          exact s_joinI b10 trivial aSx (fun w h => h.ent aEt)
        · skip
          refine d_base (fun w h => h.ent aEt) ?_
          refine d_h 1 rfl (h_call rfl fn_17 rfl (fun w1 h1 => c17 w1 co mo rm a cap L (hs.later h1.nil) hle hsm)) (by kernel_rfl) (fun w h => h.ent aEt) rfl (fun ⟨⟨ga1, gc1⟩, LC1⟩ hLC1 => ?_)
          refine d_base (fun w h => h.ent aEt) ?_
          dsimp only
          refine d_q 3 [[]] rfl (q_call rfl fn_37 rfl (fun w1 h1 => c37e w1 co mo rm ga1 gc1 LC1 x (HS.nt h1 aPk) (by rw [hLC1]; exact hB) (tfew_keys (by rw [hLC1]; exact hfw)) (by rw [hLC1]; exact he))) (by kernel_rfl) (by kernel_rfl) (by kernel_rfl) rfl ?_
          rw [hLC1]
          refine dP 4 ?_
          refine dP 5 ?_
          refine dP 6 ?_
          refine dP 7 ?_
          refine d_h0 9 rfl (h_store rfl rfl rfl sz_24 rfl aPt (by simp only [setMany_length, List.length_set, List.length_cons, List.length_nil, List.length_map]; omega) rfl) (by kernel_rfl) (fun w h => h.ent aEt) (fun _ _ => ?_)
          refine d_turn [] (by kernel_rfl) ?_
          refine dP 10 ?_
          refine dP 11 ?_
          refine d_nil (by kernel_rfl) (fun w h => by first | exact h | exact h.ent aEt) ?_
          exact s_joinI b9 trivial aSx (fun w h => h.ent aEt)
      · intro y _
        refine s_seq ?_
        refine s_region ?_
        refine o_q (q_loadn rfl rfl sz_24 aPk rfl) rfl ?_
        refine o_q (q_call rfl fn_18 rfl (fun w1 h1 => c18 w1 co mo rm a cap L (hs.later h1.nil) hB hkl)) rfl ?_
        refine oP ?_
        refine o_nil ?_
        refine s_seq ?_
        refine s_seq ?_
        refine s_region ?_
        refine oP ?_
        refine oP ?_
        refine o_nil ?_
        refine s_cond rfl (fun h11 => ?_) (fun h11 => ?_)
        · try simp only [decide_eq_true_eq] at h11
          exfalso; omega
        · try simp only [decide_eq_false_iff_not] at h11
          refine s_skip ?_
          refine s_seq ?_
          refine s_seq ?_
          refine s_region ?_
          refine oP ?_
          refine oP ?_
          refine o_nil ?_
          refine s_cond rfl (fun h12 => ?_) (fun h12 => ?_)
          · try simp only [decide_eq_true_eq] at h12
            exfalso; omega
          · try simp only [decide_eq_false_iff_not] at h12
            refine s_skip ?_
            refine s_seq ?_
            refine s_seq ?_
            refine s_region ?_
            refine oP ?_
            refine oP ?_
            refine o_nil ?_
            refine s_cond rfl (fun h13 => ?_) (fun h13 => ?_)
            · try simp only [Bool.not_eq_true', decide_eq_false_iff_not] at h13
              refine s_seq ?_
              refine s_region ?_
              refine oP ?_
              refine oP ?_
              refine oP ?_
              refine oP ?_
              refine o_and 4 55 59 _ _ rfl
                (by
                  intro hg14
                  have hs15 := hg14; try simp only [decide_eq_true_eq] at hs15
                  refine o_on 55 _ rfl rfl hg14 ?_
                  refine o_q (q_loadn rfl rfl sz_24 aPk rfl) rfl ?_
                  refine o_on 55 _ rfl rfl hg14 ?_
                  refine o_p (p_build (cs := [_, _, _, _]) rfl rfl pl_24 zr_24 rfl) rfl ?_
                  refine o_on 55 _ rfl rfl hg14 ?_
                  refine o_q (q_call rfl fn_21 rfl (fun w1 h1 => c21 w1 0 0 0 none none 0 0 [] [] nt_nil nt_nil (by decide) (by decide) sm_nil sm_nil rfl)) rfl ?_
                  refine o_p (p_pickt rfl rfl hg14 rfl) rfl ?_
                  refine o_nil ?_
                  exact s_joinN 4 59 _ rfl rfl rfl (fun w h => by first | exact h | exact h.ent aEt))
                (by
                  intro hg16
                  have hs17 := hg16; try simp only [decide_eq_false_iff_not] at hs17
                  refine o_off 55 _ rfl rfl hg16 rfl ?_
                  refine o_off 55 _ rfl rfl hg16 rfl ?_
                  refine o_off 55 _ rfl rfl hg16 rfl ?_
                  refine o_p (p_pickf rfl rfl hg16 rfl) rfl ?_
                  refine o_nil ?_
                  exact s_joinN 4 59 _ rfl rfl rfl (fun w h => by first | exact h | exact h.ent aEt)) ?_
              refine oP ?_
              refine o_and 3 60 63 _ _ rfl
                (by
                  intro hg18
                  have hs19 := hg18; try simp only [Bool.and_eq_true, decide_eq_true_eq] at hs19
                  refine o_on 60 _ rfl rfl hg18 ?_
                  refine oP ?_
                  refine o_on 60 _ rfl rfl hg18 ?_
                  refine oP ?_
                  refine o_p (p_pickt rfl rfl hg18 rfl) rfl ?_
                  refine o_nil ?_
                  exact s_joinN 3 63 _ rfl rfl rfl (fun w h => by first | exact h | exact h.ent aEt))
                (by
                  intro hg20
                  have hs21 := hg20; try simp only [Bool.and_eq_false_iff, decide_eq_false_iff_not] at hs21
                  refine o_off 60 _ rfl rfl hg20 rfl ?_
                  refine o_off 60 _ rfl rfl hg20 rfl ?_
                  refine o_p (p_pickf rfl rfl hg20 rfl) rfl ?_
                  refine o_nil ?_
                  exact s_joinN 3 63 _ rfl rfl rfl (fun w h => by first | exact h | exact h.ent aEt)) ?_
              refine oP ?_
              refine o_nil ?_
              exact s_retv (rs := [.tmp 4]) rfl (.tmp rfl (.nil)) (fun w' h' => ⟨by simp [retV], h'.below⟩)
            · try simp only [Bool.not_eq_false', decide_eq_true_eq] at h13
              exfalso; omega

set_option maxRecDepth 20000 in
set_option maxHeartbeats 400000 in
theorem c7x (w : World) (j : Nat) (mo rm : Int) (a : Option Addr) (cap : Nat) (L : List LNd) (x : TEnt) (hs : Nt w [] a L) (hfw : tfewB (pln L) = true) (hsl : tslimB x = true) (h0 : (treE (⟨(j : Int), mo, rm, pln L⟩ : Tre)).2 = 0) (hx : ¬ entE (j : Int) x = 0) : Calls Tryz.prog 7 #[.agg #[.int .i64 (j : Int), .int .i64 mo, .int .i64 rm, .slice a L.length cap], .agg #[.string (bs x.key), .string (bs x.val)]] w fun en w' => en = .returned (.bool true) ∧ Below w.heap.size w w' := by
  have hB := tfew_bd hfw
  have hkl := tfew_keys hfw
  have hsm := tfew_sm hfw
  have hle := hB.len
  rw [pln_len] at hle
  have hkk : x.key.length ≤ 1000000 := by have h9 := hsl; rw [tslimB, decide_eq_true_eq] at h9; omega
  obtain ⟨hc0, hz0, hl0, hl120, hn0, _, _⟩ := treE_0 h0
  rw [show ((⟨(j : Int), mo, rm, pln L⟩ : Tre)).ns = pln L from rfl, pln_len] at hl0 hl120
  have hj : j ≤ 3 := by obtain ⟨j9, e9, hj9⟩ := col_ok hc0; have e8 : ((j : Nat) : Int) = (j9 : Int) := e9; omega
  have hT : TOk (j : Int) (pln L) := tok_of (t := (⟨(j : Int), mo, rm, pln L⟩ : Tre)) hn0
  have hmo := (sizE_0 hz0).1
  simp only [] at hmo
  refine enter (args := [_, _]) Tryz.func7 Tryz.ntmps7 rfl rfl (HS.refl w []) ?_
  refine s_seq ?_
  refine s_region ?_
  refine o_h (h_box rfl rfl) rfl (fun b1 _ => ?_)
  refine o_h (h_box rfl rfl) rfl (fun b2 _ => ?_)
  refine oP ?_
  refine o_nil ?_
  refine s_seq ?_
  refine s_seq ?_
  refine s_region ?_
  refine o_q (q_call rfl fn_13 rfl (fun w1 h1 => c13 w1)) rfl ?_
  refine oP ?_
  refine o_nil ?_
  refine s_cond rfl (fun h3 => ?_) (fun h3 => ?_)
  · try simp only [Bool.not_true] at h3
    exfalso; simp at h3
  · try simp only [Bool.not_true] at h3
    refine s_skip ?_
    refine s_seq ?_
    refine s_seq ?_
    refine s_region ?_
    refine o_q (q_loadn rfl rfl sz_24 aPk rfl) rfl ?_
    refine o_q (q_call rfl fn_14 rfl (fun w1 h1 => c14 w1 (j : Int) mo rm a cap L (hs.later h1.nil))) rfl ?_
    refine oP ?_
    refine oP ?_
    refine o_or 4 18 22 _ _ rfl
      (by
        intro hg4
        have hs5 := hg4; try simp only [Bool.not_eq_false'] at hs5
        refine o_on 18 _ rfl rfl hg4 ?_
        refine o_q (q_loadn rfl rfl sz_26 aPk rfl) rfl ?_
        refine o_on 18 _ rfl rfl hg4 ?_
        refine o_q (q_call rfl fn_15 rfl (fun w1 h1 => c15 w1 x)) rfl ?_
        refine o_on 18 _ rfl rfl hg4 ?_
        refine oP ?_
        refine o_p (p_pickf rfl rfl hg4 rfl) rfl ?_
        refine o_nil ?_
        exact s_joinN 4 22 _ rfl rfl rfl (fun w h => by first | exact h | exact h.ent aEt))
      (by
        intro hg6
        have hs7 := hg6; try simp only [Bool.not_eq_true'] at hs7
        refine o_off 18 _ rfl rfl hg6 rfl ?_
        refine o_off 18 _ rfl rfl hg6 rfl ?_
        refine o_off 18 _ rfl rfl hg6 rfl ?_
        refine o_p (p_pickt rfl rfl hg6 rfl) rfl ?_
        refine o_nil ?_
        exact s_joinN 4 22 _ rfl rfl rfl (fun w h => by first | exact h | exact h.ent aEt)) ?_
    refine o_nil ?_
    refine s_cond rfl (fun h8 => ?_) (fun h8 => ?_)
    · try simp only [Bool.or_eq_true, Bool.not_eq_true'] at h8
      exfalso; simp [hfw, hsl] at h8
    · try simp only [Bool.or_eq_false_iff, Bool.not_eq_false'] at h8
      refine s_skip ?_
      refine s_seq ?_
      refine s_cutI (α := Nat) [5, 6, 7, 23, 24, 25, 26, 27, 28, 29, 30] (fun y => [(5, .pointer (some ⟨y, 0, none⟩)), (6, .int .i64 0), (7, .int .i64 (entE (j : Int) x))]) (fun y => HS w [] [.blk y 24 4 [.int .i64 0, .int .i64 0, .int .i64 0, .slice none 0 0], .blk b1 24 4 [.int .i64 (j : Int), .int .i64 mo, .int .i64 rm, .slice a L.length cap], .blk b2 26 2 (TEnt.vals x)]) (fun _ => True) ?_ ?_
      · skip
        refine s_draw [9] mixed ?_
        refine d_q 0 [[]] rfl (q_loadn rfl rfl sz_24 aPk rfl) (by kernel_rfl) (by kernel_rfl) (by kernel_rfl) rfl ?_
        refine d_q 2 [[]] rfl (q_loadn rfl rfl sz_26 aPk rfl) (by kernel_rfl) (by kernel_rfl) (by kernel_rfl) rfl ?_
        refine d_two 1 8 rfl rfl  (h_call rfl fn_17 rfl (fun w1 h1 => c17 w1 (j : Int) mo rm a cap L (hs.later h1.nil) hle hsm)) (h_alloc rfl zr_24) (by kernel_rfl) (fun w h => h.ent aEt) rfl rfl  (fun ⟨⟨ga1, gc1⟩, LC1⟩ hLC1 => ?_) (fun b9 _ => ?_)
        · skip
          refine d_base (fun w h => h.ent aEt) ?_
          dsimp only
          refine d_q 3 [[]] rfl (q_call rfl fn_37 rfl (fun w1 h1 => c37x w1 j mo rm ga1 gc1 LC1 x (HS.nt h1 aPk) (by rw [hLC1]; exact hB) (tfew_keys (by rw [hLC1]; exact hfw)) hkk (by rw [hLC1]; exact h0) hx)) (by kernel_rfl) (by kernel_rfl) (by kernel_rfl) rfl ?_
          try rw [hLC1]
          refine dP 4 ?_
          refine dP 5 ?_
          refine dP 6 ?_
          refine dP 7 ?_
          refine d_h 8 rfl (h_alloc rfl zr_24) (by kernel_rfl) (fun w h => h.ent aEt) rfl (fun b10 _ => ?_)
          refine d_base (fun w h => h.ent aEt) ?_
          refine d_h0 9 rfl (h_store rfl rfl rfl sz_24 rfl aPt (by simp only [setMany_length, List.length_set, List.length_cons, List.length_nil, List.length_map]; omega) rfl) (by kernel_rfl) (fun w h => h.ent aEt) (fun _ _ => ?_)
          refine d_turn [] (by kernel_rfl) ?_
          refine dP 10 ?_
          refine dP 11 ?_
          refine d_nil (by kernel_rfl) (fun w h => by first | exact h | exact h.ent aEt) ?_
          exact s_joinI b10 trivial aSx (fun w h => h.ent aEt)
        · skip
          refine d_base (fun w h => h.ent aEt) ?_
          refine d_h 1 rfl (h_call rfl fn_17 rfl (fun w1 h1 => c17 w1 (j : Int) mo rm a cap L (hs.later h1.nil) hle hsm)) (by kernel_rfl) (fun w h => h.ent aEt) rfl (fun ⟨⟨ga1, gc1⟩, LC1⟩ hLC1 => ?_)
          refine d_base (fun w h => h.ent aEt) ?_
          dsimp only
          refine d_q 3 [[]] rfl (q_call rfl fn_37 rfl (fun w1 h1 => c37x w1 j mo rm ga1 gc1 LC1 x (HS.nt h1 aPk) (by rw [hLC1]; exact hB) (tfew_keys (by rw [hLC1]; exact hfw)) hkk (by rw [hLC1]; exact h0) hx)) (by kernel_rfl) (by kernel_rfl) (by kernel_rfl) rfl ?_
          try rw [hLC1]
          refine dP 4 ?_
          refine dP 5 ?_
          refine dP 6 ?_
          refine dP 7 ?_
          refine d_h0 9 rfl (h_store rfl rfl rfl sz_24 rfl aPt (by simp only [setMany_length, List.length_set, List.length_cons, List.length_nil, List.length_map]; omega) rfl) (by kernel_rfl) (fun w h => h.ent aEt) (fun _ _ => ?_)
          refine d_turn [] (by kernel_rfl) ?_
          refine dP 10 ?_
          refine dP 11 ?_
          refine d_nil (by kernel_rfl) (fun w h => by first | exact h | exact h.ent aEt) ?_
          exact s_joinI b9 trivial aSx (fun w h => h.ent aEt)
      · intro y _
        refine s_seq ?_
        refine s_region ?_
        refine o_q (q_loadn rfl rfl sz_24 aPk rfl) rfl ?_
        refine o_q (q_call rfl fn_18 rfl (fun w1 h1 => c18 w1 (j : Int) mo rm a cap L (hs.later h1.nil) hB hkl)) rfl ?_
        refine oP ?_
        refine o_nil ?_
        refine s_seq ?_
        refine s_seq ?_
        refine s_region ?_
        refine oP ?_
        refine oP ?_
        refine o_nil ?_
        refine s_cond rfl (fun h11 => ?_) (fun h11 => ?_)
        · try simp only [decide_eq_true_eq] at h11
          refine s_region ?_
          refine o_p (p_fieldAddr rfl rfl fd_24_0 sz_3 rfl) rfl ?_
          refine o_q (q_load rfl rfl sz_3 aPk rfl) rfl ?_
          refine o_q (q_loadn rfl rfl sz_26 aPk rfl) rfl ?_
          refine o_q (q_call rfl fn_19 rfl (fun w1 h1 => c19 w1 j x hj hkk)) rfl ?_
          refine oP ?_
          refine o_nil ?_
          refine s_seq ?_
          refine s_seq ?_
          refine s_region ?_
          refine oP ?_
          refine oP ?_
          refine o_nil ?_
          refine s_cond rfl (fun h12 => ?_) (fun h12 => ?_)
          · try simp only [decide_eq_true_eq] at h12
            exfalso; omega
          · try simp only [decide_eq_false_iff_not] at h12
            refine s_skip ?_
            refine s_seq ?_
            refine s_seq ?_
            refine s_region ?_
            refine oP ?_
            refine oP ?_
            refine o_nil ?_
            refine s_cond rfl (fun h13 => ?_) (fun h13 => ?_)
            · try simp only [Bool.not_eq_true', decide_eq_false_iff_not] at h13
              refine s_seq ?_
              refine s_region ?_
              refine oP ?_
              refine oP ?_
              refine oP ?_
              refine oP ?_
              refine o_and 4 55 59 _ _ rfl
                (by
                  intro hg14
                  have hs15 := hg14; try simp only [decide_eq_true_eq] at hs15
                  refine o_on 55 _ rfl rfl hg14 ?_
                  refine o_q (q_loadn rfl rfl sz_24 aPk rfl) rfl ?_
                  refine o_on 55 _ rfl rfl hg14 ?_
                  refine o_p (p_build (cs := [_, _, _, _]) rfl rfl pl_24 zr_24 rfl) rfl ?_
                  refine o_on 55 _ rfl rfl hg14 ?_
                  refine o_q (q_call rfl fn_21 rfl (fun w1 h1 => c21 w1 0 0 0 none none 0 0 [] [] nt_nil nt_nil (by decide) (by decide) sm_nil sm_nil rfl)) rfl ?_
                  refine o_p (p_pickt rfl rfl hg14 rfl) rfl ?_
                  refine o_nil ?_
                  exact s_joinN 4 59 _ rfl rfl rfl (fun w h => by first | exact h | exact h.ent aEt))
                (by
                  intro hg16
                  have hs17 := hg16; try simp only [decide_eq_false_iff_not] at hs17
                  refine o_off 55 _ rfl rfl hg16 rfl ?_
                  refine o_off 55 _ rfl rfl hg16 rfl ?_
                  refine o_off 55 _ rfl rfl hg16 rfl ?_
                  refine o_p (p_pickf rfl rfl hg16 rfl) rfl ?_
                  refine o_nil ?_
                  exact s_joinN 4 59 _ rfl rfl rfl (fun w h => by first | exact h | exact h.ent aEt)) ?_
              refine oP ?_
              refine o_and 3 60 63 _ _ rfl
                (by
                  intro hg18
                  have hs19 := hg18; try simp only [Bool.and_eq_true, decide_eq_true_eq] at hs19
                  refine o_on 60 _ rfl rfl hg18 ?_
                  refine oP ?_
                  refine o_on 60 _ rfl rfl hg18 ?_
                  refine oP ?_
                  refine o_p (p_pickt rfl rfl hg18 rfl) rfl ?_
                  refine o_nil ?_
                  exact s_joinN 3 63 _ rfl rfl rfl (fun w h => by first | exact h | exact h.ent aEt))
                (by
                  intro hg20
                  have hs21 := hg20; try simp only [Bool.and_eq_false_iff, decide_eq_false_iff_not] at hs21
                  refine o_off 60 _ rfl rfl hg20 rfl ?_
                  refine o_off 60 _ rfl rfl hg20 rfl ?_
                  refine o_p (p_pickf rfl rfl hg20 rfl) rfl ?_
                  refine o_nil ?_
                  exact s_joinN 3 63 _ rfl rfl rfl (fun w h => by first | exact h | exact h.ent aEt)) ?_
              refine oP ?_
              refine o_nil ?_
              exact s_retv (rs := [.tmp 4]) rfl (.tmp rfl (.nil)) (fun w' h' => ⟨by simp [retV], h'.below⟩)
            · try simp only [Bool.not_eq_false', decide_eq_true_eq] at h13
              exfalso; omega
        · try simp only [decide_eq_false_iff_not] at h11
          exfalso; omega

set_option maxRecDepth 20000 in
set_option maxHeartbeats 400000 in
theorem c7m (w : World) (j : Nat) (mo rm : Int) (a : Option Addr) (cap : Nat) (L : List LNd) (x : TEnt) (hs : Nt w [] a L) (hfw : tfewB (pln L) = true) (hsl : tslimB x = true) (h0 : (treE (⟨(j : Int), mo, rm, pln L⟩ : Tre)).2 = 0) (hx0 : entE (j : Int) x = 0) (hx : ¬ (pathN (j : Int) (pln L) x.key).2.2 = true) : Calls Tryz.prog 7 #[.agg #[.int .i64 (j : Int), .int .i64 mo, .int .i64 rm, .slice a L.length cap], .agg #[.string (bs x.key), .string (bs x.val)]] w fun en w' => en = .returned (.bool true) ∧ Below w.heap.size w w' := by
  have hB := tfew_bd hfw
  have hkl := tfew_keys hfw
  have hsm := tfew_sm hfw
  have hle := hB.len
  rw [pln_len] at hle
  have hkk : x.key.length ≤ 1000000 := by have h9 := hsl; rw [tslimB, decide_eq_true_eq] at h9; omega
  obtain ⟨hc0, hz0, hl0, hl120, hn0, _, _⟩ := treE_0 h0
  rw [show ((⟨(j : Int), mo, rm, pln L⟩ : Tre)).ns = pln L from rfl, pln_len] at hl0 hl120
  have hj : j ≤ 3 := by obtain ⟨j9, e9, hj9⟩ := col_ok hc0; have e8 : ((j : Nat) : Int) = (j9 : Int) := e9; omega
  have hT : TOk (j : Int) (pln L) := tok_of (t := (⟨(j : Int), mo, rm, pln L⟩ : Tre)) hn0
  have hmo := (sizE_0 hz0).1
  simp only [] at hmo
  refine enter (args := [_, _]) Tryz.func7 Tryz.ntmps7 rfl rfl (HS.refl w []) ?_
  refine s_seq ?_
  refine s_region ?_
  refine o_h (h_box rfl rfl) rfl (fun b1 _ => ?_)
  refine o_h (h_box rfl rfl) rfl (fun b2 _ => ?_)
  refine oP ?_
  refine o_nil ?_
  refine s_seq ?_
  refine s_seq ?_
  refine s_region ?_
  refine o_q (q_call rfl fn_13 rfl (fun w1 h1 => c13 w1)) rfl ?_
  refine oP ?_
  refine o_nil ?_
  refine s_cond rfl (fun h3 => ?_) (fun h3 => ?_)
  · try simp only [Bool.not_true] at h3
    exfalso; simp at h3
  · try simp only [Bool.not_true] at h3
    refine s_skip ?_
    refine s_seq ?_
    refine s_seq ?_
    refine s_region ?_
    refine o_q (q_loadn rfl rfl sz_24 aPk rfl) rfl ?_
    refine o_q (q_call rfl fn_14 rfl (fun w1 h1 => c14 w1 (j : Int) mo rm a cap L (hs.later h1.nil))) rfl ?_
    refine oP ?_
    refine oP ?_
    refine o_or 4 18 22 _ _ rfl
      (by
        intro hg4
        have hs5 := hg4; try simp only [Bool.not_eq_false'] at hs5
        refine o_on 18 _ rfl rfl hg4 ?_
        refine o_q (q_loadn rfl rfl sz_26 aPk rfl) rfl ?_
        refine o_on 18 _ rfl rfl hg4 ?_
        refine o_q (q_call rfl fn_15 rfl (fun w1 h1 => c15 w1 x)) rfl ?_
        refine o_on 18 _ rfl rfl hg4 ?_
        refine oP ?_
        refine o_p (p_pickf rfl rfl hg4 rfl) rfl ?_
        refine o_nil ?_
        exact s_joinN 4 22 _ rfl rfl rfl (fun w h => by first | exact h | exact h.ent aEt))
      (by
        intro hg6
        have hs7 := hg6; try simp only [Bool.not_eq_true'] at hs7
        refine o_off 18 _ rfl rfl hg6 rfl ?_
        refine o_off 18 _ rfl rfl hg6 rfl ?_
        refine o_off 18 _ rfl rfl hg6 rfl ?_
        refine o_p (p_pickt rfl rfl hg6 rfl) rfl ?_
        refine o_nil ?_
        exact s_joinN 4 22 _ rfl rfl rfl (fun w h => by first | exact h | exact h.ent aEt)) ?_
    refine o_nil ?_
    refine s_cond rfl (fun h8 => ?_) (fun h8 => ?_)
    · try simp only [Bool.or_eq_true, Bool.not_eq_true'] at h8
      exfalso; simp [hfw, hsl] at h8
    · try simp only [Bool.or_eq_false_iff, Bool.not_eq_false'] at h8
      refine s_skip ?_
      refine s_seq ?_
      refine s_cutI (α := Nat) [5, 6, 7, 23, 24, 25, 26, 27, 28, 29, 30] (fun y => [(5, .pointer (some ⟨y, 0, none⟩)), (6, .int .i64 0), (7, .int .i64 6)]) (fun y => HS w [] [.blk y 24 4 [.int .i64 0, .int .i64 0, .int .i64 0, .slice none 0 0], .blk b1 24 4 [.int .i64 (j : Int), .int .i64 mo, .int .i64 rm, .slice a L.length cap], .blk b2 26 2 (TEnt.vals x)]) (fun _ => True) ?_ ?_
      · skip
        refine s_draw [9] mixed ?_
        refine d_q 0 [[]] rfl (q_loadn rfl rfl sz_24 aPk rfl) (by kernel_rfl) (by kernel_rfl) (by kernel_rfl) rfl ?_
        refine d_q 2 [[]] rfl (q_loadn rfl rfl sz_26 aPk rfl) (by kernel_rfl) (by kernel_rfl) (by kernel_rfl) rfl ?_
        refine d_two 1 8 rfl rfl  (h_call rfl fn_17 rfl (fun w1 h1 => c17 w1 (j : Int) mo rm a cap L (hs.later h1.nil) hle hsm)) (h_alloc rfl zr_24) (by kernel_rfl) (fun w h => h.ent aEt) rfl rfl  (fun ⟨⟨ga1, gc1⟩, LC1⟩ hLC1 => ?_) (fun b9 _ => ?_)
        · skip
          refine d_base (fun w h => h.ent aEt) ?_
          dsimp only
          refine d_q 3 [[]] rfl (q_call rfl fn_37 rfl (fun w1 h1 => c37m w1 j mo rm ga1 gc1 LC1 x (HS.nt h1 aPk) (by rw [hLC1]; exact hB) (tfew_keys (by rw [hLC1]; exact hfw)) hkk (by rw [hLC1]; exact h0) hx0 (by rw [hLC1]; exact hx))) (by kernel_rfl) (by kernel_rfl) (by kernel_rfl) rfl ?_
          try rw [hLC1]
          refine dP 4 ?_
          refine dP 5 ?_
          refine dP 6 ?_
          refine dP 7 ?_
          refine d_h 8 rfl (h_alloc rfl zr_24) (by kernel_rfl) (fun w h => h.ent aEt) rfl (fun b10 _ => ?_)
          refine d_base (fun w h => h.ent aEt) ?_
          refine d_h0 9 rfl (h_store rfl rfl rfl sz_24 rfl aPt (by simp only [setMany_length, List.length_set, List.length_cons, List.length_nil, List.length_map]; omega) rfl) (by kernel_rfl) (fun w h => h.ent aEt) (fun _ _ => ?_)
          refine d_turn [] (by kernel_rfl) ?_
          refine dP 10 ?_
          refine dP 11 ?_
          refine d_nil (by kernel_rfl) (fun w h => by first | exact h | exact h.ent aEt) ?_
          exact s_joinI b10 trivial aSx (fun w h => h.ent aEt)
        · skip
          refine d_base (fun w h => h.ent aEt) ?_
          refine d_h 1 rfl (h_call rfl fn_17 rfl (fun w1 h1 => c17 w1 (j : Int) mo rm a cap L (hs.later h1.nil) hle hsm)) (by kernel_rfl) (fun w h => h.ent aEt) rfl (fun ⟨⟨ga1, gc1⟩, LC1⟩ hLC1 => ?_)
          refine d_base (fun w h => h.ent aEt) ?_
          dsimp only
          refine d_q 3 [[]] rfl (q_call rfl fn_37 rfl (fun w1 h1 => c37m w1 j mo rm ga1 gc1 LC1 x (HS.nt h1 aPk) (by rw [hLC1]; exact hB) (tfew_keys (by rw [hLC1]; exact hfw)) hkk (by rw [hLC1]; exact h0) hx0 (by rw [hLC1]; exact hx))) (by kernel_rfl) (by kernel_rfl) (by kernel_rfl) rfl ?_
          try rw [hLC1]
          refine dP 4 ?_
          refine dP 5 ?_
          refine dP 6 ?_
          refine dP 7 ?_
          refine d_h0 9 rfl (h_store rfl rfl rfl sz_24 rfl aPt (by simp only [setMany_length, List.length_set, List.length_cons, List.length_nil, List.length_map]; omega) rfl) (by kernel_rfl) (fun w h => h.ent aEt) (fun _ _ => ?_)
          refine d_turn [] (by kernel_rfl) ?_
          refine dP 10 ?_
          refine dP 11 ?_
          refine d_nil (by kernel_rfl) (fun w h => by first | exact h | exact h.ent aEt) ?_
          exact s_joinI b9 trivial aSx (fun w h => h.ent aEt)
      · intro y _
        refine s_seq ?_
        refine s_region ?_
        refine o_q (q_loadn rfl rfl sz_24 aPk rfl) rfl ?_
        refine o_q (q_call rfl fn_18 rfl (fun w1 h1 => c18 w1 (j : Int) mo rm a cap L (hs.later h1.nil) hB hkl)) rfl ?_
        refine oP ?_
        refine o_nil ?_
        refine s_seq ?_
        refine s_seq ?_
        refine s_region ?_
        refine oP ?_
        refine oP ?_
        refine o_nil ?_
        refine s_cond rfl (fun h11 => ?_) (fun h11 => ?_)
        · try simp only [decide_eq_true_eq] at h11
          refine s_region ?_
          refine o_p (p_fieldAddr rfl rfl fd_24_0 sz_3 rfl) rfl ?_
          refine o_q (q_load rfl rfl sz_3 aPk rfl) rfl ?_
          refine o_q (q_loadn rfl rfl sz_26 aPk rfl) rfl ?_
          refine o_q (q_call rfl fn_19 rfl (fun w1 h1 => c19 w1 j x hj hkk)) rfl ?_
          refine oP ?_
          refine o_nil ?_
          refine s_seq ?_
          refine s_seq ?_
          refine s_region ?_
          refine oP ?_
          refine oP ?_
          refine o_nil ?_
          refine s_cond rfl (fun h12 => ?_) (fun h12 => ?_)
          · try simp only [decide_eq_true_eq] at h12
            refine s_seq ?_
            refine s_region ?_
            refine o_q (q_loadn rfl rfl sz_24 aPk rfl) rfl ?_
            refine o_p (p_fieldAddr rfl rfl fd_26_0 sz_9 rfl) rfl ?_
            refine o_q (q_load rfl rfl sz_9 aPk rfl) rfl ?_
            refine o_h (h_call rfl fn_20 rfl (fun w1 h1 => c20 w1 j mo rm a cap L x.key hj hl0 hB hT (hs.later h1.nil) (entE_key hx0) hkk)) rfl (fun ⟨pa, pc⟩ _ => ?_)
            dsimp only
            refine oP ?_
            refine oP ?_
            refine oP ?_
            refine oP ?_
            refine oP ?_
            refine o_nil ?_
            refine s_seq ?_
            refine s_weaken (L' := [(2, _), (3, _), (4, _), (5, _), (6, _), (7, _), (8, _), (10, _)]) aSx (fun _ h => h) ?_
            refine s_region ?_
            refine oP ?_
            refine oP ?_
            refine o_nil ?_
            refine s_cond rfl (fun h13 => ?_) (fun h13 => ?_)
            · try simp only [Bool.not_eq_true'] at h13
              refine s_region ?_
              refine oP ?_
              refine o_nil ?_
              refine s_seq ?_
              refine s_seq ?_
              refine s_region ?_
              refine oP ?_
              refine oP ?_
              refine o_nil ?_
              refine s_cond rfl (fun h14 => ?_) (fun h14 => ?_)
              · try simp only [Bool.not_eq_true', decide_eq_false_iff_not] at h14
                refine s_seq ?_
                refine s_region ?_
                refine oP ?_
                refine oP ?_
                refine oP ?_
                refine oP ?_
                refine o_and 4 55 59 _ _ rfl
                  (by
                    intro hg15
                    have hs16 := hg15; try simp only [decide_eq_true_eq] at hs16
                    refine o_on 55 _ rfl rfl hg15 ?_
                    refine o_q (q_loadn rfl rfl sz_24 aPk rfl) rfl ?_
                    refine o_on 55 _ rfl rfl hg15 ?_
                    refine o_p (p_build (cs := [_, _, _, _]) rfl rfl pl_24 zr_24 rfl) rfl ?_
                    refine o_on 55 _ rfl rfl hg15 ?_
                    refine o_q (q_call rfl fn_21 rfl (fun w1 h1 => c21 w1 0 0 0 none none 0 0 [] [] nt_nil nt_nil (by decide) (by decide) sm_nil sm_nil rfl)) rfl ?_
                    refine o_p (p_pickt rfl rfl hg15 rfl) rfl ?_
                    refine o_nil ?_
                    exact s_joinN 4 59 _ rfl rfl rfl (fun w h => by first | exact h | exact h.ent aEt))
                  (by
                    intro hg17
                    have hs18 := hg17; try simp only [decide_eq_false_iff_not] at hs18
                    refine o_off 55 _ rfl rfl hg17 rfl ?_
                    refine o_off 55 _ rfl rfl hg17 rfl ?_
                    refine o_off 55 _ rfl rfl hg17 rfl ?_
                    refine o_p (p_pickf rfl rfl hg17 rfl) rfl ?_
                    refine o_nil ?_
                    exact s_joinN 4 59 _ rfl rfl rfl (fun w h => by first | exact h | exact h.ent aEt)) ?_
                refine oP ?_
                refine o_and 3 60 63 _ _ rfl
                  (by
                    intro hg19
                    have hs20 := hg19; try simp only [Bool.and_eq_true, decide_eq_true_eq] at hs20
                    refine o_on 60 _ rfl rfl hg19 ?_
                    refine oP ?_
                    refine o_on 60 _ rfl rfl hg19 ?_
                    refine oP ?_
                    refine o_p (p_pickt rfl rfl hg19 rfl) rfl ?_
                    refine o_nil ?_
                    exact s_joinN 3 63 _ rfl rfl rfl (fun w h => by first | exact h | exact h.ent aEt))
                  (by
                    intro hg21
                    have hs22 := hg21; try simp only [Bool.and_eq_false_iff, decide_eq_false_iff_not] at hs22
                    refine o_off 60 _ rfl rfl hg21 rfl ?_
                    refine o_off 60 _ rfl rfl hg21 rfl ?_
                    refine o_p (p_pickf rfl rfl hg21 rfl) rfl ?_
                    refine o_nil ?_
                    exact s_joinN 3 63 _ rfl rfl rfl (fun w h => by first | exact h | exact h.ent aEt)) ?_
                refine oP ?_
                refine o_nil ?_
                exact s_retv (rs := [.tmp 4]) rfl (.tmp rfl (.nil)) (fun w' h' => ⟨by simp [retV], h'.below⟩)
              · try simp only [Bool.not_eq_false', decide_eq_true_eq] at h14
                exfalso; omega
            · try simp only [Bool.not_eq_false'] at h13
              exfalso; first | exact hx h13 | simp_all
          · try simp only [decide_eq_false_iff_not] at h12
            exfalso; omega
        · try simp only [decide_eq_false_iff_not] at h11
          exfalso; omega

set_option maxRecDepth 20000 in
set_option maxHeartbeats 400000 in
theorem c7o (w : World) (j : Nat) (mo rm : Int) (a : Option Addr) (cap : Nat) (L : List LNd) (x : TEnt) (hs : Nt w [] a L) (hfw : tfewB (pln L) = true) (hsl : tslimB x = true) (h0 : (treE (⟨(j : Int), mo, rm, pln L⟩ : Tre)).2 = 0) (hx0 : entE (j : Int) x = 0) (hx : (pathN (j : Int) (pln L) x.key).2.2 = true) : Calls Tryz.prog 7 #[.agg #[.int .i64 (j : Int), .int .i64 mo, .int .i64 rm, .slice a L.length cap], .agg #[.string (bs x.key), .string (bs x.val)]] w fun en w' => en = .returned (.bool true) ∧ Below w.heap.size w w' := by
  have hB := tfew_bd hfw
  have hkl := tfew_keys hfw
  have hsm := tfew_sm hfw
  have hle := hB.len
  rw [pln_len] at hle
  have hkk : x.key.length ≤ 1000000 := by have h9 := hsl; rw [tslimB, decide_eq_true_eq] at h9; omega
  obtain ⟨hc0, hz0, hl0, hl120, hn0, _, _⟩ := treE_0 h0
  rw [show ((⟨(j : Int), mo, rm, pln L⟩ : Tre)).ns = pln L from rfl, pln_len] at hl0 hl120
  have hj : j ≤ 3 := by obtain ⟨j9, e9, hj9⟩ := col_ok hc0; have e8 : ((j : Nat) : Int) = (j9 : Int) := e9; omega
  have hT : TOk (j : Int) (pln L) := tok_of (t := (⟨(j : Int), mo, rm, pln L⟩ : Tre)) hn0
  have hmo := (sizE_0 hz0).1
  simp only [] at hmo
  refine enter (args := [_, _]) Tryz.func7 Tryz.ntmps7 rfl rfl (HS.refl w []) ?_
  refine s_seq ?_
  refine s_region ?_
  refine o_h (h_box rfl rfl) rfl (fun b1 _ => ?_)
  refine o_h (h_box rfl rfl) rfl (fun b2 _ => ?_)
  refine oP ?_
  refine o_nil ?_
  refine s_seq ?_
  refine s_seq ?_
  refine s_region ?_
  refine o_q (q_call rfl fn_13 rfl (fun w1 h1 => c13 w1)) rfl ?_
  refine oP ?_
  refine o_nil ?_
  refine s_cond rfl (fun h3 => ?_) (fun h3 => ?_)
  · try simp only [Bool.not_true] at h3
    exfalso; simp at h3
  · try simp only [Bool.not_true] at h3
    refine s_skip ?_
    refine s_seq ?_
    refine s_seq ?_
    refine s_region ?_
    refine o_q (q_loadn rfl rfl sz_24 aPk rfl) rfl ?_
    refine o_q (q_call rfl fn_14 rfl (fun w1 h1 => c14 w1 (j : Int) mo rm a cap L (hs.later h1.nil))) rfl ?_
    refine oP ?_
    refine oP ?_
    refine o_or 4 18 22 _ _ rfl
      (by
        intro hg4
        have hs5 := hg4; try simp only [Bool.not_eq_false'] at hs5
        refine o_on 18 _ rfl rfl hg4 ?_
        refine o_q (q_loadn rfl rfl sz_26 aPk rfl) rfl ?_
        refine o_on 18 _ rfl rfl hg4 ?_
        refine o_q (q_call rfl fn_15 rfl (fun w1 h1 => c15 w1 x)) rfl ?_
        refine o_on 18 _ rfl rfl hg4 ?_
        refine oP ?_
        refine o_p (p_pickf rfl rfl hg4 rfl) rfl ?_
        refine o_nil ?_
        exact s_joinN 4 22 _ rfl rfl rfl (fun w h => by first | exact h | exact h.ent aEt))
      (by
        intro hg6
        have hs7 := hg6; try simp only [Bool.not_eq_true'] at hs7
        refine o_off 18 _ rfl rfl hg6 rfl ?_
        refine o_off 18 _ rfl rfl hg6 rfl ?_
        refine o_off 18 _ rfl rfl hg6 rfl ?_
        refine o_p (p_pickt rfl rfl hg6 rfl) rfl ?_
        refine o_nil ?_
        exact s_joinN 4 22 _ rfl rfl rfl (fun w h => by first | exact h | exact h.ent aEt)) ?_
    refine o_nil ?_
    refine s_cond rfl (fun h8 => ?_) (fun h8 => ?_)
    · try simp only [Bool.or_eq_true, Bool.not_eq_true'] at h8
      exfalso; simp [hfw, hsl] at h8
    · try simp only [Bool.or_eq_false_iff, Bool.not_eq_false'] at h8
      refine s_skip ?_
      refine s_seq ?_
      refine s_cutI (α := Nat × (Nat × Nat) × List LNd) [5, 6, 7, 23, 24, 25, 26, 27, 28, 29, 30] (fun y => [(5, .pointer (some ⟨y.1, 0, none⟩)), (6, .int .i64 ((lastN (pathN (j : Int) (pln L) x.key).1) : Int)), (7, .int .i64 0)]) (fun y => HS w [] [.blk y.1 24 4 [.int .i64 (j : Int), .int .i64 mo, .int .i64 rm, .slice (some ⟨y.2.1.1, 0, none⟩) y.2.2.length y.2.1.2], .nodes 26 102 (some ⟨y.2.1.1, 0, none⟩) y.2.1.2 y.2.2, .blk b1 24 4 [.int .i64 (j : Int), .int .i64 mo, .int .i64 rm, .slice a L.length cap], .blk b2 26 2 (TEnt.vals x)]) (fun y => pln y.2.2 = (repN (j : Int) (pln L) x)) ?_ ?_
      · skip
        refine s_draw [9] mixed ?_
        refine d_q 0 [[]] rfl (q_loadn rfl rfl sz_24 aPk rfl) (by kernel_rfl) (by kernel_rfl) (by kernel_rfl) rfl ?_
        refine d_q 2 [[]] rfl (q_loadn rfl rfl sz_26 aPk rfl) (by kernel_rfl) (by kernel_rfl) (by kernel_rfl) rfl ?_
        refine d_two 1 8 rfl rfl  (h_call rfl fn_17 rfl (fun w1 h1 => c17 w1 (j : Int) mo rm a cap L (hs.later h1.nil) hle hsm)) (h_alloc rfl zr_24) (by kernel_rfl) (fun w h => h.ent aEt) rfl rfl  (fun ⟨⟨ga1, gc1⟩, LC1⟩ hLC1 => ?_) (fun b9 _ => ?_)
        · skip
          refine d_base (fun w h => h.ent aEt) ?_
          dsimp only
          refine d_two 3 8 rfl rfl  (h_call rfl fn_37 rfl (fun w1 h1 => c37o w1 j mo rm ga1 gc1 LC1 x (HS.nt h1 aPk) (by rw [hLC1]; exact hB) (tfew_keys (by rw [hLC1]; exact hfw)) hkk (by rw [hLC1]; exact h0) hx0 (by rw [hLC1]; exact hx))) (h_alloc rfl zr_24) (by kernel_rfl) (fun w h => h.ent aEt) rfl rfl  (fun ⟨⟨gu, cu⟩, LU⟩ hLU => ?_) (fun b10 _ => ?_)
          · skip
            refine d_base (fun w h => h.ent aEt) ?_
            dsimp only
            rw [hLC1]
            have hLU2 : pln LU = (repN (j : Int) (pln L) x) := by rw [← hLC1]; exact hLU
            refine dP 4 ?_
            refine dP 5 ?_
            refine dP 6 ?_
            refine dP 7 ?_
            refine d_h 8 rfl (h_alloc rfl zr_24) (by kernel_rfl) (fun w h => h.ent aEt) rfl (fun b11 _ => ?_)
            refine d_base (fun w h => h.ent aEt) ?_
            refine d_h0 9 rfl (h_store rfl rfl rfl sz_24 rfl aPt (by show 4 ≤ 4; omega) rfl) (by kernel_rfl) (fun w h => h.ent aEt) (fun _ _ => ?_)
            refine d_turn [] (by kernel_rfl) ?_
            refine dP 10 ?_
            refine dP 11 ?_
            refine d_nil (by kernel_rfl) (fun w h => by first | exact h | exact h.ent aEt) ?_
            exact s_joinI (b11, (gu, cu), LU) hLU2 aSx (fun w h => h.ent aEt)
          · skip
            refine d_base (fun w h => h.ent aEt) ?_
            refine d_h 3 rfl (h_call rfl fn_37 rfl (fun w1 h1 => c37o w1 j mo rm ga1 gc1 LC1 x (HS.nt h1 aPk) (by rw [hLC1]; exact hB) (tfew_keys (by rw [hLC1]; exact hfw)) hkk (by rw [hLC1]; exact h0) hx0 (by rw [hLC1]; exact hx))) (by kernel_rfl) (fun w h => h.ent aEt) rfl (fun ⟨⟨gu, cu⟩, LU⟩ hLU => ?_)
            refine d_base (fun w h => h.ent aEt) ?_
            dsimp only
            rw [hLC1]
            have hLU2 : pln LU = (repN (j : Int) (pln L) x) := by rw [← hLC1]; exact hLU
            refine dP 4 ?_
            refine dP 5 ?_
            refine dP 6 ?_
            refine dP 7 ?_
            refine d_h0 9 rfl (h_store rfl rfl rfl sz_24 rfl aPt (by show 4 ≤ 4; omega) rfl) (by kernel_rfl) (fun w h => h.ent aEt) (fun _ _ => ?_)
            refine d_turn [] (by kernel_rfl) ?_
            refine dP 10 ?_
            refine dP 11 ?_
            refine d_nil (by kernel_rfl) (fun w h => by first | exact h | exact h.ent aEt) ?_
            exact s_joinI (b10, (gu, cu), LU) hLU2 aSx (fun w h => h.ent aEt)
        · skip
          refine d_base (fun w h => h.ent aEt) ?_
          refine d_h 1 rfl (h_call rfl fn_17 rfl (fun w1 h1 => c17 w1 (j : Int) mo rm a cap L (hs.later h1.nil) hle hsm)) (by kernel_rfl) (fun w h => h.ent aEt) rfl (fun ⟨⟨ga1, gc1⟩, LC1⟩ hLC1 => ?_)
          refine d_base (fun w h => h.ent aEt) ?_
          dsimp only
          refine d_h 3 rfl (h_call rfl fn_37 rfl (fun w1 h1 => c37o w1 j mo rm ga1 gc1 LC1 x (HS.nt h1 aPk) (by rw [hLC1]; exact hB) (tfew_keys (by rw [hLC1]; exact hfw)) hkk (by rw [hLC1]; exact h0) hx0 (by rw [hLC1]; exact hx))) (by kernel_rfl) (fun w h => h.ent aEt) rfl (fun ⟨⟨gu, cu⟩, LU⟩ hLU => ?_)
          refine d_base (fun w h => h.ent aEt) ?_
          dsimp only
          rw [hLC1]
          have hLU2 : pln LU = (repN (j : Int) (pln L) x) := by rw [← hLC1]; exact hLU
          refine dP 4 ?_
          refine dP 5 ?_
          refine dP 6 ?_
          refine dP 7 ?_
          refine d_h0 9 rfl (h_store rfl rfl rfl sz_24 rfl aPt (by show 4 ≤ 4; omega) rfl) (by kernel_rfl) (fun w h => h.ent aEt) (fun _ _ => ?_)
          refine d_turn [] (by kernel_rfl) ?_
          refine dP 10 ?_
          refine dP 11 ?_
          refine d_nil (by kernel_rfl) (fun w h => by first | exact h | exact h.ent aEt) ?_
          exact s_joinI (b9, (gu, cu), LU) hLU2 aSx (fun w h => h.ent aEt)
      · intro ⟨b9, ⟨gv, cv⟩, LV⟩ hV
        dsimp only
        have hLV : pln LV = (repN (j : Int) (pln L) x) := hV
        have hlv : LV.length = L.length := by rw [← pln_len LV, hLV, repN_ln, pln_len]
        refine s_seq ?_
        refine s_region ?_
        refine o_q (q_loadn rfl rfl sz_24 aPk rfl) rfl ?_
        refine o_q (q_call rfl fn_18 rfl (fun w1 h1 => c18 w1 (j : Int) mo rm a cap L (hs.later h1.nil) hB hkl)) rfl ?_
        refine oP ?_
        refine o_nil ?_
        refine s_seq ?_
        refine s_seq ?_
        refine s_region ?_
        refine oP ?_
        refine oP ?_
        refine o_nil ?_
        refine s_cond rfl (fun h12 => ?_) (fun h12 => ?_)
        · try simp only [decide_eq_true_eq] at h12
          refine s_region ?_
          refine o_p (p_fieldAddr rfl rfl fd_24_0 sz_3 rfl) rfl ?_
          refine o_q (q_load rfl rfl sz_3 aPk rfl) rfl ?_
          refine o_q (q_loadn rfl rfl sz_26 aPk rfl) rfl ?_
          refine o_q (q_call rfl fn_19 rfl (fun w1 h1 => c19 w1 j x hj hkk)) rfl ?_
          refine oP ?_
          refine o_nil ?_
          refine s_seq ?_
          refine s_seq ?_
          refine s_region ?_
          refine oP ?_
          refine oP ?_
          refine o_nil ?_
          refine s_cond rfl (fun h13 => ?_) (fun h13 => ?_)
          · try simp only [decide_eq_true_eq] at h13
            refine s_seq ?_
            refine s_region ?_
            refine o_q (q_loadn rfl rfl sz_24 aPk rfl) rfl ?_
            refine o_p (p_fieldAddr rfl rfl fd_26_0 sz_9 rfl) rfl ?_
            refine o_q (q_load rfl rfl sz_9 aPk rfl) rfl ?_
            refine o_h (h_call rfl fn_20 rfl (fun w1 h1 => c20 w1 j mo rm a cap L x.key hj hl0 hB hT (hs.later h1.nil) (entE_key hx0) hkk)) rfl (fun ⟨pa, pc⟩ _ => ?_)
            dsimp only
            refine oP ?_
            refine oP ?_
            refine oP ?_
            refine oP ?_
            refine oP ?_
            refine o_nil ?_
            refine s_seq ?_
            refine s_weaken (L' := [(2, _), (3, _), (4, _), (5, _), (6, _), (7, _), (8, _), (10, _)]) aSx (fun _ h => h) ?_
            refine s_region ?_
            refine oP ?_
            refine oP ?_
            refine o_nil ?_
            refine s_cond rfl (fun h14 => ?_) (fun h14 => ?_)
            · try simp only [Bool.not_eq_true'] at h14
              exfalso; first | exact hx h14 | simp_all
            · try simp only [Bool.not_eq_false'] at h14
              refine s_skip ?_
              refine s_seq ?_
              refine s_seq ?_
              refine s_region ?_
              refine oP ?_
              refine oP ?_
              refine o_nil ?_
              refine s_cond rfl (fun h15 => ?_) (fun h15 => ?_)
              · try simp only [Bool.not_eq_true', decide_eq_false_iff_not] at h15
                exfalso; omega
              · try simp only [Bool.not_eq_false', decide_eq_true_eq] at h15
                refine s_skip ?_
                refine s_seq ?_
                refine s_region ?_
                refine o_q (q_loadn rfl rfl sz_24 aPk rfl) rfl ?_
                refine o_q (q_loadn rfl rfl sz_26 aPk rfl) rfl ?_
                refine o_h (h_call rfl fn_38 rfl (fun w1 h1 => c38 w1 j mo rm a cap L x (hs.later h1.nil) hB hj hl0 hT hkk hx0 hx)) rfl (fun ⟨⟨gr, cr⟩, LR⟩ hLR => ?_)
                dsimp only
                refine oP ?_
                refine oP ?_
                refine oP ?_
                refine o_h (h_alloc rfl zr_24) rfl (fun b16 _ => ?_)
                refine o_h0 (h_store rfl rfl rfl sz_24 rfl aPt (by show 4 ≤ 4; omega) rfl) (fun _ _ => ?_)
                refine oP ?_
                refine o_nil ?_
                refine s_seq ?_
                refine s_region ?_
                refine oP ?_
                refine oP ?_
                refine oP ?_
                refine o_and 4 72 76 _ _ rfl
                  (by
                    intro hg17
                    have hs18 := hg17; try simp only [decide_eq_true_eq] at hs18
                    refine o_on 72 _ rfl rfl hg17 ?_
                    refine o_q (q_loadn rfl rfl sz_24 aPk rfl) rfl ?_
                    refine o_on 72 _ rfl rfl hg17 ?_
                    refine o_q (q_loadn rfl rfl sz_24 aPk rfl) rfl ?_
                    refine o_on 72 _ rfl rfl hg17 ?_
                    refine o_q (q_call rfl fn_21 rfl (fun w1 h1 => c21 w1 (j : Int) mo rm (some ⟨gv, 0, none⟩) gr cv cr LV LR (HS.nt h1 aPk) (HS.nt h1 aPk) (by omega) (by rw [← pln_len LR, hLR, repN_ln, pln_len]; exact hle) (by rw [hLV]; exact (fun k => ⟨Nat.le_trans (repN_sm hsm k).1 (by decide), Nat.le_trans (repN_sm hsm k).2 (by decide)⟩)) (by rw [hLR]; exact (fun k => ⟨Nat.le_trans (repN_sm hsm k).1 (by decide), Nat.le_trans (repN_sm hsm k).2 (by decide)⟩)) (by rw [hLV, hLR]))) rfl ?_
                    refine o_p (p_pickt rfl rfl hg17 rfl) rfl ?_
                    refine o_nil ?_
                    exact s_joinN 4 76 _ rfl rfl rfl (fun w h => by first | exact h | exact h.ent aEt))
                  (by
                    intro hg19
                    have hs20 := hg19; try simp only [decide_eq_false_iff_not] at hs20
                    refine o_off 72 _ rfl rfl hg19 rfl ?_
                    refine o_off 72 _ rfl rfl hg19 rfl ?_
                    refine o_off 72 _ rfl rfl hg19 rfl ?_
                    refine o_p (p_pickf rfl rfl hg19 rfl) rfl ?_
                    refine o_nil ?_
                    exact s_joinN 4 76 _ rfl rfl rfl (fun w h => by first | exact h | exact h.ent aEt)) ?_
                refine oP ?_
                refine o_and 4 77 81 _ _ rfl
                  (by
                    intro hg21
                    have hs22 := hg21; try simp only [Bool.and_eq_true, decide_eq_true_eq] at hs22
                    refine o_on 77 _ rfl rfl hg21 ?_
                    refine oP ?_
                    refine o_on 77 _ rfl rfl hg21 ?_
                    refine oP ?_
                    refine o_on 77 _ rfl rfl hg21 ?_
                    refine oP ?_
                    refine o_p (p_pickt rfl rfl hg21 rfl) rfl ?_
                    refine o_nil ?_
                    exact s_joinN 4 81 _ rfl rfl rfl (fun w h => by first | exact h | exact h.ent aEt))
                  (by
                    intro hg23
                    have hs24 := hg23; try simp only [Bool.and_eq_false_iff, decide_eq_false_iff_not] at hs24
                    refine o_off 77 _ rfl rfl hg23 rfl ?_
                    refine o_off 77 _ rfl rfl hg23 rfl ?_
                    refine o_off 77 _ rfl rfl hg23 rfl ?_
                    refine o_p (p_pickf rfl rfl hg23 rfl) rfl ?_
                    refine o_nil ?_
                    exact s_joinN 4 81 _ rfl rfl rfl (fun w h => by first | exact h | exact h.ent aEt)) ?_
                refine oP ?_
                refine o_nil ?_
                exact s_retv (rs := [.tmp 4]) rfl (.tmp rfl (.nil)) (fun w' h' => ⟨by simp [retV], h'.below⟩)
          · try simp only [decide_eq_false_iff_not] at h13
            exfalso; omega
        · try simp only [decide_eq_false_iff_not] at h12
          exfalso; omega

theorem c7 (w : World) (co mo rm : Int) (a : Option Addr) (cap : Nat) (L : List LNd) (x : TEnt) (hs : Nt w [] a L) : Calls Tryz.prog 7 #[.agg #[.int .i64 co, .int .i64 mo, .int .i64 rm, .slice a L.length cap], .agg #[.string (bs x.key), .string (bs x.val)]] w fun en w' => en = .returned (.bool true) ∧ Below w.heap.size w w' := by
  by_cases hz : tfewB (pln L) = true ∧ tslimB x = true
  · by_cases h0 : (treE (⟨co, mo, rm, pln L⟩ : Tre)).2 = 0
    · obtain ⟨j, rfl, hj⟩ := col_ok (treE_0 h0).1
      by_cases hx0 : entE (j : Int) x = 0
      · by_cases hx : (pathN (j : Int) (pln L) x.key).2.2 = true
        · exact c7o w j mo rm a cap L x hs hz.1 hz.2 h0 hx0 hx
        · exact c7m w j mo rm a cap L x hs hz.1 hz.2 h0 hx0 hx
      · exact c7x w j mo rm a cap L x hs hz.1 hz.2 h0 hx0
    · exact c7e w co mo rm a cap L x hs hz.1 hz.2 h0
  · exact c7z w co mo rm a cap L x hs hz

end Go.Proofs

