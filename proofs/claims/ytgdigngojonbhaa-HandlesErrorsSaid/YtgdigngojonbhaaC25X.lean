/- Contracts of the program's functions, proved by walking them with the rules of the Gx texts; without conditions beyond those that each contract names. -/
import Derived.Test.YtgdigngojonbhaaC25W
namespace Go.Proofs
open Go Go.RowKit Gx
set_option linter.unusedVariables false
set_option linter.unusedSimpArgs false
attribute [local irreducible] Go.Calls Gx.S Gx.O Gx.D Gx.OpP Gx.OpQ Gx.OpH

theorem eqk_62 : teqk Try.prog 62 = some [0, 0, 2] := by kernel_rfl


theorem same_len {L L2 : List LFil} (h : pls L2 = pls L) : L2.length = L.length := by
  have h9 := congrArg List.length h
  simpa using h9

set_option maxRecDepth 20000 in
set_option maxHeartbeats 1000000 in
theorem c14 (w : World) (next : Int) (a b : Option Addr) (cap cap2 : Nat) (L L2 : List LFil) (hs : Ft w [] a L) (ht : Ft w [] b L2) (he : pls L2 = pls L) (hm : L.length ≤ 1000) (hmo : ∀ f ∈ L, f.op.length ≤ 1000) (hml : ∀ f ∈ L, ∀ o ∈ f.op, o.lk.length ≤ 1000) : Calls Try.prog 14 #[.agg #[.int .i64 next, .slice a L.length cap], .agg #[.int .i64 next, .slice b L2.length cap2]] w fun en w' => en = .returned (.bool true) ∧ Below w.heap.size w w' := by
  have hll := same_len he
  refine enter (args := [_, _]) Try.func14 Try.ntmps14 rfl rfl (HS.refl w []) ?_
  refine s_seq ?_
  refine s_region ?_
  refine o_h (h_box rfl rfl) rfl (fun b1 _ => ?_)
  refine o_h (h_box rfl rfl) rfl (fun b2 _ => ?_)
  refine o_p (p_pure rfl) rfl ?_
  refine o_nil ?_
  refine s_seq ?_
  refine s_seq ?_
  refine s_region ?_
  refine o_p (p_fieldAddr rfl rfl fd_26_0 sz_3 rfl) rfl ?_
  first | refine o_q (q_load rfl rfl sz_3 (by repeat (first | exact .here | apply Pick.there)) rfl) rfl ?_ | refine o_q (q_load_old rfl rfl sz_3 (rfl (Rw.rd hs.1 hi))) rfl ?_ | refine o_q (q_load_old rfl rfl sz_3 (rfl (Rw.rd ht.1 hi2))) rfl ?_ | refine o_q (q_load_old rfl rfl sz_3 (rfl (Rw.rd (hs.at hi).1 hk))) rfl ?_ | refine o_q (q_load_old rfl rfl sz_3 (rfl (Rw.rd (ht.at hi2).1 hk2))) rfl ?_ | refine o_q (q_load_old rfl rfl sz_3 (rfl (Rw.rd ((hs.at hi).at hk) hn))) rfl ?_ | refine o_q (q_load_old rfl rfl sz_3 (rfl (Rw.rd ((ht.at hi2).at hk2) hn2))) rfl ?_
  refine o_p (p_fieldAddr rfl rfl fd_26_0 sz_3 rfl) rfl ?_
  first | refine o_q (q_load rfl rfl sz_3 (by repeat (first | exact .here | apply Pick.there)) rfl) rfl ?_ | refine o_q (q_load_old rfl rfl sz_3 (rfl (Rw.rd hs.1 hi))) rfl ?_ | refine o_q (q_load_old rfl rfl sz_3 (rfl (Rw.rd ht.1 hi2))) rfl ?_ | refine o_q (q_load_old rfl rfl sz_3 (rfl (Rw.rd (hs.at hi).1 hk))) rfl ?_ | refine o_q (q_load_old rfl rfl sz_3 (rfl (Rw.rd (ht.at hi2).1 hk2))) rfl ?_ | refine o_q (q_load_old rfl rfl sz_3 (rfl (Rw.rd ((hs.at hi).at hk) hn))) rfl ?_ | refine o_q (q_load_old rfl rfl sz_3 (rfl (Rw.rd ((ht.at hi2).at hk2) hn2))) rfl ?_
  refine o_p (p_pure rfl) rfl ?_
  refine o_p (p_pure rfl) rfl ?_
  refine o_or 8 17 25 _ _ rfl
    (by
      intro hg3
      have hs4 := hg3; try simp only [decide_eq_true_eq, decide_eq_false_iff_not, Bool.not_eq_true', Bool.not_eq_false', Bool.and_eq_true, Bool.or_eq_true, Bool.and_eq_false_iff, Bool.or_eq_false_iff, Bool.not_true, Bool.not_false] at hs4
      refine o_on 17 _ rfl rfl hg3 ?_
      refine o_p (p_fieldAddr rfl rfl fd_26_1 sz_24 rfl) rfl ?_
      refine o_on 17 _ rfl rfl hg3 ?_
      first | refine o_q (q_load rfl rfl sz_24 (by repeat (first | exact .here | apply Pick.there)) rfl) rfl ?_ | refine o_q (q_load_old rfl rfl sz_24 (rfl (Rw.rd hs.1 hi))) rfl ?_ | refine o_q (q_load_old rfl rfl sz_24 (rfl (Rw.rd ht.1 hi2))) rfl ?_ | refine o_q (q_load_old rfl rfl sz_24 (rfl (Rw.rd (hs.at hi).1 hk))) rfl ?_ | refine o_q (q_load_old rfl rfl sz_24 (rfl (Rw.rd (ht.at hi2).1 hk2))) rfl ?_ | refine o_q (q_load_old rfl rfl sz_24 (rfl (Rw.rd ((hs.at hi).at hk) hn))) rfl ?_ | refine o_q (q_load_old rfl rfl sz_24 (rfl (Rw.rd ((ht.at hi2).at hk2) hn2))) rfl ?_
      refine o_on 17 _ rfl rfl hg3 ?_
      first | refine o_p (p_len_slice rfl rfl Try.underlying24) rfl ?_ | refine o_q (q_len_own rfl rfl Try.underlying24 (by repeat (first | exact .here | apply Pick.there))) rfl ?_
      refine o_on 17 _ rfl rfl hg3 ?_
      refine o_p (p_fieldAddr rfl rfl fd_26_1 sz_24 rfl) rfl ?_
      refine o_on 17 _ rfl rfl hg3 ?_
      first | refine o_q (q_load rfl rfl sz_24 (by repeat (first | exact .here | apply Pick.there)) rfl) rfl ?_ | refine o_q (q_load_old rfl rfl sz_24 (rfl (Rw.rd hs.1 hi))) rfl ?_ | refine o_q (q_load_old rfl rfl sz_24 (rfl (Rw.rd ht.1 hi2))) rfl ?_ | refine o_q (q_load_old rfl rfl sz_24 (rfl (Rw.rd (hs.at hi).1 hk))) rfl ?_ | refine o_q (q_load_old rfl rfl sz_24 (rfl (Rw.rd (ht.at hi2).1 hk2))) rfl ?_ | refine o_q (q_load_old rfl rfl sz_24 (rfl (Rw.rd ((hs.at hi).at hk) hn))) rfl ?_ | refine o_q (q_load_old rfl rfl sz_24 (rfl (Rw.rd ((ht.at hi2).at hk2) hn2))) rfl ?_
      refine o_on 17 _ rfl rfl hg3 ?_
      first | refine o_p (p_len_slice rfl rfl Try.underlying24) rfl ?_ | refine o_q (q_len_own rfl rfl Try.underlying24 (by repeat (first | exact .here | apply Pick.there))) rfl ?_
      refine o_on 17 _ rfl rfl hg3 ?_
      refine o_p (p_pure rfl) rfl ?_
      refine o_p (p_pickf rfl rfl hg3 rfl) rfl ?_
      refine o_nil ?_
      exact s_joinN 8 25 _ rfl rfl rfl (fun w h => by first | exact h | exact h.ent (by repeat (first | exact .nil | refine .cons (by repeat (first | exact .here | apply Pick.there)) ?_))))
    (by
      intro hg5
      have hs6 := hg5; try simp only [decide_eq_true_eq, decide_eq_false_iff_not, Bool.not_eq_true', Bool.not_eq_false', Bool.and_eq_true, Bool.or_eq_true, Bool.and_eq_false_iff, Bool.or_eq_false_iff, Bool.not_true, Bool.not_false] at hs6
      refine o_off 17 _ rfl rfl hg5 rfl ?_
      refine o_off 17 _ rfl rfl hg5 rfl ?_
      refine o_off 17 _ rfl rfl hg5 rfl ?_
      refine o_off 17 _ rfl rfl hg5 rfl ?_
      refine o_off 17 _ rfl rfl hg5 rfl ?_
      refine o_off 17 _ rfl rfl hg5 rfl ?_
      refine o_off 17 _ rfl rfl hg5 rfl ?_
      refine o_p (p_pickt rfl rfl hg5 rfl) rfl ?_
      refine o_nil ?_
      exact s_joinN 8 25 _ rfl rfl rfl (fun w h => by first | exact h | exact h.ent (by repeat (first | exact .nil | refine .cons (by repeat (first | exact .here | apply Pick.there)) ?_)))) ?_
  refine o_nil ?_
  refine s_cond rfl (fun h7 => ?_) (fun h7 => ?_)
  · try simp only [decide_eq_true_eq, decide_eq_false_iff_not, Bool.not_eq_true', Bool.not_eq_false', Bool.and_eq_true, Bool.or_eq_true, Bool.and_eq_false_iff, Bool.or_eq_false_iff, Bool.not_true, Bool.not_false] at h7
    exfalso; have hq9 := h7; simp [hll] at hq9
  · try simp only [decide_eq_true_eq, decide_eq_false_iff_not, Bool.not_eq_true', Bool.not_eq_false', Bool.and_eq_true, Bool.or_eq_true, Bool.and_eq_false_iff, Bool.or_eq_false_iff, Bool.not_true, Bool.not_false] at h7
    refine s_skip ?_
    refine s_seq ?_
    refine s_seq ?_
    refine s_region ?_
    refine o_p (p_pure rfl) rfl ?_
    refine o_nil ?_
    refine s_block ?_
    refine s_weaken (L' := [(2, _), (3, _), (4, _), (5, _)]) (by repeat (first | exact sl_n | refine sl_c rfl ?_)) (fun _ h => h) ?_
    refine s_loopI (α := Nat) [4, 5, 6, 7, 8, 9, 10, 11, 26, 27, 28, 29, 30, 31, 32, 33, 34, 35, 36, 37, 38, 39, 40, 41, 42, 43, 44, 45, 46, 47, 48, 49, 50, 51, 52, 53, 54, 55, 56, 57, 58, 59, 60, 61, 62, 63, 64, 65, 66, 67, 68, 69, 70, 71, 72, 73, 74, 75, 76, 77, 78, 79, 80, 81, 82, 83, 84, 85, 86, 87, 88, 89, 90, 91, 92, 93, 94, 95, 96, 97, 98, 99, 100, 101, 102, 103, 104, 105, 106, 107, 108, 109, 110, 111, 112, 113, 114, 115, 116, 117, 118, 119, 120, 121, 122, 123, 124, 125, 126, 127, 128, 129, 130, 131, 132, 133] (fun i => [(5, .int .i64 (i : Int))]) (fun _ => HS w [] [.blk b1 26 2 [.int .i64 next, .slice a L.length cap], .blk b2 26 2 [.int .i64 next, .slice b L2.length cap2]]) (fun i => i ≤ L.length) (fun i => L.length - i) 0 (Nat.zero_le _) (by repeat (first | exact sl_n | refine sl_c rfl ?_)) (fun w h => h.ent (by repeat (first | exact .nil | refine .cons (by repeat (first | exact .here | apply Pick.there)) ?_))) (fun i hi1 => ?_)
    refine s_seq ?_
    refine s_seq ?_
    refine s_region ?_
    refine o_p (p_pure rfl) rfl ?_
    refine o_p (p_fieldAddr rfl rfl fd_26_1 sz_24 rfl) rfl ?_
    first | refine o_q (q_load rfl rfl sz_24 (by repeat (first | exact .here | apply Pick.there)) rfl) rfl ?_ | refine o_q (q_load_old rfl rfl sz_24 (rfl (Rw.rd hs.1 hi))) rfl ?_ | refine o_q (q_load_old rfl rfl sz_24 (rfl (Rw.rd ht.1 hi2))) rfl ?_ | refine o_q (q_load_old rfl rfl sz_24 (rfl (Rw.rd (hs.at hi).1 hk))) rfl ?_ | refine o_q (q_load_old rfl rfl sz_24 (rfl (Rw.rd (ht.at hi2).1 hk2))) rfl ?_ | refine o_q (q_load_old rfl rfl sz_24 (rfl (Rw.rd ((hs.at hi).at hk) hn))) rfl ?_ | refine o_q (q_load_old rfl rfl sz_24 (rfl (Rw.rd ((ht.at hi2).at hk2) hn2))) rfl ?_
    first | refine o_p (p_len_slice rfl rfl Try.underlying24) rfl ?_ | refine o_q (q_len_own rfl rfl Try.underlying24 (by repeat (first | exact .here | apply Pick.there))) rfl ?_
    refine o_p (p_pure rfl) rfl ?_
    refine o_nil ?_
    refine s_cond rfl (fun h8 => ?_) (fun h8 => ?_)
    · try simp only [decide_eq_true_eq, decide_eq_false_iff_not, Bool.not_eq_true', Bool.not_eq_false', Bool.and_eq_true, Bool.or_eq_true, Bool.and_eq_false_iff, Bool.or_eq_false_iff, Bool.not_true, Bool.not_false] at h8
      have hi : i < L.length := by omega
      have hi2 : i < L2.length := by omega
      have hoi := hmo _ (mem_nth hi)
      have hp := (same_nth he hi).2
      have e1 : (nth L2 i).rc = (nth L i).rc := congrArg Fil.rc hp
      have e2 : (nth L2 i).sq = (nth L i).sq := congrArg Fil.sq hp
      have e3 : (nth L2 i).pd = (nth L i).pd := congrArg Fil.pd hp
      have e4 : (nth L2 i).op.length = (nth L i).op.length := by have h9 := congrArg (fun f : Fil => f.op.length) hp; simpa [LFil.pl] using h9
      refine s_skip ?_
      refine s_seq ?_
      refine s_block ?_
      refine s_seq ?_
      refine s_cutI (α := Nat × Nat) [6, 7, 33, 34, 35, 36, 37, 38, 39, 40, 41, 42] (fun y => [(6, .pointer (some ⟨y.1, 0, none⟩)), (7, .pointer (some ⟨y.2, 0, none⟩))]) (fun y => HS w [] [.blk y.1 77 4 (nth L i).vals, .blk y.2 77 4 (nth L2 i).vals, .blk b1 26 2 [.int .i64 next, .slice a L.length cap], .blk b2 26 2 [.int .i64 next, .slice b L2.length cap2]]) (fun _ => True) ?_ ?_
      · skip
        refine s_drawB [.blk b1 26 2 [.int .i64 next, .slice a L.length cap], .blk b2 26 2 [.int .i64 next, .slice b L2.length cap2]] [13] mixed ?_
        refine d_p 0 rfl (p_fieldAddr rfl rfl fd_26_1 sz_24 rfl) (by kernel_rfl) rfl rfl ?_
        first | refine d_q 1 [[]] rfl (q_load rfl rfl sz_24 (by repeat (first | exact .here | apply Pick.there)) rfl) (by kernel_rfl) (by kernel_rfl) (by kernel_rfl) rfl ?_ | refine d_q 1 [[]] rfl (q_load_old rfl rfl sz_24 (rfl (Rw.rd hs.1 hi))) (by kernel_rfl) (by kernel_rfl) (by kernel_rfl) rfl ?_ | refine d_q 1 [[]] rfl (q_load_old rfl rfl sz_24 (rfl (Rw.rd ht.1 hi2))) (by kernel_rfl) (by kernel_rfl) (by kernel_rfl) rfl ?_ | refine d_q 1 [[]] rfl (q_load_old rfl rfl sz_24 (rfl (Rw.rd (hs.at hi).1 hk))) (by kernel_rfl) (by kernel_rfl) (by kernel_rfl) rfl ?_ | refine d_q 1 [[]] rfl (q_load_old rfl rfl sz_24 (rfl (Rw.rd (ht.at hi2).1 hk2))) (by kernel_rfl) (by kernel_rfl) (by kernel_rfl) rfl ?_ | refine d_q 1 [[]] rfl (q_load_old rfl rfl sz_24 (rfl (Rw.rd ((hs.at hi).at hk) hn))) (by kernel_rfl) (by kernel_rfl) (by kernel_rfl) rfl ?_ | refine d_q 1 [[]] rfl (q_load_old rfl rfl sz_24 (rfl (Rw.rd ((ht.at hi2).at hk2) hn2))) (by kernel_rfl) (by kernel_rfl) (by kernel_rfl) rfl ?_
        refine d_p 2 rfl (p_pure rfl) (by kernel_rfl) rfl rfl ?_
        first | refine d_p 3 rfl (p_indexAddr rfl rfl rfl sl_24 (i) (by omega) (by omega) rfl) (by kernel_rfl) rfl rfl ?_ | refine d_p 3 rfl (p_indexAddr rfl rfl rfl sl_24 (i) (by omega) (by omega) (Rw.some hs.1 (by omega))) (by kernel_rfl) rfl rfl ?_ | refine d_p 3 rfl (p_indexAddr rfl rfl rfl sl_24 (i) (by omega) (by omega) (Rw.some ht.1 (by omega))) (by kernel_rfl) rfl rfl ?_ | refine d_p 3 rfl (p_indexAddr rfl rfl rfl sl_24 (i) (by omega) (by omega) (Rw.some (hs.at hi).1 (by omega))) (by kernel_rfl) rfl rfl ?_ | refine d_p 3 rfl (p_indexAddr rfl rfl rfl sl_24 (i) (by omega) (by omega) (Rw.some (ht.at hi2).1 (by omega))) (by kernel_rfl) rfl rfl ?_ | refine d_p 3 rfl (p_indexAddr rfl rfl rfl sl_24 (i) (by omega) (by omega) (Rw.some ((hs.at hi).at hk) (by omega))) (by kernel_rfl) rfl rfl ?_ | refine d_p 3 rfl (p_indexAddr rfl rfl rfl sl_24 (i) (by omega) (by omega) (Rw.some ((ht.at hi2).at hk2) (by omega))) (by kernel_rfl) rfl rfl ?_
        first | refine d_q 4 [[]] rfl (q_loadn rfl rfl sz_77 (by repeat (first | exact .here | apply Pick.there)) rfl) (by kernel_rfl) (by kernel_rfl) (by kernel_rfl) rfl ?_ | refine d_q 4 [[]] rfl (q_load_oldn _ rfl rfl sz_77 rfl (Rw.rd hs.1 hi)) (by kernel_rfl) (by kernel_rfl) (by kernel_rfl) rfl ?_ | refine d_q 4 [[]] rfl (q_load_oldn _ rfl rfl sz_77 rfl (Rw.rd ht.1 hi2)) (by kernel_rfl) (by kernel_rfl) (by kernel_rfl) rfl ?_ | refine d_q 4 [[]] rfl (q_load_oldn _ rfl rfl sz_77 rfl (Rw.rd (hs.at hi).1 hk)) (by kernel_rfl) (by kernel_rfl) (by kernel_rfl) rfl ?_ | refine d_q 4 [[]] rfl (q_load_oldn _ rfl rfl sz_77 rfl (Rw.rd (ht.at hi2).1 hk2)) (by kernel_rfl) (by kernel_rfl) (by kernel_rfl) rfl ?_ | refine d_q 4 [[]] rfl (q_load_oldn _ rfl rfl sz_77 rfl (Rw.rd ((hs.at hi).at hk) hn)) (by kernel_rfl) (by kernel_rfl) (by kernel_rfl) rfl ?_ | refine d_q 4 [[]] rfl (q_load_oldn _ rfl rfl sz_77 rfl (Rw.rd ((ht.at hi2).at hk2) hn2)) (by kernel_rfl) (by kernel_rfl) (by kernel_rfl) rfl ?_
        refine d_p 5 rfl (p_fieldAddr rfl rfl fd_26_1 sz_24 rfl) (by kernel_rfl) rfl rfl ?_
        first | refine d_q 6 [[]] rfl (q_load rfl rfl sz_24 (by repeat (first | exact .here | apply Pick.there)) rfl) (by kernel_rfl) (by kernel_rfl) (by kernel_rfl) rfl ?_ | refine d_q 6 [[]] rfl (q_load_old rfl rfl sz_24 (rfl (Rw.rd hs.1 hi))) (by kernel_rfl) (by kernel_rfl) (by kernel_rfl) rfl ?_ | refine d_q 6 [[]] rfl (q_load_old rfl rfl sz_24 (rfl (Rw.rd ht.1 hi2))) (by kernel_rfl) (by kernel_rfl) (by kernel_rfl) rfl ?_ | refine d_q 6 [[]] rfl (q_load_old rfl rfl sz_24 (rfl (Rw.rd (hs.at hi).1 hk))) (by kernel_rfl) (by kernel_rfl) (by kernel_rfl) rfl ?_ | refine d_q 6 [[]] rfl (q_load_old rfl rfl sz_24 (rfl (Rw.rd (ht.at hi2).1 hk2))) (by kernel_rfl) (by kernel_rfl) (by kernel_rfl) rfl ?_ | refine d_q 6 [[]] rfl (q_load_old rfl rfl sz_24 (rfl (Rw.rd ((hs.at hi).at hk) hn))) (by kernel_rfl) (by kernel_rfl) (by kernel_rfl) rfl ?_ | refine d_q 6 [[]] rfl (q_load_old rfl rfl sz_24 (rfl (Rw.rd ((ht.at hi2).at hk2) hn2))) (by kernel_rfl) (by kernel_rfl) (by kernel_rfl) rfl ?_
        refine d_p 7 rfl (p_pure rfl) (by kernel_rfl) rfl rfl ?_
        first | refine d_p 8 rfl (p_indexAddr rfl rfl rfl sl_24 (i) (by omega) (by omega) rfl) (by kernel_rfl) rfl rfl ?_ | refine d_p 8 rfl (p_indexAddr rfl rfl rfl sl_24 (i) (by omega) (by omega) (Rw.some hs.1 (by omega))) (by kernel_rfl) rfl rfl ?_ | refine d_p 8 rfl (p_indexAddr rfl rfl rfl sl_24 (i) (by omega) (by omega) (Rw.some ht.1 (by omega))) (by kernel_rfl) rfl rfl ?_ | refine d_p 8 rfl (p_indexAddr rfl rfl rfl sl_24 (i) (by omega) (by omega) (Rw.some (hs.at hi).1 (by omega))) (by kernel_rfl) rfl rfl ?_ | refine d_p 8 rfl (p_indexAddr rfl rfl rfl sl_24 (i) (by omega) (by omega) (Rw.some (ht.at hi2).1 (by omega))) (by kernel_rfl) rfl rfl ?_ | refine d_p 8 rfl (p_indexAddr rfl rfl rfl sl_24 (i) (by omega) (by omega) (Rw.some ((hs.at hi).at hk) (by omega))) (by kernel_rfl) rfl rfl ?_ | refine d_p 8 rfl (p_indexAddr rfl rfl rfl sl_24 (i) (by omega) (by omega) (Rw.some ((ht.at hi2).at hk2) (by omega))) (by kernel_rfl) rfl rfl ?_
        first | refine d_q 9 [[]] rfl (q_loadn rfl rfl sz_77 (by repeat (first | exact .here | apply Pick.there)) rfl) (by kernel_rfl) (by kernel_rfl) (by kernel_rfl) rfl ?_ | refine d_q 9 [[]] rfl (q_load_oldn _ rfl rfl sz_77 rfl (Rw.rd hs.1 hi)) (by kernel_rfl) (by kernel_rfl) (by kernel_rfl) rfl ?_ | refine d_q 9 [[]] rfl (q_load_oldn _ rfl rfl sz_77 rfl (Rw.rd ht.1 hi2)) (by kernel_rfl) (by kernel_rfl) (by kernel_rfl) rfl ?_ | refine d_q 9 [[]] rfl (q_load_oldn _ rfl rfl sz_77 rfl (Rw.rd (hs.at hi).1 hk)) (by kernel_rfl) (by kernel_rfl) (by kernel_rfl) rfl ?_ | refine d_q 9 [[]] rfl (q_load_oldn _ rfl rfl sz_77 rfl (Rw.rd (ht.at hi2).1 hk2)) (by kernel_rfl) (by kernel_rfl) (by kernel_rfl) rfl ?_ | refine d_q 9 [[]] rfl (q_load_oldn _ rfl rfl sz_77 rfl (Rw.rd ((hs.at hi).at hk) hn)) (by kernel_rfl) (by kernel_rfl) (by kernel_rfl) rfl ?_ | refine d_q 9 [[]] rfl (q_load_oldn _ rfl rfl sz_77 rfl (Rw.rd ((ht.at hi2).at hk2) hn2)) (by kernel_rfl) (by kernel_rfl) (by kernel_rfl) rfl ?_
        refine d_two 10 11 rfl rfl  (h_alloc rfl zr_77) (h_alloc rfl zr_77) (by kernel_rfl) (fun w h => h.ent (by repeat (first | exact .nil | refine .cons (by repeat (first | exact .here | apply Pick.there)) ?_))) rfl rfl  (fun b9 _ => ?_) (fun b10 _ => ?_)
        · skip
          refine d_h 11 rfl (h_alloc rfl zr_77) (by kernel_rfl) (fun w h => h.ent (by repeat (first | exact .nil | refine .cons (by repeat (first | exact .here | apply Pick.there)) ?_))) rfl (fun b11 _ => ?_)
          refine d_h0 12 rfl (h_store rfl rfl rfl sz_77 rfl (by repeat (first | exact .here | apply Put.there)) (by simp only [setMany_length, List.length_set, List.length_cons, List.length_nil, List.length_map]; omega) rfl) (by kernel_rfl) (fun w h => h.ent (by repeat (first | exact .nil | refine .cons (by repeat (first | exact .here | apply Pick.there)) ?_))) (fun _ _ => ?_)
          refine d_h0 13 rfl (h_store rfl rfl rfl sz_77 rfl (by repeat (first | exact .here | apply Put.there)) (by simp only [setMany_length, List.length_set, List.length_cons, List.length_nil, List.length_map]; omega) rfl) (by kernel_rfl) (fun w h => h.ent (by repeat (first | exact .nil | refine .cons (by repeat (first | exact .here | apply Pick.there)) ?_))) (fun _ _ => ?_)
          refine d_turn [] (by kernel_rfl) ?_
          refine d_nil (by kernel_rfl) (fun w h => h.ent (by repeat (first | exact .nil | refine .cons (by repeat (first | exact .here | apply Pick.there)) ?_))) ?_
          exact s_joinI (_, _) trivial (by repeat (first | exact sl_n | refine sl_c rfl ?_)) (fun w h => h.ent (by repeat (first | exact .nil | refine .cons (by repeat (first | exact .here | apply Pick.there)) ?_)))
        · skip
          refine d_h 10 rfl (h_alloc rfl zr_77) (by kernel_rfl) (fun w h => h.ent (by repeat (first | exact .nil | refine .cons (by repeat (first | exact .here | apply Pick.there)) ?_))) rfl (fun b12 _ => ?_)
          refine d_h0 12 rfl (h_store rfl rfl rfl sz_77 rfl (by repeat (first | exact .here | apply Put.there)) (by simp only [setMany_length, List.length_set, List.length_cons, List.length_nil, List.length_map]; omega) rfl) (by kernel_rfl) (fun w h => h.ent (by repeat (first | exact .nil | refine .cons (by repeat (first | exact .here | apply Pick.there)) ?_))) (fun _ _ => ?_)
          refine d_h0 13 rfl (h_store rfl rfl rfl sz_77 rfl (by repeat (first | exact .here | apply Put.there)) (by simp only [setMany_length, List.length_set, List.length_cons, List.length_nil, List.length_map]; omega) rfl) (by kernel_rfl) (fun w h => h.ent (by repeat (first | exact .nil | refine .cons (by repeat (first | exact .here | apply Pick.there)) ?_))) (fun _ _ => ?_)
          refine d_turn [] (by kernel_rfl) ?_
          refine d_nil (by kernel_rfl) (fun w h => h.ent (by repeat (first | exact .nil | refine .cons (by repeat (first | exact .here | apply Pick.there)) ?_))) ?_
          exact s_joinI (_, _) trivial (by repeat (first | exact sl_n | refine sl_c rfl ?_)) (fun w h => h.ent (by repeat (first | exact .nil | refine .cons (by repeat (first | exact .here | apply Pick.there)) ?_)))
      · intro y _
        refine s_seq ?_
        refine s_seq ?_
        refine s_region ?_
        refine o_p (p_fieldAddr rfl rfl fd_77_0 sz_42 rfl) rfl ?_
        first | refine o_q (q_loadn rfl rfl sz_42 (by repeat (first | exact .here | apply Pick.there)) rfl) rfl ?_ | refine o_q (q_load_oldn _ rfl rfl sz_42 rfl (Rw.rd hs.1 hi)) rfl ?_ | refine o_q (q_load_oldn _ rfl rfl sz_42 rfl (Rw.rd ht.1 hi2)) rfl ?_ | refine o_q (q_load_oldn _ rfl rfl sz_42 rfl (Rw.rd (hs.at hi).1 hk)) rfl ?_ | refine o_q (q_load_oldn _ rfl rfl sz_42 rfl (Rw.rd (ht.at hi2).1 hk2)) rfl ?_ | refine o_q (q_load_oldn _ rfl rfl sz_42 rfl (Rw.rd ((hs.at hi).at hk) hn)) rfl ?_ | refine o_q (q_load_oldn _ rfl rfl sz_42 rfl (Rw.rd ((ht.at hi2).at hk2) hn2)) rfl ?_
        refine o_p (p_fieldAddr rfl rfl fd_77_0 sz_42 rfl) rfl ?_
        first | refine o_q (q_loadn rfl rfl sz_42 (by repeat (first | exact .here | apply Pick.there)) rfl) rfl ?_ | refine o_q (q_load_oldn _ rfl rfl sz_42 rfl (Rw.rd hs.1 hi)) rfl ?_ | refine o_q (q_load_oldn _ rfl rfl sz_42 rfl (Rw.rd ht.1 hi2)) rfl ?_ | refine o_q (q_load_oldn _ rfl rfl sz_42 rfl (Rw.rd (hs.at hi).1 hk)) rfl ?_ | refine o_q (q_load_oldn _ rfl rfl sz_42 rfl (Rw.rd (ht.at hi2).1 hk2)) rfl ?_ | refine o_q (q_load_oldn _ rfl rfl sz_42 rfl (Rw.rd ((hs.at hi).at hk) hn)) rfl ?_ | refine o_q (q_load_oldn _ rfl rfl sz_42 rfl (Rw.rd ((ht.at hi2).at hk2) hn2)) rfl ?_
        refine o_p (p_neq_agg rfl rfl rfl eqk_42 (by rfl) (by rfl) (by rfl)) rfl ?_
        refine o_p (p_pure rfl) rfl ?_
        refine o_or 6 48 54 _ _ rfl
          (by
            intro hg13
            have hs14 := hg13; try simp only [decide_eq_true_eq, decide_eq_false_iff_not, Bool.not_eq_true', Bool.not_eq_false', Bool.and_eq_true, Bool.or_eq_true, Bool.and_eq_false_iff, Bool.or_eq_false_iff, Bool.not_true, Bool.not_false] at hs14
            refine o_on 48 _ rfl rfl hg13 ?_
            refine o_p (p_fieldAddr rfl rfl fd_77_1 sz_4 rfl) rfl ?_
            refine o_on 48 _ rfl rfl hg13 ?_
            first | refine o_q (q_load rfl rfl sz_4 (by repeat (first | exact .here | apply Pick.there)) rfl) rfl ?_ | refine o_q (q_load_old rfl rfl sz_4 (rfl (Rw.rd hs.1 hi))) rfl ?_ | refine o_q (q_load_old rfl rfl sz_4 (rfl (Rw.rd ht.1 hi2))) rfl ?_ | refine o_q (q_load_old rfl rfl sz_4 (rfl (Rw.rd (hs.at hi).1 hk))) rfl ?_ | refine o_q (q_load_old rfl rfl sz_4 (rfl (Rw.rd (ht.at hi2).1 hk2))) rfl ?_ | refine o_q (q_load_old rfl rfl sz_4 (rfl (Rw.rd ((hs.at hi).at hk) hn))) rfl ?_ | refine o_q (q_load_old rfl rfl sz_4 (rfl (Rw.rd ((ht.at hi2).at hk2) hn2))) rfl ?_
            refine o_on 48 _ rfl rfl hg13 ?_
            refine o_p (p_fieldAddr rfl rfl fd_77_1 sz_4 rfl) rfl ?_
            refine o_on 48 _ rfl rfl hg13 ?_
            first | refine o_q (q_load rfl rfl sz_4 (by repeat (first | exact .here | apply Pick.there)) rfl) rfl ?_ | refine o_q (q_load_old rfl rfl sz_4 (rfl (Rw.rd hs.1 hi))) rfl ?_ | refine o_q (q_load_old rfl rfl sz_4 (rfl (Rw.rd ht.1 hi2))) rfl ?_ | refine o_q (q_load_old rfl rfl sz_4 (rfl (Rw.rd (hs.at hi).1 hk))) rfl ?_ | refine o_q (q_load_old rfl rfl sz_4 (rfl (Rw.rd (ht.at hi2).1 hk2))) rfl ?_ | refine o_q (q_load_old rfl rfl sz_4 (rfl (Rw.rd ((hs.at hi).at hk) hn))) rfl ?_ | refine o_q (q_load_old rfl rfl sz_4 (rfl (Rw.rd ((ht.at hi2).at hk2) hn2))) rfl ?_
            refine o_on 48 _ rfl rfl hg13 ?_
            refine o_p (p_neq_bool rfl rfl rfl Try.underlying4) rfl ?_
            refine o_p (p_pickf rfl rfl hg13 rfl) rfl ?_
            refine o_nil ?_
            exact s_joinN 6 54 _ rfl rfl rfl (fun w h => by first | exact h | exact h.ent (by repeat (first | exact .nil | refine .cons (by repeat (first | exact .here | apply Pick.there)) ?_))))
          (by
            intro hg15
            have hs16 := hg15; try simp only [decide_eq_true_eq, decide_eq_false_iff_not, Bool.not_eq_true', Bool.not_eq_false', Bool.and_eq_true, Bool.or_eq_true, Bool.and_eq_false_iff, Bool.or_eq_false_iff, Bool.not_true, Bool.not_false] at hs16
            refine o_off 48 _ rfl rfl hg15 rfl ?_
            refine o_off 48 _ rfl rfl hg15 rfl ?_
            refine o_off 48 _ rfl rfl hg15 rfl ?_
            refine o_off 48 _ rfl rfl hg15 rfl ?_
            refine o_off 48 _ rfl rfl hg15 rfl ?_
            refine o_p (p_pickt rfl rfl hg15 rfl) rfl ?_
            refine o_nil ?_
            exact s_joinN 6 54 _ rfl rfl rfl (fun w h => by first | exact h | exact h.ent (by repeat (first | exact .nil | refine .cons (by repeat (first | exact .here | apply Pick.there)) ?_)))) ?_
        refine o_p (p_pure rfl) rfl ?_
        refine o_or 8 55 63 _ _ rfl
          (by
            intro hg17
            have hs18 := hg17; try simp only [decide_eq_true_eq, decide_eq_false_iff_not, Bool.not_eq_true', Bool.not_eq_false', Bool.and_eq_true, Bool.or_eq_true, Bool.and_eq_false_iff, Bool.or_eq_false_iff, Bool.not_true, Bool.not_false] at hs18
            refine o_on 55 _ rfl rfl hg17 ?_
            refine o_p (p_fieldAddr rfl rfl fd_77_2 sz_75 rfl) rfl ?_
            refine o_on 55 _ rfl rfl hg17 ?_
            first | refine o_q (q_load rfl rfl sz_75 (by repeat (first | exact .here | apply Pick.there)) rfl) rfl ?_ | refine o_q (q_load_old rfl rfl sz_75 (rfl (Rw.rd hs.1 hi))) rfl ?_ | refine o_q (q_load_old rfl rfl sz_75 (rfl (Rw.rd ht.1 hi2))) rfl ?_ | refine o_q (q_load_old rfl rfl sz_75 (rfl (Rw.rd (hs.at hi).1 hk))) rfl ?_ | refine o_q (q_load_old rfl rfl sz_75 (rfl (Rw.rd (ht.at hi2).1 hk2))) rfl ?_ | refine o_q (q_load_old rfl rfl sz_75 (rfl (Rw.rd ((hs.at hi).at hk) hn))) rfl ?_ | refine o_q (q_load_old rfl rfl sz_75 (rfl (Rw.rd ((ht.at hi2).at hk2) hn2))) rfl ?_
            refine o_on 55 _ rfl rfl hg17 ?_
            first | refine o_p (p_len_slice rfl rfl Try.underlying75) rfl ?_ | refine o_q (q_len_own rfl rfl Try.underlying75 (by repeat (first | exact .here | apply Pick.there))) rfl ?_
            refine o_on 55 _ rfl rfl hg17 ?_
            refine o_p (p_fieldAddr rfl rfl fd_77_2 sz_75 rfl) rfl ?_
            refine o_on 55 _ rfl rfl hg17 ?_
            first | refine o_q (q_load rfl rfl sz_75 (by repeat (first | exact .here | apply Pick.there)) rfl) rfl ?_ | refine o_q (q_load_old rfl rfl sz_75 (rfl (Rw.rd hs.1 hi))) rfl ?_ | refine o_q (q_load_old rfl rfl sz_75 (rfl (Rw.rd ht.1 hi2))) rfl ?_ | refine o_q (q_load_old rfl rfl sz_75 (rfl (Rw.rd (hs.at hi).1 hk))) rfl ?_ | refine o_q (q_load_old rfl rfl sz_75 (rfl (Rw.rd (ht.at hi2).1 hk2))) rfl ?_ | refine o_q (q_load_old rfl rfl sz_75 (rfl (Rw.rd ((hs.at hi).at hk) hn))) rfl ?_ | refine o_q (q_load_old rfl rfl sz_75 (rfl (Rw.rd ((ht.at hi2).at hk2) hn2))) rfl ?_
            refine o_on 55 _ rfl rfl hg17 ?_
            first | refine o_p (p_len_slice rfl rfl Try.underlying75) rfl ?_ | refine o_q (q_len_own rfl rfl Try.underlying75 (by repeat (first | exact .here | apply Pick.there))) rfl ?_
            refine o_on 55 _ rfl rfl hg17 ?_
            refine o_p (p_pure rfl) rfl ?_
            refine o_p (p_pickf rfl rfl hg17 rfl) rfl ?_
            refine o_nil ?_
            exact s_joinN 8 63 _ rfl rfl rfl (fun w h => by first | exact h | exact h.ent (by repeat (first | exact .nil | refine .cons (by repeat (first | exact .here | apply Pick.there)) ?_))))
          (by
            intro hg19
            have hs20 := hg19; try simp only [decide_eq_true_eq, decide_eq_false_iff_not, Bool.not_eq_true', Bool.not_eq_false', Bool.and_eq_true, Bool.or_eq_true, Bool.and_eq_false_iff, Bool.or_eq_false_iff, Bool.not_true, Bool.not_false] at hs20
            refine o_off 55 _ rfl rfl hg19 rfl ?_
            refine o_off 55 _ rfl rfl hg19 rfl ?_
            refine o_off 55 _ rfl rfl hg19 rfl ?_
            refine o_off 55 _ rfl rfl hg19 rfl ?_
            refine o_off 55 _ rfl rfl hg19 rfl ?_
            refine o_off 55 _ rfl rfl hg19 rfl ?_
            refine o_off 55 _ rfl rfl hg19 rfl ?_
            refine o_p (p_pickt rfl rfl hg19 rfl) rfl ?_
            refine o_nil ?_
            exact s_joinN 8 63 _ rfl rfl rfl (fun w h => by first | exact h | exact h.ent (by repeat (first | exact .nil | refine .cons (by repeat (first | exact .here | apply Pick.there)) ?_)))) ?_
        refine o_nil ?_
        refine s_cond rfl (fun h21 => ?_) (fun h21 => ?_)
        · try simp only [decide_eq_true_eq, decide_eq_false_iff_not, Bool.not_eq_true', Bool.not_eq_false', Bool.and_eq_true, Bool.or_eq_true, Bool.and_eq_false_iff, Bool.or_eq_false_iff, Bool.not_true, Bool.not_false] at h21
          exfalso; have hq9 := h21; simp [e1, e2, e3, e4] at hq9
        · try simp only [decide_eq_true_eq, decide_eq_false_iff_not, Bool.not_eq_true', Bool.not_eq_false', Bool.and_eq_true, Bool.or_eq_true, Bool.and_eq_false_iff, Bool.or_eq_false_iff, Bool.not_true, Bool.not_false] at h21
          refine s_skip ?_
          refine s_seq ?_
          refine s_weaken (L' := [(2, _), (3, _), (5, _), (6, _), (7, _)]) (by repeat (first | exact sl_n | refine sl_c rfl ?_)) (fun _ h => h) ?_
          refine s_region ?_
          refine o_p (p_pure rfl) rfl ?_
          refine o_nil ?_
          refine s_block ?_
          refine s_loopI (α := Nat) [4, 8, 9, 10, 11, 64, 65, 66, 67, 68, 69, 70, 71, 72, 73, 74, 75, 76, 77, 78, 79, 80, 81, 82, 83, 84, 85, 86, 87, 88, 89, 90, 91, 92, 93, 94, 95, 96, 97, 98, 99, 100, 101, 102, 103, 104, 105, 106, 107, 108, 109, 110, 111, 112, 113, 114, 115, 116, 117, 118, 119, 120, 121, 122, 123, 124, 125, 126, 127, 128, 129, 130, 131, 132, 133] (fun i => [(8, .int .i64 (i : Int))]) (fun _ => HS w [] [.blk y.1 77 4 (nth L i).vals, .blk y.2 77 4 (nth L2 i).vals, .blk b1 26 2 [.int .i64 next, .slice a L.length cap], .blk b2 26 2 [.int .i64 next, .slice b L2.length cap2]]) (fun k => k ≤ (nth L i).op.length) (fun k => (nth L i).op.length - k) 0 (Nat.zero_le _) (by repeat (first | exact sl_n | refine sl_c rfl ?_)) (fun w h => h.ent (by repeat (first | exact .nil | refine .cons (by repeat (first | exact .here | apply Pick.there)) ?_))) (fun k hk1 => ?_)
          refine s_seq ?_
          refine s_seq ?_
          refine s_region ?_
          refine o_p (p_pure rfl) rfl ?_
          refine o_p (p_fieldAddr rfl rfl fd_77_2 sz_75 rfl) rfl ?_
          first | refine o_q (q_load rfl rfl sz_75 (by repeat (first | exact .here | apply Pick.there)) rfl) rfl ?_ | refine o_q (q_load_old rfl rfl sz_75 (rfl (Rw.rd hs.1 hi))) rfl ?_ | refine o_q (q_load_old rfl rfl sz_75 (rfl (Rw.rd ht.1 hi2))) rfl ?_ | refine o_q (q_load_old rfl rfl sz_75 (rfl (Rw.rd (hs.at hi).1 hk))) rfl ?_ | refine o_q (q_load_old rfl rfl sz_75 (rfl (Rw.rd (ht.at hi2).1 hk2))) rfl ?_ | refine o_q (q_load_old rfl rfl sz_75 (rfl (Rw.rd ((hs.at hi).at hk) hn))) rfl ?_ | refine o_q (q_load_old rfl rfl sz_75 (rfl (Rw.rd ((ht.at hi2).at hk2) hn2))) rfl ?_
          first | refine o_p (p_len_slice rfl rfl Try.underlying75) rfl ?_ | refine o_q (q_len_own rfl rfl Try.underlying75 (by repeat (first | exact .here | apply Pick.there))) rfl ?_
          refine o_p (p_pure rfl) rfl ?_
          refine o_nil ?_
          refine s_cond rfl (fun h22 => ?_) (fun h22 => ?_)
          · try simp only [decide_eq_true_eq, decide_eq_false_iff_not, Bool.not_eq_true', Bool.not_eq_false', Bool.and_eq_true, Bool.or_eq_true, Bool.and_eq_false_iff, Bool.or_eq_false_iff, Bool.not_true, Bool.not_false] at h22
            have hk : k < (nth L i).op.length := by omega
            have hk2 : k < (nth L2 i).op.length := by omega
            have hki := hml _ (mem_nth hi) _ (mem_nth hk)
            have hq := (same_op hp hk).2.2
            have d1 : (nth (nth L2 i).op k).hd = (nth (nth L i).op k).hd := congrArg Opn.hd hq
            have d2 : (nth (nth L2 i).op k).ac = (nth (nth L i).op k).ac := congrArg Opn.ac hq
            have d3 : (nth (nth L2 i).op k).sh = (nth (nth L i).op k).sh := congrArg Opn.sh hq
            have d4 : (nth (nth L2 i).op k).dl = (nth (nth L i).op k).dl := congrArg Opn.dl hq
            have d5 : (nth (nth L2 i).op k).lk = (nth (nth L i).op k).lk := congrArg Opn.lk hq
            have d6 : (nth (nth L2 i).op k).lk.length = (nth (nth L i).op k).lk.length := by rw [d5]
            refine s_skip ?_
            refine s_seq ?_
            refine s_block ?_
            refine s_seq ?_
            refine s_cutI (α := Nat × Nat) [9, 10, 71, 72, 73, 74, 75, 76, 77, 78, 79, 80] (fun z => [(9, .pointer (some ⟨z.1, 0, none⟩)), (10, .pointer (some ⟨z.2, 0, none⟩))]) (fun z => HS w [] [.blk z.1 48 5 (nth (nth L i).op k).vals, .blk z.2 48 5 (nth (nth L2 i).op k).vals, .blk y.1 77 4 (nth L i).vals, .blk y.2 77 4 (nth L2 i).vals, .blk b1 26 2 [.int .i64 next, .slice a L.length cap], .blk b2 26 2 [.int .i64 next, .slice b L2.length cap2]]) (fun _ => True) ?_ ?_
            · skip
              refine s_drawB [.blk y.1 77 4 (nth L i).vals, .blk y.2 77 4 (nth L2 i).vals, .blk b1 26 2 [.int .i64 next, .slice a L.length cap], .blk b2 26 2 [.int .i64 next, .slice b L2.length cap2]] [13] mixed ?_
              refine d_p 0 rfl (p_fieldAddr rfl rfl fd_77_2 sz_75 rfl) (by kernel_rfl) rfl rfl ?_
              first | refine d_q 1 [[]] rfl (q_load rfl rfl sz_75 (by repeat (first | exact .here | apply Pick.there)) rfl) (by kernel_rfl) (by kernel_rfl) (by kernel_rfl) rfl ?_ | refine d_q 1 [[]] rfl (q_load_old rfl rfl sz_75 (rfl (Rw.rd hs.1 hi))) (by kernel_rfl) (by kernel_rfl) (by kernel_rfl) rfl ?_ | refine d_q 1 [[]] rfl (q_load_old rfl rfl sz_75 (rfl (Rw.rd ht.1 hi2))) (by kernel_rfl) (by kernel_rfl) (by kernel_rfl) rfl ?_ | refine d_q 1 [[]] rfl (q_load_old rfl rfl sz_75 (rfl (Rw.rd (hs.at hi).1 hk))) (by kernel_rfl) (by kernel_rfl) (by kernel_rfl) rfl ?_ | refine d_q 1 [[]] rfl (q_load_old rfl rfl sz_75 (rfl (Rw.rd (ht.at hi2).1 hk2))) (by kernel_rfl) (by kernel_rfl) (by kernel_rfl) rfl ?_ | refine d_q 1 [[]] rfl (q_load_old rfl rfl sz_75 (rfl (Rw.rd ((hs.at hi).at hk) hn))) (by kernel_rfl) (by kernel_rfl) (by kernel_rfl) rfl ?_ | refine d_q 1 [[]] rfl (q_load_old rfl rfl sz_75 (rfl (Rw.rd ((ht.at hi2).at hk2) hn2))) (by kernel_rfl) (by kernel_rfl) (by kernel_rfl) rfl ?_
              refine d_p 2 rfl (p_pure rfl) (by kernel_rfl) rfl rfl ?_
              first | refine d_p 3 rfl (p_indexAddr rfl rfl rfl sl_75 (k) (by omega) (by omega) rfl) (by kernel_rfl) rfl rfl ?_ | refine d_p 3 rfl (p_indexAddr rfl rfl rfl sl_75 (k) (by omega) (by omega) (Rw.some hs.1 (by omega))) (by kernel_rfl) rfl rfl ?_ | refine d_p 3 rfl (p_indexAddr rfl rfl rfl sl_75 (k) (by omega) (by omega) (Rw.some ht.1 (by omega))) (by kernel_rfl) rfl rfl ?_ | refine d_p 3 rfl (p_indexAddr rfl rfl rfl sl_75 (k) (by omega) (by omega) (Rw.some (hs.at hi).1 (by omega))) (by kernel_rfl) rfl rfl ?_ | refine d_p 3 rfl (p_indexAddr rfl rfl rfl sl_75 (k) (by omega) (by omega) (Rw.some (ht.at hi2).1 (by omega))) (by kernel_rfl) rfl rfl ?_ | refine d_p 3 rfl (p_indexAddr rfl rfl rfl sl_75 (k) (by omega) (by omega) (Rw.some ((hs.at hi).at hk) (by omega))) (by kernel_rfl) rfl rfl ?_ | refine d_p 3 rfl (p_indexAddr rfl rfl rfl sl_75 (k) (by omega) (by omega) (Rw.some ((ht.at hi2).at hk2) (by omega))) (by kernel_rfl) rfl rfl ?_
              first | refine d_q 4 [[]] rfl (q_loadn rfl rfl sz_48 (by repeat (first | exact .here | apply Pick.there)) rfl) (by kernel_rfl) (by kernel_rfl) (by kernel_rfl) rfl ?_ | refine d_q 4 [[]] rfl (q_load_oldn _ rfl rfl sz_48 rfl (Rw.rd hs.1 hi)) (by kernel_rfl) (by kernel_rfl) (by kernel_rfl) rfl ?_ | refine d_q 4 [[]] rfl (q_load_oldn _ rfl rfl sz_48 rfl (Rw.rd ht.1 hi2)) (by kernel_rfl) (by kernel_rfl) (by kernel_rfl) rfl ?_ | refine d_q 4 [[]] rfl (q_load_oldn _ rfl rfl sz_48 rfl (Rw.rd (hs.at hi).1 hk)) (by kernel_rfl) (by kernel_rfl) (by kernel_rfl) rfl ?_ | refine d_q 4 [[]] rfl (q_load_oldn _ rfl rfl sz_48 rfl (Rw.rd (ht.at hi2).1 hk2)) (by kernel_rfl) (by kernel_rfl) (by kernel_rfl) rfl ?_ | refine d_q 4 [[]] rfl (q_load_oldn _ rfl rfl sz_48 rfl (Rw.rd ((hs.at hi).at hk) hn)) (by kernel_rfl) (by kernel_rfl) (by kernel_rfl) rfl ?_ | refine d_q 4 [[]] rfl (q_load_oldn _ rfl rfl sz_48 rfl (Rw.rd ((ht.at hi2).at hk2) hn2)) (by kernel_rfl) (by kernel_rfl) (by kernel_rfl) rfl ?_
              refine d_p 5 rfl (p_fieldAddr rfl rfl fd_77_2 sz_75 rfl) (by kernel_rfl) rfl rfl ?_
              first | refine d_q 6 [[]] rfl (q_load rfl rfl sz_75 (by repeat (first | exact .here | apply Pick.there)) rfl) (by kernel_rfl) (by kernel_rfl) (by kernel_rfl) rfl ?_ | refine d_q 6 [[]] rfl (q_load_old rfl rfl sz_75 (rfl (Rw.rd hs.1 hi))) (by kernel_rfl) (by kernel_rfl) (by kernel_rfl) rfl ?_ | refine d_q 6 [[]] rfl (q_load_old rfl rfl sz_75 (rfl (Rw.rd ht.1 hi2))) (by kernel_rfl) (by kernel_rfl) (by kernel_rfl) rfl ?_ | refine d_q 6 [[]] rfl (q_load_old rfl rfl sz_75 (rfl (Rw.rd (hs.at hi).1 hk))) (by kernel_rfl) (by kernel_rfl) (by kernel_rfl) rfl ?_ | refine d_q 6 [[]] rfl (q_load_old rfl rfl sz_75 (rfl (Rw.rd (ht.at hi2).1 hk2))) (by kernel_rfl) (by kernel_rfl) (by kernel_rfl) rfl ?_ | refine d_q 6 [[]] rfl (q_load_old rfl rfl sz_75 (rfl (Rw.rd ((hs.at hi).at hk) hn))) (by kernel_rfl) (by kernel_rfl) (by kernel_rfl) rfl ?_ | refine d_q 6 [[]] rfl (q_load_old rfl rfl sz_75 (rfl (Rw.rd ((ht.at hi2).at hk2) hn2))) (by kernel_rfl) (by kernel_rfl) (by kernel_rfl) rfl ?_
              refine d_p 7 rfl (p_pure rfl) (by kernel_rfl) rfl rfl ?_
              first | refine d_p 8 rfl (p_indexAddr rfl rfl rfl sl_75 (k) (by omega) (by omega) rfl) (by kernel_rfl) rfl rfl ?_ | refine d_p 8 rfl (p_indexAddr rfl rfl rfl sl_75 (k) (by omega) (by omega) (Rw.some hs.1 (by omega))) (by kernel_rfl) rfl rfl ?_ | refine d_p 8 rfl (p_indexAddr rfl rfl rfl sl_75 (k) (by omega) (by omega) (Rw.some ht.1 (by omega))) (by kernel_rfl) rfl rfl ?_ | refine d_p 8 rfl (p_indexAddr rfl rfl rfl sl_75 (k) (by omega) (by omega) (Rw.some (hs.at hi).1 (by omega))) (by kernel_rfl) rfl rfl ?_ | refine d_p 8 rfl (p_indexAddr rfl rfl rfl sl_75 (k) (by omega) (by omega) (Rw.some (ht.at hi2).1 (by omega))) (by kernel_rfl) rfl rfl ?_ | refine d_p 8 rfl (p_indexAddr rfl rfl rfl sl_75 (k) (by omega) (by omega) (Rw.some ((hs.at hi).at hk) (by omega))) (by kernel_rfl) rfl rfl ?_ | refine d_p 8 rfl (p_indexAddr rfl rfl rfl sl_75 (k) (by omega) (by omega) (Rw.some ((ht.at hi2).at hk2) (by omega))) (by kernel_rfl) rfl rfl ?_
              first | refine d_q 9 [[]] rfl (q_loadn rfl rfl sz_48 (by repeat (first | exact .here | apply Pick.there)) rfl) (by kernel_rfl) (by kernel_rfl) (by kernel_rfl) rfl ?_ | refine d_q 9 [[]] rfl (q_load_oldn _ rfl rfl sz_48 rfl (Rw.rd hs.1 hi)) (by kernel_rfl) (by kernel_rfl) (by kernel_rfl) rfl ?_ | refine d_q 9 [[]] rfl (q_load_oldn _ rfl rfl sz_48 rfl (Rw.rd ht.1 hi2)) (by kernel_rfl) (by kernel_rfl) (by kernel_rfl) rfl ?_ | refine d_q 9 [[]] rfl (q_load_oldn _ rfl rfl sz_48 rfl (Rw.rd (hs.at hi).1 hk)) (by kernel_rfl) (by kernel_rfl) (by kernel_rfl) rfl ?_ | refine d_q 9 [[]] rfl (q_load_oldn _ rfl rfl sz_48 rfl (Rw.rd (ht.at hi2).1 hk2)) (by kernel_rfl) (by kernel_rfl) (by kernel_rfl) rfl ?_ | refine d_q 9 [[]] rfl (q_load_oldn _ rfl rfl sz_48 rfl (Rw.rd ((hs.at hi).at hk) hn)) (by kernel_rfl) (by kernel_rfl) (by kernel_rfl) rfl ?_ | refine d_q 9 [[]] rfl (q_load_oldn _ rfl rfl sz_48 rfl (Rw.rd ((ht.at hi2).at hk2) hn2)) (by kernel_rfl) (by kernel_rfl) (by kernel_rfl) rfl ?_
              refine d_two 10 11 rfl rfl  (h_alloc rfl zr_48) (h_alloc rfl zr_48) (by kernel_rfl) (fun w h => h.ent (by repeat (first | exact .nil | refine .cons (by repeat (first | exact .here | apply Pick.there)) ?_))) rfl rfl  (fun b23 _ => ?_) (fun b24 _ => ?_)
              · skip
                refine d_h 11 rfl (h_alloc rfl zr_48) (by kernel_rfl) (fun w h => h.ent (by repeat (first | exact .nil | refine .cons (by repeat (first | exact .here | apply Pick.there)) ?_))) rfl (fun b25 _ => ?_)
                refine d_h0 12 rfl (h_store rfl rfl rfl sz_48 rfl (by repeat (first | exact .here | apply Put.there)) (by simp only [setMany_length, List.length_set, List.length_cons, List.length_nil, List.length_map]; omega) rfl) (by kernel_rfl) (fun w h => h.ent (by repeat (first | exact .nil | refine .cons (by repeat (first | exact .here | apply Pick.there)) ?_))) (fun _ _ => ?_)
                refine d_h0 13 rfl (h_store rfl rfl rfl sz_48 rfl (by repeat (first | exact .here | apply Put.there)) (by simp only [setMany_length, List.length_set, List.length_cons, List.length_nil, List.length_map]; omega) rfl) (by kernel_rfl) (fun w h => h.ent (by repeat (first | exact .nil | refine .cons (by repeat (first | exact .here | apply Pick.there)) ?_))) (fun _ _ => ?_)
                refine d_turn [] (by kernel_rfl) ?_
                refine d_nil (by kernel_rfl) (fun w h => h.ent (by repeat (first | exact .nil | refine .cons (by repeat (first | exact .here | apply Pick.there)) ?_))) ?_
                exact s_joinI (_, _) trivial (by repeat (first | exact sl_n | refine sl_c rfl ?_)) (fun w h => h.ent (by repeat (first | exact .nil | refine .cons (by repeat (first | exact .here | apply Pick.there)) ?_)))
              · skip
                refine d_h 10 rfl (h_alloc rfl zr_48) (by kernel_rfl) (fun w h => h.ent (by repeat (first | exact .nil | refine .cons (by repeat (first | exact .here | apply Pick.there)) ?_))) rfl (fun b26 _ => ?_)
                refine d_h0 12 rfl (h_store rfl rfl rfl sz_48 rfl (by repeat (first | exact .here | apply Put.there)) (by simp only [setMany_length, List.length_set, List.length_cons, List.length_nil, List.length_map]; omega) rfl) (by kernel_rfl) (fun w h => h.ent (by repeat (first | exact .nil | refine .cons (by repeat (first | exact .here | apply Pick.there)) ?_))) (fun _ _ => ?_)
                refine d_h0 13 rfl (h_store rfl rfl rfl sz_48 rfl (by repeat (first | exact .here | apply Put.there)) (by simp only [setMany_length, List.length_set, List.length_cons, List.length_nil, List.length_map]; omega) rfl) (by kernel_rfl) (fun w h => h.ent (by repeat (first | exact .nil | refine .cons (by repeat (first | exact .here | apply Pick.there)) ?_))) (fun _ _ => ?_)
                refine d_turn [] (by kernel_rfl) ?_
                refine d_nil (by kernel_rfl) (fun w h => h.ent (by repeat (first | exact .nil | refine .cons (by repeat (first | exact .here | apply Pick.there)) ?_))) ?_
                exact s_joinI (_, _) trivial (by repeat (first | exact sl_n | refine sl_c rfl ?_)) (fun w h => h.ent (by repeat (first | exact .nil | refine .cons (by repeat (first | exact .here | apply Pick.there)) ?_)))
            · intro z _
              refine s_seq ?_
              refine s_seq ?_
              refine s_region ?_
              refine o_p (p_fieldAddr rfl rfl fd_48_0 sz_3 rfl) rfl ?_
              first | refine o_q (q_load rfl rfl sz_3 (by repeat (first | exact .here | apply Pick.there)) rfl) rfl ?_ | refine o_q (q_load_old rfl rfl sz_3 (rfl (Rw.rd hs.1 hi))) rfl ?_ | refine o_q (q_load_old rfl rfl sz_3 (rfl (Rw.rd ht.1 hi2))) rfl ?_ | refine o_q (q_load_old rfl rfl sz_3 (rfl (Rw.rd (hs.at hi).1 hk))) rfl ?_ | refine o_q (q_load_old rfl rfl sz_3 (rfl (Rw.rd (ht.at hi2).1 hk2))) rfl ?_ | refine o_q (q_load_old rfl rfl sz_3 (rfl (Rw.rd ((hs.at hi).at hk) hn))) rfl ?_ | refine o_q (q_load_old rfl rfl sz_3 (rfl (Rw.rd ((ht.at hi2).at hk2) hn2))) rfl ?_
              refine o_p (p_fieldAddr rfl rfl fd_48_0 sz_3 rfl) rfl ?_
              first | refine o_q (q_load rfl rfl sz_3 (by repeat (first | exact .here | apply Pick.there)) rfl) rfl ?_ | refine o_q (q_load_old rfl rfl sz_3 (rfl (Rw.rd hs.1 hi))) rfl ?_ | refine o_q (q_load_old rfl rfl sz_3 (rfl (Rw.rd ht.1 hi2))) rfl ?_ | refine o_q (q_load_old rfl rfl sz_3 (rfl (Rw.rd (hs.at hi).1 hk))) rfl ?_ | refine o_q (q_load_old rfl rfl sz_3 (rfl (Rw.rd (ht.at hi2).1 hk2))) rfl ?_ | refine o_q (q_load_old rfl rfl sz_3 (rfl (Rw.rd ((hs.at hi).at hk) hn))) rfl ?_ | refine o_q (q_load_old rfl rfl sz_3 (rfl (Rw.rd ((ht.at hi2).at hk2) hn2))) rfl ?_
              refine o_p (p_pure rfl) rfl ?_
              refine o_p (p_pure rfl) rfl ?_
              refine o_or 6 86 92 _ _ rfl
                (by
                  intro hg27
                  have hs28 := hg27; try simp only [decide_eq_true_eq, decide_eq_false_iff_not, Bool.not_eq_true', Bool.not_eq_false', Bool.and_eq_true, Bool.or_eq_true, Bool.and_eq_false_iff, Bool.or_eq_false_iff, Bool.not_true, Bool.not_false] at hs28
                  refine o_on 86 _ rfl rfl hg27 ?_
                  refine o_p (p_fieldAddr rfl rfl fd_48_1 sz_3 rfl) rfl ?_
                  refine o_on 86 _ rfl rfl hg27 ?_
                  first | refine o_q (q_load rfl rfl sz_3 (by repeat (first | exact .here | apply Pick.there)) rfl) rfl ?_ | refine o_q (q_load_old rfl rfl sz_3 (rfl (Rw.rd hs.1 hi))) rfl ?_ | refine o_q (q_load_old rfl rfl sz_3 (rfl (Rw.rd ht.1 hi2))) rfl ?_ | refine o_q (q_load_old rfl rfl sz_3 (rfl (Rw.rd (hs.at hi).1 hk))) rfl ?_ | refine o_q (q_load_old rfl rfl sz_3 (rfl (Rw.rd (ht.at hi2).1 hk2))) rfl ?_ | refine o_q (q_load_old rfl rfl sz_3 (rfl (Rw.rd ((hs.at hi).at hk) hn))) rfl ?_ | refine o_q (q_load_old rfl rfl sz_3 (rfl (Rw.rd ((ht.at hi2).at hk2) hn2))) rfl ?_
                  refine o_on 86 _ rfl rfl hg27 ?_
                  refine o_p (p_fieldAddr rfl rfl fd_48_1 sz_3 rfl) rfl ?_
                  refine o_on 86 _ rfl rfl hg27 ?_
                  first | refine o_q (q_load rfl rfl sz_3 (by repeat (first | exact .here | apply Pick.there)) rfl) rfl ?_ | refine o_q (q_load_old rfl rfl sz_3 (rfl (Rw.rd hs.1 hi))) rfl ?_ | refine o_q (q_load_old rfl rfl sz_3 (rfl (Rw.rd ht.1 hi2))) rfl ?_ | refine o_q (q_load_old rfl rfl sz_3 (rfl (Rw.rd (hs.at hi).1 hk))) rfl ?_ | refine o_q (q_load_old rfl rfl sz_3 (rfl (Rw.rd (ht.at hi2).1 hk2))) rfl ?_ | refine o_q (q_load_old rfl rfl sz_3 (rfl (Rw.rd ((hs.at hi).at hk) hn))) rfl ?_ | refine o_q (q_load_old rfl rfl sz_3 (rfl (Rw.rd ((ht.at hi2).at hk2) hn2))) rfl ?_
                  refine o_on 86 _ rfl rfl hg27 ?_
                  refine o_p (p_pure rfl) rfl ?_
                  refine o_p (p_pickf rfl rfl hg27 rfl) rfl ?_
                  refine o_nil ?_
                  exact s_joinN 6 92 _ rfl rfl rfl (fun w h => by first | exact h | exact h.ent (by repeat (first | exact .nil | refine .cons (by repeat (first | exact .here | apply Pick.there)) ?_))))
                (by
                  intro hg29
                  have hs30 := hg29; try simp only [decide_eq_true_eq, decide_eq_false_iff_not, Bool.not_eq_true', Bool.not_eq_false', Bool.and_eq_true, Bool.or_eq_true, Bool.and_eq_false_iff, Bool.or_eq_false_iff, Bool.not_true, Bool.not_false] at hs30
                  refine o_off 86 _ rfl rfl hg29 rfl ?_
                  refine o_off 86 _ rfl rfl hg29 rfl ?_
                  refine o_off 86 _ rfl rfl hg29 rfl ?_
                  refine o_off 86 _ rfl rfl hg29 rfl ?_
                  refine o_off 86 _ rfl rfl hg29 rfl ?_
                  refine o_p (p_pickt rfl rfl hg29 rfl) rfl ?_
                  refine o_nil ?_
                  exact s_joinN 6 92 _ rfl rfl rfl (fun w h => by first | exact h | exact h.ent (by repeat (first | exact .nil | refine .cons (by repeat (first | exact .here | apply Pick.there)) ?_)))) ?_
              refine o_p (p_pure rfl) rfl ?_
              refine o_or 6 93 99 _ _ rfl
                (by
                  intro hg31
                  have hs32 := hg31; try simp only [decide_eq_true_eq, decide_eq_false_iff_not, Bool.not_eq_true', Bool.not_eq_false', Bool.and_eq_true, Bool.or_eq_true, Bool.and_eq_false_iff, Bool.or_eq_false_iff, Bool.not_true, Bool.not_false] at hs32
                  refine o_on 93 _ rfl rfl hg31 ?_
                  refine o_p (p_fieldAddr rfl rfl fd_48_2 sz_3 rfl) rfl ?_
                  refine o_on 93 _ rfl rfl hg31 ?_
                  first | refine o_q (q_load rfl rfl sz_3 (by repeat (first | exact .here | apply Pick.there)) rfl) rfl ?_ | refine o_q (q_load_old rfl rfl sz_3 (rfl (Rw.rd hs.1 hi))) rfl ?_ | refine o_q (q_load_old rfl rfl sz_3 (rfl (Rw.rd ht.1 hi2))) rfl ?_ | refine o_q (q_load_old rfl rfl sz_3 (rfl (Rw.rd (hs.at hi).1 hk))) rfl ?_ | refine o_q (q_load_old rfl rfl sz_3 (rfl (Rw.rd (ht.at hi2).1 hk2))) rfl ?_ | refine o_q (q_load_old rfl rfl sz_3 (rfl (Rw.rd ((hs.at hi).at hk) hn))) rfl ?_ | refine o_q (q_load_old rfl rfl sz_3 (rfl (Rw.rd ((ht.at hi2).at hk2) hn2))) rfl ?_
                  refine o_on 93 _ rfl rfl hg31 ?_
                  refine o_p (p_fieldAddr rfl rfl fd_48_2 sz_3 rfl) rfl ?_
                  refine o_on 93 _ rfl rfl hg31 ?_
                  first | refine o_q (q_load rfl rfl sz_3 (by repeat (first | exact .here | apply Pick.there)) rfl) rfl ?_ | refine o_q (q_load_old rfl rfl sz_3 (rfl (Rw.rd hs.1 hi))) rfl ?_ | refine o_q (q_load_old rfl rfl sz_3 (rfl (Rw.rd ht.1 hi2))) rfl ?_ | refine o_q (q_load_old rfl rfl sz_3 (rfl (Rw.rd (hs.at hi).1 hk))) rfl ?_ | refine o_q (q_load_old rfl rfl sz_3 (rfl (Rw.rd (ht.at hi2).1 hk2))) rfl ?_ | refine o_q (q_load_old rfl rfl sz_3 (rfl (Rw.rd ((hs.at hi).at hk) hn))) rfl ?_ | refine o_q (q_load_old rfl rfl sz_3 (rfl (Rw.rd ((ht.at hi2).at hk2) hn2))) rfl ?_
                  refine o_on 93 _ rfl rfl hg31 ?_
                  refine o_p (p_pure rfl) rfl ?_
                  refine o_p (p_pickf rfl rfl hg31 rfl) rfl ?_
                  refine o_nil ?_
                  exact s_joinN 6 99 _ rfl rfl rfl (fun w h => by first | exact h | exact h.ent (by repeat (first | exact .nil | refine .cons (by repeat (first | exact .here | apply Pick.there)) ?_))))
                (by
                  intro hg33
                  have hs34 := hg33; try simp only [decide_eq_true_eq, decide_eq_false_iff_not, Bool.not_eq_true', Bool.not_eq_false', Bool.and_eq_true, Bool.or_eq_true, Bool.and_eq_false_iff, Bool.or_eq_false_iff, Bool.not_true, Bool.not_false] at hs34
                  refine o_off 93 _ rfl rfl hg33 rfl ?_
                  refine o_off 93 _ rfl rfl hg33 rfl ?_
                  refine o_off 93 _ rfl rfl hg33 rfl ?_
                  refine o_off 93 _ rfl rfl hg33 rfl ?_
                  refine o_off 93 _ rfl rfl hg33 rfl ?_
                  refine o_p (p_pickt rfl rfl hg33 rfl) rfl ?_
                  refine o_nil ?_
                  exact s_joinN 6 99 _ rfl rfl rfl (fun w h => by first | exact h | exact h.ent (by repeat (first | exact .nil | refine .cons (by repeat (first | exact .here | apply Pick.there)) ?_)))) ?_
              refine o_p (p_pure rfl) rfl ?_
              refine o_or 6 100 106 _ _ rfl
                (by
                  intro hg35
                  have hs36 := hg35; try simp only [decide_eq_true_eq, decide_eq_false_iff_not, Bool.not_eq_true', Bool.not_eq_false', Bool.and_eq_true, Bool.or_eq_true, Bool.and_eq_false_iff, Bool.or_eq_false_iff, Bool.not_true, Bool.not_false] at hs36
                  refine o_on 100 _ rfl rfl hg35 ?_
                  refine o_p (p_fieldAddr rfl rfl fd_48_3 sz_4 rfl) rfl ?_
                  refine o_on 100 _ rfl rfl hg35 ?_
                  first | refine o_q (q_load rfl rfl sz_4 (by repeat (first | exact .here | apply Pick.there)) rfl) rfl ?_ | refine o_q (q_load_old rfl rfl sz_4 (rfl (Rw.rd hs.1 hi))) rfl ?_ | refine o_q (q_load_old rfl rfl sz_4 (rfl (Rw.rd ht.1 hi2))) rfl ?_ | refine o_q (q_load_old rfl rfl sz_4 (rfl (Rw.rd (hs.at hi).1 hk))) rfl ?_ | refine o_q (q_load_old rfl rfl sz_4 (rfl (Rw.rd (ht.at hi2).1 hk2))) rfl ?_ | refine o_q (q_load_old rfl rfl sz_4 (rfl (Rw.rd ((hs.at hi).at hk) hn))) rfl ?_ | refine o_q (q_load_old rfl rfl sz_4 (rfl (Rw.rd ((ht.at hi2).at hk2) hn2))) rfl ?_
                  refine o_on 100 _ rfl rfl hg35 ?_
                  refine o_p (p_fieldAddr rfl rfl fd_48_3 sz_4 rfl) rfl ?_
                  refine o_on 100 _ rfl rfl hg35 ?_
                  first | refine o_q (q_load rfl rfl sz_4 (by repeat (first | exact .here | apply Pick.there)) rfl) rfl ?_ | refine o_q (q_load_old rfl rfl sz_4 (rfl (Rw.rd hs.1 hi))) rfl ?_ | refine o_q (q_load_old rfl rfl sz_4 (rfl (Rw.rd ht.1 hi2))) rfl ?_ | refine o_q (q_load_old rfl rfl sz_4 (rfl (Rw.rd (hs.at hi).1 hk))) rfl ?_ | refine o_q (q_load_old rfl rfl sz_4 (rfl (Rw.rd (ht.at hi2).1 hk2))) rfl ?_ | refine o_q (q_load_old rfl rfl sz_4 (rfl (Rw.rd ((hs.at hi).at hk) hn))) rfl ?_ | refine o_q (q_load_old rfl rfl sz_4 (rfl (Rw.rd ((ht.at hi2).at hk2) hn2))) rfl ?_
                  refine o_on 100 _ rfl rfl hg35 ?_
                  refine o_p (p_neq_bool rfl rfl rfl Try.underlying4) rfl ?_
                  refine o_p (p_pickf rfl rfl hg35 rfl) rfl ?_
                  refine o_nil ?_
                  exact s_joinN 6 106 _ rfl rfl rfl (fun w h => by first | exact h | exact h.ent (by repeat (first | exact .nil | refine .cons (by repeat (first | exact .here | apply Pick.there)) ?_))))
                (by
                  intro hg37
                  have hs38 := hg37; try simp only [decide_eq_true_eq, decide_eq_false_iff_not, Bool.not_eq_true', Bool.not_eq_false', Bool.and_eq_true, Bool.or_eq_true, Bool.and_eq_false_iff, Bool.or_eq_false_iff, Bool.not_true, Bool.not_false] at hs38
                  refine o_off 100 _ rfl rfl hg37 rfl ?_
                  refine o_off 100 _ rfl rfl hg37 rfl ?_
                  refine o_off 100 _ rfl rfl hg37 rfl ?_
                  refine o_off 100 _ rfl rfl hg37 rfl ?_
                  refine o_off 100 _ rfl rfl hg37 rfl ?_
                  refine o_p (p_pickt rfl rfl hg37 rfl) rfl ?_
                  refine o_nil ?_
                  exact s_joinN 6 106 _ rfl rfl rfl (fun w h => by first | exact h | exact h.ent (by repeat (first | exact .nil | refine .cons (by repeat (first | exact .here | apply Pick.there)) ?_)))) ?_
              refine o_p (p_pure rfl) rfl ?_
              refine o_or 8 107 115 _ _ rfl
                (by
                  intro hg39
                  have hs40 := hg39; try simp only [decide_eq_true_eq, decide_eq_false_iff_not, Bool.not_eq_true', Bool.not_eq_false', Bool.and_eq_true, Bool.or_eq_true, Bool.and_eq_false_iff, Bool.or_eq_false_iff, Bool.not_true, Bool.not_false] at hs40
                  refine o_on 107 _ rfl rfl hg39 ?_
                  refine o_p (p_fieldAddr rfl rfl fd_48_4 sz_46 rfl) rfl ?_
                  refine o_on 107 _ rfl rfl hg39 ?_
                  first | refine o_q (q_load rfl rfl sz_46 (by repeat (first | exact .here | apply Pick.there)) rfl) rfl ?_ | refine o_q (q_load_old rfl rfl sz_46 (rfl (Rw.rd hs.1 hi))) rfl ?_ | refine o_q (q_load_old rfl rfl sz_46 (rfl (Rw.rd ht.1 hi2))) rfl ?_ | refine o_q (q_load_old rfl rfl sz_46 (rfl (Rw.rd (hs.at hi).1 hk))) rfl ?_ | refine o_q (q_load_old rfl rfl sz_46 (rfl (Rw.rd (ht.at hi2).1 hk2))) rfl ?_ | refine o_q (q_load_old rfl rfl sz_46 (rfl (Rw.rd ((hs.at hi).at hk) hn))) rfl ?_ | refine o_q (q_load_old rfl rfl sz_46 (rfl (Rw.rd ((ht.at hi2).at hk2) hn2))) rfl ?_
                  refine o_on 107 _ rfl rfl hg39 ?_
                  first | refine o_p (p_len_slice rfl rfl Try.underlying46) rfl ?_ | refine o_q (q_len_own rfl rfl Try.underlying46 (by repeat (first | exact .here | apply Pick.there))) rfl ?_
                  refine o_on 107 _ rfl rfl hg39 ?_
                  refine o_p (p_fieldAddr rfl rfl fd_48_4 sz_46 rfl) rfl ?_
                  refine o_on 107 _ rfl rfl hg39 ?_
                  first | refine o_q (q_load rfl rfl sz_46 (by repeat (first | exact .here | apply Pick.there)) rfl) rfl ?_ | refine o_q (q_load_old rfl rfl sz_46 (rfl (Rw.rd hs.1 hi))) rfl ?_ | refine o_q (q_load_old rfl rfl sz_46 (rfl (Rw.rd ht.1 hi2))) rfl ?_ | refine o_q (q_load_old rfl rfl sz_46 (rfl (Rw.rd (hs.at hi).1 hk))) rfl ?_ | refine o_q (q_load_old rfl rfl sz_46 (rfl (Rw.rd (ht.at hi2).1 hk2))) rfl ?_ | refine o_q (q_load_old rfl rfl sz_46 (rfl (Rw.rd ((hs.at hi).at hk) hn))) rfl ?_ | refine o_q (q_load_old rfl rfl sz_46 (rfl (Rw.rd ((ht.at hi2).at hk2) hn2))) rfl ?_
                  refine o_on 107 _ rfl rfl hg39 ?_
                  first | refine o_p (p_len_slice rfl rfl Try.underlying46) rfl ?_ | refine o_q (q_len_own rfl rfl Try.underlying46 (by repeat (first | exact .here | apply Pick.there))) rfl ?_
                  refine o_on 107 _ rfl rfl hg39 ?_
                  refine o_p (p_pure rfl) rfl ?_
                  refine o_p (p_pickf rfl rfl hg39 rfl) rfl ?_
                  refine o_nil ?_
                  exact s_joinN 8 115 _ rfl rfl rfl (fun w h => by first | exact h | exact h.ent (by repeat (first | exact .nil | refine .cons (by repeat (first | exact .here | apply Pick.there)) ?_))))
                (by
                  intro hg41
                  have hs42 := hg41; try simp only [decide_eq_true_eq, decide_eq_false_iff_not, Bool.not_eq_true', Bool.not_eq_false', Bool.and_eq_true, Bool.or_eq_true, Bool.and_eq_false_iff, Bool.or_eq_false_iff, Bool.not_true, Bool.not_false] at hs42
                  refine o_off 107 _ rfl rfl hg41 rfl ?_
                  refine o_off 107 _ rfl rfl hg41 rfl ?_
                  refine o_off 107 _ rfl rfl hg41 rfl ?_
                  refine o_off 107 _ rfl rfl hg41 rfl ?_
                  refine o_off 107 _ rfl rfl hg41 rfl ?_
                  refine o_off 107 _ rfl rfl hg41 rfl ?_
                  refine o_off 107 _ rfl rfl hg41 rfl ?_
                  refine o_p (p_pickt rfl rfl hg41 rfl) rfl ?_
                  refine o_nil ?_
                  exact s_joinN 8 115 _ rfl rfl rfl (fun w h => by first | exact h | exact h.ent (by repeat (first | exact .nil | refine .cons (by repeat (first | exact .here | apply Pick.there)) ?_)))) ?_
              refine o_nil ?_
              refine s_cond rfl (fun h43 => ?_) (fun h43 => ?_)
              · try simp only [decide_eq_true_eq, decide_eq_false_iff_not, Bool.not_eq_true', Bool.not_eq_false', Bool.and_eq_true, Bool.or_eq_true, Bool.and_eq_false_iff, Bool.or_eq_false_iff, Bool.not_true, Bool.not_false] at h43
                exfalso; have hq9 := h43; simp [d1, d2, d3, d4, d6] at hq9
              · try simp only [decide_eq_true_eq, decide_eq_false_iff_not, Bool.not_eq_true', Bool.not_eq_false', Bool.and_eq_true, Bool.or_eq_true, Bool.and_eq_false_iff, Bool.or_eq_false_iff, Bool.not_true, Bool.not_false] at h43
                refine s_skip ?_
                refine s_seq ?_
                refine s_weaken (L' := [(2, _), (3, _), (5, _), (6, _), (7, _), (8, _), (9, _), (10, _)]) (by repeat (first | exact sl_n | refine sl_c rfl ?_)) (fun _ h => h) ?_
                refine s_region ?_
                refine o_p (p_pure rfl) rfl ?_
                refine o_nil ?_
                refine s_block ?_
                refine s_loopI (α := Nat) [4, 11, 116, 117, 118, 119, 120, 121, 122, 123, 124, 125, 126, 127, 128, 129, 130, 131, 132, 133] (fun i => [(11, .int .i64 (i : Int))]) (fun _ => HS w [] [.blk z.1 48 5 (nth (nth L i).op k).vals, .blk z.2 48 5 (nth (nth L2 i).op k).vals, .blk y.1 77 4 (nth L i).vals, .blk y.2 77 4 (nth L2 i).vals, .blk b1 26 2 [.int .i64 next, .slice a L.length cap], .blk b2 26 2 [.int .i64 next, .slice b L2.length cap2]]) (fun n => n ≤ (nth (nth L i).op k).lk.length) (fun n => (nth (nth L i).op k).lk.length - n) 0 (Nat.zero_le _) (by repeat (first | exact sl_n | refine sl_c rfl ?_)) (fun w h => h.ent (by repeat (first | exact .nil | refine .cons (by repeat (first | exact .here | apply Pick.there)) ?_))) (fun n hn1 => ?_)
                refine s_seq ?_
                refine s_seq ?_
                refine s_region ?_
                refine o_p (p_pure rfl) rfl ?_
                refine o_p (p_fieldAddr rfl rfl fd_48_4 sz_46 rfl) rfl ?_
                first | refine o_q (q_load rfl rfl sz_46 (by repeat (first | exact .here | apply Pick.there)) rfl) rfl ?_ | refine o_q (q_load_old rfl rfl sz_46 (rfl (Rw.rd hs.1 hi))) rfl ?_ | refine o_q (q_load_old rfl rfl sz_46 (rfl (Rw.rd ht.1 hi2))) rfl ?_ | refine o_q (q_load_old rfl rfl sz_46 (rfl (Rw.rd (hs.at hi).1 hk))) rfl ?_ | refine o_q (q_load_old rfl rfl sz_46 (rfl (Rw.rd (ht.at hi2).1 hk2))) rfl ?_ | refine o_q (q_load_old rfl rfl sz_46 (rfl (Rw.rd ((hs.at hi).at hk) hn))) rfl ?_ | refine o_q (q_load_old rfl rfl sz_46 (rfl (Rw.rd ((ht.at hi2).at hk2) hn2))) rfl ?_
                first | refine o_p (p_len_slice rfl rfl Try.underlying46) rfl ?_ | refine o_q (q_len_own rfl rfl Try.underlying46 (by repeat (first | exact .here | apply Pick.there))) rfl ?_
                refine o_p (p_pure rfl) rfl ?_
                refine o_nil ?_
                refine s_cond rfl (fun h44 => ?_) (fun h44 => ?_)
                · try simp only [decide_eq_true_eq, decide_eq_false_iff_not, Bool.not_eq_true', Bool.not_eq_false', Bool.and_eq_true, Bool.or_eq_true, Bool.and_eq_false_iff, Bool.or_eq_false_iff, Bool.not_true, Bool.not_false] at h44
                  have hn : n < (nth (nth L i).op k).lk.length := by omega
                  have hn2 : n < (nth (nth L2 i).op k).lk.length := by omega
                  refine s_skip ?_
                  refine s_seq ?_
                  refine s_block ?_
                  refine s_seq ?_
                  refine s_draw [] mixed ?_
                  refine d_p 0 rfl (p_fieldAddr rfl rfl fd_48_4 sz_46 rfl) (by kernel_rfl) rfl rfl ?_
                  first | refine d_q 1 [] rfl (q_load rfl rfl sz_46 (by repeat (first | exact .here | apply Pick.there)) rfl) (by kernel_rfl) (by kernel_rfl) (by kernel_rfl) rfl ?_ | refine d_q 1 [] rfl (q_load_old rfl rfl sz_46 (rfl (Rw.rd hs.1 hi))) (by kernel_rfl) (by kernel_rfl) (by kernel_rfl) rfl ?_ | refine d_q 1 [] rfl (q_load_old rfl rfl sz_46 (rfl (Rw.rd ht.1 hi2))) (by kernel_rfl) (by kernel_rfl) (by kernel_rfl) rfl ?_ | refine d_q 1 [] rfl (q_load_old rfl rfl sz_46 (rfl (Rw.rd (hs.at hi).1 hk))) (by kernel_rfl) (by kernel_rfl) (by kernel_rfl) rfl ?_ | refine d_q 1 [] rfl (q_load_old rfl rfl sz_46 (rfl (Rw.rd (ht.at hi2).1 hk2))) (by kernel_rfl) (by kernel_rfl) (by kernel_rfl) rfl ?_ | refine d_q 1 [] rfl (q_load_old rfl rfl sz_46 (rfl (Rw.rd ((hs.at hi).at hk) hn))) (by kernel_rfl) (by kernel_rfl) (by kernel_rfl) rfl ?_ | refine d_q 1 [] rfl (q_load_old rfl rfl sz_46 (rfl (Rw.rd ((ht.at hi2).at hk2) hn2))) (by kernel_rfl) (by kernel_rfl) (by kernel_rfl) rfl ?_
                  refine d_p 2 rfl (p_pure rfl) (by kernel_rfl) rfl rfl ?_
                  first | refine d_p 3 rfl (p_indexAddr rfl rfl rfl sl_46 (n) (by omega) (by omega) rfl) (by kernel_rfl) rfl rfl ?_ | refine d_p 3 rfl (p_indexAddr rfl rfl rfl sl_46 (n) (by omega) (by omega) (Rw.some hs.1 (by omega))) (by kernel_rfl) rfl rfl ?_ | refine d_p 3 rfl (p_indexAddr rfl rfl rfl sl_46 (n) (by omega) (by omega) (Rw.some ht.1 (by omega))) (by kernel_rfl) rfl rfl ?_ | refine d_p 3 rfl (p_indexAddr rfl rfl rfl sl_46 (n) (by omega) (by omega) (Rw.some (hs.at hi).1 (by omega))) (by kernel_rfl) rfl rfl ?_ | refine d_p 3 rfl (p_indexAddr rfl rfl rfl sl_46 (n) (by omega) (by omega) (Rw.some (ht.at hi2).1 (by omega))) (by kernel_rfl) rfl rfl ?_ | refine d_p 3 rfl (p_indexAddr rfl rfl rfl sl_46 (n) (by omega) (by omega) (Rw.some ((hs.at hi).at hk) (by omega))) (by kernel_rfl) rfl rfl ?_ | refine d_p 3 rfl (p_indexAddr rfl rfl rfl sl_46 (n) (by omega) (by omega) (Rw.some ((ht.at hi2).at hk2) (by omega))) (by kernel_rfl) rfl rfl ?_
                  first | refine d_q 4 [] rfl (q_loadn rfl rfl sz_62 (by repeat (first | exact .here | apply Pick.there)) rfl) (by kernel_rfl) (by kernel_rfl) (by kernel_rfl) rfl ?_ | refine d_q 4 [] rfl (q_load_oldn _ rfl rfl sz_62 rfl (Rw.rd hs.1 hi)) (by kernel_rfl) (by kernel_rfl) (by kernel_rfl) rfl ?_ | refine d_q 4 [] rfl (q_load_oldn _ rfl rfl sz_62 rfl (Rw.rd ht.1 hi2)) (by kernel_rfl) (by kernel_rfl) (by kernel_rfl) rfl ?_ | refine d_q 4 [] rfl (q_load_oldn _ rfl rfl sz_62 rfl (Rw.rd (hs.at hi).1 hk)) (by kernel_rfl) (by kernel_rfl) (by kernel_rfl) rfl ?_ | refine d_q 4 [] rfl (q_load_oldn _ rfl rfl sz_62 rfl (Rw.rd (ht.at hi2).1 hk2)) (by kernel_rfl) (by kernel_rfl) (by kernel_rfl) rfl ?_ | refine d_q 4 [] rfl (q_load_oldn _ rfl rfl sz_62 rfl (Rw.rd ((hs.at hi).at hk) hn)) (by kernel_rfl) (by kernel_rfl) (by kernel_rfl) rfl ?_ | refine d_q 4 [] rfl (q_load_oldn _ rfl rfl sz_62 rfl (Rw.rd ((ht.at hi2).at hk2) hn2)) (by kernel_rfl) (by kernel_rfl) (by kernel_rfl) rfl ?_
                  refine d_p 5 rfl (p_fieldAddr rfl rfl fd_48_4 sz_46 rfl) (by kernel_rfl) rfl rfl ?_
                  first | refine d_q 6 [] rfl (q_load rfl rfl sz_46 (by repeat (first | exact .here | apply Pick.there)) rfl) (by kernel_rfl) (by kernel_rfl) (by kernel_rfl) rfl ?_ | refine d_q 6 [] rfl (q_load_old rfl rfl sz_46 (rfl (Rw.rd hs.1 hi))) (by kernel_rfl) (by kernel_rfl) (by kernel_rfl) rfl ?_ | refine d_q 6 [] rfl (q_load_old rfl rfl sz_46 (rfl (Rw.rd ht.1 hi2))) (by kernel_rfl) (by kernel_rfl) (by kernel_rfl) rfl ?_ | refine d_q 6 [] rfl (q_load_old rfl rfl sz_46 (rfl (Rw.rd (hs.at hi).1 hk))) (by kernel_rfl) (by kernel_rfl) (by kernel_rfl) rfl ?_ | refine d_q 6 [] rfl (q_load_old rfl rfl sz_46 (rfl (Rw.rd (ht.at hi2).1 hk2))) (by kernel_rfl) (by kernel_rfl) (by kernel_rfl) rfl ?_ | refine d_q 6 [] rfl (q_load_old rfl rfl sz_46 (rfl (Rw.rd ((hs.at hi).at hk) hn))) (by kernel_rfl) (by kernel_rfl) (by kernel_rfl) rfl ?_ | refine d_q 6 [] rfl (q_load_old rfl rfl sz_46 (rfl (Rw.rd ((ht.at hi2).at hk2) hn2))) (by kernel_rfl) (by kernel_rfl) (by kernel_rfl) rfl ?_
                  refine d_p 7 rfl (p_pure rfl) (by kernel_rfl) rfl rfl ?_
                  first | refine d_p 8 rfl (p_indexAddr rfl rfl rfl sl_46 (n) (by omega) (by omega) rfl) (by kernel_rfl) rfl rfl ?_ | refine d_p 8 rfl (p_indexAddr rfl rfl rfl sl_46 (n) (by omega) (by omega) (Rw.some hs.1 (by omega))) (by kernel_rfl) rfl rfl ?_ | refine d_p 8 rfl (p_indexAddr rfl rfl rfl sl_46 (n) (by omega) (by omega) (Rw.some ht.1 (by omega))) (by kernel_rfl) rfl rfl ?_ | refine d_p 8 rfl (p_indexAddr rfl rfl rfl sl_46 (n) (by omega) (by omega) (Rw.some (hs.at hi).1 (by omega))) (by kernel_rfl) rfl rfl ?_ | refine d_p 8 rfl (p_indexAddr rfl rfl rfl sl_46 (n) (by omega) (by omega) (Rw.some (ht.at hi2).1 (by omega))) (by kernel_rfl) rfl rfl ?_ | refine d_p 8 rfl (p_indexAddr rfl rfl rfl sl_46 (n) (by omega) (by omega) (Rw.some ((hs.at hi).at hk) (by omega))) (by kernel_rfl) rfl rfl ?_ | refine d_p 8 rfl (p_indexAddr rfl rfl rfl sl_46 (n) (by omega) (by omega) (Rw.some ((ht.at hi2).at hk2) (by omega))) (by kernel_rfl) rfl rfl ?_
                  first | refine d_q 9 [] rfl (q_loadn rfl rfl sz_62 (by repeat (first | exact .here | apply Pick.there)) rfl) (by kernel_rfl) (by kernel_rfl) (by kernel_rfl) rfl ?_ | refine d_q 9 [] rfl (q_load_oldn _ rfl rfl sz_62 rfl (Rw.rd hs.1 hi)) (by kernel_rfl) (by kernel_rfl) (by kernel_rfl) rfl ?_ | refine d_q 9 [] rfl (q_load_oldn _ rfl rfl sz_62 rfl (Rw.rd ht.1 hi2)) (by kernel_rfl) (by kernel_rfl) (by kernel_rfl) rfl ?_ | refine d_q 9 [] rfl (q_load_oldn _ rfl rfl sz_62 rfl (Rw.rd (hs.at hi).1 hk)) (by kernel_rfl) (by kernel_rfl) (by kernel_rfl) rfl ?_ | refine d_q 9 [] rfl (q_load_oldn _ rfl rfl sz_62 rfl (Rw.rd (ht.at hi2).1 hk2)) (by kernel_rfl) (by kernel_rfl) (by kernel_rfl) rfl ?_ | refine d_q 9 [] rfl (q_load_oldn _ rfl rfl sz_62 rfl (Rw.rd ((hs.at hi).at hk) hn)) (by kernel_rfl) (by kernel_rfl) (by kernel_rfl) rfl ?_ | refine d_q 9 [] rfl (q_load_oldn _ rfl rfl sz_62 rfl (Rw.rd ((ht.at hi2).at hk2) hn2)) (by kernel_rfl) (by kernel_rfl) (by kernel_rfl) rfl ?_
                  refine d_p 10 rfl (p_neq_agg rfl rfl rfl eqk_62 (by rfl) (by rfl) (by rfl)) (by kernel_rfl) rfl rfl ?_
                  refine d_nil (by kernel_rfl) (fun w h => h.ent (by repeat (first | exact .nil | refine .cons (by repeat (first | exact .here | apply Pick.there)) ?_))) ?_
                  refine s_cond rfl (fun h45 => ?_) (fun h45 => ?_)
                  · try simp only [decide_eq_true_eq, decide_eq_false_iff_not, Bool.not_eq_true', Bool.not_eq_false', Bool.and_eq_true, Bool.or_eq_true, Bool.and_eq_false_iff, Bool.or_eq_false_iff, Bool.not_true, Bool.not_false] at h45
                    exfalso; have hq9 := h45; simp [d5] at hq9
                  · try simp only [decide_eq_true_eq, decide_eq_false_iff_not, Bool.not_eq_true', Bool.not_eq_false', Bool.and_eq_true, Bool.or_eq_true, Bool.and_eq_false_iff, Bool.or_eq_false_iff, Bool.not_true, Bool.not_false] at h45
                    refine s_skip ?_
                    refine s_blk ?_
                    refine s_region ?_
                    refine o_p (p_pure rfl) rfl ?_
                    refine o_p (p_pure rfl) rfl ?_
                    try (refine o_slot (i64w (by omega) (by omega)) ?_)
                    refine o_p (p_pure rfl) rfl ?_
                    refine o_nil ?_
                    exact s_backI (n + 1) (by omega) (by omega) (by repeat (first | exact sl_n | refine sl_c rfl ?_)) (fun w h => h.ent (by repeat (first | exact .nil | refine .cons (by repeat (first | exact .here | apply Pick.there)) ?_)))
                · try simp only [decide_eq_true_eq, decide_eq_false_iff_not, Bool.not_eq_true', Bool.not_eq_false', Bool.and_eq_true, Bool.or_eq_true, Bool.and_eq_false_iff, Bool.or_eq_false_iff, Bool.not_true, Bool.not_false] at h44
                  refine s_exit_to rfl ?_
                  refine s_blk ?_
                  refine s_region ?_
                  refine o_p (p_pure rfl) rfl ?_
                  refine o_p (p_pure rfl) rfl ?_
                  try (refine o_slot (i64w (by omega) (by omega)) ?_)
                  refine o_p (p_pure rfl) rfl ?_
                  refine o_nil ?_
                  exact s_backI (k + 1) (by omega) (by omega) (by repeat (first | exact sl_n | refine sl_c rfl ?_)) (fun w h => h.ent (by repeat (first | exact .nil | refine .cons (by repeat (first | exact .here | apply Pick.there)) ?_)))
          · try simp only [decide_eq_true_eq, decide_eq_false_iff_not, Bool.not_eq_true', Bool.not_eq_false', Bool.and_eq_true, Bool.or_eq_true, Bool.and_eq_false_iff, Bool.or_eq_false_iff, Bool.not_true, Bool.not_false] at h22
            refine s_exit_to rfl ?_
            refine s_blk ?_
            refine s_region ?_
            refine o_p (p_pure rfl) rfl ?_
            refine o_p (p_pure rfl) rfl ?_
            try (refine o_slot (i64w (by omega) (by omega)) ?_)
            refine o_p (p_pure rfl) rfl ?_
            refine o_nil ?_
            exact s_backI (i + 1) (by omega) (by omega) (by repeat (first | exact sl_n | refine sl_c rfl ?_)) (fun w h => h.ent (by repeat (first | exact .nil | refine .cons (by repeat (first | exact .here | apply Pick.there)) ?_)))
    · try simp only [decide_eq_true_eq, decide_eq_false_iff_not, Bool.not_eq_true', Bool.not_eq_false', Bool.and_eq_true, Bool.or_eq_true, Bool.and_eq_false_iff, Bool.or_eq_false_iff, Bool.not_true, Bool.not_false] at h8
      refine s_exit_to rfl ?_
      refine s_seq ?_
      refine s_region ?_
      refine o_p (p_pure rfl) rfl ?_
      refine o_nil ?_
      exact s_retv (rs := [.tmp 4]) rfl (.tmp rfl (.nil)) (fun w' h' => ⟨rfl, h'.below⟩)

end Go.Proofs
