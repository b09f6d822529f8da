/- Contracts of the program's functions, proved by walking them with the rules of the Gx texts; without conditions beyond those that each contract names. -/
import Derived.Test.YtgdigngojonbhaaC25U
namespace Go.Proofs
open Go Go.RowKit Gx
set_option linter.unusedVariables false
set_option linter.unusedSimpArgs false
attribute [local irreducible] Go.Calls Gx.S Gx.O Gx.D Gx.OpP Gx.OpQ Gx.OpH



theorem lockE_l {L : List LFil} {i k : Nat} {q : Lock} (hi : i < L.length) (hk : k < (nth L i).op.length) : lockE (pls L) i k q = if (hasB (nth (nth L i).op k).ac 1 || hasB (nth (nth L i).op k).ac 2) = true then if (nth (nth L i).op k).lk.length < 16 then if anyK (nth L i).pl q = true then 29 else 0 else 16 else 27 := by
  unfold lockE
  rw [nth_pls hi, LFil.pl, nth_plo hk]
  rfl
theorem lockT_f {L : List Fil} {h : Int} {q : Lock} (hn : ¬ (findF L h 0).2.2 = 0) : (lockT L h q).2 = (findF L h 0).2.2 := by rw [lockT, if_neg hn]
theorem lockT_r {L : List Fil} {h : Int} {q : Lock} (hn : (findF L h 0).2.2 = 0) (h2 : ¬ rngE q.fr q.cnt = 0) : lockT L h q = (L, rngE q.fr q.cnt) := by rw [lockT, if_pos hn, if_neg h2]
theorem lockT_l {L : List Fil} {h : Int} {q : Lock} {i k : Nat} (hfe : findF L h 0 = (i, k, 0)) (h2 : rngE q.fr q.cnt = 0) : lockT L h q = if lockE L i k q = 0 then (updO L i k fun o => { o with lk := o.lk ++ [q] }, 0) else (L, lockE L i k q) := by
  rw [lockT, hfe]
  simp only [if_true]
  rw [if_pos h2]
theorem lockT_x {L : List Fil} {h : Int} {q : Lock} {i k : Nat} {e : Int} (hfe : findF L h 0 = (i, k, 0)) (h2 : rngE q.fr q.cnt = 0) (h3 : lockE L i k q = e) (h4 : ¬ e = 0) : lockT L h q = (L, e) := by rw [lockT_l hfe h2, h3, if_neg h4]
theorem anyK_hit {f : LFil} {q : Lock} {n m : Nat} (hn : n < f.op.length) (hm : m < (nth f.op n).lk.length) (h : clsh q (nth (nth f.op n).lk m) = true) : anyK f.pl q = true := by
  unfold anyK
  rw [List.any_eq_true]
  refine ⟨(nth f.op n).pl, List.mem_map.2 ⟨_, mem_nth hn, rfl⟩, ?_⟩
  rw [List.any_eq_true]
  exact ⟨_, mem_nth hm, by rw [clsh_comm]; exact h⟩
theorem anyK_no {f : LFil} {q : Lock} (h : ∀ n, n < f.op.length → ∀ m, m < (nth f.op n).lk.length → clsh q (nth (nth f.op n).lk m) = false) : anyK f.pl q = false := by
  unfold anyK
  rw [List.any_eq_false]
  intro o ho
  obtain ⟨p, hp, rfl⟩ := List.mem_map.1 ho
  obtain ⟨n, hn, rfl⟩ := mem_nth_ex hp
  rw [Bool.not_eq_true, List.any_eq_false]
  intro x hx
  obtain ⟨m, hm, rfl⟩ := mem_nth_ex hx
  rw [clsh_comm]
  show ¬ clsh q (nth (nth f.op n).lk m) = true
  rw [h n hn m hm]
  decide
theorem same_op {f f' : LFil} {k : Nat} (h : f'.pl = f.pl) (hk : k < f.op.length) : k < f'.op.length ∧ f'.op.length = f.op.length ∧ (nth f'.op k).pl = (nth f.op k).pl := by
  have h1 : plo f'.op = plo f.op := congrArg Fil.op h
  have hl : f'.op.length = f.op.length := by
    have h9 := congrArg List.length h1
    simpa using h9
  refine ⟨by omega, hl, ?_⟩
  rw [← nth_plo (show k < f'.op.length by omega), h1, nth_plo hk]

set_option maxRecDepth 20000 in
set_option maxHeartbeats 1000000 in
theorem c25 (w : World) (next : Int) (a : Option Addr) (cap : Nat) (L : List LFil) (h : Int) (q : Lock) (hs : Ft w [] a L) (hm : L.length ≤ 1000) (hmo : ∀ f ∈ L, f.op.length ≤ 1000) (hml : ∀ f ∈ L, ∀ o ∈ f.op, o.lk.length ≤ 1000) : Calls Try.prog 25 #[.agg #[.int .i64 next, .slice a L.length cap], .int .i64 h, .agg #[.int .i64 q.fr, .int .i64 q.cnt, .bool q.ex]] w fun en w' => ∃ g : (Option Addr × Nat) × List LFil, en = .returned (.tuple #[.agg #[.int .i64 (afT next (pls L) (lockT (pls L) h q)).1.2, .slice g.1.1 g.2.length g.1.2], .int .i64 (afT next (pls L) (lockT (pls L) h q)).2]) ∧ pls g.2 = (afT next (pls L) (lockT (pls L) h q)).1.1 ∧ HS w [] [.files g.1.1 g.1.2 g.2] w' := by
  refine enter (args := [_, _, _]) Try.func25 Try.ntmps25 rfl rfl (HS.refl w []) ?_
  refine s_seq ?_
  refine s_region ?_
  refine o_h (h_box rfl rfl) rfl (fun b1 _ => ?_)
  refine o_h (h_box rfl rfl) rfl (fun b2 _ => ?_)
  refine o_h (h_alloc rfl zr_26) rfl (fun b3 _ => ?_)
  refine o_p (p_pure rfl) rfl ?_
  refine o_nil ?_
  refine s_seq ?_
  refine s_seq ?_
  refine s_region ?_
  first | refine o_q (q_loadn rfl rfl sz_26 (by repeat (first | exact .here | apply Pick.there)) rfl) rfl ?_ | refine o_q (q_load_atn _ rfl rfl sz_26 fun w h => (h.rd_blk (Mc := []) (b := ga) (by repeat (first | exact .here | apply Pick.there)) (by rw [flat_get fv4 _ i 3 _ (nth_get hiN) (by decide)]; rfl) (by simp))) rfl ?_ | refine o_q (q_load_atn _ rfl rfl sz_26 fun w h => (h.rd_blk (Mc := []) (b := go) (by repeat (first | exact .here | apply Pick.there)) (by rw [flat_get ov5 _ k 4 _ (nth_get hkN) (by decide)]; rfl) (by simp))) rfl ?_ | refine o_q (q_load_oldn _ rfl rfl sz_26 (hs.1.rdj 3 hi rfl)) rfl ?_ | refine o_q (q_load_oldn _ rfl rfl sz_26 rfl (Rw.rd (hs.at hi).1 hk)) rfl ?_ | refine o_q (q_load_oldn _ rfl rfl sz_26 ((hs.at hi).1.rdj 4 hnl rfl)) rfl ?_ | refine o_q (q_load_oldn _ rfl rfl sz_26 rfl (Rw.rd ((hs.at hi).at hnl) hml)) rfl ?_
  refine o_p (p_pure rfl) rfl ?_
  refine o_q (q_call rfl fn_68 rfl (fun w1 h1 => c68 w1 next a cap L h (hs.later h1) hm hmo)) rfl ?_
  refine o_p (p_pure rfl) rfl ?_
  refine o_nil ?_
  refine s_seq ?_
  refine s_region ?_
  refine o_p (p_pure rfl) rfl ?_
  refine o_p (p_pure rfl) rfl ?_
  refine o_nil ?_
  refine s_cond rfl (fun h4 => ?_) (fun h4 => ?_)
  · try simp only [decide_eq_true_eq, decide_eq_false_iff_not, Bool.not_eq_true', Bool.not_eq_false', Bool.and_eq_true, Bool.or_eq_true, Bool.and_eq_false_iff, Bool.or_eq_false_iff, Bool.not_true, Bool.not_false] at h4
    have hz : ¬ hErr next (pls L) h = 0 := h4
    refine s_seq ?_
    refine s_region ?_
    refine o_p (p_build (cs := [_, _]) rfl rfl pl_26 zr_26 rfl) rfl ?_
    refine o_p (p_pure rfl) rfl ?_
    refine o_h0 (h_store rfl rfl rfl sz_26 rfl (by repeat (first | exact .here | apply Put.there)) (by simp only [setMany_length, List.length_set, List.length_cons, List.length_nil, List.length_map]; omega) rfl) (fun _ _ => ?_)
    refine o_p (p_pure rfl) rfl ?_
    refine o_nil ?_
    exact s_retv (rs := [.cell 6 26, .tmp 7]) rfl (.cell rfl sz_26 (by repeat (first | exact .here | apply Pick.there)) rfl (.tmp rfl (.nil))) (fun w' h' => by have hR := afT_h (r := (lockT (pls L) h q)) hz (fun h9 => lockT_f h9); exact ⟨((none, 0), []), by rw [hR]; rfl, by rw [hR]; rfl, (HS.files_none h').ent (by repeat (first | exact .nil | refine .cons (by repeat (first | exact .here | apply Pick.there)) ?_))⟩)
  · try simp only [decide_eq_true_eq, decide_eq_false_iff_not, Bool.not_eq_true', Bool.not_eq_false', Bool.and_eq_true, Bool.or_eq_true, Bool.and_eq_false_iff, Bool.or_eq_false_iff, Bool.not_true, Bool.not_false] at h4
    have hz : hErr next (pls L) h = 0 := h4
    obtain ⟨hz1, hz2⟩ := hErr_0 hz
    have hok := chk_ok hz1
    have hV := hok.vw
    obtain ⟨i, k, hfe, hi, hk, hV3⟩ := findF_some hV hz2
    have hfd : fdI (pls L) h = ((i : Int), (k : Int)) := by rw [fdI, hfe]; rfl
    have hoi := hmo _ (mem_nth hi)
    refine s_skip ?_
    refine s_seq ?_
    refine s_seq ?_
    refine s_region ?_
    refine o_p (p_fieldAddr rfl rfl fd_62_0 sz_3 rfl) rfl ?_
    first | refine o_q (q_load rfl rfl sz_3 (by repeat (first | exact .here | apply Pick.there)) rfl) rfl ?_ | refine o_q (q_load_at rfl rfl sz_3 (fun w h => (h.rd_blk (Mc := []) (b := ga) (by repeat (first | exact .here | apply Pick.there)) (by rw [flat_get fv4 _ i 3 _ (nth_get hiN) (by decide)]; rfl) (by simp)))) rfl ?_ | refine o_q (q_load_at rfl rfl sz_3 (fun w h => (h.rd_blk (Mc := []) (b := go) (by repeat (first | exact .here | apply Pick.there)) (by rw [flat_get ov5 _ k 4 _ (nth_get hkN) (by decide)]; rfl) (by simp)))) rfl ?_ | refine o_q (q_load_old rfl rfl sz_3 ((hs.1.rdj 3 hi rfl))) rfl ?_ | refine o_q (q_load_old rfl rfl sz_3 (rfl (Rw.rd (hs.at hi).1 hk))) rfl ?_ | refine o_q (q_load_old rfl rfl sz_3 (((hs.at hi).1.rdj 4 hnl rfl))) rfl ?_ | refine o_q (q_load_old rfl rfl sz_3 (rfl (Rw.rd ((hs.at hi).at hnl) hml))) rfl ?_
    refine o_p (p_fieldAddr rfl rfl fd_62_1 sz_3 rfl) rfl ?_
    first | refine o_q (q_load rfl rfl sz_3 (by repeat (first | exact .here | apply Pick.there)) rfl) rfl ?_ | refine o_q (q_load_at rfl rfl sz_3 (fun w h => (h.rd_blk (Mc := []) (b := ga) (by repeat (first | exact .here | apply Pick.there)) (by rw [flat_get fv4 _ i 3 _ (nth_get hiN) (by decide)]; rfl) (by simp)))) rfl ?_ | refine o_q (q_load_at rfl rfl sz_3 (fun w h => (h.rd_blk (Mc := []) (b := go) (by repeat (first | exact .here | apply Pick.there)) (by rw [flat_get ov5 _ k 4 _ (nth_get hkN) (by decide)]; rfl) (by simp)))) rfl ?_ | refine o_q (q_load_old rfl rfl sz_3 ((hs.1.rdj 3 hi rfl))) rfl ?_ | refine o_q (q_load_old rfl rfl sz_3 (rfl (Rw.rd (hs.at hi).1 hk))) rfl ?_ | refine o_q (q_load_old rfl rfl sz_3 (((hs.at hi).1.rdj 4 hnl rfl))) rfl ?_ | refine o_q (q_load_old rfl rfl sz_3 (rfl (Rw.rd ((hs.at hi).at hnl) hml))) rfl ?_
    refine o_q (q_call rfl fn_69 rfl (fun w1 h1 => c69 w1 q.fr q.cnt)) rfl ?_
    refine o_p (p_pure rfl) rfl ?_
    refine o_nil ?_
    refine s_seq ?_
    refine s_region ?_
    refine o_p (p_pure rfl) rfl ?_
    refine o_p (p_pure rfl) rfl ?_
    refine o_nil ?_
    refine s_cond rfl (fun h5 => ?_) (fun h5 => ?_)
    · try simp only [decide_eq_true_eq, decide_eq_false_iff_not, Bool.not_eq_true', Bool.not_eq_false', Bool.and_eq_true, Bool.or_eq_true, Bool.and_eq_false_iff, Bool.or_eq_false_iff, Bool.not_true, Bool.not_false] at h5
      have hrg : ¬ rngE q.fr q.cnt = 0 := h5
      have hlt := lockT_r hz2 hrg
      refine s_seq ?_
      refine s_region ?_
      refine o_p (p_build (cs := [_, _]) rfl rfl pl_26 zr_26 rfl) rfl ?_
      refine o_p (p_pure rfl) rfl ?_
      refine o_h0 (h_store rfl rfl rfl sz_26 rfl (by repeat (first | exact .here | apply Put.there)) (by simp only [setMany_length, List.length_set, List.length_cons, List.length_nil, List.length_map]; omega) rfl) (fun _ _ => ?_)
      refine o_p (p_pure rfl) rfl ?_
      refine o_nil ?_
      exact s_retv (rs := [.cell 6 26, .tmp 7]) rfl (.cell rfl sz_26 (by repeat (first | exact .here | apply Pick.there)) rfl (.tmp rfl (.nil))) (fun w' h' => by have hR := afT_e (r := (lockT (pls L) h q)) hz1 (by rw [hlt]; show ¬ (rngE q.fr q.cnt : Int) = 0; exact hrg); exact ⟨((none, 0), []), by rw [hR, hlt]; rfl, by rw [hR, hlt]; rfl, (HS.files_none h').ent (by repeat (first | exact .nil | refine .cons (by repeat (first | exact .here | apply Pick.there)) ?_))⟩)
    · try simp only [decide_eq_true_eq, decide_eq_false_iff_not, Bool.not_eq_true', Bool.not_eq_false', Bool.and_eq_true, Bool.or_eq_true, Bool.and_eq_false_iff, Bool.or_eq_false_iff, Bool.not_true, Bool.not_false] at h5
      have hrg : rngE q.fr q.cnt = 0 := h5
      have hl32 := (VW.lens hV).2 _ (mem_nth hi)
      refine s_skip ?_
      refine s_seq ?_
      refine s_region ?_
      first | refine o_q (q_loadn rfl rfl sz_26 (by repeat (first | exact .here | apply Pick.there)) rfl) rfl ?_ | refine o_q (q_load_atn _ rfl rfl sz_26 fun w h => (h.rd_blk (Mc := []) (b := ga) (by repeat (first | exact .here | apply Pick.there)) (by rw [flat_get fv4 _ i 3 _ (nth_get hiN) (by decide)]; rfl) (by simp))) rfl ?_ | refine o_q (q_load_atn _ rfl rfl sz_26 fun w h => (h.rd_blk (Mc := []) (b := go) (by repeat (first | exact .here | apply Pick.there)) (by rw [flat_get ov5 _ k 4 _ (nth_get hkN) (by decide)]; rfl) (by simp))) rfl ?_ | refine o_q (q_load_oldn _ rfl rfl sz_26 (hs.1.rdj 3 hi rfl)) rfl ?_ | refine o_q (q_load_oldn _ rfl rfl sz_26 rfl (Rw.rd (hs.at hi).1 hk)) rfl ?_ | refine o_q (q_load_oldn _ rfl rfl sz_26 ((hs.at hi).1.rdj 4 hnl rfl)) rfl ?_ | refine o_q (q_load_oldn _ rfl rfl sz_26 rfl (Rw.rd ((hs.at hi).at hnl) hml)) rfl ?_
      refine o_p (p_pure rfl) rfl ?_
      refine o_q (q_call rfl fn_70 rfl (fun w1 h1 => c70 w1 next a cap L h (hs.later h1) hm hmo)) rfl ?_
      rw [hfd]
      refine o_p (p_pure rfl) rfl ?_
      refine o_p (p_pure rfl) rfl ?_
      refine o_p (p_pure rfl) rfl ?_
      refine o_p (p_pure rfl) rfl ?_
      refine o_p (p_pure rfl) rfl ?_
      refine o_nil ?_
      refine s_seq ?_
      refine s_region ?_
      refine o_p (p_fieldAddr rfl rfl fd_26_1 sz_24 rfl) rfl ?_
      first | refine o_q (q_load rfl rfl sz_24 (by repeat (first | exact .here | apply Pick.there)) rfl) rfl ?_ | refine o_q (q_load_at rfl rfl sz_24 (fun w h => (h.rd_blk (Mc := []) (b := ga) (by repeat (first | exact .here | apply Pick.there)) (by rw [flat_get fv4 _ i 3 _ (nth_get hiN) (by decide)]; rfl) (by simp)))) rfl ?_ | refine o_q (q_load_at rfl rfl sz_24 (fun w h => (h.rd_blk (Mc := []) (b := go) (by repeat (first | exact .here | apply Pick.there)) (by rw [flat_get ov5 _ k 4 _ (nth_get hkN) (by decide)]; rfl) (by simp)))) rfl ?_ | refine o_q (q_load_old rfl rfl sz_24 ((hs.1.rdj 3 hi rfl))) rfl ?_ | refine o_q (q_load_old rfl rfl sz_24 (rfl (Rw.rd (hs.at hi).1 hk))) rfl ?_ | refine o_q (q_load_old rfl rfl sz_24 (((hs.at hi).1.rdj 4 hnl rfl))) rfl ?_ | refine o_q (q_load_old rfl rfl sz_24 (rfl (Rw.rd ((hs.at hi).at hnl) hml))) rfl ?_
      refine o_p (p_pure rfl) rfl ?_
      first | refine o_p (p_indexAddr rfl rfl rfl sl_24 (i) (by omega) (by omega) rfl) rfl ?_ | refine o_p (p_indexAddr rfl rfl rfl sl_24 (i) (by omega) (by omega) (Rw.some hs.1 (by omega))) rfl ?_ | refine o_p (p_indexAddr rfl rfl rfl sl_24 (i) (by omega) (by omega) (Rw.some (hs.at hi).1 (by omega))) rfl ?_ | refine o_p (p_indexAddr rfl rfl rfl sl_24 (i) (by omega) (by omega) (Rw.some ((hs.at hi).at hnl) (by omega))) rfl ?_ | refine o_p (p_indexAddr rfl rfl rfl sl_24 (i) (by omega) (by omega) hoa) rfl ?_
      refine o_p (p_fieldAddr rfl rfl fd_77_2 sz_75 rfl) rfl ?_
      first | refine o_q (q_load rfl rfl sz_75 (by repeat (first | exact .here | apply Pick.there)) rfl) rfl ?_ | refine o_q (q_load_at rfl rfl sz_75 (fun w h => (h.rd_blk (Mc := []) (b := ga) (by repeat (first | exact .here | apply Pick.there)) (by rw [flat_get fv4 _ i 3 _ (nth_get hiN) (by decide)]; rfl) (by simp)))) rfl ?_ | refine o_q (q_load_at rfl rfl sz_75 (fun w h => (h.rd_blk (Mc := []) (b := go) (by repeat (first | exact .here | apply Pick.there)) (by rw [flat_get ov5 _ k 4 _ (nth_get hkN) (by decide)]; rfl) (by simp)))) rfl ?_ | refine o_q (q_load_old rfl rfl sz_75 ((hs.1.rdj 3 hi rfl))) rfl ?_ | refine o_q (q_load_old rfl rfl sz_75 (rfl (Rw.rd (hs.at hi).1 hk))) rfl ?_ | refine o_q (q_load_old rfl rfl sz_75 (((hs.at hi).1.rdj 4 hnl rfl))) rfl ?_ | refine o_q (q_load_old rfl rfl sz_75 (rfl (Rw.rd ((hs.at hi).at hnl) hml))) rfl ?_
      refine o_p (p_pure rfl) rfl ?_
      first | refine o_p (p_indexAddr rfl rfl rfl sl_75 (k) (by omega) (by omega) rfl) rfl ?_ | refine o_p (p_indexAddr rfl rfl rfl sl_75 (k) (by omega) (by omega) (Rw.some hs.1 (by omega))) rfl ?_ | refine o_p (p_indexAddr rfl rfl rfl sl_75 (k) (by omega) (by omega) (Rw.some (hs.at hi).1 (by omega))) rfl ?_ | refine o_p (p_indexAddr rfl rfl rfl sl_75 (k) (by omega) (by omega) (Rw.some ((hs.at hi).at hnl) (by omega))) rfl ?_ | refine o_p (p_indexAddr rfl rfl rfl sl_75 (k) (by omega) (by omega) hoa) rfl ?_
      first | refine o_q (q_loadn rfl rfl sz_48 (by repeat (first | exact .here | apply Pick.there)) rfl) rfl ?_ | refine o_q (q_load_atn _ rfl rfl sz_48 fun w h => (h.rd_blk (Mc := []) (b := ga) (by repeat (first | exact .here | apply Pick.there)) (by rw [flat_get fv4 _ i 3 _ (nth_get hiN) (by decide)]; rfl) (by simp))) rfl ?_ | refine o_q (q_load_atn _ rfl rfl sz_48 fun w h => (h.rd_blk (Mc := []) (b := go) (by repeat (first | exact .here | apply Pick.there)) (by rw [flat_get ov5 _ k 4 _ (nth_get hkN) (by decide)]; rfl) (by simp))) rfl ?_ | refine o_q (q_load_oldn _ rfl rfl sz_48 (hs.1.rdj 3 hi rfl)) rfl ?_ | refine o_q (q_load_oldn _ rfl rfl sz_48 rfl (Rw.rd (hs.at hi).1 hk)) rfl ?_ | refine o_q (q_load_oldn _ rfl rfl sz_48 ((hs.at hi).1.rdj 4 hnl rfl)) rfl ?_ | refine o_q (q_load_oldn _ rfl rfl sz_48 rfl (Rw.rd ((hs.at hi).at hnl) hml)) rfl ?_
      refine o_h (h_alloc rfl zr_48) rfl (fun b6 _ => ?_)
      refine o_h0 (h_store rfl rfl rfl sz_48 rfl (by repeat (first | exact .here | apply Put.there)) (by simp only [setMany_length, List.length_set, List.length_cons, List.length_nil, List.length_map]; omega) rfl) (fun _ _ => ?_)
      refine o_nil ?_
      refine s_seq ?_
      refine s_seq ?_
      refine s_weaken (L' := [(3, _), (5, _), (6, _), (7, _), (10, _), (11, _), (12, _)]) (by repeat (first | exact sl_n | refine sl_c rfl ?_)) (fun _ h => h) ?_
      refine s_region ?_
      refine o_p (p_fieldAddr rfl rfl fd_48_1 sz_3 rfl) rfl ?_
      first | refine o_q (q_load rfl rfl sz_3 (by repeat (first | exact .here | apply Pick.there)) rfl) rfl ?_ | refine o_q (q_load_at rfl rfl sz_3 (fun w h => (h.rd_blk (Mc := []) (b := ga) (by repeat (first | exact .here | apply Pick.there)) (by rw [flat_get fv4 _ i 3 _ (nth_get hiN) (by decide)]; rfl) (by simp)))) rfl ?_ | refine o_q (q_load_at rfl rfl sz_3 (fun w h => (h.rd_blk (Mc := []) (b := go) (by repeat (first | exact .here | apply Pick.there)) (by rw [flat_get ov5 _ k 4 _ (nth_get hkN) (by decide)]; rfl) (by simp)))) rfl ?_ | refine o_q (q_load_old rfl rfl sz_3 ((hs.1.rdj 3 hi rfl))) rfl ?_ | refine o_q (q_load_old rfl rfl sz_3 (rfl (Rw.rd (hs.at hi).1 hk))) rfl ?_ | refine o_q (q_load_old rfl rfl sz_3 (((hs.at hi).1.rdj 4 hnl rfl))) rfl ?_ | refine o_q (q_load_old rfl rfl sz_3 (rfl (Rw.rd ((hs.at hi).at hnl) hml))) rfl ?_
      refine o_q (q_call rfl fn_71 rfl (fun w1 h1 => c71 w1 _ 1 (by have := openE_r hV3.1; omega) (by omega))) rfl ?_
      refine o_p (p_pure rfl) rfl ?_
      refine o_p (p_pure rfl) rfl ?_
      refine o_and 5 51 56 _ _ rfl
        (by
          intro hg7
          have hs8 := hg7; try simp only [decide_eq_true_eq, decide_eq_false_iff_not, Bool.not_eq_true', Bool.not_eq_false', Bool.and_eq_true, Bool.or_eq_true, Bool.and_eq_false_iff, Bool.or_eq_false_iff, Bool.not_true, Bool.not_false] at hs8
          refine o_on 51 _ rfl rfl hg7 ?_
          refine o_p (p_fieldAddr rfl rfl fd_48_1 sz_3 rfl) rfl ?_
          refine o_on 51 _ rfl rfl hg7 ?_
          first | refine o_q (q_load rfl rfl sz_3 (by repeat (first | exact .here | apply Pick.there)) rfl) rfl ?_ | refine o_q (q_load_at rfl rfl sz_3 (fun w h => (h.rd_blk (Mc := []) (b := ga) (by repeat (first | exact .here | apply Pick.there)) (by rw [flat_get fv4 _ i 3 _ (nth_get hiN) (by decide)]; rfl) (by simp)))) rfl ?_ | refine o_q (q_load_at rfl rfl sz_3 (fun w h => (h.rd_blk (Mc := []) (b := go) (by repeat (first | exact .here | apply Pick.there)) (by rw [flat_get ov5 _ k 4 _ (nth_get hkN) (by decide)]; rfl) (by simp)))) rfl ?_ | refine o_q (q_load_old rfl rfl sz_3 ((hs.1.rdj 3 hi rfl))) rfl ?_ | refine o_q (q_load_old rfl rfl sz_3 (rfl (Rw.rd (hs.at hi).1 hk))) rfl ?_ | refine o_q (q_load_old rfl rfl sz_3 (((hs.at hi).1.rdj 4 hnl rfl))) rfl ?_ | refine o_q (q_load_old rfl rfl sz_3 (rfl (Rw.rd ((hs.at hi).at hnl) hml))) rfl ?_
          refine o_on 51 _ rfl rfl hg7 ?_
          refine o_q (q_call rfl fn_71 rfl (fun w1 h1 => c71 w1 _ 2 (by have := openE_r hV3.1; omega) (by omega))) rfl ?_
          refine o_on 51 _ rfl rfl hg7 ?_
          refine o_p (p_pure rfl) rfl ?_
          refine o_p (p_pickt rfl rfl hg7 rfl) rfl ?_
          refine o_nil ?_
          exact s_joinN 5 56 _ rfl rfl rfl (fun w h => by first | exact h | exact h.ent (by repeat (first | exact .nil | refine .cons (by repeat (first | exact .here | apply Pick.there)) ?_))))
        (by
          intro hg9
          have hs10 := hg9; try simp only [decide_eq_true_eq, decide_eq_false_iff_not, Bool.not_eq_true', Bool.not_eq_false', Bool.and_eq_true, Bool.or_eq_true, Bool.and_eq_false_iff, Bool.or_eq_false_iff, Bool.not_true, Bool.not_false] at hs10
          refine o_off 51 _ rfl rfl hg9 rfl ?_
          refine o_off 51 _ rfl rfl hg9 rfl ?_
          refine o_off 51 _ rfl rfl hg9 rfl ?_
          refine o_off 51 _ rfl rfl hg9 rfl ?_
          refine o_p (p_pickf rfl rfl hg9 rfl) rfl ?_
          refine o_nil ?_
          exact s_joinN 5 56 _ rfl rfl rfl (fun w h => by first | exact h | exact h.ent (by repeat (first | exact .nil | refine .cons (by repeat (first | exact .here | apply Pick.there)) ?_)))) ?_
      refine o_nil ?_
      refine s_cond rfl (fun h11 => ?_) (fun h11 => ?_)
      · try simp only [decide_eq_true_eq, decide_eq_false_iff_not, Bool.not_eq_true', Bool.not_eq_false', Bool.and_eq_true, Bool.or_eq_true, Bool.and_eq_false_iff, Bool.or_eq_false_iff, Bool.not_true, Bool.not_false] at h11
        have hno : ¬ (hasB (nth (nth L i).op k).ac 1 || hasB (nth (nth L i).op k).ac 2) = true := by have hq := h11; simp at hq ⊢; exact hq
        have hlt := lockT_x (q := q) (e := 27) hfe hrg (by rw [lockE_l hi hk, if_neg hno]) (by decide)
        refine s_seq ?_
        refine s_region ?_
        refine o_p (p_build (cs := [_, _]) rfl rfl pl_26 zr_26 rfl) rfl ?_
        refine o_h0 (h_store rfl rfl rfl sz_26 rfl (by repeat (first | exact .here | apply Put.there)) (by simp only [setMany_length, List.length_set, List.length_cons, List.length_nil, List.length_map]; omega) rfl) (fun _ _ => ?_)
        refine o_p (p_pure rfl) rfl ?_
        refine o_nil ?_
        exact s_retv (rs := [.cell 6 26, .tmp 7]) rfl (.cell rfl sz_26 (by repeat (first | exact .here | apply Pick.there)) rfl (.tmp rfl (.nil))) (fun w' h' => by have hR := afT_e (r := (lockT (pls L) h q)) hz1 (by rw [hlt]; show ¬ (27 : Int) = 0; exact by decide); exact ⟨((none, 0), []), by rw [hR, hlt]; rfl, by rw [hR, hlt]; rfl, (HS.files_none h').ent (by repeat (first | exact .nil | refine .cons (by repeat (first | exact .here | apply Pick.there)) ?_))⟩)
      · try simp only [decide_eq_true_eq, decide_eq_false_iff_not, Bool.not_eq_true', Bool.not_eq_false', Bool.and_eq_true, Bool.or_eq_true, Bool.and_eq_false_iff, Bool.or_eq_false_iff, Bool.not_true, Bool.not_false] at h11
        have hyes : (hasB (nth (nth L i).op k).ac 1 || hasB (nth (nth L i).op k).ac 2) = true := by have hq := h11; simp at hq ⊢; grind
        refine s_skip ?_
        refine s_seq ?_
        refine s_seq ?_
        refine s_region ?_
        refine o_p (p_fieldAddr rfl rfl fd_48_4 sz_46 rfl) rfl ?_
        first | refine o_q (q_load rfl rfl sz_46 (by repeat (first | exact .here | apply Pick.there)) rfl) rfl ?_ | refine o_q (q_load_at rfl rfl sz_46 (fun w h => (h.rd_blk (Mc := []) (b := ga) (by repeat (first | exact .here | apply Pick.there)) (by rw [flat_get fv4 _ i 3 _ (nth_get hiN) (by decide)]; rfl) (by simp)))) rfl ?_ | refine o_q (q_load_at rfl rfl sz_46 (fun w h => (h.rd_blk (Mc := []) (b := go) (by repeat (first | exact .here | apply Pick.there)) (by rw [flat_get ov5 _ k 4 _ (nth_get hkN) (by decide)]; rfl) (by simp)))) rfl ?_ | refine o_q (q_load_old rfl rfl sz_46 ((hs.1.rdj 3 hi rfl))) rfl ?_ | refine o_q (q_load_old rfl rfl sz_46 (rfl (Rw.rd (hs.at hi).1 hk))) rfl ?_ | refine o_q (q_load_old rfl rfl sz_46 (((hs.at hi).1.rdj 4 hnl rfl))) rfl ?_ | refine o_q (q_load_old rfl rfl sz_46 (rfl (Rw.rd ((hs.at hi).at hnl) hml))) rfl ?_
        first | refine o_p (p_len_slice rfl rfl Try.underlying46) rfl ?_ | refine o_q (q_len_own rfl rfl Try.underlying46 (by repeat (first | exact .here | apply Pick.there))) rfl ?_
        refine o_p (p_pure rfl) rfl ?_
        refine o_nil ?_
        refine s_cond rfl (fun h12 => ?_) (fun h12 => ?_)
        · try simp only [decide_eq_true_eq, decide_eq_false_iff_not, Bool.not_eq_true', Bool.not_eq_false', Bool.and_eq_true, Bool.or_eq_true, Bool.and_eq_false_iff, Bool.or_eq_false_iff, Bool.not_true, Bool.not_false] at h12
          have hfull : ¬ (nth (nth L i).op k).lk.length < 16 := by have hq := h12; omega
          have hlt := lockT_x (q := q) (e := 16) hfe hrg (by rw [lockE_l hi hk, if_pos hyes, if_neg hfull]) (by decide)
          refine s_seq ?_
          refine s_region ?_
          refine o_p (p_build (cs := [_, _]) rfl rfl pl_26 zr_26 rfl) rfl ?_
          refine o_h0 (h_store rfl rfl rfl sz_26 rfl (by repeat (first | exact .here | apply Put.there)) (by simp only [setMany_length, List.length_set, List.length_cons, List.length_nil, List.length_map]; omega) rfl) (fun _ _ => ?_)
          refine o_p (p_pure rfl) rfl ?_
          refine o_nil ?_
          exact s_retv (rs := [.cell 6 26, .tmp 7]) rfl (.cell rfl sz_26 (by repeat (first | exact .here | apply Pick.there)) rfl (.tmp rfl (.nil))) (fun w' h' => by have hR := afT_e (r := (lockT (pls L) h q)) hz1 (by rw [hlt]; show ¬ (16 : Int) = 0; exact by decide); exact ⟨((none, 0), []), by rw [hR, hlt]; rfl, by rw [hR, hlt]; rfl, (HS.files_none h').ent (by repeat (first | exact .nil | refine .cons (by repeat (first | exact .here | apply Pick.there)) ?_))⟩)
        · try simp only [decide_eq_true_eq, decide_eq_false_iff_not, Bool.not_eq_true', Bool.not_eq_false', Bool.and_eq_true, Bool.or_eq_true, Bool.and_eq_false_iff, Bool.or_eq_false_iff, Bool.not_true, Bool.not_false] at h12
          have hroom : (nth (nth L i).op k).lk.length < 16 := by have hq := h12; have := hV3.2.2; omega
          refine s_skip ?_
          refine s_seq ?_
          refine s_seq ?_
          refine s_region ?_
          refine o_p (p_pure rfl) rfl ?_
          refine o_nil ?_
          refine s_block ?_
          refine s_weaken (L' := [(3, _), (5, _), (6, _), (7, _), (10, _), (11, _), (13, _)]) (by repeat (first | exact sl_n | refine sl_c rfl ?_)) (fun _ h => h) ?_
          refine s_loopI (α := Nat) [7, 13, 14, 63, 64, 65, 66, 67, 68, 69, 70, 71, 72, 73, 74, 75, 76, 77, 78, 79, 80, 81, 82, 83, 84, 85, 86, 87, 88, 89, 90, 91, 92, 93, 94, 95, 96, 97, 98, 99, 100, 101, 102, 103, 104] (fun n => [(13, .int .i64 (n : Int))]) (fun _ => HS w [] [.blk b1 26 2 [.int .i64 next, .slice a L.length cap], .blk b2 62 3 q.vals, .blk b3 26 2 [.int .i64 0, .slice none 0 0]]) (fun n => n ≤ (nth L i).op.length ∧ ∀ n2, n2 < n → ∀ m2, m2 < (nth (nth L i).op n2).lk.length → clsh q (nth (nth (nth L i).op n2).lk m2) = false) (fun n => (nth L i).op.length - n) 0 ⟨by omega, fun n2 h2 => absurd h2 (Nat.not_lt_zero n2)⟩ (by repeat (first | exact sl_n | refine sl_c rfl ?_)) (fun w h => h.ent (by repeat (first | exact .nil | refine .cons (by repeat (first | exact .here | apply Pick.there)) ?_))) (fun n hn => ?_)
          obtain ⟨hn1, hn2⟩ := hn
          refine s_seq ?_
          refine s_seq ?_
          refine s_region ?_
          refine o_p (p_pure rfl) rfl ?_
          refine o_p (p_fieldAddr rfl rfl fd_26_1 sz_24 rfl) rfl ?_
          first | refine o_q (q_load rfl rfl sz_24 (by repeat (first | exact .here | apply Pick.there)) rfl) rfl ?_ | refine o_q (q_load_at rfl rfl sz_24 (fun w h => (h.rd_blk (Mc := []) (b := ga) (by repeat (first | exact .here | apply Pick.there)) (by rw [flat_get fv4 _ i 3 _ (nth_get hiN) (by decide)]; rfl) (by simp)))) rfl ?_ | refine o_q (q_load_at rfl rfl sz_24 (fun w h => (h.rd_blk (Mc := []) (b := go) (by repeat (first | exact .here | apply Pick.there)) (by rw [flat_get ov5 _ k 4 _ (nth_get hkN) (by decide)]; rfl) (by simp)))) rfl ?_ | refine o_q (q_load_old rfl rfl sz_24 ((hs.1.rdj 3 hi rfl))) rfl ?_ | refine o_q (q_load_old rfl rfl sz_24 (rfl (Rw.rd (hs.at hi).1 hk))) rfl ?_ | refine o_q (q_load_old rfl rfl sz_24 (((hs.at hi).1.rdj 4 hnl rfl))) rfl ?_ | refine o_q (q_load_old rfl rfl sz_24 (rfl (Rw.rd ((hs.at hi).at hnl) hml))) rfl ?_
          refine o_p (p_pure rfl) rfl ?_
          first | refine o_p (p_indexAddr rfl rfl rfl sl_24 (i) (by omega) (by omega) rfl) rfl ?_ | refine o_p (p_indexAddr rfl rfl rfl sl_24 (i) (by omega) (by omega) (Rw.some hs.1 (by omega))) rfl ?_ | refine o_p (p_indexAddr rfl rfl rfl sl_24 (i) (by omega) (by omega) (Rw.some (hs.at hi).1 (by omega))) rfl ?_ | refine o_p (p_indexAddr rfl rfl rfl sl_24 (i) (by omega) (by omega) (Rw.some ((hs.at hi).at hnl) (by omega))) rfl ?_ | refine o_p (p_indexAddr rfl rfl rfl sl_24 (i) (by omega) (by omega) hoa) rfl ?_
          refine o_p (p_fieldAddr rfl rfl fd_77_2 sz_75 rfl) rfl ?_
          first | refine o_q (q_load rfl rfl sz_75 (by repeat (first | exact .here | apply Pick.there)) rfl) rfl ?_ | refine o_q (q_load_at rfl rfl sz_75 (fun w h => (h.rd_blk (Mc := []) (b := ga) (by repeat (first | exact .here | apply Pick.there)) (by rw [flat_get fv4 _ i 3 _ (nth_get hiN) (by decide)]; rfl) (by simp)))) rfl ?_ | refine o_q (q_load_at rfl rfl sz_75 (fun w h => (h.rd_blk (Mc := []) (b := go) (by repeat (first | exact .here | apply Pick.there)) (by rw [flat_get ov5 _ k 4 _ (nth_get hkN) (by decide)]; rfl) (by simp)))) rfl ?_ | refine o_q (q_load_old rfl rfl sz_75 ((hs.1.rdj 3 hi rfl))) rfl ?_ | refine o_q (q_load_old rfl rfl sz_75 (rfl (Rw.rd (hs.at hi).1 hk))) rfl ?_ | refine o_q (q_load_old rfl rfl sz_75 (((hs.at hi).1.rdj 4 hnl rfl))) rfl ?_ | refine o_q (q_load_old rfl rfl sz_75 (rfl (Rw.rd ((hs.at hi).at hnl) hml))) rfl ?_
          first | refine o_p (p_len_slice rfl rfl Try.underlying75) rfl ?_ | refine o_q (q_len_own rfl rfl Try.underlying75 (by repeat (first | exact .here | apply Pick.there))) rfl ?_
          refine o_p (p_pure rfl) rfl ?_
          refine o_nil ?_
          refine s_cond rfl (fun h13 => ?_) (fun h13 => ?_)
          · try simp only [decide_eq_true_eq, decide_eq_false_iff_not, Bool.not_eq_true', Bool.not_eq_false', Bool.and_eq_true, Bool.or_eq_true, Bool.and_eq_false_iff, Bool.or_eq_false_iff, Bool.not_true, Bool.not_false] at h13
            have hnl : n < (nth L i).op.length := by omega
            have hv9 := VW.at hV hi hnl
            refine s_skip ?_
            refine s_seq ?_
            refine s_block ?_
            refine s_seq ?_
            refine s_region ?_
            refine o_p (p_pure rfl) rfl ?_
            refine o_nil ?_
            refine s_block ?_
            refine s_loopI (α := Nat) [7, 14, 74, 75, 76, 77, 78, 79, 80, 81, 82, 83, 84, 85, 86, 87, 88, 89, 90, 91, 92, 93, 94, 95, 96, 97, 98, 99, 100, 101, 102, 103, 104] (fun m => [(14, .int .i64 (m : Int))]) (fun _ => HS w [] [.blk b1 26 2 [.int .i64 next, .slice a L.length cap], .blk b2 62 3 q.vals, .blk b3 26 2 [.int .i64 0, .slice none 0 0]]) (fun m => m ≤ (nth (nth L i).op n).lk.length ∧ ∀ m2, m2 < m → clsh q (nth (nth (nth L i).op n).lk m2) = false) (fun m => (nth (nth L i).op n).lk.length - m) 0 ⟨by omega, fun n2 h2 => absurd h2 (Nat.not_lt_zero n2)⟩ (by repeat (first | exact sl_n | refine sl_c rfl ?_)) (fun w h => h.ent (by repeat (first | exact .nil | refine .cons (by repeat (first | exact .here | apply Pick.there)) ?_))) (fun m hm => ?_)
            obtain ⟨hm1, hm3⟩ := hm
            refine s_seq ?_
            refine s_seq ?_
            refine s_region ?_
            refine o_p (p_pure rfl) rfl ?_
            refine o_p (p_fieldAddr rfl rfl fd_26_1 sz_24 rfl) rfl ?_
            first | refine o_q (q_load rfl rfl sz_24 (by repeat (first | exact .here | apply Pick.there)) rfl) rfl ?_ | refine o_q (q_load_at rfl rfl sz_24 (fun w h => (h.rd_blk (Mc := []) (b := ga) (by repeat (first | exact .here | apply Pick.there)) (by rw [flat_get fv4 _ i 3 _ (nth_get hiN) (by decide)]; rfl) (by simp)))) rfl ?_ | refine o_q (q_load_at rfl rfl sz_24 (fun w h => (h.rd_blk (Mc := []) (b := go) (by repeat (first | exact .here | apply Pick.there)) (by rw [flat_get ov5 _ k 4 _ (nth_get hkN) (by decide)]; rfl) (by simp)))) rfl ?_ | refine o_q (q_load_old rfl rfl sz_24 ((hs.1.rdj 3 hi rfl))) rfl ?_ | refine o_q (q_load_old rfl rfl sz_24 (rfl (Rw.rd (hs.at hi).1 hk))) rfl ?_ | refine o_q (q_load_old rfl rfl sz_24 (((hs.at hi).1.rdj 4 hnl rfl))) rfl ?_ | refine o_q (q_load_old rfl rfl sz_24 (rfl (Rw.rd ((hs.at hi).at hnl) hml))) rfl ?_
            refine o_p (p_pure rfl) rfl ?_
            first | refine o_p (p_indexAddr rfl rfl rfl sl_24 (i) (by omega) (by omega) rfl) rfl ?_ | refine o_p (p_indexAddr rfl rfl rfl sl_24 (i) (by omega) (by omega) (Rw.some hs.1 (by omega))) rfl ?_ | refine o_p (p_indexAddr rfl rfl rfl sl_24 (i) (by omega) (by omega) (Rw.some (hs.at hi).1 (by omega))) rfl ?_ | refine o_p (p_indexAddr rfl rfl rfl sl_24 (i) (by omega) (by omega) (Rw.some ((hs.at hi).at hnl) (by omega))) rfl ?_ | refine o_p (p_indexAddr rfl rfl rfl sl_24 (i) (by omega) (by omega) hoa) rfl ?_
            refine o_p (p_fieldAddr rfl rfl fd_77_2 sz_75 rfl) rfl ?_
            first | refine o_q (q_load rfl rfl sz_75 (by repeat (first | exact .here | apply Pick.there)) rfl) rfl ?_ | refine o_q (q_load_at rfl rfl sz_75 (fun w h => (h.rd_blk (Mc := []) (b := ga) (by repeat (first | exact .here | apply Pick.there)) (by rw [flat_get fv4 _ i 3 _ (nth_get hiN) (by decide)]; rfl) (by simp)))) rfl ?_ | refine o_q (q_load_at rfl rfl sz_75 (fun w h => (h.rd_blk (Mc := []) (b := go) (by repeat (first | exact .here | apply Pick.there)) (by rw [flat_get ov5 _ k 4 _ (nth_get hkN) (by decide)]; rfl) (by simp)))) rfl ?_ | refine o_q (q_load_old rfl rfl sz_75 ((hs.1.rdj 3 hi rfl))) rfl ?_ | refine o_q (q_load_old rfl rfl sz_75 (rfl (Rw.rd (hs.at hi).1 hk))) rfl ?_ | refine o_q (q_load_old rfl rfl sz_75 (((hs.at hi).1.rdj 4 hnl rfl))) rfl ?_ | refine o_q (q_load_old rfl rfl sz_75 (rfl (Rw.rd ((hs.at hi).at hnl) hml))) rfl ?_
            refine o_p (p_pure rfl) rfl ?_
            first | refine o_p (p_indexAddr rfl rfl rfl sl_75 (n) (by omega) (by omega) rfl) rfl ?_ | refine o_p (p_indexAddr rfl rfl rfl sl_75 (n) (by omega) (by omega) (Rw.some hs.1 (by omega))) rfl ?_ | refine o_p (p_indexAddr rfl rfl rfl sl_75 (n) (by omega) (by omega) (Rw.some (hs.at hi).1 (by omega))) rfl ?_ | refine o_p (p_indexAddr rfl rfl rfl sl_75 (n) (by omega) (by omega) (Rw.some ((hs.at hi).at hnl) (by omega))) rfl ?_ | refine o_p (p_indexAddr rfl rfl rfl sl_75 (n) (by omega) (by omega) hoa) rfl ?_
            refine o_p (p_fieldAddr rfl rfl fd_48_4 sz_46 rfl) rfl ?_
            first | refine o_q (q_load rfl rfl sz_46 (by repeat (first | exact .here | apply Pick.there)) rfl) rfl ?_ | refine o_q (q_load_at rfl rfl sz_46 (fun w h => (h.rd_blk (Mc := []) (b := ga) (by repeat (first | exact .here | apply Pick.there)) (by rw [flat_get fv4 _ i 3 _ (nth_get hiN) (by decide)]; rfl) (by simp)))) rfl ?_ | refine o_q (q_load_at rfl rfl sz_46 (fun w h => (h.rd_blk (Mc := []) (b := go) (by repeat (first | exact .here | apply Pick.there)) (by rw [flat_get ov5 _ k 4 _ (nth_get hkN) (by decide)]; rfl) (by simp)))) rfl ?_ | refine o_q (q_load_old rfl rfl sz_46 ((hs.1.rdj 3 hi rfl))) rfl ?_ | refine o_q (q_load_old rfl rfl sz_46 (rfl (Rw.rd (hs.at hi).1 hk))) rfl ?_ | refine o_q (q_load_old rfl rfl sz_46 (((hs.at hi).1.rdj 4 hnl rfl))) rfl ?_ | refine o_q (q_load_old rfl rfl sz_46 (rfl (Rw.rd ((hs.at hi).at hnl) hml))) rfl ?_
            first | refine o_p (p_len_slice rfl rfl Try.underlying46) rfl ?_ | refine o_q (q_len_own rfl rfl Try.underlying46 (by repeat (first | exact .here | apply Pick.there))) rfl ?_
            refine o_p (p_pure rfl) rfl ?_
            refine o_nil ?_
            refine s_cond rfl (fun h14 => ?_) (fun h14 => ?_)
            · try simp only [decide_eq_true_eq, decide_eq_false_iff_not, Bool.not_eq_true', Bool.not_eq_false', Bool.and_eq_true, Bool.or_eq_true, Bool.and_eq_false_iff, Bool.or_eq_false_iff, Bool.not_true, Bool.not_false] at h14
              have hml : m < (nth (nth L i).op n).lk.length := by omega
              refine s_skip ?_
              refine s_seq ?_
              refine s_block ?_
              refine s_seq ?_
              refine s_draw [] mixed ?_
              first | refine d_q 0 [] rfl (q_loadn rfl rfl sz_62 (by repeat (first | exact .here | apply Pick.there)) rfl) (by kernel_rfl) (by kernel_rfl) (by kernel_rfl) rfl ?_ | refine d_q 0 [] rfl (q_load_atn _ rfl rfl sz_62 fun w h => (h.rd_blk (Mc := []) (b := ga) (by repeat (first | exact .here | apply Pick.there)) (by rw [flat_get fv4 _ i 3 _ (nth_get hiN) (by decide)]; rfl) (by simp))) (by kernel_rfl) (by kernel_rfl) (by kernel_rfl) rfl ?_ | refine d_q 0 [] rfl (q_load_atn _ rfl rfl sz_62 fun w h => (h.rd_blk (Mc := []) (b := go) (by repeat (first | exact .here | apply Pick.there)) (by rw [flat_get ov5 _ k 4 _ (nth_get hkN) (by decide)]; rfl) (by simp))) (by kernel_rfl) (by kernel_rfl) (by kernel_rfl) rfl ?_ | refine d_q 0 [] rfl (q_load_oldn _ rfl rfl sz_62 (hs.1.rdj 3 hi rfl)) (by kernel_rfl) (by kernel_rfl) (by kernel_rfl) rfl ?_ | refine d_q 0 [] rfl (q_load_oldn _ rfl rfl sz_62 rfl (Rw.rd (hs.at hi).1 hk)) (by kernel_rfl) (by kernel_rfl) (by kernel_rfl) rfl ?_ | refine d_q 0 [] rfl (q_load_oldn _ rfl rfl sz_62 ((hs.at hi).1.rdj 4 hnl rfl)) (by kernel_rfl) (by kernel_rfl) (by kernel_rfl) rfl ?_ | refine d_q 0 [] rfl (q_load_oldn _ rfl rfl sz_62 rfl (Rw.rd ((hs.at hi).at hnl) hml)) (by kernel_rfl) (by kernel_rfl) (by kernel_rfl) rfl ?_
              refine d_p 1 rfl (p_fieldAddr rfl rfl fd_26_1 sz_24 rfl) (by kernel_rfl) rfl rfl ?_
              first | refine d_q 2 [] rfl (q_load rfl rfl sz_24 (by repeat (first | exact .here | apply Pick.there)) rfl) (by kernel_rfl) (by kernel_rfl) (by kernel_rfl) rfl ?_ | refine d_q 2 [] rfl (q_load_at rfl rfl sz_24 (fun w h => (h.rd_blk (Mc := []) (b := ga) (by repeat (first | exact .here | apply Pick.there)) (by rw [flat_get fv4 _ i 3 _ (nth_get hiN) (by decide)]; rfl) (by simp)))) (by kernel_rfl) (by kernel_rfl) (by kernel_rfl) rfl ?_ | refine d_q 2 [] rfl (q_load_at rfl rfl sz_24 (fun w h => (h.rd_blk (Mc := []) (b := go) (by repeat (first | exact .here | apply Pick.there)) (by rw [flat_get ov5 _ k 4 _ (nth_get hkN) (by decide)]; rfl) (by simp)))) (by kernel_rfl) (by kernel_rfl) (by kernel_rfl) rfl ?_ | refine d_q 2 [] rfl (q_load_old rfl rfl sz_24 ((hs.1.rdj 3 hi rfl))) (by kernel_rfl) (by kernel_rfl) (by kernel_rfl) rfl ?_ | refine d_q 2 [] rfl (q_load_old rfl rfl sz_24 (rfl (Rw.rd (hs.at hi).1 hk))) (by kernel_rfl) (by kernel_rfl) (by kernel_rfl) rfl ?_ | refine d_q 2 [] rfl (q_load_old rfl rfl sz_24 (((hs.at hi).1.rdj 4 hnl rfl))) (by kernel_rfl) (by kernel_rfl) (by kernel_rfl) rfl ?_ | refine d_q 2 [] rfl (q_load_old rfl rfl sz_24 (rfl (Rw.rd ((hs.at hi).at hnl) hml))) (by kernel_rfl) (by kernel_rfl) (by kernel_rfl) rfl ?_
              refine d_p 3 rfl (p_pure rfl) (by kernel_rfl) rfl rfl ?_
              first | refine d_p 4 rfl (p_indexAddr rfl rfl rfl sl_24 (i) (by omega) (by omega) rfl) (by kernel_rfl) rfl rfl ?_ | refine d_p 4 rfl (p_indexAddr rfl rfl rfl sl_24 (i) (by omega) (by omega) (Rw.some hs.1 (by omega))) (by kernel_rfl) rfl rfl ?_ | refine d_p 4 rfl (p_indexAddr rfl rfl rfl sl_24 (i) (by omega) (by omega) (Rw.some (hs.at hi).1 (by omega))) (by kernel_rfl) rfl rfl ?_ | refine d_p 4 rfl (p_indexAddr rfl rfl rfl sl_24 (i) (by omega) (by omega) (Rw.some ((hs.at hi).at hnl) (by omega))) (by kernel_rfl) rfl rfl ?_ | refine d_p 4 rfl (p_indexAddr rfl rfl rfl sl_24 (i) (by omega) (by omega) hoa) (by kernel_rfl) rfl rfl ?_
              refine d_p 5 rfl (p_fieldAddr rfl rfl fd_77_2 sz_75 rfl) (by kernel_rfl) rfl rfl ?_
              first | refine d_q 6 [] rfl (q_load rfl rfl sz_75 (by repeat (first | exact .here | apply Pick.there)) rfl) (by kernel_rfl) (by kernel_rfl) (by kernel_rfl) rfl ?_ | refine d_q 6 [] rfl (q_load_at rfl rfl sz_75 (fun w h => (h.rd_blk (Mc := []) (b := ga) (by repeat (first | exact .here | apply Pick.there)) (by rw [flat_get fv4 _ i 3 _ (nth_get hiN) (by decide)]; rfl) (by simp)))) (by kernel_rfl) (by kernel_rfl) (by kernel_rfl) rfl ?_ | refine d_q 6 [] rfl (q_load_at rfl rfl sz_75 (fun w h => (h.rd_blk (Mc := []) (b := go) (by repeat (first | exact .here | apply Pick.there)) (by rw [flat_get ov5 _ k 4 _ (nth_get hkN) (by decide)]; rfl) (by simp)))) (by kernel_rfl) (by kernel_rfl) (by kernel_rfl) rfl ?_ | refine d_q 6 [] rfl (q_load_old rfl rfl sz_75 ((hs.1.rdj 3 hi rfl))) (by kernel_rfl) (by kernel_rfl) (by kernel_rfl) rfl ?_ | refine d_q 6 [] rfl (q_load_old rfl rfl sz_75 (rfl (Rw.rd (hs.at hi).1 hk))) (by kernel_rfl) (by kernel_rfl) (by kernel_rfl) rfl ?_ | refine d_q 6 [] rfl (q_load_old rfl rfl sz_75 (((hs.at hi).1.rdj 4 hnl rfl))) (by kernel_rfl) (by kernel_rfl) (by kernel_rfl) rfl ?_ | refine d_q 6 [] rfl (q_load_old rfl rfl sz_75 (rfl (Rw.rd ((hs.at hi).at hnl) hml))) (by kernel_rfl) (by kernel_rfl) (by kernel_rfl) rfl ?_
              refine d_p 7 rfl (p_pure rfl) (by kernel_rfl) rfl rfl ?_
              first | refine d_p 8 rfl (p_indexAddr rfl rfl rfl sl_75 (n) (by omega) (by omega) rfl) (by kernel_rfl) rfl rfl ?_ | refine d_p 8 rfl (p_indexAddr rfl rfl rfl sl_75 (n) (by omega) (by omega) (Rw.some hs.1 (by omega))) (by kernel_rfl) rfl rfl ?_ | refine d_p 8 rfl (p_indexAddr rfl rfl rfl sl_75 (n) (by omega) (by omega) (Rw.some (hs.at hi).1 (by omega))) (by kernel_rfl) rfl rfl ?_ | refine d_p 8 rfl (p_indexAddr rfl rfl rfl sl_75 (n) (by omega) (by omega) (Rw.some ((hs.at hi).at hnl) (by omega))) (by kernel_rfl) rfl rfl ?_ | refine d_p 8 rfl (p_indexAddr rfl rfl rfl sl_75 (n) (by omega) (by omega) hoa) (by kernel_rfl) rfl rfl ?_
              refine d_p 9 rfl (p_fieldAddr rfl rfl fd_48_4 sz_46 rfl) (by kernel_rfl) rfl rfl ?_
              first | refine d_q 10 [] rfl (q_load rfl rfl sz_46 (by repeat (first | exact .here | apply Pick.there)) rfl) (by kernel_rfl) (by kernel_rfl) (by kernel_rfl) rfl ?_ | refine d_q 10 [] rfl (q_load_at rfl rfl sz_46 (fun w h => (h.rd_blk (Mc := []) (b := ga) (by repeat (first | exact .here | apply Pick.there)) (by rw [flat_get fv4 _ i 3 _ (nth_get hiN) (by decide)]; rfl) (by simp)))) (by kernel_rfl) (by kernel_rfl) (by kernel_rfl) rfl ?_ | refine d_q 10 [] rfl (q_load_at rfl rfl sz_46 (fun w h => (h.rd_blk (Mc := []) (b := go) (by repeat (first | exact .here | apply Pick.there)) (by rw [flat_get ov5 _ k 4 _ (nth_get hkN) (by decide)]; rfl) (by simp)))) (by kernel_rfl) (by kernel_rfl) (by kernel_rfl) rfl ?_ | refine d_q 10 [] rfl (q_load_old rfl rfl sz_46 ((hs.1.rdj 3 hi rfl))) (by kernel_rfl) (by kernel_rfl) (by kernel_rfl) rfl ?_ | refine d_q 10 [] rfl (q_load_old rfl rfl sz_46 (rfl (Rw.rd (hs.at hi).1 hk))) (by kernel_rfl) (by kernel_rfl) (by kernel_rfl) rfl ?_ | refine d_q 10 [] rfl (q_load_old rfl rfl sz_46 (((hs.at hi).1.rdj 4 hnl rfl))) (by kernel_rfl) (by kernel_rfl) (by kernel_rfl) rfl ?_ | refine d_q 10 [] rfl (q_load_old rfl rfl sz_46 (rfl (Rw.rd ((hs.at hi).at hnl) hml))) (by kernel_rfl) (by kernel_rfl) (by kernel_rfl) rfl ?_
              refine d_p 11 rfl (p_pure rfl) (by kernel_rfl) rfl rfl ?_
              first | refine d_p 12 rfl (p_indexAddr rfl rfl rfl sl_46 (m) (by omega) (by omega) rfl) (by kernel_rfl) rfl rfl ?_ | refine d_p 12 rfl (p_indexAddr rfl rfl rfl sl_46 (m) (by omega) (by omega) (Rw.some hs.1 (by omega))) (by kernel_rfl) rfl rfl ?_ | refine d_p 12 rfl (p_indexAddr rfl rfl rfl sl_46 (m) (by omega) (by omega) (Rw.some (hs.at hi).1 (by omega))) (by kernel_rfl) rfl rfl ?_ | refine d_p 12 rfl (p_indexAddr rfl rfl rfl sl_46 (m) (by omega) (by omega) (Rw.some ((hs.at hi).at hnl) (by omega))) (by kernel_rfl) rfl rfl ?_ | refine d_p 12 rfl (p_indexAddr rfl rfl rfl sl_46 (m) (by omega) (by omega) hoa) (by kernel_rfl) rfl rfl ?_
              first | refine d_q 13 [] rfl (q_loadn rfl rfl sz_62 (by repeat (first | exact .here | apply Pick.there)) rfl) (by kernel_rfl) (by kernel_rfl) (by kernel_rfl) rfl ?_ | refine d_q 13 [] rfl (q_load_atn _ rfl rfl sz_62 fun w h => (h.rd_blk (Mc := []) (b := ga) (by repeat (first | exact .here | apply Pick.there)) (by rw [flat_get fv4 _ i 3 _ (nth_get hiN) (by decide)]; rfl) (by simp))) (by kernel_rfl) (by kernel_rfl) (by kernel_rfl) rfl ?_ | refine d_q 13 [] rfl (q_load_atn _ rfl rfl sz_62 fun w h => (h.rd_blk (Mc := []) (b := go) (by repeat (first | exact .here | apply Pick.there)) (by rw [flat_get ov5 _ k 4 _ (nth_get hkN) (by decide)]; rfl) (by simp))) (by kernel_rfl) (by kernel_rfl) (by kernel_rfl) rfl ?_ | refine d_q 13 [] rfl (q_load_oldn _ rfl rfl sz_62 (hs.1.rdj 3 hi rfl)) (by kernel_rfl) (by kernel_rfl) (by kernel_rfl) rfl ?_ | refine d_q 13 [] rfl (q_load_oldn _ rfl rfl sz_62 rfl (Rw.rd (hs.at hi).1 hk)) (by kernel_rfl) (by kernel_rfl) (by kernel_rfl) rfl ?_ | refine d_q 13 [] rfl (q_load_oldn _ rfl rfl sz_62 ((hs.at hi).1.rdj 4 hnl rfl)) (by kernel_rfl) (by kernel_rfl) (by kernel_rfl) rfl ?_ | refine d_q 13 [] rfl (q_load_oldn _ rfl rfl sz_62 rfl (Rw.rd ((hs.at hi).at hnl) hml)) (by kernel_rfl) (by kernel_rfl) (by kernel_rfl) rfl ?_
              refine d_q 14 [] rfl (q_call rfl fn_72 rfl (fun w1 h1 => c72 w1 q _ hrg (okL_nth hv9.2.1 hml))) (by kernel_rfl) (by kernel_rfl) (by kernel_rfl) rfl ?_
              refine d_nil (by kernel_rfl) (fun w h => h.ent (by repeat (first | exact .nil | refine .cons (by repeat (first | exact .here | apply Pick.there)) ?_))) ?_
              refine s_cond rfl (fun h15 => ?_) (fun h15 => ?_)
              · try simp only [decide_eq_true_eq, decide_eq_false_iff_not, Bool.not_eq_true', Bool.not_eq_false', Bool.and_eq_true, Bool.or_eq_true, Bool.and_eq_false_iff, Bool.or_eq_false_iff, Bool.not_true, Bool.not_false] at h15
                have hhit := anyK_hit hnl hml h15
                have hlt := lockT_x (q := q) (e := 29) hfe hrg (by rw [lockE_l hi hk, if_pos hyes, if_pos hroom, if_pos hhit]) (by decide)
                refine s_seq ?_
                refine s_weaken (L' := [(3, _), (5, _), (6, _), (10, _), (11, _), (13, _), (14, _), (63, _), (64, _), (65, _), (66, _), (67, _), (68, _), (69, _), (70, _), (71, _)]) (by repeat (first | exact sl_n | refine sl_c rfl ?_)) (fun _ h => h) ?_
                refine s_region ?_
                refine o_p (p_build (cs := [_, _]) rfl rfl pl_26 zr_26 rfl) rfl ?_
                refine o_h0 (h_store rfl rfl rfl sz_26 rfl (by repeat (first | exact .here | apply Put.there)) (by simp only [setMany_length, List.length_set, List.length_cons, List.length_nil, List.length_map]; omega) rfl) (fun _ _ => ?_)
                refine o_p (p_pure rfl) rfl ?_
                refine o_nil ?_
                exact s_retv (rs := [.cell 6 26, .tmp 7]) rfl (.cell rfl sz_26 (by repeat (first | exact .here | apply Pick.there)) rfl (.tmp rfl (.nil))) (fun w' h' => by have hR := afT_e (r := (lockT (pls L) h q)) hz1 (by rw [hlt]; show ¬ (29 : Int) = 0; exact by decide); exact ⟨((none, 0), []), by rw [hR, hlt]; rfl, by rw [hR, hlt]; rfl, (HS.files_none h').ent (by repeat (first | exact .nil | refine .cons (by repeat (first | exact .here | apply Pick.there)) ?_))⟩)
              · try simp only [decide_eq_true_eq, decide_eq_false_iff_not, Bool.not_eq_true', Bool.not_eq_false', Bool.and_eq_true, Bool.or_eq_true, Bool.and_eq_false_iff, Bool.or_eq_false_iff, Bool.not_true, Bool.not_false] at h15
                have hmiss : clsh q (nth (nth (nth L i).op n).lk m) = false := by have hq := h15; simpa using hq
                refine s_skip ?_
                refine s_blk ?_
                refine s_weaken (L' := [(3, _), (5, _), (6, _), (10, _), (11, _), (13, _), (14, _), (63, _), (64, _), (65, _), (66, _), (67, _), (68, _), (69, _), (70, _), (71, _)]) (by repeat (first | exact sl_n | refine sl_c rfl ?_)) (fun _ h => h) ?_
                refine s_region ?_
                refine o_p (p_pure rfl) rfl ?_
                refine o_p (p_pure rfl) rfl ?_
                try (refine o_slot (i64w (by omega) (by omega)) ?_)
                refine o_p (p_pure rfl) rfl ?_
                refine o_nil ?_
                exact s_backI (m + 1) (by omega) ⟨by omega, fun m2 h2 => (Nat.lt_or_ge m2 m).elim (hm3 m2) (fun h3 => by have e9 : m2 = m := (by omega); rw [e9]; exact hmiss)⟩ (by repeat (first | exact sl_n | refine sl_c rfl ?_)) (fun w h => h.ent (by repeat (first | exact .nil | refine .cons (by repeat (first | exact .here | apply Pick.there)) ?_)))
            · try simp only [decide_eq_true_eq, decide_eq_false_iff_not, Bool.not_eq_true', Bool.not_eq_false', Bool.and_eq_true, Bool.or_eq_true, Bool.and_eq_false_iff, Bool.or_eq_false_iff, Bool.not_true, Bool.not_false] at h14
              refine s_exit_to rfl ?_
              refine s_blk ?_
              refine s_region ?_
              refine o_p (p_pure rfl) rfl ?_
              refine o_p (p_pure rfl) rfl ?_
              try (refine o_slot (i64w (by omega) (by omega)) ?_)
              refine o_p (p_pure rfl) rfl ?_
              refine o_nil ?_
              exact s_backI (n + 1) (by omega) ⟨by omega, fun n2 h2 m2 p2 => (Nat.lt_or_ge n2 n).elim (fun h3 => hn2 n2 h3 m2 p2) (fun h3 => by have e9 : n2 = n := (by omega); rw [e9] at p2 ⊢; exact hm3 m2 (by omega))⟩ (by repeat (first | exact sl_n | refine sl_c rfl ?_)) (fun w h => h.ent (by repeat (first | exact .nil | refine .cons (by repeat (first | exact .here | apply Pick.there)) ?_)))
          · try simp only [decide_eq_true_eq, decide_eq_false_iff_not, Bool.not_eq_true', Bool.not_eq_false', Bool.and_eq_true, Bool.or_eq_true, Bool.and_eq_false_iff, Bool.or_eq_false_iff, Bool.not_true, Bool.not_false] at h13
            have hnone := anyK_no (f := nth L i) (q := q) (fun n2 p1 m2 p2 => hn2 n2 (by omega) m2 p2)
            have hle : lockE (pls L) i k q = 0 := by rw [lockE_l hi hk, if_pos hyes, if_pos hroom, hnone]; rfl
            have hlt : lockT (pls L) h q = (updO (pls L) i k fun o => { o with lk := o.lk ++ [q] }, 0) := by rw [lockT_l hfe hrg, if_pos hle]
            refine s_exit_to rfl ?_
            refine s_seq ?_
            refine s_region ?_
            first | refine o_q (q_loadn rfl rfl sz_26 (by repeat (first | exact .here | apply Pick.there)) rfl) rfl ?_ | refine o_q (q_load_atn _ rfl rfl sz_26 fun w h => (h.rd_blk (Mc := []) (b := ga) (by repeat (first | exact .here | apply Pick.there)) (by rw [flat_get fv4 _ i 3 _ (nth_get hiN) (by decide)]; rfl) (by simp))) rfl ?_ | refine o_q (q_load_atn _ rfl rfl sz_26 fun w h => (h.rd_blk (Mc := []) (b := go) (by repeat (first | exact .here | apply Pick.there)) (by rw [flat_get ov5 _ k 4 _ (nth_get hkN) (by decide)]; rfl) (by simp))) rfl ?_ | refine o_q (q_load_oldn _ rfl rfl sz_26 (hs.1.rdj 3 hi rfl)) rfl ?_ | refine o_q (q_load_oldn _ rfl rfl sz_26 rfl (Rw.rd (hs.at hi).1 hk)) rfl ?_ | refine o_q (q_load_oldn _ rfl rfl sz_26 ((hs.at hi).1.rdj 4 hnl rfl)) rfl ?_ | refine o_q (q_load_oldn _ rfl rfl sz_26 rfl (Rw.rd ((hs.at hi).at hnl) hml)) rfl ?_
            refine o_h (h_call rfl fn_19 rfl (fun w1 h1 => c19 w1 next a cap L (hs.later h1) hm hmo hml)) rfl (fun ⟨⟨ca, cc⟩, N⟩ hgc => ?_)
            dsimp only at hgc ⊢
            obtain ⟨hiN, hpN⟩ := same_nth hgc hi
            obtain ⟨hkN, hoN, hqN⟩ := same_op hpN hk
            have hlN : (nth (nth N i).op k).lk = (nth (nth L i).op k).lk := congrArg Opn.lk hqN
            refine o_h (h_alloc rfl zr_26) rfl (fun b16 _ => ?_)
            refine o_fact (fun w h => files_addr (l := N) (a := ca) (cap := cc) (by omega) h (by repeat (first | exact .here | apply Pick.there))) (fun hga => ?_)
            obtain ⟨ga, rfl, hcap, hcm⟩ := hga
            refine o_fact (fun w h => file_addr (l := N) (i := i) hiN (by omega) h (by repeat (first | exact .here | apply Pick.there))) (fun hgo => ?_)
            obtain ⟨go, hoa, hoc, hom⟩ := hgo
            refine o_class (fun w h => HS.lock_at hiN hkN hoa h (by repeat (first | exact .here | apply Pick.there))) ?_
            refine o_h0 (h_store rfl rfl rfl sz_26 rfl (by repeat (first | exact .here | apply Put.there)) (by simp only [setMany_length, List.length_set, List.length_cons, List.length_nil, List.length_map]; omega) rfl) (fun _ _ => ?_)
            refine o_nil ?_
            refine s_seq ?_
            refine s_drawB [.blk go 48 ((nth N i).oc * 5) ((nth N i).op.flatMap LOpn.vals), .blk ga 77 (cc * 4) (N.flatMap LFil.vals), .star ((others (nth N i).op k).map subO), .star ((others N i).map subF), .blk b16 26 2 [.int .i64 next, .slice (some ⟨ga, 0, none⟩) N.length cc], .blk b2 62 3 q.vals, .blk b3 26 2 [.int .i64 0, .slice none 0 0]] [22] mixed ?_
            refine d_p 0 rfl (p_fieldAddr rfl rfl fd_26_1 sz_24 rfl) (by kernel_rfl) rfl rfl ?_
            first | refine d_q 1 [[]] rfl (q_load rfl rfl sz_24 (by repeat (first | exact .here | apply Pick.there)) rfl) (by kernel_rfl) (by kernel_rfl) (by kernel_rfl) rfl ?_ | refine d_q 1 [[]] rfl (q_load_at rfl rfl sz_24 (fun w h => (h.rd_blk (Mc := []) (b := ga) (by repeat (first | exact .here | apply Pick.there)) (by rw [flat_get fv4 _ i 3 _ (nth_get hiN) (by decide)]; rfl) (by simp)))) (by kernel_rfl) (by kernel_rfl) (by kernel_rfl) rfl ?_ | refine d_q 1 [[]] rfl (q_load_at rfl rfl sz_24 (fun w h => (h.rd_blk (Mc := []) (b := go) (by repeat (first | exact .here | apply Pick.there)) (by rw [flat_get ov5 _ k 4 _ (nth_get hkN) (by decide)]; rfl) (by simp)))) (by kernel_rfl) (by kernel_rfl) (by kernel_rfl) rfl ?_ | refine d_q 1 [[]] rfl (q_load_old rfl rfl sz_24 ((hs.1.rdj 3 hi rfl))) (by kernel_rfl) (by kernel_rfl) (by kernel_rfl) rfl ?_ | refine d_q 1 [[]] rfl (q_load_old rfl rfl sz_24 (rfl (Rw.rd (hs.at hi).1 hk))) (by kernel_rfl) (by kernel_rfl) (by kernel_rfl) rfl ?_ | refine d_q 1 [[]] rfl (q_load_old rfl rfl sz_24 (((hs.at hi).1.rdj 4 hnl rfl))) (by kernel_rfl) (by kernel_rfl) (by kernel_rfl) rfl ?_ | refine d_q 1 [[]] rfl (q_load_old rfl rfl sz_24 (rfl (Rw.rd ((hs.at hi).at hnl) hml))) (by kernel_rfl) (by kernel_rfl) (by kernel_rfl) rfl ?_
            refine d_p 2 rfl (p_pure rfl) (by kernel_rfl) rfl rfl ?_
            first | refine d_p 3 rfl (p_indexAddr rfl rfl rfl sl_24 (i) (by omega) (by omega) rfl) (by kernel_rfl) rfl rfl ?_ | refine d_p 3 rfl (p_indexAddr rfl rfl rfl sl_24 (i) (by omega) (by omega) (Rw.some hs.1 (by omega))) (by kernel_rfl) rfl rfl ?_ | refine d_p 3 rfl (p_indexAddr rfl rfl rfl sl_24 (i) (by omega) (by omega) (Rw.some (hs.at hi).1 (by omega))) (by kernel_rfl) rfl rfl ?_ | refine d_p 3 rfl (p_indexAddr rfl rfl rfl sl_24 (i) (by omega) (by omega) (Rw.some ((hs.at hi).at hnl) (by omega))) (by kernel_rfl) rfl rfl ?_ | refine d_p 3 rfl (p_indexAddr rfl rfl rfl sl_24 (i) (by omega) (by omega) hoa) (by kernel_rfl) rfl rfl ?_
            refine d_slot (show _ = Value.pointer (some ⟨ga, i * 4, none⟩) from by rw [Nat.zero_add]) ?_
            refine d_p 4 rfl (p_fieldAddr rfl rfl fd_77_2 sz_75 rfl) (by kernel_rfl) rfl rfl ?_
            first | refine d_q 5 [[]] rfl (q_load rfl rfl sz_75 (by repeat (first | exact .here | apply Pick.there)) rfl) (by kernel_rfl) (by kernel_rfl) (by kernel_rfl) rfl ?_ | refine d_q 5 [[]] rfl (q_load_at rfl rfl sz_75 (fun w h => (h.rd_blk (Mc := []) (b := ga) (by repeat (first | exact .here | apply Pick.there)) (by rw [flat_get fv4 _ i 3 _ (nth_get hiN) (by decide)]; rfl) (by simp)))) (by kernel_rfl) (by kernel_rfl) (by kernel_rfl) rfl ?_ | refine d_q 5 [[]] rfl (q_load_at rfl rfl sz_75 (fun w h => (h.rd_blk (Mc := []) (b := go) (by repeat (first | exact .here | apply Pick.there)) (by rw [flat_get ov5 _ k 4 _ (nth_get hkN) (by decide)]; rfl) (by simp)))) (by kernel_rfl) (by kernel_rfl) (by kernel_rfl) rfl ?_ | refine d_q 5 [[]] rfl (q_load_old rfl rfl sz_75 ((hs.1.rdj 3 hi rfl))) (by kernel_rfl) (by kernel_rfl) (by kernel_rfl) rfl ?_ | refine d_q 5 [[]] rfl (q_load_old rfl rfl sz_75 (rfl (Rw.rd (hs.at hi).1 hk))) (by kernel_rfl) (by kernel_rfl) (by kernel_rfl) rfl ?_ | refine d_q 5 [[]] rfl (q_load_old rfl rfl sz_75 (((hs.at hi).1.rdj 4 hnl rfl))) (by kernel_rfl) (by kernel_rfl) (by kernel_rfl) rfl ?_ | refine d_q 5 [[]] rfl (q_load_old rfl rfl sz_75 (rfl (Rw.rd ((hs.at hi).at hnl) hml))) (by kernel_rfl) (by kernel_rfl) (by kernel_rfl) rfl ?_
            refine d_p 6 rfl (p_pure rfl) (by kernel_rfl) rfl rfl ?_
            refine d_p 7 rfl (p_fieldAddr rfl rfl fd_26_1 sz_24 rfl) (by kernel_rfl) rfl rfl ?_
            first | refine d_q 8 [[]] rfl (q_load rfl rfl sz_24 (by repeat (first | exact .here | apply Pick.there)) rfl) (by kernel_rfl) (by kernel_rfl) (by kernel_rfl) rfl ?_ | refine d_q 8 [[]] rfl (q_load_at rfl rfl sz_24 (fun w h => (h.rd_blk (Mc := []) (b := ga) (by repeat (first | exact .here | apply Pick.there)) (by rw [flat_get fv4 _ i 3 _ (nth_get hiN) (by decide)]; rfl) (by simp)))) (by kernel_rfl) (by kernel_rfl) (by kernel_rfl) rfl ?_ | refine d_q 8 [[]] rfl (q_load_at rfl rfl sz_24 (fun w h => (h.rd_blk (Mc := []) (b := go) (by repeat (first | exact .here | apply Pick.there)) (by rw [flat_get ov5 _ k 4 _ (nth_get hkN) (by decide)]; rfl) (by simp)))) (by kernel_rfl) (by kernel_rfl) (by kernel_rfl) rfl ?_ | refine d_q 8 [[]] rfl (q_load_old rfl rfl sz_24 ((hs.1.rdj 3 hi rfl))) (by kernel_rfl) (by kernel_rfl) (by kernel_rfl) rfl ?_ | refine d_q 8 [[]] rfl (q_load_old rfl rfl sz_24 (rfl (Rw.rd (hs.at hi).1 hk))) (by kernel_rfl) (by kernel_rfl) (by kernel_rfl) rfl ?_ | refine d_q 8 [[]] rfl (q_load_old rfl rfl sz_24 (((hs.at hi).1.rdj 4 hnl rfl))) (by kernel_rfl) (by kernel_rfl) (by kernel_rfl) rfl ?_ | refine d_q 8 [[]] rfl (q_load_old rfl rfl sz_24 (rfl (Rw.rd ((hs.at hi).at hnl) hml))) (by kernel_rfl) (by kernel_rfl) (by kernel_rfl) rfl ?_
            refine d_p 9 rfl (p_pure rfl) (by kernel_rfl) rfl rfl ?_
            first | refine d_p 10 rfl (p_indexAddr rfl rfl rfl sl_24 (i) (by omega) (by omega) rfl) (by kernel_rfl) rfl rfl ?_ | refine d_p 10 rfl (p_indexAddr rfl rfl rfl sl_24 (i) (by omega) (by omega) (Rw.some hs.1 (by omega))) (by kernel_rfl) rfl rfl ?_ | refine d_p 10 rfl (p_indexAddr rfl rfl rfl sl_24 (i) (by omega) (by omega) (Rw.some (hs.at hi).1 (by omega))) (by kernel_rfl) rfl rfl ?_ | refine d_p 10 rfl (p_indexAddr rfl rfl rfl sl_24 (i) (by omega) (by omega) (Rw.some ((hs.at hi).at hnl) (by omega))) (by kernel_rfl) rfl rfl ?_ | refine d_p 10 rfl (p_indexAddr rfl rfl rfl sl_24 (i) (by omega) (by omega) hoa) (by kernel_rfl) rfl rfl ?_
            refine d_slot (show _ = Value.pointer (some ⟨ga, i * 4, none⟩) from by rw [Nat.zero_add]) ?_
            refine d_p 11 rfl (p_fieldAddr rfl rfl fd_77_2 sz_75 rfl) (by kernel_rfl) rfl rfl ?_
            first | refine d_q 12 [[]] rfl (q_load rfl rfl sz_75 (by repeat (first | exact .here | apply Pick.there)) rfl) (by kernel_rfl) (by kernel_rfl) (by kernel_rfl) rfl ?_ | refine d_q 12 [[]] rfl (q_load_at rfl rfl sz_75 (fun w h => (h.rd_blk (Mc := []) (b := ga) (by repeat (first | exact .here | apply Pick.there)) (by rw [flat_get fv4 _ i 3 _ (nth_get hiN) (by decide)]; rfl) (by simp)))) (by kernel_rfl) (by kernel_rfl) (by kernel_rfl) rfl ?_ | refine d_q 12 [[]] rfl (q_load_at rfl rfl sz_75 (fun w h => (h.rd_blk (Mc := []) (b := go) (by repeat (first | exact .here | apply Pick.there)) (by rw [flat_get ov5 _ k 4 _ (nth_get hkN) (by decide)]; rfl) (by simp)))) (by kernel_rfl) (by kernel_rfl) (by kernel_rfl) rfl ?_ | refine d_q 12 [[]] rfl (q_load_old rfl rfl sz_75 ((hs.1.rdj 3 hi rfl))) (by kernel_rfl) (by kernel_rfl) (by kernel_rfl) rfl ?_ | refine d_q 12 [[]] rfl (q_load_old rfl rfl sz_75 (rfl (Rw.rd (hs.at hi).1 hk))) (by kernel_rfl) (by kernel_rfl) (by kernel_rfl) rfl ?_ | refine d_q 12 [[]] rfl (q_load_old rfl rfl sz_75 (((hs.at hi).1.rdj 4 hnl rfl))) (by kernel_rfl) (by kernel_rfl) (by kernel_rfl) rfl ?_ | refine d_q 12 [[]] rfl (q_load_old rfl rfl sz_75 (rfl (Rw.rd ((hs.at hi).at hnl) hml))) (by kernel_rfl) (by kernel_rfl) (by kernel_rfl) rfl ?_
            refine d_p 13 rfl (p_pure rfl) (by kernel_rfl) rfl rfl ?_
            first | refine d_p 14 rfl (p_indexAddr rfl rfl rfl sl_75 (k) (by omega) (by omega) rfl) (by kernel_rfl) rfl rfl ?_ | refine d_p 14 rfl (p_indexAddr rfl rfl rfl sl_75 (k) (by omega) (by omega) (Rw.some hs.1 (by omega))) (by kernel_rfl) rfl rfl ?_ | refine d_p 14 rfl (p_indexAddr rfl rfl rfl sl_75 (k) (by omega) (by omega) (Rw.some (hs.at hi).1 (by omega))) (by kernel_rfl) rfl rfl ?_ | refine d_p 14 rfl (p_indexAddr rfl rfl rfl sl_75 (k) (by omega) (by omega) (Rw.some ((hs.at hi).at hnl) (by omega))) (by kernel_rfl) rfl rfl ?_ | refine d_p 14 rfl (p_indexAddr rfl rfl rfl sl_75 (k) (by omega) (by omega) hoa) (by kernel_rfl) rfl rfl ?_
            refine d_slot (show _ = Value.pointer (some ⟨go, k * 5, none⟩) from by rw [Nat.zero_add]) ?_
            refine d_p 15 rfl (p_fieldAddr rfl rfl fd_48_4 sz_46 rfl) (by kernel_rfl) rfl rfl ?_
            first | refine d_q 16 [[]] rfl (q_load rfl rfl sz_46 (by repeat (first | exact .here | apply Pick.there)) rfl) (by kernel_rfl) (by kernel_rfl) (by kernel_rfl) rfl ?_ | refine d_q 16 [[]] rfl (q_load_at rfl rfl sz_46 (fun w h => (h.rd_blk (Mc := []) (b := ga) (by repeat (first | exact .here | apply Pick.there)) (by rw [flat_get fv4 _ i 3 _ (nth_get hiN) (by decide)]; rfl) (by simp)))) (by kernel_rfl) (by kernel_rfl) (by kernel_rfl) rfl ?_ | refine d_q 16 [[]] rfl (q_load_at rfl rfl sz_46 (fun w h => (h.rd_blk (Mc := []) (b := go) (by repeat (first | exact .here | apply Pick.there)) (by rw [flat_get ov5 _ k 4 _ (nth_get hkN) (by decide)]; rfl) (by simp)))) (by kernel_rfl) (by kernel_rfl) (by kernel_rfl) rfl ?_ | refine d_q 16 [[]] rfl (q_load_old rfl rfl sz_46 ((hs.1.rdj 3 hi rfl))) (by kernel_rfl) (by kernel_rfl) (by kernel_rfl) rfl ?_ | refine d_q 16 [[]] rfl (q_load_old rfl rfl sz_46 (rfl (Rw.rd (hs.at hi).1 hk))) (by kernel_rfl) (by kernel_rfl) (by kernel_rfl) rfl ?_ | refine d_q 16 [[]] rfl (q_load_old rfl rfl sz_46 (((hs.at hi).1.rdj 4 hnl rfl))) (by kernel_rfl) (by kernel_rfl) (by kernel_rfl) rfl ?_ | refine d_q 16 [[]] rfl (q_load_old rfl rfl sz_46 (rfl (Rw.rd ((hs.at hi).at hnl) hml))) (by kernel_rfl) (by kernel_rfl) (by kernel_rfl) rfl ?_
            first | refine d_q 17 [[]] rfl (q_loadn rfl rfl sz_62 (by repeat (first | exact .here | apply Pick.there)) rfl) (by kernel_rfl) (by kernel_rfl) (by kernel_rfl) rfl ?_ | refine d_q 17 [[]] rfl (q_load_atn _ rfl rfl sz_62 fun w h => (h.rd_blk (Mc := []) (b := ga) (by repeat (first | exact .here | apply Pick.there)) (by rw [flat_get fv4 _ i 3 _ (nth_get hiN) (by decide)]; rfl) (by simp))) (by kernel_rfl) (by kernel_rfl) (by kernel_rfl) rfl ?_ | refine d_q 17 [[]] rfl (q_load_atn _ rfl rfl sz_62 fun w h => (h.rd_blk (Mc := []) (b := go) (by repeat (first | exact .here | apply Pick.there)) (by rw [flat_get ov5 _ k 4 _ (nth_get hkN) (by decide)]; rfl) (by simp))) (by kernel_rfl) (by kernel_rfl) (by kernel_rfl) rfl ?_ | refine d_q 17 [[]] rfl (q_load_oldn _ rfl rfl sz_62 (hs.1.rdj 3 hi rfl)) (by kernel_rfl) (by kernel_rfl) (by kernel_rfl) rfl ?_ | refine d_q 17 [[]] rfl (q_load_oldn _ rfl rfl sz_62 rfl (Rw.rd (hs.at hi).1 hk)) (by kernel_rfl) (by kernel_rfl) (by kernel_rfl) rfl ?_ | refine d_q 17 [[]] rfl (q_load_oldn _ rfl rfl sz_62 ((hs.at hi).1.rdj 4 hnl rfl)) (by kernel_rfl) (by kernel_rfl) (by kernel_rfl) rfl ?_ | refine d_q 17 [[]] rfl (q_load_oldn _ rfl rfl sz_62 rfl (Rw.rd ((hs.at hi).at hnl) hml)) (by kernel_rfl) (by kernel_rfl) (by kernel_rfl) rfl ?_
            refine d_h 18 rfl (h_buildSlice (cs := [_, _, _]) rfl rfl sl_46 zr_62 rfl rfl rfl) (by kernel_rfl) (fun w h => h.ent (by repeat (first | exact .nil | refine .cons (by repeat (first | exact .here | apply Pick.there)) ?_))) rfl (fun b17 _ => ?_)
            refine d_h 19 rfl (h_appendS (n := (nth (nth N i).op k).lk.length) q.vals rfl rfl rfl sl_46 Try.underlying46 zr_62 rfl (by repeat (first | exact .here | apply Pick.there)) (src_blk (by repeat (first | exact .here | apply Pick.there))) rfl (lv1 q) (by rw [hlN]; omega) (by simp only [maxLen]; rw [hlN]; omega)) (by kernel_rfl) (fun w h => h.ent (by repeat (first | exact .nil | refine .cons (by repeat (first | exact .here | apply Pick.there)) ?_))) rfl (fun b18 _ => ?_)
            first | refine d_p 20 rfl (p_indexAddr rfl rfl rfl sl_75 (k) (by omega) (by omega) rfl) (by kernel_rfl) rfl rfl ?_ | refine d_p 20 rfl (p_indexAddr rfl rfl rfl sl_75 (k) (by omega) (by omega) (Rw.some hs.1 (by omega))) (by kernel_rfl) rfl rfl ?_ | refine d_p 20 rfl (p_indexAddr rfl rfl rfl sl_75 (k) (by omega) (by omega) (Rw.some (hs.at hi).1 (by omega))) (by kernel_rfl) rfl rfl ?_ | refine d_p 20 rfl (p_indexAddr rfl rfl rfl sl_75 (k) (by omega) (by omega) (Rw.some ((hs.at hi).at hnl) (by omega))) (by kernel_rfl) rfl rfl ?_ | refine d_p 20 rfl (p_indexAddr rfl rfl rfl sl_75 (k) (by omega) (by omega) hoa) (by kernel_rfl) rfl rfl ?_
            refine d_slot (show _ = Value.pointer (some ⟨go, k * 5, none⟩) from by rw [Nat.zero_add]) ?_
            refine d_p 21 rfl (p_fieldAddr rfl rfl fd_48_4 sz_46 rfl) (by kernel_rfl) rfl rfl ?_
            refine d_h0 22 rfl (h_store rfl rfl rfl sz_46 rfl (by repeat (first | exact .here | apply Put.there)) (by rw [flat_length ov5]; omega) rfl) (by kernel_rfl) (fun w h => h.ent (by repeat (first | exact .nil | refine .cons (by repeat (first | exact .here | apply Pick.there)) ?_))) (fun _ _ => ?_)
            refine d_turn [] (by kernel_rfl) ?_
            refine d_nil (by kernel_rfl) (fun w h => h.ent (by repeat (first | exact .nil | refine .cons (by repeat (first | exact .here | apply Pick.there)) ?_))) ?_
            refine s_seq ?_
            refine s_weaken (L' := [(3, _), (5, _), (6, _), (10, _), (11, _), (13, _), (15, _)]) (by repeat (first | exact sl_n | refine sl_c rfl ?_)) (fun _ h => h) ?_
            refine s_region ?_
            first | refine o_q (q_loadn rfl rfl sz_26 (by repeat (first | exact .here | apply Pick.there)) rfl) rfl ?_ | refine o_q (q_load_atn _ rfl rfl sz_26 fun w h => (h.rd_blk (Mc := []) (b := ga) (by repeat (first | exact .here | apply Pick.there)) (by rw [flat_get fv4 _ i 3 _ (nth_get hiN) (by decide)]; rfl) (by simp))) rfl ?_ | refine o_q (q_load_atn _ rfl rfl sz_26 fun w h => (h.rd_blk (Mc := []) (b := go) (by repeat (first | exact .here | apply Pick.there)) (by rw [flat_get ov5 _ k 4 _ (nth_get hkN) (by decide)]; rfl) (by simp))) rfl ?_ | refine o_q (q_load_oldn _ rfl rfl sz_26 (hs.1.rdj 3 hi rfl)) rfl ?_ | refine o_q (q_load_oldn _ rfl rfl sz_26 rfl (Rw.rd (hs.at hi).1 hk)) rfl ?_ | refine o_q (q_load_oldn _ rfl rfl sz_26 ((hs.at hi).1.rdj 4 hnl rfl)) rfl ?_ | refine o_q (q_load_oldn _ rfl rfl sz_26 rfl (Rw.rd ((hs.at hi).at hnl) hml)) rfl ?_
            refine o_h0 (h_store rfl rfl rfl sz_26 rfl (by repeat (first | exact .here | apply Put.there)) (by simp only [setMany_length, List.length_set, List.length_cons, List.length_nil, List.length_map]; omega) rfl) (fun _ _ => ?_)
            refine o_p (p_pure rfl) rfl ?_
            refine o_nil ?_
            exact s_retv (rs := [.cell 6 26, .tmp 7]) rfl (.cell rfl sz_26 (by repeat (first | exact .here | apply Pick.there)) rfl (.tmp rfl (.nil))) (fun w' h' => by have hR := afT_0 (r := (lockT (pls L) h q)) hz1 (by rw [hlt]); exact ⟨((some ⟨ga, 0, none⟩, cc), N.set i { nth N i with op := (nth N i).op.set k { (nth (nth N i).op k) with la := b18.1, lc := b18.2, lk := (nth (nth N i).op k).lk ++ [q] } }), by rw [hR, List.length_set]; rfl, by rw [hR, hlt]; have h7 := upd_lk (o := { (nth (nth N i).op k) with la := b18.1, lc := b18.2, lk := (nth (nth N i).op k).lk ++ [q] }) (u := fun o => { o with lk := o.lk ++ [q] }) hiN hkN rfl; rw [hgc] at h7; exact h7, HS.lock_put (o := { (nth (nth N i).op k) with la := b18.1, lc := b18.2, lk := (nth (nth N i).op k).lk ++ [q] }) hiN hkN hoa (h'.ent (Bs := [.blk go 48 ((nth N i).oc * 5) _, .own (.slice b18.1 ((nth (nth N i).op k).lk.length + 1) b18.2) 62 3 ((nth (nth N i).op k).lk.length + 1) ((nth (nth N i).op k).lk.flatMap Lock.vals ++ q.vals), .star ((others (nth N i).op k).map subO), .blk ga 77 (cc * 4) (N.flatMap LFil.vals), .star ((others N i).map subF)]) (by repeat (first | exact .nil | refine .cons (by repeat (first | exact .here | apply Pick.there)) ?_)) |> fun hh => by simpa [HA.locks, List.flatMap_append] using hh) (flat_set ov5 (nth N i).op k 4 [.slice b18.1 ((nth (nth N i).op k).lk.length + 1) b18.2] (nth (nth N i).op k) _ (nth_get hkN) (by simp [LOpn.vals, setMany]) (by simp)) hoc hom hcap hcm⟩)

end Go.Proofs
