/- Contracts of the program's functions, proved by walking them with the rules of the Gx texts; without conditions beyond those that each contract names. -/
import Derived.Test.YtgdigngojonbhaaC25T
namespace Go.Proofs
open Go Go.RowKit Gx
set_option linter.unusedVariables false
set_option linter.unusedSimpArgs false
attribute [local irreducible] Go.Calls Gx.S Gx.O Gx.D Gx.OpP Gx.OpQ Gx.OpH



def kpW (w ex oth : Bool) : Bool := (ex && oth) || (!ex && w)
theorem kpW_t : kpW true = wrK := by funext ex oth; cases ex <;> cases oth <;> rfl
theorem kpW_f : kpW false = rdK := by funext ex oth; cases ex <;> cases oth <;> rfl
def mayR (next : Int) (L : List Fil) (h fr cnt : Int) (w : Bool) : Int := if (chkT next L).2 = 0 then mayT L h ⟨fr, cnt, false⟩ (bif w then 2 else 1) (kpW w) else (chkT next L).2
theorem mayT_f {L : List Fil} {h : Int} {q : Lock} {acc : Nat} {kp : Bool → Bool → Bool} (hn : ¬ (findF L h 0).2.2 = 0) : mayT L h q acc kp = (findF L h 0).2.2 := by rw [mayT, if_neg hn]
theorem mayT_r {L : List Fil} {h : Int} {q : Lock} {acc : Nat} {kp : Bool → Bool → Bool} (hn : (findF L h 0).2.2 = 0) (h2 : ¬ rngE q.fr q.cnt = 0) : mayT L h q acc kp = rngE q.fr q.cnt := by rw [mayT, if_pos hn, if_neg h2]
theorem mayR_h {next : Int} {L : List Fil} {h fr cnt : Int} {w : Bool} (hz : ¬ hErr next L h = 0) : mayR next L h fr cnt w = hErr next L h := by
  unfold hErr at hz ⊢
  unfold mayR
  split at hz
  · rename_i h1
    rw [if_pos h1, if_pos h1, mayT_f hz]
  · rename_i h1
    rw [if_neg h1, if_neg h1]

set_option maxRecDepth 20000 in
set_option maxHeartbeats 1000000 in
theorem c30 (w : World) (next : Int) (a : Option Addr) (cap : Nat) (L : List LFil) (h fr cnt : Int) (w9 : Bool) (hs : Ft w [] a L) (hm : L.length ≤ 1000) (hmo : ∀ f ∈ L, f.op.length ≤ 1000) : Calls Try.prog 30 #[.agg #[.int .i64 next, .slice a L.length cap], .int .i64 h, .int .i64 fr, .int .i64 cnt, .bool w9] w fun en w' => en = .returned (.int .i64 (mayR next (pls L) h fr cnt w9)) ∧ Below w.heap.size w w' := by
  refine enter (args := [_, _, _, _, _]) Try.func30 Try.ntmps30 rfl rfl (HS.refl w []) ?_
  refine s_seq ?_
  refine s_region ?_
  refine o_h (h_box rfl rfl) rfl (fun b1 _ => ?_)
  refine o_p (p_pure rfl) rfl ?_
  refine o_nil ?_
  refine s_seq ?_
  refine s_seq ?_
  refine s_region ?_
  first | refine o_q (q_loadn rfl rfl sz_26 (by repeat (first | exact .here | apply Pick.there)) rfl) rfl ?_ | refine o_q (q_load_oldn _ rfl rfl sz_26 (hs.1.rdj 3 hi rfl)) rfl ?_ | refine o_q (q_load_oldn _ rfl rfl sz_26 ((hs.at hi).1.rdj 1 hk rfl)) rfl ?_ | refine o_q (q_load_oldn _ rfl rfl sz_26 ((hs.at hi).1.rdj 4 hnl rfl)) rfl ?_ | refine o_q (q_load_oldn _ rfl rfl sz_26 rfl (Rw.rd ((hs.at hi).at hnl) hml)) rfl ?_
  refine o_p (p_pure rfl) rfl ?_
  refine o_q (q_call rfl fn_68 rfl (fun w1 h1 => c68 w1 next a cap L h (hs.later h1) hm hmo)) rfl ?_
  refine o_p (p_pure rfl) rfl ?_
  refine o_nil ?_
  refine s_seq ?_
  refine s_region ?_
  refine o_p (p_pure rfl) rfl ?_
  refine o_p (p_pure rfl) rfl ?_
  refine o_nil ?_
  refine s_cond rfl (fun h2 => ?_) (fun h2 => ?_)
  · try simp only [decide_eq_true_eq, decide_eq_false_iff_not, Bool.not_eq_true', Bool.not_eq_false', Bool.and_eq_true, Bool.or_eq_true, Bool.and_eq_false_iff, Bool.or_eq_false_iff, Bool.not_true, Bool.not_false] at h2
    have hz : ¬ hErr next (pls L) h = 0 := h2
    refine s_seq ?_
    refine s_region ?_
    refine o_p (p_pure rfl) rfl ?_
    refine o_p (p_pure rfl) rfl ?_
    refine o_nil ?_
    exact s_retv (rs := [.tmp 10]) rfl (.tmp rfl (.nil)) (fun w' h' => ⟨by rw [mayR_h hz]; rfl, h'.below⟩)
  · try simp only [decide_eq_true_eq, decide_eq_false_iff_not, Bool.not_eq_true', Bool.not_eq_false', Bool.and_eq_true, Bool.or_eq_true, Bool.and_eq_false_iff, Bool.or_eq_false_iff, Bool.not_true, Bool.not_false] at h2
    have hz : hErr next (pls L) h = 0 := h2
    obtain ⟨hz1, hz2⟩ := hErr_0 hz
    have hok := chk_ok hz1
    have hV := hok.vw
    obtain ⟨i, k, hfe, hi, hk, hV3⟩ := findF_some hV hz2
    have hfd : fdI (pls L) h = ((i : Int), (k : Int)) := by rw [fdI, hfe]; rfl
    have hoi := hmo _ (mem_nth hi)
    refine s_skip ?_
    refine s_seq ?_
    refine s_seq ?_
    refine s_region ?_
    refine o_p (p_pure rfl) rfl ?_
    refine o_p (p_pure rfl) rfl ?_
    refine o_q (q_call rfl fn_69 rfl (fun w1 h1 => c69 w1 fr cnt)) rfl ?_
    refine o_p (p_pure rfl) rfl ?_
    refine o_nil ?_
    refine s_seq ?_
    refine s_region ?_
    refine o_p (p_pure rfl) rfl ?_
    refine o_p (p_pure rfl) rfl ?_
    refine o_nil ?_
    refine s_cond rfl (fun h3 => ?_) (fun h3 => ?_)
    · try simp only [decide_eq_true_eq, decide_eq_false_iff_not, Bool.not_eq_true', Bool.not_eq_false', Bool.and_eq_true, Bool.or_eq_true, Bool.and_eq_false_iff, Bool.or_eq_false_iff, Bool.not_true, Bool.not_false] at h3
      have hrg : ¬ rngE fr cnt = 0 := h3
      refine s_seq ?_
      refine s_region ?_
      refine o_p (p_pure rfl) rfl ?_
      refine o_p (p_pure rfl) rfl ?_
      refine o_nil ?_
      exact s_retv (rs := [.tmp 10]) rfl (.tmp rfl (.nil)) (fun w' h' => ⟨by rw [mayR, if_pos hz1, mayT_r hz2 hrg]; rfl, h'.below⟩)
    · try simp only [decide_eq_true_eq, decide_eq_false_iff_not, Bool.not_eq_true', Bool.not_eq_false', Bool.and_eq_true, Bool.or_eq_true, Bool.and_eq_false_iff, Bool.or_eq_false_iff, Bool.not_true, Bool.not_false] at h3
      have hrg : rngE fr cnt = 0 := h3
      have hl32 := (VW.lens hV).2 _ (mem_nth hi)
      refine s_skip ?_
      refine s_seq ?_
      refine s_region ?_
      first | refine o_q (q_loadn rfl rfl sz_26 (by repeat (first | exact .here | apply Pick.there)) rfl) rfl ?_ | refine o_q (q_load_oldn _ rfl rfl sz_26 (hs.1.rdj 3 hi rfl)) rfl ?_ | refine o_q (q_load_oldn _ rfl rfl sz_26 ((hs.at hi).1.rdj 1 hk rfl)) rfl ?_ | refine o_q (q_load_oldn _ rfl rfl sz_26 ((hs.at hi).1.rdj 4 hnl rfl)) rfl ?_ | refine o_q (q_load_oldn _ rfl rfl sz_26 rfl (Rw.rd ((hs.at hi).at hnl) hml)) rfl ?_
      refine o_p (p_pure rfl) rfl ?_
      refine o_q (q_call rfl fn_70 rfl (fun w1 h1 => c70 w1 next a cap L h (hs.later h1) hm hmo)) rfl ?_
      rw [hfd]
      refine o_p (p_pure rfl) rfl ?_
      refine o_p (p_pure rfl) rfl ?_
      refine o_p (p_pure rfl) rfl ?_
      refine o_p (p_pure rfl) rfl ?_
      refine o_p (p_pure rfl) rfl ?_
      refine o_nil ?_
      refine s_seq ?_
      refine s_region ?_
      refine o_p (p_pure rfl) rfl ?_
      refine o_nil ?_
      refine s_seq ?_
      refine s_seq ?_
      refine s_region ?_
      refine o_p (p_pure rfl) rfl ?_
      refine o_nil ?_
      refine s_weaken (L' := [(2, _), (3, _), (4, _), (5, _), (10, _), (13, _), (14, _), (15, _), (37, _)]) (by repeat (first | exact sl_n | refine sl_c rfl ?_)) (fun _ h => h) ?_
      refine s_cutI (α := Unit) [15] (fun _ => [(15, .int .i64 (((bif w9 then 2 else 1) : Nat) : Int))]) (fun _ => HS w [] [.blk b1 26 2 [.int .i64 next, .slice a L.length cap]]) (fun _ => True) ?_ ?_
      · skip
        refine s_cond rfl (fun h4 => ?_) (fun h4 => ?_)
        · try simp only [decide_eq_true_eq, decide_eq_false_iff_not, Bool.not_eq_true', Bool.not_eq_false', Bool.and_eq_true, Bool.or_eq_true, Bool.and_eq_false_iff, Bool.or_eq_false_iff, Bool.not_true, Bool.not_false] at h4
          refine s_region ?_
          refine o_p (p_pure rfl) rfl ?_
          refine o_nil ?_
          exact s_joinI () trivial (sl_c (congrArg (fun e => some (Value.int .i64 e)) (by have hq := h4; cases w9 <;> first | rfl | simp_all)) (by repeat (first | exact sl_n | refine sl_c rfl ?_))) (fun w h => h.ent (by repeat (first | exact .nil | refine .cons (by repeat (first | exact .here | apply Pick.there)) ?_)))
        · try simp only [decide_eq_true_eq, decide_eq_false_iff_not, Bool.not_eq_true', Bool.not_eq_false', Bool.and_eq_true, Bool.or_eq_true, Bool.and_eq_false_iff, Bool.or_eq_false_iff, Bool.not_true, Bool.not_false] at h4
          refine s_skip ?_
          exact s_joinI () trivial (sl_c (congrArg (fun e => some (Value.int .i64 e)) (by have hq := h4; cases w9 <;> first | rfl | simp_all)) (by repeat (first | exact sl_n | refine sl_c rfl ?_))) (fun w h => h.ent (by repeat (first | exact .nil | refine .cons (by repeat (first | exact .here | apply Pick.there)) ?_)))
      · intro _ _
        refine s_seq ?_
        refine s_seq ?_
        refine s_region ?_
        refine o_p (p_fieldAddr rfl rfl fd_26_1 sz_24 rfl) rfl ?_
        first | refine o_q (q_load rfl rfl sz_24 (by repeat (first | exact .here | apply Pick.there)) rfl) rfl ?_ | refine o_q (q_load_old rfl rfl sz_24 ((hs.1.rdj 3 hi rfl))) rfl ?_ | refine o_q (q_load_old rfl rfl sz_24 (((hs.at hi).1.rdj 1 hk rfl))) rfl ?_ | refine o_q (q_load_old rfl rfl sz_24 (((hs.at hi).1.rdj 4 hnl rfl))) rfl ?_ | refine o_q (q_load_old rfl rfl sz_24 (rfl (Rw.rd ((hs.at hi).at hnl) hml))) rfl ?_
        refine o_p (p_pure rfl) rfl ?_
        first | refine o_p (p_indexAddr rfl rfl rfl sl_24 (i) (by omega) (by omega) rfl) rfl ?_ | refine o_p (p_indexAddr rfl rfl rfl sl_24 (i) (by omega) (by omega) (Rw.some hs.1 (by omega))) rfl ?_ | refine o_p (p_indexAddr rfl rfl rfl sl_24 (i) (by omega) (by omega) (Rw.some (hs.at hi).1 (by omega))) rfl ?_ | refine o_p (p_indexAddr rfl rfl rfl sl_24 (i) (by omega) (by omega) (Rw.some ((hs.at hi).at hnl) (by omega))) rfl ?_
        refine o_p (p_fieldAddr rfl rfl fd_77_2 sz_75 rfl) rfl ?_
        first | refine o_q (q_load rfl rfl sz_75 (by repeat (first | exact .here | apply Pick.there)) rfl) rfl ?_ | refine o_q (q_load_old rfl rfl sz_75 ((hs.1.rdj 3 hi rfl))) rfl ?_ | refine o_q (q_load_old rfl rfl sz_75 (((hs.at hi).1.rdj 1 hk rfl))) rfl ?_ | refine o_q (q_load_old rfl rfl sz_75 (((hs.at hi).1.rdj 4 hnl rfl))) rfl ?_ | refine o_q (q_load_old rfl rfl sz_75 (rfl (Rw.rd ((hs.at hi).at hnl) hml))) rfl ?_
        refine o_p (p_pure rfl) rfl ?_
        first | refine o_p (p_indexAddr rfl rfl rfl sl_75 (k) (by omega) (by omega) rfl) rfl ?_ | refine o_p (p_indexAddr rfl rfl rfl sl_75 (k) (by omega) (by omega) (Rw.some hs.1 (by omega))) rfl ?_ | refine o_p (p_indexAddr rfl rfl rfl sl_75 (k) (by omega) (by omega) (Rw.some (hs.at hi).1 (by omega))) rfl ?_ | refine o_p (p_indexAddr rfl rfl rfl sl_75 (k) (by omega) (by omega) (Rw.some ((hs.at hi).at hnl) (by omega))) rfl ?_
        refine o_p (p_fieldAddr rfl rfl fd_48_1 sz_3 rfl) rfl ?_
        first | refine o_q (q_load rfl rfl sz_3 (by repeat (first | exact .here | apply Pick.there)) rfl) rfl ?_ | refine o_q (q_load_old rfl rfl sz_3 ((hs.1.rdj 3 hi rfl))) rfl ?_ | refine o_q (q_load_old rfl rfl sz_3 (((hs.at hi).1.rdj 1 hk rfl))) rfl ?_ | refine o_q (q_load_old rfl rfl sz_3 (((hs.at hi).1.rdj 4 hnl rfl))) rfl ?_ | refine o_q (q_load_old rfl rfl sz_3 (rfl (Rw.rd ((hs.at hi).at hnl) hml))) rfl ?_
        refine o_p (p_pure rfl) rfl ?_
        refine o_q (q_call rfl fn_71 rfl (fun w1 h1 => c71 w1 _ (bif w9 then 2 else 1) (by have := openE_r hV3.1; omega) (by cases w9 <;> simp))) rfl ?_
        refine o_p (p_pure rfl) rfl ?_
        refine o_nil ?_
        refine s_cond rfl (fun h5 => ?_) (fun h5 => ?_)
        · try simp only [decide_eq_true_eq, decide_eq_false_iff_not, Bool.not_eq_true', Bool.not_eq_false', Bool.and_eq_true, Bool.or_eq_true, Bool.and_eq_false_iff, Bool.or_eq_false_iff, Bool.not_true, Bool.not_false] at h5
          have hno : ¬ hasB (nth (nth L i).op k).ac (bif w9 then 2 else 1) = true := by have hq := h5; simpa using hq
          have hno2 : ¬ hasB (nth (nth L i).op k).pl.ac (bif w9 then 2 else 1) = true := hno
          refine s_seq ?_
          refine s_region ?_
          refine o_p (p_pure rfl) rfl ?_
          refine o_nil ?_
          exact s_retv (rs := [.tmp 10]) rfl (.tmp rfl (.nil)) (fun w' h' => ⟨by rw [mayR, if_pos hz1, mayT, hfe]; simp only [if_true]; rw [if_pos hrg, nth_pls hi, LFil.pl, nth_plo hk]; skip; rw [if_neg hno2]; rfl, h'.below⟩)
        · try simp only [decide_eq_true_eq, decide_eq_false_iff_not, Bool.not_eq_true', Bool.not_eq_false', Bool.and_eq_true, Bool.or_eq_true, Bool.and_eq_false_iff, Bool.or_eq_false_iff, Bool.not_true, Bool.not_false] at h5
          have hyes : hasB (nth (nth L i).op k).ac (bif w9 then 2 else 1) = true := by have hq := h5; simpa using hq
          have hyes2 : hasB (nth (nth L i).op k).pl.ac (bif w9 then 2 else 1) = true := hyes
          refine s_skip ?_
          refine s_seq ?_
          refine s_seq ?_
          refine s_region ?_
          refine o_p (p_pure rfl) rfl ?_
          refine o_nil ?_
          refine s_block ?_
          refine s_weaken (L' := [(2, _), (3, _), (4, _), (5, _), (10, _), (13, _), (14, _), (16, _)]) (by repeat (first | exact sl_n | refine sl_c rfl ?_)) (fun _ h => h) ?_
          refine s_loopI (α := Nat) [10, 16, 17, 18, 51, 52, 53, 54, 55, 56, 57, 58, 59, 60, 61, 62, 63, 64, 65, 66, 67, 68, 69, 70, 71, 72, 73, 74, 75, 76, 77, 78, 79, 80, 81, 82, 83, 84, 85, 86, 87, 88, 89, 90, 91, 92, 93, 94, 95, 96, 97, 98, 99, 100, 101, 102, 103, 104, 105, 106, 107, 108, 109, 110, 111, 112, 113] (fun n => [(16, .int .i64 (n : Int))]) (fun _ => HS w [] [.blk b1 26 2 [.int .i64 next, .slice a L.length cap]]) (fun n => n ≤ (nth L i).op.length ∧ ∀ n2, n2 < n → ∀ m, m < (nth (nth L i).op n2).lk.length → (ovl (nth (nth (nth L i).op n2).lk m) ⟨fr, cnt, false⟩ && kpW w9 (nth (nth (nth L i).op n2).lk m).ex (decide (n2 ≠ k))) = false) (fun n => (nth L i).op.length - n) 0 ⟨by omega, fun n2 h2 => absurd h2 (Nat.not_lt_zero n2)⟩ (by repeat (first | exact sl_n | refine sl_c rfl ?_)) (fun w h => h.ent (by repeat (first | exact .nil | refine .cons (by repeat (first | exact .here | apply Pick.there)) ?_))) (fun n hn => ?_)
          obtain ⟨hn1, hn2⟩ := hn
          refine s_seq ?_
          refine s_seq ?_
          refine s_region ?_
          refine o_p (p_pure rfl) rfl ?_
          refine o_p (p_fieldAddr rfl rfl fd_26_1 sz_24 rfl) rfl ?_
          first | refine o_q (q_load rfl rfl sz_24 (by repeat (first | exact .here | apply Pick.there)) rfl) rfl ?_ | refine o_q (q_load_old rfl rfl sz_24 ((hs.1.rdj 3 hi rfl))) rfl ?_ | refine o_q (q_load_old rfl rfl sz_24 (((hs.at hi).1.rdj 1 hk rfl))) rfl ?_ | refine o_q (q_load_old rfl rfl sz_24 (((hs.at hi).1.rdj 4 hnl rfl))) rfl ?_ | refine o_q (q_load_old rfl rfl sz_24 (rfl (Rw.rd ((hs.at hi).at hnl) hml))) rfl ?_
          refine o_p (p_pure rfl) rfl ?_
          first | refine o_p (p_indexAddr rfl rfl rfl sl_24 (i) (by omega) (by omega) rfl) rfl ?_ | refine o_p (p_indexAddr rfl rfl rfl sl_24 (i) (by omega) (by omega) (Rw.some hs.1 (by omega))) rfl ?_ | refine o_p (p_indexAddr rfl rfl rfl sl_24 (i) (by omega) (by omega) (Rw.some (hs.at hi).1 (by omega))) rfl ?_ | refine o_p (p_indexAddr rfl rfl rfl sl_24 (i) (by omega) (by omega) (Rw.some ((hs.at hi).at hnl) (by omega))) rfl ?_
          refine o_p (p_fieldAddr rfl rfl fd_77_2 sz_75 rfl) rfl ?_
          first | refine o_q (q_load rfl rfl sz_75 (by repeat (first | exact .here | apply Pick.there)) rfl) rfl ?_ | refine o_q (q_load_old rfl rfl sz_75 ((hs.1.rdj 3 hi rfl))) rfl ?_ | refine o_q (q_load_old rfl rfl sz_75 (((hs.at hi).1.rdj 1 hk rfl))) rfl ?_ | refine o_q (q_load_old rfl rfl sz_75 (((hs.at hi).1.rdj 4 hnl rfl))) rfl ?_ | refine o_q (q_load_old rfl rfl sz_75 (rfl (Rw.rd ((hs.at hi).at hnl) hml))) rfl ?_
          first | refine o_p (p_len_slice rfl rfl Try.underlying75) rfl ?_ | refine o_q (q_len_own rfl rfl Try.underlying75 (by repeat (first | exact .here | apply Pick.there))) rfl ?_
          refine o_p (p_pure rfl) rfl ?_
          refine o_nil ?_
          refine s_cond rfl (fun h6 => ?_) (fun h6 => ?_)
          · try simp only [decide_eq_true_eq, decide_eq_false_iff_not, Bool.not_eq_true', Bool.not_eq_false', Bool.and_eq_true, Bool.or_eq_true, Bool.and_eq_false_iff, Bool.or_eq_false_iff, Bool.not_true, Bool.not_false] at h6
            have hnl : n < (nth L i).op.length := by omega
            have hv9 := VW.at hV hi hnl
            refine s_skip ?_
            refine s_seq ?_
            refine s_block ?_
            refine s_seq ?_
            refine s_region ?_
            refine o_p (p_pure rfl) rfl ?_
            refine o_nil ?_
            refine s_block ?_
            refine s_loopI (α := Nat) [10, 17, 18, 62, 63, 64, 65, 66, 67, 68, 69, 70, 71, 72, 73, 74, 75, 76, 77, 78, 79, 80, 81, 82, 83, 84, 85, 86, 87, 88, 89, 90, 91, 92, 93, 94, 95, 96, 97, 98, 99, 100, 101, 102, 103, 104, 105, 106, 107, 108, 109, 110, 111, 112, 113] (fun m => [(17, .int .i64 (m : Int))]) (fun _ => HS w [] [.blk b1 26 2 [.int .i64 next, .slice a L.length cap]]) (fun m => m ≤ (nth (nth L i).op n).lk.length ∧ ∀ m2, m2 < m → (ovl (nth (nth (nth L i).op n).lk m2) ⟨fr, cnt, false⟩ && kpW w9 (nth (nth (nth L i).op n).lk m2).ex (decide (n ≠ k))) = false) (fun m => (nth (nth L i).op n).lk.length - m) 0 ⟨by omega, fun n2 h2 => absurd h2 (Nat.not_lt_zero n2)⟩ (by repeat (first | exact sl_n | refine sl_c rfl ?_)) (fun w h => h.ent (by repeat (first | exact .nil | refine .cons (by repeat (first | exact .here | apply Pick.there)) ?_))) (fun m hm => ?_)
            obtain ⟨hm1, hm3⟩ := hm
            refine s_seq ?_
            refine s_seq ?_
            refine s_region ?_
            refine o_p (p_pure rfl) rfl ?_
            refine o_p (p_fieldAddr rfl rfl fd_26_1 sz_24 rfl) rfl ?_
            first | refine o_q (q_load rfl rfl sz_24 (by repeat (first | exact .here | apply Pick.there)) rfl) rfl ?_ | refine o_q (q_load_old rfl rfl sz_24 ((hs.1.rdj 3 hi rfl))) rfl ?_ | refine o_q (q_load_old rfl rfl sz_24 (((hs.at hi).1.rdj 1 hk rfl))) rfl ?_ | refine o_q (q_load_old rfl rfl sz_24 (((hs.at hi).1.rdj 4 hnl rfl))) rfl ?_ | refine o_q (q_load_old rfl rfl sz_24 (rfl (Rw.rd ((hs.at hi).at hnl) hml))) rfl ?_
            refine o_p (p_pure rfl) rfl ?_
            first | refine o_p (p_indexAddr rfl rfl rfl sl_24 (i) (by omega) (by omega) rfl) rfl ?_ | refine o_p (p_indexAddr rfl rfl rfl sl_24 (i) (by omega) (by omega) (Rw.some hs.1 (by omega))) rfl ?_ | refine o_p (p_indexAddr rfl rfl rfl sl_24 (i) (by omega) (by omega) (Rw.some (hs.at hi).1 (by omega))) rfl ?_ | refine o_p (p_indexAddr rfl rfl rfl sl_24 (i) (by omega) (by omega) (Rw.some ((hs.at hi).at hnl) (by omega))) rfl ?_
            refine o_p (p_fieldAddr rfl rfl fd_77_2 sz_75 rfl) rfl ?_
            first | refine o_q (q_load rfl rfl sz_75 (by repeat (first | exact .here | apply Pick.there)) rfl) rfl ?_ | refine o_q (q_load_old rfl rfl sz_75 ((hs.1.rdj 3 hi rfl))) rfl ?_ | refine o_q (q_load_old rfl rfl sz_75 (((hs.at hi).1.rdj 1 hk rfl))) rfl ?_ | refine o_q (q_load_old rfl rfl sz_75 (((hs.at hi).1.rdj 4 hnl rfl))) rfl ?_ | refine o_q (q_load_old rfl rfl sz_75 (rfl (Rw.rd ((hs.at hi).at hnl) hml))) rfl ?_
            refine o_p (p_pure rfl) rfl ?_
            first | refine o_p (p_indexAddr rfl rfl rfl sl_75 (n) (by omega) (by omega) rfl) rfl ?_ | refine o_p (p_indexAddr rfl rfl rfl sl_75 (n) (by omega) (by omega) (Rw.some hs.1 (by omega))) rfl ?_ | refine o_p (p_indexAddr rfl rfl rfl sl_75 (n) (by omega) (by omega) (Rw.some (hs.at hi).1 (by omega))) rfl ?_ | refine o_p (p_indexAddr rfl rfl rfl sl_75 (n) (by omega) (by omega) (Rw.some ((hs.at hi).at hnl) (by omega))) rfl ?_
            refine o_p (p_fieldAddr rfl rfl fd_48_4 sz_46 rfl) rfl ?_
            first | refine o_q (q_load rfl rfl sz_46 (by repeat (first | exact .here | apply Pick.there)) rfl) rfl ?_ | refine o_q (q_load_old rfl rfl sz_46 ((hs.1.rdj 3 hi rfl))) rfl ?_ | refine o_q (q_load_old rfl rfl sz_46 (((hs.at hi).1.rdj 1 hk rfl))) rfl ?_ | refine o_q (q_load_old rfl rfl sz_46 (((hs.at hi).1.rdj 4 hnl rfl))) rfl ?_ | refine o_q (q_load_old rfl rfl sz_46 (rfl (Rw.rd ((hs.at hi).at hnl) hml))) rfl ?_
            first | refine o_p (p_len_slice rfl rfl Try.underlying46) rfl ?_ | refine o_q (q_len_own rfl rfl Try.underlying46 (by repeat (first | exact .here | apply Pick.there))) rfl ?_
            refine o_p (p_pure rfl) rfl ?_
            refine o_nil ?_
            refine s_cond rfl (fun h7 => ?_) (fun h7 => ?_)
            · try simp only [decide_eq_true_eq, decide_eq_false_iff_not, Bool.not_eq_true', Bool.not_eq_false', Bool.and_eq_true, Bool.or_eq_true, Bool.and_eq_false_iff, Bool.or_eq_false_iff, Bool.not_true, Bool.not_false] at h7
              have hml : m < (nth (nth L i).op n).lk.length := by omega
              refine s_skip ?_
              refine s_seq ?_
              refine s_block ?_
              refine s_seq ?_
              refine s_weaken (L' := [(2, _), (3, _), (4, _), (5, _), (13, _), (14, _), (16, _), (17, _), (51, _), (52, _), (53, _), (54, _), (55, _), (56, _), (57, _), (58, _), (59, _)]) (by repeat (first | exact sl_n | refine sl_c rfl ?_)) (fun _ h => h) ?_
              refine s_region ?_
              refine o_p (p_fieldAddr rfl rfl fd_26_1 sz_24 rfl) rfl ?_
              first | refine o_q (q_load rfl rfl sz_24 (by repeat (first | exact .here | apply Pick.there)) rfl) rfl ?_ | refine o_q (q_load_old rfl rfl sz_24 ((hs.1.rdj 3 hi rfl))) rfl ?_ | refine o_q (q_load_old rfl rfl sz_24 (((hs.at hi).1.rdj 1 hk rfl))) rfl ?_ | refine o_q (q_load_old rfl rfl sz_24 (((hs.at hi).1.rdj 4 hnl rfl))) rfl ?_ | refine o_q (q_load_old rfl rfl sz_24 (rfl (Rw.rd ((hs.at hi).at hnl) hml))) rfl ?_
              refine o_p (p_pure rfl) rfl ?_
              first | refine o_p (p_indexAddr rfl rfl rfl sl_24 (i) (by omega) (by omega) rfl) rfl ?_ | refine o_p (p_indexAddr rfl rfl rfl sl_24 (i) (by omega) (by omega) (Rw.some hs.1 (by omega))) rfl ?_ | refine o_p (p_indexAddr rfl rfl rfl sl_24 (i) (by omega) (by omega) (Rw.some (hs.at hi).1 (by omega))) rfl ?_ | refine o_p (p_indexAddr rfl rfl rfl sl_24 (i) (by omega) (by omega) (Rw.some ((hs.at hi).at hnl) (by omega))) rfl ?_
              refine o_p (p_fieldAddr rfl rfl fd_77_2 sz_75 rfl) rfl ?_
              first | refine o_q (q_load rfl rfl sz_75 (by repeat (first | exact .here | apply Pick.there)) rfl) rfl ?_ | refine o_q (q_load_old rfl rfl sz_75 ((hs.1.rdj 3 hi rfl))) rfl ?_ | refine o_q (q_load_old rfl rfl sz_75 (((hs.at hi).1.rdj 1 hk rfl))) rfl ?_ | refine o_q (q_load_old rfl rfl sz_75 (((hs.at hi).1.rdj 4 hnl rfl))) rfl ?_ | refine o_q (q_load_old rfl rfl sz_75 (rfl (Rw.rd ((hs.at hi).at hnl) hml))) rfl ?_
              refine o_p (p_pure rfl) rfl ?_
              first | refine o_p (p_indexAddr rfl rfl rfl sl_75 (n) (by omega) (by omega) rfl) rfl ?_ | refine o_p (p_indexAddr rfl rfl rfl sl_75 (n) (by omega) (by omega) (Rw.some hs.1 (by omega))) rfl ?_ | refine o_p (p_indexAddr rfl rfl rfl sl_75 (n) (by omega) (by omega) (Rw.some (hs.at hi).1 (by omega))) rfl ?_ | refine o_p (p_indexAddr rfl rfl rfl sl_75 (n) (by omega) (by omega) (Rw.some ((hs.at hi).at hnl) (by omega))) rfl ?_
              refine o_p (p_fieldAddr rfl rfl fd_48_4 sz_46 rfl) rfl ?_
              first | refine o_q (q_load rfl rfl sz_46 (by repeat (first | exact .here | apply Pick.there)) rfl) rfl ?_ | refine o_q (q_load_old rfl rfl sz_46 ((hs.1.rdj 3 hi rfl))) rfl ?_ | refine o_q (q_load_old rfl rfl sz_46 (((hs.at hi).1.rdj 1 hk rfl))) rfl ?_ | refine o_q (q_load_old rfl rfl sz_46 (((hs.at hi).1.rdj 4 hnl rfl))) rfl ?_ | refine o_q (q_load_old rfl rfl sz_46 (rfl (Rw.rd ((hs.at hi).at hnl) hml))) rfl ?_
              refine o_p (p_pure rfl) rfl ?_
              first | refine o_p (p_indexAddr rfl rfl rfl sl_46 (m) (by omega) (by omega) rfl) rfl ?_ | refine o_p (p_indexAddr rfl rfl rfl sl_46 (m) (by omega) (by omega) (Rw.some hs.1 (by omega))) rfl ?_ | refine o_p (p_indexAddr rfl rfl rfl sl_46 (m) (by omega) (by omega) (Rw.some (hs.at hi).1 (by omega))) rfl ?_ | refine o_p (p_indexAddr rfl rfl rfl sl_46 (m) (by omega) (by omega) (Rw.some ((hs.at hi).at hnl) (by omega))) rfl ?_
              first | refine o_q (q_loadn rfl rfl sz_62 (by repeat (first | exact .here | apply Pick.there)) rfl) rfl ?_ | refine o_q (q_load_oldn _ rfl rfl sz_62 (hs.1.rdj 3 hi rfl)) rfl ?_ | refine o_q (q_load_oldn _ rfl rfl sz_62 ((hs.at hi).1.rdj 1 hk rfl)) rfl ?_ | refine o_q (q_load_oldn _ rfl rfl sz_62 ((hs.at hi).1.rdj 4 hnl rfl)) rfl ?_ | refine o_q (q_load_oldn _ rfl rfl sz_62 rfl (Rw.rd ((hs.at hi).at hnl) hml)) rfl ?_
              refine o_h (h_alloc rfl zr_62) rfl (fun b8 _ => ?_)
              refine o_h0 (h_store rfl rfl rfl sz_62 rfl (by repeat (first | exact .here | apply Put.there)) (by simp only [setMany_length, List.length_set, List.length_cons, List.length_nil, List.length_map]; omega) rfl) (fun _ _ => ?_)
              refine o_nil ?_
              refine s_seq ?_
              refine s_weaken (L' := [(2, _), (3, _), (4, _), (5, _), (13, _), (14, _), (16, _), (17, _), (18, _), (51, _), (52, _), (53, _), (54, _), (55, _), (56, _), (57, _), (58, _), (59, _)]) (by repeat (first | exact sl_n | refine sl_c rfl ?_)) (fun _ h => h) ?_
              refine s_region ?_
              refine o_p (p_fieldAddr rfl rfl fd_62_0 sz_3 rfl) rfl ?_
              first | refine o_q (q_load rfl rfl sz_3 (by repeat (first | exact .here | apply Pick.there)) rfl) rfl ?_ | refine o_q (q_load_old rfl rfl sz_3 ((hs.1.rdj 3 hi rfl))) rfl ?_ | refine o_q (q_load_old rfl rfl sz_3 (((hs.at hi).1.rdj 1 hk rfl))) rfl ?_ | refine o_q (q_load_old rfl rfl sz_3 (((hs.at hi).1.rdj 4 hnl rfl))) rfl ?_ | refine o_q (q_load_old rfl rfl sz_3 (rfl (Rw.rd ((hs.at hi).at hnl) hml))) rfl ?_
              refine o_p (p_fieldAddr rfl rfl fd_62_1 sz_3 rfl) rfl ?_
              first | refine o_q (q_load rfl rfl sz_3 (by repeat (first | exact .here | apply Pick.there)) rfl) rfl ?_ | refine o_q (q_load_old rfl rfl sz_3 ((hs.1.rdj 3 hi rfl))) rfl ?_ | refine o_q (q_load_old rfl rfl sz_3 (((hs.at hi).1.rdj 1 hk rfl))) rfl ?_ | refine o_q (q_load_old rfl rfl sz_3 (((hs.at hi).1.rdj 4 hnl rfl))) rfl ?_ | refine o_q (q_load_old rfl rfl sz_3 (rfl (Rw.rd ((hs.at hi).at hnl) hml))) rfl ?_
              refine o_p (p_pure rfl) rfl ?_
              refine o_p (p_pure rfl) rfl ?_
              refine o_q (q_call rfl fn_79 rfl (fun w1 h1 => c79 w1 _ ⟨fr, cnt, false⟩ (okL_nth hv9.2.1 hml) hrg)) rfl ?_
              refine o_p (p_pure rfl) rfl ?_
              refine o_and 16 97 113 _ _ rfl
                (by
                  intro hg9
                  have hs10 := hg9; try simp only [decide_eq_true_eq, decide_eq_false_iff_not, Bool.not_eq_true', Bool.not_eq_false', Bool.and_eq_true, Bool.or_eq_true, Bool.and_eq_false_iff, Bool.or_eq_false_iff, Bool.not_true, Bool.not_false] at hs10
                  refine o_on 97 _ rfl rfl hg9 ?_
                  refine o_p (p_fieldAddr rfl rfl fd_62_2 sz_4 rfl) rfl ?_
                  refine o_on 97 _ rfl rfl hg9 ?_
                  first | refine o_q (q_load rfl rfl sz_4 (by repeat (first | exact .here | apply Pick.there)) rfl) rfl ?_ | refine o_q (q_load_old rfl rfl sz_4 ((hs.1.rdj 3 hi rfl))) rfl ?_ | refine o_q (q_load_old rfl rfl sz_4 (((hs.at hi).1.rdj 1 hk rfl))) rfl ?_ | refine o_q (q_load_old rfl rfl sz_4 (((hs.at hi).1.rdj 4 hnl rfl))) rfl ?_ | refine o_q (q_load_old rfl rfl sz_4 (rfl (Rw.rd ((hs.at hi).at hnl) hml))) rfl ?_
                  refine o_on 97 _ rfl rfl hg9 ?_
                  refine o_p (p_pure rfl) rfl ?_
                  refine o_and 4 100 104 _ _ rfl
                    (by
                      intro hg11
                      have hs12 := hg11; try simp only [decide_eq_true_eq, decide_eq_false_iff_not, Bool.not_eq_true', Bool.not_eq_false', Bool.and_eq_true, Bool.or_eq_true, Bool.and_eq_false_iff, Bool.or_eq_false_iff, Bool.not_true, Bool.not_false] at hs12
                      refine o_on 100 _ rfl rfl hg11 ?_
                      refine o_p (p_pure rfl) rfl ?_
                      refine o_on 100 _ rfl rfl hg11 ?_
                      refine o_p (p_pure rfl) rfl ?_
                      refine o_on 100 _ rfl rfl hg11 ?_
                      refine o_p (p_pure rfl) rfl ?_
                      refine o_on 97 _ rfl rfl hg9 ?_
                      refine o_p (p_pickt rfl rfl hg11 rfl) rfl ?_
                      refine o_nil ?_
                      exact s_joinN 4 104 _ rfl rfl rfl (fun w h => by first | exact h | exact h.ent (by repeat (first | exact .nil | refine .cons (by repeat (first | exact .here | apply Pick.there)) ?_))))
                    (by
                      intro hg13
                      have hs14 := hg13; try simp only [decide_eq_true_eq, decide_eq_false_iff_not, Bool.not_eq_true', Bool.not_eq_false', Bool.and_eq_true, Bool.or_eq_true, Bool.and_eq_false_iff, Bool.or_eq_false_iff, Bool.not_true, Bool.not_false] at hs14
                      refine o_off 100 _ rfl rfl hg13 rfl ?_
                      refine o_off 100 _ rfl rfl hg13 rfl ?_
                      refine o_off 100 _ rfl rfl hg13 rfl ?_
                      refine o_on 97 _ rfl rfl hg9 ?_
                      refine o_p (p_pickf rfl rfl hg13 rfl) rfl ?_
                      refine o_nil ?_
                      exact s_joinN 4 104 _ rfl rfl rfl (fun w h => by first | exact h | exact h.ent (by repeat (first | exact .nil | refine .cons (by repeat (first | exact .here | apply Pick.there)) ?_)))) ?_
                  refine o_on 97 _ rfl rfl hg9 ?_
                  refine o_p (p_pure rfl) rfl ?_
                  refine o_or 7 105 112 _ _ rfl
                    (by
                      intro hg15
                      have hs16 := hg15; try simp only [decide_eq_true_eq, decide_eq_false_iff_not, Bool.not_eq_true', Bool.not_eq_false', Bool.and_eq_true, Bool.or_eq_true, Bool.and_eq_false_iff, Bool.or_eq_false_iff, Bool.not_true, Bool.not_false] at hs16
                      refine o_on 105 _ rfl rfl hg15 ?_
                      refine o_p (p_fieldAddr rfl rfl fd_62_2 sz_4 rfl) rfl ?_
                      refine o_on 105 _ rfl rfl hg15 ?_
                      first | refine o_q (q_load rfl rfl sz_4 (by repeat (first | exact .here | apply Pick.there)) rfl) rfl ?_ | refine o_q (q_load_old rfl rfl sz_4 ((hs.1.rdj 3 hi rfl))) rfl ?_ | refine o_q (q_load_old rfl rfl sz_4 (((hs.at hi).1.rdj 1 hk rfl))) rfl ?_ | refine o_q (q_load_old rfl rfl sz_4 (((hs.at hi).1.rdj 4 hnl rfl))) rfl ?_ | refine o_q (q_load_old rfl rfl sz_4 (rfl (Rw.rd ((hs.at hi).at hnl) hml))) rfl ?_
                      refine o_on 105 _ rfl rfl hg15 ?_
                      refine o_p (p_pure rfl) rfl ?_
                      refine o_on 105 _ rfl rfl hg15 ?_
                      refine o_p (p_pure rfl) rfl ?_
                      refine o_and 2 109 111 _ _ rfl
                        (by
                          intro hg17
                          have hs18 := hg17; try simp only [decide_eq_true_eq, decide_eq_false_iff_not, Bool.not_eq_true', Bool.not_eq_false', Bool.and_eq_true, Bool.or_eq_true, Bool.and_eq_false_iff, Bool.or_eq_false_iff, Bool.not_true, Bool.not_false] at hs18
                          refine o_on 109 _ rfl rfl hg17 ?_
                          refine o_p (p_pure rfl) rfl ?_
                          refine o_on 105 _ rfl rfl hg15 ?_
                          refine o_p (p_pickt rfl rfl hg17 rfl) rfl ?_
                          refine o_nil ?_
                          exact s_joinN 2 111 _ rfl rfl rfl (fun w h => by first | exact h | exact h.ent (by repeat (first | exact .nil | refine .cons (by repeat (first | exact .here | apply Pick.there)) ?_))))
                        (by
                          intro hg19
                          have hs20 := hg19; try simp only [decide_eq_true_eq, decide_eq_false_iff_not, Bool.not_eq_true', Bool.not_eq_false', Bool.and_eq_true, Bool.or_eq_true, Bool.and_eq_false_iff, Bool.or_eq_false_iff, Bool.not_true, Bool.not_false] at hs20
                          refine o_off 109 _ rfl rfl hg19 rfl ?_
                          refine o_on 105 _ rfl rfl hg15 ?_
                          refine o_p (p_pickf rfl rfl hg19 rfl) rfl ?_
                          refine o_nil ?_
                          exact s_joinN 2 111 _ rfl rfl rfl (fun w h => by first | exact h | exact h.ent (by repeat (first | exact .nil | refine .cons (by repeat (first | exact .here | apply Pick.there)) ?_)))) ?_
                      refine o_on 97 _ rfl rfl hg9 ?_
                      refine o_p (p_pickf rfl rfl hg15 rfl) rfl ?_
                      refine o_nil ?_
                      exact s_joinN 6 112 _ rfl rfl rfl (fun w h => by first | exact h | exact h.ent (by repeat (first | exact .nil | refine .cons (by repeat (first | exact .here | apply Pick.there)) ?_))))
                    (by
                      intro hg21
                      have hs22 := hg21; try simp only [decide_eq_true_eq, decide_eq_false_iff_not, Bool.not_eq_true', Bool.not_eq_false', Bool.and_eq_true, Bool.or_eq_true, Bool.and_eq_false_iff, Bool.or_eq_false_iff, Bool.not_true, Bool.not_false] at hs22
                      refine o_off 105 _ rfl rfl hg21 rfl ?_
                      refine o_off 105 _ rfl rfl hg21 rfl ?_
                      refine o_off 105 _ rfl rfl hg21 rfl ?_
                      refine o_off 105 _ rfl rfl hg21 rfl ?_
                      refine o_off' 109 rfl rfl rfl ?_
                      refine o_off 105 _ rfl rfl hg21 rfl ?_
                      refine o_on 97 _ rfl rfl hg9 ?_
                      refine o_p (p_pickt rfl rfl hg21 rfl) rfl ?_
                      refine o_nil ?_
                      exact s_joinN 7 112 _ rfl rfl rfl (fun w h => by first | exact h | exact h.ent (by repeat (first | exact .nil | refine .cons (by repeat (first | exact .here | apply Pick.there)) ?_)))) ?_
                  refine o_p (p_pickt rfl rfl hg9 rfl) rfl ?_
                  refine o_nil ?_
                  exact s_joinN 7 113 _ rfl rfl rfl (fun w h => by first | exact h | exact h.ent (by repeat (first | exact .nil | refine .cons (by repeat (first | exact .here | apply Pick.there)) ?_))))
                (by
                  intro hg23
                  have hs24 := hg23; try simp only [decide_eq_true_eq, decide_eq_false_iff_not, Bool.not_eq_true', Bool.not_eq_false', Bool.and_eq_true, Bool.or_eq_true, Bool.and_eq_false_iff, Bool.or_eq_false_iff, Bool.not_true, Bool.not_false] at hs24
                  refine o_off 97 _ rfl rfl hg23 rfl ?_
                  refine o_off 97 _ rfl rfl hg23 rfl ?_
                  refine o_off 97 _ rfl rfl hg23 rfl ?_
                  refine o_off' 100 rfl rfl rfl ?_
                  refine o_off' 100 rfl rfl rfl ?_
                  refine o_off' 100 rfl rfl rfl ?_
                  refine o_off 97 _ rfl rfl hg23 rfl ?_
                  refine o_off 97 _ rfl rfl hg23 rfl ?_
                  refine o_off' 105 rfl rfl rfl ?_
                  refine o_off' 105 rfl rfl rfl ?_
                  refine o_off' 105 rfl rfl rfl ?_
                  refine o_off' 105 rfl rfl rfl ?_
                  refine o_off' 109 rfl rfl rfl ?_
                  refine o_off' 105 rfl rfl rfl ?_
                  refine o_off 97 _ rfl rfl hg23 rfl ?_
                  refine o_p (p_pickf rfl rfl hg23 rfl) rfl ?_
                  refine o_nil ?_
                  exact s_joinN 16 113 _ rfl rfl rfl (fun w h => by first | exact h | exact h.ent (by repeat (first | exact .nil | refine .cons (by repeat (first | exact .here | apply Pick.there)) ?_)))) ?_
              refine o_nil ?_
              refine s_cond rfl (fun h25 => ?_) (fun h25 => ?_)
              · try simp only [decide_eq_true_eq, decide_eq_false_iff_not, Bool.not_eq_true', Bool.not_eq_false', Bool.and_eq_true, Bool.or_eq_true, Bool.and_eq_false_iff, Bool.or_eq_false_iff, Bool.not_true, Bool.not_false] at h25
                have hhit : (ovl (nth (nth (nth L i).op n).lk m) ⟨fr, cnt, false⟩ && kpW w9 (nth (nth (nth L i).op n).lk m).ex (decide (n ≠ k))) = true := by have hq := h25; have e9 : ((n : Int) = (k : Int)) ↔ n = k := Int.ofNat_inj; unfold kpW; simp only [e9] at hq; first | (simp at hq ⊢; exact hq) | (simp at hq ⊢; grind)
                refine s_seq ?_
                refine s_weaken (L' := [(2, _), (3, _), (4, _), (5, _), (13, _), (14, _), (16, _), (17, _), (51, _), (52, _), (53, _), (54, _), (55, _), (56, _), (57, _), (58, _), (59, _)]) (by repeat (first | exact sl_n | refine sl_c rfl ?_)) (fun _ h => h) ?_
                refine s_region ?_
                refine o_p (p_pure rfl) rfl ?_
                refine o_nil ?_
                exact s_retv (rs := [.tmp 10]) rfl (.tmp rfl (.nil)) (fun w' h' => ⟨by rw [mayR, if_pos hz1, mayT, hfe]; simp only [if_true]; rw [if_pos hrg, nth_pls hi, LFil.pl, nth_plo hk]; skip; rw [if_pos hyes2, if_pos (mayB_hit (n := n) (m := m) (by simp; omega) (by rw [nth_plo hnl]; exact hml) (by rw [nth_plo hnl]; exact hhit))]; rfl, h'.below⟩)
              · try simp only [decide_eq_true_eq, decide_eq_false_iff_not, Bool.not_eq_true', Bool.not_eq_false', Bool.and_eq_true, Bool.or_eq_true, Bool.and_eq_false_iff, Bool.or_eq_false_iff, Bool.not_true, Bool.not_false] at h25
                have hmiss : (ovl (nth (nth (nth L i).op n).lk m) ⟨fr, cnt, false⟩ && kpW w9 (nth (nth (nth L i).op n).lk m).ex (decide (n ≠ k))) = false := by have hq := h25; have e9 : ((n : Int) = (k : Int)) ↔ n = k := Int.ofNat_inj; unfold kpW; simp only [e9] at hq; first | (simp at hq ⊢; exact hq) | (simp at hq ⊢; grind)
                refine s_skip ?_
                refine s_blk ?_
                refine s_weaken (L' := [(2, _), (3, _), (4, _), (5, _), (13, _), (14, _), (16, _), (17, _), (51, _), (52, _), (53, _), (54, _), (55, _), (56, _), (57, _), (58, _), (59, _)]) (by repeat (first | exact sl_n | refine sl_c rfl ?_)) (fun _ h => h) ?_
                refine s_region ?_
                refine o_p (p_pure rfl) rfl ?_
                refine o_p (p_pure rfl) rfl ?_
                try (refine o_slot (i64w (by omega) (by omega)) ?_)
                refine o_p (p_pure rfl) rfl ?_
                refine o_nil ?_
                exact s_backI (m + 1) (by omega) ⟨by omega, fun m2 h2 => (Nat.lt_or_ge m2 m).elim (hm3 m2) (fun h3 => by obtain rfl : m2 = m := (by omega); exact hmiss)⟩ (by repeat (first | exact sl_n | refine sl_c rfl ?_)) (fun w h => h.ent (by repeat (first | exact .nil | refine .cons (by repeat (first | exact .here | apply Pick.there)) ?_)))
            · try simp only [decide_eq_true_eq, decide_eq_false_iff_not, Bool.not_eq_true', Bool.not_eq_false', Bool.and_eq_true, Bool.or_eq_true, Bool.and_eq_false_iff, Bool.or_eq_false_iff, Bool.not_true, Bool.not_false] at h7
              refine s_exit_to rfl ?_
              refine s_blk ?_
              refine s_weaken (L' := [(2, _), (3, _), (4, _), (5, _), (13, _), (14, _), (16, _), (17, _), (51, _), (52, _), (53, _), (54, _), (55, _), (56, _), (57, _), (58, _), (59, _)]) (by repeat (first | exact sl_n | refine sl_c rfl ?_)) (fun _ h => h) ?_
              refine s_region ?_
              refine o_p (p_pure rfl) rfl ?_
              refine o_p (p_pure rfl) rfl ?_
              try (refine o_slot (i64w (by omega) (by omega)) ?_)
              refine o_p (p_pure rfl) rfl ?_
              refine o_nil ?_
              exact s_backI (n + 1) (by omega) ⟨by omega, fun n2 h2 m2 hm2 => (Nat.lt_or_ge n2 n).elim (fun h3 => hn2 n2 h3 m2 hm2) (fun h3 => by obtain rfl : n2 = n := (by omega); exact hm3 m2 (by omega))⟩ (by repeat (first | exact sl_n | refine sl_c rfl ?_)) (fun w h => h.ent (by repeat (first | exact .nil | refine .cons (by repeat (first | exact .here | apply Pick.there)) ?_)))
          · try simp only [decide_eq_true_eq, decide_eq_false_iff_not, Bool.not_eq_true', Bool.not_eq_false', Bool.and_eq_true, Bool.or_eq_true, Bool.and_eq_false_iff, Bool.or_eq_false_iff, Bool.not_true, Bool.not_false] at h6
            refine s_exit_to rfl ?_
            refine s_seq ?_
            refine s_region ?_
            refine o_p (p_pure rfl) rfl ?_
            refine o_nil ?_
            exact s_retv (rs := [.tmp 10]) rfl (.tmp rfl (.nil)) (fun w' h' => ⟨by rw [mayR, if_pos hz1, mayT, hfe]; simp only [if_true]; rw [if_pos hrg, nth_pls hi, LFil.pl, nth_plo hk]; skip; rw [if_pos hyes2, if_neg (by rw [mayB_no (fun n9 h9 m9 h8 => by rw [List.length_map] at h9; rw [nth_plo h9] at h8 ⊢; exact hn2 n9 (by omega) m9 h8)]; decide)]; rfl, h'.below⟩)

end Go.Proofs
