/- Contracts of the program's functions, proved by walking them with the rules of the Gx texts; without conditions beyond those that each contract names. -/
import Derived.Test.YtaffndpaehiafaaC07S
namespace Go.Proofs
open Go Go.RowKit Gx
set_option linter.unusedVariables false
set_option linter.unusedSimpArgs false
attribute [local irreducible] Go.Calls Gx.S Gx.O Gx.D Gx.OpP Gx.OpQ Gx.OpH

theorem fn_47 : isFn Try.prog 47 = true := by kernel_rfl
theorem fn_42 : isFn Try.prog 42 = true := by kernel_rfl
theorem fn_89 : isFn Try.prog 89 = true := by kernel_rfl
theorem fn_93 : isFn Try.prog 93 = true := by kernel_rfl
theorem fn_72 : isFn Try.prog 72 = true := by kernel_rfl
theorem fn_71 : isFn Try.prog 71 = true := by kernel_rfl


set_option maxRecDepth 20000 in
theorem c30 (w : World) (a b : Option Addr) (cap cap2 : Nat) (fs gs : Fds) (nc nd : Int) (st su : List UInt8) (hs : Fl w a fs) (ht : Fl w b gs) (hm : fs.length ≤ 1000) : Calls Try.prog 30 #[.agg #[.slice a fs.length cap, .int .i64 nc, .string (bs st)], .agg #[.slice b gs.length cap2, .int .i64 nd, .string (bs su)]] w fun en w' => en = .returned (.bool (decide (fs = gs) && decide (nc = nd) && decide (st = su))) ∧ Below w.heap.size w w' := by
  refine enter (args := [_, _]) Try.func30 Try.ntmps30 rfl rfl (HS.refl w []) ?_
  refine s_seq ?_
  refine s_region ?_
  refine o_h (h_box rfl rfl) rfl (fun b1 _ => ?_)
  refine o_h (h_box rfl rfl) rfl (fun b2 _ => ?_)
  refine o_p (p_pure rfl) rfl ?_
  refine o_nil ?_
  refine s_seq ?_
  refine s_region ?_
  refine o_p (p_fieldAddr rfl rfl fd_43_0 sz_41 rfl) rfl ?_
  refine o_q (q_load rfl rfl sz_41 (by repeat (first | exact .here | apply Pick.there)) rfl) rfl ?_
  refine o_p (p_fieldAddr rfl rfl fd_43_0 sz_41 rfl) rfl ?_
  refine o_q (q_load rfl rfl sz_41 (by repeat (first | exact .here | apply Pick.there)) rfl) rfl ?_
  refine o_q (q_call rfl fn_47 rfl (fun w1 h1 => c47 w1 a b cap cap2 fs gs (hs.later h1) (ht.later h1) hm)) rfl ?_
  refine o_p (p_pure rfl) rfl ?_
  refine o_and 6 10 16 _ _ rfl
    (by
      intro hg3
      have hs4 := hg3; try simp only [decide_eq_true_eq, decide_eq_false_iff_not, Bool.not_eq_true', Bool.not_eq_false', Bool.and_eq_true, Bool.or_eq_true, Bool.and_eq_false_iff, Bool.or_eq_false_iff, Bool.not_true, Bool.not_false] at hs4
      refine o_on 10 _ rfl rfl hg3 ?_
      refine o_p (p_fieldAddr rfl rfl fd_43_1 sz_3 rfl) rfl ?_
      refine o_on 10 _ rfl rfl hg3 ?_
      refine o_q (q_load rfl rfl sz_3 (by repeat (first | exact .here | apply Pick.there)) rfl) rfl ?_
      refine o_on 10 _ rfl rfl hg3 ?_
      refine o_p (p_fieldAddr rfl rfl fd_43_1 sz_3 rfl) rfl ?_
      refine o_on 10 _ rfl rfl hg3 ?_
      refine o_q (q_load rfl rfl sz_3 (by repeat (first | exact .here | apply Pick.there)) rfl) rfl ?_
      refine o_on 10 _ rfl rfl hg3 ?_
      refine o_p (p_pure rfl) rfl ?_
      refine o_p (p_pickt rfl rfl hg3 rfl) rfl ?_
      refine o_nil ?_
      exact s_join () (by repeat (first | exact sl_n | refine sl_c rfl ?_)) (fun w h => by first | exact h | exact h.ent (by repeat (first | exact .nil | refine .cons (by repeat (first | exact .here | apply Pick.there)) ?_))))
    (by
      intro hg5
      have hs6 := hg5; try simp only [decide_eq_true_eq, decide_eq_false_iff_not, Bool.not_eq_true', Bool.not_eq_false', Bool.and_eq_true, Bool.or_eq_true, Bool.and_eq_false_iff, Bool.or_eq_false_iff, Bool.not_true, Bool.not_false] at hs6
      refine o_off 10 _ rfl rfl hg5 rfl ?_
      refine o_off 10 _ rfl rfl hg5 rfl ?_
      refine o_off 10 _ rfl rfl hg5 rfl ?_
      refine o_off 10 _ rfl rfl hg5 rfl ?_
      refine o_off 10 _ rfl rfl hg5 rfl ?_
      refine o_p (p_pickf rfl rfl hg5 rfl) rfl ?_
      refine o_nil ?_
      exact s_join () (by repeat (first | exact sl_n | refine sl_c rfl ?_)) (fun w h => by first | exact h | exact h.ent (by repeat (first | exact .nil | refine .cons (by repeat (first | exact .here | apply Pick.there)) ?_)))) ?_
  refine o_p (p_pure rfl) rfl ?_
  refine o_and 6 17 23 _ _ rfl
    (by
      intro hg7
      have hs8 := hg7; try simp only [decide_eq_true_eq, decide_eq_false_iff_not, Bool.not_eq_true', Bool.not_eq_false', Bool.and_eq_true, Bool.or_eq_true, Bool.and_eq_false_iff, Bool.or_eq_false_iff, Bool.not_true, Bool.not_false] at hs8
      refine o_on 17 _ rfl rfl hg7 ?_
      refine o_p (p_fieldAddr rfl rfl fd_43_2 sz_9 rfl) rfl ?_
      refine o_on 17 _ rfl rfl hg7 ?_
      refine o_q (q_load rfl rfl sz_9 (by repeat (first | exact .here | apply Pick.there)) rfl) rfl ?_
      refine o_on 17 _ rfl rfl hg7 ?_
      refine o_p (p_fieldAddr rfl rfl fd_43_2 sz_9 rfl) rfl ?_
      refine o_on 17 _ rfl rfl hg7 ?_
      refine o_q (q_load rfl rfl sz_9 (by repeat (first | exact .here | apply Pick.there)) rfl) rfl ?_
      refine o_on 17 _ rfl rfl hg7 ?_
      refine o_p (p_pure rfl) rfl ?_
      refine o_p (p_pickt rfl rfl hg7 rfl) rfl ?_
      refine o_nil ?_
      exact s_join () (by repeat (first | exact sl_n | refine sl_c rfl ?_)) (fun w h => by first | exact h | exact h.ent (by repeat (first | exact .nil | refine .cons (by repeat (first | exact .here | apply Pick.there)) ?_))))
    (by
      intro hg9
      have hs10 := hg9; try simp only [decide_eq_true_eq, decide_eq_false_iff_not, Bool.not_eq_true', Bool.not_eq_false', Bool.and_eq_true, Bool.or_eq_true, Bool.and_eq_false_iff, Bool.or_eq_false_iff, Bool.not_true, Bool.not_false] at hs10
      refine o_off 17 _ rfl rfl hg9 rfl ?_
      refine o_off 17 _ rfl rfl hg9 rfl ?_
      refine o_off 17 _ rfl rfl hg9 rfl ?_
      refine o_off 17 _ rfl rfl hg9 rfl ?_
      refine o_off 17 _ rfl rfl hg9 rfl ?_
      refine o_p (p_pickf rfl rfl hg9 rfl) rfl ?_
      refine o_nil ?_
      exact s_join () (by repeat (first | exact sl_n | refine sl_c rfl ?_)) (fun w h => by first | exact h | exact h.ent (by repeat (first | exact .nil | refine .cons (by repeat (first | exact .here | apply Pick.there)) ?_)))) ?_
  refine o_p (p_pure rfl) rfl ?_
  refine o_nil ?_
  exact s_retv (rs := [.tmp 4]) rfl (.tmp rfl (.nil)) (fun w' h' => ⟨rfl, h'.below⟩)

theorem chk_at {fs : Fds} {k : Nat} {e : Int} (h : eachL (fdEs fs) 0 = eachL ((fdEs fs).drop k) k) (hk : k < fs.length) (he : fdE fs k = e) (h0 : e ≠ 0) (hp : ¬ fs.length = 0) (h8 : fs.length ≤ 8) : chkF fs = ((k : Int), e) := by
  unfold chkF
  rw [if_neg hp, if_pos h8, h, eachL_drop (by rw [fdEs_length]; exact hk), fdEs_getD hk, he, if_neg h0]
theorem chk_next {fs : Fds} {k : Nat} (h : eachL (fdEs fs) 0 = eachL ((fdEs fs).drop k) k) (hk : k < fs.length) (he : fdE fs k = 0) : eachL (fdEs fs) 0 = eachL ((fdEs fs).drop (k + 1)) (k + 1) := by
  rw [h, eachL_drop (by rw [fdEs_length]; exact hk), fdEs_getD hk, he, if_pos rfl]
theorem fdE_2 {fs : Fds} {k : Nat} (h : ¬ (10 ≤ (fd fs k).1 ∧ (fd fs k).1 ≤ 999)) : fdE fs k = 2 := by unfold fdE fieldE; rw [if_neg h]
theorem fdE_9 {fs : Fds} {k : Nat} (h : 10 ≤ (fd fs k).1 ∧ (fd fs k).1 ≤ 999) (h1 : ¬ (k = 0 ∨ (fd fs (k - 1)).1 < (fd fs k).1)) : fdE fs k = 9 := by unfold fdE fieldE; rw [if_pos h, if_neg h1]
theorem fdE_10 {fs : Fds} {k : Nat} (h : 10 ≤ (fd fs k).1 ∧ (fd fs k).1 ≤ 999) (h1 : k = 0 ∨ (fd fs (k - 1)).1 < (fd fs k).1) (h2 : ¬ (fd fs k).2.length = 10) : fdE fs k = 10 := by unfold fdE fieldE; rw [if_pos h, if_pos h1, if_neg h2]
theorem fdE_0 {fs : Fds} {k : Nat} (h : 10 ≤ (fd fs k).1 ∧ (fd fs k).1 ≤ 999) (h1 : k = 0 ∨ (fd fs (k - 1)).1 < (fd fs k).1) (h2 : (fd fs k).2.length = 10) : fdE fs k = 0 := by unfold fdE fieldE; rw [if_pos h, if_pos h1, if_pos h2]

set_option maxRecDepth 20000 in
theorem c42 (w : World) (a : Option Addr) (cap : Nat) (fs : Fds) (hs : Fl w a fs) (hm : fs.length ≤ 1000) : Calls Try.prog 42 #[.slice a fs.length cap] w fun en w' => en = .returned (.tuple #[.int .i64 (chkF fs).1, .int .i64 (chkF fs).2]) ∧ Below w.heap.size w w' := by
  refine enter (args := [_]) Try.func42 Try.ntmps42 rfl rfl (HS.refl w []) ?_
  refine s_seq ?_
  refine s_region ?_
  refine o_p (p_pure rfl) rfl ?_
  refine o_p (p_pure rfl) rfl ?_
  refine o_nil ?_
  refine s_seq ?_
  refine s_seq ?_
  refine s_region ?_
  refine o_p (p_pure rfl) rfl ?_
  first | refine o_p (p_len_slice rfl rfl Try.underlying41) rfl ?_ | refine o_q (q_len_own rfl rfl Try.underlying41 (by repeat (first | exact .here | apply Pick.there))) rfl ?_
  refine o_p (p_pure rfl) rfl ?_
  refine o_nil ?_
  refine s_cond rfl (fun h1 => ?_) (fun h1 => ?_)
  · try simp only [decide_eq_true_eq, decide_eq_false_iff_not, Bool.not_eq_true', Bool.not_eq_false', Bool.and_eq_true, Bool.or_eq_true, Bool.and_eq_false_iff, Bool.or_eq_false_iff, Bool.not_true, Bool.not_false] at h1
    refine s_seq ?_
    refine s_region ?_
    refine o_p (p_pure rfl) rfl ?_
    refine o_p (p_pure rfl) rfl ?_
    refine o_nil ?_
    exact s_retv (rs := [.tmp 2, .tmp 3]) rfl (.tmp rfl (.tmp rfl (.nil))) (fun w' h' => ⟨by unfold chkF; rw [if_pos (by omega)]; rfl, h'.below⟩)
  · try simp only [decide_eq_true_eq, decide_eq_false_iff_not, Bool.not_eq_true', Bool.not_eq_false', Bool.and_eq_true, Bool.or_eq_true, Bool.and_eq_false_iff, Bool.or_eq_false_iff, Bool.not_true, Bool.not_false] at h1
    refine s_skip ?_
    refine s_seq ?_
    refine s_seq ?_
    refine s_region ?_
    refine o_p (p_pure rfl) rfl ?_
    first | refine o_p (p_len_slice rfl rfl Try.underlying41) rfl ?_ | refine o_q (q_len_own rfl rfl Try.underlying41 (by repeat (first | exact .here | apply Pick.there))) rfl ?_
    refine o_p (p_pure rfl) rfl ?_
    refine o_nil ?_
    refine s_cond rfl (fun h2 => ?_) (fun h2 => ?_)
    · try simp only [decide_eq_true_eq, decide_eq_false_iff_not, Bool.not_eq_true', Bool.not_eq_false', Bool.and_eq_true, Bool.or_eq_true, Bool.and_eq_false_iff, Bool.or_eq_false_iff, Bool.not_true, Bool.not_false] at h2
      refine s_seq ?_
      refine s_region ?_
      refine o_p (p_pure rfl) rfl ?_
      refine o_p (p_pure rfl) rfl ?_
      refine o_nil ?_
      exact s_retv (rs := [.tmp 2, .tmp 3]) rfl (.tmp rfl (.tmp rfl (.nil))) (fun w' h' => ⟨by unfold chkF; rw [if_neg (by omega), if_neg (by omega)]; rfl, h'.below⟩)
    · try simp only [decide_eq_true_eq, decide_eq_false_iff_not, Bool.not_eq_true', Bool.not_eq_false', Bool.and_eq_true, Bool.or_eq_true, Bool.and_eq_false_iff, Bool.or_eq_false_iff, Bool.not_true, Bool.not_false] at h2
      refine s_skip ?_
      refine s_seq ?_
      refine s_seq ?_
      refine s_region ?_
      refine o_p (p_pure rfl) rfl ?_
      refine o_nil ?_
      refine s_block ?_
      refine s_loopI (α := Nat) [2, 3, 4, 11, 12, 13, 14, 15, 16, 17, 18, 19, 20, 21, 22, 23, 24, 25, 26, 27, 28, 29, 30, 31, 32, 33, 34, 35, 36, 37, 38, 39, 40, 41, 42, 43, 44, 45, 46, 47, 48, 49] (fun k => [(4, .int .i64 (k : Int))]) (fun _ => _) (fun k => k ≤ fs.length ∧ eachL (fdEs fs) 0 = eachL ((fdEs fs).drop k) k) (fun k => fs.length - k) 0 ⟨by omega, rfl⟩ (by repeat (first | exact sl_n | refine sl_c rfl ?_)) (fun w h => h) (fun k hk => ?_)
      obtain ⟨hk1, hk2⟩ := hk
      refine s_seq ?_
      refine s_seq ?_
      refine s_region ?_
      refine o_p (p_pure rfl) rfl ?_
      refine o_p (p_pure rfl) rfl ?_
      first | refine o_p (p_len_slice rfl rfl Try.underlying41) rfl ?_ | refine o_q (q_len_own rfl rfl Try.underlying41 (by repeat (first | exact .here | apply Pick.there))) rfl ?_
      refine o_p (p_pure rfl) rfl ?_
      refine o_nil ?_
      refine s_cond rfl (fun h3 => ?_) (fun h3 => ?_)
      · try simp only [decide_eq_true_eq, decide_eq_false_iff_not, Bool.not_eq_true', Bool.not_eq_false', Bool.and_eq_true, Bool.or_eq_true, Bool.and_eq_false_iff, Bool.or_eq_false_iff, Bool.not_true, Bool.not_false] at h3
        refine s_skip ?_
        refine s_seq ?_
        refine s_block ?_
        refine s_seq ?_
        refine s_seq ?_
        refine s_region ?_
        refine o_p (p_pure rfl) rfl ?_
        refine o_p (p_pure rfl) rfl ?_
        first | refine o_p (p_indexAddr rfl rfl rfl sl_41 (k) (by omega) (by omega) rfl) rfl ?_ | refine o_p (p_indexAddr rfl rfl rfl sl_41 (k) (by omega) (by omega) (Sl.some hs (by omega))) rfl ?_
        refine o_p (p_fieldAddr rfl rfl fd_96_0 sz_3 rfl) rfl ?_
        first | refine o_q (q_load rfl rfl sz_3 (by repeat (first | exact .here | apply Pick.there)) rfl) rfl ?_ | refine o_q (q_load_old rfl rfl sz_3 (hs.rd0 (i := k) (by omega))) rfl ?_ | refine o_q (q_load_old rfl rfl sz_3 (hs.rd0 (i := k - 1) (by omega))) rfl ?_ | refine o_q (q_load_old rfl rfl sz_3 (hs.rd1 (i := k) (by omega))) rfl ?_
        refine o_q (q_call rfl fn_63 rfl (fun w1 h1 => c63 w1 _)) rfl ?_
        refine o_p (p_pure rfl) rfl ?_
        refine o_nil ?_
        refine s_cond rfl (fun h4 => ?_) (fun h4 => ?_)
        · try simp only [decide_eq_true_eq, decide_eq_false_iff_not, Bool.not_eq_true', Bool.not_eq_false', Bool.and_eq_true, Bool.or_eq_true, Bool.and_eq_false_iff, Bool.or_eq_false_iff, Bool.not_true, Bool.not_false] at h4
          refine s_seq ?_
          refine s_region ?_
          refine o_p (p_pure rfl) rfl ?_
          refine o_p (p_pure rfl) rfl ?_
          refine o_p (p_pure rfl) rfl ?_
          refine o_nil ?_
          exact s_retv (rs := [.tmp 2, .tmp 3]) rfl (.tmp rfl (.tmp rfl (.nil))) (fun w' h' => ⟨by rw [chk_at hk2 (by omega) (fdE_2 (by omega)) (by decide) (by omega) (by omega)]; rfl, h'.below⟩)
        · try simp only [decide_eq_true_eq, decide_eq_false_iff_not, Bool.not_eq_true', Bool.not_eq_false', Bool.and_eq_true, Bool.or_eq_true, Bool.and_eq_false_iff, Bool.or_eq_false_iff, Bool.not_true, Bool.not_false] at h4
          refine s_skip ?_
          refine s_seq ?_
          refine s_seq ?_
          refine s_cutI (α := Unit) [25, 26, 27, 28, 29, 30, 31, 32, 33, 34, 35, 36, 37, 38, 39, 40] (fun _ => [(40, .bool (decide (0 < k) && decide ((fd fs k).1 ≤ (fd fs (k - 1)).1)))]) (fun _ => HS w [] []) (fun _ => True) ?_ ?_
          · skip
            refine s_draw [] mixed ?_
            refine d_p 0 rfl (p_pure rfl) (by kernel_rfl) rfl rfl ?_
            refine d_p 1 rfl (p_pure rfl) (by kernel_rfl) rfl rfl ?_
            refine d_p 2 rfl (p_pure rfl) (by kernel_rfl) rfl rfl ?_
            apply d_split 27
            · exact rfl
            · intro hg5
              have hs6 := hg5; try simp only [decide_eq_true_eq, decide_eq_false_iff_not, Bool.not_eq_true', Bool.not_eq_false', Bool.and_eq_true, Bool.or_eq_true, Bool.and_eq_false_iff, Bool.or_eq_false_iff, Bool.not_true, Bool.not_false] at hs6
              refine d_pon 3 27 rfl rfl rfl hg5 (p_pure rfl) (by kernel_rfl) rfl rfl ?_
              refine d_pon 4 27 rfl rfl rfl hg5 (p_pure rfl) (by kernel_rfl) rfl rfl ?_
              first | refine d_pon 5 27 rfl rfl rfl hg5 (p_indexAddr rfl rfl rfl sl_41 (k) (by omega) (by omega) rfl) (by kernel_rfl) rfl rfl ?_ | refine d_pon 5 27 rfl rfl rfl hg5 (p_indexAddr rfl rfl rfl sl_41 (k) (by omega) (by omega) (Sl.some hs (by omega))) (by kernel_rfl) rfl rfl ?_
              refine d_pon 6 27 rfl rfl rfl hg5 (p_fieldAddr rfl rfl fd_96_0 sz_3 rfl) (by kernel_rfl) rfl rfl ?_
              first | refine d_qon 7 27 [] rfl rfl rfl hg5 (q_load rfl rfl sz_3 (by repeat (first | exact .here | apply Pick.there)) rfl) (by kernel_rfl) (by kernel_rfl) (by kernel_rfl) rfl ?_ | refine d_qon 7 27 [] rfl rfl rfl hg5 (q_load_old rfl rfl sz_3 (hs.rd0 (i := k) (by omega))) (by kernel_rfl) (by kernel_rfl) (by kernel_rfl) rfl ?_ | refine d_qon 7 27 [] rfl rfl rfl hg5 (q_load_old rfl rfl sz_3 (hs.rd0 (i := k - 1) (by omega))) (by kernel_rfl) (by kernel_rfl) (by kernel_rfl) rfl ?_ | refine d_qon 7 27 [] rfl rfl rfl hg5 (q_load_old rfl rfl sz_3 (hs.rd1 (i := k) (by omega))) (by kernel_rfl) (by kernel_rfl) (by kernel_rfl) rfl ?_
              refine d_pon 8 27 rfl rfl rfl hg5 (p_pure rfl) (by kernel_rfl) rfl rfl ?_
              refine d_pon 9 27 rfl rfl rfl hg5 (p_pure rfl) (by kernel_rfl) rfl rfl ?_
              refine d_pon 10 27 rfl rfl rfl hg5 (p_pure rfl) (by kernel_rfl) rfl rfl ?_
              try (refine d_slot (i64w (by omega) (by omega)) ?_)
              first | refine d_pon 11 27 rfl rfl rfl hg5 (p_indexAddr rfl rfl rfl sl_41 (k - 1) (by omega) (by omega) rfl) (by kernel_rfl) rfl rfl ?_ | refine d_pon 11 27 rfl rfl rfl hg5 (p_indexAddr rfl rfl rfl sl_41 (k - 1) (by omega) (by omega) (Sl.some hs (by omega))) (by kernel_rfl) rfl rfl ?_
              refine d_pon 12 27 rfl rfl rfl hg5 (p_fieldAddr rfl rfl fd_96_0 sz_3 rfl) (by kernel_rfl) rfl rfl ?_
              first | refine d_qon 13 27 [] rfl rfl rfl hg5 (q_load rfl rfl sz_3 (by repeat (first | exact .here | apply Pick.there)) rfl) (by kernel_rfl) (by kernel_rfl) (by kernel_rfl) rfl ?_ | refine d_qon 13 27 [] rfl rfl rfl hg5 (q_load_old rfl rfl sz_3 (hs.rd0 (i := k) (by omega))) (by kernel_rfl) (by kernel_rfl) (by kernel_rfl) rfl ?_ | refine d_qon 13 27 [] rfl rfl rfl hg5 (q_load_old rfl rfl sz_3 (hs.rd0 (i := k - 1) (by omega))) (by kernel_rfl) (by kernel_rfl) (by kernel_rfl) rfl ?_ | refine d_qon 13 27 [] rfl rfl rfl hg5 (q_load_old rfl rfl sz_3 (hs.rd1 (i := k) (by omega))) (by kernel_rfl) (by kernel_rfl) (by kernel_rfl) rfl ?_
              refine d_pon 14 27 rfl rfl rfl hg5 (p_pure rfl) (by kernel_rfl) rfl rfl ?_
              refine d_p 15 rfl (p_pickt rfl rfl hg5 rfl) (by kernel_rfl) rfl rfl ?_
              refine d_nil (by kernel_rfl) (fun w h => h.ent (by repeat (first | exact .nil | refine .cons (by repeat (first | exact .here | apply Pick.there)) ?_))) ?_
              exact s_joinI () trivial (sl_c (congrArg (fun e => some (Value.bool e)) (by have h9 := hg5; simp at h9; simp [h9])) (by repeat (first | exact sl_n | refine sl_c rfl ?_))) (fun w h => h.ent (by repeat (first | exact .nil | refine .cons (by repeat (first | exact .here | apply Pick.there)) ?_)))
            · intro hg7
              have hs8 := hg7; try simp only [decide_eq_true_eq, decide_eq_false_iff_not, Bool.not_eq_true', Bool.not_eq_false', Bool.and_eq_true, Bool.or_eq_true, Bool.and_eq_false_iff, Bool.or_eq_false_iff, Bool.not_true, Bool.not_false] at hs8
              refine d_off 3 27 rfl rfl rfl hg7 (by kernel_rfl) rfl rfl ?_
              refine d_off 4 27 rfl rfl rfl hg7 (by kernel_rfl) rfl rfl ?_
              refine d_off 5 27 rfl rfl rfl hg7 (by kernel_rfl) rfl rfl ?_
              refine d_off 6 27 rfl rfl rfl hg7 (by kernel_rfl) rfl rfl ?_
              refine d_off 7 27 rfl rfl rfl hg7 (by kernel_rfl) rfl rfl ?_
              refine d_off 8 27 rfl rfl rfl hg7 (by kernel_rfl) rfl rfl ?_
              refine d_off 9 27 rfl rfl rfl hg7 (by kernel_rfl) rfl rfl ?_
              refine d_off 10 27 rfl rfl rfl hg7 (by kernel_rfl) rfl rfl ?_
              refine d_off 11 27 rfl rfl rfl hg7 (by kernel_rfl) rfl rfl ?_
              refine d_off 12 27 rfl rfl rfl hg7 (by kernel_rfl) rfl rfl ?_
              refine d_off 13 27 rfl rfl rfl hg7 (by kernel_rfl) rfl rfl ?_
              refine d_off 14 27 rfl rfl rfl hg7 (by kernel_rfl) rfl rfl ?_
              refine d_p 15 rfl (p_pickf rfl rfl hg7 rfl) (by kernel_rfl) rfl rfl ?_
              refine d_nil (by kernel_rfl) (fun w h => h.ent (by repeat (first | exact .nil | refine .cons (by repeat (first | exact .here | apply Pick.there)) ?_))) ?_
              exact s_joinI () trivial (sl_c (congrArg (fun e => some (Value.bool e)) (by have h9 := hg7; simp at h9; simp [h9])) (by repeat (first | exact sl_n | refine sl_c rfl ?_))) (fun w h => h.ent (by repeat (first | exact .nil | refine .cons (by repeat (first | exact .here | apply Pick.there)) ?_)))
          · intro _ _
            refine s_cond rfl (fun h9 => ?_) (fun h9 => ?_)
            · try simp only [decide_eq_true_eq, decide_eq_false_iff_not, Bool.not_eq_true', Bool.not_eq_false', Bool.and_eq_true, Bool.or_eq_true, Bool.and_eq_false_iff, Bool.or_eq_false_iff, Bool.not_true, Bool.not_false] at h9
              refine s_seq ?_
              refine s_region ?_
              refine o_p (p_pure rfl) rfl ?_
              refine o_p (p_pure rfl) rfl ?_
              refine o_p (p_pure rfl) rfl ?_
              refine o_nil ?_
              exact s_retv (rs := [.tmp 2, .tmp 3]) rfl (.tmp rfl (.tmp rfl (.nil))) (fun w' h' => ⟨by rw [chk_at hk2 (by omega) (fdE_9 (by omega) (by omega)) (by decide) (by omega) (by omega)]; rfl, h'.below⟩)
            · try simp only [decide_eq_true_eq, decide_eq_false_iff_not, Bool.not_eq_true', Bool.not_eq_false', Bool.and_eq_true, Bool.or_eq_true, Bool.and_eq_false_iff, Bool.or_eq_false_iff, Bool.not_true, Bool.not_false] at h9
              refine s_skip ?_
              refine s_seq ?_
              refine s_region ?_
              refine o_p (p_pure rfl) rfl ?_
              refine o_p (p_pure rfl) rfl ?_
              first | refine o_p (p_indexAddr rfl rfl rfl sl_41 (k) (by omega) (by omega) rfl) rfl ?_ | refine o_p (p_indexAddr rfl rfl rfl sl_41 (k) (by omega) (by omega) (Sl.some hs (by omega))) rfl ?_
              refine o_p (p_fieldAddr rfl rfl fd_96_1 sz_9 rfl) rfl ?_
              first | refine o_q (q_load rfl rfl sz_9 (by repeat (first | exact .here | apply Pick.there)) rfl) rfl ?_ | refine o_q (q_load_old rfl rfl sz_9 (hs.rd0 (i := k) (by omega))) rfl ?_ | refine o_q (q_load_old rfl rfl sz_9 (hs.rd0 (i := k - 1) (by omega))) rfl ?_ | refine o_q (q_load_old rfl rfl sz_9 (hs.rd1 (i := k) (by omega))) rfl ?_
              refine o_p (p_len_str rfl rfl Try.underlying9) rfl ?_
              refine o_p (p_pure rfl) rfl ?_
              refine o_nil ?_
              refine s_cond rfl (fun h10 => ?_) (fun h10 => ?_)
              · try simp only [decide_eq_true_eq, decide_eq_false_iff_not, Bool.not_eq_true', Bool.not_eq_false', Bool.and_eq_true, Bool.or_eq_true, Bool.and_eq_false_iff, Bool.or_eq_false_iff, Bool.not_true, Bool.not_false] at h10
                refine s_seq ?_
                refine s_region ?_
                refine o_p (p_pure rfl) rfl ?_
                refine o_p (p_pure rfl) rfl ?_
                refine o_p (p_pure rfl) rfl ?_
                refine o_nil ?_
                exact s_retv (rs := [.tmp 2, .tmp 3]) rfl (.tmp rfl (.tmp rfl (.nil))) (fun w' h' => ⟨by rw [chk_at hk2 (by omega) (fdE_10 (by omega) (by omega) (by omega)) (by decide) (by omega) (by omega)]; rfl, h'.below⟩)
              · try simp only [decide_eq_true_eq, decide_eq_false_iff_not, Bool.not_eq_true', Bool.not_eq_false', Bool.and_eq_true, Bool.or_eq_true, Bool.and_eq_false_iff, Bool.or_eq_false_iff, Bool.not_true, Bool.not_false] at h10
                refine s_skip ?_
                refine s_blk ?_
                refine s_region ?_
                refine o_p (p_pure rfl) rfl ?_
                refine o_p (p_pure rfl) rfl ?_
                try (refine o_slot (i64w (by omega) (by omega)) ?_)
                refine o_p (p_pure rfl) rfl ?_
                refine o_nil ?_
                exact s_backI (k+1) (by omega) ⟨by omega, chk_next hk2 (by omega) (fdE_0 (by omega) (by omega) (by omega))⟩ (by repeat (first | exact sl_n | refine sl_c rfl ?_)) (fun w h => h)
      · try simp only [decide_eq_true_eq, decide_eq_false_iff_not, Bool.not_eq_true', Bool.not_eq_false', Bool.and_eq_true, Bool.or_eq_true, Bool.and_eq_false_iff, Bool.or_eq_false_iff, Bool.not_true, Bool.not_false] at h3
        refine s_exit_to rfl ?_
        refine s_seq ?_
        refine s_region ?_
        refine o_p (p_pure rfl) rfl ?_
        refine o_p (p_pure rfl) rfl ?_
        refine o_nil ?_
        exact s_retv (rs := [.tmp 2, .tmp 3]) rfl (.tmp rfl (.tmp rfl (.nil))) (fun w' h' => ⟨by unfold chkF; rw [if_neg (by omega), if_pos (by omega), hk2, eachL_end (by rw [fdEs_length]; omega)]; rfl, h'.below⟩)

set_option maxRecDepth 20000 in
theorem c93 (w : World) (a : Option Addr) (cap : Nat) (fs : Fds) (hs : Fl w a fs) (hm : fs.length ≤ 1000) : Calls Try.prog 93 #[.slice a fs.length cap] w fun en w' => en = .returned (.int .i64 (chkF fs).2) ∧ Below w.heap.size w w' := by
  refine enter (args := [_]) Try.func93 Try.ntmps93 rfl rfl (HS.refl w []) ?_
  refine s_seq ?_
  refine s_region ?_
  refine o_p (p_pure rfl) rfl ?_
  refine o_nil ?_
  refine s_seq ?_
  refine s_region ?_
  refine o_p (p_pure rfl) rfl ?_
  refine o_q (q_call rfl fn_42 rfl (fun w1 h1 => c42 w1 _ _ fs (hs.later h1) hm)) rfl ?_
  refine o_p (p_pure rfl) rfl ?_
  refine o_p (p_pure rfl) rfl ?_
  refine o_p (p_pure rfl) rfl ?_
  refine o_p (p_pure rfl) rfl ?_
  refine o_p (p_pure rfl) rfl ?_
  refine o_nil ?_
  refine s_seq ?_
  refine s_region ?_
  refine o_p (p_pure rfl) rfl ?_
  refine o_p (p_pure rfl) rfl ?_
  refine o_nil ?_
  exact s_retv (rs := [.tmp 2]) rfl (.tmp rfl (.nil)) (fun w' h' => ⟨rfl, h'.below⟩)

set_option maxRecDepth 20000 in
theorem c89 (w : World) (a : Option Addr) (cap : Nat) (fs : Fds) (u : Int) (hs : Fl w a fs) (hm : fs.length ≤ 1000) : Calls Try.prog 89 #[.slice a fs.length cap, .int .i64 u] w fun en w' => en = .returned (.int .i64 (atR fs u)) ∧ Below w.heap.size w w' := by
  refine enter (args := [_, _]) Try.func89 Try.ntmps89 rfl rfl (HS.refl w []) ?_
  refine s_seq ?_
  refine s_region ?_
  refine o_p (p_pure rfl) rfl ?_
  refine o_nil ?_
  refine s_seq ?_
  refine s_seq ?_
  refine s_region ?_
  refine o_p (p_pure rfl) rfl ?_
  refine o_nil ?_
  refine s_block ?_
  refine s_loopI (α := Nat) [4, 5, 6, 7, 8, 9, 10, 11, 12, 13, 14, 15, 16, 17, 18, 19] (fun k => [(5, .int .i64 (k : Int))]) (fun _ => _) (fun k => k ≤ fs.length ∧ ∀ i, i < k → (fd fs i).1 ≠ u) (fun k => fs.length - k) 0 ⟨by omega, fun i h => absurd h (Nat.not_lt_zero i)⟩ (by repeat (first | exact sl_n | refine sl_c rfl ?_)) (fun w h => h) (fun k hk => ?_)
  obtain ⟨hk1, hk2⟩ := hk
  refine s_seq ?_
  refine s_seq ?_
  refine s_region ?_
  refine o_p (p_pure rfl) rfl ?_
  refine o_p (p_pure rfl) rfl ?_
  first | refine o_p (p_len_slice rfl rfl Try.underlying41) rfl ?_ | refine o_q (q_len_own rfl rfl Try.underlying41 (by repeat (first | exact .here | apply Pick.there))) rfl ?_
  refine o_p (p_pure rfl) rfl ?_
  refine o_nil ?_
  refine s_cond rfl (fun h1 => ?_) (fun h1 => ?_)
  · try simp only [decide_eq_true_eq, decide_eq_false_iff_not, Bool.not_eq_true', Bool.not_eq_false', Bool.and_eq_true, Bool.or_eq_true, Bool.and_eq_false_iff, Bool.or_eq_false_iff, Bool.not_true, Bool.not_false] at h1
    refine s_skip ?_
    refine s_seq ?_
    refine s_block ?_
    refine s_seq ?_
    refine s_region ?_
    refine o_p (p_pure rfl) rfl ?_
    refine o_p (p_pure rfl) rfl ?_
    first | refine o_p (p_indexAddr rfl rfl rfl sl_41 (k) (by omega) (by omega) rfl) rfl ?_ | refine o_p (p_indexAddr rfl rfl rfl sl_41 (k) (by omega) (by omega) (Sl.some hs (by omega))) rfl ?_
    refine o_p (p_fieldAddr rfl rfl fd_96_0 sz_3 rfl) rfl ?_
    first | refine o_q (q_load rfl rfl sz_3 (by repeat (first | exact .here | apply Pick.there)) rfl) rfl ?_ | refine o_q (q_load_old rfl rfl sz_3 (hs.rd0 (i := k) (by omega))) rfl ?_
    refine o_p (p_pure rfl) rfl ?_
    refine o_p (p_pure rfl) rfl ?_
    refine o_nil ?_
    refine s_cond rfl (fun h2 => ?_) (fun h2 => ?_)
    · try simp only [decide_eq_true_eq, decide_eq_false_iff_not, Bool.not_eq_true', Bool.not_eq_false', Bool.and_eq_true, Bool.or_eq_true, Bool.and_eq_false_iff, Bool.or_eq_false_iff, Bool.not_true, Bool.not_false] at h2
      refine s_seq ?_
      refine s_region ?_
      refine o_p (p_pure rfl) rfl ?_
      refine o_p (p_pure rfl) rfl ?_
      refine o_nil ?_
      exact s_retv (rs := [.tmp 4]) rfl (.tmp rfl (.nil)) (fun w' h' => ⟨by have e := idF_eq (fs := fs) (u := u) (k := k) hk1 hk2 (fun _ => by assumption); simp only [retV, atR, e]; rw [if_pos (by omega)], h'.below⟩)
    · try simp only [decide_eq_true_eq, decide_eq_false_iff_not, Bool.not_eq_true', Bool.not_eq_false', Bool.and_eq_true, Bool.or_eq_true, Bool.and_eq_false_iff, Bool.or_eq_false_iff, Bool.not_true, Bool.not_false] at h2
      refine s_skip ?_
      refine s_blk ?_
      refine s_region ?_
      refine o_p (p_pure rfl) rfl ?_
      refine o_p (p_pure rfl) rfl ?_
      try (refine o_slot (i64w (by omega) (by omega)) ?_)
      refine o_p (p_pure rfl) rfl ?_
      refine o_nil ?_
      exact s_backI (k+1) (by omega) ⟨by omega, fun i hi => (Nat.lt_or_ge i k).elim (hk2 i) (fun h => by obtain rfl : i = k := (by omega); assumption)⟩ (by repeat (first | exact sl_n | refine sl_c rfl ?_)) (fun w h => h)
  · try simp only [decide_eq_true_eq, decide_eq_false_iff_not, Bool.not_eq_true', Bool.not_eq_false', Bool.and_eq_true, Bool.or_eq_true, Bool.and_eq_false_iff, Bool.or_eq_false_iff, Bool.not_true, Bool.not_false] at h1
    refine s_exit_to rfl ?_
    refine s_seq ?_
    refine s_region ?_
    refine o_p (p_pure rfl) rfl ?_
    refine o_nil ?_
    exact s_retv (rs := [.tmp 4]) rfl (.tmp rfl (.nil)) (fun w' h' => ⟨by have e := idF_eq (fs := fs) (u := u) (k := k) hk1 hk2 (fun h => by omega); simp only [retV, atR, e]; rw [if_neg (by omega)], h'.below⟩)

theorem atR_has {fs : Fds} {u : Int} (ok : FOk fs) (h : ¬ atR fs u < 0) : hasF fs u = true ∧ atR fs u = (lbF fs u : Int) ∧ lbF fs u < fs.length := by
  have h1 := idF_lb (u := u) ok
  unfold atR at *
  split at h
  · rename_i hl
    rw [if_pos hl, h1.2 hl]
    exact ⟨h1.1.2 hl, rfl, by rw [← h1.2 hl]; exact hl⟩
  · omega
theorem atR_no {fs : Fds} {u : Int} (ok : FOk fs) (h : atR fs u < 0) : ¬ hasF fs u = true := by
  have h1 := idF_lb (u := u) ok
  unfold atR at h
  split at h
  · omega
  · rename_i hl
    exact fun e => hl (h1.1.1 e)
def keyForE (fs : Fds) (u : Int) (own : List UInt8) : List UInt8 × Int := if (chkF fs).2 = 0 then if holdE u own = 0 then keyForT fs u own else ([], holdE u own) else ([], (chkF fs).2)

set_option maxRecDepth 20000 in
theorem c72 (w : World) (a : Option Addr) (cap : Nat) (fs : Fds) (u : Int) (own : List UInt8) (hs : Fl w a fs) (ok : FOk fs) (ho : holdE u own = 0) : Calls Try.prog 72 #[.slice a fs.length cap, .agg #[.int .i64 u, .string (bs own)]] w fun en w' => en = .returned (pairV (keyForT fs u own)) ∧ Below w.heap.size w w' := by
  have hm := ok.le
  refine enter (args := [_, _]) Try.func72 Try.ntmps72 rfl rfl (HS.refl w []) ?_
  refine s_seq ?_
  refine s_region ?_
  refine o_h (h_box rfl rfl) rfl (fun b1 _ => ?_)
  refine o_p (p_pure rfl) rfl ?_
  refine o_p (p_pure rfl) rfl ?_
  refine o_nil ?_
  refine s_seq ?_
  refine s_region ?_
  refine o_p (p_pure rfl) rfl ?_
  refine o_p (p_fieldAddr rfl rfl fd_31_0 sz_3 rfl) rfl ?_
  first | refine o_q (q_load rfl rfl sz_3 (by repeat (first | exact .here | apply Pick.there)) rfl) rfl ?_ | refine o_q (q_load_old rfl rfl sz_3 (hs.rd1 (i := lbF fs u) (by omega))) rfl ?_
  refine o_q (q_call rfl fn_89 rfl (fun w1 h1 => c89 w1 _ _ fs _ (hs.later h1) (by omega))) rfl ?_
  refine o_p (p_pure rfl) rfl ?_
  refine o_nil ?_
  refine s_seq ?_
  refine s_seq ?_
  refine s_region ?_
  refine o_p (p_pure rfl) rfl ?_
  refine o_p (p_pure rfl) rfl ?_
  refine o_nil ?_
  refine s_cond rfl (fun h2 => ?_) (fun h2 => ?_)
  · try simp only [decide_eq_true_eq, decide_eq_false_iff_not, Bool.not_eq_true', Bool.not_eq_false', Bool.and_eq_true, Bool.or_eq_true, Bool.and_eq_false_iff, Bool.or_eq_false_iff, Bool.not_true, Bool.not_false] at h2
    refine s_seq ?_
    refine s_region ?_
    refine o_p (p_pure rfl) rfl ?_
    refine o_p (p_pure rfl) rfl ?_
    refine o_nil ?_
    exact s_retv (rs := [.tmp 4, .tmp 5]) rfl (.tmp rfl (.tmp rfl (.nil))) (fun w' h' => ⟨by have hn := atR_no ok h2; simp only [keyForT]; rw [if_neg hn]; rfl, h'.below⟩)
  · try simp only [decide_eq_true_eq, decide_eq_false_iff_not, Bool.not_eq_true', Bool.not_eq_false', Bool.and_eq_true, Bool.or_eq_true, Bool.and_eq_false_iff, Bool.or_eq_false_iff, Bool.not_true, Bool.not_false] at h2
    obtain ⟨hh, hat, hl⟩ := atR_has ok h2
    have hun : unwrapE u own (fd fs (lbF fs u)).2 = unwrapT u own (fd fs (lbF fs u)).2 := by unfold unwrapE; rw [if_pos ho, if_pos (ok.len _ hl)]
    refine s_skip ?_
    refine s_seq ?_
    refine s_draw [] mixed ?_
    first | refine d_q 0 [] rfl (q_loadn rfl rfl sz_31 (by repeat (first | exact .here | apply Pick.there)) rfl) (by kernel_rfl) (by kernel_rfl) (by kernel_rfl) rfl ?_ | refine d_q 0 [] rfl (q_load_oldn _ rfl rfl sz_31 hs.rd1 (i := lbF fs u) (by omega)) (by kernel_rfl) (by kernel_rfl) (by kernel_rfl) rfl ?_
    refine d_p 1 rfl (p_pure rfl) (by kernel_rfl) rfl rfl ?_
    refine d_p 2 rfl (p_pure rfl) (by kernel_rfl) rfl rfl ?_
    first | refine d_p 3 rfl (p_indexAddr rfl rfl rfl sl_41 (lbF fs u) hat (by omega) rfl) (by kernel_rfl) rfl rfl ?_ | refine d_p 3 rfl (p_indexAddr rfl rfl rfl sl_41 (lbF fs u) hat (by omega) (Sl.some hs (by omega))) (by kernel_rfl) rfl rfl ?_
    refine d_p 4 rfl (p_fieldAddr rfl rfl fd_96_1 sz_9 rfl) (by kernel_rfl) rfl rfl ?_
    first | refine d_q 5 [] rfl (q_load rfl rfl sz_9 (by repeat (first | exact .here | apply Pick.there)) rfl) (by kernel_rfl) (by kernel_rfl) (by kernel_rfl) rfl ?_ | refine d_q 5 [] rfl (q_load_old rfl rfl sz_9 (hs.rd1 (i := lbF fs u) (by omega))) (by kernel_rfl) (by kernel_rfl) (by kernel_rfl) rfl ?_
    refine d_q 6 [] rfl (q_call rfl fn_22 rfl (fun w1 h1 => c22 w1 u own (fd fs (lbF fs u)).2)) (by kernel_rfl) (by kernel_rfl) (by kernel_rfl) rfl ?_
    refine d_p 7 rfl (p_pure rfl) (by kernel_rfl) rfl rfl ?_
    refine d_p 8 rfl (p_pure rfl) (by kernel_rfl) rfl rfl ?_
    refine d_p 9 rfl (p_pure rfl) (by kernel_rfl) rfl rfl ?_
    refine d_p 10 rfl (p_pure rfl) (by kernel_rfl) rfl rfl ?_
    refine d_nil (by kernel_rfl) (fun w h => h.ent (by repeat (first | exact .nil | refine .cons (by repeat (first | exact .here | apply Pick.there)) ?_))) ?_
    exact s_retv (rs := [.tmp 4, .tmp 5]) rfl (.tmp rfl (.tmp rfl (.nil))) (fun w' h' => ⟨by simp only [keyForT]; rw [if_pos hh, ← hun]; rfl, h'.below⟩)

set_option maxRecDepth 20000 in
theorem c44 (w : World) (a : Option Addr) (cap : Nat) (fs : Fds) (u : Int) (own : List UInt8) (hs : Fl w a fs) (hm : fs.length ≤ 1000) : Calls Try.prog 44 #[.slice a fs.length cap, .agg #[.int .i64 u, .string (bs own)]] w fun en w' => en = .returned (pairV (keyForE fs u own)) ∧ Below w.heap.size w w' := by
  refine enter (args := [_, _]) Try.func44 Try.ntmps44 rfl rfl (HS.refl w []) ?_
  refine s_seq ?_
  refine s_region ?_
  refine o_h (h_box rfl rfl) rfl (fun b1 _ => ?_)
  refine o_p (p_pure rfl) rfl ?_
  refine o_p (p_pure rfl) rfl ?_
  refine o_nil ?_
  refine s_seq ?_
  refine s_seq ?_
  refine s_region ?_
  refine o_p (p_pure rfl) rfl ?_
  refine o_q (q_call rfl fn_93 rfl (fun w1 h1 => c93 w1 _ _ fs (hs.later h1) hm)) rfl ?_
  refine o_p (p_pure rfl) rfl ?_
  refine o_nil ?_
  refine s_seq ?_
  refine s_region ?_
  refine o_p (p_pure rfl) rfl ?_
  refine o_p (p_pure rfl) rfl ?_
  refine o_nil ?_
  refine s_cond rfl (fun h2 => ?_) (fun h2 => ?_)
  · try simp only [decide_eq_true_eq, decide_eq_false_iff_not, Bool.not_eq_true', Bool.not_eq_false', Bool.and_eq_true, Bool.or_eq_true, Bool.and_eq_false_iff, Bool.or_eq_false_iff, Bool.not_true, Bool.not_false] at h2
    refine s_seq ?_
    refine s_region ?_
    refine o_p (p_pure rfl) rfl ?_
    refine o_p (p_pure rfl) rfl ?_
    refine o_p (p_pure rfl) rfl ?_
    refine o_nil ?_
    exact s_retv (rs := [.tmp 4, .tmp 5]) rfl (.tmp rfl (.tmp rfl (.nil))) (fun w' h' => ⟨by unfold keyForE; rw [if_neg h2]; rfl, h'.below⟩)
  · try simp only [decide_eq_true_eq, decide_eq_false_iff_not, Bool.not_eq_true', Bool.not_eq_false', Bool.and_eq_true, Bool.or_eq_true, Bool.and_eq_false_iff, Bool.or_eq_false_iff, Bool.not_true, Bool.not_false] at h2
    have r1 : (chkF fs).2 = 0 := by omega
    have ok := chkF_ok r1
    refine s_skip ?_
    refine s_seq ?_
    refine s_seq ?_
    refine s_region ?_
    refine o_q (q_loadn rfl rfl sz_31 (by repeat (first | exact .here | apply Pick.there)) rfl) rfl ?_
    refine o_q (q_call rfl fn_18 rfl (fun w1 h1 => c18 w1 _ _)) rfl ?_
    refine o_p (p_pure rfl) rfl ?_
    refine o_nil ?_
    refine s_seq ?_
    refine s_region ?_
    refine o_p (p_pure rfl) rfl ?_
    refine o_p (p_pure rfl) rfl ?_
    refine o_nil ?_
    refine s_cond rfl (fun h3 => ?_) (fun h3 => ?_)
    · try simp only [decide_eq_true_eq, decide_eq_false_iff_not, Bool.not_eq_true', Bool.not_eq_false', Bool.and_eq_true, Bool.or_eq_true, Bool.and_eq_false_iff, Bool.or_eq_false_iff, Bool.not_true, Bool.not_false] at h3
      refine s_seq ?_
      refine s_region ?_
      refine o_p (p_pure rfl) rfl ?_
      refine o_p (p_pure rfl) rfl ?_
      refine o_p (p_pure rfl) rfl ?_
      refine o_nil ?_
      exact s_retv (rs := [.tmp 4, .tmp 5]) rfl (.tmp rfl (.tmp rfl (.nil))) (fun w' h' => ⟨by unfold keyForE; rw [if_pos r1, if_neg h3]; rfl, h'.below⟩)
    · try simp only [decide_eq_true_eq, decide_eq_false_iff_not, Bool.not_eq_true', Bool.not_eq_false', Bool.and_eq_true, Bool.or_eq_true, Bool.and_eq_false_iff, Bool.or_eq_false_iff, Bool.not_true, Bool.not_false] at h3
      have r2 : holdE u own = 0 := by omega
      refine s_skip ?_
      refine s_seq ?_
      refine s_region ?_
      refine o_p (p_pure rfl) rfl ?_
      refine o_q (q_loadn rfl rfl sz_31 (by repeat (first | exact .here | apply Pick.there)) rfl) rfl ?_
      refine o_q (q_call rfl fn_72 rfl (fun w1 h1 => c72 w1 _ _ fs _ _ (hs.later h1) (by assumption) (by assumption))) rfl ?_
      refine o_p (p_pure rfl) rfl ?_
      refine o_p (p_pure rfl) rfl ?_
      refine o_p (p_pure rfl) rfl ?_
      refine o_p (p_pure rfl) rfl ?_
      refine o_nil ?_
      exact s_retv (rs := [.tmp 4, .tmp 5]) rfl (.tmp rfl (.tmp rfl (.nil))) (fun w' h' => ⟨by unfold keyForE; rw [if_pos r1, if_pos r2]; rfl, h'.below⟩)

set_option maxRecDepth 20000 in
theorem c71 (w : World) (a : Option Addr) (cap : Nat) (fs : Fds) (nc : Int) (st : List UInt8) (hs : Fl w a fs) (hm : fs.length ≤ 1000) (hst : st.length ≤ 9223372036854775807) : Calls Try.prog 71 #[.agg #[.slice a fs.length cap, .int .i64 nc, .string (bs st)]] w fun en w' => en = .returned (.int .i64 (fileE fs nc st.length)) ∧ Below w.heap.size w w' := by
  refine enter (args := [_]) Try.func71 Try.ntmps71 rfl rfl (HS.refl w []) ?_
  refine s_seq ?_
  refine s_region ?_
  refine o_h (h_box rfl rfl) rfl (fun b1 _ => ?_)
  refine o_p (p_pure rfl) rfl ?_
  refine o_nil ?_
  refine s_seq ?_
  refine s_seq ?_
  refine s_region ?_
  refine o_p (p_fieldAddr rfl rfl fd_43_0 sz_41 rfl) rfl ?_
  refine o_q (q_load rfl rfl sz_41 (by repeat (first | exact .here | apply Pick.there)) rfl) rfl ?_
  refine o_q (q_call rfl fn_93 rfl (fun w1 h1 => c93 w1 _ _ fs (hs.later h1) hm)) rfl ?_
  refine o_p (p_pure rfl) rfl ?_
  refine o_nil ?_
  refine s_seq ?_
  refine s_region ?_
  refine o_p (p_pure rfl) rfl ?_
  refine o_p (p_pure rfl) rfl ?_
  refine o_nil ?_
  refine s_cond rfl (fun h2 => ?_) (fun h2 => ?_)
  · try simp only [decide_eq_true_eq, decide_eq_false_iff_not, Bool.not_eq_true', Bool.not_eq_false', Bool.and_eq_true, Bool.or_eq_true, Bool.and_eq_false_iff, Bool.or_eq_false_iff, Bool.not_true, Bool.not_false] at h2
    refine s_seq ?_
    refine s_region ?_
    refine o_p (p_pure rfl) rfl ?_
    refine o_p (p_pure rfl) rfl ?_
    refine o_nil ?_
    exact s_retv (rs := [.tmp 2]) rfl (.tmp rfl (.nil)) (fun w' h' => ⟨by simp only [retV, fileE]; grind, h'.below⟩)
  · try simp only [decide_eq_true_eq, decide_eq_false_iff_not, Bool.not_eq_true', Bool.not_eq_false', Bool.and_eq_true, Bool.or_eq_true, Bool.and_eq_false_iff, Bool.or_eq_false_iff, Bool.not_true, Bool.not_false] at h2
    refine s_skip ?_
    refine s_seq ?_
    refine s_seq ?_
    refine s_region ?_
    refine o_p (p_fieldAddr rfl rfl fd_43_1 sz_3 rfl) rfl ?_
    refine o_q (q_load rfl rfl sz_3 (by repeat (first | exact .here | apply Pick.there)) rfl) rfl ?_
    refine o_q (q_call rfl fn_14 rfl (fun w1 h1 => c14 w1 _)) rfl ?_
    refine o_p (p_pure rfl) rfl ?_
    refine o_nil ?_
    refine s_cond rfl (fun h3 => ?_) (fun h3 => ?_)
    · try simp only [decide_eq_true_eq, decide_eq_false_iff_not, Bool.not_eq_true', Bool.not_eq_false', Bool.and_eq_true, Bool.or_eq_true, Bool.and_eq_false_iff, Bool.or_eq_false_iff, Bool.not_true, Bool.not_false] at h3
      refine s_seq ?_
      refine s_region ?_
      refine o_p (p_pure rfl) rfl ?_
      refine o_nil ?_
      exact s_retv (rs := [.tmp 2]) rfl (.tmp rfl (.nil)) (fun w' h' => ⟨by simp only [retV, fileE]; grind, h'.below⟩)
    · try simp only [decide_eq_true_eq, decide_eq_false_iff_not, Bool.not_eq_true', Bool.not_eq_false', Bool.and_eq_true, Bool.or_eq_true, Bool.and_eq_false_iff, Bool.or_eq_false_iff, Bool.not_true, Bool.not_false] at h3
      refine s_skip ?_
      refine s_seq ?_
      refine s_seq ?_
      refine s_region ?_
      refine o_p (p_fieldAddr rfl rfl fd_43_2 sz_9 rfl) rfl ?_
      refine o_q (q_load rfl rfl sz_9 (by repeat (first | exact .here | apply Pick.there)) rfl) rfl ?_
      refine o_p (p_len_str rfl rfl Try.underlying9) rfl ?_
      refine o_p (p_pure rfl) rfl ?_
      refine o_nil ?_
      refine s_cond rfl (fun h4 => ?_) (fun h4 => ?_)
      · try simp only [decide_eq_true_eq, decide_eq_false_iff_not, Bool.not_eq_true', Bool.not_eq_false', Bool.and_eq_true, Bool.or_eq_true, Bool.and_eq_false_iff, Bool.or_eq_false_iff, Bool.not_true, Bool.not_false] at h4
        refine s_seq ?_
        refine s_region ?_
        refine o_p (p_pure rfl) rfl ?_
        refine o_nil ?_
        exact s_retv (rs := [.tmp 2]) rfl (.tmp rfl (.nil)) (fun w' h' => ⟨by simp only [retV, fileE]; grind, h'.below⟩)
      · try simp only [decide_eq_true_eq, decide_eq_false_iff_not, Bool.not_eq_true', Bool.not_eq_false', Bool.and_eq_true, Bool.or_eq_true, Bool.and_eq_false_iff, Bool.or_eq_false_iff, Bool.not_true, Bool.not_false] at h4
        refine s_skip ?_
        refine s_seq ?_
        refine s_region ?_
        refine o_p (p_pure rfl) rfl ?_
        refine o_nil ?_
        exact s_retv (rs := [.tmp 2]) rfl (.tmp rfl (.nil)) (fun w' h' => ⟨by simp only [retV, fileE]; grind, h'.below⟩)

theorem take_drop_min {l : List UInt8} {i c : Nat} : (l.take (min l.length (i + c))).drop i = (l.drop i).take (min c (l.drop i).length) := by
  rw [List.drop_take, List.length_drop]
  congr 1
  omega

set_option maxRecDepth 20000 in
theorem c26 (w : World) (a : Option Addr) (cap : Nat) (fs : Fds) (nc : Int) (st : List UInt8) (u : Int) (own : List UInt8) (at' cnt : Int) (hs : Fl w a fs) (hm : fs.length ≤ 1000) (hst : st.length ≤ 9223372036854775807) : Calls Try.prog 26 #[.agg #[.slice a fs.length cap, .int .i64 nc, .string (bs st)], .agg #[.int .i64 u, .string (bs own)], .int .i64 at', .int .i64 cnt] w fun en w' => en = .returned (pairV (readT fs nc st u own at' cnt)) ∧ Below w.heap.size w w' := by
  refine enter (args := [_, _, _, _]) Try.func26 Try.ntmps26 rfl rfl (HS.refl w []) ?_
  refine s_seq ?_
  refine s_region ?_
  refine o_h (h_box rfl rfl) rfl (fun b1 _ => ?_)
  refine o_h (h_box rfl rfl) rfl (fun b2 _ => ?_)
  refine o_p (p_pure rfl) rfl ?_
  refine o_p (p_pure rfl) rfl ?_
  refine o_nil ?_
  refine s_seq ?_
  refine s_seq ?_
  refine s_region ?_
  refine o_q (q_loadn rfl rfl sz_43 (by repeat (first | exact .here | apply Pick.there)) rfl) rfl ?_
  refine o_q (q_call rfl fn_71 rfl (fun w1 h1 => c71 w1 _ _ fs _ _ (hs.later h1) (by omega) (by omega))) rfl ?_
  refine o_p (p_pure rfl) rfl ?_
  refine o_nil ?_
  refine s_seq ?_
  refine s_region ?_
  refine o_p (p_pure rfl) rfl ?_
  refine o_p (p_pure rfl) rfl ?_
  refine o_nil ?_
  refine s_cond rfl (fun h3 => ?_) (fun h3 => ?_)
  · try simp only [decide_eq_true_eq, decide_eq_false_iff_not, Bool.not_eq_true', Bool.not_eq_false', Bool.and_eq_true, Bool.or_eq_true, Bool.and_eq_false_iff, Bool.or_eq_false_iff, Bool.not_true, Bool.not_false] at h3
    refine s_seq ?_
    refine s_region ?_
    refine o_p (p_pure rfl) rfl ?_
    refine o_p (p_pure rfl) rfl ?_
    refine o_p (p_pure rfl) rfl ?_
    refine o_nil ?_
    exact s_retv (rs := [.tmp 8, .tmp 9]) rfl (.tmp rfl (.tmp rfl (.nil))) (fun w' h' => ⟨by have he : readE fs nc st.length u own at' cnt = fileE fs nc st.length := (by unfold readE; rw [if_neg h3]); rw [← readT_err (by rw [he]; exact h3), he]; rfl, h'.below⟩)
  · try simp only [decide_eq_true_eq, decide_eq_false_iff_not, Bool.not_eq_true', Bool.not_eq_false', Bool.and_eq_true, Bool.or_eq_true, Bool.and_eq_false_iff, Bool.or_eq_false_iff, Bool.not_true, Bool.not_false] at h3
    have r1 : fileE fs nc st.length = 0 := by omega
    obtain ⟨ok, hw, hle⟩ := fileE_ok r1
    refine s_skip ?_
    refine s_seq ?_
    refine s_seq ?_
    refine s_region ?_
    refine o_q (q_loadn rfl rfl sz_31 (by repeat (first | exact .here | apply Pick.there)) rfl) rfl ?_
    refine o_q (q_call rfl fn_18 rfl (fun w1 h1 => c18 w1 _ _)) rfl ?_
    refine o_p (p_pure rfl) rfl ?_
    refine o_nil ?_
    refine s_seq ?_
    refine s_region ?_
    refine o_p (p_pure rfl) rfl ?_
    refine o_p (p_pure rfl) rfl ?_
    refine o_nil ?_
    refine s_cond rfl (fun h4 => ?_) (fun h4 => ?_)
    · try simp only [decide_eq_true_eq, decide_eq_false_iff_not, Bool.not_eq_true', Bool.not_eq_false', Bool.and_eq_true, Bool.or_eq_true, Bool.and_eq_false_iff, Bool.or_eq_false_iff, Bool.not_true, Bool.not_false] at h4
      refine s_seq ?_
      refine s_region ?_
      refine o_p (p_pure rfl) rfl ?_
      refine o_p (p_pure rfl) rfl ?_
      refine o_p (p_pure rfl) rfl ?_
      refine o_nil ?_
      exact s_retv (rs := [.tmp 8, .tmp 9]) rfl (.tmp rfl (.tmp rfl (.nil))) (fun w' h' => ⟨by have he : readE fs nc st.length u own at' cnt = holdE u own := (by unfold readE; rw [if_pos r1, if_neg h4]); rw [← readT_err (by rw [he]; exact h4), he]; rfl, h'.below⟩)
    · try simp only [decide_eq_true_eq, decide_eq_false_iff_not, Bool.not_eq_true', Bool.not_eq_false', Bool.and_eq_true, Bool.or_eq_true, Bool.and_eq_false_iff, Bool.or_eq_false_iff, Bool.not_true, Bool.not_false] at h4
      have r2 : holdE u own = 0 := by omega
      refine s_skip ?_
      refine s_seq ?_
      refine s_seq ?_
      refine s_region ?_
      refine o_p (p_pure rfl) rfl ?_
      refine o_p (p_fieldAddr rfl rfl fd_43_2 sz_9 rfl) rfl ?_
      refine o_q (q_load rfl rfl sz_9 (by repeat (first | exact .here | apply Pick.there)) rfl) rfl ?_
      refine o_p (p_len_str rfl rfl Try.underlying9) rfl ?_
      refine o_q (q_call rfl fn_27 rfl (fun w1 h1 => c27 w1 _ _ _)) rfl ?_
      refine o_p (p_pure rfl) rfl ?_
      refine o_p (p_pure rfl) rfl ?_
      refine o_or 4 30 34 _ _ rfl
        (by
          intro hg5
          have hs6 := hg5; try simp only [decide_eq_true_eq, decide_eq_false_iff_not, Bool.not_eq_true', Bool.not_eq_false', Bool.and_eq_true, Bool.or_eq_true, Bool.and_eq_false_iff, Bool.or_eq_false_iff, Bool.not_true, Bool.not_false] at hs6
          refine o_on 30 _ rfl rfl hg5 ?_
          refine o_p (p_pure rfl) rfl ?_
          refine o_on 30 _ rfl rfl hg5 ?_
          refine o_q (q_call rfl fn_27 rfl (fun w1 h1 => c27 w1 _ _ _)) rfl ?_
          refine o_on 30 _ rfl rfl hg5 ?_
          refine o_p (p_pure rfl) rfl ?_
          refine o_p (p_pickf rfl rfl hg5 rfl) rfl ?_
          refine o_nil ?_
          exact s_join () (by repeat (first | exact sl_n | refine sl_c rfl ?_)) (fun w h => by first | exact h | exact h.ent (by repeat (first | exact .nil | refine .cons (by repeat (first | exact .here | apply Pick.there)) ?_))))
        (by
          intro hg7
          have hs8 := hg7; try simp only [decide_eq_true_eq, decide_eq_false_iff_not, Bool.not_eq_true', Bool.not_eq_false', Bool.and_eq_true, Bool.or_eq_true, Bool.and_eq_false_iff, Bool.or_eq_false_iff, Bool.not_true, Bool.not_false] at hs8
          refine o_off 30 _ rfl rfl hg7 rfl ?_
          refine o_off 30 _ rfl rfl hg7 rfl ?_
          refine o_off 30 _ rfl rfl hg7 rfl ?_
          refine o_p (p_pickt rfl rfl hg7 rfl) rfl ?_
          refine o_nil ?_
          exact s_join () (by repeat (first | exact sl_n | refine sl_c rfl ?_)) (fun w h => by first | exact h | exact h.ent (by repeat (first | exact .nil | refine .cons (by repeat (first | exact .here | apply Pick.there)) ?_)))) ?_
      refine o_nil ?_
      refine s_cond rfl (fun h9 => ?_) (fun h9 => ?_)
      · try simp only [decide_eq_true_eq, decide_eq_false_iff_not, Bool.not_eq_true', Bool.not_eq_false', Bool.and_eq_true, Bool.or_eq_true, Bool.and_eq_false_iff, Bool.or_eq_false_iff, Bool.not_true, Bool.not_false] at h9
        refine s_seq ?_
        refine s_region ?_
        refine o_p (p_pure rfl) rfl ?_
        refine o_p (p_pure rfl) rfl ?_
        refine o_nil ?_
        exact s_retv (rs := [.tmp 8, .tmp 9]) rfl (.tmp rfl (.tmp rfl (.nil))) (fun w' h' => ⟨by have hb : ¬ ((0 ≤ at' ∧ at' ≤ st.length) ∧ 0 ≤ cnt ∧ cnt ≤ 8192) := (by have hq := h9; (try simp at hq); omega); have he : readE fs nc st.length u own at' cnt = 2 := (by unfold readE; rw [if_pos r1, if_pos r2, if_neg hb]); rw [← readT_err (by rw [he]; decide), he]; rfl, h'.below⟩)
      · try simp only [decide_eq_true_eq, decide_eq_false_iff_not, Bool.not_eq_true', Bool.not_eq_false', Bool.and_eq_true, Bool.or_eq_true, Bool.and_eq_false_iff, Bool.or_eq_false_iff, Bool.not_true, Bool.not_false] at h9
        have hb : (0 ≤ at' ∧ at' ≤ st.length) ∧ 0 ≤ cnt ∧ cnt ≤ 8192 := by have hq := h9; (try simp at hq); omega
        have hr : readE fs nc st.length u own at' cnt = 0 := by unfold readE; rw [if_pos r1, if_pos r2, if_pos hb]
        refine s_skip ?_
        refine s_seq ?_
        refine s_region ?_
        refine o_p (p_fieldAddr rfl rfl fd_43_0 sz_41 rfl) rfl ?_
        refine o_q (q_load rfl rfl sz_41 (by repeat (first | exact .here | apply Pick.there)) rfl) rfl ?_
        refine o_q (q_loadn rfl rfl sz_31 (by repeat (first | exact .here | apply Pick.there)) rfl) rfl ?_
        refine o_q (q_call rfl fn_72 rfl (fun w1 h1 => c72 w1 _ _ fs _ _ (hs.later h1) (by assumption) (by assumption))) rfl ?_
        refine o_p (p_pure rfl) rfl ?_
        refine o_p (p_pure rfl) rfl ?_
        refine o_p (p_pure rfl) rfl ?_
        refine o_p (p_pure rfl) rfl ?_
        refine o_p (p_pure rfl) rfl ?_
        refine o_nil ?_
        refine s_seq ?_
        refine s_seq ?_
        refine s_region ?_
        refine o_p (p_pure rfl) rfl ?_
        refine o_p (p_pure rfl) rfl ?_
        refine o_nil ?_
        refine s_cond rfl (fun h10 => ?_) (fun h10 => ?_)
        · try simp only [decide_eq_true_eq, decide_eq_false_iff_not, Bool.not_eq_true', Bool.not_eq_false', Bool.and_eq_true, Bool.or_eq_true, Bool.and_eq_false_iff, Bool.or_eq_false_iff, Bool.not_true, Bool.not_false] at h10
          refine s_seq ?_
          refine s_region ?_
          refine o_p (p_pure rfl) rfl ?_
          refine o_p (p_pure rfl) rfl ?_
          refine o_p (p_pure rfl) rfl ?_
          refine o_nil ?_
          exact s_retv (rs := [.tmp 8, .tmp 9]) rfl (.tmp rfl (.tmp rfl (.nil))) (fun w' h' => ⟨by exact congrArg (fun q => Ending.returned (pairV q)) (readT_key hr (by omega)), h'.below⟩)
        · try simp only [decide_eq_true_eq, decide_eq_false_iff_not, Bool.not_eq_true', Bool.not_eq_false', Bool.and_eq_true, Bool.or_eq_true, Bool.and_eq_false_iff, Bool.or_eq_false_iff, Bool.not_true, Bool.not_false] at h10
          have hk0 : (keyForT fs u own).2 = 0 := by omega
          have hkl := keyForT_len ok hk0
          refine s_skip ?_
          refine s_seq ?_
          refine s_draw [] mixed ?_
          refine d_p 0 rfl (p_pure rfl) (by kernel_rfl) rfl rfl ?_
          refine d_p 1 rfl (p_fieldAddr rfl rfl fd_43_1 sz_3 rfl) (by kernel_rfl) rfl rfl ?_
          refine d_q 2 [] rfl (q_load rfl rfl sz_3 (by repeat (first | exact .here | apply Pick.there)) rfl) (by kernel_rfl) (by kernel_rfl) (by kernel_rfl) rfl ?_
          refine d_p 3 rfl (p_pure rfl) (by kernel_rfl) rfl rfl ?_
          refine d_p 4 rfl (p_fieldAddr rfl rfl fd_43_2 sz_9 rfl) (by kernel_rfl) rfl rfl ?_
          refine d_q 5 [] rfl (q_load rfl rfl sz_9 (by repeat (first | exact .here | apply Pick.there)) rfl) (by kernel_rfl) (by kernel_rfl) (by kernel_rfl) rfl ?_
          refine d_p 6 rfl (p_pure rfl) (by kernel_rfl) rfl rfl ?_
          refine d_p 7 rfl (p_fieldAddr rfl rfl fd_43_2 sz_9 rfl) (by kernel_rfl) rfl rfl ?_
          refine d_q 8 [] rfl (q_load rfl rfl sz_9 (by repeat (first | exact .here | apply Pick.there)) rfl) (by kernel_rfl) (by kernel_rfl) (by kernel_rfl) rfl ?_
          refine d_p 9 rfl (p_len_str rfl rfl Try.underlying9) (by kernel_rfl) rfl rfl ?_
          refine d_p 10 rfl (p_pure rfl) (by kernel_rfl) rfl rfl ?_
          refine d_p 11 rfl (p_pure rfl) (by kernel_rfl) rfl rfl ?_
          refine d_p 12 rfl (p_pure rfl) (by kernel_rfl) rfl rfl ?_
          try (refine d_slot (i64w (by omega) (by omega)) ?_)
          refine d_p 13 rfl (p_min2 rfl rfl rfl ) (by kernel_rfl) rfl rfl ?_
          refine d_slot (show _ = Value.int .i64 ((min st.length (at'.toNat + cnt.toNat) : Nat) : Int) from by congr 1; split <;> omega) ?_
          refine d_p 14 rfl (p_slice_str _ _ at'.toNat (min st.length (at'.toNat + cnt.toNat)) rfl rfl Try.underlying9 ⟨_, _, rfl, (Int.toNat_of_nonneg (by omega)).symm⟩ ⟨_, _, rfl, rfl⟩ (by omega) (by omega)) (by kernel_rfl) rfl rfl ?_
          rw [take_drop_min]
          refine d_q 15 [] rfl (q_call rfl fn_37 rfl (fun w1 h1 => c37i w1 _ nc at' _ hkl hw (by omega) (by simp only [List.length_take, List.length_drop]; omega))) (by kernel_rfl) (by kernel_rfl) (by kernel_rfl) rfl ?_
          refine d_p 16 rfl (p_pure rfl) (by kernel_rfl) rfl rfl ?_
          refine d_p 17 rfl (p_pure rfl) (by kernel_rfl) rfl rfl ?_
          refine d_nil (by kernel_rfl) (fun w h => h.ent (by repeat (first | exact .nil | refine .cons (by repeat (first | exact .here | apply Pick.there)) ?_))) ?_
          exact s_retv (rs := [.tmp 8, .tmp 9]) rfl (.tmp rfl (.tmp rfl (.nil))) (fun w' h' => ⟨by exact congrArg (fun q => Ending.returned (pairV q)) (readT_ok hr hk0), h'.below⟩)

end Go.Proofs
