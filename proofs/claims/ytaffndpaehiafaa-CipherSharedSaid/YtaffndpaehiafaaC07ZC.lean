/- Contracts of the program's functions, proved by walking them with the rules of the Gx texts; without conditions beyond those that each contract names. -/
import Derived.Test.YtaffndpaehiafaaC07ZB
namespace Go.Proofs
open Go Go.RowKit Gx
set_option linter.unusedVariables false
set_option linter.unusedSimpArgs false
attribute [local irreducible] Go.Calls Gx.S Gx.O Gx.D Gx.OpP Gx.OpQ Gx.OpH

theorem fn_38 : isFn Try.prog 38 = true := by kernel_rfl
theorem fn_39 : isFn Try.prog 39 = true := by kernel_rfl


theorem rkT_len {fs : Fds} {nc : Int} {st : List UInt8} {hd : Fds} {key : List UInt8} : (rkT fs nc st hd key).1.1.length ≤ hd.length := by
  unfold rkT
  split
  · split
    · rw [rkF_length]; exact Nat.le_refl _
    · exact Nat.zero_le _
  · exact Nat.zero_le _
theorem x38 (w : World) (a a2 : Option Addr) (cap cap2 n2 : Nat) (fs : Fds) (nc : Int) (st : List UInt8) (hd : Fds) (key : List UInt8) (hn : n2 = hd.length) (hs : Fl w a fs) (ht : Fl w a2 hd) (hm : fs.length ≤ 1000) (hm2 : hd.length ≤ 1000) :
    Calls Try.prog 38 #[.agg #[.slice a fs.length cap, .int .i64 nc, .string (bs st)], .slice a2 n2 cap2, .string (bs key)] w fun en w' => ∃ g : Option Addr × Nat, en = .returned (.tuple #[.agg #[.slice g.1 (rkT fs nc st hd key).1.1.length g.2, .int .i64 (rkT fs nc st hd key).1.2.1, .string (bs (rkT fs nc st hd key).1.2.2)], .int .i64 (rkT fs nc st hd key).2]) ∧ True ∧ HS w [] [.own (.slice g.1 (rkT fs nc st hd key).1.1.length g.2) 96 2 (rkT fs nc st hd key).1.1.length (flatF (rkT fs nc st hd key).1.1)] w' := by
  subst hn
  exact c38 w a a2 cap cap2 fs nc st hd key hs ht hm hm2

set_option maxRecDepth 20000 in
theorem c8 (w : World) (a a2 : Option Addr) (cap cap2 : Nat) (fs : Fds) (nc : Int) (st : List UInt8) (hd : Fds) (key : List UInt8) (hs : Fl w a fs) (ht : Fl w a2 hd) (hm0 : fs.length ≤ 9223372036854775807) (hst : st.length ≤ 9223372036854775807) (hm1 : hd.length ≤ 9223372036854775807) : Calls Try.prog 8 #[.agg #[.slice a fs.length cap, .int .i64 nc, .string (bs st)], .slice a2 hd.length cap2, .string (bs key)] w fun en w' => en = .returned (.bool true) ∧ Below w.heap.size w w' := by
  refine enter (args := [_, _, _]) Try.func8 Try.ntmps8 rfl rfl (HS.refl w []) ?_
  refine s_seq ?_
  refine s_region ?_
  refine o_h (h_box rfl rfl) rfl (fun b1 _ => ?_)
  refine o_p (p_pure rfl) rfl ?_
  refine o_nil ?_
  refine s_seq ?_
  refine s_seq ?_
  refine s_region ?_
  refine o_q (q_call rfl fn_12 rfl (fun w1 h1 => c12 w1)) rfl ?_
  refine o_p (p_pure rfl) rfl ?_
  refine o_nil ?_
  refine s_cond rfl (fun h2 => ?_) (fun h2 => ?_)
  · try simp only [decide_eq_true_eq, decide_eq_false_iff_not, Bool.not_eq_true', Bool.not_eq_false', Bool.and_eq_true, Bool.or_eq_true, Bool.and_eq_false_iff, Bool.or_eq_false_iff, Bool.not_true, Bool.not_false] at h2
    exfalso; first | omega | (simp at h2; done) | (simp_all; done)
  · try simp only [decide_eq_true_eq, decide_eq_false_iff_not, Bool.not_eq_true', Bool.not_eq_false', Bool.and_eq_true, Bool.or_eq_true, Bool.and_eq_false_iff, Bool.or_eq_false_iff, Bool.not_true, Bool.not_false] at h2
    refine s_skip ?_
    refine s_seq ?_
    refine s_seq ?_
    refine s_region ?_
    first | refine o_q (q_loadn rfl rfl sz_43 (by repeat (first | exact .here | apply Pick.there)) rfl) rfl ?_ | refine o_q (q_load_oldn _ rfl rfl sz_43 ht.rd1 (i := k) (by omega)) rfl ?_
    refine o_q (q_call rfl fn_23 rfl (fun w1 h1 => c23 w1 _ _ fs _ _ (hs.later h1) (by omega))) rfl ?_
    refine o_p (p_pure rfl) rfl ?_
    refine o_p (p_pure rfl) rfl ?_
    refine o_or 4 17 21 _ _ rfl
      (by
        intro hg3
        have hs4 := hg3; try simp only [decide_eq_true_eq, decide_eq_false_iff_not, Bool.not_eq_true', Bool.not_eq_false', Bool.and_eq_true, Bool.or_eq_true, Bool.and_eq_false_iff, Bool.or_eq_false_iff, Bool.not_true, Bool.not_false] at hs4
        refine o_on 17 _ rfl rfl hg3 ?_
        refine o_p (p_pure rfl) rfl ?_
        refine o_on 17 _ rfl rfl hg3 ?_
        first | refine o_p (p_len_slice rfl rfl Try.underlying69) rfl ?_ | refine o_q (q_len_own rfl rfl Try.underlying69 (by repeat (first | exact .here | apply Pick.there))) rfl ?_
        refine o_on 17 _ rfl rfl hg3 ?_
        refine o_p (p_pure rfl) rfl ?_
        refine o_p (p_pickf rfl rfl hg3 rfl) rfl ?_
        refine o_nil ?_
        exact s_join () (by repeat (first | exact sl_n | refine sl_c rfl ?_)) (fun w h => by first | exact h | exact h.ent (by repeat (first | exact .nil | refine .cons (by repeat (first | exact .here | apply Pick.there)) ?_))))
      (by
        intro hg5
        have hs6 := hg5; try simp only [decide_eq_true_eq, decide_eq_false_iff_not, Bool.not_eq_true', Bool.not_eq_false', Bool.and_eq_true, Bool.or_eq_true, Bool.and_eq_false_iff, Bool.or_eq_false_iff, Bool.not_true, Bool.not_false] at hs6
        refine o_off 17 _ rfl rfl hg5 rfl ?_
        refine o_off 17 _ rfl rfl hg5 rfl ?_
        refine o_off 17 _ rfl rfl hg5 rfl ?_
        refine o_p (p_pickt rfl rfl hg5 rfl) rfl ?_
        refine o_nil ?_
        exact s_join () (by repeat (first | exact sl_n | refine sl_c rfl ?_)) (fun w h => by first | exact h | exact h.ent (by repeat (first | exact .nil | refine .cons (by repeat (first | exact .here | apply Pick.there)) ?_)))) ?_
    refine o_p (p_pure rfl) rfl ?_
    refine o_or 5 22 27 _ _ rfl
      (by
        intro hg7
        have hs8 := hg7; try simp only [decide_eq_true_eq, decide_eq_false_iff_not, Bool.not_eq_true', Bool.not_eq_false', Bool.and_eq_true, Bool.or_eq_true, Bool.and_eq_false_iff, Bool.or_eq_false_iff, Bool.not_true, Bool.not_false] at hs8
        refine o_on 22 _ rfl rfl hg7 ?_
        refine o_p (p_pure rfl) rfl ?_
        refine o_on 22 _ rfl rfl hg7 ?_
        refine o_h (h_buildSlice (cs := [_]) rfl rfl sl_104 zr_9 rfl rfl rfl) rfl (fun b9 _ => ?_)
        refine o_on 22 _ rfl rfl hg7 ?_
        refine o_q (q_call rfl fn_16 rfl (fun w1 h1 => x16 w1 _ 1 _ [key] rfl (h1.vl_blk (by repeat (first | exact .here | apply Pick.there))) (by decide))) rfl ?_
        refine o_on 22 _ rfl rfl hg7 ?_
        refine o_p (p_pure rfl) rfl ?_
        refine o_p (p_pickf rfl rfl hg7 rfl) rfl ?_
        refine o_nil ?_
        exact s_join () (by repeat (first | exact sl_n | refine sl_c rfl ?_)) (fun w h => by first | exact h | exact h.ent (by repeat (first | exact .nil | refine .cons (by repeat (first | exact .here | apply Pick.there)) ?_))))
      (by
        intro hg10
        have hs11 := hg10; try simp only [decide_eq_true_eq, decide_eq_false_iff_not, Bool.not_eq_true', Bool.not_eq_false', Bool.and_eq_true, Bool.or_eq_true, Bool.and_eq_false_iff, Bool.or_eq_false_iff, Bool.not_true, Bool.not_false] at hs11
        refine o_off 22 _ rfl rfl hg10 rfl ?_
        refine o_off 22 _ rfl rfl hg10 rfl ?_
        refine o_off 22 _ rfl rfl hg10 rfl ?_
        refine o_off 22 _ rfl rfl hg10 rfl ?_
        refine o_p (p_pickt rfl rfl hg10 rfl) rfl ?_
        refine o_nil ?_
        exact s_join () (by repeat (first | exact sl_n | refine sl_c rfl ?_)) (fun w h => by first | exact h | exact h.ent (by repeat (first | exact .nil | refine .cons (by repeat (first | exact .here | apply Pick.there)) ?_)))) ?_
    refine o_nil ?_
    refine s_cond rfl (fun h12 => ?_) (fun h12 => ?_)
    · try simp only [decide_eq_true_eq, decide_eq_false_iff_not, Bool.not_eq_true', Bool.not_eq_false', Bool.and_eq_true, Bool.or_eq_true, Bool.and_eq_false_iff, Bool.or_eq_false_iff, Bool.not_true, Bool.not_false] at h12
      refine s_seq ?_
      refine s_region ?_
      refine o_p (p_pure rfl) rfl ?_
      refine o_nil ?_
      exact s_retv (rs := [.tmp 6]) rfl (.tmp rfl (.nil)) (fun w' h' => ⟨by rfl, h'.below⟩)
    · try simp only [decide_eq_true_eq, decide_eq_false_iff_not, Bool.not_eq_true', Bool.not_eq_false', Bool.and_eq_true, Bool.or_eq_true, Bool.and_eq_false_iff, Bool.or_eq_false_iff, Bool.not_true, Bool.not_false] at h12
      have hh : (likeB fs st.length = true ∧ hd.length ≤ 12) ∧ fewB [key] = true := by have hq := h12; simp at hq; exact ⟨⟨hq.1.1, by omega⟩, hq.2⟩
      obtain ⟨hm, hsl, _⟩ := likeB_le hh.1.1
      have hm2 := hh.1.2
      refine s_skip ?_
      refine s_seq ?_
      refine s_seq ?_
      refine s_region ?_
      refine o_p (p_pure rfl) rfl ?_
      refine o_nil ?_
      refine s_block ?_
      refine s_loopI (α := Nat) [6, 7, 28, 29, 30, 31, 32, 33, 34, 35, 36, 37, 38, 39, 40, 41] (fun k => [(7, .int .i64 (k : Int))]) (fun _ => HS w [] [.blk b1 43 3 [.slice a fs.length cap, .int .i64 nc, .string (bs st)]]) (fun k => k ≤ hd.length) (fun k => hd.length - k) 0 (by omega) (by repeat (first | exact sl_n | refine sl_c rfl ?_)) (fun w h => h.ent (by repeat (first | exact .nil | refine .cons (by repeat (first | exact .here | apply Pick.there)) ?_))) (fun k hk => ?_)
      refine s_seq ?_
      refine s_seq ?_
      refine s_region ?_
      refine o_p (p_pure rfl) rfl ?_
      refine o_p (p_pure rfl) rfl ?_
      first | refine o_p (p_len_slice rfl rfl Try.underlying69) rfl ?_ | refine o_q (q_len_own rfl rfl Try.underlying69 (by repeat (first | exact .here | apply Pick.there))) rfl ?_
      refine o_p (p_pure rfl) rfl ?_
      refine o_nil ?_
      refine s_cond rfl (fun h13 => ?_) (fun h13 => ?_)
      · try simp only [decide_eq_true_eq, decide_eq_false_iff_not, Bool.not_eq_true', Bool.not_eq_false', Bool.and_eq_true, Bool.or_eq_true, Bool.and_eq_false_iff, Bool.or_eq_false_iff, Bool.not_true, Bool.not_false] at h13
        refine s_skip ?_
        refine s_seq ?_
        refine s_block ?_
        refine s_seq ?_
        refine s_region ?_
        refine o_p (p_pure rfl) rfl ?_
        refine o_p (p_pure rfl) rfl ?_
        first | refine o_p (p_indexAddr rfl rfl rfl sl_69 (k) (by omega) (by omega) rfl) rfl ?_ | refine o_p (p_indexAddr rfl rfl rfl sl_69 (k) (by omega) (by omega) (Sl.some ht (by omega))) rfl ?_
        refine o_p (p_fieldAddr rfl rfl fd_31_1 sz_9 rfl) rfl ?_
        first | refine o_q (q_load rfl rfl sz_9 (by repeat (first | exact .here | apply Pick.there)) rfl) rfl ?_ | refine o_q (q_load_old rfl rfl sz_9 (ht.rd1 (i := k) (by omega))) rfl ?_
        refine o_h (h_buildSlice (cs := [_]) rfl rfl sl_104 zr_9 rfl rfl rfl) rfl (fun b14 _ => ?_)
        refine o_q (q_call rfl fn_16 rfl (fun w1 h1 => x16 w1 _ 1 _ [(fd hd k).2] rfl (h1.vl_blk (by repeat (first | exact .here | apply Pick.there))) (by decide))) rfl ?_
        refine o_p (p_pure rfl) rfl ?_
        refine o_nil ?_
        refine s_cond rfl (fun h15 => ?_) (fun h15 => ?_)
        · try simp only [decide_eq_true_eq, decide_eq_false_iff_not, Bool.not_eq_true', Bool.not_eq_false', Bool.and_eq_true, Bool.or_eq_true, Bool.and_eq_false_iff, Bool.or_eq_false_iff, Bool.not_true, Bool.not_false] at h15
          refine s_seq ?_
          refine s_region ?_
          refine o_p (p_pure rfl) rfl ?_
          refine o_nil ?_
          exact s_retv (rs := [.tmp 6]) rfl (.tmp rfl (.nil)) (fun w' h' => ⟨by rfl, h'.below⟩)
        · try simp only [decide_eq_true_eq, decide_eq_false_iff_not, Bool.not_eq_true', Bool.not_eq_false', Bool.and_eq_true, Bool.or_eq_true, Bool.and_eq_false_iff, Bool.or_eq_false_iff, Bool.not_true, Bool.not_false] at h15
          refine s_skip ?_
          refine s_blk ?_
          refine s_region ?_
          refine o_p (p_pure rfl) rfl ?_
          refine o_p (p_pure rfl) rfl ?_
          try (refine o_slot (i64w (by omega) (by omega)) ?_)
          refine o_p (p_pure rfl) rfl ?_
          refine o_nil ?_
          exact s_backI (k+1) (by omega) (by omega) (by repeat (first | exact sl_n | refine sl_c rfl ?_)) (fun w h => h.ent (by repeat (first | exact .nil | refine .cons (by repeat (first | exact .here | apply Pick.there)) ?_)))
      · try simp only [decide_eq_true_eq, decide_eq_false_iff_not, Bool.not_eq_true', Bool.not_eq_false', Bool.and_eq_true, Bool.or_eq_true, Bool.and_eq_false_iff, Bool.or_eq_false_iff, Bool.not_true, Bool.not_false] at h13
        refine s_exit_to rfl ?_
        refine s_seq ?_
        refine s_region ?_
        first | refine o_q (q_loadn rfl rfl sz_43 (by repeat (first | exact .here | apply Pick.there)) rfl) rfl ?_ | refine o_q (q_load_oldn _ rfl rfl sz_43 ht.rd1 (i := k) (by omega)) rfl ?_
        refine o_h (h_call rfl fn_25 rfl (fun w1 h1 => c25 w1 _ _ fs _ _ (hs.later h1) (by omega))) rfl (fun gf _ => ?_)
        refine o_h (h_buildSlice0 rfl sl_69) rfl (fun b16 _ => ?_)
        refine o_p (p_pure rfl) rfl ?_
        refine o_h (h_appendS (flatF hd) rfl rfl rfl sl_69 Try.underlying69 zr_31 rfl (by repeat (first | exact .here | apply Pick.there)) (fun w h => ht.src h) (flatF_length hd) (flatF_one hd) (by omega) (by simp only [maxLen]; omega)) rfl (fun b17 _ => ?_)
        refine o_p (p_pure rfl) rfl ?_
        refine o_h (h_call rfl fn_38 rfl (fun w1 h1 => x38 w1 _ _ _ _ _ fs nc st hd key (by omega) (h1.fl2 (by repeat (first | exact .here | apply Pick.there)) rfl) (h1.fl2 (by repeat (first | exact .here | apply Pick.there)) (by omega)) (by omega) (by omega))) rfl (fun gw _ => ?_)
        refine o_p (p_pure rfl) rfl ?_
        refine o_p (p_pure rfl) rfl ?_
        refine o_p (p_pure rfl) rfl ?_
        refine o_h (h_alloc rfl zr_43) rfl (fun b18 _ => ?_)
        refine o_h0 (h_store rfl rfl rfl sz_43 rfl (by repeat (first | exact .here | apply Put.there)) (by simp only [setMany_length, List.length_set, List.length_cons, List.length_nil, List.length_map]; omega) rfl) (fun _ _ => ?_)
        refine o_p (p_pure rfl) rfl ?_
        refine o_nil ?_
        refine s_seq ?_
        refine s_region ?_
        first | refine o_q (q_loadn rfl rfl sz_43 (by repeat (first | exact .here | apply Pick.there)) rfl) rfl ?_ | refine o_q (q_load_oldn _ rfl rfl sz_43 ht.rd1 (i := k) (by omega)) rfl ?_
        refine o_p (p_pure rfl) rfl ?_
        refine o_p (p_pure rfl) rfl ?_
        refine o_h (h_call rfl fn_39 rfl (fun w1 h1 => c39 w1 _ _ _ _ fs nc st hd key (hs.later h1) (ht.later h1) (by omega) (by omega) (by omega))) rfl (fun gr _ => ?_)
        refine o_p (p_pure rfl) rfl ?_
        refine o_p (p_pure rfl) rfl ?_
        refine o_p (p_pure rfl) rfl ?_
        refine o_h (h_alloc rfl zr_43) rfl (fun b19 _ => ?_)
        refine o_h0 (h_store rfl rfl rfl sz_43 rfl (by repeat (first | exact .here | apply Put.there)) (by simp only [setMany_length, List.length_set, List.length_cons, List.length_nil, List.length_map]; omega) rfl) (fun _ _ => ?_)
        refine o_p (p_pure rfl) rfl ?_
        refine o_nil ?_
        refine s_seq ?_
        refine s_region ?_
        refine o_p (p_pure rfl) rfl ?_
        refine o_p (p_pure rfl) rfl ?_
        refine o_p (p_pure rfl) rfl ?_
        refine o_p (p_pure rfl) rfl ?_
        refine o_and 4 62 66 _ _ rfl
          (by
            intro hg20
            have hs21 := hg20; try simp only [decide_eq_true_eq, decide_eq_false_iff_not, Bool.not_eq_true', Bool.not_eq_false', Bool.and_eq_true, Bool.or_eq_true, Bool.and_eq_false_iff, Bool.or_eq_false_iff, Bool.not_true, Bool.not_false] at hs21
            refine o_on 62 _ rfl rfl hg20 ?_
            first | refine o_q (q_loadn rfl rfl sz_43 (by repeat (first | exact .here | apply Pick.there)) rfl) rfl ?_ | refine o_q (q_load_oldn _ rfl rfl sz_43 ht.rd1 (i := k) (by omega)) rfl ?_
            refine o_on 62 _ rfl rfl hg20 ?_
            first | refine o_q (q_loadn rfl rfl sz_43 (by repeat (first | exact .here | apply Pick.there)) rfl) rfl ?_ | refine o_q (q_load_oldn _ rfl rfl sz_43 ht.rd1 (i := k) (by omega)) rfl ?_
            refine o_on 62 _ rfl rfl hg20 ?_
            refine o_q (q_call rfl fn_30 rfl (fun w1 h1 => c30 w1 _ _ _ _ (rkT fs nc st hd key).1.1 (rkT fs nc st hd key).1.1 _ _ _ _ (h1.fl (by repeat (first | exact .here | apply Pick.there)) rfl) (h1.fl (by repeat (first | exact .here | apply Pick.there)) rfl) (by have hwl := rkT_len (fs := fs) (nc := nc) (st := st) (hd := hd) (key := key); omega))) rfl ?_
            refine o_p (p_pickt rfl rfl hg20 rfl) rfl ?_
            refine o_nil ?_
            exact s_join () (by repeat (first | exact sl_n | refine sl_c rfl ?_)) (fun w h => by first | exact h | exact h.ent (by repeat (first | exact .nil | refine .cons (by repeat (first | exact .here | apply Pick.there)) ?_))))
          (by
            intro hg22
            have hs23 := hg22; try simp only [decide_eq_true_eq, decide_eq_false_iff_not, Bool.not_eq_true', Bool.not_eq_false', Bool.and_eq_true, Bool.or_eq_true, Bool.and_eq_false_iff, Bool.or_eq_false_iff, Bool.not_true, Bool.not_false] at hs23
            refine o_off 62 _ rfl rfl hg22 rfl ?_
            refine o_off 62 _ rfl rfl hg22 rfl ?_
            refine o_off 62 _ rfl rfl hg22 rfl ?_
            refine o_p (p_pickf rfl rfl hg22 rfl) rfl ?_
            refine o_nil ?_
            exact s_join () (by repeat (first | exact sl_n | refine sl_c rfl ?_)) (fun w h => by first | exact h | exact h.ent (by repeat (first | exact .nil | refine .cons (by repeat (first | exact .here | apply Pick.there)) ?_)))) ?_
        refine o_p (p_pure rfl) rfl ?_
        refine o_nil ?_
        exact s_retv (rs := [.tmp 6]) rfl (.tmp rfl (.nil)) (fun w' h' => ⟨by simp; rfl, h'.below⟩)

end Go.Proofs
