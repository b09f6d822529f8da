/- Contracts of the program's functions, proved by walking them with the rules of the Gx texts; without conditions beyond those that each contract names. -/
import Derived.Test.YtaffndpaehiafaaC07R
import Derived.Test.YtaffndpaehiafaaGxCipher3
namespace Go.Proofs
open Go Go.RowKit Gx
set_option linter.unusedVariables false
set_option linter.unusedSimpArgs false
attribute [local irreducible] Go.Calls Gx.S Gx.O Gx.D Gx.OpP Gx.OpQ Gx.OpH

theorem fn_41 : isFn Try.prog 41 = true := by kernel_rfl
theorem eqk_96 : teqk Try.prog 96 = some [0, 1] := by kernel_rfl


set_option maxRecDepth 20000 in
theorem c23 (w : World) (a : Option Addr) (cap : Nat) (fs : Fds) (nc : Int) (st : List UInt8) (hs : Fl w a fs) (hm : fs.length ≤ 9223372036854775807) : Calls Try.prog 23 #[.agg #[.slice a fs.length cap, .int .i64 nc, .string (bs st)]] w fun en w' => en = .returned (.bool (likeB fs st.length)) ∧ Below w.heap.size w w' := by
  refine enter (args := [_]) Try.func23 Try.ntmps23 rfl rfl (HS.refl w []) ?_
  refine s_seq ?_
  refine s_region ?_
  refine o_h (h_box rfl rfl) rfl (fun b1 _ => ?_)
  refine o_p (p_pure rfl) rfl ?_
  refine o_nil ?_
  refine s_seq ?_
  refine s_seq ?_
  refine s_region ?_
  refine o_p (p_fieldAddr rfl rfl fd_43_0 sz_41 rfl) rfl ?_
  first | refine o_q (q_load rfl rfl sz_41 (by repeat (first | exact .here | apply Pick.there)) rfl) rfl ?_ | refine o_q (q_load_old rfl rfl sz_41 (hs.rd1 (i := k) (by omega))) rfl ?_
  first | refine o_p (p_len_slice rfl rfl Try.underlying41) rfl ?_ | refine o_q (q_len_own rfl rfl Try.underlying41 (by repeat (first | exact .here | apply Pick.there))) rfl ?_
  refine o_p (p_pure rfl) rfl ?_
  refine o_p (p_pure rfl) rfl ?_
  refine o_or 13 8 21 _ _ rfl
    (by
      intro hg2
      have hs3 := hg2; try simp only [decide_eq_true_eq, decide_eq_false_iff_not, Bool.not_eq_true', Bool.not_eq_false', Bool.and_eq_true, Bool.or_eq_true, Bool.and_eq_false_iff, Bool.or_eq_false_iff, Bool.not_true, Bool.not_false] at hs3
      refine o_on 8 _ rfl rfl hg2 ?_
      refine o_p (p_fieldAddr rfl rfl fd_43_2 sz_9 rfl) rfl ?_
      refine o_on 8 _ rfl rfl hg2 ?_
      first | refine o_q (q_load rfl rfl sz_9 (by repeat (first | exact .here | apply Pick.there)) rfl) rfl ?_ | refine o_q (q_load_old rfl rfl sz_9 (hs.rd1 (i := k) (by omega))) rfl ?_
      refine o_on 8 _ rfl rfl hg2 ?_
      refine o_h (h_buildSlice (cs := [_]) rfl rfl sl_104 zr_9 rfl rfl rfl) rfl (fun b4 _ => ?_)
      refine o_on 8 _ rfl rfl hg2 ?_
      refine o_q (q_call rfl fn_16 rfl (fun w1 h1 => x16 w1 _ 1 _ [st] rfl (h1.vl_blk (by repeat (first | exact .here | apply Pick.there))) (by decide))) rfl ?_
      refine o_on 8 _ rfl rfl hg2 ?_
      refine o_p (p_pure rfl) rfl ?_
      refine o_on 8 _ rfl rfl hg2 ?_
      refine o_p (p_pure rfl) rfl ?_
      refine o_and 6 14 20 _ _ rfl
        (by
          intro hg5
          have hs6 := hg5; try simp only [decide_eq_true_eq, decide_eq_false_iff_not, Bool.not_eq_true', Bool.not_eq_false', Bool.and_eq_true, Bool.or_eq_true, Bool.and_eq_false_iff, Bool.or_eq_false_iff, Bool.not_true, Bool.not_false] at hs6
          refine o_on 14 _ rfl rfl hg5 ?_
          refine o_p (p_fieldAddr rfl rfl fd_43_2 sz_9 rfl) rfl ?_
          refine o_on 14 _ rfl rfl hg5 ?_
          first | refine o_q (q_load rfl rfl sz_9 (by repeat (first | exact .here | apply Pick.there)) rfl) rfl ?_ | refine o_q (q_load_old rfl rfl sz_9 (hs.rd1 (i := k) (by omega))) rfl ?_
          refine o_on 14 _ rfl rfl hg5 ?_
          refine o_p (p_len_str rfl rfl Try.underlying9) rfl ?_
          refine o_on 14 _ rfl rfl hg5 ?_
          refine o_q (q_call rfl fn_27 rfl (fun w1 h1 => c27 w1 _ _ _)) rfl ?_
          refine o_on 14 _ rfl rfl hg5 ?_
          refine o_p (p_pure rfl) rfl ?_
          refine o_on 8 _ rfl rfl hg2 ?_
          refine o_p (p_pickt rfl rfl hg5 rfl) rfl ?_
          refine o_nil ?_
          exact s_join () (by repeat (first | exact sl_n | refine sl_c rfl ?_)) (fun w h => by first | exact h | exact h.ent (by repeat (first | exact .nil | refine .cons (by repeat (first | exact .here | apply Pick.there)) ?_))))
        (by
          intro hg7
          have hs8 := hg7; try simp only [decide_eq_true_eq, decide_eq_false_iff_not, Bool.not_eq_true', Bool.not_eq_false', Bool.and_eq_true, Bool.or_eq_true, Bool.and_eq_false_iff, Bool.or_eq_false_iff, Bool.not_true, Bool.not_false] at hs8
          refine o_off 14 _ rfl rfl hg7 rfl ?_
          refine o_off 14 _ rfl rfl hg7 rfl ?_
          refine o_off 14 _ rfl rfl hg7 rfl ?_
          refine o_off 14 _ rfl rfl hg7 rfl ?_
          refine o_off 14 _ rfl rfl hg7 rfl ?_
          refine o_on 8 _ rfl rfl hg2 ?_
          refine o_p (p_pickf rfl rfl hg7 rfl) rfl ?_
          refine o_nil ?_
          exact s_join () (by repeat (first | exact sl_n | refine sl_c rfl ?_)) (fun w h => by first | exact h | exact h.ent (by repeat (first | exact .nil | refine .cons (by repeat (first | exact .here | apply Pick.there)) ?_)))) ?_
      refine o_p (p_pickf rfl rfl hg2 rfl) rfl ?_
      refine o_nil ?_
      exact s_join () (by repeat (first | exact sl_n | refine sl_c rfl ?_)) (fun w h => by first | exact h | exact h.ent (by repeat (first | exact .nil | refine .cons (by repeat (first | exact .here | apply Pick.there)) ?_))))
    (by
      intro hg9
      have hs10 := hg9; try simp only [decide_eq_true_eq, decide_eq_false_iff_not, Bool.not_eq_true', Bool.not_eq_false', Bool.and_eq_true, Bool.or_eq_true, Bool.and_eq_false_iff, Bool.or_eq_false_iff, Bool.not_true, Bool.not_false] at hs10
      refine o_off 8 _ rfl rfl hg9 rfl ?_
      refine o_off 8 _ rfl rfl hg9 rfl ?_
      refine o_off 8 _ rfl rfl hg9 rfl ?_
      refine o_off 8 _ rfl rfl hg9 rfl ?_
      refine o_off 8 _ rfl rfl hg9 rfl ?_
      refine o_off 8 _ rfl rfl hg9 rfl ?_
      refine o_off' 14 rfl rfl rfl ?_
      refine o_off' 14 rfl rfl rfl ?_
      refine o_off' 14 rfl rfl rfl ?_
      refine o_off' 14 rfl rfl rfl ?_
      refine o_off' 14 rfl rfl rfl ?_
      refine o_off 8 _ rfl rfl hg9 rfl ?_
      refine o_p (p_pickt rfl rfl hg9 rfl) rfl ?_
      refine o_nil ?_
      exact s_join () (by repeat (first | exact sl_n | refine sl_c rfl ?_)) (fun w h => by first | exact h | exact h.ent (by repeat (first | exact .nil | refine .cons (by repeat (first | exact .here | apply Pick.there)) ?_)))) ?_
  refine o_nil ?_
  refine s_cond rfl (fun h11 => ?_) (fun h11 => ?_)
  · try simp only [decide_eq_true_eq, decide_eq_false_iff_not, Bool.not_eq_true', Bool.not_eq_false', Bool.and_eq_true, Bool.or_eq_true, Bool.and_eq_false_iff, Bool.or_eq_false_iff, Bool.not_true, Bool.not_false] at h11
    have hno : likeB fs st.length = false := by simp only [fewB, List.all_cons, List.all_nil, Bool.and_true, Bool.or_eq_true, Bool.and_eq_true, decide_eq_true_eq, Bool.not_eq_true', decide_eq_false_iff_not, Bool.and_eq_false_iff] at h11; cases hl : likeB fs st.length with | false => rfl | true => exfalso; simp only [likeB, Bool.and_eq_true, Bool.or_eq_true, decide_eq_true_eq] at hl; omega
    refine s_seq ?_
    refine s_region ?_
    refine o_p (p_pure rfl) rfl ?_
    refine o_nil ?_
    exact s_retv (rs := [.tmp 2]) rfl (.tmp rfl (.nil)) (fun w' h' => ⟨by rw [hno]; rfl, h'.below⟩)
  · try simp only [decide_eq_true_eq, decide_eq_false_iff_not, Bool.not_eq_true', Bool.not_eq_false', Bool.and_eq_true, Bool.or_eq_true, Bool.and_eq_false_iff, Bool.or_eq_false_iff, Bool.not_true, Bool.not_false] at h11
    have hyes : fs.length ≤ 12 ∧ (st.length ≤ 400 ∨ (8193 ≤ st.length ∧ st.length ≤ 8200)) := by simp only [fewB, List.all_cons, List.all_nil, Bool.and_true, Bool.or_eq_false_iff, Bool.and_eq_true, decide_eq_true_eq, Bool.not_eq_false', decide_eq_false_iff_not, Bool.and_eq_false_iff] at h11; omega
    refine s_skip ?_
    refine s_seq ?_
    refine s_seq ?_
    refine s_region ?_
    refine o_p (p_pure rfl) rfl ?_
    refine o_nil ?_
    refine s_block ?_
    refine s_loopI (α := Nat) [2, 3, 22, 23, 24, 25, 26, 27, 28, 29, 30, 31, 32, 33, 34, 35, 36] (fun k => [(3, .int .i64 (k : Int))]) (fun _ => HS w [] [.blk b1 43 3 [.slice a fs.length cap, .int .i64 nc, .string (bs st)]]) (fun k => k ≤ fs.length ∧ (fs.take k).all (fun p => decide (p.2.length ≤ 40)) = true) (fun k => fs.length - k) 0 ⟨by omega, rfl⟩ (by repeat (first | exact sl_n | refine sl_c rfl ?_)) (fun w h => h.ent (by repeat (first | exact .nil | refine .cons (by repeat (first | exact .here | apply Pick.there)) ?_))) (fun k hk => ?_)
    obtain ⟨hk1, hk2⟩ := hk
    refine s_seq ?_
    refine s_seq ?_
    refine s_region ?_
    refine o_p (p_pure rfl) rfl ?_
    refine o_p (p_fieldAddr rfl rfl fd_43_0 sz_41 rfl) rfl ?_
    first | refine o_q (q_load rfl rfl sz_41 (by repeat (first | exact .here | apply Pick.there)) rfl) rfl ?_ | refine o_q (q_load_old rfl rfl sz_41 (hs.rd1 (i := k) (by omega))) rfl ?_
    first | refine o_p (p_len_slice rfl rfl Try.underlying41) rfl ?_ | refine o_q (q_len_own rfl rfl Try.underlying41 (by repeat (first | exact .here | apply Pick.there))) rfl ?_
    refine o_p (p_pure rfl) rfl ?_
    refine o_nil ?_
    refine s_cond rfl (fun h12 => ?_) (fun h12 => ?_)
    · try simp only [decide_eq_true_eq, decide_eq_false_iff_not, Bool.not_eq_true', Bool.not_eq_false', Bool.and_eq_true, Bool.or_eq_true, Bool.and_eq_false_iff, Bool.or_eq_false_iff, Bool.not_true, Bool.not_false] at h12
      refine s_skip ?_
      refine s_seq ?_
      refine s_block ?_
      refine s_seq ?_
      refine s_region ?_
      refine o_p (p_fieldAddr rfl rfl fd_43_0 sz_41 rfl) rfl ?_
      first | refine o_q (q_load rfl rfl sz_41 (by repeat (first | exact .here | apply Pick.there)) rfl) rfl ?_ | refine o_q (q_load_old rfl rfl sz_41 (hs.rd1 (i := k) (by omega))) rfl ?_
      refine o_p (p_pure rfl) rfl ?_
      first | refine o_p (p_indexAddr rfl rfl rfl sl_41 (k) (by omega) (by omega) rfl) rfl ?_ | refine o_p (p_indexAddr rfl rfl rfl sl_41 (k) (by omega) (by omega) (Sl.some hs (by omega))) rfl ?_
      refine o_p (p_fieldAddr rfl rfl fd_96_1 sz_9 rfl) rfl ?_
      first | refine o_q (q_load rfl rfl sz_9 (by repeat (first | exact .here | apply Pick.there)) rfl) rfl ?_ | refine o_q (q_load_old rfl rfl sz_9 (hs.rd1 (i := k) (by omega))) rfl ?_
      refine o_p (p_len_str rfl rfl Try.underlying9) rfl ?_
      refine o_p (p_pure rfl) rfl ?_
      refine o_nil ?_
      refine s_cond rfl (fun h13 => ?_) (fun h13 => ?_)
      · try simp only [decide_eq_true_eq, decide_eq_false_iff_not, Bool.not_eq_true', Bool.not_eq_false', Bool.and_eq_true, Bool.or_eq_true, Bool.and_eq_false_iff, Bool.or_eq_false_iff, Bool.not_true, Bool.not_false] at h13
        refine s_seq ?_
        refine s_region ?_
        refine o_p (p_pure rfl) rfl ?_
        refine o_nil ?_
        exact s_retv (rs := [.tmp 2]) rfl (.tmp rfl (.nil)) (fun w' h' => ⟨by have hno : likeB fs st.length = false := (by unfold likeB; rw [all_no (k := k) (by omega) (by simp only [decide_eq_false_iff_not]; omega), Bool.and_false]); rw [hno]; rfl, h'.below⟩)
      · try simp only [decide_eq_true_eq, decide_eq_false_iff_not, Bool.not_eq_true', Bool.not_eq_false', Bool.and_eq_true, Bool.or_eq_true, Bool.and_eq_false_iff, Bool.or_eq_false_iff, Bool.not_true, Bool.not_false] at h13
        refine s_skip ?_
        refine s_blk ?_
        refine s_region ?_
        refine o_p (p_pure rfl) rfl ?_
        refine o_p (p_pure rfl) rfl ?_
        try (refine o_slot (i64w (by omega) (by omega)) ?_)
        refine o_p (p_pure rfl) rfl ?_
        refine o_nil ?_
        exact s_backI (k+1) (by omega) ⟨by omega, all_take_succ (by omega) hk2 (by simp only [decide_eq_true_eq]; omega)⟩ (by repeat (first | exact sl_n | refine sl_c rfl ?_)) (fun w h => h.ent (by repeat (first | exact .nil | refine .cons (by repeat (first | exact .here | apply Pick.there)) ?_)))
    · try simp only [decide_eq_true_eq, decide_eq_false_iff_not, Bool.not_eq_true', Bool.not_eq_false', Bool.and_eq_true, Bool.or_eq_true, Bool.and_eq_false_iff, Bool.or_eq_false_iff, Bool.not_true, Bool.not_false] at h12
      refine s_exit_to rfl ?_
      refine s_seq ?_
      refine s_region ?_
      refine o_p (p_pure rfl) rfl ?_
      refine o_nil ?_
      exact s_retv (rs := [.tmp 2]) rfl (.tmp rfl (.nil)) (fun w' h' => ⟨by have hya : likeB fs st.length = true := (by unfold likeB; rw [← List.take_of_length_le (l := fs) (i := k) (by omega), hk2, List.take_of_length_le (by omega)]; simp; omega); rw [hya]; rfl, h'.below⟩)

set_option maxRecDepth 20000 in
theorem c41v (w : World) (a : Option Addr) (cap : Nat) (fs : Fds) (hs : Fl w a fs) (hm : fs.length ≤ 1000) : Calls Try.prog 41 #[.slice a fs.length cap] w fun en w' => ∃ v : Value, en = .returned v ∧ True ∧ HS w [] [.own v 96 2 fs.length (flatF fs)] w' := by
  refine enter (args := [_]) Try.func41 Try.ntmps41 rfl rfl (HS.refl w []) ?_
  refine s_seq ?_
  refine s_region ?_
  refine o_p (p_pure rfl) rfl ?_
  refine o_nil ?_
  refine s_seq ?_
  refine s_region ?_
  refine o_h (h_buildSlice0 rfl sl_41) rfl (fun b1 _ => ?_)
  refine o_p (p_pure rfl) rfl ?_
  refine o_h (h_append (flatF fs) rfl rfl rfl sl_41 Try.underlying41 zr_96 rfl (by repeat (first | exact .here | apply Pick.there)) (fun w h => hs.src h) (flatF_length fs) (flatF_one fs) (by omega) (by simp only [maxLen]; omega)) rfl (fun b2 _ => ?_)
  refine o_p (p_pure rfl) rfl ?_
  refine o_nil ?_
  exact s_retv (rs := [.tmp 2]) rfl (.tmp rfl (.nil)) (fun w' h' => ⟨_, rfl, trivial, by have h2 := h'; rw [Nat.zero_add, List.nil_append] at h2; exact h2.ent (by repeat (first | exact .nil | refine .cons (by repeat (first | exact .here | apply Pick.there)) ?_))⟩)

theorem x41 (w : World) (a : Option Addr) (cap : Nat) (fs : Fds) (hs : Fl w a fs) (hm : fs.length ≤ 1000) : Calls Try.prog 41 #[.slice a fs.length cap] w fun en w' => ∃ g : Option Addr × Nat, en = .returned (.slice g.1 fs.length g.2) ∧ True ∧ HS w [] [.own (.slice g.1 fs.length g.2) 96 2 fs.length (flatF fs)] w' := by
  refine Calls.mono (c41v w a cap fs hs hm) fun en w' hh => ?_
  obtain ⟨v, rfl, _, h⟩ := hh
  obtain ⟨a', cap', rfl, _⟩ := h.head.form
  exact ⟨(a', cap'), rfl, trivial, h⟩

set_option maxRecDepth 20000 in
theorem c25 (w : World) (a : Option Addr) (cap : Nat) (fs : Fds) (nc : Int) (st : List UInt8) (hs : Fl w a fs) (hm : fs.length ≤ 1000) : Calls Try.prog 25 #[.agg #[.slice a fs.length cap, .int .i64 nc, .string (bs st)]] w fun en w' => ∃ g : Option Addr × Nat, en = .returned (.agg #[.slice g.1 fs.length g.2, .int .i64 nc, .string (bs st)]) ∧ True ∧ HS w [] [.own (.slice g.1 fs.length g.2) 96 2 fs.length (flatF fs)] w' := by
  refine enter (args := [_]) Try.func25 Try.ntmps25 rfl rfl (HS.refl w []) ?_
  refine s_seq ?_
  refine s_region ?_
  refine o_h (h_box rfl rfl) rfl (fun b1 _ => ?_)
  refine o_h (h_alloc rfl zr_43) rfl (fun b2 _ => ?_)
  refine o_nil ?_
  refine s_seq ?_
  refine s_draw [8] mixed ?_
  refine d_p 0 rfl (p_fieldAddr rfl rfl fd_43_0 sz_41 rfl) (by kernel_rfl) rfl rfl ?_
  refine d_q 1 [[]] rfl (q_load rfl rfl sz_41 (by repeat (first | exact .here | apply Pick.there)) rfl) (by kernel_rfl) (by kernel_rfl) (by kernel_rfl) rfl ?_
  refine d_p 3 rfl (p_fieldAddr rfl rfl fd_43_1 sz_3 rfl) (by kernel_rfl) rfl rfl ?_
  refine d_q 4 [[]] rfl (q_load rfl rfl sz_3 (by repeat (first | exact .here | apply Pick.there)) rfl) (by kernel_rfl) (by kernel_rfl) (by kernel_rfl) rfl ?_
  refine d_p 5 rfl (p_fieldAddr rfl rfl fd_43_2 sz_9 rfl) (by kernel_rfl) rfl rfl ?_
  refine d_q 6 [[]] rfl (q_load rfl rfl sz_9 (by repeat (first | exact .here | apply Pick.there)) rfl) (by kernel_rfl) (by kernel_rfl) (by kernel_rfl) rfl ?_
  refine d_h 2 rfl (h_call rfl fn_41 rfl (fun w1 h1 => x41 w1 _ _ fs (hs.later h1) (by omega))) (by kernel_rfl) (fun w h => h.ent (by repeat (first | exact .nil | refine .cons (by repeat (first | exact .here | apply Pick.there)) ?_))) rfl (fun gf _ => ?_)
  refine d_base (fun w h => h.ent (by repeat (first | exact .nil | refine .cons (by repeat (first | exact .here | apply Pick.there)) ?_))) ?_
  refine d_p 7 rfl (p_build (cs := [_, _, _]) rfl rfl pl_43 zr_43 rfl) (by kernel_rfl) rfl rfl ?_
  refine d_h0 8 rfl (h_store rfl rfl rfl sz_43 rfl (by repeat (first | exact .here | apply Put.there)) (by simp only [setMany_length, List.length_set, List.length_cons, List.length_nil, List.length_map]; omega) rfl) (by kernel_rfl) (fun w h => h.ent (by repeat (first | exact .nil | refine .cons (by repeat (first | exact .here | apply Pick.there)) ?_))) (fun _ _ => ?_)
  refine d_turn [] (by kernel_rfl) ?_
  refine d_nil (by kernel_rfl) (fun w h => h.ent (by repeat (first | exact .nil | refine .cons (by repeat (first | exact .here | apply Pick.there)) ?_))) ?_
  exact s_retv (rs := [.cell 2 43]) rfl (.cell rfl sz_43 (by repeat (first | exact .here | apply Pick.there)) rfl (.nil)) (fun w' h' => ⟨gf, rfl, trivial, h'.ent (by repeat (first | exact .nil | refine .cons (by repeat (first | exact .here | apply Pick.there)) ?_))⟩)

set_option maxRecDepth 20000 in
theorem c47 (w : World) (a b : Option Addr) (cap cap2 : Nat) (fs gs : Fds) (hs : Fl w a fs) (ht : Fl w b gs) (hm : fs.length ≤ 1000) : Calls Try.prog 47 #[.slice a fs.length cap, .slice b gs.length cap2] w fun en w' => en = .returned (.bool (decide (fs = gs))) ∧ Below w.heap.size w w' := by
  refine enter (args := [_, _]) Try.func47 Try.ntmps47 rfl rfl (HS.refl w []) ?_
  refine s_seq ?_
  refine s_region ?_
  refine o_p (p_pure rfl) rfl ?_
  refine o_nil ?_
  refine s_seq ?_
  refine s_seq ?_
  refine s_region ?_
  refine o_p (p_pure rfl) rfl ?_
  first | refine o_p (p_len_slice rfl rfl Try.underlying41) rfl ?_ | refine o_q (q_len_own rfl rfl Try.underlying41 (by repeat (first | exact .here | apply Pick.there))) rfl ?_
  refine o_p (p_pure rfl) rfl ?_
  first | refine o_p (p_len_slice rfl rfl Try.underlying41) rfl ?_ | refine o_q (q_len_own rfl rfl Try.underlying41 (by repeat (first | exact .here | apply Pick.there))) rfl ?_
  refine o_p (p_pure rfl) rfl ?_
  refine o_nil ?_
  refine s_cond rfl (fun h1 => ?_) (fun h1 => ?_)
  · try simp only [decide_eq_true_eq, decide_eq_false_iff_not, Bool.not_eq_true', Bool.not_eq_false', Bool.and_eq_true, Bool.or_eq_true, Bool.and_eq_false_iff, Bool.or_eq_false_iff, Bool.not_true, Bool.not_false] at h1
    refine s_seq ?_
    refine s_region ?_
    refine o_p (p_pure rfl) rfl ?_
    refine o_nil ?_
    exact s_retv (rs := [.tmp 4]) rfl (.tmp rfl (.nil)) (fun w' h' => ⟨by have hne : ¬ fs = gs := (by intro e; subst e; omega); rw [decide_eq_false hne]; rfl, h'.below⟩)
  · try simp only [decide_eq_true_eq, decide_eq_false_iff_not, Bool.not_eq_true', Bool.not_eq_false', Bool.and_eq_true, Bool.or_eq_true, Bool.and_eq_false_iff, Bool.or_eq_false_iff, Bool.not_true, Bool.not_false] at h1
    refine s_skip ?_
    refine s_seq ?_
    refine s_seq ?_
    refine s_region ?_
    refine o_p (p_pure rfl) rfl ?_
    refine o_nil ?_
    refine s_block ?_
    have hlen : fs.length = gs.length := by omega
    refine s_loopI (α := Nat) [4, 5, 11, 12, 13, 14, 15, 16, 17, 18, 19, 20, 21, 22, 23, 24, 25] (fun k => [(5, .int .i64 (k : Int))]) (fun _ => _) (fun k => k ≤ fs.length ∧ fs.take k = gs.take k) (fun k => fs.length - k) 0 ⟨by omega, rfl⟩ (by repeat (first | exact sl_n | refine sl_c rfl ?_)) (fun w h => h) (fun k hk => ?_)
    obtain ⟨hk1, hk2⟩ := hk
    refine s_seq ?_
    refine s_seq ?_
    refine s_region ?_
    refine o_p (p_pure rfl) rfl ?_
    refine o_p (p_pure rfl) rfl ?_
    first | refine o_p (p_len_slice rfl rfl Try.underlying41) rfl ?_ | refine o_q (q_len_own rfl rfl Try.underlying41 (by repeat (first | exact .here | apply Pick.there))) rfl ?_
    refine o_p (p_pure rfl) rfl ?_
    refine o_nil ?_
    refine s_cond rfl (fun h2 => ?_) (fun h2 => ?_)
    · try simp only [decide_eq_true_eq, decide_eq_false_iff_not, Bool.not_eq_true', Bool.not_eq_false', Bool.and_eq_true, Bool.or_eq_true, Bool.and_eq_false_iff, Bool.or_eq_false_iff, Bool.not_true, Bool.not_false] at h2
      refine s_skip ?_
      refine s_seq ?_
      refine s_block ?_
      refine s_seq ?_
      refine s_draw [] mixed ?_
      refine d_p 0 rfl (p_pure rfl) (by kernel_rfl) rfl rfl ?_
      refine d_p 1 rfl (p_pure rfl) (by kernel_rfl) rfl rfl ?_
      first | refine d_p 2 rfl (p_indexAddr rfl rfl rfl sl_41 (k) (by omega) (by omega) rfl) (by kernel_rfl) rfl rfl ?_ | refine d_p 2 rfl (p_indexAddr rfl rfl rfl sl_41 (k) (by omega) (by omega) (Sl.some hs (by omega))) (by kernel_rfl) rfl rfl ?_ | refine d_p 2 rfl (p_indexAddr rfl rfl rfl sl_41 (k) (by omega) (by omega) (Sl.some ht (by omega))) (by kernel_rfl) rfl rfl ?_
      refine d_q 3 [] rfl (q_load_oldn _ rfl rfl sz_96 rfl (hs.rd (i := k) (by omega))) (by kernel_rfl) (by kernel_rfl) (by kernel_rfl) rfl ?_
      refine d_p 4 rfl (p_pure rfl) (by kernel_rfl) rfl rfl ?_
      refine d_p 5 rfl (p_pure rfl) (by kernel_rfl) rfl rfl ?_
      first | refine d_p 6 rfl (p_indexAddr rfl rfl rfl sl_41 (k) (by omega) (by omega) rfl) (by kernel_rfl) rfl rfl ?_ | refine d_p 6 rfl (p_indexAddr rfl rfl rfl sl_41 (k) (by omega) (by omega) (Sl.some hs (by omega))) (by kernel_rfl) rfl rfl ?_ | refine d_p 6 rfl (p_indexAddr rfl rfl rfl sl_41 (k) (by omega) (by omega) (Sl.some ht (by omega))) (by kernel_rfl) rfl rfl ?_
      refine d_q 7 [] rfl (q_load_oldn _ rfl rfl sz_96 rfl (ht.rd (i := k) (by omega))) (by kernel_rfl) (by kernel_rfl) (by kernel_rfl) rfl ?_
      refine d_p 8 rfl (p_neq_agg rfl rfl rfl eqk_96 (by rfl) (by rfl) (by rfl)) (by kernel_rfl) rfl rfl ?_
      refine d_nil (by kernel_rfl) (fun w h => h.ent (by repeat (first | exact .nil | refine .cons (by repeat (first | exact .here | apply Pick.there)) ?_))) ?_
      refine s_cond rfl (fun h3 => ?_) (fun h3 => ?_)
      · try simp only [decide_eq_true_eq, decide_eq_false_iff_not, Bool.not_eq_true', Bool.not_eq_false', Bool.and_eq_true, Bool.or_eq_true, Bool.and_eq_false_iff, Bool.or_eq_false_iff, Bool.not_true, Bool.not_false] at h3
        refine s_seq ?_
        refine s_region ?_
        refine o_p (p_pure rfl) rfl ?_
        refine o_nil ?_
        exact s_retv (rs := [.tmp 4]) rfl (.tmp rfl (.nil)) (fun w' h' => ⟨by have hne : ¬ fs = gs := (by intro e; subst e; simp at h3); rw [decide_eq_false hne]; rfl, h'.below⟩)
      · try simp only [decide_eq_true_eq, decide_eq_false_iff_not, Bool.not_eq_true', Bool.not_eq_false', Bool.and_eq_true, Bool.or_eq_true, Bool.and_eq_false_iff, Bool.or_eq_false_iff, Bool.not_true, Bool.not_false] at h3
        refine s_skip ?_
        refine s_blk ?_
        refine s_region ?_
        refine o_p (p_pure rfl) rfl ?_
        refine o_p (p_pure rfl) rfl ?_
        try (refine o_slot (i64w (by omega) (by omega)) ?_)
        refine o_p (p_pure rfl) rfl ?_
        refine o_nil ?_
        have heq : fd fs k = fd gs k := by have h9 := h3; simp at h9; exact Prod.ext h9.1 h9.2
        exact s_backI (k+1) (by omega) ⟨by omega, take_eq_succ (by omega) (by omega) hk2 heq⟩ (by repeat (first | exact sl_n | refine sl_c rfl ?_)) (fun w h => h)
    · try simp only [decide_eq_true_eq, decide_eq_false_iff_not, Bool.not_eq_true', Bool.not_eq_false', Bool.and_eq_true, Bool.or_eq_true, Bool.and_eq_false_iff, Bool.or_eq_false_iff, Bool.not_true, Bool.not_false] at h2
      refine s_exit_to rfl ?_
      refine s_seq ?_
      refine s_region ?_
      refine o_p (p_pure rfl) rfl ?_
      refine o_nil ?_
      exact s_retv (rs := [.tmp 4]) rfl (.tmp rfl (.nil)) (fun w' h' => ⟨by have he : fs = gs := (by rw [List.take_of_length_le (by omega), List.take_of_length_le (by omega)] at hk2; exact hk2); rw [decide_eq_true he]; rfl, h'.below⟩)

end Go.Proofs
