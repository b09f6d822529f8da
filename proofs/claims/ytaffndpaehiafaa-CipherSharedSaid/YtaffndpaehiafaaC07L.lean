/- Contracts of the program's functions, proved by walking them with the rules of the Gx texts; without conditions beyond those that each contract names. -/
import Derived.Test.YtaffndpaehiafaaC07K
namespace Go.Proofs
open Go Go.RowKit Gx
set_option linter.unusedVariables false
set_option linter.unusedSimpArgs false
attribute [local irreducible] Go.Calls Gx.S Gx.O Gx.D Gx.OpP Gx.OpQ Gx.OpH

theorem fn_12 : isFn Try.prog 12 = true := by kernel_rfl
theorem fn_14 : isFn Try.prog 14 = true := by kernel_rfl
theorem fn_15 : isFn Try.prog 15 = true := by kernel_rfl


theorem x15 (w : World) {n0 n1 n2 n3 : Int} (h : isWd n0 ∧ isWd n1 ∧ isWd n2 ∧ isWd n3) : Calls Try.prog 15 #[.agg #[.int .i64 n0, .int .i64 n1, .int .i64 n2, .int .i64 n3]] w fun en w' => en = .returned (.agg #[.int .i64 ((quarter4 ⟨wd n0, wd n1, wd n2, wd n3⟩).a.toNat : Int), .int .i64 ((quarter4 ⟨wd n0, wd n1, wd n2, wd n3⟩).b.toNat : Int), .int .i64 ((quarter4 ⟨wd n0, wd n1, wd n2, wd n3⟩).c.toNat : Int), .int .i64 ((quarter4 ⟨wd n0, wd n1, wd n2, wd n3⟩).d.toNat : Int)]) ∧ Below w.heap.size w w' := by
  have := c15 w ⟨wd n0, wd n1, wd n2, wd n3⟩
  simpa only [wd_toNat h.1, wd_toNat h.2.1, wd_toNat h.2.2.1, wd_toNat h.2.2.2] using this
theorem qof_cases (n0 n1 n2 n3 : Int) : ∃ a b c d e : Int, qof n0 n1 n2 n3 = .tuple #[.agg #[.int .i64 a, .int .i64 b, .int .i64 c, .int .i64 d], .int .i64 e] ∧
    (((isWd n0 ∧ isWd n1 ∧ isWd n2 ∧ isWd n3) ∧ e = 0 ∧ a = (quarter4 ⟨wd n0, wd n1, wd n2, wd n3⟩).a.toNat ∧ b = (quarter4 ⟨wd n0, wd n1, wd n2, wd n3⟩).b.toNat ∧ c = (quarter4 ⟨wd n0, wd n1, wd n2, wd n3⟩).c.toNat ∧ d = (quarter4 ⟨wd n0, wd n1, wd n2, wd n3⟩).d.toNat) ∨
     (¬ (isWd n0 ∧ isWd n1 ∧ isWd n2 ∧ isWd n3) ∧ e = 2 ∧ a = 0 ∧ b = 0 ∧ c = 0 ∧ d = 0)) := by
  unfold qof
  by_cases h : isWd n0 ∧ isWd n1 ∧ isWd n2 ∧ isWd n3
  · rw [if_pos h]; exact ⟨_, _, _, _, _, rfl, .inl ⟨h, rfl, rfl, rfl, rfl, rfl⟩⟩
  · rw [if_neg h]; exact ⟨_, _, _, _, _, rfl, .inr ⟨h, rfl, rfl, rfl, rfl, rfl⟩⟩

set_option maxRecDepth 20000 in
theorem c3 (w : World) (n0 n1 n2 n3 : Int) : Calls Try.prog 3 #[.agg #[.int .i64 n0, .int .i64 n1, .int .i64 n2, .int .i64 n3]] w fun en w' => en = .returned (.bool true) ∧ Below w.heap.size w w' := by
  obtain ⟨a, b, c, d, e, hQ, hcase⟩ := qof_cases n0 n1 n2 n3
  refine enter (args := [_]) Try.func3 Try.ntmps3 rfl rfl (HS.refl w []) ?_
  refine s_seq ?_
  refine s_region ?_
  refine o_h (h_box rfl rfl) rfl (fun b1 _ => ?_)
  refine o_p (p_pure rfl) rfl ?_
  refine o_nil ?_
  refine s_seq ?_
  refine s_seq ?_
  refine s_region ?_
  refine o_q (q_call rfl fn_12 rfl (fun w1 h1 => c12 w1)) rfl ?_
  refine o_p (p_pure rfl) rfl ?_
  refine o_nil ?_
  refine s_cond rfl (fun h2 => ?_) (fun h2 => ?_)
  · try simp only [decide_eq_true_eq, decide_eq_false_iff_not, Bool.not_eq_true', Bool.not_eq_false', Bool.and_eq_true, Bool.or_eq_true, Bool.and_eq_false_iff, Bool.or_eq_false_iff, Bool.not_true, Bool.not_false] at h2
    exfalso; first | omega | (simp at h2; done) | (simp_all; done)
  · try simp only [decide_eq_true_eq, decide_eq_false_iff_not, Bool.not_eq_true', Bool.not_eq_false', Bool.and_eq_true, Bool.or_eq_true, Bool.and_eq_false_iff, Bool.or_eq_false_iff, Bool.not_true, Bool.not_false] at h2
    refine s_skip ?_
    refine s_seq ?_
    refine s_region ?_
    refine o_q (q_loadn rfl rfl sz_22 (by repeat (first | exact .here | apply Pick.there)) rfl) rfl ?_
    refine o_q (q_call rfl fn_13 rfl (fun w1 h1 => c13 w1 _ _ _ _)) rfl ?_
    rw [hQ]
    refine o_p (p_pure rfl) rfl ?_
    refine o_p (p_pure rfl) rfl ?_
    refine o_p (p_pure rfl) rfl ?_
    refine o_h (h_alloc rfl zr_22) rfl (fun b3 _ => ?_)
    refine o_h0 (h_store rfl rfl rfl sz_22 rfl (by repeat (first | exact .here | apply Put.there)) (by simp only [setMany_length, List.length_set, List.length_cons, List.length_nil, List.length_map]; omega) rfl) (fun _ _ => ?_)
    refine o_p (p_pure rfl) rfl ?_
    refine o_nil ?_
    refine s_seq ?_
    refine s_seq ?_
    refine s_region ?_
    refine o_p (p_pure rfl) rfl ?_
    refine o_nil ?_
    refine s_block ?_
    refine s_loopI (α := Nat) [2, 5, 13, 14, 15, 16, 17, 18, 19, 20, 21, 22, 23, 24, 25, 26, 27, 28] (fun k => [(5, .int .i64 (k : Int))]) (fun k => HS w [] [.blk b1 22 4 [.int .i64 n0, .int .i64 n1, .int .i64 n2, .int .i64 n3], .blk b3 22 4 [.int .i64 a, .int .i64 b, .int .i64 c, .int .i64 d]]) (fun k => k ≤ 4 ∧ (0 < k → isWd n0) ∧ (1 < k → isWd n1) ∧ (2 < k → isWd n2) ∧ (3 < k → isWd n3)) (fun k => 4 - k) 0 (by simp) (by repeat (first | exact sl_n | refine sl_c rfl ?_)) (fun w h => h.ent (by repeat (first | exact .nil | refine .cons (by repeat (first | exact .here | apply Pick.there)) ?_))) (fun k hk => ?_)
    obtain ⟨hk0, hk1, hk2, hk3, hk4⟩ := hk
    rcases k with _ | _ | _ | _ | _ | k
    · skip
      refine s_seq ?_
      refine s_seq ?_
      refine s_region ?_
      refine o_p (p_pure rfl) rfl ?_
      refine o_p (p_pure rfl) rfl ?_
      refine o_nil ?_
      refine s_cond rfl (fun h4 => ?_) (fun h4 => ?_)
      · try simp only [decide_eq_true_eq, decide_eq_false_iff_not, Bool.not_eq_true', Bool.not_eq_false', Bool.and_eq_true, Bool.or_eq_true, Bool.and_eq_false_iff, Bool.or_eq_false_iff, Bool.not_true, Bool.not_false] at h4
        refine s_skip ?_
        refine s_seq ?_
        refine s_block ?_
        refine s_seq ?_
        refine s_region ?_
        refine o_p (p_pure rfl) rfl ?_
        refine o_p (p_indexAddr_arr rfl rfl rfl ar_22 0 rfl (by omega)) rfl ?_
        refine o_q (q_load rfl rfl sz_3 (by repeat (first | exact .here | apply Pick.there)) rfl) rfl ?_
        refine o_q (q_call rfl fn_14 rfl (fun w1 h1 => c14 w1 _)) rfl ?_
        refine o_p (p_pure rfl) rfl ?_
        refine o_nil ?_
        refine s_cond rfl (fun h5 => ?_) (fun h5 => ?_)
        · try simp only [decide_eq_true_eq, decide_eq_false_iff_not, Bool.not_eq_true', Bool.not_eq_false', Bool.and_eq_true, Bool.or_eq_true, Bool.and_eq_false_iff, Bool.or_eq_false_iff, Bool.not_true, Bool.not_false] at h5
          refine s_seq ?_
          refine s_region ?_
          refine o_p (p_pure rfl) rfl ?_
          refine o_p (p_pure rfl) rfl ?_
          refine o_p (p_pure rfl) rfl ?_
          refine o_and 4 24 28 _ _ rfl
            (by
              intro hg6
              have hs7 := hg6; try simp only [decide_eq_true_eq, decide_eq_false_iff_not, Bool.not_eq_true', Bool.not_eq_false', Bool.and_eq_true, Bool.or_eq_true, Bool.and_eq_false_iff, Bool.or_eq_false_iff, Bool.not_true, Bool.not_false] at hs7
              refine o_on 24 _ rfl rfl hg6 ?_
              refine o_q (q_loadn rfl rfl sz_22 (by repeat (first | exact .here | apply Pick.there)) rfl) rfl ?_
              refine o_on 24 _ rfl rfl hg6 ?_
              refine o_p (p_build_arr (cs := [_, _, _, _]) rfl rfl ar_22 zr_22 rfl) rfl ?_
              refine o_on 24 _ rfl rfl hg6 ?_
              refine o_p (p_eql_agg rfl rfl rfl eqk_22 (by rfl) (by rfl) (by rfl)) rfl ?_
              refine o_p (p_pickt rfl rfl hg6 rfl) rfl ?_
              refine o_nil ?_
              exact s_join () (by repeat (first | exact sl_n | refine sl_c rfl ?_)) (fun w h => by first | exact h | exact h.ent (by repeat (first | exact .nil | refine .cons (by repeat (first | exact .here | apply Pick.there)) ?_))))
            (by
              intro hg8
              have hs9 := hg8; try simp only [decide_eq_true_eq, decide_eq_false_iff_not, Bool.not_eq_true', Bool.not_eq_false', Bool.and_eq_true, Bool.or_eq_true, Bool.and_eq_false_iff, Bool.or_eq_false_iff, Bool.not_true, Bool.not_false] at hs9
              refine o_off 24 _ rfl rfl hg8 rfl ?_
              refine o_off 24 _ rfl rfl hg8 rfl ?_
              refine o_off 24 _ rfl rfl hg8 rfl ?_
              refine o_p (p_pickf rfl rfl hg8 rfl) rfl ?_
              refine o_nil ?_
              exact s_join () (by repeat (first | exact sl_n | refine sl_c rfl ?_)) (fun w h => by first | exact h | exact h.ent (by repeat (first | exact .nil | refine .cons (by repeat (first | exact .here | apply Pick.there)) ?_)))) ?_
          refine o_p (p_pure rfl) rfl ?_
          refine o_nil ?_
          exact s_retv (rs := [.tmp 2]) rfl (.tmp rfl (.nil)) (fun w' h' => ⟨by obtain ⟨_, rfl, rfl, rfl, rfl, rfl⟩ := hcase.resolve_left (fun hh => by obtain ⟨⟨i0, i1, i2, i3⟩, _⟩ := hh; simp only [isWd] at i0 i1 i2 i3; omega); rfl, h'.below⟩)
        · try simp only [decide_eq_true_eq, decide_eq_false_iff_not, Bool.not_eq_true', Bool.not_eq_false', Bool.and_eq_true, Bool.or_eq_true, Bool.and_eq_false_iff, Bool.or_eq_false_iff, Bool.not_true, Bool.not_false] at h5
          refine s_skip ?_
          refine s_blk ?_
          refine s_region ?_
          refine o_p (p_pure rfl) rfl ?_
          refine o_p (p_pure rfl) rfl ?_
          try (refine o_slot (i64w (by omega) (by omega)) ?_)
          refine o_p (p_pure rfl) rfl ?_
          refine o_nil ?_
          exact s_backI 1 (by omega) (by refine ⟨by omega, ?_, ?_, ?_, ?_⟩ <;> intro _ <;> first | (exfalso; omega) | assumption | (exact hk1 (by omega)) | (exact hk2 (by omega)) | (exact hk3 (by omega)) | (exact hk4 (by omega))) (by repeat (first | exact sl_n | refine sl_c rfl ?_)) (fun w h => h.ent (by repeat (first | exact .nil | refine .cons (by repeat (first | exact .here | apply Pick.there)) ?_)))
      · try simp only [decide_eq_true_eq, decide_eq_false_iff_not, Bool.not_eq_true', Bool.not_eq_false', Bool.and_eq_true, Bool.or_eq_true, Bool.and_eq_false_iff, Bool.or_eq_false_iff, Bool.not_true, Bool.not_false] at h4
        have hall : isWd n0 ∧ isWd n1 ∧ isWd n2 ∧ isWd n3 := ⟨hk1 (by omega), hk2 (by omega), hk3 (by omega), hk4 (by omega)⟩
        obtain ⟨_, rfl, rfl, rfl, rfl, rfl⟩ := hcase.resolve_right (fun hh => hh.1 hall)
        exfalso; first | omega | (simp at h4; done) | (simp_all; done)
    · skip
      refine s_seq ?_
      refine s_seq ?_
      refine s_region ?_
      refine o_p (p_pure rfl) rfl ?_
      refine o_p (p_pure rfl) rfl ?_
      refine o_nil ?_
      refine s_cond rfl (fun h10 => ?_) (fun h10 => ?_)
      · try simp only [decide_eq_true_eq, decide_eq_false_iff_not, Bool.not_eq_true', Bool.not_eq_false', Bool.and_eq_true, Bool.or_eq_true, Bool.and_eq_false_iff, Bool.or_eq_false_iff, Bool.not_true, Bool.not_false] at h10
        refine s_skip ?_
        refine s_seq ?_
        refine s_block ?_
        refine s_seq ?_
        refine s_region ?_
        refine o_p (p_pure rfl) rfl ?_
        refine o_p (p_indexAddr_arr rfl rfl rfl ar_22 1 rfl (by omega)) rfl ?_
        refine o_q (q_load rfl rfl sz_3 (by repeat (first | exact .here | apply Pick.there)) rfl) rfl ?_
        refine o_q (q_call rfl fn_14 rfl (fun w1 h1 => c14 w1 _)) rfl ?_
        refine o_p (p_pure rfl) rfl ?_
        refine o_nil ?_
        refine s_cond rfl (fun h11 => ?_) (fun h11 => ?_)
        · try simp only [decide_eq_true_eq, decide_eq_false_iff_not, Bool.not_eq_true', Bool.not_eq_false', Bool.and_eq_true, Bool.or_eq_true, Bool.and_eq_false_iff, Bool.or_eq_false_iff, Bool.not_true, Bool.not_false] at h11
          refine s_seq ?_
          refine s_region ?_
          refine o_p (p_pure rfl) rfl ?_
          refine o_p (p_pure rfl) rfl ?_
          refine o_p (p_pure rfl) rfl ?_
          refine o_and 4 24 28 _ _ rfl
            (by
              intro hg12
              have hs13 := hg12; try simp only [decide_eq_true_eq, decide_eq_false_iff_not, Bool.not_eq_true', Bool.not_eq_false', Bool.and_eq_true, Bool.or_eq_true, Bool.and_eq_false_iff, Bool.or_eq_false_iff, Bool.not_true, Bool.not_false] at hs13
              refine o_on 24 _ rfl rfl hg12 ?_
              refine o_q (q_loadn rfl rfl sz_22 (by repeat (first | exact .here | apply Pick.there)) rfl) rfl ?_
              refine o_on 24 _ rfl rfl hg12 ?_
              refine o_p (p_build_arr (cs := [_, _, _, _]) rfl rfl ar_22 zr_22 rfl) rfl ?_
              refine o_on 24 _ rfl rfl hg12 ?_
              refine o_p (p_eql_agg rfl rfl rfl eqk_22 (by rfl) (by rfl) (by rfl)) rfl ?_
              refine o_p (p_pickt rfl rfl hg12 rfl) rfl ?_
              refine o_nil ?_
              exact s_join () (by repeat (first | exact sl_n | refine sl_c rfl ?_)) (fun w h => by first | exact h | exact h.ent (by repeat (first | exact .nil | refine .cons (by repeat (first | exact .here | apply Pick.there)) ?_))))
            (by
              intro hg14
              have hs15 := hg14; try simp only [decide_eq_true_eq, decide_eq_false_iff_not, Bool.not_eq_true', Bool.not_eq_false', Bool.and_eq_true, Bool.or_eq_true, Bool.and_eq_false_iff, Bool.or_eq_false_iff, Bool.not_true, Bool.not_false] at hs15
              refine o_off 24 _ rfl rfl hg14 rfl ?_
              refine o_off 24 _ rfl rfl hg14 rfl ?_
              refine o_off 24 _ rfl rfl hg14 rfl ?_
              refine o_p (p_pickf rfl rfl hg14 rfl) rfl ?_
              refine o_nil ?_
              exact s_join () (by repeat (first | exact sl_n | refine sl_c rfl ?_)) (fun w h => by first | exact h | exact h.ent (by repeat (first | exact .nil | refine .cons (by repeat (first | exact .here | apply Pick.there)) ?_)))) ?_
          refine o_p (p_pure rfl) rfl ?_
          refine o_nil ?_
          exact s_retv (rs := [.tmp 2]) rfl (.tmp rfl (.nil)) (fun w' h' => ⟨by obtain ⟨_, rfl, rfl, rfl, rfl, rfl⟩ := hcase.resolve_left (fun hh => by obtain ⟨⟨i0, i1, i2, i3⟩, _⟩ := hh; simp only [isWd] at i0 i1 i2 i3; omega); rfl, h'.below⟩)
        · try simp only [decide_eq_true_eq, decide_eq_false_iff_not, Bool.not_eq_true', Bool.not_eq_false', Bool.and_eq_true, Bool.or_eq_true, Bool.and_eq_false_iff, Bool.or_eq_false_iff, Bool.not_true, Bool.not_false] at h11
          refine s_skip ?_
          refine s_blk ?_
          refine s_region ?_
          refine o_p (p_pure rfl) rfl ?_
          refine o_p (p_pure rfl) rfl ?_
          try (refine o_slot (i64w (by omega) (by omega)) ?_)
          refine o_p (p_pure rfl) rfl ?_
          refine o_nil ?_
          exact s_backI 2 (by omega) (by refine ⟨by omega, ?_, ?_, ?_, ?_⟩ <;> intro _ <;> first | (exfalso; omega) | assumption | (exact hk1 (by omega)) | (exact hk2 (by omega)) | (exact hk3 (by omega)) | (exact hk4 (by omega))) (by repeat (first | exact sl_n | refine sl_c rfl ?_)) (fun w h => h.ent (by repeat (first | exact .nil | refine .cons (by repeat (first | exact .here | apply Pick.there)) ?_)))
      · try simp only [decide_eq_true_eq, decide_eq_false_iff_not, Bool.not_eq_true', Bool.not_eq_false', Bool.and_eq_true, Bool.or_eq_true, Bool.and_eq_false_iff, Bool.or_eq_false_iff, Bool.not_true, Bool.not_false] at h10
        have hall : isWd n0 ∧ isWd n1 ∧ isWd n2 ∧ isWd n3 := ⟨hk1 (by omega), hk2 (by omega), hk3 (by omega), hk4 (by omega)⟩
        obtain ⟨_, rfl, rfl, rfl, rfl, rfl⟩ := hcase.resolve_right (fun hh => hh.1 hall)
        exfalso; first | omega | (simp at h10; done) | (simp_all; done)
    · skip
      refine s_seq ?_
      refine s_seq ?_
      refine s_region ?_
      refine o_p (p_pure rfl) rfl ?_
      refine o_p (p_pure rfl) rfl ?_
      refine o_nil ?_
      refine s_cond rfl (fun h16 => ?_) (fun h16 => ?_)
      · try simp only [decide_eq_true_eq, decide_eq_false_iff_not, Bool.not_eq_true', Bool.not_eq_false', Bool.and_eq_true, Bool.or_eq_true, Bool.and_eq_false_iff, Bool.or_eq_false_iff, Bool.not_true, Bool.not_false] at h16
        refine s_skip ?_
        refine s_seq ?_
        refine s_block ?_
        refine s_seq ?_
        refine s_region ?_
        refine o_p (p_pure rfl) rfl ?_
        refine o_p (p_indexAddr_arr rfl rfl rfl ar_22 2 rfl (by omega)) rfl ?_
        refine o_q (q_load rfl rfl sz_3 (by repeat (first | exact .here | apply Pick.there)) rfl) rfl ?_
        refine o_q (q_call rfl fn_14 rfl (fun w1 h1 => c14 w1 _)) rfl ?_
        refine o_p (p_pure rfl) rfl ?_
        refine o_nil ?_
        refine s_cond rfl (fun h17 => ?_) (fun h17 => ?_)
        · try simp only [decide_eq_true_eq, decide_eq_false_iff_not, Bool.not_eq_true', Bool.not_eq_false', Bool.and_eq_true, Bool.or_eq_true, Bool.and_eq_false_iff, Bool.or_eq_false_iff, Bool.not_true, Bool.not_false] at h17
          refine s_seq ?_
          refine s_region ?_
          refine o_p (p_pure rfl) rfl ?_
          refine o_p (p_pure rfl) rfl ?_
          refine o_p (p_pure rfl) rfl ?_
          refine o_and 4 24 28 _ _ rfl
            (by
              intro hg18
              have hs19 := hg18; try simp only [decide_eq_true_eq, decide_eq_false_iff_not, Bool.not_eq_true', Bool.not_eq_false', Bool.and_eq_true, Bool.or_eq_true, Bool.and_eq_false_iff, Bool.or_eq_false_iff, Bool.not_true, Bool.not_false] at hs19
              refine o_on 24 _ rfl rfl hg18 ?_
              refine o_q (q_loadn rfl rfl sz_22 (by repeat (first | exact .here | apply Pick.there)) rfl) rfl ?_
              refine o_on 24 _ rfl rfl hg18 ?_
              refine o_p (p_build_arr (cs := [_, _, _, _]) rfl rfl ar_22 zr_22 rfl) rfl ?_
              refine o_on 24 _ rfl rfl hg18 ?_
              refine o_p (p_eql_agg rfl rfl rfl eqk_22 (by rfl) (by rfl) (by rfl)) rfl ?_
              refine o_p (p_pickt rfl rfl hg18 rfl) rfl ?_
              refine o_nil ?_
              exact s_join () (by repeat (first | exact sl_n | refine sl_c rfl ?_)) (fun w h => by first | exact h | exact h.ent (by repeat (first | exact .nil | refine .cons (by repeat (first | exact .here | apply Pick.there)) ?_))))
            (by
              intro hg20
              have hs21 := hg20; try simp only [decide_eq_true_eq, decide_eq_false_iff_not, Bool.not_eq_true', Bool.not_eq_false', Bool.and_eq_true, Bool.or_eq_true, Bool.and_eq_false_iff, Bool.or_eq_false_iff, Bool.not_true, Bool.not_false] at hs21
              refine o_off 24 _ rfl rfl hg20 rfl ?_
              refine o_off 24 _ rfl rfl hg20 rfl ?_
              refine o_off 24 _ rfl rfl hg20 rfl ?_
              refine o_p (p_pickf rfl rfl hg20 rfl) rfl ?_
              refine o_nil ?_
              exact s_join () (by repeat (first | exact sl_n | refine sl_c rfl ?_)) (fun w h => by first | exact h | exact h.ent (by repeat (first | exact .nil | refine .cons (by repeat (first | exact .here | apply Pick.there)) ?_)))) ?_
          refine o_p (p_pure rfl) rfl ?_
          refine o_nil ?_
          exact s_retv (rs := [.tmp 2]) rfl (.tmp rfl (.nil)) (fun w' h' => ⟨by obtain ⟨_, rfl, rfl, rfl, rfl, rfl⟩ := hcase.resolve_left (fun hh => by obtain ⟨⟨i0, i1, i2, i3⟩, _⟩ := hh; simp only [isWd] at i0 i1 i2 i3; omega); rfl, h'.below⟩)
        · try simp only [decide_eq_true_eq, decide_eq_false_iff_not, Bool.not_eq_true', Bool.not_eq_false', Bool.and_eq_true, Bool.or_eq_true, Bool.and_eq_false_iff, Bool.or_eq_false_iff, Bool.not_true, Bool.not_false] at h17
          refine s_skip ?_
          refine s_blk ?_
          refine s_region ?_
          refine o_p (p_pure rfl) rfl ?_
          refine o_p (p_pure rfl) rfl ?_
          try (refine o_slot (i64w (by omega) (by omega)) ?_)
          refine o_p (p_pure rfl) rfl ?_
          refine o_nil ?_
          exact s_backI 3 (by omega) (by refine ⟨by omega, ?_, ?_, ?_, ?_⟩ <;> intro _ <;> first | (exfalso; omega) | assumption | (exact hk1 (by omega)) | (exact hk2 (by omega)) | (exact hk3 (by omega)) | (exact hk4 (by omega))) (by repeat (first | exact sl_n | refine sl_c rfl ?_)) (fun w h => h.ent (by repeat (first | exact .nil | refine .cons (by repeat (first | exact .here | apply Pick.there)) ?_)))
      · try simp only [decide_eq_true_eq, decide_eq_false_iff_not, Bool.not_eq_true', Bool.not_eq_false', Bool.and_eq_true, Bool.or_eq_true, Bool.and_eq_false_iff, Bool.or_eq_false_iff, Bool.not_true, Bool.not_false] at h16
        have hall : isWd n0 ∧ isWd n1 ∧ isWd n2 ∧ isWd n3 := ⟨hk1 (by omega), hk2 (by omega), hk3 (by omega), hk4 (by omega)⟩
        obtain ⟨_, rfl, rfl, rfl, rfl, rfl⟩ := hcase.resolve_right (fun hh => hh.1 hall)
        exfalso; first | omega | (simp at h16; done) | (simp_all; done)
    · skip
      refine s_seq ?_
      refine s_seq ?_
      refine s_region ?_
      refine o_p (p_pure rfl) rfl ?_
      refine o_p (p_pure rfl) rfl ?_
      refine o_nil ?_
      refine s_cond rfl (fun h22 => ?_) (fun h22 => ?_)
      · try simp only [decide_eq_true_eq, decide_eq_false_iff_not, Bool.not_eq_true', Bool.not_eq_false', Bool.and_eq_true, Bool.or_eq_true, Bool.and_eq_false_iff, Bool.or_eq_false_iff, Bool.not_true, Bool.not_false] at h22
        refine s_skip ?_
        refine s_seq ?_
        refine s_block ?_
        refine s_seq ?_
        refine s_region ?_
        refine o_p (p_pure rfl) rfl ?_
        refine o_p (p_indexAddr_arr rfl rfl rfl ar_22 3 rfl (by omega)) rfl ?_
        refine o_q (q_load rfl rfl sz_3 (by repeat (first | exact .here | apply Pick.there)) rfl) rfl ?_
        refine o_q (q_call rfl fn_14 rfl (fun w1 h1 => c14 w1 _)) rfl ?_
        refine o_p (p_pure rfl) rfl ?_
        refine o_nil ?_
        refine s_cond rfl (fun h23 => ?_) (fun h23 => ?_)
        · try simp only [decide_eq_true_eq, decide_eq_false_iff_not, Bool.not_eq_true', Bool.not_eq_false', Bool.and_eq_true, Bool.or_eq_true, Bool.and_eq_false_iff, Bool.or_eq_false_iff, Bool.not_true, Bool.not_false] at h23
          refine s_seq ?_
          refine s_region ?_
          refine o_p (p_pure rfl) rfl ?_
          refine o_p (p_pure rfl) rfl ?_
          refine o_p (p_pure rfl) rfl ?_
          refine o_and 4 24 28 _ _ rfl
            (by
              intro hg24
              have hs25 := hg24; try simp only [decide_eq_true_eq, decide_eq_false_iff_not, Bool.not_eq_true', Bool.not_eq_false', Bool.and_eq_true, Bool.or_eq_true, Bool.and_eq_false_iff, Bool.or_eq_false_iff, Bool.not_true, Bool.not_false] at hs25
              refine o_on 24 _ rfl rfl hg24 ?_
              refine o_q (q_loadn rfl rfl sz_22 (by repeat (first | exact .here | apply Pick.there)) rfl) rfl ?_
              refine o_on 24 _ rfl rfl hg24 ?_
              refine o_p (p_build_arr (cs := [_, _, _, _]) rfl rfl ar_22 zr_22 rfl) rfl ?_
              refine o_on 24 _ rfl rfl hg24 ?_
              refine o_p (p_eql_agg rfl rfl rfl eqk_22 (by rfl) (by rfl) (by rfl)) rfl ?_
              refine o_p (p_pickt rfl rfl hg24 rfl) rfl ?_
              refine o_nil ?_
              exact s_join () (by repeat (first | exact sl_n | refine sl_c rfl ?_)) (fun w h => by first | exact h | exact h.ent (by repeat (first | exact .nil | refine .cons (by repeat (first | exact .here | apply Pick.there)) ?_))))
            (by
              intro hg26
              have hs27 := hg26; try simp only [decide_eq_true_eq, decide_eq_false_iff_not, Bool.not_eq_true', Bool.not_eq_false', Bool.and_eq_true, Bool.or_eq_true, Bool.and_eq_false_iff, Bool.or_eq_false_iff, Bool.not_true, Bool.not_false] at hs27
              refine o_off 24 _ rfl rfl hg26 rfl ?_
              refine o_off 24 _ rfl rfl hg26 rfl ?_
              refine o_off 24 _ rfl rfl hg26 rfl ?_
              refine o_p (p_pickf rfl rfl hg26 rfl) rfl ?_
              refine o_nil ?_
              exact s_join () (by repeat (first | exact sl_n | refine sl_c rfl ?_)) (fun w h => by first | exact h | exact h.ent (by repeat (first | exact .nil | refine .cons (by repeat (first | exact .here | apply Pick.there)) ?_)))) ?_
          refine o_p (p_pure rfl) rfl ?_
          refine o_nil ?_
          exact s_retv (rs := [.tmp 2]) rfl (.tmp rfl (.nil)) (fun w' h' => ⟨by obtain ⟨_, rfl, rfl, rfl, rfl, rfl⟩ := hcase.resolve_left (fun hh => by obtain ⟨⟨i0, i1, i2, i3⟩, _⟩ := hh; simp only [isWd] at i0 i1 i2 i3; omega); rfl, h'.below⟩)
        · try simp only [decide_eq_true_eq, decide_eq_false_iff_not, Bool.not_eq_true', Bool.not_eq_false', Bool.and_eq_true, Bool.or_eq_true, Bool.and_eq_false_iff, Bool.or_eq_false_iff, Bool.not_true, Bool.not_false] at h23
          refine s_skip ?_
          refine s_blk ?_
          refine s_region ?_
          refine o_p (p_pure rfl) rfl ?_
          refine o_p (p_pure rfl) rfl ?_
          try (refine o_slot (i64w (by omega) (by omega)) ?_)
          refine o_p (p_pure rfl) rfl ?_
          refine o_nil ?_
          exact s_backI 4 (by omega) (by refine ⟨by omega, ?_, ?_, ?_, ?_⟩ <;> intro _ <;> first | (exfalso; omega) | assumption | (exact hk1 (by omega)) | (exact hk2 (by omega)) | (exact hk3 (by omega)) | (exact hk4 (by omega))) (by repeat (first | exact sl_n | refine sl_c rfl ?_)) (fun w h => h.ent (by repeat (first | exact .nil | refine .cons (by repeat (first | exact .here | apply Pick.there)) ?_)))
      · try simp only [decide_eq_true_eq, decide_eq_false_iff_not, Bool.not_eq_true', Bool.not_eq_false', Bool.and_eq_true, Bool.or_eq_true, Bool.and_eq_false_iff, Bool.or_eq_false_iff, Bool.not_true, Bool.not_false] at h22
        have hall : isWd n0 ∧ isWd n1 ∧ isWd n2 ∧ isWd n3 := ⟨hk1 (by omega), hk2 (by omega), hk3 (by omega), hk4 (by omega)⟩
        obtain ⟨_, rfl, rfl, rfl, rfl, rfl⟩ := hcase.resolve_right (fun hh => hh.1 hall)
        exfalso; first | omega | (simp at h22; done) | (simp_all; done)
    · skip
      refine s_seq ?_
      refine s_seq ?_
      refine s_region ?_
      refine o_p (p_pure rfl) rfl ?_
      refine o_p (p_pure rfl) rfl ?_
      refine o_nil ?_
      refine s_cond rfl (fun h28 => ?_) (fun h28 => ?_)
      · try simp only [decide_eq_true_eq, decide_eq_false_iff_not, Bool.not_eq_true', Bool.not_eq_false', Bool.and_eq_true, Bool.or_eq_true, Bool.and_eq_false_iff, Bool.or_eq_false_iff, Bool.not_true, Bool.not_false] at h28
        exfalso; first | omega | (simp at h28; done) | (simp_all; done)
      · try simp only [decide_eq_true_eq, decide_eq_false_iff_not, Bool.not_eq_true', Bool.not_eq_false', Bool.and_eq_true, Bool.or_eq_true, Bool.and_eq_false_iff, Bool.or_eq_false_iff, Bool.not_true, Bool.not_false] at h28
        have hall : isWd n0 ∧ isWd n1 ∧ isWd n2 ∧ isWd n3 := ⟨hk1 (by omega), hk2 (by omega), hk3 (by omega), hk4 (by omega)⟩
        obtain ⟨_, rfl, rfl, rfl, rfl, rfl⟩ := hcase.resolve_right (fun hh => hh.1 hall)
        refine s_exit_to rfl ?_
        refine s_seq ?_
        refine s_draw [] mixed ?_
        refine d_p 0 rfl (p_pure rfl) (by kernel_rfl) rfl rfl ?_
        refine d_p 1 rfl (p_pure rfl) (by kernel_rfl) rfl rfl ?_
        refine d_p 2 rfl (p_pure rfl) (by kernel_rfl) rfl rfl ?_
        apply d_split 31
        · exact rfl
        · intro hg29
          have hs30 := hg29; try simp only [decide_eq_true_eq, decide_eq_false_iff_not, Bool.not_eq_true', Bool.not_eq_false', Bool.and_eq_true, Bool.or_eq_true, Bool.and_eq_false_iff, Bool.or_eq_false_iff, Bool.not_true, Bool.not_false] at hs30
          refine d_qon 3 31 [] rfl rfl rfl hg29 (q_loadn rfl rfl sz_22 (by repeat (first | exact .here | apply Pick.there)) rfl) (by kernel_rfl) (by kernel_rfl) (by kernel_rfl) rfl ?_
          refine d_qon 4 31 [] rfl rfl rfl hg29 (q_loadn rfl rfl sz_22 (by repeat (first | exact .here | apply Pick.there)) rfl) (by kernel_rfl) (by kernel_rfl) (by kernel_rfl) rfl ?_
          refine d_qon 5 31 [] rfl rfl rfl hg29 (q_call rfl fn_15 rfl (fun w1 h1 => x15 w1 hall)) (by kernel_rfl) (by kernel_rfl) (by kernel_rfl) rfl ?_
          refine d_pon 6 31 rfl rfl rfl hg29 (p_eql_agg rfl rfl rfl eqk_22 (by rfl) (by rfl) (by rfl)) (by kernel_rfl) rfl rfl ?_
          refine d_p 7 rfl (p_pickt rfl rfl hg29 rfl) (by kernel_rfl) rfl rfl ?_
          refine d_p 8 rfl (p_pure rfl) (by kernel_rfl) rfl rfl ?_
          refine d_nil (by kernel_rfl) (fun w h => h.ent (by repeat (first | exact .nil | refine .cons (by repeat (first | exact .here | apply Pick.there)) ?_))) ?_
          exact s_retv (rs := [.tmp 2]) rfl (.tmp rfl (.nil)) (fun w' h' => ⟨by first | (simp; rfl) | exact absurd trivial ‹¬True›, h'.below⟩)
        · intro hg31
          have hs32 := hg31; try simp only [decide_eq_true_eq, decide_eq_false_iff_not, Bool.not_eq_true', Bool.not_eq_false', Bool.and_eq_true, Bool.or_eq_true, Bool.and_eq_false_iff, Bool.or_eq_false_iff, Bool.not_true, Bool.not_false] at hs32
          refine d_off 3 31 rfl rfl rfl hg31 (by kernel_rfl) rfl rfl ?_
          refine d_off 4 31 rfl rfl rfl hg31 (by kernel_rfl) rfl rfl ?_
          refine d_off 5 31 rfl rfl rfl hg31 (by kernel_rfl) rfl rfl ?_
          refine d_off 6 31 rfl rfl rfl hg31 (by kernel_rfl) rfl rfl ?_
          refine d_p 7 rfl (p_pickf rfl rfl hg31 rfl) (by kernel_rfl) rfl rfl ?_
          refine d_p 8 rfl (p_pure rfl) (by kernel_rfl) rfl rfl ?_
          refine d_nil (by kernel_rfl) (fun w h => h.ent (by repeat (first | exact .nil | refine .cons (by repeat (first | exact .here | apply Pick.there)) ?_))) ?_
          exact s_retv (rs := [.tmp 2]) rfl (.tmp rfl (.nil)) (fun w' h' => ⟨by first | (simp; rfl) | exact absurd trivial ‹¬True›, h'.below⟩)
    · exfalso; omega

end Go.Proofs
