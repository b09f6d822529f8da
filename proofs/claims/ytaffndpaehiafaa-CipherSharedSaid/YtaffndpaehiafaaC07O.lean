/- Contracts of the program's functions, proved by walking them with the rules of the Gx texts; without conditions beyond those that each contract names. -/
import Derived.Test.YtaffndpaehiafaaC07N
namespace Go.Proofs
open Go Go.RowKit Gx
set_option linter.unusedVariables false
set_option linter.unusedSimpArgs false
attribute [local irreducible] Go.Calls Gx.S Gx.O Gx.D Gx.OpP Gx.OpQ Gx.OpH

theorem fn_76 : isFn Try.prog 76 = true := by kernel_rfl
theorem fn_77 : isFn Try.prog 77 = true := by kernel_rfl
theorem fn_78 : isFn Try.prog 78 = true := by kernel_rfl


set_option maxRecDepth 20000 in
theorem c35 (w : World) (key : List UInt8) (n c : Int) (hk : key.length = 8) (hn : isWd n) (hc : isWd c) : Calls Try.prog 35 #[.string (bs key), .int .i64 n, .int .i64 c] w fun en w' => en = .returned (.string (bs (blockB key (wd n) (wd c)))) ∧ Below w.heap.size w w' := by
  have hl0 : (stateL key (wd n) (wd c)).length = 8 := rfl
  refine enter (args := [_, _, _]) Try.func35 Try.ntmps35 rfl rfl (HS.refl w []) ?_
  refine s_seq ?_
  refine s_region ?_
  refine o_p (p_pure rfl) rfl ?_
  refine o_nil ?_
  refine s_seq ?_
  refine s_region ?_
  refine o_p (p_pure rfl) rfl ?_
  refine o_p (p_pure rfl) rfl ?_
  refine o_p (p_pure rfl) rfl ?_
  refine o_h (h_call rfl fn_76 rfl (fun w1 h1 => c76 w1 key n c hk hn hc)) rfl (fun b1 _ => ?_)
  refine o_p (p_pure rfl) rfl ?_
  refine o_nil ?_
  refine s_seq ?_
  refine s_region ?_
  refine o_p (p_pure rfl) rfl ?_
  refine o_p (p_pure rfl) rfl ?_
  refine o_nil ?_
  refine s_seq ?_
  refine s_seq ?_
  refine s_region ?_
  refine o_p (p_pure rfl) rfl ?_
  refine o_nil ?_
  refine s_block ?_
  refine s_loopI (α := Nat × Nat × Nat) [8, 9, 17, 18, 19, 20, 21, 22, 23, 24, 25, 26, 27, 28, 29, 30, 31, 32] (fun x => [(9, .int .i64 (x.1 : Int)), (8, .slice (some ⟨pk x.1 b1 x.2.1, 0, none⟩) 8 (pk x.1 8 x.2.2))]) (fun x => HS w [] (pk x.1 [.blk b1 3 8 ((stateL key (wd n) (wd c)).map iv)] [.blk x.2.1 3 (x.2.2 * 1) ((roundN (stateL key (wd n) (wd c)) x.1).map iv), .blk b1 3 8 ((stateL key (wd n) (wd c)).map iv)])) (fun x => x.1 ≤ 6 ∧ (0 < x.1 → 8 ≤ x.2.2)) (fun x => 6 - x.1) (0, 0, 0) (by constructor <;> simp) (by repeat (first | exact sl_n | refine sl_c rfl ?_)) (fun w h => h.ent (by repeat (first | exact .nil | refine .cons (by repeat (first | exact .here | apply Pick.there)) ?_))) (fun ⟨k, bg, bc⟩ hx => ?_)
  obtain ⟨hx1, hx2⟩ := hx
  simp only [] at hx1 hx2
  rcases k with _ | k
  · skip
    try replace hx2 := hx2 (by omega)
    refine s_seq ?_
    refine s_seq ?_
    refine s_region ?_
    refine o_p (p_pure rfl) rfl ?_
    refine o_p (p_pure rfl) rfl ?_
    refine o_nil ?_
    refine s_cond rfl (fun h1 => ?_) (fun h1 => ?_)
    · try simp only [decide_eq_true_eq, decide_eq_false_iff_not, Bool.not_eq_true', Bool.not_eq_false', Bool.and_eq_true, Bool.or_eq_true, Bool.and_eq_false_iff, Bool.or_eq_false_iff, Bool.not_true, Bool.not_false] at h1
      refine s_skip ?_
      refine s_seq ?_
      refine s_block ?_
      refine s_seq ?_
      refine s_region ?_
      refine o_p (p_pure rfl) rfl ?_
      refine o_p (p_build_arr (cs := [_, _, _, _]) rfl rfl ar_22 zr_22 rfl) rfl ?_
      refine o_h (h_call rfl fn_77 rfl (fun w1 h1 => c77 w1 _ _ (stateL key (wd n) (wd c)) 0 2 4 6 (h1.vl_blk (by repeat (first | exact .here | apply Pick.there))) (by (try simp only [turn_length, roundN_length]); rfl) (by decide) (by decide) (by decide) (by decide) (by decide) (by decide) (by decide) (by decide) (by decide) (by decide))) rfl (fun ga hga => ?_)
      refine o_p (p_pure rfl) rfl ?_
      refine o_nil ?_
      refine s_seq ?_
      refine s_region ?_
      refine o_p (p_pure rfl) rfl ?_
      refine o_p (p_build_arr (cs := [_, _, _, _]) rfl rfl ar_22 zr_22 rfl) rfl ?_
      refine o_h (h_call rfl fn_77 rfl (fun w1 h1 => c77 w1 _ _ (turn (stateL key (wd n) (wd c)) 0 2 4 6) 1 3 5 7 (h1.vl_blk (by repeat (first | exact .here | apply Pick.there))) (by (try simp only [turn_length, roundN_length]); rfl) (by decide) (by decide) (by decide) (by decide) (by decide) (by decide) (by decide) (by decide) (by decide) (by decide))) rfl (fun gb hgb => ?_)
      refine o_p (p_pure rfl) rfl ?_
      refine o_nil ?_
      refine s_seq ?_
      refine s_region ?_
      refine o_p (p_pure rfl) rfl ?_
      refine o_p (p_build_arr (cs := [_, _, _, _]) rfl rfl ar_22 zr_22 rfl) rfl ?_
      refine o_h (h_call rfl fn_77 rfl (fun w1 h1 => c77 w1 _ _ (turn (turn (stateL key (wd n) (wd c)) 0 2 4 6) 1 3 5 7) 0 3 4 7 (h1.vl_blk (by repeat (first | exact .here | apply Pick.there))) (by (try simp only [turn_length, roundN_length]); rfl) (by decide) (by decide) (by decide) (by decide) (by decide) (by decide) (by decide) (by decide) (by decide) (by decide))) rfl (fun gc hgc => ?_)
      refine o_p (p_pure rfl) rfl ?_
      refine o_nil ?_
      refine s_region ?_
      refine o_p (p_pure rfl) rfl ?_
      refine o_p (p_build_arr (cs := [_, _, _, _]) rfl rfl ar_22 zr_22 rfl) rfl ?_
      refine o_h (h_call rfl fn_77 rfl (fun w1 h1 => c77 w1 _ _ (turn (turn (turn (stateL key (wd n) (wd c)) 0 2 4 6) 1 3 5 7) 0 3 4 7) 1 2 5 6 (h1.vl_blk (by repeat (first | exact .here | apply Pick.there))) (by (try simp only [turn_length, roundN_length]); rfl) (by decide) (by decide) (by decide) (by decide) (by decide) (by decide) (by decide) (by decide) (by decide) (by decide))) rfl (fun gd hgd => ?_)
      refine o_p (p_pure rfl) rfl ?_
      refine o_nil ?_
      refine s_blk ?_
      refine s_region ?_
      refine o_p (p_pure rfl) rfl ?_
      refine o_p (p_pure rfl) rfl ?_
      try (refine o_slot (i64w (by omega) (by omega)) ?_)
      refine o_p (p_pure rfl) rfl ?_
      refine o_nil ?_
      exact s_backI (1, gd.1, gd.2) (by (try simp only []); omega) ⟨by (try simp only []); omega, fun _ => hgd⟩ (by repeat (first | exact sl_n | refine sl_c rfl ?_)) (fun w h => h.ent (by repeat (first | exact .nil | refine .cons (by repeat (first | exact .here | apply Pick.there)) ?_)))
    · try simp only [decide_eq_true_eq, decide_eq_false_iff_not, Bool.not_eq_true', Bool.not_eq_false', Bool.and_eq_true, Bool.or_eq_true, Bool.and_eq_false_iff, Bool.or_eq_false_iff, Bool.not_true, Bool.not_false] at h1
      exfalso; first | omega | (simp at h1; done) | (simp_all; done)
  · skip
    try replace hx2 := hx2 (by omega)
    refine s_seq ?_
    refine s_seq ?_
    refine s_region ?_
    refine o_p (p_pure rfl) rfl ?_
    refine o_p (p_pure rfl) rfl ?_
    refine o_nil ?_
    refine s_cond rfl (fun h2 => ?_) (fun h2 => ?_)
    · try simp only [decide_eq_true_eq, decide_eq_false_iff_not, Bool.not_eq_true', Bool.not_eq_false', Bool.and_eq_true, Bool.or_eq_true, Bool.and_eq_false_iff, Bool.or_eq_false_iff, Bool.not_true, Bool.not_false] at h2
      refine s_skip ?_
      refine s_seq ?_
      refine s_block ?_
      refine s_seq ?_
      refine s_region ?_
      refine o_p (p_pure rfl) rfl ?_
      refine o_p (p_build_arr (cs := [_, _, _, _]) rfl rfl ar_22 zr_22 rfl) rfl ?_
      refine o_h (h_call rfl fn_77 rfl (fun w1 h1 => c77 w1 _ _ (roundN (stateL key (wd n) (wd c)) (k + 1)) 0 2 4 6 (h1.vl_blk (by repeat (first | exact .here | apply Pick.there))) (by (try simp only [turn_length, roundN_length]); rfl) (by decide) (by decide) (by decide) (by decide) (by decide) (by decide) (by decide) (by decide) (by decide) (by decide))) rfl (fun ga hga => ?_)
      refine o_p (p_pure rfl) rfl ?_
      refine o_nil ?_
      refine s_seq ?_
      refine s_region ?_
      refine o_p (p_pure rfl) rfl ?_
      refine o_p (p_build_arr (cs := [_, _, _, _]) rfl rfl ar_22 zr_22 rfl) rfl ?_
      refine o_h (h_call rfl fn_77 rfl (fun w1 h1 => c77 w1 _ _ (turn (roundN (stateL key (wd n) (wd c)) (k + 1)) 0 2 4 6) 1 3 5 7 (h1.vl_blk (by repeat (first | exact .here | apply Pick.there))) (by (try simp only [turn_length, roundN_length]); rfl) (by decide) (by decide) (by decide) (by decide) (by decide) (by decide) (by decide) (by decide) (by decide) (by decide))) rfl (fun gb hgb => ?_)
      refine o_p (p_pure rfl) rfl ?_
      refine o_nil ?_
      refine s_seq ?_
      refine s_region ?_
      refine o_p (p_pure rfl) rfl ?_
      refine o_p (p_build_arr (cs := [_, _, _, _]) rfl rfl ar_22 zr_22 rfl) rfl ?_
      refine o_h (h_call rfl fn_77 rfl (fun w1 h1 => c77 w1 _ _ (turn (turn (roundN (stateL key (wd n) (wd c)) (k + 1)) 0 2 4 6) 1 3 5 7) 0 3 4 7 (h1.vl_blk (by repeat (first | exact .here | apply Pick.there))) (by (try simp only [turn_length, roundN_length]); rfl) (by decide) (by decide) (by decide) (by decide) (by decide) (by decide) (by decide) (by decide) (by decide) (by decide))) rfl (fun gc hgc => ?_)
      refine o_p (p_pure rfl) rfl ?_
      refine o_nil ?_
      refine s_region ?_
      refine o_p (p_pure rfl) rfl ?_
      refine o_p (p_build_arr (cs := [_, _, _, _]) rfl rfl ar_22 zr_22 rfl) rfl ?_
      refine o_h (h_call rfl fn_77 rfl (fun w1 h1 => c77 w1 _ _ (turn (turn (turn (roundN (stateL key (wd n) (wd c)) (k + 1)) 0 2 4 6) 1 3 5 7) 0 3 4 7) 1 2 5 6 (h1.vl_blk (by repeat (first | exact .here | apply Pick.there))) (by (try simp only [turn_length, roundN_length]); rfl) (by decide) (by decide) (by decide) (by decide) (by decide) (by decide) (by decide) (by decide) (by decide) (by decide))) rfl (fun gd hgd => ?_)
      refine o_p (p_pure rfl) rfl ?_
      refine o_nil ?_
      refine s_blk ?_
      refine s_region ?_
      refine o_p (p_pure rfl) rfl ?_
      refine o_p (p_pure rfl) rfl ?_
      try (refine o_slot (i64w (by omega) (by omega)) ?_)
      refine o_p (p_pure rfl) rfl ?_
      refine o_nil ?_
      exact s_backI (k + 1 + 1, gd.1, gd.2) (by (try simp only []); omega) ⟨by (try simp only []); omega, fun _ => hgd⟩ (by repeat (first | exact sl_n | refine sl_c rfl ?_)) (fun w h => h.ent (by repeat (first | exact .nil | refine .cons (by repeat (first | exact .here | apply Pick.there)) ?_)))
    · try simp only [decide_eq_true_eq, decide_eq_false_iff_not, Bool.not_eq_true', Bool.not_eq_false', Bool.and_eq_true, Bool.or_eq_true, Bool.and_eq_false_iff, Bool.or_eq_false_iff, Bool.not_true, Bool.not_false] at h2
      refine s_exit_to rfl ?_
      refine s_seq ?_
      refine s_region ?_
      refine o_p (p_pure rfl) rfl ?_
      obtain rfl : k = 5 := by omega
      have hl6 : (roundN (stateL key (wd n) (wd c)) (5 + 1)).length = 8 := by rw [roundN_length]; rfl
      generalize hS6 : roundN (stateL key (wd n) (wd c)) (5 + 1) = s6 at *
      refine o_nil ?_
      refine s_seq ?_
      refine s_seq ?_
      refine s_region ?_
      refine o_p (p_pure rfl) rfl ?_
      refine o_nil ?_
      refine s_block ?_
      refine s_loopI (α := Nat) [10, 11, 33, 34, 35, 36, 37, 38, 39, 40, 41, 42, 43, 44, 45, 46, 47, 48, 49, 50, 51] (fun i => [(11, .int .i64 (i : Int)), (10, .string (bs (wb (addL s6 (stateL key (wd n) (wd c))) i)))]) (fun i => HS w [] [.blk bg 3 (bc * 1) (s6.map iv), .blk b1 3 8 ((stateL key (wd n) (wd c)).map iv)]) (fun i => i ≤ 8) (fun i => 8 - i) 0 (by omega) (by repeat (first | exact sl_n | refine sl_c rfl ?_)) (fun w h => h.ent (by repeat (first | exact .nil | refine .cons (by repeat (first | exact .here | apply Pick.there)) ?_))) (fun i hi => ?_)
      have hba := (s6.getD i 0).toNat_lt
      have hbb := ((stateL key (wd n) (wd c)).getD i 0).toNat_lt
      have hbl := wb_length (addL s6 (stateL key (wd n) (wd c))) i
      refine s_seq ?_
      refine s_seq ?_
      refine s_region ?_
      refine o_p (p_pure rfl) rfl ?_
      refine o_p (p_pure rfl) rfl ?_
      first | refine o_p (p_len_slice rfl rfl Try.underlying115) rfl ?_ | refine o_q (q_len_own rfl rfl Try.underlying115 (by repeat (first | exact .here | apply Pick.there))) rfl ?_
      refine o_p (p_pure rfl) rfl ?_
      refine o_nil ?_
      refine s_cond rfl (fun h3 => ?_) (fun h3 => ?_)
      · try simp only [decide_eq_true_eq, decide_eq_false_iff_not, Bool.not_eq_true', Bool.not_eq_false', Bool.and_eq_true, Bool.or_eq_true, Bool.and_eq_false_iff, Bool.or_eq_false_iff, Bool.not_true, Bool.not_false] at h3
        refine s_skip ?_
        refine s_seq ?_
        refine s_block ?_
        refine s_draw [] mixed ?_
        refine d_p 0 rfl (p_pure rfl) (by kernel_rfl) rfl rfl ?_
        refine d_p 1 rfl (p_pure rfl) (by kernel_rfl) rfl rfl ?_
        refine d_p 2 rfl (p_pure rfl) (by kernel_rfl) rfl rfl ?_
        refine d_p 3 rfl (p_indexAddr rfl rfl rfl sl_115 (i) (by omega) (by omega) rfl) (by kernel_rfl) rfl rfl ?_
        refine d_q 4 [] rfl (q_load (v := iv (s6.getD i 0)) rfl rfl sz_3 (by repeat (first | exact .here | apply Pick.there)) (by rw [Nat.zero_add, Nat.mul_one]; exact getiv (by omega))) (by kernel_rfl) (by kernel_rfl) (by kernel_rfl) rfl ?_
        refine d_p 5 rfl (p_pure rfl) (by kernel_rfl) rfl rfl ?_
        refine d_p 6 rfl (p_pure rfl) (by kernel_rfl) rfl rfl ?_
        refine d_p 7 rfl (p_indexAddr rfl rfl rfl sl_115 (i) (by omega) (by omega) rfl) (by kernel_rfl) rfl rfl ?_
        refine d_q 8 [] rfl (q_load (v := iv ((stateL key (wd n) (wd c)).getD i 0)) rfl rfl sz_3 (by repeat (first | exact .here | apply Pick.there)) (by rw [Nat.zero_add, Nat.mul_one]; exact getiv (by omega))) (by kernel_rfl) (by kernel_rfl) (by kernel_rfl) rfl ?_
        refine d_p 9 rfl (p_pure rfl) (by kernel_rfl) rfl rfl ?_
        try (refine d_slot (i64w (by omega) (by omega)) ?_)
        first | refine d_p 10 rfl (p_rem_nn rfl rfl rfl (by omega) (by omega)) (by kernel_rfl) rfl rfl ?_ | refine d_p 10 rfl (p_rem rfl rfl rfl (by decide)) (by kernel_rfl) rfl rfl ?_ | refine d_p 10 rfl (p_rem rfl rfl rfl (by omega)) (by kernel_rfl) rfl rfl ?_
        refine d_slot (u16mod _ _) ?_
        refine d_q 11 [] rfl (q_call rfl fn_78 rfl (fun w1 h1 => c78 w1 (s6.getD i 0 + (stateL key (wd n) (wd c)).getD i 0).toNat 2 (by have := (s6.getD i 0 + (stateL key (wd n) (wd c)).getD i 0).toNat_lt; omega) (by decide))) (by kernel_rfl) (by kernel_rfl) (by kernel_rfl) rfl ?_
        refine d_p 12 rfl (p_str_add rfl rfl rfl (by (try simp only [List.length_append, List.length_cons, List.length_nil, List.length_replicate, List.length_take, List.length_drop, leB_length]); omega)) (by kernel_rfl) rfl rfl ?_
        refine d_p 13 rfl (p_pure rfl) (by kernel_rfl) rfl rfl ?_
        refine d_nil (by kernel_rfl) (fun w h => h.ent (by repeat (first | exact .nil | refine .cons (by repeat (first | exact .here | apply Pick.there)) ?_))) ?_
        refine s_blk ?_
        refine s_region ?_
        refine o_p (p_pure rfl) rfl ?_
        refine o_p (p_pure rfl) rfl ?_
        try (refine o_slot (i64w (by omega) (by omega)) ?_)
        refine o_p (p_pure rfl) rfl ?_
        refine o_nil ?_
        exact s_backI (i + 1) (by omega) (by omega) (sl_c rfl (sl_c (congrArg (fun e => some (Value.string (bs e))) (by rw [wb, addL_get _ _ (by omega)]; rfl)) (by repeat (first | exact sl_n | refine sl_c rfl ?_)))) (fun w h => h.ent (by repeat (first | exact .nil | refine .cons (by repeat (first | exact .here | apply Pick.there)) ?_)))
      · try simp only [decide_eq_true_eq, decide_eq_false_iff_not, Bool.not_eq_true', Bool.not_eq_false', Bool.and_eq_true, Bool.or_eq_true, Bool.and_eq_false_iff, Bool.or_eq_false_iff, Bool.not_true, Bool.not_false] at h3
        refine s_exit_to rfl ?_
        refine s_seq ?_
        refine s_region ?_
        refine o_p (p_pure rfl) rfl ?_
        refine o_p (p_pure rfl) rfl ?_
        refine o_nil ?_
        exact s_retv (rs := [.tmp 6]) rfl (.tmp rfl (.nil)) (fun w' h' => ⟨by obtain rfl : i = 8 := (by omega); unfold blockB; rw [hS6]; rfl, h'.below⟩)

set_option maxRecDepth 20000 in
theorem c34 (w : World) (key : List UInt8) (n c : Int) : Calls Try.prog 34 #[.string (bs key), .int .i64 n, .int .i64 c] w fun en w' => en = .returned (.int .i64 (blokE key n c)) ∧ Below w.heap.size w w' := by
  refine enter (args := [_, _, _]) Try.func34 Try.ntmps34 rfl rfl (HS.refl w []) ?_
  refine s_seq ?_
  refine s_region ?_
  refine o_p (p_pure rfl) rfl ?_
  refine o_nil ?_
  refine s_seq ?_
  refine s_seq ?_
  refine s_region ?_
  refine o_p (p_pure rfl) rfl ?_
  refine o_q (q_call rfl fn_19 rfl (fun w1 h1 => c19 w1 _)) rfl ?_
  refine o_p (p_pure rfl) rfl ?_
  refine o_nil ?_
  refine s_seq ?_
  refine s_region ?_
  refine o_p (p_pure rfl) rfl ?_
  refine o_p (p_pure rfl) rfl ?_
  refine o_nil ?_
  refine s_cond rfl (fun h1 => ?_) (fun h1 => ?_)
  · try simp only [decide_eq_true_eq, decide_eq_false_iff_not, Bool.not_eq_true', Bool.not_eq_false', Bool.and_eq_true, Bool.or_eq_true, Bool.and_eq_false_iff, Bool.or_eq_false_iff, Bool.not_true, Bool.not_false] at h1
    refine s_seq ?_
    refine s_region ?_
    refine o_p (p_pure rfl) rfl ?_
    refine o_p (p_pure rfl) rfl ?_
    refine o_nil ?_
    exact s_retv (rs := [.tmp 6]) rfl (.tmp rfl (.nil)) (fun w' h' => ⟨by have := keyE_or key; simp only [retV, blokE]; grind, h'.below⟩)
  · try simp only [decide_eq_true_eq, decide_eq_false_iff_not, Bool.not_eq_true', Bool.not_eq_false', Bool.and_eq_true, Bool.or_eq_true, Bool.and_eq_false_iff, Bool.or_eq_false_iff, Bool.not_true, Bool.not_false] at h1
    refine s_skip ?_
    refine s_seq ?_
    refine s_seq ?_
    refine s_region ?_
    refine o_p (p_pure rfl) rfl ?_
    refine o_q (q_call rfl fn_14 rfl (fun w1 h1 => c14 w1 _)) rfl ?_
    refine o_p (p_pure rfl) rfl ?_
    refine o_p (p_pure rfl) rfl ?_
    refine o_or 4 16 20 _ _ rfl
      (by
        intro hg2
        have hs3 := hg2; try simp only [decide_eq_true_eq, decide_eq_false_iff_not, Bool.not_eq_true', Bool.not_eq_false', Bool.and_eq_true, Bool.or_eq_true, Bool.and_eq_false_iff, Bool.or_eq_false_iff, Bool.not_true, Bool.not_false] at hs3
        refine o_on 16 _ rfl rfl hg2 ?_
        refine o_p (p_pure rfl) rfl ?_
        refine o_on 16 _ rfl rfl hg2 ?_
        refine o_q (q_call rfl fn_14 rfl (fun w1 h1 => c14 w1 _)) rfl ?_
        refine o_on 16 _ rfl rfl hg2 ?_
        refine o_p (p_pure rfl) rfl ?_
        refine o_p (p_pickf rfl rfl hg2 rfl) rfl ?_
        refine o_nil ?_
        exact s_join () (by repeat (first | exact sl_n | refine sl_c rfl ?_)) (fun w h => by first | exact h | exact h.ent (by repeat (first | exact .nil | refine .cons (by repeat (first | exact .here | apply Pick.there)) ?_))))
      (by
        intro hg4
        have hs5 := hg4; try simp only [decide_eq_true_eq, decide_eq_false_iff_not, Bool.not_eq_true', Bool.not_eq_false', Bool.and_eq_true, Bool.or_eq_true, Bool.and_eq_false_iff, Bool.or_eq_false_iff, Bool.not_true, Bool.not_false] at hs5
        refine o_off 16 _ rfl rfl hg4 rfl ?_
        refine o_off 16 _ rfl rfl hg4 rfl ?_
        refine o_off 16 _ rfl rfl hg4 rfl ?_
        refine o_p (p_pickt rfl rfl hg4 rfl) rfl ?_
        refine o_nil ?_
        exact s_join () (by repeat (first | exact sl_n | refine sl_c rfl ?_)) (fun w h => by first | exact h | exact h.ent (by repeat (first | exact .nil | refine .cons (by repeat (first | exact .here | apply Pick.there)) ?_)))) ?_
    refine o_nil ?_
    refine s_cond rfl (fun h6 => ?_) (fun h6 => ?_)
    · try simp only [decide_eq_true_eq, decide_eq_false_iff_not, Bool.not_eq_true', Bool.not_eq_false', Bool.and_eq_true, Bool.or_eq_true, Bool.and_eq_false_iff, Bool.or_eq_false_iff, Bool.not_true, Bool.not_false] at h6
      refine s_seq ?_
      refine s_region ?_
      refine o_p (p_pure rfl) rfl ?_
      refine o_nil ?_
      exact s_retv (rs := [.tmp 6]) rfl (.tmp rfl (.nil)) (fun w' h' => ⟨by have := keyE_or key; simp only [retV, blokE]; grind, h'.below⟩)
    · try simp only [decide_eq_true_eq, decide_eq_false_iff_not, Bool.not_eq_true', Bool.not_eq_false', Bool.and_eq_true, Bool.or_eq_true, Bool.and_eq_false_iff, Bool.or_eq_false_iff, Bool.not_true, Bool.not_false] at h6
      refine s_skip ?_
      refine s_seq ?_
      refine s_region ?_
      refine o_p (p_pure rfl) rfl ?_
      refine o_nil ?_
      exact s_retv (rs := [.tmp 6]) rfl (.tmp rfl (.nil)) (fun w' h' => ⟨by have := keyE_or key; simp only [retV, blokE]; grind, h'.below⟩)

set_option maxRecDepth 20000 in
theorem c36 (w : World) (key : List UInt8) (n at' : Int) (data : List UInt8) (hd : data.length ≤ 9223372036854775807) : Calls Try.prog 36 #[.string (bs key), .int .i64 n, .int .i64 at', .string (bs data)] w fun en w' => en = .returned (.int .i64 (crypE key n at' data.length)) ∧ Below w.heap.size w w' := by
  refine enter (args := [_, _, _, _]) Try.func36 Try.ntmps36 rfl rfl (HS.refl w []) ?_
  refine s_seq ?_
  refine s_region ?_
  refine o_p (p_pure rfl) rfl ?_
  refine o_nil ?_
  refine s_seq ?_
  refine s_seq ?_
  refine s_region ?_
  refine o_p (p_pure rfl) rfl ?_
  refine o_q (q_call rfl fn_19 rfl (fun w1 h1 => c19 w1 _)) rfl ?_
  refine o_p (p_pure rfl) rfl ?_
  refine o_nil ?_
  refine s_seq ?_
  refine s_region ?_
  refine o_p (p_pure rfl) rfl ?_
  refine o_p (p_pure rfl) rfl ?_
  refine o_nil ?_
  refine s_cond rfl (fun h1 => ?_) (fun h1 => ?_)
  · try simp only [decide_eq_true_eq, decide_eq_false_iff_not, Bool.not_eq_true', Bool.not_eq_false', Bool.and_eq_true, Bool.or_eq_true, Bool.and_eq_false_iff, Bool.or_eq_false_iff, Bool.not_true, Bool.not_false] at h1
    refine s_seq ?_
    refine s_region ?_
    refine o_p (p_pure rfl) rfl ?_
    refine o_p (p_pure rfl) rfl ?_
    refine o_nil ?_
    exact s_retv (rs := [.tmp 8]) rfl (.tmp rfl (.nil)) (fun w' h' => ⟨by have := keyE_or key; simp only [retV, crypE]; grind, h'.below⟩)
  · try simp only [decide_eq_true_eq, decide_eq_false_iff_not, Bool.not_eq_true', Bool.not_eq_false', Bool.and_eq_true, Bool.or_eq_true, Bool.and_eq_false_iff, Bool.or_eq_false_iff, Bool.not_true, Bool.not_false] at h1
    refine s_skip ?_
    refine s_seq ?_
    refine s_seq ?_
    refine s_region ?_
    refine o_p (p_pure rfl) rfl ?_
    refine o_q (q_call rfl fn_14 rfl (fun w1 h1 => c14 w1 _)) rfl ?_
    refine o_p (p_pure rfl) rfl ?_
    refine o_p (p_pure rfl) rfl ?_
    refine o_or 4 18 22 _ _ rfl
      (by
        intro hg2
        have hs3 := hg2; try simp only [decide_eq_true_eq, decide_eq_false_iff_not, Bool.not_eq_true', Bool.not_eq_false', Bool.and_eq_true, Bool.or_eq_true, Bool.and_eq_false_iff, Bool.or_eq_false_iff, Bool.not_true, Bool.not_false] at hs3
        refine o_on 18 _ rfl rfl hg2 ?_
        refine o_p (p_pure rfl) rfl ?_
        refine o_on 18 _ rfl rfl hg2 ?_
        refine o_q (q_call rfl fn_27 rfl (fun w1 h1 => c27 w1 _ _ _)) rfl ?_
        refine o_on 18 _ rfl rfl hg2 ?_
        refine o_p (p_pure rfl) rfl ?_
        refine o_p (p_pickf rfl rfl hg2 rfl) rfl ?_
        refine o_nil ?_
        exact s_join () (by repeat (first | exact sl_n | refine sl_c rfl ?_)) (fun w h => by first | exact h | exact h.ent (by repeat (first | exact .nil | refine .cons (by repeat (first | exact .here | apply Pick.there)) ?_))))
      (by
        intro hg4
        have hs5 := hg4; try simp only [decide_eq_true_eq, decide_eq_false_iff_not, Bool.not_eq_true', Bool.not_eq_false', Bool.and_eq_true, Bool.or_eq_true, Bool.and_eq_false_iff, Bool.or_eq_false_iff, Bool.not_true, Bool.not_false] at hs5
        refine o_off 18 _ rfl rfl hg4 rfl ?_
        refine o_off 18 _ rfl rfl hg4 rfl ?_
        refine o_off 18 _ rfl rfl hg4 rfl ?_
        refine o_p (p_pickt rfl rfl hg4 rfl) rfl ?_
        refine o_nil ?_
        exact s_join () (by repeat (first | exact sl_n | refine sl_c rfl ?_)) (fun w h => by first | exact h | exact h.ent (by repeat (first | exact .nil | refine .cons (by repeat (first | exact .here | apply Pick.there)) ?_)))) ?_
    refine o_nil ?_
    refine s_cond rfl (fun h6 => ?_) (fun h6 => ?_)
    · try simp only [decide_eq_true_eq, decide_eq_false_iff_not, Bool.not_eq_true', Bool.not_eq_false', Bool.and_eq_true, Bool.or_eq_true, Bool.and_eq_false_iff, Bool.or_eq_false_iff, Bool.not_true, Bool.not_false] at h6
      refine s_seq ?_
      refine s_region ?_
      refine o_p (p_pure rfl) rfl ?_
      refine o_nil ?_
      exact s_retv (rs := [.tmp 8]) rfl (.tmp rfl (.nil)) (fun w' h' => ⟨by have := keyE_or key; simp only [retV, crypE]; grind, h'.below⟩)
    · try simp only [decide_eq_true_eq, decide_eq_false_iff_not, Bool.not_eq_true', Bool.not_eq_false', Bool.and_eq_true, Bool.or_eq_true, Bool.and_eq_false_iff, Bool.or_eq_false_iff, Bool.not_true, Bool.not_false] at h6
      refine s_skip ?_
      refine s_seq ?_
      refine s_seq ?_
      refine s_region ?_
      refine o_p (p_pure rfl) rfl ?_
      refine o_p (p_len_str rfl rfl Try.underlying9) rfl ?_
      refine o_p (p_pure rfl) rfl ?_
      refine o_p (p_pure rfl) rfl ?_
      try (refine o_slot (i64w (by omega) (by omega)) ?_)
      refine o_p (p_pure rfl) rfl ?_
      refine o_nil ?_
      refine s_cond rfl (fun h7 => ?_) (fun h7 => ?_)
      · try simp only [decide_eq_true_eq, decide_eq_false_iff_not, Bool.not_eq_true', Bool.not_eq_false', Bool.and_eq_true, Bool.or_eq_true, Bool.and_eq_false_iff, Bool.or_eq_false_iff, Bool.not_true, Bool.not_false] at h7
        refine s_seq ?_
        refine s_region ?_
        refine o_p (p_pure rfl) rfl ?_
        refine o_nil ?_
        exact s_retv (rs := [.tmp 8]) rfl (.tmp rfl (.nil)) (fun w' h' => ⟨by have := keyE_or key; simp only [retV, crypE]; grind, h'.below⟩)
      · try simp only [decide_eq_true_eq, decide_eq_false_iff_not, Bool.not_eq_true', Bool.not_eq_false', Bool.and_eq_true, Bool.or_eq_true, Bool.and_eq_false_iff, Bool.or_eq_false_iff, Bool.not_true, Bool.not_false] at h7
        refine s_skip ?_
        refine s_seq ?_
        refine s_region ?_
        refine o_p (p_pure rfl) rfl ?_
        refine o_nil ?_
        exact s_retv (rs := [.tmp 8]) rfl (.tmp rfl (.nil)) (fun w' h' => ⟨by have := keyE_or key; simp only [retV, crypE]; grind, h'.below⟩)

end Go.Proofs
