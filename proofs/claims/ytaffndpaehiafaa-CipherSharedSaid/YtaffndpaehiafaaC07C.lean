/- Contracts of the program's functions, proved by walking them with the rules of the Gx texts; without conditions beyond those that each contract names. -/
import Derived.Test.YtaffndpaehiafaaC07B
import Derived.Test.YtaffndpaehiafaaGxNum
namespace Go.Proofs
open Go Go.RowKit Gx
set_option linter.unusedVariables false
set_option linter.unusedSimpArgs false
attribute [local irreducible] Go.Calls Gx.S Gx.O Gx.D Gx.OpP Gx.OpQ Gx.OpH

theorem fn_99 : isFn Try.prog 99 = true := by kernel_rfl
theorem ki_3 : tki Try.prog 3 = some .i64 := by kernel_rfl
theorem ki_135 : tki Try.prog 135 = some .u64 := by kernel_rfl


set_option maxRecDepth 20000 in
theorem c58 (w : World) (a b n : Nat) (hn : n ≤ 16) (ha : a < 65536) (hb : b < 65536) : Calls Try.prog 58 #[.int .i64 (a : Int), .int .i64 (b : Int), .int .i64 (n : Int)] w fun en w' => en = .returned (.int .i64 (((a ^^^ b) % 2 ^ n : Nat) : Int)) ∧ Below w.heap.size w w' := by
  refine enter (args := [_, _, _]) Try.func58 Try.ntmps58 rfl rfl (HS.refl w []) ?_
  refine s_seq ?_
  refine s_region ?_
  refine o_p (p_pure rfl) rfl ?_
  refine o_nil ?_
  refine s_seq ?_
  refine s_region ?_
  refine o_p (p_pure rfl) rfl ?_
  refine o_nil ?_
  refine s_seq ?_
  refine s_seq ?_
  refine s_region ?_
  refine o_p (p_pure rfl) rfl ?_
  refine o_nil ?_
  refine s_block ?_
  refine s_loopI (α := Nat) [7, 8, 9, 10, 11, 12, 13, 14, 15, 16, 17, 18, 19, 20, 21, 22, 23, 24, 25, 26, 27, 28] (fun k => [(8, .int .i64 (k : Int)), (7, .int .i64 (((a ^^^ b) % 2 ^ k : Nat) : Int))]) (fun _ => _) (fun k => k ≤ n) (fun k => n - k) 0 (by omega) (by refine sl_c rfl ?_; refine sl_c (by simp [Nat.mod_one]; rfl) ?_; repeat (first | exact sl_n | refine sl_c rfl ?_)) (fun w h => h) (fun k hk => ?_)
  have hp := pow_le16 (k := k) (by omega)
  have hq : 0 ≤ (a : Int) / 2 ^ k := Int.ediv_nonneg (by omega) (by omega)
  have hr : 0 ≤ (b : Int) / 2 ^ k := Int.ediv_nonneg (by omega) (by omega)
  have hx : (a ^^^ b) % 2 ^ k < 65536 := Nat.lt_of_le_of_lt (Nat.mod_le _ _) (Nat.xor_lt_two_pow (n := 16) ha hb)
  refine s_seq ?_
  refine s_seq ?_
  refine s_region ?_
  refine o_p (p_pure rfl) rfl ?_
  refine o_p (p_pure rfl) rfl ?_
  refine o_p (p_pure rfl) rfl ?_
  refine o_nil ?_
  refine s_cond rfl (fun h1 => ?_) (fun h1 => ?_)
  · try simp only [decide_eq_true_eq, decide_eq_false_iff_not, Bool.not_eq_true', Bool.not_eq_false', Bool.and_eq_true, Bool.or_eq_true, Bool.and_eq_false_iff, Bool.or_eq_false_iff, Bool.not_true, Bool.not_false] at h1
    refine s_skip ?_
    refine s_seq ?_
    refine s_block ?_
    refine s_seq ?_
    refine s_draw [] mixed ?_
    refine d_p 0 rfl (p_pure rfl) (by kernel_rfl) rfl rfl ?_
    refine d_p 1 rfl (p_pure rfl) (by kernel_rfl) rfl rfl ?_
    refine d_q 2 [] rfl (q_call rfl fn_99 rfl (fun w1 h1 => c99 w1 _ (by omega))) (by kernel_rfl) (by kernel_rfl) (by kernel_rfl) rfl ?_
    first | refine d_p 3 rfl (p_quo_nn rfl rfl rfl (by omega) (by omega) (by omega)) (by kernel_rfl) rfl rfl ?_ | refine d_p 3 rfl (p_quo rfl rfl rfl (by decide)) (by kernel_rfl) rfl rfl ?_ | refine d_p 3 rfl (p_quo rfl rfl rfl (by omega)) (by kernel_rfl) rfl rfl ?_
    first | refine d_p 4 rfl (p_rem_nn rfl rfl rfl (by omega) (by omega)) (by kernel_rfl) rfl rfl ?_ | refine d_p 4 rfl (p_rem rfl rfl rfl (by decide)) (by kernel_rfl) rfl rfl ?_ | refine d_p 4 rfl (p_rem rfl rfl rfl (by omega)) (by kernel_rfl) rfl rfl ?_
    refine d_p 5 rfl (p_pure rfl) (by kernel_rfl) rfl rfl ?_
    refine d_p 6 rfl (p_pure rfl) (by kernel_rfl) rfl rfl ?_
    refine d_q 7 [] rfl (q_call rfl fn_99 rfl (fun w1 h1 => c99 w1 _ (by omega))) (by kernel_rfl) (by kernel_rfl) (by kernel_rfl) rfl ?_
    first | refine d_p 8 rfl (p_quo_nn rfl rfl rfl (by omega) (by omega) (by omega)) (by kernel_rfl) rfl rfl ?_ | refine d_p 8 rfl (p_quo rfl rfl rfl (by decide)) (by kernel_rfl) rfl rfl ?_ | refine d_p 8 rfl (p_quo rfl rfl rfl (by omega)) (by kernel_rfl) rfl rfl ?_
    first | refine d_p 9 rfl (p_rem_nn rfl rfl rfl (by omega) (by omega)) (by kernel_rfl) rfl rfl ?_ | refine d_p 9 rfl (p_rem rfl rfl rfl (by decide)) (by kernel_rfl) rfl rfl ?_ | refine d_p 9 rfl (p_rem rfl rfl rfl (by omega)) (by kernel_rfl) rfl rfl ?_
    refine d_p 10 rfl (p_pure rfl) (by kernel_rfl) rfl rfl ?_
    refine d_nil (by kernel_rfl) (fun w h => h.ent (by repeat (first | exact .nil | refine .cons (by repeat (first | exact .here | apply Pick.there)) ?_))) ?_
    refine s_cond rfl (fun h2 => ?_) (fun h2 => ?_)
    · try simp only [decide_eq_true_eq, decide_eq_false_iff_not, Bool.not_eq_true', Bool.not_eq_false', Bool.and_eq_true, Bool.or_eq_true, Bool.and_eq_false_iff, Bool.or_eq_false_iff, Bool.not_true, Bool.not_false] at h2
      refine s_region ?_
      refine o_p (p_pure rfl) rfl ?_
      refine o_p (p_pure rfl) rfl ?_
      refine o_q (q_call rfl fn_99 rfl (fun w1 h1 => c99 w1 _ (by omega))) rfl ?_
      refine o_p (p_pure rfl) rfl ?_
      try (refine o_slot (i64w (by omega) (by omega)) ?_)
      refine o_p (p_pure rfl) rfl ?_
      refine o_nil ?_
      refine s_blk ?_
      refine s_region ?_
      refine o_p (p_pure rfl) rfl ?_
      refine o_p (p_pure rfl) rfl ?_
      try (refine o_slot (i64w (by omega) (by omega)) ?_)
      refine o_p (p_pure rfl) rfl ?_
      refine o_nil ?_
      exact s_backI (k+1) (by omega) (by omega) (by refine sl_c rfl ?_; refine sl_c (congrArg some (congrArg (Value.int .i64) (xor_step (by assumption)))) ?_; repeat (first | exact sl_n | refine sl_c rfl ?_)) (fun w h => h)
    · try simp only [decide_eq_true_eq, decide_eq_false_iff_not, Bool.not_eq_true', Bool.not_eq_false', Bool.and_eq_true, Bool.or_eq_true, Bool.and_eq_false_iff, Bool.or_eq_false_iff, Bool.not_true, Bool.not_false] at h2
      refine s_skip ?_
      refine s_blk ?_
      refine s_region ?_
      refine o_p (p_pure rfl) rfl ?_
      refine o_p (p_pure rfl) rfl ?_
      try (refine o_slot (i64w (by omega) (by omega)) ?_)
      refine o_p (p_pure rfl) rfl ?_
      refine o_nil ?_
      exact s_backI (k+1) (by omega) (by omega) (by refine sl_c rfl ?_; refine sl_c (congrArg some (congrArg (Value.int .i64) (xor_stay (by assumption)))) ?_; repeat (first | exact sl_n | refine sl_c rfl ?_)) (fun w h => h)
  · try simp only [decide_eq_true_eq, decide_eq_false_iff_not, Bool.not_eq_true', Bool.not_eq_false', Bool.and_eq_true, Bool.or_eq_true, Bool.and_eq_false_iff, Bool.or_eq_false_iff, Bool.not_true, Bool.not_false] at h1
    refine s_exit_to rfl ?_
    refine s_seq ?_
    refine s_region ?_
    refine o_p (p_pure rfl) rfl ?_
    refine o_p (p_pure rfl) rfl ?_
    refine o_nil ?_
    exact s_retv (rs := [.tmp 6]) rfl (.tmp rfl (.nil)) (fun w' h' => ⟨by have hk2 : k = n := (by omega); subst hk2; rfl, h'.below⟩)

theorem x58w (w : World) (a b : UInt16) : Calls Try.prog 58 #[.int .i64 (a.toNat : Int), .int .i64 (b.toNat : Int), .int .i64 16] w fun en w' => en = .returned (.int .i64 ((a ^^^ b).toNat : Int)) ∧ Below w.heap.size w w' := by
  have h := c58 w a.toNat b.toNat 16 (by omega) a.toNat_lt b.toNat_lt
  rw [Nat.mod_eq_of_lt (Nat.xor_lt_two_pow (n := 16) a.toNat_lt b.toNat_lt), ← UInt16.toNat_xor] at h
  exact h
theorem x58b (w : World) (a b : UInt8) : Calls Try.prog 58 #[.int .i64 (a.toNat : Int), .int .i64 (b.toNat : Int), .int .i64 8] w fun en w' => en = .returned (.int .i64 ((a ^^^ b).toNat : Int)) ∧ Below w.heap.size w w' := by
  have h := c58 w a.toNat b.toNat 8 (by omega) (by have := a.toNat_lt; omega) (by have := b.toNat_lt; omega)
  rw [Nat.mod_eq_of_lt (Nat.xor_lt_two_pow (n := 8) a.toNat_lt b.toNat_lt), ← UInt8.toNat_xor] at h
  exact h

set_option maxRecDepth 20000 in
theorem c57 (w : World) (x : UInt16) (k : Nat) (hk : 1 ≤ k) (hk2 : k ≤ 15) : Calls Try.prog 57 #[.int .i64 (x.toNat : Int), .int .i64 (k : Int)] w fun en w' => en = .returned (.int .i64 ((rotl x k).toNat : Int)) ∧ Below w.heap.size w w' := by
  have hp := pow_le16 (k := k) (by omega)
  have hp2 := pow_le16 (k := 16 - k) (by omega)
  have hm := mul_bound x k (by omega)
  have hx := x.toNat_lt
  have hq : 0 ≤ (x.toNat : Int) / 2 ^ (16 - k) := Int.ediv_nonneg (by omega) (by omega)
  have hq2 : (x.toNat : Int) / 2 ^ (16 - k) ≤ (x.toNat : Int) := Int.ediv_le_self _ (by omega)
  refine enter (args := [_, _]) Try.func57 Try.ntmps57 rfl rfl (HS.refl w []) ?_
  refine s_seq ?_
  refine s_region ?_
  refine o_p (p_pure rfl) rfl ?_
  refine o_nil ?_
  refine s_seq ?_
  refine s_region ?_
  refine o_p (p_pure rfl) rfl ?_
  refine o_p (p_pure rfl) rfl ?_
  refine o_q (q_call rfl fn_99 rfl (fun w1 h1 => c99 w1 _ (by omega))) rfl ?_
  refine o_p (p_pure rfl) rfl ?_
  try (refine o_slot (i64w (by omega) (by omega)) ?_)
  first | refine o_p (p_rem_nn rfl rfl rfl (by omega) (by omega)) rfl ?_ | refine o_p (p_rem rfl rfl rfl (by decide)) rfl ?_ | refine o_p (p_rem rfl rfl rfl (by omega)) rfl ?_
  refine o_p (p_pure rfl) rfl ?_
  refine o_p (p_pure rfl) rfl ?_
  refine o_p (p_pure rfl) rfl ?_
  try (refine o_slot (i64w (by omega) (by omega)) ?_)
  refine o_slot (u := .int .i64 ((16 - k : Nat) : Int)) (by congr 1; omega) ?_
  refine o_q (q_call rfl fn_99 rfl (fun w1 h1 => c99 w1 _ (by omega))) rfl ?_
  first | refine o_p (p_quo_nn rfl rfl rfl (by omega) (by omega) (by omega)) rfl ?_ | refine o_p (p_quo rfl rfl rfl (by decide)) rfl ?_ | refine o_p (p_quo rfl rfl rfl (by omega)) rfl ?_
  refine o_p (p_pure rfl) rfl ?_
  try (refine o_slot (i64w (by omega) (by omega)) ?_)
  refine o_p (p_pure rfl) rfl ?_
  refine o_nil ?_
  exact s_retv (rs := [.tmp 4]) rfl (.tmp rfl (.nil)) (fun w' h' => ⟨by simp only [retV]; rw [rot_ref x k hk hk2], h'.below⟩)

theorem x57_8 (w : World) (x : UInt16) : Calls Try.prog 57 #[.int .i64 (x.toNat : Int), .int .i64 8] w fun en w' => en = .returned (.int .i64 ((rotl x 8).toNat : Int)) ∧ Below w.heap.size w w' := c57 w x 8 (by omega) (by omega)
theorem x57_6 (w : World) (x : UInt16) : Calls Try.prog 57 #[.int .i64 (x.toNat : Int), .int .i64 6] w fun en w' => en = .returned (.int .i64 ((rotl x 6).toNat : Int)) ∧ Below w.heap.size w w' := c57 w x 6 (by omega) (by omega)
theorem x57_4 (w : World) (x : UInt16) : Calls Try.prog 57 #[.int .i64 (x.toNat : Int), .int .i64 4] w fun en w' => en = .returned (.int .i64 ((rotl x 4).toNat : Int)) ∧ Below w.heap.size w w' := c57 w x 4 (by omega) (by omega)
theorem x57_3 (w : World) (x : UInt16) : Calls Try.prog 57 #[.int .i64 (x.toNat : Int), .int .i64 3] w fun en w' => en = .returned (.int .i64 ((rotl x 3).toNat : Int)) ∧ Below w.heap.size w w' := c57 w x 3 (by omega) (by omega)

set_option maxRecDepth 20000 in
theorem c98 (w : World) (x : UInt16) (k : Nat) (hk : 1 ≤ k) (hk2 : k ≤ 15) : Calls Try.prog 98 #[.int .u16 (x.toNat : Int), .int .i64 (k : Int)] w fun en w' => en = .returned (.int .u16 ((rotl x k).toNat : Int)) ∧ Below w.heap.size w w' := by
  refine enter (args := [_, _]) Try.func98 Try.ntmps98 rfl rfl (HS.refl w []) ?_
  refine s_seq ?_
  refine s_region ?_
  refine o_p (p_pure rfl) rfl ?_
  refine o_nil ?_
  refine s_seq ?_
  refine s_region ?_
  refine o_p (p_pure rfl) rfl ?_
  refine o_p (p_conv_int rfl rfl ki_3 ki_135) rfl ?_
  refine o_slot (u := .int .u64 (k : Int)) (congrArg _ (u64w k (by omega))) ?_
  refine o_p (p_pure rfl) rfl ?_
  refine o_slot (u := .int .u64 (k : Int)) (congrArg _ (and15 k (by omega))) ?_
  refine o_p (p_pure rfl) rfl ?_
  refine o_nil ?_
  refine s_seq ?_
  refine s_region ?_
  refine o_p (p_pure rfl) rfl ?_
  refine o_p (p_pure rfl) rfl ?_
  refine o_p (p_shl rfl rfl rfl (by omega) k (by simp [IntKind.bits]; omega)) rfl ?_
  refine o_p (p_pure rfl) rfl ?_
  refine o_p (p_pure rfl) rfl ?_
  refine o_p (p_pure rfl) rfl ?_
  refine o_slot (u := .int .u64 ((16 - k : Nat) : Int)) (congrArg _ (by rw [show (16 : Int) - (k : Int) = ((16 - k : Nat) : Int) from by omega]; exact u64w _ (by omega))) ?_
  refine o_p (p_shr rfl rfl rfl (by omega) (16 - k) (by simp [IntKind.bits])) rfl ?_
  refine o_p (p_pure rfl) rfl ?_
  refine o_p (p_pure rfl) rfl ?_
  refine o_nil ?_
  exact s_retv (rs := [.tmp 4]) rfl (.tmp rfl (.nil)) (fun w' h' => ⟨by simp only [retV]; rw [rot_slots x k hk hk2], h'.below⟩)

end Go.Proofs
