/- Contracts of the program's functions, proved by walking them with the rules of the Gx texts; without conditions beyond those that each contract names. -/
import Derived.Test.YtaffndpaehiafaaC07D
import Derived.Test.YtaffndpaehiafaaGxCipher
namespace Go.Proofs
open Go Go.RowKit Gx
set_option linter.unusedVariables false
set_option linter.unusedSimpArgs false
attribute [local irreducible] Go.Calls Gx.S Gx.O Gx.D Gx.OpP Gx.OpQ Gx.OpH

theorem zr_155 : tzero Try.prog 155 = some [.int .u16 0, .int .u16 0, .int .u16 0, .int .u16 0, .int .u16 0, .int .u16 0, .int .u16 0, .int .u16 0] := by kernel_rfl
theorem ar_155 : tar Try.prog 155 = some (8, 57, 1) := by kernel_rfl
theorem sz_155 : tsz Try.prog 155 = some (8, true) := by kernel_rfl
theorem ki_5 : tki Try.prog 5 = some .u8 := by kernel_rfl
theorem ar_171 : tar Try.prog 171 = some (4, 22, 4) := by kernel_rfl
theorem zr_171 : tzero Try.prog 171 = some [.int .i64 0, .int .i64 0, .int .i64 0, .int .i64 0, .int .i64 0, .int .i64 0, .int .i64 0, .int .i64 0, .int .i64 0, .int .i64 0, .int .i64 0, .int .i64 0, .int .i64 0, .int .i64 0, .int .i64 0, .int .i64 0] := by kernel_rfl
theorem fn_107 : isFn Try.prog 107 = true := by kernel_rfl
theorem fn_108 : isFn Try.prog 108 = true := by kernel_rfl
theorem sl_113 : tsl Try.prog 113 = some (5, 1, 1) := by kernel_rfl
theorem zr_5 : tzero Try.prog 5 = some [.int .u8 0] := by kernel_rfl


def st107 (key : List UInt8) (k : Nat) : List Value := match k with | 0 => [.int .u16 25956, .int .u16 28528, .int .u16 0, .int .u16 0, .int .u16 0, .int .u16 0, .int .u16 0, .int .u16 0] | 1 => [.int .u16 25956, .int .u16 28528, wv (kw key 0), .int .u16 0, .int .u16 0, .int .u16 0, .int .u16 0, .int .u16 0] | 2 => [.int .u16 25956, .int .u16 28528, wv (kw key 0), wv (kw key 1), .int .u16 0, .int .u16 0, .int .u16 0, .int .u16 0] | 3 => [.int .u16 25956, .int .u16 28528, wv (kw key 0), wv (kw key 1), wv (kw key 2), .int .u16 0, .int .u16 0, .int .u16 0] | _ => [.int .u16 25956, .int .u16 28528, wv (kw key 0), wv (kw key 1), wv (kw key 2), wv (kw key 3), .int .u16 0, .int .u16 0]

set_option maxRecDepth 20000 in
theorem c107 (w : World) (key : List UInt8) (n c : Int) (hk : key.length = 8) (hn : isWd n) (hc : isWd c) : Calls Try.prog 107 #[.string (bs key), .int .i64 n, .int .i64 c] w fun en w' => en = .returned (.agg ((stateL key (wd n) (wd c)).map wv).toArray) ∧ Below w.heap.size w w' := by
  refine enter (args := [_, _, _]) Try.func107 Try.ntmps107 rfl rfl (HS.refl w []) ?_
  refine s_seq ?_
  refine s_region ?_
  refine o_h (h_alloc rfl zr_155) rfl (fun b1 _ => ?_)
  refine o_nil ?_
  refine s_seq ?_
  refine s_region ?_
  refine o_p (p_build_arr (cs := [_, _, _, _, _, _, _, _]) rfl rfl ar_155 zr_155 rfl) rfl ?_
  refine o_h (h_alloc rfl zr_155) rfl (fun b2 _ => ?_)
  refine o_h0 (h_store rfl rfl rfl sz_155 rfl (by repeat (first | exact .here | apply Put.there)) (by simp) rfl) (fun _ _ => ?_)
  refine o_nil ?_
  refine s_seq ?_
  refine s_seq ?_
  refine s_region ?_
  refine o_p (p_pure rfl) rfl ?_
  refine o_nil ?_
  refine s_block ?_
  refine s_loopI (α := Nat) [8, 10, 11, 12, 13, 14, 15, 16, 17, 18, 19, 20, 21, 22, 23, 24, 25, 26, 27, 28, 29] (fun k => [(10, .int .i64 (k : Int))]) (fun k => HS w [] [.blk b2 155 8 (st107 key k), .blk b1 155 8 [.int .u16 0, .int .u16 0, .int .u16 0, .int .u16 0, .int .u16 0, .int .u16 0, .int .u16 0, .int .u16 0]]) (fun k => k ≤ 4) (fun k => 4 - k) 0 (by omega) (by repeat (first | exact sl_n | refine sl_c rfl ?_)) (fun w h => h.ent (by repeat (first | exact .nil | refine .cons (by repeat (first | exact .here | apply Pick.there)) ?_))) (fun k hk => ?_)
  rcases k with _ | _ | _ | _ | _ | k
  · skip
    refine s_seq ?_
    refine s_region ?_
    refine o_p (p_pure rfl) rfl ?_
    refine o_nil ?_
    refine s_seq ?_
    refine s_cond rfl (fun h3 => ?_) (fun h3 => ?_)
    · try simp only [decide_eq_true_eq, decide_eq_false_iff_not, Bool.not_eq_true', Bool.not_eq_false', Bool.and_eq_true, Bool.or_eq_true, Bool.and_eq_false_iff, Bool.or_eq_false_iff, Bool.not_true, Bool.not_false] at h3
      refine s_skip ?_
      refine s_seq ?_
      refine s_block ?_
      refine s_seq ?_
      refine s_region ?_
      refine o_p (p_pure rfl) rfl ?_
      refine o_p (p_pure rfl) rfl ?_
      refine o_nil ?_
      refine s_draw [16] mixed ?_
      refine d_p 0 rfl (p_pure rfl) (by kernel_rfl) rfl rfl ?_
      refine d_p 1 rfl (p_pure rfl) (by kernel_rfl) rfl rfl ?_
      try (refine d_slot (i64w (by omega) (by omega)) ?_)
      refine d_p 2 rfl (p_pure rfl) (by kernel_rfl) rfl rfl ?_
      refine d_p 3 rfl (p_pure rfl) (by kernel_rfl) rfl rfl ?_
      refine d_p 4 rfl (p_pure rfl) (by kernel_rfl) rfl rfl ?_
      try (refine d_slot (i64w (by omega) (by omega)) ?_)
      first | refine d_p 5 rfl (p_index_str rfl rfl rfl Try.underlying9 _ rfl (by omega)) (by kernel_rfl) rfl rfl ?_ | refine d_p 5 rfl (p_index_str rfl rfl rfl Try.underlying9 (Int.toNat _) (Int.toNat_of_nonneg (by omega)).symm (by omega)) (by kernel_rfl) rfl rfl ?_
      refine d_p 6 rfl (p_conv_int rfl rfl ki_5 ki_57) (by kernel_rfl) rfl rfl ?_
      refine d_p 7 rfl (p_pure rfl) (by kernel_rfl) rfl rfl ?_
      refine d_p 8 rfl (p_pure rfl) (by kernel_rfl) rfl rfl ?_
      refine d_p 9 rfl (p_pure rfl) (by kernel_rfl) rfl rfl ?_
      try (refine d_slot (i64w (by omega) (by omega)) ?_)
      refine d_p 10 rfl (p_pure rfl) (by kernel_rfl) rfl rfl ?_
      try (refine d_slot (i64w (by omega) (by omega)) ?_)
      first | refine d_p 11 rfl (p_index_str rfl rfl rfl Try.underlying9 _ rfl (by omega)) (by kernel_rfl) rfl rfl ?_ | refine d_p 11 rfl (p_index_str rfl rfl rfl Try.underlying9 (Int.toNat _) (Int.toNat_of_nonneg (by omega)).symm (by omega)) (by kernel_rfl) rfl rfl ?_
      refine d_p 12 rfl (p_conv_int rfl rfl ki_5 ki_57) (by kernel_rfl) rfl rfl ?_
      refine d_p 13 rfl (p_shl rfl rfl rfl (by decide) 8 rfl) (by kernel_rfl) rfl rfl ?_
      refine d_p 14 rfl (p_pure rfl) (by kernel_rfl) rfl rfl ?_
      refine d_slot (w2_slot _ _) ?_
      first | refine d_p 15 rfl (p_indexAddr_arr rfl rfl rfl ar_155 _ rfl (by omega)) (by kernel_rfl) rfl rfl ?_ | refine d_p 15 rfl (p_indexAddr_arr rfl rfl rfl ar_155 (Int.toNat _) (Int.toNat_of_nonneg (by omega)).symm (by omega)) (by kernel_rfl) rfl rfl ?_
      refine d_h0 16 rfl (h_store rfl rfl rfl sz_57 rfl (by repeat (first | exact .here | apply Put.there)) (by (try simp only [setMany_length]); simp [st107]) rfl) (by kernel_rfl) (fun w h => h.ent (by repeat (first | exact .nil | refine .cons (by repeat (first | exact .here | apply Pick.there)) ?_))) (fun _ _ => ?_)
      refine d_turn [] (by kernel_rfl) ?_
      refine d_nil (by kernel_rfl) (fun w h => h.ent (by repeat (first | exact .nil | refine .cons (by repeat (first | exact .here | apply Pick.there)) ?_))) ?_
      refine s_blk ?_
      refine s_region ?_
      refine o_p (p_pure rfl) rfl ?_
      try (refine o_slot (i64w (by omega) (by omega)) ?_)
      refine o_p (p_pure rfl) rfl ?_
      refine o_nil ?_
      exact s_backI 1 (by omega) (by omega) (by repeat (first | exact sl_n | refine sl_c rfl ?_)) (fun w h => h.ent (by repeat (first | exact .nil | refine .cons (by repeat (first | exact .here | apply Pick.there)) ?_)))
    · try simp only [decide_eq_true_eq, decide_eq_false_iff_not, Bool.not_eq_true', Bool.not_eq_false', Bool.and_eq_true, Bool.or_eq_true, Bool.and_eq_false_iff, Bool.or_eq_false_iff, Bool.not_true, Bool.not_false] at h3
      exfalso; first | omega | (simp at h3; done) | (simp_all; done)
  · skip
    refine s_seq ?_
    refine s_region ?_
    refine o_p (p_pure rfl) rfl ?_
    refine o_nil ?_
    refine s_seq ?_
    refine s_cond rfl (fun h4 => ?_) (fun h4 => ?_)
    · try simp only [decide_eq_true_eq, decide_eq_false_iff_not, Bool.not_eq_true', Bool.not_eq_false', Bool.and_eq_true, Bool.or_eq_true, Bool.and_eq_false_iff, Bool.or_eq_false_iff, Bool.not_true, Bool.not_false] at h4
      refine s_skip ?_
      refine s_seq ?_
      refine s_block ?_
      refine s_seq ?_
      refine s_region ?_
      refine o_p (p_pure rfl) rfl ?_
      refine o_p (p_pure rfl) rfl ?_
      refine o_nil ?_
      refine s_draw [16] mixed ?_
      refine d_p 0 rfl (p_pure rfl) (by kernel_rfl) rfl rfl ?_
      refine d_p 1 rfl (p_pure rfl) (by kernel_rfl) rfl rfl ?_
      try (refine d_slot (i64w (by omega) (by omega)) ?_)
      refine d_p 2 rfl (p_pure rfl) (by kernel_rfl) rfl rfl ?_
      refine d_p 3 rfl (p_pure rfl) (by kernel_rfl) rfl rfl ?_
      refine d_p 4 rfl (p_pure rfl) (by kernel_rfl) rfl rfl ?_
      try (refine d_slot (i64w (by omega) (by omega)) ?_)
      first | refine d_p 5 rfl (p_index_str rfl rfl rfl Try.underlying9 _ rfl (by omega)) (by kernel_rfl) rfl rfl ?_ | refine d_p 5 rfl (p_index_str rfl rfl rfl Try.underlying9 (Int.toNat _) (Int.toNat_of_nonneg (by omega)).symm (by omega)) (by kernel_rfl) rfl rfl ?_
      refine d_p 6 rfl (p_conv_int rfl rfl ki_5 ki_57) (by kernel_rfl) rfl rfl ?_
      refine d_p 7 rfl (p_pure rfl) (by kernel_rfl) rfl rfl ?_
      refine d_p 8 rfl (p_pure rfl) (by kernel_rfl) rfl rfl ?_
      refine d_p 9 rfl (p_pure rfl) (by kernel_rfl) rfl rfl ?_
      try (refine d_slot (i64w (by omega) (by omega)) ?_)
      refine d_p 10 rfl (p_pure rfl) (by kernel_rfl) rfl rfl ?_
      try (refine d_slot (i64w (by omega) (by omega)) ?_)
      first | refine d_p 11 rfl (p_index_str rfl rfl rfl Try.underlying9 _ rfl (by omega)) (by kernel_rfl) rfl rfl ?_ | refine d_p 11 rfl (p_index_str rfl rfl rfl Try.underlying9 (Int.toNat _) (Int.toNat_of_nonneg (by omega)).symm (by omega)) (by kernel_rfl) rfl rfl ?_
      refine d_p 12 rfl (p_conv_int rfl rfl ki_5 ki_57) (by kernel_rfl) rfl rfl ?_
      refine d_p 13 rfl (p_shl rfl rfl rfl (by decide) 8 rfl) (by kernel_rfl) rfl rfl ?_
      refine d_p 14 rfl (p_pure rfl) (by kernel_rfl) rfl rfl ?_
      refine d_slot (w2_slot _ _) ?_
      first | refine d_p 15 rfl (p_indexAddr_arr rfl rfl rfl ar_155 _ rfl (by omega)) (by kernel_rfl) rfl rfl ?_ | refine d_p 15 rfl (p_indexAddr_arr rfl rfl rfl ar_155 (Int.toNat _) (Int.toNat_of_nonneg (by omega)).symm (by omega)) (by kernel_rfl) rfl rfl ?_
      refine d_h0 16 rfl (h_store rfl rfl rfl sz_57 rfl (by repeat (first | exact .here | apply Put.there)) (by (try simp only [setMany_length]); simp [st107]) rfl) (by kernel_rfl) (fun w h => h.ent (by repeat (first | exact .nil | refine .cons (by repeat (first | exact .here | apply Pick.there)) ?_))) (fun _ _ => ?_)
      refine d_turn [] (by kernel_rfl) ?_
      refine d_nil (by kernel_rfl) (fun w h => h.ent (by repeat (first | exact .nil | refine .cons (by repeat (first | exact .here | apply Pick.there)) ?_))) ?_
      refine s_blk ?_
      refine s_region ?_
      refine o_p (p_pure rfl) rfl ?_
      try (refine o_slot (i64w (by omega) (by omega)) ?_)
      refine o_p (p_pure rfl) rfl ?_
      refine o_nil ?_
      exact s_backI 2 (by omega) (by omega) (by repeat (first | exact sl_n | refine sl_c rfl ?_)) (fun w h => h.ent (by repeat (first | exact .nil | refine .cons (by repeat (first | exact .here | apply Pick.there)) ?_)))
    · try simp only [decide_eq_true_eq, decide_eq_false_iff_not, Bool.not_eq_true', Bool.not_eq_false', Bool.and_eq_true, Bool.or_eq_true, Bool.and_eq_false_iff, Bool.or_eq_false_iff, Bool.not_true, Bool.not_false] at h4
      exfalso; first | omega | (simp at h4; done) | (simp_all; done)
  · skip
    refine s_seq ?_
    refine s_region ?_
    refine o_p (p_pure rfl) rfl ?_
    refine o_nil ?_
    refine s_seq ?_
    refine s_cond rfl (fun h5 => ?_) (fun h5 => ?_)
    · try simp only [decide_eq_true_eq, decide_eq_false_iff_not, Bool.not_eq_true', Bool.not_eq_false', Bool.and_eq_true, Bool.or_eq_true, Bool.and_eq_false_iff, Bool.or_eq_false_iff, Bool.not_true, Bool.not_false] at h5
      refine s_skip ?_
      refine s_seq ?_
      refine s_block ?_
      refine s_seq ?_
      refine s_region ?_
      refine o_p (p_pure rfl) rfl ?_
      refine o_p (p_pure rfl) rfl ?_
      refine o_nil ?_
      refine s_draw [16] mixed ?_
      refine d_p 0 rfl (p_pure rfl) (by kernel_rfl) rfl rfl ?_
      refine d_p 1 rfl (p_pure rfl) (by kernel_rfl) rfl rfl ?_
      try (refine d_slot (i64w (by omega) (by omega)) ?_)
      refine d_p 2 rfl (p_pure rfl) (by kernel_rfl) rfl rfl ?_
      refine d_p 3 rfl (p_pure rfl) (by kernel_rfl) rfl rfl ?_
      refine d_p 4 rfl (p_pure rfl) (by kernel_rfl) rfl rfl ?_
      try (refine d_slot (i64w (by omega) (by omega)) ?_)
      first | refine d_p 5 rfl (p_index_str rfl rfl rfl Try.underlying9 _ rfl (by omega)) (by kernel_rfl) rfl rfl ?_ | refine d_p 5 rfl (p_index_str rfl rfl rfl Try.underlying9 (Int.toNat _) (Int.toNat_of_nonneg (by omega)).symm (by omega)) (by kernel_rfl) rfl rfl ?_
      refine d_p 6 rfl (p_conv_int rfl rfl ki_5 ki_57) (by kernel_rfl) rfl rfl ?_
      refine d_p 7 rfl (p_pure rfl) (by kernel_rfl) rfl rfl ?_
      refine d_p 8 rfl (p_pure rfl) (by kernel_rfl) rfl rfl ?_
      refine d_p 9 rfl (p_pure rfl) (by kernel_rfl) rfl rfl ?_
      try (refine d_slot (i64w (by omega) (by omega)) ?_)
      refine d_p 10 rfl (p_pure rfl) (by kernel_rfl) rfl rfl ?_
      try (refine d_slot (i64w (by omega) (by omega)) ?_)
      first | refine d_p 11 rfl (p_index_str rfl rfl rfl Try.underlying9 _ rfl (by omega)) (by kernel_rfl) rfl rfl ?_ | refine d_p 11 rfl (p_index_str rfl rfl rfl Try.underlying9 (Int.toNat _) (Int.toNat_of_nonneg (by omega)).symm (by omega)) (by kernel_rfl) rfl rfl ?_
      refine d_p 12 rfl (p_conv_int rfl rfl ki_5 ki_57) (by kernel_rfl) rfl rfl ?_
      refine d_p 13 rfl (p_shl rfl rfl rfl (by decide) 8 rfl) (by kernel_rfl) rfl rfl ?_
      refine d_p 14 rfl (p_pure rfl) (by kernel_rfl) rfl rfl ?_
      refine d_slot (w2_slot _ _) ?_
      first | refine d_p 15 rfl (p_indexAddr_arr rfl rfl rfl ar_155 _ rfl (by omega)) (by kernel_rfl) rfl rfl ?_ | refine d_p 15 rfl (p_indexAddr_arr rfl rfl rfl ar_155 (Int.toNat _) (Int.toNat_of_nonneg (by omega)).symm (by omega)) (by kernel_rfl) rfl rfl ?_
      refine d_h0 16 rfl (h_store rfl rfl rfl sz_57 rfl (by repeat (first | exact .here | apply Put.there)) (by (try simp only [setMany_length]); simp [st107]) rfl) (by kernel_rfl) (fun w h => h.ent (by repeat (first | exact .nil | refine .cons (by repeat (first | exact .here | apply Pick.there)) ?_))) (fun _ _ => ?_)
      refine d_turn [] (by kernel_rfl) ?_
      refine d_nil (by kernel_rfl) (fun w h => h.ent (by repeat (first | exact .nil | refine .cons (by repeat (first | exact .here | apply Pick.there)) ?_))) ?_
      refine s_blk ?_
      refine s_region ?_
      refine o_p (p_pure rfl) rfl ?_
      try (refine o_slot (i64w (by omega) (by omega)) ?_)
      refine o_p (p_pure rfl) rfl ?_
      refine o_nil ?_
      exact s_backI 3 (by omega) (by omega) (by repeat (first | exact sl_n | refine sl_c rfl ?_)) (fun w h => h.ent (by repeat (first | exact .nil | refine .cons (by repeat (first | exact .here | apply Pick.there)) ?_)))
    · try simp only [decide_eq_true_eq, decide_eq_false_iff_not, Bool.not_eq_true', Bool.not_eq_false', Bool.and_eq_true, Bool.or_eq_true, Bool.and_eq_false_iff, Bool.or_eq_false_iff, Bool.not_true, Bool.not_false] at h5
      exfalso; first | omega | (simp at h5; done) | (simp_all; done)
  · skip
    refine s_seq ?_
    refine s_region ?_
    refine o_p (p_pure rfl) rfl ?_
    refine o_nil ?_
    refine s_seq ?_
    refine s_cond rfl (fun h6 => ?_) (fun h6 => ?_)
    · try simp only [decide_eq_true_eq, decide_eq_false_iff_not, Bool.not_eq_true', Bool.not_eq_false', Bool.and_eq_true, Bool.or_eq_true, Bool.and_eq_false_iff, Bool.or_eq_false_iff, Bool.not_true, Bool.not_false] at h6
      refine s_skip ?_
      refine s_seq ?_
      refine s_block ?_
      refine s_seq ?_
      refine s_region ?_
      refine o_p (p_pure rfl) rfl ?_
      refine o_p (p_pure rfl) rfl ?_
      refine o_nil ?_
      refine s_draw [16] mixed ?_
      refine d_p 0 rfl (p_pure rfl) (by kernel_rfl) rfl rfl ?_
      refine d_p 1 rfl (p_pure rfl) (by kernel_rfl) rfl rfl ?_
      try (refine d_slot (i64w (by omega) (by omega)) ?_)
      refine d_p 2 rfl (p_pure rfl) (by kernel_rfl) rfl rfl ?_
      refine d_p 3 rfl (p_pure rfl) (by kernel_rfl) rfl rfl ?_
      refine d_p 4 rfl (p_pure rfl) (by kernel_rfl) rfl rfl ?_
      try (refine d_slot (i64w (by omega) (by omega)) ?_)
      first | refine d_p 5 rfl (p_index_str rfl rfl rfl Try.underlying9 _ rfl (by omega)) (by kernel_rfl) rfl rfl ?_ | refine d_p 5 rfl (p_index_str rfl rfl rfl Try.underlying9 (Int.toNat _) (Int.toNat_of_nonneg (by omega)).symm (by omega)) (by kernel_rfl) rfl rfl ?_
      refine d_p 6 rfl (p_conv_int rfl rfl ki_5 ki_57) (by kernel_rfl) rfl rfl ?_
      refine d_p 7 rfl (p_pure rfl) (by kernel_rfl) rfl rfl ?_
      refine d_p 8 rfl (p_pure rfl) (by kernel_rfl) rfl rfl ?_
      refine d_p 9 rfl (p_pure rfl) (by kernel_rfl) rfl rfl ?_
      try (refine d_slot (i64w (by omega) (by omega)) ?_)
      refine d_p 10 rfl (p_pure rfl) (by kernel_rfl) rfl rfl ?_
      try (refine d_slot (i64w (by omega) (by omega)) ?_)
      first | refine d_p 11 rfl (p_index_str rfl rfl rfl Try.underlying9 _ rfl (by omega)) (by kernel_rfl) rfl rfl ?_ | refine d_p 11 rfl (p_index_str rfl rfl rfl Try.underlying9 (Int.toNat _) (Int.toNat_of_nonneg (by omega)).symm (by omega)) (by kernel_rfl) rfl rfl ?_
      refine d_p 12 rfl (p_conv_int rfl rfl ki_5 ki_57) (by kernel_rfl) rfl rfl ?_
      refine d_p 13 rfl (p_shl rfl rfl rfl (by decide) 8 rfl) (by kernel_rfl) rfl rfl ?_
      refine d_p 14 rfl (p_pure rfl) (by kernel_rfl) rfl rfl ?_
      refine d_slot (w2_slot _ _) ?_
      first | refine d_p 15 rfl (p_indexAddr_arr rfl rfl rfl ar_155 _ rfl (by omega)) (by kernel_rfl) rfl rfl ?_ | refine d_p 15 rfl (p_indexAddr_arr rfl rfl rfl ar_155 (Int.toNat _) (Int.toNat_of_nonneg (by omega)).symm (by omega)) (by kernel_rfl) rfl rfl ?_
      refine d_h0 16 rfl (h_store rfl rfl rfl sz_57 rfl (by repeat (first | exact .here | apply Put.there)) (by (try simp only [setMany_length]); simp [st107]) rfl) (by kernel_rfl) (fun w h => h.ent (by repeat (first | exact .nil | refine .cons (by repeat (first | exact .here | apply Pick.there)) ?_))) (fun _ _ => ?_)
      refine d_turn [] (by kernel_rfl) ?_
      refine d_nil (by kernel_rfl) (fun w h => h.ent (by repeat (first | exact .nil | refine .cons (by repeat (first | exact .here | apply Pick.there)) ?_))) ?_
      refine s_blk ?_
      refine s_region ?_
      refine o_p (p_pure rfl) rfl ?_
      try (refine o_slot (i64w (by omega) (by omega)) ?_)
      refine o_p (p_pure rfl) rfl ?_
      refine o_nil ?_
      exact s_backI 4 (by omega) (by omega) (by repeat (first | exact sl_n | refine sl_c rfl ?_)) (fun w h => h.ent (by repeat (first | exact .nil | refine .cons (by repeat (first | exact .here | apply Pick.there)) ?_)))
    · try simp only [decide_eq_true_eq, decide_eq_false_iff_not, Bool.not_eq_true', Bool.not_eq_false', Bool.and_eq_true, Bool.or_eq_true, Bool.and_eq_false_iff, Bool.or_eq_false_iff, Bool.not_true, Bool.not_false] at h6
      exfalso; first | omega | (simp at h6; done) | (simp_all; done)
  · skip
    refine s_seq ?_
    refine s_region ?_
    refine o_p (p_pure rfl) rfl ?_
    refine o_nil ?_
    refine s_seq ?_
    refine s_cond rfl (fun h7 => ?_) (fun h7 => ?_)
    · try simp only [decide_eq_true_eq, decide_eq_false_iff_not, Bool.not_eq_true', Bool.not_eq_false', Bool.and_eq_true, Bool.or_eq_true, Bool.and_eq_false_iff, Bool.or_eq_false_iff, Bool.not_true, Bool.not_false] at h7
      exfalso; first | omega | (simp at h7; done) | (simp_all; done)
    · try simp only [decide_eq_true_eq, decide_eq_false_iff_not, Bool.not_eq_true', Bool.not_eq_false', Bool.and_eq_true, Bool.or_eq_true, Bool.and_eq_false_iff, Bool.or_eq_false_iff, Bool.not_true, Bool.not_false] at h7
      refine s_exit_to rfl ?_
      refine s_seq ?_
      refine s_region ?_
      refine o_p (p_pure rfl) rfl ?_
      refine o_p (p_conv_int rfl rfl ki_3 ki_57) rfl ?_
      refine o_slot (u16wI hn) ?_
      rw [← wv_wd hn]
      refine o_p (p_pure rfl) rfl ?_
      refine o_p (p_conv_int rfl rfl ki_3 ki_57) rfl ?_
      refine o_slot (u16wI hc) ?_
      rw [← wv_wd hc]
      first | refine o_p (p_indexAddr_arr rfl rfl rfl ar_155 _ rfl (by omega)) rfl ?_ | refine o_p (p_indexAddr_arr rfl rfl rfl ar_155 (Int.toNat _) (Int.toNat_of_nonneg (by omega)).symm (by omega)) rfl ?_
      refine o_h0 (h_store rfl rfl rfl sz_57 rfl (by repeat (first | exact .here | apply Put.there)) (by (try simp only [setMany_length]); simp [st107]) rfl) (fun _ _ => ?_)
      first | refine o_p (p_indexAddr_arr rfl rfl rfl ar_155 _ rfl (by omega)) rfl ?_ | refine o_p (p_indexAddr_arr rfl rfl rfl ar_155 (Int.toNat _) (Int.toNat_of_nonneg (by omega)).symm (by omega)) rfl ?_
      refine o_h0 (h_store rfl rfl rfl sz_57 rfl (by repeat (first | exact .here | apply Put.there)) (by (try simp only [setMany_length]); simp [st107]) rfl) (fun _ _ => ?_)
      refine o_nil ?_
      refine s_seq ?_
      refine s_region ?_
      refine o_q (q_loadn rfl rfl sz_155 (by repeat (first | exact .here | apply Pick.there)) rfl) rfl ?_
      refine o_h0 (h_store rfl rfl rfl sz_155 rfl (by repeat (first | exact .here | apply Put.there)) (by simp) rfl) (fun _ _ => ?_)
      refine o_nil ?_
      exact s_retv (rs := [.cell 6 155]) rfl (.cell rfl sz_155 (by repeat (first | exact .here | apply Pick.there)) rfl (.nil)) (fun w' h' => ⟨by rfl, h'.below⟩)
  · exfalso; omega

theorem x56 (w : World) (b i j k l : Nat) (s : List UInt16) (hb : BlkOk b 155 8 (s.map wv) w) (hi : i < s.length) (hj : j < s.length) (hk : k < s.length) (hl : l < s.length) (h12 : i ≠ j) (h13 : i ≠ k) (h14 : i ≠ l) (h23 : j ≠ k) (h24 : j ≠ l) (h34 : k ≠ l) :
    Calls Try.prog 56 #[.pointer (some ⟨b, i, none⟩), .pointer (some ⟨b, j, none⟩), .pointer (some ⟨b, k, none⟩), .pointer (some ⟨b, l, none⟩)] w fun en w' => ∃ _ : Unit, en = .returned (.tuple #[]) ∧ True ∧ HS w [b] [.blk b 155 8 ((turn s i j k l).map wv)] w' := by
  have h := c56 w b i j k l 8 155 (s.map wv) ⟨s.getD i 0, s.getD j 0, s.getD k 0, s.getD l 0⟩ hb (getw hi) (getw hj) (getw hk) (getw hl) h12 h13 h14 h23 h24 h34
  rw [turn_map] at h
  exact h
def rk108 (s : List UInt16) (k : Nat) : List UInt16 := match k with | 0 => s | 1 => turn s 0 2 4 6 | 2 => turn (turn s 0 2 4 6) 1 3 5 7 | 3 => turn (turn (turn s 0 2 4 6) 1 3 5 7) 0 3 4 7 | _ => roundL s
theorem rk108_length (s : List UInt16) (k : Nat) : (rk108 s k).length = s.length := by unfold rk108; split <;> simp [turn_length, roundL_length]

set_option maxRecDepth 20000 in
theorem c108 (w : World) (b : Nat) (s : List UInt16) (hb : BlkOk b 155 8 (s.map wv) w) (hl : s.length = 8) : Calls Try.prog 108 #[.pointer (some ⟨b, 0, none⟩)] w fun en w' => ∃ _ : Unit, en = .returned (.tuple #[]) ∧ True ∧ HS w [b] [.blk b 155 8 ((roundL s).map wv)] w' := by
  refine enter (args := [_]) Try.func108 Try.ntmps108 rfl rfl (HS.enter_blk hb) ?_
  refine s_seq ?_
  refine s_region ?_
  refine o_p (p_build_arr (cs := [_, _, _, _]) rfl rfl ar_22 zr_22 rfl) rfl ?_
  refine o_p (p_build_arr (cs := [_, _, _, _]) rfl rfl ar_22 zr_22 rfl) rfl ?_
  refine o_p (p_build_arr (cs := [_, _, _, _]) rfl rfl ar_22 zr_22 rfl) rfl ?_
  refine o_p (p_build_arr (cs := [_, _, _, _]) rfl rfl ar_22 zr_22 rfl) rfl ?_
  refine o_p (p_build_arr (cs := [_, _, _, _, _, _, _, _, _, _, _, _, _, _, _, _]) rfl rfl ar_171 zr_171 rfl) rfl ?_
  refine o_p (p_pure rfl) rfl ?_
  refine o_nil ?_
  refine s_block ?_
  refine s_loopI (α := Nat) [3, 9, 10, 11, 12, 13, 14, 15, 16, 17, 18, 19, 20, 21, 22, 23, 24, 25, 26, 27, 28, 29, 30, 31, 32, 33] (fun k => [(9, .int .i64 (k : Int))]) (fun k => HS w [b] [.blk b 155 8 ((rk108 s k).map wv)]) (fun k => k ≤ 4) (fun k => 4 - k) 0 (by omega) (by repeat (first | exact sl_n | refine sl_c rfl ?_)) (fun w h => h.ent (by repeat (first | exact .nil | refine .cons (by repeat (first | exact .here | apply Pick.there)) ?_))) (fun k hk => ?_)
  rcases k with _ | _ | _ | _ | _ | k
  · skip
    refine s_seq ?_
    refine s_region ?_
    refine o_p (p_pure rfl) rfl ?_
    refine o_nil ?_
    refine s_seq ?_
    refine s_cond rfl (fun h1 => ?_) (fun h1 => ?_)
    · try simp only [decide_eq_true_eq, decide_eq_false_iff_not, Bool.not_eq_true', Bool.not_eq_false', Bool.and_eq_true, Bool.or_eq_true, Bool.and_eq_false_iff, Bool.or_eq_false_iff, Bool.not_true, Bool.not_false] at h1
      refine s_skip ?_
      refine s_seq ?_
      refine s_block ?_
      refine s_seq ?_
      refine s_region ?_
      refine o_p (p_indexn rfl rfl rfl ar_171 sz_22 0 rfl (by omega)) rfl ?_
      refine o_h (h_alloc rfl zr_22) rfl (fun b2 _ => ?_)
      refine o_h0 (h_store rfl rfl rfl sz_22 rfl (by repeat (first | exact .here | apply Put.there)) (by simp) rfl) (fun _ _ => ?_)
      refine o_nil ?_
      refine s_draw [20] mixed ?_
      refine d_p 0 rfl (p_pure rfl) (by kernel_rfl) rfl rfl ?_
      refine d_p 1 rfl (p_indexAddr_arr rfl rfl rfl ar_22 0 rfl (by omega)) (by kernel_rfl) rfl rfl ?_
      refine d_q 2 [[4]] rfl (q_load rfl rfl sz_3 (by repeat (first | exact .here | apply Pick.there)) rfl) (by kernel_rfl) (by kernel_rfl) (by kernel_rfl) rfl ?_
      refine d_p 3 rfl (p_pure rfl) (by kernel_rfl) rfl rfl ?_
      refine d_p 4 rfl (p_indexAddr_arr rfl rfl rfl ar_155 0 rfl (by omega)) (by kernel_rfl) rfl rfl ?_
      refine d_p 5 rfl (p_pure rfl) (by kernel_rfl) rfl rfl ?_
      refine d_p 6 rfl (p_indexAddr_arr rfl rfl rfl ar_22 1 rfl (by omega)) (by kernel_rfl) rfl rfl ?_
      refine d_q 7 [[9]] rfl (q_load rfl rfl sz_3 (by repeat (first | exact .here | apply Pick.there)) rfl) (by kernel_rfl) (by kernel_rfl) (by kernel_rfl) rfl ?_
      refine d_p 8 rfl (p_pure rfl) (by kernel_rfl) rfl rfl ?_
      refine d_p 9 rfl (p_indexAddr_arr rfl rfl rfl ar_155 2 rfl (by omega)) (by kernel_rfl) rfl rfl ?_
      refine d_p 10 rfl (p_pure rfl) (by kernel_rfl) rfl rfl ?_
      refine d_p 11 rfl (p_indexAddr_arr rfl rfl rfl ar_22 2 rfl (by omega)) (by kernel_rfl) rfl rfl ?_
      refine d_q 12 [[14]] rfl (q_load rfl rfl sz_3 (by repeat (first | exact .here | apply Pick.there)) rfl) (by kernel_rfl) (by kernel_rfl) (by kernel_rfl) rfl ?_
      refine d_p 13 rfl (p_pure rfl) (by kernel_rfl) rfl rfl ?_
      refine d_p 14 rfl (p_indexAddr_arr rfl rfl rfl ar_155 4 rfl (by omega)) (by kernel_rfl) rfl rfl ?_
      refine d_p 15 rfl (p_pure rfl) (by kernel_rfl) rfl rfl ?_
      refine d_p 16 rfl (p_indexAddr_arr rfl rfl rfl ar_22 3 rfl (by omega)) (by kernel_rfl) rfl rfl ?_
      refine d_q 17 [[19]] rfl (q_load rfl rfl sz_3 (by repeat (first | exact .here | apply Pick.there)) rfl) (by kernel_rfl) (by kernel_rfl) (by kernel_rfl) rfl ?_
      refine d_p 18 rfl (p_pure rfl) (by kernel_rfl) rfl rfl ?_
      refine d_p 19 rfl (p_indexAddr_arr rfl rfl rfl ar_155 6 rfl (by omega)) (by kernel_rfl) rfl rfl ?_
      refine d_h 20 rfl (h_call1 rfl fn_56 rfl (by repeat (first | exact .here | apply Pick.there)) (fun w1 h1 => x56 w1 b 0 2 4 6 (rk108 s 0) (h1.blk_get (by repeat (first | exact .here | apply Pick.there))) (by rw [rk108_length]; omega) (by rw [rk108_length]; omega) (by rw [rk108_length]; omega) (by rw [rk108_length]; omega) (by decide) (by decide) (by decide) (by decide) (by decide) (by decide))) (by kernel_rfl) (fun w h => h.ent (by repeat (first | exact .nil | refine .cons (by repeat (first | exact .here | apply Pick.there)) ?_))) rfl (fun b3 _ => ?_)
      refine d_turn [] (by kernel_rfl) ?_
      refine d_nil (by kernel_rfl) (fun w h => h.ent (by repeat (first | exact .nil | refine .cons (by repeat (first | exact .here | apply Pick.there)) ?_))) ?_
      refine s_blk ?_
      refine s_region ?_
      refine o_p (p_pure rfl) rfl ?_
      try (refine o_slot (i64w (by omega) (by omega)) ?_)
      refine o_p (p_pure rfl) rfl ?_
      refine o_nil ?_
      exact s_backI 1 (by omega) (by omega) (by repeat (first | exact sl_n | refine sl_c rfl ?_)) (fun w h => h.ent (by repeat (first | exact .nil | refine .cons (by repeat (first | exact .here | apply Pick.there)) ?_)))
    · try simp only [decide_eq_true_eq, decide_eq_false_iff_not, Bool.not_eq_true', Bool.not_eq_false', Bool.and_eq_true, Bool.or_eq_true, Bool.and_eq_false_iff, Bool.or_eq_false_iff, Bool.not_true, Bool.not_false] at h1
      exfalso; first | omega | (simp at h1; done) | (simp_all; done)
  · skip
    refine s_seq ?_
    refine s_region ?_
    refine o_p (p_pure rfl) rfl ?_
    refine o_nil ?_
    refine s_seq ?_
    refine s_cond rfl (fun h4 => ?_) (fun h4 => ?_)
    · try simp only [decide_eq_true_eq, decide_eq_false_iff_not, Bool.not_eq_true', Bool.not_eq_false', Bool.and_eq_true, Bool.or_eq_true, Bool.and_eq_false_iff, Bool.or_eq_false_iff, Bool.not_true, Bool.not_false] at h4
      refine s_skip ?_
      refine s_seq ?_
      refine s_block ?_
      refine s_seq ?_
      refine s_region ?_
      refine o_p (p_indexn rfl rfl rfl ar_171 sz_22 1 rfl (by omega)) rfl ?_
      refine o_h (h_alloc rfl zr_22) rfl (fun b5 _ => ?_)
      refine o_h0 (h_store rfl rfl rfl sz_22 rfl (by repeat (first | exact .here | apply Put.there)) (by simp) rfl) (fun _ _ => ?_)
      refine o_nil ?_
      refine s_draw [20] mixed ?_
      refine d_p 0 rfl (p_pure rfl) (by kernel_rfl) rfl rfl ?_
      refine d_p 1 rfl (p_indexAddr_arr rfl rfl rfl ar_22 0 rfl (by omega)) (by kernel_rfl) rfl rfl ?_
      refine d_q 2 [[4]] rfl (q_load rfl rfl sz_3 (by repeat (first | exact .here | apply Pick.there)) rfl) (by kernel_rfl) (by kernel_rfl) (by kernel_rfl) rfl ?_
      refine d_p 3 rfl (p_pure rfl) (by kernel_rfl) rfl rfl ?_
      refine d_p 4 rfl (p_indexAddr_arr rfl rfl rfl ar_155 1 rfl (by omega)) (by kernel_rfl) rfl rfl ?_
      refine d_p 5 rfl (p_pure rfl) (by kernel_rfl) rfl rfl ?_
      refine d_p 6 rfl (p_indexAddr_arr rfl rfl rfl ar_22 1 rfl (by omega)) (by kernel_rfl) rfl rfl ?_
      refine d_q 7 [[9]] rfl (q_load rfl rfl sz_3 (by repeat (first | exact .here | apply Pick.there)) rfl) (by kernel_rfl) (by kernel_rfl) (by kernel_rfl) rfl ?_
      refine d_p 8 rfl (p_pure rfl) (by kernel_rfl) rfl rfl ?_
      refine d_p 9 rfl (p_indexAddr_arr rfl rfl rfl ar_155 3 rfl (by omega)) (by kernel_rfl) rfl rfl ?_
      refine d_p 10 rfl (p_pure rfl) (by kernel_rfl) rfl rfl ?_
      refine d_p 11 rfl (p_indexAddr_arr rfl rfl rfl ar_22 2 rfl (by omega)) (by kernel_rfl) rfl rfl ?_
      refine d_q 12 [[14]] rfl (q_load rfl rfl sz_3 (by repeat (first | exact .here | apply Pick.there)) rfl) (by kernel_rfl) (by kernel_rfl) (by kernel_rfl) rfl ?_
      refine d_p 13 rfl (p_pure rfl) (by kernel_rfl) rfl rfl ?_
      refine d_p 14 rfl (p_indexAddr_arr rfl rfl rfl ar_155 5 rfl (by omega)) (by kernel_rfl) rfl rfl ?_
      refine d_p 15 rfl (p_pure rfl) (by kernel_rfl) rfl rfl ?_
      refine d_p 16 rfl (p_indexAddr_arr rfl rfl rfl ar_22 3 rfl (by omega)) (by kernel_rfl) rfl rfl ?_
      refine d_q 17 [[19]] rfl (q_load rfl rfl sz_3 (by repeat (first | exact .here | apply Pick.there)) rfl) (by kernel_rfl) (by kernel_rfl) (by kernel_rfl) rfl ?_
      refine d_p 18 rfl (p_pure rfl) (by kernel_rfl) rfl rfl ?_
      refine d_p 19 rfl (p_indexAddr_arr rfl rfl rfl ar_155 7 rfl (by omega)) (by kernel_rfl) rfl rfl ?_
      refine d_h 20 rfl (h_call1 rfl fn_56 rfl (by repeat (first | exact .here | apply Pick.there)) (fun w1 h1 => x56 w1 b 1 3 5 7 (rk108 s 1) (h1.blk_get (by repeat (first | exact .here | apply Pick.there))) (by rw [rk108_length]; omega) (by rw [rk108_length]; omega) (by rw [rk108_length]; omega) (by rw [rk108_length]; omega) (by decide) (by decide) (by decide) (by decide) (by decide) (by decide))) (by kernel_rfl) (fun w h => h.ent (by repeat (first | exact .nil | refine .cons (by repeat (first | exact .here | apply Pick.there)) ?_))) rfl (fun b6 _ => ?_)
      refine d_turn [] (by kernel_rfl) ?_
      refine d_nil (by kernel_rfl) (fun w h => h.ent (by repeat (first | exact .nil | refine .cons (by repeat (first | exact .here | apply Pick.there)) ?_))) ?_
      refine s_blk ?_
      refine s_region ?_
      refine o_p (p_pure rfl) rfl ?_
      try (refine o_slot (i64w (by omega) (by omega)) ?_)
      refine o_p (p_pure rfl) rfl ?_
      refine o_nil ?_
      exact s_backI 2 (by omega) (by omega) (by repeat (first | exact sl_n | refine sl_c rfl ?_)) (fun w h => h.ent (by repeat (first | exact .nil | refine .cons (by repeat (first | exact .here | apply Pick.there)) ?_)))
    · try simp only [decide_eq_true_eq, decide_eq_false_iff_not, Bool.not_eq_true', Bool.not_eq_false', Bool.and_eq_true, Bool.or_eq_true, Bool.and_eq_false_iff, Bool.or_eq_false_iff, Bool.not_true, Bool.not_false] at h4
      exfalso; first | omega | (simp at h4; done) | (simp_all; done)
  · skip
    refine s_seq ?_
    refine s_region ?_
    refine o_p (p_pure rfl) rfl ?_
    refine o_nil ?_
    refine s_seq ?_
    refine s_cond rfl (fun h7 => ?_) (fun h7 => ?_)
    · try simp only [decide_eq_true_eq, decide_eq_false_iff_not, Bool.not_eq_true', Bool.not_eq_false', Bool.and_eq_true, Bool.or_eq_true, Bool.and_eq_false_iff, Bool.or_eq_false_iff, Bool.not_true, Bool.not_false] at h7
      refine s_skip ?_
      refine s_seq ?_
      refine s_block ?_
      refine s_seq ?_
      refine s_region ?_
      refine o_p (p_indexn rfl rfl rfl ar_171 sz_22 2 rfl (by omega)) rfl ?_
      refine o_h (h_alloc rfl zr_22) rfl (fun b8 _ => ?_)
      refine o_h0 (h_store rfl rfl rfl sz_22 rfl (by repeat (first | exact .here | apply Put.there)) (by simp) rfl) (fun _ _ => ?_)
      refine o_nil ?_
      refine s_draw [20] mixed ?_
      refine d_p 0 rfl (p_pure rfl) (by kernel_rfl) rfl rfl ?_
      refine d_p 1 rfl (p_indexAddr_arr rfl rfl rfl ar_22 0 rfl (by omega)) (by kernel_rfl) rfl rfl ?_
      refine d_q 2 [[4]] rfl (q_load rfl rfl sz_3 (by repeat (first | exact .here | apply Pick.there)) rfl) (by kernel_rfl) (by kernel_rfl) (by kernel_rfl) rfl ?_
      refine d_p 3 rfl (p_pure rfl) (by kernel_rfl) rfl rfl ?_
      refine d_p 4 rfl (p_indexAddr_arr rfl rfl rfl ar_155 0 rfl (by omega)) (by kernel_rfl) rfl rfl ?_
      refine d_p 5 rfl (p_pure rfl) (by kernel_rfl) rfl rfl ?_
      refine d_p 6 rfl (p_indexAddr_arr rfl rfl rfl ar_22 1 rfl (by omega)) (by kernel_rfl) rfl rfl ?_
      refine d_q 7 [[9]] rfl (q_load rfl rfl sz_3 (by repeat (first | exact .here | apply Pick.there)) rfl) (by kernel_rfl) (by kernel_rfl) (by kernel_rfl) rfl ?_
      refine d_p 8 rfl (p_pure rfl) (by kernel_rfl) rfl rfl ?_
      refine d_p 9 rfl (p_indexAddr_arr rfl rfl rfl ar_155 3 rfl (by omega)) (by kernel_rfl) rfl rfl ?_
      refine d_p 10 rfl (p_pure rfl) (by kernel_rfl) rfl rfl ?_
      refine d_p 11 rfl (p_indexAddr_arr rfl rfl rfl ar_22 2 rfl (by omega)) (by kernel_rfl) rfl rfl ?_
      refine d_q 12 [[14]] rfl (q_load rfl rfl sz_3 (by repeat (first | exact .here | apply Pick.there)) rfl) (by kernel_rfl) (by kernel_rfl) (by kernel_rfl) rfl ?_
      refine d_p 13 rfl (p_pure rfl) (by kernel_rfl) rfl rfl ?_
      refine d_p 14 rfl (p_indexAddr_arr rfl rfl rfl ar_155 4 rfl (by omega)) (by kernel_rfl) rfl rfl ?_
      refine d_p 15 rfl (p_pure rfl) (by kernel_rfl) rfl rfl ?_
      refine d_p 16 rfl (p_indexAddr_arr rfl rfl rfl ar_22 3 rfl (by omega)) (by kernel_rfl) rfl rfl ?_
      refine d_q 17 [[19]] rfl (q_load rfl rfl sz_3 (by repeat (first | exact .here | apply Pick.there)) rfl) (by kernel_rfl) (by kernel_rfl) (by kernel_rfl) rfl ?_
      refine d_p 18 rfl (p_pure rfl) (by kernel_rfl) rfl rfl ?_
      refine d_p 19 rfl (p_indexAddr_arr rfl rfl rfl ar_155 7 rfl (by omega)) (by kernel_rfl) rfl rfl ?_
      refine d_h 20 rfl (h_call1 rfl fn_56 rfl (by repeat (first | exact .here | apply Pick.there)) (fun w1 h1 => x56 w1 b 0 3 4 7 (rk108 s 2) (h1.blk_get (by repeat (first | exact .here | apply Pick.there))) (by rw [rk108_length]; omega) (by rw [rk108_length]; omega) (by rw [rk108_length]; omega) (by rw [rk108_length]; omega) (by decide) (by decide) (by decide) (by decide) (by decide) (by decide))) (by kernel_rfl) (fun w h => h.ent (by repeat (first | exact .nil | refine .cons (by repeat (first | exact .here | apply Pick.there)) ?_))) rfl (fun b9 _ => ?_)
      refine d_turn [] (by kernel_rfl) ?_
      refine d_nil (by kernel_rfl) (fun w h => h.ent (by repeat (first | exact .nil | refine .cons (by repeat (first | exact .here | apply Pick.there)) ?_))) ?_
      refine s_blk ?_
      refine s_region ?_
      refine o_p (p_pure rfl) rfl ?_
      try (refine o_slot (i64w (by omega) (by omega)) ?_)
      refine o_p (p_pure rfl) rfl ?_
      refine o_nil ?_
      exact s_backI 3 (by omega) (by omega) (by repeat (first | exact sl_n | refine sl_c rfl ?_)) (fun w h => h.ent (by repeat (first | exact .nil | refine .cons (by repeat (first | exact .here | apply Pick.there)) ?_)))
    · try simp only [decide_eq_true_eq, decide_eq_false_iff_not, Bool.not_eq_true', Bool.not_eq_false', Bool.and_eq_true, Bool.or_eq_true, Bool.and_eq_false_iff, Bool.or_eq_false_iff, Bool.not_true, Bool.not_false] at h7
      exfalso; first | omega | (simp at h7; done) | (simp_all; done)
  · skip
    refine s_seq ?_
    refine s_region ?_
    refine o_p (p_pure rfl) rfl ?_
    refine o_nil ?_
    refine s_seq ?_
    refine s_cond rfl (fun h10 => ?_) (fun h10 => ?_)
    · try simp only [decide_eq_true_eq, decide_eq_false_iff_not, Bool.not_eq_true', Bool.not_eq_false', Bool.and_eq_true, Bool.or_eq_true, Bool.and_eq_false_iff, Bool.or_eq_false_iff, Bool.not_true, Bool.not_false] at h10
      refine s_skip ?_
      refine s_seq ?_
      refine s_block ?_
      refine s_seq ?_
      refine s_region ?_
      refine o_p (p_indexn rfl rfl rfl ar_171 sz_22 3 rfl (by omega)) rfl ?_
      refine o_h (h_alloc rfl zr_22) rfl (fun b11 _ => ?_)
      refine o_h0 (h_store rfl rfl rfl sz_22 rfl (by repeat (first | exact .here | apply Put.there)) (by simp) rfl) (fun _ _ => ?_)
      refine o_nil ?_
      refine s_draw [20] mixed ?_
      refine d_p 0 rfl (p_pure rfl) (by kernel_rfl) rfl rfl ?_
      refine d_p 1 rfl (p_indexAddr_arr rfl rfl rfl ar_22 0 rfl (by omega)) (by kernel_rfl) rfl rfl ?_
      refine d_q 2 [[4]] rfl (q_load rfl rfl sz_3 (by repeat (first | exact .here | apply Pick.there)) rfl) (by kernel_rfl) (by kernel_rfl) (by kernel_rfl) rfl ?_
      refine d_p 3 rfl (p_pure rfl) (by kernel_rfl) rfl rfl ?_
      refine d_p 4 rfl (p_indexAddr_arr rfl rfl rfl ar_155 1 rfl (by omega)) (by kernel_rfl) rfl rfl ?_
      refine d_p 5 rfl (p_pure rfl) (by kernel_rfl) rfl rfl ?_
      refine d_p 6 rfl (p_indexAddr_arr rfl rfl rfl ar_22 1 rfl (by omega)) (by kernel_rfl) rfl rfl ?_
      refine d_q 7 [[9]] rfl (q_load rfl rfl sz_3 (by repeat (first | exact .here | apply Pick.there)) rfl) (by kernel_rfl) (by kernel_rfl) (by kernel_rfl) rfl ?_
      refine d_p 8 rfl (p_pure rfl) (by kernel_rfl) rfl rfl ?_
      refine d_p 9 rfl (p_indexAddr_arr rfl rfl rfl ar_155 2 rfl (by omega)) (by kernel_rfl) rfl rfl ?_
      refine d_p 10 rfl (p_pure rfl) (by kernel_rfl) rfl rfl ?_
      refine d_p 11 rfl (p_indexAddr_arr rfl rfl rfl ar_22 2 rfl (by omega)) (by kernel_rfl) rfl rfl ?_
      refine d_q 12 [[14]] rfl (q_load rfl rfl sz_3 (by repeat (first | exact .here | apply Pick.there)) rfl) (by kernel_rfl) (by kernel_rfl) (by kernel_rfl) rfl ?_
      refine d_p 13 rfl (p_pure rfl) (by kernel_rfl) rfl rfl ?_
      refine d_p 14 rfl (p_indexAddr_arr rfl rfl rfl ar_155 5 rfl (by omega)) (by kernel_rfl) rfl rfl ?_
      refine d_p 15 rfl (p_pure rfl) (by kernel_rfl) rfl rfl ?_
      refine d_p 16 rfl (p_indexAddr_arr rfl rfl rfl ar_22 3 rfl (by omega)) (by kernel_rfl) rfl rfl ?_
      refine d_q 17 [[19]] rfl (q_load rfl rfl sz_3 (by repeat (first | exact .here | apply Pick.there)) rfl) (by kernel_rfl) (by kernel_rfl) (by kernel_rfl) rfl ?_
      refine d_p 18 rfl (p_pure rfl) (by kernel_rfl) rfl rfl ?_
      refine d_p 19 rfl (p_indexAddr_arr rfl rfl rfl ar_155 6 rfl (by omega)) (by kernel_rfl) rfl rfl ?_
      refine d_h 20 rfl (h_call1 rfl fn_56 rfl (by repeat (first | exact .here | apply Pick.there)) (fun w1 h1 => x56 w1 b 1 2 5 6 (rk108 s 3) (h1.blk_get (by repeat (first | exact .here | apply Pick.there))) (by rw [rk108_length]; omega) (by rw [rk108_length]; omega) (by rw [rk108_length]; omega) (by rw [rk108_length]; omega) (by decide) (by decide) (by decide) (by decide) (by decide) (by decide))) (by kernel_rfl) (fun w h => h.ent (by repeat (first | exact .nil | refine .cons (by repeat (first | exact .here | apply Pick.there)) ?_))) rfl (fun b12 _ => ?_)
      refine d_turn [] (by kernel_rfl) ?_
      refine d_nil (by kernel_rfl) (fun w h => h.ent (by repeat (first | exact .nil | refine .cons (by repeat (first | exact .here | apply Pick.there)) ?_))) ?_
      refine s_blk ?_
      refine s_region ?_
      refine o_p (p_pure rfl) rfl ?_
      try (refine o_slot (i64w (by omega) (by omega)) ?_)
      refine o_p (p_pure rfl) rfl ?_
      refine o_nil ?_
      exact s_backI 4 (by omega) (by omega) (by repeat (first | exact sl_n | refine sl_c rfl ?_)) (fun w h => h.ent (by repeat (first | exact .nil | refine .cons (by repeat (first | exact .here | apply Pick.there)) ?_)))
    · try simp only [decide_eq_true_eq, decide_eq_false_iff_not, Bool.not_eq_true', Bool.not_eq_false', Bool.and_eq_true, Bool.or_eq_true, Bool.and_eq_false_iff, Bool.or_eq_false_iff, Bool.not_true, Bool.not_false] at h10
      exfalso; first | omega | (simp at h10; done) | (simp_all; done)
  · skip
    refine s_seq ?_
    refine s_region ?_
    refine o_p (p_pure rfl) rfl ?_
    refine o_nil ?_
    refine s_seq ?_
    refine s_cond rfl (fun h13 => ?_) (fun h13 => ?_)
    · try simp only [decide_eq_true_eq, decide_eq_false_iff_not, Bool.not_eq_true', Bool.not_eq_false', Bool.and_eq_true, Bool.or_eq_true, Bool.and_eq_false_iff, Bool.or_eq_false_iff, Bool.not_true, Bool.not_false] at h13
      exfalso; first | omega | (simp at h13; done) | (simp_all; done)
    · try simp only [decide_eq_true_eq, decide_eq_false_iff_not, Bool.not_eq_true', Bool.not_eq_false', Bool.and_eq_true, Bool.or_eq_true, Bool.and_eq_false_iff, Bool.or_eq_false_iff, Bool.not_true, Bool.not_false] at h13
      refine s_exit_to rfl ?_
      exact s_end0 rfl (fun w' h' => ⟨(), rfl, trivial, h'.ent (by repeat (first | exact .nil | refine .cons (by repeat (first | exact .here | apply Pick.there)) ?_))⟩)
  · exfalso; omega

set_option maxRecDepth 20000 in
theorem c75v (w : World) (key : List UInt8) (n c : Int) (hk : key.length = 8) (hn : isWd n) (hc : isWd c) : Calls Try.prog 75 #[.string (bs key), .int .i64 n, .int .i64 c] w fun en w' => ∃ v : Value, en = .returned v ∧ True ∧ HS w [] [.own v 5 1 16 ((blockB key (wd n) (wd c)).map bv)] w' := by
  refine enter (args := [_, _, _]) Try.func75 Try.ntmps75 rfl rfl (HS.refl w []) ?_
  refine s_seq ?_
  refine s_region ?_
  refine o_p (p_pure rfl) rfl ?_
  refine o_nil ?_
  refine s_seq ?_
  refine s_region ?_
  refine o_p (p_pure rfl) rfl ?_
  refine o_p (p_pure rfl) rfl ?_
  refine o_p (p_pure rfl) rfl ?_
  refine o_q (q_call rfl fn_107 rfl (fun w1 h1 => c107 w1 _ _ _ (by assumption) (by assumption) (by assumption))) rfl ?_
  refine o_h (h_alloc rfl zr_155) rfl (fun b1 _ => ?_)
  refine o_h0 (h_store rfl rfl rfl sz_155 rfl (by repeat (first | exact .here | apply Put.there)) (by simp) rfl) (fun _ _ => ?_)
  refine o_nil ?_
  refine s_seq ?_
  refine s_region ?_
  refine o_q (q_loadn rfl rfl sz_155 (by repeat (first | exact .here | apply Pick.there)) rfl) rfl ?_
  refine o_h (h_alloc rfl zr_155) rfl (fun b2 _ => ?_)
  refine o_h0 (h_store rfl rfl rfl sz_155 rfl (by repeat (first | exact .here | apply Put.there)) (by simp) rfl) (fun _ _ => ?_)
  refine o_nil ?_
  refine s_seq ?_
  refine s_seq ?_
  refine s_region ?_
  refine o_p (p_pure rfl) rfl ?_
  refine o_nil ?_
  refine s_block ?_
  refine s_loopI (α := Nat) [17, 18, 19, 20] (fun k => [(17, .int .i64 (k : Int))]) (fun k => HS w [] [.blk b2 155 8 ((roundN (stateL key (wd n) (wd c)) k).map wv), .blk b1 155 8 ((stateL key (wd n) (wd c)).map wv)]) (fun k => k ≤ 6) (fun k => 6 - k) 0 (by omega) (by repeat (first | exact sl_n | refine sl_c rfl ?_)) (fun w h => h.ent (by repeat (first | exact .nil | refine .cons (by repeat (first | exact .here | apply Pick.there)) ?_))) (fun k hk => ?_)
  refine s_seq ?_
  refine s_region ?_
  refine o_p (p_pure rfl) rfl ?_
  refine o_nil ?_
  refine s_seq ?_
  refine s_cond rfl (fun h3 => ?_) (fun h3 => ?_)
  · try simp only [decide_eq_true_eq, decide_eq_false_iff_not, Bool.not_eq_true', Bool.not_eq_false', Bool.and_eq_true, Bool.or_eq_true, Bool.and_eq_false_iff, Bool.or_eq_false_iff, Bool.not_true, Bool.not_false] at h3
    refine s_skip ?_
    refine s_seq ?_
    refine s_block ?_
    refine s_region ?_
    refine o_h (h_call1 rfl fn_108 rfl (by repeat (first | exact .here | apply Pick.there)) (fun w1 h1 => c108 w1 b2 _ (h1.blk_get (by repeat (first | exact .here | apply Pick.there))) (by rw [roundN_length]; rfl))) rfl (fun b4 _ => ?_)
    refine o_nil ?_
    refine s_blk ?_
    refine s_region ?_
    refine o_p (p_pure rfl) rfl ?_
    try (refine o_slot (i64w (by omega) (by omega)) ?_)
    refine o_p (p_pure rfl) rfl ?_
    refine o_nil ?_
    exact s_backI (k + 1) (by omega) (by omega) (by repeat (first | exact sl_n | refine sl_c rfl ?_)) (fun w h => h.ent (by repeat (first | exact .nil | refine .cons (by repeat (first | exact .here | apply Pick.there)) ?_)))
  · try simp only [decide_eq_true_eq, decide_eq_false_iff_not, Bool.not_eq_true', Bool.not_eq_false', Bool.and_eq_true, Bool.or_eq_true, Bool.and_eq_false_iff, Bool.or_eq_false_iff, Bool.not_true, Bool.not_false] at h3
    refine s_exit_to rfl ?_
    refine s_seq ?_
    refine s_region ?_
    refine o_p (p_pure rfl) rfl ?_
    obtain rfl : k = 6 := by omega
    have hl6 : (roundN (stateL key (wd n) (wd c)) 6).length = 8 := by rw [roundN_length]; rfl
    generalize hS6 : roundN (stateL key (wd n) (wd c)) 6 = s6 at *
    refine o_nil ?_
    refine s_seq ?_
    refine s_seq ?_
    refine s_region ?_
    refine o_q (q_loadn rfl rfl sz_155 (by repeat (first | exact .here | apply Pick.there)) (by rw [List.length_map, hl6]; rfl)) rfl ?_
    rw [cut_all (by rw [List.length_map, hl6])]
    refine o_p (p_pure rfl) rfl ?_
    refine o_nil ?_
    refine s_block ?_
    refine s_loopI (α := Nat × Value) [9, 10, 11, 22, 23, 24, 25, 26, 27, 28, 29, 30, 31, 32, 33, 34, 35, 36, 37, 38, 39] (fun x => [(22, .int .i64 (x.1 : Int)), (9, x.2)]) (fun x => HS w [] [.own x.2 5 1 (2 * x.1) ((wb (addL s6 (stateL key (wd n) (wd c))) x.1).map bv), .blk b1 155 8 ((stateL key (wd n) (wd c)).map wv)]) (fun x => x.1 ≤ 8) (fun x => 8 - x.1) (0, .slice none 0 0) (by omega) (by repeat (first | exact sl_n | refine sl_c rfl ?_)) (fun w h => (h.own_nil 5 1).ent (by repeat (first | exact .nil | refine .cons (by repeat (first | exact .here | apply Pick.there)) ?_))) (fun x hx => ?_)
    refine s_seq ?_
    refine s_region ?_
    refine o_p (p_pure rfl) rfl ?_
    refine o_nil ?_
    refine s_seq ?_
    refine s_cond rfl (fun h5 => ?_) (fun h5 => ?_)
    · try simp only [decide_eq_true_eq, decide_eq_false_iff_not, Bool.not_eq_true', Bool.not_eq_false', Bool.and_eq_true, Bool.or_eq_true, Bool.and_eq_false_iff, Bool.or_eq_false_iff, Bool.not_true, Bool.not_false] at h5
      refine s_skip ?_
      refine s_seq ?_
      refine s_block ?_
      refine s_seq ?_
      refine s_region ?_
      refine o_p (p_pure rfl) rfl ?_
      refine o_p (p_index1 rfl rfl rfl ar_155 sz_57 x.1 rfl (by omega) (v := wv (s6.getD x.1 0)) (by rw [Nat.mul_one]; exact getw (by omega))) rfl ?_
      refine o_p (p_pure rfl) rfl ?_
      refine o_p (p_pure rfl) rfl ?_
      refine o_nil ?_
      refine s_seq ?_
      refine s_region ?_
      refine o_p (p_pure rfl) rfl ?_
      refine o_p (p_pure rfl) rfl ?_
      refine o_p (p_indexAddr_arr rfl rfl rfl ar_155 x.1 rfl (by omega)) rfl ?_
      refine o_q (q_load (v := wv ((stateL key (wd n) (wd c)).getD x.1 0)) rfl rfl sz_57 (by repeat (first | exact .here | apply Pick.there)) (by rw [Nat.zero_add, Nat.mul_one]; exact getw (by simp [stateL]; omega))) rfl ?_
      refine o_p (p_pure rfl) rfl ?_
      try (refine o_slot (u16add _ _) ?_)
      refine o_p (p_pure rfl) rfl ?_
      refine o_nil ?_
      refine s_region ?_
      refine o_p (p_pure rfl) rfl ?_
      refine o_p (p_pure rfl) rfl ?_
      refine o_p (p_conv_int rfl rfl ki_57 ki_5) rfl ?_
      refine o_slot (lo_slot _) ?_
      refine o_p (p_pure rfl) rfl ?_
      refine o_p (p_shr rfl rfl rfl (by decide) 8 rfl) rfl ?_
      refine o_p (p_conv_int rfl rfl ki_57 ki_5) rfl ?_
      refine o_slot (hi_slot _) ?_
      refine o_h (h_buildSlice (cs := [_, _]) rfl rfl sl_113 zr_5 rfl rfl rfl) rfl (fun b6 _ => ?_)
      refine o_h (h_append _ rfl rfl rfl sl_113 Try.underlying113 zr_5 rfl (by repeat (first | exact .here | apply Pick.there)) (src_blk (by repeat (first | exact .here | apply Pick.there))) rfl (by intro u hu; simp only [List.mem_cons, List.mem_nil_iff, or_false] at hu; rcases hu with rfl | hu <;> first | rfl | (subst hu; rfl) | (rcases hu with rfl | rfl <;> rfl)) (by omega) (by simp only [maxLen]; omega)) rfl (fun b7 _ => ?_)
      refine o_p (p_pure rfl) rfl ?_
      refine o_nil ?_
      refine s_blk ?_
      refine s_region ?_
      refine o_p (p_pure rfl) rfl ?_
      try (refine o_slot (i64w (by omega) (by omega)) ?_)
      refine o_p (p_pure rfl) rfl ?_
      refine o_nil ?_
      exact s_backI (x.1 + 1, _) (by (try simp only []); omega) (by (try simp only []); omega) (by repeat (first | exact sl_n | refine sl_c rfl ?_)) (fun w h => by have e := wb_succ_map s6 (stateL key (wd n) (wd c)) (k := x.1) (by omega); simp only [e]; exact h.ent (by repeat (first | exact .nil | refine .cons (by repeat (first | exact .here | apply Pick.there)) ?_)))
    · try simp only [decide_eq_true_eq, decide_eq_false_iff_not, Bool.not_eq_true', Bool.not_eq_false', Bool.and_eq_true, Bool.or_eq_true, Bool.and_eq_false_iff, Bool.or_eq_false_iff, Bool.not_true, Bool.not_false] at h5
      refine s_exit_to rfl ?_
      refine s_seq ?_
      refine s_region ?_
      refine o_p (p_pure rfl) rfl ?_
      refine o_p (p_pure rfl) rfl ?_
      refine o_nil ?_
      exact s_retv (rs := [.tmp 6]) rfl (.tmp rfl (.nil)) (fun w' h' => ⟨_, rfl, trivial, by have h8 : x.1 = 8 := (by omega); rw [h8] at h'; unfold blockB; rw [hS6]; exact h'.ent (by repeat (first | exact .nil | refine .cons (by repeat (first | exact .here | apply Pick.there)) ?_))⟩)

end Go.Proofs
