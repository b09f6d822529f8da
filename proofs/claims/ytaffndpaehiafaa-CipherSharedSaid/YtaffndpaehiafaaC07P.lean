/- Contracts of the program's functions, proved by walking them with the rules of the Gx texts; without conditions beyond those that each contract names. -/
import Derived.Test.YtaffndpaehiafaaC07O
namespace Go.Proofs
open Go Go.RowKit Gx
set_option linter.unusedVariables false
set_option linter.unusedSimpArgs false
attribute [local irreducible] Go.Calls Gx.S Gx.O Gx.D Gx.OpP Gx.OpQ Gx.OpH

theorem fn_35 : isFn Try.prog 35 = true := by kernel_rfl
theorem fn_64 : isFn Try.prog 64 = true := by kernel_rfl
theorem fn_37 : isFn Try.prog 37 = true := by kernel_rfl
theorem fn_18 : isFn Try.prog 18 = true := by kernel_rfl


theorem b8 (x : UInt8) : Value.int .u8 (IntKind.u8.wrap (x.toNat : Int)) = bv x := by
  have h := x.toNat_lt
  rw [wrap_u8_mod, bv, Nat.mod_eq_of_lt h]
theorem chk_mul2 {k : Nat} (h : k < 8) (b : UInt8) : Value.int .i64 (IntKind.i64.wrap ((b.toNat : Int) * ((k : Int) + 1))) = .int .i64 (((k + 1) * b.toNat : Nat) : Int) := by
  rw [Int.mul_comm]; exact chk_mul h b

set_option maxRecDepth 20000 in
theorem c37 (w : World) (key : List UInt8) (n : Int) (p : Nat) (data : List UInt8) (hk : key.length = 8) (hn : isWd n) (hp : p + data.length ≤ 1048576) : Calls Try.prog 37 #[.string (bs key), .int .i64 n, .int .i64 (p : Int), .string (bs data)] w fun en w' => en = .returned (.string (bs (cryptL key (wd n) p data))) ∧ Below w.heap.size w w' := by
  refine enter (args := [_, _, _, _]) Try.func37 Try.ntmps37 rfl rfl (HS.refl w []) ?_
  refine s_seq ?_
  refine s_region ?_
  refine o_p (p_pure rfl) rfl ?_
  refine o_nil ?_
  refine s_seq ?_
  refine s_region ?_
  refine o_p (p_pure rfl) rfl ?_
  refine o_h (h_bytes rfl rfl Try.underlying9 Try.underlying113 Try.underlying5 rfl (by simp only [maxLen]; omega)) rfl (fun ⟨b1, c2⟩ ⟨h3, k4⟩ => ?_)
  refine o_p (p_pure rfl) rfl ?_
  refine o_nil ?_
  refine s_seq ?_
  refine s_region ?_
  refine o_p (p_pure rfl) rfl ?_
  refine o_p (p_pure rfl) rfl ?_
  refine o_nil ?_
  refine s_seq ?_
  refine s_seq ?_
  refine s_region ?_
  refine o_p (p_pure rfl) rfl ?_
  refine o_nil ?_
  refine s_block ?_
  have hd0 : cryptK key (wd n) p data 0 = data := by simp [cryptK, cryptL]
  refine s_loopI (α := Nat × Int × List UInt8) [10, 11, 12, 15, 16, 17, 18, 19, 20, 21, 22, 23, 24, 25, 26, 27, 28, 29, 30, 31, 32, 33, 34, 35, 36, 37, 38, 39, 40, 41, 42, 43, 44, 45, 46, 47, 48, 49, 50, 51] (fun x => [(12, .int .i64 (x.1 : Int)), (11, .int .i64 x.2.1), (10, .string (bs x.2.2))]) (fun x => HS w [] [.blk b1 5 c2 ((cryptK key (wd n) p data x.1).map bv)]) (fun x => x.1 ≤ data.length ∧ (x.2.1 ≠ -1 → x.2.2 = blockB key (wd n) (wd x.2.1))) (fun x => data.length - x.1) (0, -1, []) (by constructor <;> simp) (by repeat (first | exact sl_n | refine sl_c rfl ?_)) (fun w h => h.ent (by repeat (first | exact .nil | refine .cons (by repeat (first | exact .here | apply Pick.there)) ?_))) (fun ⟨k, ctr, blk⟩ hx => ?_)
  obtain ⟨hx1, hx2⟩ := hx
  simp only [] at hx1 hx2
  have hba := (data.getD k 0).toNat_lt
  have hbb := (ks key (wd n) (p + k)).toNat_lt
  refine s_seq ?_
  refine s_seq ?_
  refine s_region ?_
  refine o_p (p_pure rfl) rfl ?_
  refine o_p (p_pure rfl) rfl ?_
  first | refine o_p (p_len_slice rfl rfl Try.underlying113) rfl ?_ | refine o_q (q_len_own rfl rfl Try.underlying113 (by repeat (first | exact .here | apply Pick.there))) rfl ?_
  refine o_p (p_pure rfl) rfl ?_
  refine o_nil ?_
  refine s_cond rfl (fun h5 => ?_) (fun h5 => ?_)
  · try simp only [decide_eq_true_eq, decide_eq_false_iff_not, Bool.not_eq_true', Bool.not_eq_false', Bool.and_eq_true, Bool.or_eq_true, Bool.and_eq_false_iff, Bool.or_eq_false_iff, Bool.not_true, Bool.not_false] at h5
    refine s_skip ?_
    refine s_seq ?_
    refine s_block ?_
    refine s_seq ?_
    refine s_seq ?_
    refine s_region ?_
    refine o_p (p_pure rfl) rfl ?_
    refine o_p (p_pure rfl) rfl ?_
    refine o_p (p_pure rfl) rfl ?_
    try (refine o_slot (i64w (by omega) (by omega)) ?_)
    first | refine o_p (p_quo_nn rfl rfl rfl (by omega) (by omega) (by omega)) rfl ?_ | refine o_p (p_quo rfl rfl rfl (by decide)) rfl ?_ | refine o_p (p_quo rfl rfl rfl (by omega)) rfl ?_
    refine o_p (p_pure rfl) rfl ?_
    refine o_p (p_pure rfl) rfl ?_
    refine o_nil ?_
    refine s_cutI (α := Unit) [10, 11, 27, 28, 29, 30, 31, 32, 33, 34] (fun _ => [(11, .int .i64 (((p : Int) + (k : Int)) / 16)), (10, .string (bs (blockB key (wd n) (UInt16.ofNat ((p + k) / 16)))))]) (fun _ => HS w [] [.blk b1 5 c2 ((cryptK key (wd n) p data k).map bv)]) (fun _ => True) ?_ ?_
    · skip
      refine s_cond rfl (fun h6 => ?_) (fun h6 => ?_)
      · try simp only [decide_eq_true_eq, decide_eq_false_iff_not, Bool.not_eq_true', Bool.not_eq_false', Bool.and_eq_true, Bool.or_eq_true, Bool.and_eq_false_iff, Bool.or_eq_false_iff, Bool.not_true, Bool.not_false] at h6
        refine s_seq ?_
        refine s_region ?_
        refine o_p (p_pure rfl) rfl ?_
        refine o_p (p_pure rfl) rfl ?_
        refine o_p (p_pure rfl) rfl ?_
        try (refine o_slot (i64w (by omega) (by omega)) ?_)
        first | refine o_p (p_quo_nn rfl rfl rfl (by omega) (by omega) (by omega)) rfl ?_ | refine o_p (p_quo rfl rfl rfl (by decide)) rfl ?_ | refine o_p (p_quo rfl rfl rfl (by omega)) rfl ?_
        refine o_p (p_pure rfl) rfl ?_
        refine o_nil ?_
        refine s_region ?_
        refine o_p (p_pure rfl) rfl ?_
        refine o_p (p_pure rfl) rfl ?_
        refine o_p (p_pure rfl) rfl ?_
        refine o_q (q_call rfl fn_35 rfl (fun w1 h1 => c35 w1 key n (((p : Int) + (k : Int)) / 16) hk hn (by constructor <;> omega))) rfl ?_
        refine o_p (p_pure rfl) rfl ?_
        refine o_nil ?_
        exact s_joinI () trivial (sl_c rfl (sl_c (congrArg (fun e => some (Value.string (bs e))) (by rw [wd_div])) (by repeat (first | exact sl_n | refine sl_c rfl ?_)))) (fun w h => h.ent (by repeat (first | exact .nil | refine .cons (by repeat (first | exact .here | apply Pick.there)) ?_)))
      · try simp only [decide_eq_true_eq, decide_eq_false_iff_not, Bool.not_eq_true', Bool.not_eq_false', Bool.and_eq_true, Bool.or_eq_true, Bool.and_eq_false_iff, Bool.or_eq_false_iff, Bool.not_true, Bool.not_false] at h6
        refine s_skip ?_
        have hct : ((p : Int) + (k : Int)) / 16 = ctr := h6
        have hbk := hx2 (by omega)
        exact s_joinI () trivial (sl_c (congrArg (fun e => some (Value.int .i64 e)) hct.symm) (sl_c (congrArg (fun e => some (Value.string (bs e))) (by rw [hbk, ← hct, wd_div])) (by repeat (first | exact sl_n | refine sl_c rfl ?_)))) (fun w h => h.ent (by repeat (first | exact .nil | refine .cons (by repeat (first | exact .here | apply Pick.there)) ?_)))
    · intro _ _
      refine s_draw [17] mixed ?_
      refine d_p 0 rfl (p_pure rfl) (by kernel_rfl) rfl rfl ?_
      refine d_p 1 rfl (p_pure rfl) (by kernel_rfl) rfl rfl ?_
      refine d_p 2 rfl (p_pure rfl) (by kernel_rfl) rfl rfl ?_
      refine d_p 3 rfl (p_pure rfl) (by kernel_rfl) rfl rfl ?_
      refine d_p 4 rfl (p_indexAddr rfl rfl rfl sl_113 (k) (by omega) (by omega) rfl) (by kernel_rfl) rfl rfl ?_
      refine d_q 5 [[]] rfl (q_load (v := bv (data.getD k 0)) rfl rfl sz_5 (by repeat (first | exact .here | apply Pick.there)) (by rw [Nat.zero_add, Nat.mul_one, ← cryptK_get (key := key) (n := wd n) (at' := p) (by omega)]; exact getb (by rw [cryptK_length]; omega))) (by kernel_rfl) (by kernel_rfl) (by kernel_rfl) rfl ?_
      refine d_p 6 rfl (p_conv_int rfl rfl ki_5 ki_3) (by kernel_rfl) rfl rfl ?_
      try (refine d_slot (i64w (by omega) (by omega)) ?_)
      refine d_p 7 rfl (p_pure rfl) (by kernel_rfl) rfl rfl ?_
      refine d_p 8 rfl (p_pure rfl) (by kernel_rfl) rfl rfl ?_
      refine d_p 9 rfl (p_pure rfl) (by kernel_rfl) rfl rfl ?_
      refine d_p 10 rfl (p_pure rfl) (by kernel_rfl) rfl rfl ?_
      try (refine d_slot (i64w (by omega) (by omega)) ?_)
      first | refine d_p 11 rfl (p_rem_nn rfl rfl rfl (by omega) (by omega)) (by kernel_rfl) rfl rfl ?_ | refine d_p 11 rfl (p_rem rfl rfl rfl (by decide)) (by kernel_rfl) rfl rfl ?_ | refine d_p 11 rfl (p_rem rfl rfl rfl (by omega)) (by kernel_rfl) rfl rfl ?_
      refine d_p 12 rfl (p_index_str rfl rfl rfl Try.underlying9 ((p + k) % 16) (by omega) (by rw [blockB_length]; omega)) (by kernel_rfl) rfl rfl ?_
      refine d_slot (show _ = Value.int .u8 ((ks key (wd n) (p + k)).toNat : Int) from rfl) ?_
      refine d_p 13 rfl (p_conv_int rfl rfl ki_5 ki_3) (by kernel_rfl) rfl rfl ?_
      try (refine d_slot (i64w (by omega) (by omega)) ?_)
      refine d_q 14 [[]] rfl (q_call rfl fn_58 rfl (fun w1 h1 => x58b w1 (data.getD k 0) (ks key (wd n) (p + k)))) (by kernel_rfl) (by kernel_rfl) (by kernel_rfl) rfl ?_
      refine d_p 15 rfl (p_conv_int rfl rfl ki_3 ki_5) (by kernel_rfl) rfl rfl ?_
      refine d_slot (b8 _) ?_
      refine d_p 16 rfl (p_indexAddr rfl rfl rfl sl_113 (k) (by omega) (by omega) rfl) (by kernel_rfl) rfl rfl ?_
      refine d_h0 17 rfl (h_store rfl rfl rfl sz_5 rfl (by repeat (first | exact .here | apply Put.there)) (by simp only [List.length_map, cryptK_length]; omega) rfl) (by kernel_rfl) (fun w h => h.ent (by repeat (first | exact .nil | refine .cons (by repeat (first | exact .here | apply Pick.there)) ?_))) (fun _ _ => ?_)
      refine d_turn [] (by kernel_rfl) ?_
      refine d_nil (by kernel_rfl) (fun w h => h.ent (by repeat (first | exact .nil | refine .cons (by repeat (first | exact .here | apply Pick.there)) ?_))) ?_
      refine s_blk ?_
      refine s_region ?_
      refine o_p (p_pure rfl) rfl ?_
      refine o_p (p_pure rfl) rfl ?_
      try (refine o_slot (i64w (by omega) (by omega)) ?_)
      refine o_p (p_pure rfl) rfl ?_
      refine o_nil ?_
      exact s_backI (k + 1, ((p : Int) + (k : Int)) / 16, (blockB key (wd n) (UInt16.ofNat ((p + k) / 16)))) (by (try simp only []); omega) ⟨by (try simp only []); omega, fun _ => by rw [wd_div]⟩ (by repeat (first | exact sl_n | refine sl_c rfl ?_)) (fun w h => by rw [← crypt_set (by omega)]; exact h.ent (by repeat (first | exact .nil | refine .cons (by repeat (first | exact .here | apply Pick.there)) ?_)))
  · try simp only [decide_eq_true_eq, decide_eq_false_iff_not, Bool.not_eq_true', Bool.not_eq_false', Bool.and_eq_true, Bool.or_eq_true, Bool.and_eq_false_iff, Bool.or_eq_false_iff, Bool.not_true, Bool.not_false] at h5
    refine s_exit_to rfl ?_
    refine s_seq ?_
    refine s_region ?_
    refine o_p (p_pure rfl) rfl ?_
    first | refine o_q (q_string_own rfl rfl Try.underlying113 Try.underlying9 Try.underlying5 (by repeat (first | exact .here | apply Pick.there)) (isU8_bv _)) rfl ?_ | refine o_q (q_string_blk rfl rfl Try.underlying113 Try.underlying9 Try.underlying5 (by repeat (first | exact .here | apply Pick.there)) (by simp [cryptK_length]) (isU8_bv _)) rfl ?_
    refine o_p (p_pure rfl) rfl ?_
    refine o_nil ?_
    exact s_retv (rs := [.tmp 8]) rfl (.tmp rfl (.nil)) (fun w' h' => ⟨by rw [vByte_bv, show k = data.length by omega, cryptK_all]; rfl, h'.below⟩)

theorem c37i (w : World) (key : List UInt8) (n at' : Int) (data : List UInt8) (hk : key.length = 8) (hn : isWd n) (h0 : 0 ≤ at') (hp : at' + data.length ≤ 1048576) : Calls Try.prog 37 #[.string (bs key), .int .i64 n, .int .i64 at', .string (bs data)] w fun en w' => en = .returned (.string (bs (cryptL key (wd n) at'.toNat data))) ∧ Below w.heap.size w w' := by
  obtain ⟨p, rfl⟩ := Int.eq_ofNat_of_zero_le h0
  exact c37 w key n p data hk hn (by omega)

set_option maxRecDepth 20000 in
theorem c64 (w : World) (key : List UInt8) (hk : key.length ≤ 8) : Calls Try.prog 64 #[.string (bs key)] w fun en w' => en = .returned (.string (bs (checkL key))) ∧ Below w.heap.size w w' := by
  refine enter (args := [_]) Try.func64 Try.ntmps64 rfl rfl (HS.refl w []) ?_
  refine s_seq ?_
  refine s_region ?_
  refine o_p (p_pure rfl) rfl ?_
  refine o_nil ?_
  refine s_seq ?_
  refine s_region ?_
  refine o_p (p_pure rfl) rfl ?_
  refine o_nil ?_
  refine s_seq ?_
  refine s_seq ?_
  refine s_region ?_
  refine o_p (p_pure rfl) rfl ?_
  refine o_nil ?_
  refine s_block ?_
  refine s_loopI (α := Nat) [3, 4, 5, 6, 7, 8, 9, 10, 11, 12, 13, 14, 15, 16, 17, 18, 19] (fun k => [(4, .int .i64 (k : Int)), (3, .int .i64 (sumK key k : Int))]) (fun _ => _) (fun k => k ≤ key.length) (fun k => key.length - k) 0 (by omega) (by repeat (first | exact sl_n | refine sl_c rfl ?_)) (fun w h => h) (fun k hk1 => ?_)
  have hs := sumK_8 key (k := k) (by omega)
  have hb := (key.getD k 0).toNat_lt
  refine s_seq ?_
  refine s_seq ?_
  refine s_region ?_
  refine o_p (p_pure rfl) rfl ?_
  refine o_p (p_pure rfl) rfl ?_
  refine o_p (p_len_str rfl rfl Try.underlying9) rfl ?_
  refine o_p (p_pure rfl) rfl ?_
  refine o_nil ?_
  refine s_cond rfl (fun h1 => ?_) (fun h1 => ?_)
  · try simp only [decide_eq_true_eq, decide_eq_false_iff_not, Bool.not_eq_true', Bool.not_eq_false', Bool.and_eq_true, Bool.or_eq_true, Bool.and_eq_false_iff, Bool.or_eq_false_iff, Bool.not_true, Bool.not_false] at h1
    refine s_skip ?_
    refine s_seq ?_
    refine s_block ?_
    refine s_region ?_
    refine o_p (p_pure rfl) rfl ?_
    refine o_p (p_pure rfl) rfl ?_
    refine o_p (p_pure rfl) rfl ?_
    refine o_p (p_index_str rfl rfl rfl Try.underlying9 (k) (by omega) (by omega)) rfl ?_
    refine o_p (p_conv_int rfl rfl ki_5 ki_3) rfl ?_
    try (refine o_slot (i64w (by omega) (by omega)) ?_)
    refine o_p (p_pure rfl) rfl ?_
    refine o_p (p_pure rfl) rfl ?_
    try (refine o_slot (i64w (by omega) (by omega)) ?_)
    refine o_p (p_pure rfl) rfl ?_
    try (refine o_slot (i64w (by omega) (by omega)) ?_)
    refine o_slot (chk_mul2 (by omega) _) ?_
    have hm : (k + 1) * (key.getD k 0).toNat ≤ 8 * 255 := Nat.mul_le_mul (by omega) (by omega)
    generalize hgm : (k + 1) * (key.getD k 0).toNat = m at *
    refine o_p (p_pure rfl) rfl ?_
    try (refine o_slot (i64w (by omega) (by omega)) ?_)
    rw [show ((sumK key k : Nat) : Int) + (m : Int) = ((sumK key (k + 1) : Nat) : Int) by rw [sumK, hgm]; rfl]
    refine o_p (p_pure rfl) rfl ?_
    refine o_nil ?_
    refine s_blk ?_
    refine s_region ?_
    refine o_p (p_pure rfl) rfl ?_
    refine o_p (p_pure rfl) rfl ?_
    try (refine o_slot (i64w (by omega) (by omega)) ?_)
    refine o_p (p_pure rfl) rfl ?_
    refine o_nil ?_
    exact s_backI (k + 1) (by omega) (by omega) (by repeat (first | exact sl_n | refine sl_c rfl ?_)) (fun w h => h)
  · try simp only [decide_eq_true_eq, decide_eq_false_iff_not, Bool.not_eq_true', Bool.not_eq_false', Bool.and_eq_true, Bool.or_eq_true, Bool.and_eq_false_iff, Bool.or_eq_false_iff, Bool.not_true, Bool.not_false] at h1
    refine s_exit_to rfl ?_
    refine s_seq ?_
    refine s_region ?_
    refine o_p (p_pure rfl) rfl ?_
    refine o_q (q_call rfl fn_78 rfl (fun w1 h1 => c78 w1 (sumK key k) 2 (by omega) (by decide))) rfl ?_
    refine o_p (p_pure rfl) rfl ?_
    refine o_nil ?_
    exact s_retv (rs := [.tmp 2]) rfl (.tmp rfl (.nil)) (fun w' h' => ⟨by rw [show k = key.length by omega]; rfl, h'.below⟩)

set_option maxRecDepth 20000 in
theorem c20 (w : World) (u : Int) (own key : List UInt8) (hu : isWd u) (ho : own.length = 8) (hk : key.length = 8) : Calls Try.prog 20 #[.agg #[.int .i64 u, .string (bs own)], .string (bs key)] w fun en w' => en = .returned (.string (bs (wrapL u own key))) ∧ Below w.heap.size w w' := by
  have hcl : (checkL key).length = 2 := rfl
  refine enter (args := [_, _]) Try.func20 Try.ntmps20 rfl rfl (HS.refl w []) ?_
  refine s_seq ?_
  refine s_region ?_
  refine o_h (h_box rfl rfl) rfl (fun b1 _ => ?_)
  refine o_p (p_pure rfl) rfl ?_
  refine o_nil ?_
  refine s_seq ?_
  refine s_draw [] mixed ?_
  refine d_p 0 rfl (p_fieldAddr rfl rfl fd_31_1 sz_9 rfl) (by kernel_rfl) rfl rfl ?_
  refine d_q 1 [] rfl (q_load rfl rfl sz_9 (by repeat (first | exact .here | apply Pick.there)) rfl) (by kernel_rfl) (by kernel_rfl) (by kernel_rfl) rfl ?_
  refine d_p 2 rfl (p_fieldAddr rfl rfl fd_31_0 sz_3 rfl) (by kernel_rfl) rfl rfl ?_
  refine d_q 3 [] rfl (q_load rfl rfl sz_3 (by repeat (first | exact .here | apply Pick.there)) rfl) (by kernel_rfl) (by kernel_rfl) (by kernel_rfl) rfl ?_
  refine d_p 4 rfl (p_pure rfl) (by kernel_rfl) rfl rfl ?_
  refine d_p 5 rfl (p_pure rfl) (by kernel_rfl) rfl rfl ?_
  refine d_q 6 [] rfl (q_call rfl fn_64 rfl (fun w1 h1 => c64 w1 _ (by first | omega | (simp; omega)))) (by kernel_rfl) (by kernel_rfl) (by kernel_rfl) rfl ?_
  refine d_p 7 rfl (p_str_add rfl rfl rfl (by (try simp only [List.length_append, List.length_cons, List.length_nil, List.length_replicate, List.length_take, List.length_drop]); omega)) (by kernel_rfl) rfl rfl ?_
  refine d_q 8 [] rfl (q_call rfl fn_37 rfl (fun w1 h1 => c37 w1 own u 0 _ ho hu (by simp [checkL, hk]))) (by kernel_rfl) (by kernel_rfl) (by kernel_rfl) rfl ?_
  refine d_p 9 rfl (p_pure rfl) (by kernel_rfl) rfl rfl ?_
  refine d_nil (by kernel_rfl) (fun w h => h.ent (by repeat (first | exact .nil | refine .cons (by repeat (first | exact .here | apply Pick.there)) ?_))) ?_
  exact s_retv (rs := [.tmp 4]) rfl (.tmp rfl (.nil)) (fun w' h' => ⟨rfl, h'.below⟩)

set_option maxRecDepth 20000 in
theorem c22 (w : World) (u : Int) (own s : List UInt8) : Calls Try.prog 22 #[.agg #[.int .i64 u, .string (bs own)], .string (bs s)] w fun en w' => en = .returned (pairV (unwrapE u own s)) ∧ Below w.heap.size w w' := by
  refine enter (args := [_, _]) Try.func22 Try.ntmps22 rfl rfl (HS.refl w []) ?_
  refine s_seq ?_
  refine s_region ?_
  refine o_h (h_box rfl rfl) rfl (fun b1 _ => ?_)
  refine o_p (p_pure rfl) rfl ?_
  refine o_p (p_pure rfl) rfl ?_
  refine o_nil ?_
  refine s_seq ?_
  refine s_seq ?_
  refine s_region ?_
  refine o_q (q_loadn rfl rfl sz_31 (by repeat (first | exact .here | apply Pick.there)) rfl) rfl ?_
  refine o_q (q_call rfl fn_18 rfl (fun w1 h1 => c18 w1 _ _)) rfl ?_
  refine o_p (p_pure rfl) rfl ?_
  refine o_nil ?_
  refine s_seq ?_
  refine s_region ?_
  refine o_p (p_pure rfl) rfl ?_
  refine o_p (p_pure rfl) rfl ?_
  refine o_nil ?_
  refine s_cond rfl (fun h2 => ?_) (fun h2 => ?_)
  · try simp only [decide_eq_true_eq, decide_eq_false_iff_not, Bool.not_eq_true', Bool.not_eq_false', Bool.and_eq_true, Bool.or_eq_true, Bool.and_eq_false_iff, Bool.or_eq_false_iff, Bool.not_true, Bool.not_false] at h2
    refine s_seq ?_
    refine s_region ?_
    refine o_p (p_pure rfl) rfl ?_
    refine o_p (p_pure rfl) rfl ?_
    refine o_p (p_pure rfl) rfl ?_
    refine o_nil ?_
    exact s_retv (rs := [.tmp 4, .tmp 5]) rfl (.tmp rfl (.tmp rfl (.nil))) (fun w' h' => ⟨by simp only [unwrapE]; rw [if_neg (by assumption)]; rfl, h'.below⟩)
  · try simp only [decide_eq_true_eq, decide_eq_false_iff_not, Bool.not_eq_true', Bool.not_eq_false', Bool.and_eq_true, Bool.or_eq_true, Bool.and_eq_false_iff, Bool.or_eq_false_iff, Bool.not_true, Bool.not_false] at h2
    refine s_skip ?_
    refine s_seq ?_
    refine s_seq ?_
    refine s_region ?_
    refine o_p (p_pure rfl) rfl ?_
    refine o_p (p_len_str rfl rfl Try.underlying9) rfl ?_
    refine o_p (p_pure rfl) rfl ?_
    refine o_nil ?_
    refine s_cond rfl (fun h3 => ?_) (fun h3 => ?_)
    · try simp only [decide_eq_true_eq, decide_eq_false_iff_not, Bool.not_eq_true', Bool.not_eq_false', Bool.and_eq_true, Bool.or_eq_true, Bool.and_eq_false_iff, Bool.or_eq_false_iff, Bool.not_true, Bool.not_false] at h3
      refine s_seq ?_
      refine s_region ?_
      refine o_p (p_pure rfl) rfl ?_
      refine o_p (p_pure rfl) rfl ?_
      refine o_nil ?_
      exact s_retv (rs := [.tmp 4, .tmp 5]) rfl (.tmp rfl (.tmp rfl (.nil))) (fun w' h' => ⟨by simp only [unwrapE]; rw [if_pos (by omega), if_neg (by omega)]; rfl, h'.below⟩)
    · try simp only [decide_eq_true_eq, decide_eq_false_iff_not, Bool.not_eq_true', Bool.not_eq_false', Bool.and_eq_true, Bool.or_eq_true, Bool.and_eq_false_iff, Bool.or_eq_false_iff, Bool.not_true, Bool.not_false] at h3
      have hs10 : s.length = 10 := by omega
      have hh : holdE u own = 0 := by omega
      have hw := isWd_user hh
      have hl := cryptL_length own (wd u) s 0
      refine s_skip ?_
      refine s_seq ?_
      refine s_region ?_
      refine o_p (p_fieldAddr rfl rfl fd_31_1 sz_9 rfl) rfl ?_
      refine o_q (q_load rfl rfl sz_9 (by repeat (first | exact .here | apply Pick.there)) rfl) rfl ?_
      refine o_p (p_fieldAddr rfl rfl fd_31_0 sz_3 rfl) rfl ?_
      refine o_q (q_load rfl rfl sz_3 (by repeat (first | exact .here | apply Pick.there)) rfl) rfl ?_
      refine o_p (p_pure rfl) rfl ?_
      refine o_q (q_call rfl fn_37 rfl (fun w1 h1 => c37 w1 own u 0 _ hw.2.1 hw.1 (by omega))) rfl ?_
      refine o_p (p_pure rfl) rfl ?_
      refine o_nil ?_
      refine s_seq ?_
      refine s_seq ?_
      refine s_draw [] mixed ?_
      refine d_p 0 rfl (p_pure rfl) (by kernel_rfl) rfl rfl ?_
      refine d_p 1 rfl (p_slice_str_from 8 rfl rfl rfl Try.underlying9 rfl (by omega)) (by kernel_rfl) rfl rfl ?_
      refine d_p 2 rfl (p_pure rfl) (by kernel_rfl) rfl rfl ?_
      refine d_p 3 rfl (p_slice_str_to 8 rfl rfl rfl Try.underlying9 rfl (by omega)) (by kernel_rfl) rfl rfl ?_
      refine d_q 4 [] rfl (q_call rfl fn_64 rfl (fun w1 h1 => c64 w1 _ (by simp; omega))) (by kernel_rfl) (by kernel_rfl) (by kernel_rfl) rfl ?_
      refine d_p 5 rfl (p_pure rfl) (by kernel_rfl) rfl rfl ?_
      refine d_nil (by kernel_rfl) (fun w h => h.ent (by repeat (first | exact .nil | refine .cons (by repeat (first | exact .here | apply Pick.there)) ?_))) ?_
      refine s_cond rfl (fun h4 => ?_) (fun h4 => ?_)
      · try simp only [decide_eq_true_eq, decide_eq_false_iff_not, Bool.not_eq_true', Bool.not_eq_false', Bool.and_eq_true, Bool.or_eq_true, Bool.and_eq_false_iff, Bool.or_eq_false_iff, Bool.not_true, Bool.not_false] at h4
        refine s_seq ?_
        refine s_region ?_
        refine o_p (p_pure rfl) rfl ?_
        refine o_p (p_pure rfl) rfl ?_
        refine o_nil ?_
        exact s_retv (rs := [.tmp 4, .tmp 5]) rfl (.tmp rfl (.tmp rfl (.nil))) (fun w' h' => ⟨by simp only [unwrapE, unwrapT]; rw [if_pos hh, if_pos hs10, if_neg (by assumption)]; rfl, h'.below⟩)
      · try simp only [decide_eq_true_eq, decide_eq_false_iff_not, Bool.not_eq_true', Bool.not_eq_false', Bool.and_eq_true, Bool.or_eq_true, Bool.and_eq_false_iff, Bool.or_eq_false_iff, Bool.not_true, Bool.not_false] at h4
        refine s_skip ?_
        refine s_seq ?_
        refine s_region ?_
        refine o_p (p_pure rfl) rfl ?_
        refine o_p (p_slice_str_to 8 rfl rfl rfl Try.underlying9 rfl (by omega)) rfl ?_
        refine o_p (p_pure rfl) rfl ?_
        refine o_p (p_pure rfl) rfl ?_
        refine o_nil ?_
        exact s_retv (rs := [.tmp 4, .tmp 5]) rfl (.tmp rfl (.tmp rfl (.nil))) (fun w' h' => ⟨by simp only [unwrapE, unwrapT]; rw [if_pos hh, if_pos hs10, if_pos (by assumption)]; rfl, h'.below⟩)

end Go.Proofs
