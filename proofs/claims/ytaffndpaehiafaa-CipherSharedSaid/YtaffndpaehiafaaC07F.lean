/- Contracts of the program's functions, proved by walking them with the rules of the Gx texts; without conditions beyond those that each contract names. -/
import Derived.Test.YtaffndpaehiafaaC07E
import Derived.Test.YtaffndpaehiafaaC07E
namespace Go.Proofs
open Go Go.RowKit Gx
set_option linter.unusedVariables false
set_option linter.unusedSimpArgs false
attribute [local irreducible] Go.Calls Gx.S Gx.O Gx.D Gx.OpP Gx.OpQ Gx.OpH

theorem fn_75 : isFn Try.prog 75 = true := by kernel_rfl
theorem sz_5 : tsz Try.prog 5 = some (1, false) := by kernel_rfl
theorem fn_100 : isFn Try.prog 100 = true := by kernel_rfl
theorem fn_70 : isFn Try.prog 70 = true := by kernel_rfl


theorem x75 (w : World) (key : List UInt8) (n c : Int) (hk : key.length = 8) (hn : isWd n) (hc : isWd c) : Calls Try.prog 75 #[.string (bs key), .int .i64 n, .int .i64 c] w fun en w' => ∃ g : Nat × Nat, en = .returned (.slice (some ⟨g.1, 0, none⟩) 16 g.2) ∧ 16 ≤ g.2 ∧ HS w [] [.blk g.1 5 (g.2 * 1) ((blockB key (wd n) (wd c)).map bv)] w' := by
  refine Calls.mono (c75v w key n c hk hn hc) fun en w' hh => ?_
  obtain ⟨v, rfl, _, h⟩ := hh
  obtain ⟨b, cap, rfl, h1, _, _, h2⟩ := h.own_open' (by omega)
  exact ⟨(b, cap), rfl, h1, h2⟩
theorem wd_div (p k : Nat) : wd (((p : Int) + (k : Int)) / 16) = UInt16.ofNat ((p + k) / 16) := by
  unfold wd; congr 1
theorem crypt_set {key : List UInt8} {n : UInt16} {p k : Nat} {l : List UInt8} (h : k < l.length) : setMany ((cryptK key n p l k).map bv) (0 + k * 1) [bv (l.getD k 0 ^^^ ks key n (p + k))] = (cryptK key n p l (k + 1)).map bv := by
  rw [← cryptK_succ h, List.map_set, Nat.zero_add, Nat.mul_one]; rfl

set_option maxRecDepth 20000 in
theorem c70 (w : World) (key : List UInt8) (n : Int) (p : Nat) (data : List UInt8) (hk : key.length = 8) (hn : isWd n) (hp : p + data.length ≤ 1048576) : Calls Try.prog 70 #[.string (bs key), .int .i64 n, .int .i64 (p : Int), .string (bs data)] w fun en w' => en = .returned (.string (bs (cryptL key (wd n) p data))) ∧ Below w.heap.size w w' := by
  refine enter (args := [_, _, _, _]) Try.func70 Try.ntmps70 rfl rfl (HS.refl w []) ?_
  refine s_seq ?_
  refine s_region ?_
  refine o_p (p_pure rfl) rfl ?_
  refine o_nil ?_
  refine s_seq ?_
  refine s_region ?_
  refine o_p (p_pure rfl) rfl ?_
  refine o_h (h_bytes rfl rfl Try.underlying9 Try.underlying113 Try.underlying5 rfl (by simp only [maxLen]; omega)) rfl (fun ⟨b1, c2⟩ ⟨h3, k4⟩ => ?_)
  refine o_p (p_pure rfl) rfl ?_
  refine o_nil ?_
  refine s_seq ?_
  refine s_region ?_
  refine o_p (p_pure rfl) rfl ?_
  refine o_nil ?_
  refine s_seq ?_
  refine s_seq ?_
  refine s_region ?_
  refine o_p (p_pure rfl) rfl ?_
  first | refine o_p (p_len_slice rfl rfl Try.underlying113) rfl ?_ | refine o_q (q_len_own rfl rfl Try.underlying113 (by repeat (first | exact .here | apply Pick.there))) rfl ?_
  refine o_p (p_pure rfl) rfl ?_
  refine o_nil ?_
  refine s_block ?_
  have hd0 : cryptK key (wd n) p data 0 = data := by simp [cryptK, cryptL]
  refine s_loopI (α := Nat × Nat × Nat) [10, 11, 12, 17, 18, 19, 20, 21, 22, 23, 24, 25, 26, 27, 28, 29, 30, 31, 32, 33, 34, 35, 36, 37, 38, 39, 40, 41, 42, 43, 44, 45, 46] (fun x => [(17, .int .i64 (x.1 : Int)), (10, .slice (if x.1 = 0 then none else some ⟨x.2.1, 0, none⟩) (if x.1 = 0 then 0 else 16) (if x.1 = 0 then 0 else x.2.2))]) (fun x => HS w [] (.blk b1 5 c2 ((cryptK key (wd n) p data x.1).map bv) :: (if x.1 = 0 then [] else [.blk x.2.1 5 (x.2.2 * 1) ((blockB key (wd n) (UInt16.ofNat ((p + x.1 - 1) / 16))).map bv)]))) (fun x => x.1 ≤ data.length ∧ (0 < x.1 → 16 ≤ x.2.2)) (fun x => data.length - x.1) (0, 0, 0) (by constructor <;> simp) (by repeat (first | exact sl_n | refine sl_c rfl ?_)) (fun w h => h.ent (by repeat (first | exact .nil | refine .cons (by repeat (first | exact .here | apply Pick.there)) ?_))) (fun ⟨k, bg, bc⟩ hx => ?_)
  obtain ⟨hx1, hx2⟩ := hx
  simp only [] at hx1 hx2
  refine s_seq ?_
  refine s_region ?_
  refine o_p (p_pure rfl) rfl ?_
  refine o_nil ?_
  refine s_seq ?_
  refine s_cond rfl (fun h5 => ?_) (fun h5 => ?_)
  · try simp only [decide_eq_true_eq, decide_eq_false_iff_not, Bool.not_eq_true', Bool.not_eq_false', Bool.and_eq_true, Bool.or_eq_true, Bool.and_eq_false_iff, Bool.or_eq_false_iff, Bool.not_true, Bool.not_false] at h5
    refine s_skip ?_
    refine s_seq ?_
    refine s_block ?_
    refine s_seq ?_
    refine s_region ?_
    refine o_p (p_pure rfl) rfl ?_
    refine o_p (p_pure rfl) rfl ?_
    refine o_nil ?_
    refine s_seq ?_
    refine s_region ?_
    refine o_p (p_pure rfl) rfl ?_
    refine o_p (p_pure rfl) rfl ?_
    refine o_p (p_pure rfl) rfl ?_
    try (refine o_slot (i64w (by omega) (by omega)) ?_)
    refine o_p (p_pure rfl) rfl ?_
    refine o_nil ?_
    refine s_seq ?_
    refine s_seq ?_
    refine s_region ?_
    refine o_p (p_pure rfl) rfl ?_
    refine o_p (p_slice_nil_eql rfl rfl rfl Try.underlying113) rfl ?_
    refine o_p (p_pure rfl) rfl ?_
    refine o_or 4 25 29 _ _ rfl
      (by
        intro hg6
        have hs7 := hg6; try simp only [decide_eq_true_eq, decide_eq_false_iff_not, Bool.not_eq_true', Bool.not_eq_false', Bool.and_eq_true, Bool.or_eq_true, Bool.and_eq_false_iff, Bool.or_eq_false_iff, Bool.not_true, Bool.not_false] at hs7
        refine o_on 25 _ rfl rfl hg6 ?_
        refine o_p (p_pure rfl) rfl ?_
        refine o_on 25 _ rfl rfl hg6 ?_
        first | refine o_p (p_rem_nn rfl rfl rfl (by omega) (by omega)) rfl ?_ | refine o_p (p_rem rfl rfl rfl (by decide)) rfl ?_ | refine o_p (p_rem rfl rfl rfl (by omega)) rfl ?_
        refine o_on 25 _ rfl rfl hg6 ?_
        refine o_p (p_pure rfl) rfl ?_
        refine o_p (p_pickf rfl rfl hg6 rfl) rfl ?_
        refine o_nil ?_
        exact s_join () (by repeat (first | exact sl_n | refine sl_c rfl ?_)) (fun w h => by first | exact h | exact h.ent (by repeat (first | exact .nil | refine .cons (by repeat (first | exact .here | apply Pick.there)) ?_))))
      (by
        intro hg8
        have hs9 := hg8; try simp only [decide_eq_true_eq, decide_eq_false_iff_not, Bool.not_eq_true', Bool.not_eq_false', Bool.and_eq_true, Bool.or_eq_true, Bool.and_eq_false_iff, Bool.or_eq_false_iff, Bool.not_true, Bool.not_false] at hs9
        refine o_off 25 _ rfl rfl hg8 rfl ?_
        refine o_off 25 _ rfl rfl hg8 rfl ?_
        refine o_off 25 _ rfl rfl hg8 rfl ?_
        refine o_p (p_pickt rfl rfl hg8 rfl) rfl ?_
        refine o_nil ?_
        exact s_join () (by repeat (first | exact sl_n | refine sl_c rfl ?_)) (fun w h => by first | exact h | exact h.ent (by repeat (first | exact .nil | refine .cons (by repeat (first | exact .here | apply Pick.there)) ?_)))) ?_
    refine o_nil ?_
    refine s_cutI (α := Nat × Nat) [10, 30, 31, 32, 33, 34] (fun y => [(10, .slice (some ⟨y.1, 0, none⟩) 16 y.2)]) (fun y => HS w [] [.blk b1 5 c2 ((cryptK key (wd n) p data k).map bv), .blk y.1 5 (y.2 * 1) ((blockB key (wd n) (UInt16.ofNat ((p + k) / 16))).map bv)]) (fun y => 16 ≤ y.2) ?_ ?_
    · skip
      refine s_cond rfl (fun h10 => ?_) (fun h10 => ?_)
      · try simp only [decide_eq_true_eq, decide_eq_false_iff_not, Bool.not_eq_true', Bool.not_eq_false', Bool.and_eq_true, Bool.or_eq_true, Bool.and_eq_false_iff, Bool.or_eq_false_iff, Bool.not_true, Bool.not_false] at h10
        refine s_region ?_
        refine o_p (p_pure rfl) rfl ?_
        refine o_p (p_pure rfl) rfl ?_
        refine o_p (p_pure rfl) rfl ?_
        first | refine o_p (p_quo_nn rfl rfl rfl (by omega) (by omega) (by omega)) rfl ?_ | refine o_p (p_quo rfl rfl rfl (by decide)) rfl ?_ | refine o_p (p_quo rfl rfl rfl (by omega)) rfl ?_
        refine o_h (h_call rfl fn_75 rfl (fun w1 h1 => x75 w1 key n (((p : Int) + (k : Int)) / 16) hk hn (by constructor <;> omega))) rfl (fun gb hgb => ?_)
        refine o_p (p_pure rfl) rfl ?_
        refine o_nil ?_
        exact s_joinI (gb.1, gb.2) hgb (by repeat (first | exact sl_n | refine sl_c rfl ?_)) (fun w h => by rw [wd_div] at h; exact h.ent (by repeat (first | exact .nil | refine .cons (by repeat (first | exact .here | apply Pick.there)) ?_)))
      · try simp only [decide_eq_true_eq, decide_eq_false_iff_not, Bool.not_eq_true', Bool.not_eq_false', Bool.and_eq_true, Bool.or_eq_true, Bool.and_eq_false_iff, Bool.or_eq_false_iff, Bool.not_true, Bool.not_false] at h10
        refine s_skip ?_
        have hk0 : k ≠ 0 := by intro e; subst e; simp at h10
        have hk1 : (p + k) % 16 ≠ 0 := by intro e; simp only [if_neg hk0, Option.isNone_some, Bool.false_or, decide_eq_false_iff_not] at h10; omega
        exact s_joinI (bg, bc) (hx2 (by omega)) (by rw [if_neg hk0, if_neg hk0, if_neg hk0]; repeat (first | exact sl_n | refine sl_c rfl ?_)) (fun w h => by rw [if_neg hk0] at h; rw [show (p + k) / 16 = (p + k - 1) / 16 by omega]; exact h.ent (by repeat (first | exact .nil | refine .cons (by repeat (first | exact .here | apply Pick.there)) ?_)))
    · intro y hy
      refine s_draw [11] mixed ?_
      refine d_p 0 rfl (p_pure rfl) (by kernel_rfl) rfl rfl ?_
      refine d_p 1 rfl (p_pure rfl) (by kernel_rfl) rfl rfl ?_
      refine d_p 2 rfl (p_indexAddr rfl rfl rfl sl_113 (k) (by omega) (by omega) rfl) (by kernel_rfl) rfl rfl ?_
      refine d_q 3 [[]] rfl (q_load (v := bv (data.getD k 0)) rfl rfl sz_5 (by repeat (first | exact .here | apply Pick.there)) (by rw [Nat.zero_add, Nat.mul_one, ← cryptK_get (key := key) (n := wd n) (at' := p) (by omega)]; exact getb (by rw [cryptK_length]; omega))) (by kernel_rfl) (by kernel_rfl) (by kernel_rfl) rfl ?_
      refine d_p 4 rfl (p_pure rfl) (by kernel_rfl) rfl rfl ?_
      refine d_p 5 rfl (p_pure rfl) (by kernel_rfl) rfl rfl ?_
      first | refine d_p 6 rfl (p_rem_nn rfl rfl rfl (by omega) (by omega)) (by kernel_rfl) rfl rfl ?_ | refine d_p 6 rfl (p_rem rfl rfl rfl (by decide)) (by kernel_rfl) rfl rfl ?_ | refine d_p 6 rfl (p_rem rfl rfl rfl (by omega)) (by kernel_rfl) rfl rfl ?_
      refine d_p 7 rfl (p_indexAddr rfl rfl rfl sl_113 ((p + k) % 16) (by omega) (by omega) rfl) (by kernel_rfl) rfl rfl ?_
      refine d_q 8 [[]] rfl (q_load (v := bv (ks key (wd n) (p + k))) rfl rfl sz_5 (by repeat (first | exact .here | apply Pick.there)) (by rw [Nat.zero_add, Nat.mul_one]; exact getb (by rw [blockB_length]; omega))) (by kernel_rfl) (by kernel_rfl) (by kernel_rfl) rfl ?_
      refine d_p 9 rfl (p_pure rfl) (by kernel_rfl) rfl rfl ?_
      try (refine d_slot (u8xor _ _) ?_)
      refine d_p 10 rfl (p_indexAddr rfl rfl rfl sl_113 (k) (by omega) (by omega) rfl) (by kernel_rfl) rfl rfl ?_
      refine d_h0 11 rfl (h_store rfl rfl rfl sz_5 rfl (by repeat (first | exact .here | apply Put.there)) (by simp only [List.length_map, cryptK_length]; omega) rfl) (by kernel_rfl) (fun w h => h.ent (by repeat (first | exact .nil | refine .cons (by repeat (first | exact .here | apply Pick.there)) ?_))) (fun _ _ => ?_)
      refine d_turn [] (by kernel_rfl) ?_
      refine d_nil (by kernel_rfl) (fun w h => h.ent (by repeat (first | exact .nil | refine .cons (by repeat (first | exact .here | apply Pick.there)) ?_))) ?_
      refine s_blk ?_
      refine s_region ?_
      refine o_p (p_pure rfl) rfl ?_
      try (refine o_slot (i64w (by omega) (by omega)) ?_)
      refine o_p (p_pure rfl) rfl ?_
      refine o_nil ?_
      exact s_backI (k + 1, y.1, y.2) (by (try simp only []); omega) ⟨by (try simp only []); omega, fun _ => hy⟩ (by repeat (first | exact sl_n | refine sl_c rfl ?_)) (fun w h => by rw [← crypt_set (by omega), if_neg (by simp)]; exact h.ent (by repeat (first | exact .nil | refine .cons (by repeat (first | exact .here | apply Pick.there)) ?_)))
  · try simp only [decide_eq_true_eq, decide_eq_false_iff_not, Bool.not_eq_true', Bool.not_eq_false', Bool.and_eq_true, Bool.or_eq_true, Bool.and_eq_false_iff, Bool.or_eq_false_iff, Bool.not_true, Bool.not_false] at h5
    refine s_exit_to rfl ?_
    refine s_seq ?_
    refine s_region ?_
    refine o_p (p_pure rfl) rfl ?_
    first | refine o_q (q_string_own rfl rfl Try.underlying113 Try.underlying9 Try.underlying5 (by repeat (first | exact .here | apply Pick.there)) (isU8_bv _)) rfl ?_ | refine o_q (q_string_blk rfl rfl Try.underlying113 Try.underlying9 Try.underlying5 (by repeat (first | exact .here | apply Pick.there)) (by simp [cryptK_length]) (isU8_bv _)) rfl ?_
    refine o_p (p_pure rfl) rfl ?_
    refine o_nil ?_
    exact s_retv (rs := [.tmp 8]) rfl (.tmp rfl (.nil)) (fun w' h' => ⟨by rw [vByte_bv, show k = data.length by omega, cryptK_all]; rfl, h'.below⟩)

theorem c70i (w : World) (key : List UInt8) (n at' : Int) (data : List UInt8) (hk : key.length = 8) (hn : isWd n) (h0 : 0 ≤ at') (hp : at' + data.length ≤ 1048576) : Calls Try.prog 70 #[.string (bs key), .int .i64 n, .int .i64 at', .string (bs data)] w fun en w' => en = .returned (.string (bs (cryptL key (wd n) at'.toNat data))) ∧ Below w.heap.size w w' := by
  obtain ⟨p, rfl⟩ := Int.eq_ofNat_of_zero_le h0
  exact c70 w key n p data hk hn (by omega)
theorem chk_mul {k : Nat} (h : k < 8) (b : UInt8) : Value.int .i64 (IntKind.i64.wrap (((k : Int) + 1) * (b.toNat : Int))) = .int .i64 (((k + 1) * b.toNat : Nat) : Int) := by
  have h1 : (k + 1) * b.toNat ≤ 8 * 255 := Nat.mul_le_mul (by omega) (by have := b.toNat_lt; omega)
  rw [show ((k : Int) + 1) * (b.toNat : Int) = (((k + 1) * b.toNat : Nat) : Int) by rw [Int.natCast_mul]; rfl]
  exact i64w (by omega) (by omega)
theorem sumK_8 (key : List UInt8) {k : Nat} (h : k ≤ 8) : sumK key k ≤ 16320 := by
  have h1 := sumK_le key k
  have h2 : k * k ≤ 8 * 8 := Nat.mul_le_mul h h
  omega
theorem chk_lo (n : Nat) : Value.int .u8 (IntKind.u8.wrap (n : Int)) = bv (UInt8.ofNat n) := by
  rw [wrap_u8_mod, bv, UInt8.toNat_ofNat']
theorem chk_hi (n : Nat) : Value.int .u8 (IntKind.u8.wrap ((n : Int) / 2 ^ 8)) = bv (UInt8.ofNat (n / 256)) := by
  rw [show (n : Int) / 2 ^ 8 = ((n / 256 : Nat) : Int) by rw [Int.natCast_ediv]; rfl, chk_lo]

set_option maxRecDepth 20000 in
theorem c100 (w : World) (key : List UInt8) (hk : key.length ≤ 8) : Calls Try.prog 100 #[.string (bs key)] w fun en w' => en = .returned (.string (bs (checkL key))) ∧ Below w.heap.size w w' := by
  refine enter (args := [_]) Try.func100 Try.ntmps100 rfl rfl (HS.refl w []) ?_
  refine s_seq ?_
  refine s_region ?_
  refine o_p (p_pure rfl) rfl ?_
  refine o_nil ?_
  refine s_seq ?_
  refine s_region ?_
  refine o_p (p_pure rfl) rfl ?_
  refine o_nil ?_
  refine s_seq ?_
  refine s_seq ?_
  refine s_region ?_
  refine o_p (p_pure rfl) rfl ?_
  refine o_h (h_bytes rfl rfl Try.underlying9 Try.underlying113 Try.underlying5 rfl (by simp only [maxLen]; omega)) rfl (fun ⟨b1, c2⟩ ⟨h3, k4⟩ => ?_)
  first | refine o_p (p_len_slice rfl rfl Try.underlying113) rfl ?_ | refine o_q (q_len_own rfl rfl Try.underlying113 (by repeat (first | exact .here | apply Pick.there))) rfl ?_
  refine o_p (p_pure rfl) rfl ?_
  refine o_nil ?_
  refine s_block ?_
  refine s_loopI (α := Nat) [3, 4, 5, 9, 10, 11, 12, 13, 14, 15, 16, 17, 18, 19, 20, 21] (fun k => [(9, .int .i64 (k : Int)), (3, .int .i64 (sumK key k : Int))]) (fun k => HS w [] [.blk b1 5 c2 (key.map bv)]) (fun k => k ≤ key.length) (fun k => key.length - k) 0 (by omega) (by repeat (first | exact sl_n | refine sl_c rfl ?_)) (fun w h => h.ent (by repeat (first | exact .nil | refine .cons (by repeat (first | exact .here | apply Pick.there)) ?_))) (fun k hk1 => ?_)
  have hs := sumK_8 key (k := k) (by omega)
  have hb := (key.getD k 0).toNat_lt
  refine s_seq ?_
  refine s_region ?_
  refine o_p (p_pure rfl) rfl ?_
  refine o_nil ?_
  refine s_seq ?_
  refine s_cond rfl (fun h5 => ?_) (fun h5 => ?_)
  · try simp only [decide_eq_true_eq, decide_eq_false_iff_not, Bool.not_eq_true', Bool.not_eq_false', Bool.and_eq_true, Bool.or_eq_true, Bool.and_eq_false_iff, Bool.or_eq_false_iff, Bool.not_true, Bool.not_false] at h5
    refine s_skip ?_
    refine s_seq ?_
    refine s_block ?_
    refine s_seq ?_
    refine s_region ?_
    refine o_p (p_pure rfl) rfl ?_
    refine o_p (p_indexAddr rfl rfl rfl sl_113 (k) (by omega) (by omega) rfl) rfl ?_
    refine o_q (q_load (v := bv (key.getD k 0)) rfl rfl sz_5 (by repeat (first | exact .here | apply Pick.there)) (by rw [Nat.zero_add, Nat.mul_one]; exact getb (by omega))) rfl ?_
    refine o_p (p_pure rfl) rfl ?_
    refine o_p (p_pure rfl) rfl ?_
    refine o_nil ?_
    refine s_region ?_
    refine o_p (p_pure rfl) rfl ?_
    refine o_p (p_pure rfl) rfl ?_
    refine o_p (p_pure rfl) rfl ?_
    try (refine o_slot (i64w (by omega) (by omega)) ?_)
    refine o_p (p_pure rfl) rfl ?_
    refine o_p (p_conv_int rfl rfl ki_5 ki_3) rfl ?_
    try (refine o_slot (i64w (by omega) (by omega)) ?_)
    refine o_p (p_pure rfl) rfl ?_
    try (refine o_slot (i64w (by omega) (by omega)) ?_)
    refine o_slot (chk_mul (by omega) _) ?_
    have hm : (k + 1) * (key.getD k 0).toNat ≤ 8 * 255 := Nat.mul_le_mul (by omega) (by omega)
    generalize hgm : (k + 1) * (key.getD k 0).toNat = m at *
    refine o_p (p_pure rfl) rfl ?_
    try (refine o_slot (i64w (by omega) (by omega)) ?_)
    rw [show ((sumK key k : Nat) : Int) + (m : Int) = ((sumK key (k + 1) : Nat) : Int) by rw [sumK, hgm]; rfl]
    refine o_p (p_pure rfl) rfl ?_
    refine o_nil ?_
    refine s_blk ?_
    refine s_region ?_
    refine o_p (p_pure rfl) rfl ?_
    try (refine o_slot (i64w (by omega) (by omega)) ?_)
    refine o_p (p_pure rfl) rfl ?_
    refine o_nil ?_
    exact s_backI (k + 1) (by omega) (by omega) (by repeat (first | exact sl_n | refine sl_c rfl ?_)) (fun w h => h.ent (by repeat (first | exact .nil | refine .cons (by repeat (first | exact .here | apply Pick.there)) ?_)))
  · try simp only [decide_eq_true_eq, decide_eq_false_iff_not, Bool.not_eq_true', Bool.not_eq_false', Bool.and_eq_true, Bool.or_eq_true, Bool.and_eq_false_iff, Bool.or_eq_false_iff, Bool.not_true, Bool.not_false] at h5
    refine s_exit_to rfl ?_
    refine s_seq ?_
    refine s_region ?_
    refine o_p (p_pure rfl) rfl ?_
    refine o_p (p_conv_int rfl rfl ki_3 ki_5) rfl ?_
    refine o_slot (chk_lo _) ?_
    refine o_p (p_pure rfl) rfl ?_
    refine o_p (p_shr rfl rfl rfl (by decide) 8 rfl) rfl ?_
    refine o_p (p_conv_int rfl rfl ki_3 ki_5) rfl ?_
    refine o_slot (chk_hi _) ?_
    refine o_h (h_buildSlice (cs := [_, _]) rfl rfl sl_113 zr_5 rfl rfl rfl) rfl (fun b6 _ => ?_)
    first | refine o_q (q_string_own rfl rfl Try.underlying113 Try.underlying9 Try.underlying5 (by repeat (first | exact .here | apply Pick.there)) (isU8_bv [_, _])) rfl ?_ | refine o_q (q_string_blk rfl rfl Try.underlying113 Try.underlying9 Try.underlying5 (by repeat (first | exact .here | apply Pick.there)) (by simp) (isU8_bv [_, _])) rfl ?_
    refine o_p (p_pure rfl) rfl ?_
    refine o_nil ?_
    exact s_retv (rs := [.tmp 2]) rfl (.tmp rfl (.nil)) (fun w' h' => ⟨by rw [show k = key.length by omega]; show Ending.returned (.string (bs ((List.map bv (checkL key)).map vByte))) = _; rw [vByte_bv], h'.below⟩)

set_option maxRecDepth 20000 in
theorem c62 (w : World) (u : Int) (own key : List UInt8) (hu : isWd u) (ho : own.length = 8) (hk : key.length = 8) : Calls Try.prog 62 #[.agg #[.int .i64 u, .string (bs own)], .string (bs key)] w fun en w' => en = .returned (.string (bs (wrapL u own key))) ∧ Below w.heap.size w w' := by
  have hcl : (checkL key).length = 2 := rfl
  refine enter (args := [_, _]) Try.func62 Try.ntmps62 rfl rfl (HS.refl w []) ?_
  refine s_seq ?_
  refine s_region ?_
  refine o_h (h_box rfl rfl) rfl (fun b1 _ => ?_)
  refine o_p (p_pure rfl) rfl ?_
  refine o_nil ?_
  refine s_seq ?_
  refine s_draw [] mixed ?_
  refine d_p 0 rfl (p_fieldAddr rfl rfl fd_31_1 sz_9 rfl) (by kernel_rfl) rfl rfl ?_
  refine d_q 1 [] rfl (q_load rfl rfl sz_9 (by repeat (first | exact .here | apply Pick.there)) rfl) (by kernel_rfl) (by kernel_rfl) (by kernel_rfl) rfl ?_
  refine d_p 2 rfl (p_fieldAddr rfl rfl fd_31_0 sz_3 rfl) (by kernel_rfl) rfl rfl ?_
  refine d_q 3 [] rfl (q_load rfl rfl sz_3 (by repeat (first | exact .here | apply Pick.there)) rfl) (by kernel_rfl) (by kernel_rfl) (by kernel_rfl) rfl ?_
  refine d_p 4 rfl (p_pure rfl) (by kernel_rfl) rfl rfl ?_
  refine d_p 5 rfl (p_pure rfl) (by kernel_rfl) rfl rfl ?_
  refine d_q 6 [] rfl (q_call rfl fn_100 rfl (fun w1 h1 => c100 w1 _ (by first | omega | (simp; omega)))) (by kernel_rfl) (by kernel_rfl) (by kernel_rfl) rfl ?_
  refine d_p 7 rfl (p_str_add rfl rfl rfl (by (try simp only [List.length_append, List.length_cons, List.length_nil, List.length_replicate, List.length_take, List.length_drop]); omega)) (by kernel_rfl) rfl rfl ?_
  refine d_q 8 [] rfl (q_call rfl fn_70 rfl (fun w1 h1 => c70 w1 own u 0 _ ho hu (by simp [checkL, hk]))) (by kernel_rfl) (by kernel_rfl) (by kernel_rfl) rfl ?_
  refine d_p 9 rfl (p_pure rfl) (by kernel_rfl) rfl rfl ?_
  refine d_nil (by kernel_rfl) (fun w h => h.ent (by repeat (first | exact .nil | refine .cons (by repeat (first | exact .here | apply Pick.there)) ?_))) ?_
  exact s_retv (rs := [.tmp 4]) rfl (.tmp rfl (.nil)) (fun w' h' => ⟨rfl, h'.below⟩)

/-- A wrapped key unwrapped. -/
def unwrapT (u : Int) (own s : List UInt8) : List UInt8 × Int :=
  let d := cryptL own (wd u) 0 s
  if d.drop 8 = checkL (d.take 8) then (d.take 8, 0) else ([], 19)
def pairV (p : List UInt8 × Int) : Value := .tuple #[.string (bs p.1), .int .i64 p.2]
theorem checkL_length (key : List UInt8) : (checkL key).length = 2 := rfl
theorem bs_nil : bs [] = ⟨#[]⟩ := rfl

set_option maxRecDepth 20000 in
theorem c66 (w : World) (u : Int) (own s : List UInt8) (hu : isWd u) (ho : own.length = 8) (hs : s.length = 10) : Calls Try.prog 66 #[.agg #[.int .i64 u, .string (bs own)], .string (bs s)] w fun en w' => en = .returned (pairV (unwrapT u own s)) ∧ Below w.heap.size w w' := by
  have hl := cryptL_length own (wd u) s 0
  refine enter (args := [_, _]) Try.func66 Try.ntmps66 rfl rfl (HS.refl w []) ?_
  refine s_seq ?_
  refine s_region ?_
  refine o_h (h_box rfl rfl) rfl (fun b1 _ => ?_)
  refine o_p (p_pure rfl) rfl ?_
  refine o_p (p_pure rfl) rfl ?_
  refine o_nil ?_
  refine s_seq ?_
  refine s_region ?_
  refine o_p (p_fieldAddr rfl rfl fd_31_1 sz_9 rfl) rfl ?_
  refine o_q (q_load rfl rfl sz_9 (by repeat (first | exact .here | apply Pick.there)) rfl) rfl ?_
  refine o_p (p_fieldAddr rfl rfl fd_31_0 sz_3 rfl) rfl ?_
  refine o_q (q_load rfl rfl sz_3 (by repeat (first | exact .here | apply Pick.there)) rfl) rfl ?_
  refine o_p (p_pure rfl) rfl ?_
  refine o_q (q_call rfl fn_70 rfl (fun w1 h1 => c70 w1 own u 0 _ ho hu (by omega))) rfl ?_
  refine o_p (p_pure rfl) rfl ?_
  refine o_nil ?_
  refine s_seq ?_
  refine s_region ?_
  refine o_p (p_pure rfl) rfl ?_
  refine o_p (p_slice_str_to 8 rfl rfl rfl Try.underlying9 rfl (by omega)) rfl ?_
  refine o_p (p_pure rfl) rfl ?_
  refine o_nil ?_
  refine s_seq ?_
  refine s_seq ?_
  refine s_draw [] mixed ?_
  refine d_p 0 rfl (p_pure rfl) (by kernel_rfl) rfl rfl ?_
  refine d_p 1 rfl (p_slice_str_from 8 rfl rfl rfl Try.underlying9 rfl (by omega)) (by kernel_rfl) rfl rfl ?_
  refine d_p 2 rfl (p_pure rfl) (by kernel_rfl) rfl rfl ?_
  refine d_q 3 [] rfl (q_call rfl fn_100 rfl (fun w1 h1 => c100 w1 _ (by simp; omega))) (by kernel_rfl) (by kernel_rfl) (by kernel_rfl) rfl ?_
  refine d_p 4 rfl (p_pure rfl) (by kernel_rfl) rfl rfl ?_
  refine d_nil (by kernel_rfl) (fun w h => h.ent (by repeat (first | exact .nil | refine .cons (by repeat (first | exact .here | apply Pick.there)) ?_))) ?_
  refine s_cond rfl (fun h2 => ?_) (fun h2 => ?_)
  · try simp only [decide_eq_true_eq, decide_eq_false_iff_not, Bool.not_eq_true', Bool.not_eq_false', Bool.and_eq_true, Bool.or_eq_true, Bool.and_eq_false_iff, Bool.or_eq_false_iff, Bool.not_true, Bool.not_false] at h2
    refine s_seq ?_
    refine s_region ?_
    refine o_p (p_pure rfl) rfl ?_
    refine o_p (p_pure rfl) rfl ?_
    refine o_nil ?_
    exact s_retv (rs := [.tmp 4, .tmp 5]) rfl (.tmp rfl (.tmp rfl (.nil))) (fun w' h' => ⟨by simp only [unwrapT]; rw [if_neg (by assumption)]; rfl, h'.below⟩)
  · try simp only [decide_eq_true_eq, decide_eq_false_iff_not, Bool.not_eq_true', Bool.not_eq_false', Bool.and_eq_true, Bool.or_eq_true, Bool.and_eq_false_iff, Bool.or_eq_false_iff, Bool.not_true, Bool.not_false] at h2
    refine s_skip ?_
    refine s_seq ?_
    refine s_region ?_
    refine o_p (p_pure rfl) rfl ?_
    refine o_p (p_pure rfl) rfl ?_
    refine o_p (p_pure rfl) rfl ?_
    refine o_nil ?_
    exact s_retv (rs := [.tmp 4, .tmp 5]) rfl (.tmp rfl (.tmp rfl (.nil))) (fun w' h' => ⟨by simp only [unwrapT]; rw [if_pos (by assumption)]; rfl, h'.below⟩)

end Go.Proofs
