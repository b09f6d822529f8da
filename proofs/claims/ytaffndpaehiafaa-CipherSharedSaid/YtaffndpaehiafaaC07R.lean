/- Contracts of the program's functions, proved by walking them with the rules of the Gx texts; without conditions beyond those that each contract names. -/
import Derived.Test.YtaffndpaehiafaaC07Q
namespace Go.Proofs
open Go Go.RowKit Gx
set_option linter.unusedVariables false
set_option linter.unusedSimpArgs false
attribute [local irreducible] Go.Calls Gx.S Gx.O Gx.D Gx.OpP Gx.OpQ Gx.OpH

theorem ar_58 : tar Try.prog 58 = some (3, 57, 1) := by kernel_rfl
theorem fn_32 : isFn Try.prog 32 = true := by kernel_rfl


theorem zeros_map (n : Nat) : (List.replicate n (Value.int .u8 0)).map vByte = List.replicate n 0 := by simp [vByte, intOf]
theorem zeros_u8 (n : Nat) : ∀ v ∈ List.replicate n (Value.int .u8 0), isU8 v = true := by
  intro v hv
  rw [(List.mem_replicate.1 hv).2]
  rfl
theorem cryptL_split {key : List UInt8} {nc : UInt16} {at' : Nat} {data : List UInt8} {i : Nat} (h : i ≤ data.length) : cryptL key nc at' (data.take i) ++ cryptL key nc (at' + i) (data.drop i) = cryptL key nc at' data := by
  have := cryptL_append key nc (data.take i) (data.drop i) at'
  rw [List.take_append_drop, List.length_take, Nat.min_eq_left h] at this
  exact this.symm
theorem cryptL_from {key : List UInt8} {nc : UInt16} {k : Nat} {data : List UInt8} : (cryptL key nc 0 (List.replicate k 0 ++ data)).drop k = cryptL key nc k data := by
  rw [cryptL_append, List.drop_append, cryptL_length, List.length_replicate, Nat.sub_self, List.drop_zero, Nat.zero_add, List.drop_of_length_le (by rw [cryptL_length]; simp), List.nil_append]
theorem crypt_good {key : List UInt8} {nc at' : Int} {data : List UInt8} (hk : keyE key = 0) (hn : isWd nc) (ha : 0 ≤ at') (hl : at' + data.length ≤ 1048576) : crypT key nc at' data = (cryptL key (wd nc) at'.toNat data, 0) := by
  rcases crypt_cases key nc at' data with ⟨_, h⟩ | ⟨h, _⟩
  · exact h
  · exfalso
    apply h
    unfold crypE
    unfold isWd at hn
    rw [if_pos hk, if_pos (by omega), if_pos (by omega)]

set_option maxRecDepth 20000 in
theorem c32 (w : World) (n : Nat) (hn : n ≤ 200000) : Calls Try.prog 32 #[.int .i64 (n : Int)] w fun en w' => en = .returned (.string (bs (List.replicate n 0))) ∧ Below w.heap.size w w' := by
  refine enter (args := [_]) Try.func32 Try.ntmps32 rfl rfl (HS.refl w []) ?_
  refine s_seq ?_
  refine s_region ?_
  refine o_p (p_pure rfl) rfl ?_
  refine o_nil ?_
  refine s_seq ?_
  refine s_region ?_
  refine o_p (p_pure rfl) rfl ?_
  refine o_p (p_min2 rfl rfl rfl ) rfl ?_
  refine o_slot (show _ = Value.int .i64 (n : Int) from by congr 1; split <;> omega) ?_
  refine o_p (p_max2 rfl rfl rfl ) rfl ?_
  refine o_slot (show _ = Value.int .i64 (n : Int) from by congr 1; split <;> omega) ?_
  refine o_h (h_make (n := n) rfl rfl rfl sl_113 zr_5 (by omega) (by omega)) rfl (fun b1 _ => ?_)
  first | refine o_q (q_string_own rfl rfl Try.underlying113 Try.underlying9 Try.underlying5 (by repeat (first | exact .here | apply Pick.there)) (by rw [Nat.mul_one, zrow_one]; exact zeros_u8 n)) rfl ?_ | refine o_q (q_string_blk rfl rfl Try.underlying113 Try.underlying9 Try.underlying5 (by repeat (first | exact .here | apply Pick.there)) (by simp [zrow_length]) (by rw [Nat.mul_one, zrow_one]; exact zeros_u8 n)) rfl ?_
  refine o_p (p_pure rfl) rfl ?_
  refine o_nil ?_
  exact s_retv (rs := [.tmp 2]) rfl (.tmp rfl (.nil)) (fun w' h' => ⟨by rw [Nat.mul_one, zrow_one, zeros_map]; rfl, h'.below⟩)

set_option maxRecDepth 20000 in
theorem c6 (w : World) (key data : List UInt8) (nc k ct : UInt16) : Calls Try.prog 6 #[.string (bs key), .string (bs data), .agg #[wv nc, wv k, wv ct]] w fun en w' => en = .returned (.bool true) ∧ Below w.heap.size w w' := by
  have hn : isWd (nc.toNat : Int) := by have := nc.toNat_lt; unfold isWd; omega
  have hk9 := k.toNat_lt
  have hc9 := ct.toNat_lt
  refine enter (args := [_, _, _]) Try.func6 Try.ntmps6 rfl rfl (HS.refl w []) ?_
  refine s_seq ?_
  refine s_region ?_
  refine o_h (h_box rfl rfl) rfl (fun b1 _ => ?_)
  refine o_p (p_pure rfl) rfl ?_
  refine o_nil ?_
  refine s_seq ?_
  refine s_draw [] mixed ?_
  refine d_p 0 rfl (p_indexAddr_arr rfl rfl rfl ar_58 0 rfl (by omega)) (by kernel_rfl) rfl rfl ?_
  refine d_q 1 [] rfl (q_load rfl rfl sz_57 (by repeat (first | exact .here | apply Pick.there)) rfl) (by kernel_rfl) (by kernel_rfl) (by kernel_rfl) rfl ?_
  refine d_p 2 rfl (p_indexAddr_arr rfl rfl rfl ar_58 1 rfl (by omega)) (by kernel_rfl) rfl rfl ?_
  refine d_q 3 [] rfl (q_load rfl rfl sz_57 (by repeat (first | exact .here | apply Pick.there)) rfl) (by kernel_rfl) (by kernel_rfl) (by kernel_rfl) rfl ?_
  refine d_p 4 rfl (p_indexAddr_arr rfl rfl rfl ar_58 2 rfl (by omega)) (by kernel_rfl) rfl rfl ?_
  refine d_q 5 [] rfl (q_load rfl rfl sz_57 (by repeat (first | exact .here | apply Pick.there)) rfl) (by kernel_rfl) (by kernel_rfl) (by kernel_rfl) rfl ?_
  refine d_p 6 rfl (p_pure rfl) (by kernel_rfl) rfl rfl ?_
  refine d_p 7 rfl (p_pure rfl) (by kernel_rfl) rfl rfl ?_
  refine d_p 8 rfl (p_pure rfl) (by kernel_rfl) rfl rfl ?_
  refine d_nil (by kernel_rfl) (fun w h => h.ent (by repeat (first | exact .nil | refine .cons (by repeat (first | exact .here | apply Pick.there)) ?_))) ?_
  refine s_seq ?_
  refine s_seq ?_
  refine s_region ?_
  refine o_q (q_call rfl fn_12 rfl (fun w1 h1 => c12 w1)) rfl ?_
  refine o_p (p_pure rfl) rfl ?_
  refine o_nil ?_
  refine s_cond rfl (fun h2 => ?_) (fun h2 => ?_)
  · try simp only [decide_eq_true_eq, decide_eq_false_iff_not, Bool.not_eq_true', Bool.not_eq_false', Bool.and_eq_true, Bool.or_eq_true, Bool.and_eq_false_iff, Bool.or_eq_false_iff, Bool.not_true, Bool.not_false] at h2
    exfalso; first | omega | (simp at h2; done) | (simp_all; done)
  · try simp only [decide_eq_true_eq, decide_eq_false_iff_not, Bool.not_eq_true', Bool.not_eq_false', Bool.and_eq_true, Bool.or_eq_true, Bool.and_eq_false_iff, Bool.or_eq_false_iff, Bool.not_true, Bool.not_false] at h2
    refine s_skip ?_
    refine s_seq ?_
    refine s_seq ?_
    refine s_region ?_
    refine o_p (p_pure rfl) rfl ?_
    refine o_q (q_call rfl fn_19 rfl (fun w1 h1 => c19 w1 _)) rfl ?_
    refine o_p (p_pure rfl) rfl ?_
    refine o_p (p_pure rfl) rfl ?_
    refine o_or 5 34 39 _ _ rfl
      (by
        intro hg3
        have hs4 := hg3; try simp only [decide_eq_true_eq, decide_eq_false_iff_not, Bool.not_eq_true', Bool.not_eq_false', Bool.and_eq_true, Bool.or_eq_true, Bool.and_eq_false_iff, Bool.or_eq_false_iff, Bool.not_true, Bool.not_false] at hs4
        refine o_on 34 _ rfl rfl hg3 ?_
        refine o_p (p_pure rfl) rfl ?_
        refine o_on 34 _ rfl rfl hg3 ?_
        refine o_h (h_buildSlice (cs := [_]) rfl rfl sl_104 zr_9 rfl rfl rfl) rfl (fun b5 _ => ?_)
        refine o_on 34 _ rfl rfl hg3 ?_
        refine o_q (q_call rfl fn_16 rfl (fun w1 h1 => x16 w1 _ 1 _ [data] rfl (h1.vl_blk (by repeat (first | exact .here | apply Pick.there))) (by decide))) rfl ?_
        refine o_on 34 _ rfl rfl hg3 ?_
        refine o_p (p_pure rfl) rfl ?_
        refine o_p (p_pickf rfl rfl hg3 rfl) rfl ?_
        refine o_nil ?_
        exact s_join () (by repeat (first | exact sl_n | refine sl_c rfl ?_)) (fun w h => by first | exact h | exact h.ent (by repeat (first | exact .nil | refine .cons (by repeat (first | exact .here | apply Pick.there)) ?_))))
      (by
        intro hg6
        have hs7 := hg6; try simp only [decide_eq_true_eq, decide_eq_false_iff_not, Bool.not_eq_true', Bool.not_eq_false', Bool.and_eq_true, Bool.or_eq_true, Bool.and_eq_false_iff, Bool.or_eq_false_iff, Bool.not_true, Bool.not_false] at hs7
        refine o_off 34 _ rfl rfl hg6 rfl ?_
        refine o_off 34 _ rfl rfl hg6 rfl ?_
        refine o_off 34 _ rfl rfl hg6 rfl ?_
        refine o_off 34 _ rfl rfl hg6 rfl ?_
        refine o_p (p_pickt rfl rfl hg6 rfl) rfl ?_
        refine o_nil ?_
        exact s_join () (by repeat (first | exact sl_n | refine sl_c rfl ?_)) (fun w h => by first | exact h | exact h.ent (by repeat (first | exact .nil | refine .cons (by repeat (first | exact .here | apply Pick.there)) ?_)))) ?_
    refine o_p (p_pure rfl) rfl ?_
    refine o_or 3 40 43 _ _ rfl
      (by
        intro hg8
        have hs9 := hg8; try simp only [decide_eq_true_eq, decide_eq_false_iff_not, Bool.not_eq_true', Bool.not_eq_false', Bool.and_eq_true, Bool.or_eq_true, Bool.and_eq_false_iff, Bool.or_eq_false_iff, Bool.not_true, Bool.not_false] at hs9
        refine o_on 40 _ rfl rfl hg8 ?_
        refine o_p (p_pure rfl) rfl ?_
        refine o_on 40 _ rfl rfl hg8 ?_
        refine o_p (p_pure rfl) rfl ?_
        refine o_p (p_pickf rfl rfl hg8 rfl) rfl ?_
        refine o_nil ?_
        exact s_join () (by repeat (first | exact sl_n | refine sl_c rfl ?_)) (fun w h => by first | exact h | exact h.ent (by repeat (first | exact .nil | refine .cons (by repeat (first | exact .here | apply Pick.there)) ?_))))
      (by
        intro hg10
        have hs11 := hg10; try simp only [decide_eq_true_eq, decide_eq_false_iff_not, Bool.not_eq_true', Bool.not_eq_false', Bool.and_eq_true, Bool.or_eq_true, Bool.and_eq_false_iff, Bool.or_eq_false_iff, Bool.not_true, Bool.not_false] at hs11
        refine o_off 40 _ rfl rfl hg10 rfl ?_
        refine o_off 40 _ rfl rfl hg10 rfl ?_
        refine o_p (p_pickt rfl rfl hg10 rfl) rfl ?_
        refine o_nil ?_
        exact s_join () (by repeat (first | exact sl_n | refine sl_c rfl ?_)) (fun w h => by first | exact h | exact h.ent (by repeat (first | exact .nil | refine .cons (by repeat (first | exact .here | apply Pick.there)) ?_)))) ?_
    refine o_nil ?_
    refine s_cond rfl (fun h12 => ?_) (fun h12 => ?_)
    · try simp only [decide_eq_true_eq, decide_eq_false_iff_not, Bool.not_eq_true', Bool.not_eq_false', Bool.and_eq_true, Bool.or_eq_true, Bool.and_eq_false_iff, Bool.or_eq_false_iff, Bool.not_true, Bool.not_false] at h12
      refine s_seq ?_
      refine s_region ?_
      refine o_p (p_pure rfl) rfl ?_
      refine o_nil ?_
      exact s_retv (rs := [.tmp 6]) rfl (.tmp rfl (.nil)) (fun w' h' => ⟨by rfl, h'.below⟩)
    · try simp only [decide_eq_true_eq, decide_eq_false_iff_not, Bool.not_eq_true', Bool.not_eq_false', Bool.and_eq_true, Bool.or_eq_true, Bool.and_eq_false_iff, Bool.or_eq_false_iff, Bool.not_true, Bool.not_false] at h12
      have hh : (keyE key = 0 ∧ fewB [data] = true) ∧ ¬ (k.toNat : Int) > 2000 := by simpa using h12
      obtain ⟨⟨hk, hf⟩, hk2⟩ := hh
      have hd : data.length ≤ 400 := by simpa [fewB] using hf
      refine s_skip ?_
      refine s_seq ?_
      refine s_region ?_
      refine o_p (p_pure rfl) rfl ?_
      refine o_p (p_conv_int rfl rfl ki_57 ki_3) rfl ?_
      try (refine o_slot (i64w (by omega) (by omega)) ?_)
      try (refine o_slot (u16toI _) ?_)
      refine o_p (p_pure rfl) rfl ?_
      refine o_p (p_conv_int rfl rfl ki_57 ki_3) rfl ?_
      try (refine o_slot (i64w (by omega) (by omega)) ?_)
      try (refine o_slot (u16toI _) ?_)
      refine o_p (p_pure rfl) rfl ?_
      refine o_p (p_pure rfl) rfl ?_
      refine o_nil ?_
      refine s_seq ?_
      refine s_region ?_
      refine o_p (p_pure rfl) rfl ?_
      refine o_p (p_pure rfl) rfl ?_
      refine o_p (p_pure rfl) rfl ?_
      refine o_p (p_pure rfl) rfl ?_
      refine o_q (q_call rfl fn_31 rfl (fun w1 h1 => c31 w1 _ _ _ _)) rfl ?_
      rw [crypt_good hk hn (by omega) (by (try simp only [List.length_take, List.length_drop, List.length_append, List.length_replicate, cryptL_length]); omega)]
      refine o_p (p_pure rfl) rfl ?_
      refine o_p (p_pure rfl) rfl ?_
      refine o_p (p_pure rfl) rfl ?_
      refine o_p (p_pure rfl) rfl ?_
      refine o_p (p_pure rfl) rfl ?_
      refine o_nil ?_
      refine s_seq ?_
      refine s_region ?_
      refine o_p (p_pure rfl) rfl ?_
      refine o_p (p_pure rfl) rfl ?_
      refine o_p (p_pure rfl) rfl ?_
      refine o_p (p_pure rfl) rfl ?_
      refine o_q (q_call rfl fn_31 rfl (fun w1 h1 => c31 w1 _ _ _ _)) rfl ?_
      rw [crypt_good hk hn (by omega) (by (try simp only [List.length_take, List.length_drop, List.length_append, List.length_replicate, cryptL_length]); omega)]
      refine o_p (p_pure rfl) rfl ?_
      refine o_p (p_pure rfl) rfl ?_
      refine o_p (p_pure rfl) rfl ?_
      refine o_p (p_pure rfl) rfl ?_
      refine o_p (p_pure rfl) rfl ?_
      refine o_nil ?_
      refine s_seq ?_
      refine s_seq ?_
      refine s_region ?_
      refine o_p (p_pure rfl) rfl ?_
      refine o_p (p_pure rfl) rfl ?_
      refine o_p (p_pure rfl) rfl ?_
      refine o_or 3 66 69 _ _ rfl
        (by
          intro hg13
          have hs14 := hg13; try simp only [decide_eq_true_eq, decide_eq_false_iff_not, Bool.not_eq_true', Bool.not_eq_false', Bool.and_eq_true, Bool.or_eq_true, Bool.and_eq_false_iff, Bool.or_eq_false_iff, Bool.not_true, Bool.not_false] at hs14
          refine o_on 66 _ rfl rfl hg13 ?_
          refine o_p (p_pure rfl) rfl ?_
          refine o_on 66 _ rfl rfl hg13 ?_
          refine o_p (p_pure rfl) rfl ?_
          refine o_p (p_pickf rfl rfl hg13 rfl) rfl ?_
          refine o_nil ?_
          exact s_join () (by repeat (first | exact sl_n | refine sl_c rfl ?_)) (fun w h => by first | exact h | exact h.ent (by repeat (first | exact .nil | refine .cons (by repeat (first | exact .here | apply Pick.there)) ?_))))
        (by
          intro hg15
          have hs16 := hg15; try simp only [decide_eq_true_eq, decide_eq_false_iff_not, Bool.not_eq_true', Bool.not_eq_false', Bool.and_eq_true, Bool.or_eq_true, Bool.and_eq_false_iff, Bool.or_eq_false_iff, Bool.not_true, Bool.not_false] at hs16
          refine o_off 66 _ rfl rfl hg15 rfl ?_
          refine o_off 66 _ rfl rfl hg15 rfl ?_
          refine o_p (p_pickt rfl rfl hg15 rfl) rfl ?_
          refine o_nil ?_
          exact s_join () (by repeat (first | exact sl_n | refine sl_c rfl ?_)) (fun w h => by first | exact h | exact h.ent (by repeat (first | exact .nil | refine .cons (by repeat (first | exact .here | apply Pick.there)) ?_)))) ?_
      refine o_p (p_pure rfl) rfl ?_
      refine o_or 4 70 74 _ _ rfl
        (by
          intro hg17
          have hs18 := hg17; try simp only [decide_eq_true_eq, decide_eq_false_iff_not, Bool.not_eq_true', Bool.not_eq_false', Bool.and_eq_true, Bool.or_eq_true, Bool.and_eq_false_iff, Bool.or_eq_false_iff, Bool.not_true, Bool.not_false] at hs18
          refine o_on 70 _ rfl rfl hg17 ?_
          refine o_p (p_pure rfl) rfl ?_
          refine o_on 70 _ rfl rfl hg17 ?_
          refine o_p (p_pure rfl) rfl ?_
          refine o_on 70 _ rfl rfl hg17 ?_
          refine o_p (p_pure rfl) rfl ?_
          refine o_p (p_pickf rfl rfl hg17 rfl) rfl ?_
          refine o_nil ?_
          exact s_join () (by repeat (first | exact sl_n | refine sl_c rfl ?_)) (fun w h => by first | exact h | exact h.ent (by repeat (first | exact .nil | refine .cons (by repeat (first | exact .here | apply Pick.there)) ?_))))
        (by
          intro hg19
          have hs20 := hg19; try simp only [decide_eq_true_eq, decide_eq_false_iff_not, Bool.not_eq_true', Bool.not_eq_false', Bool.and_eq_true, Bool.or_eq_true, Bool.and_eq_false_iff, Bool.or_eq_false_iff, Bool.not_true, Bool.not_false] at hs20
          refine o_off 70 _ rfl rfl hg19 rfl ?_
          refine o_off 70 _ rfl rfl hg19 rfl ?_
          refine o_off 70 _ rfl rfl hg19 rfl ?_
          refine o_p (p_pickt rfl rfl hg19 rfl) rfl ?_
          refine o_nil ?_
          exact s_join () (by repeat (first | exact sl_n | refine sl_c rfl ?_)) (fun w h => by first | exact h | exact h.ent (by repeat (first | exact .nil | refine .cons (by repeat (first | exact .here | apply Pick.there)) ?_)))) ?_
      refine o_p (p_pure rfl) rfl ?_
      refine o_or 6 75 81 _ _ rfl
        (by
          intro hg21
          have hs22 := hg21; try simp only [decide_eq_true_eq, decide_eq_false_iff_not, Bool.not_eq_true', Bool.not_eq_false', Bool.and_eq_true, Bool.or_eq_true, Bool.and_eq_false_iff, Bool.or_eq_false_iff, Bool.not_true, Bool.not_false] at hs22
          refine o_on 75 _ rfl rfl hg21 ?_
          refine o_p (p_pure rfl) rfl ?_
          refine o_on 75 _ rfl rfl hg21 ?_
          refine o_p (p_len_str rfl rfl Try.underlying9) rfl ?_
          refine o_on 75 _ rfl rfl hg21 ?_
          refine o_p (p_pure rfl) rfl ?_
          refine o_on 75 _ rfl rfl hg21 ?_
          refine o_p (p_len_str rfl rfl Try.underlying9) rfl ?_
          refine o_on 75 _ rfl rfl hg21 ?_
          refine o_p (p_pure rfl) rfl ?_
          refine o_p (p_pickf rfl rfl hg21 rfl) rfl ?_
          refine o_nil ?_
          exact s_join () (by repeat (first | exact sl_n | refine sl_c rfl ?_)) (fun w h => by first | exact h | exact h.ent (by repeat (first | exact .nil | refine .cons (by repeat (first | exact .here | apply Pick.there)) ?_))))
        (by
          intro hg23
          have hs24 := hg23; try simp only [decide_eq_true_eq, decide_eq_false_iff_not, Bool.not_eq_true', Bool.not_eq_false', Bool.and_eq_true, Bool.or_eq_true, Bool.and_eq_false_iff, Bool.or_eq_false_iff, Bool.not_true, Bool.not_false] at hs24
          refine o_off 75 _ rfl rfl hg23 rfl ?_
          refine o_off 75 _ rfl rfl hg23 rfl ?_
          refine o_off 75 _ rfl rfl hg23 rfl ?_
          refine o_off 75 _ rfl rfl hg23 rfl ?_
          refine o_off 75 _ rfl rfl hg23 rfl ?_
          refine o_p (p_pickt rfl rfl hg23 rfl) rfl ?_
          refine o_nil ?_
          exact s_join () (by repeat (first | exact sl_n | refine sl_c rfl ?_)) (fun w h => by first | exact h | exact h.ent (by repeat (first | exact .nil | refine .cons (by repeat (first | exact .here | apply Pick.there)) ?_)))) ?_
      refine o_nil ?_
      refine s_cond rfl (fun h25 => ?_) (fun h25 => ?_)
      · try simp only [decide_eq_true_eq, decide_eq_false_iff_not, Bool.not_eq_true', Bool.not_eq_false', Bool.and_eq_true, Bool.or_eq_true, Bool.and_eq_false_iff, Bool.or_eq_false_iff, Bool.not_true, Bool.not_false] at h25
        exfalso; simp [cryptL_twice, cryptL_length] at h25
      · try simp only [decide_eq_true_eq, decide_eq_false_iff_not, Bool.not_eq_true', Bool.not_eq_false', Bool.and_eq_true, Bool.or_eq_true, Bool.and_eq_false_iff, Bool.or_eq_false_iff, Bool.not_true, Bool.not_false] at h25
        have hi0 := Int.emod_nonneg (ct.toNat : Int) (show (data.length : Int) + 1 ≠ 0 by omega)
        have hi : (ct.toNat : Int) % ((data.length : Int) + 1) ≤ data.length := by have := Int.emod_lt_of_pos (ct.toNat : Int) (show 0 < (data.length : Int) + 1 by omega); omega
        obtain ⟨i, hie⟩ : ∃ i : Nat, (ct.toNat : Int) % ((data.length : Int) + 1) = i := ⟨((ct.toNat : Int) % ((data.length : Int) + 1)).toNat, by omega⟩
        rw [hie] at hi
        have hi2 : i ≤ data.length := by omega
        refine s_skip ?_
        refine s_seq ?_
        refine s_region ?_
        refine o_p (p_pure rfl) rfl ?_
        refine o_p (p_conv_int rfl rfl ki_57 ki_3) rfl ?_
        try (refine o_slot (i64w (by omega) (by omega)) ?_)
        try (refine o_slot (u16toI _) ?_)
        refine o_p (p_pure rfl) rfl ?_
        refine o_p (p_len_str rfl rfl Try.underlying9) rfl ?_
        refine o_p (p_pure rfl) rfl ?_
        try (refine o_slot (i64w (by omega) (by omega)) ?_)
        first | refine o_p (p_rem_nn rfl rfl rfl (by omega) (by omega)) rfl ?_ | refine o_p (p_rem rfl rfl rfl (by decide)) rfl ?_ | refine o_p (p_rem rfl rfl rfl (by omega)) rfl ?_
        rw [hie]
        refine o_p (p_pure rfl) rfl ?_
        refine o_nil ?_
        refine s_seq ?_
        refine s_region ?_
        refine o_p (p_pure rfl) rfl ?_
        refine o_p (p_pure rfl) rfl ?_
        refine o_p (p_pure rfl) rfl ?_
        refine o_p (p_pure rfl) rfl ?_
        refine o_p (p_pure rfl) rfl ?_
        refine o_p (p_slice_str_to i rfl rfl rfl Try.underlying9 rfl (by (try simp only [cryptL_length, List.length_append, List.length_replicate]); omega)) rfl ?_
        refine o_q (q_call rfl fn_31 rfl (fun w1 h1 => c31 w1 _ _ _ _)) rfl ?_
        rw [crypt_good hk hn (by omega) (by (try simp only [List.length_take, List.length_drop, List.length_append, List.length_replicate, cryptL_length]); omega)]
        refine o_p (p_pure rfl) rfl ?_
        refine o_p (p_pure rfl) rfl ?_
        refine o_p (p_pure rfl) rfl ?_
        refine o_p (p_pure rfl) rfl ?_
        refine o_p (p_pure rfl) rfl ?_
        refine o_nil ?_
        refine s_seq ?_
        refine s_region ?_
        refine o_p (p_pure rfl) rfl ?_
        refine o_p (p_pure rfl) rfl ?_
        refine o_p (p_pure rfl) rfl ?_
        refine o_p (p_pure rfl) rfl ?_
        refine o_p (p_pure rfl) rfl ?_
        try (refine o_slot (i64w (by omega) (by omega)) ?_)
        refine o_p (p_pure rfl) rfl ?_
        refine o_p (p_pure rfl) rfl ?_
        refine o_p (p_slice_str_from i rfl rfl rfl Try.underlying9 rfl (by (try simp only [cryptL_length, List.length_append, List.length_replicate]); omega)) rfl ?_
        refine o_q (q_call rfl fn_31 rfl (fun w1 h1 => c31 w1 _ _ _ _)) rfl ?_
        rw [crypt_good hk hn (by omega) (by (try simp only [List.length_take, List.length_drop, List.length_append, List.length_replicate, cryptL_length]); omega)]
        refine o_p (p_pure rfl) rfl ?_
        refine o_p (p_pure rfl) rfl ?_
        refine o_p (p_pure rfl) rfl ?_
        refine o_p (p_pure rfl) rfl ?_
        refine o_p (p_pure rfl) rfl ?_
        refine o_nil ?_
        refine s_seq ?_
        refine s_region ?_
        refine o_p (p_pure rfl) rfl ?_
        refine o_p (p_pure rfl) rfl ?_
        refine o_p (p_pure rfl) rfl ?_
        refine o_q (q_call rfl fn_32 rfl (fun w1 h1 => c32 w1 k.toNat (by omega))) rfl ?_
        refine o_p (p_pure rfl) rfl ?_
        refine o_p (p_str_add rfl rfl rfl (by (try simp only [List.length_append, List.length_cons, List.length_nil, List.length_replicate, List.length_take, List.length_drop, cryptL_length]); omega)) rfl ?_
        refine o_q (q_call rfl fn_31 rfl (fun w1 h1 => c31 w1 _ _ _ _)) rfl ?_
        rw [crypt_good hk hn (by omega) (by (try simp only [List.length_take, List.length_drop, List.length_append, List.length_replicate, cryptL_length]); omega)]
        refine o_p (p_pure rfl) rfl ?_
        refine o_p (p_pure rfl) rfl ?_
        refine o_p (p_pure rfl) rfl ?_
        refine o_p (p_pure rfl) rfl ?_
        refine o_p (p_pure rfl) rfl ?_
        refine o_nil ?_
        refine s_seq ?_
        refine s_region ?_
        refine o_p (p_pure rfl) rfl ?_
        refine o_p (p_pure rfl) rfl ?_
        refine o_p (p_pure rfl) rfl ?_
        refine o_and 3 122 125 _ _ rfl
          (by
            intro hg26
            have hs27 := hg26; try simp only [decide_eq_true_eq, decide_eq_false_iff_not, Bool.not_eq_true', Bool.not_eq_false', Bool.and_eq_true, Bool.or_eq_true, Bool.and_eq_false_iff, Bool.or_eq_false_iff, Bool.not_true, Bool.not_false] at hs27
            refine o_on 122 _ rfl rfl hg26 ?_
            refine o_p (p_pure rfl) rfl ?_
            refine o_on 122 _ rfl rfl hg26 ?_
            refine o_p (p_pure rfl) rfl ?_
            refine o_p (p_pickt rfl rfl hg26 rfl) rfl ?_
            refine o_nil ?_
            exact s_join () (by repeat (first | exact sl_n | refine sl_c rfl ?_)) (fun w h => by first | exact h | exact h.ent (by repeat (first | exact .nil | refine .cons (by repeat (first | exact .here | apply Pick.there)) ?_))))
          (by
            intro hg28
            have hs29 := hg28; try simp only [decide_eq_true_eq, decide_eq_false_iff_not, Bool.not_eq_true', Bool.not_eq_false', Bool.and_eq_true, Bool.or_eq_true, Bool.and_eq_false_iff, Bool.or_eq_false_iff, Bool.not_true, Bool.not_false] at hs29
            refine o_off 122 _ rfl rfl hg28 rfl ?_
            refine o_off 122 _ rfl rfl hg28 rfl ?_
            refine o_p (p_pickf rfl rfl hg28 rfl) rfl ?_
            refine o_nil ?_
            exact s_join () (by repeat (first | exact sl_n | refine sl_c rfl ?_)) (fun w h => by first | exact h | exact h.ent (by repeat (first | exact .nil | refine .cons (by repeat (first | exact .here | apply Pick.there)) ?_)))) ?_
        refine o_p (p_pure rfl) rfl ?_
        refine o_and 6 126 132 _ _ rfl
          (by
            intro hg30
            have hs31 := hg30; try simp only [decide_eq_true_eq, decide_eq_false_iff_not, Bool.not_eq_true', Bool.not_eq_false', Bool.and_eq_true, Bool.or_eq_true, Bool.and_eq_false_iff, Bool.or_eq_false_iff, Bool.not_true, Bool.not_false] at hs31
            refine o_on 126 _ rfl rfl hg30 ?_
            refine o_p (p_pure rfl) rfl ?_
            refine o_on 126 _ rfl rfl hg30 ?_
            refine o_p (p_pure rfl) rfl ?_
            refine o_on 126 _ rfl rfl hg30 ?_
            refine o_p (p_str_add rfl rfl rfl (by (try simp only [List.length_append, List.length_cons, List.length_nil, List.length_replicate, List.length_take, List.length_drop, cryptL_length]); omega)) rfl ?_
            refine o_on 126 _ rfl rfl hg30 ?_
            refine o_p (p_pure rfl) rfl ?_
            refine o_on 126 _ rfl rfl hg30 ?_
            refine o_p (p_pure rfl) rfl ?_
            refine o_p (p_pickt rfl rfl hg30 rfl) rfl ?_
            refine o_nil ?_
            exact s_join () (by repeat (first | exact sl_n | refine sl_c rfl ?_)) (fun w h => by first | exact h | exact h.ent (by repeat (first | exact .nil | refine .cons (by repeat (first | exact .here | apply Pick.there)) ?_))))
          (by
            intro hg32
            have hs33 := hg32; try simp only [decide_eq_true_eq, decide_eq_false_iff_not, Bool.not_eq_true', Bool.not_eq_false', Bool.and_eq_true, Bool.or_eq_true, Bool.and_eq_false_iff, Bool.or_eq_false_iff, Bool.not_true, Bool.not_false] at hs33
            refine o_off 126 _ rfl rfl hg32 rfl ?_
            refine o_off 126 _ rfl rfl hg32 rfl ?_
            refine o_off 126 _ rfl rfl hg32 rfl ?_
            refine o_off 126 _ rfl rfl hg32 rfl ?_
            refine o_off 126 _ rfl rfl hg32 rfl ?_
            refine o_p (p_pickf rfl rfl hg32 rfl) rfl ?_
            refine o_nil ?_
            exact s_join () (by repeat (first | exact sl_n | refine sl_c rfl ?_)) (fun w h => by first | exact h | exact h.ent (by repeat (first | exact .nil | refine .cons (by repeat (first | exact .here | apply Pick.there)) ?_)))) ?_
        refine o_p (p_pure rfl) rfl ?_
        refine o_and 3 133 136 _ _ rfl
          (by
            intro hg34
            have hs35 := hg34; try simp only [decide_eq_true_eq, decide_eq_false_iff_not, Bool.not_eq_true', Bool.not_eq_false', Bool.and_eq_true, Bool.or_eq_true, Bool.and_eq_false_iff, Bool.or_eq_false_iff, Bool.not_true, Bool.not_false] at hs35
            refine o_on 133 _ rfl rfl hg34 ?_
            refine o_p (p_pure rfl) rfl ?_
            refine o_on 133 _ rfl rfl hg34 ?_
            refine o_p (p_pure rfl) rfl ?_
            refine o_p (p_pickt rfl rfl hg34 rfl) rfl ?_
            refine o_nil ?_
            exact s_join () (by repeat (first | exact sl_n | refine sl_c rfl ?_)) (fun w h => by first | exact h | exact h.ent (by repeat (first | exact .nil | refine .cons (by repeat (first | exact .here | apply Pick.there)) ?_))))
          (by
            intro hg36
            have hs37 := hg36; try simp only [decide_eq_true_eq, decide_eq_false_iff_not, Bool.not_eq_true', Bool.not_eq_false', Bool.and_eq_true, Bool.or_eq_true, Bool.and_eq_false_iff, Bool.or_eq_false_iff, Bool.not_true, Bool.not_false] at hs37
            refine o_off 133 _ rfl rfl hg36 rfl ?_
            refine o_off 133 _ rfl rfl hg36 rfl ?_
            refine o_p (p_pickf rfl rfl hg36 rfl) rfl ?_
            refine o_nil ?_
            exact s_join () (by repeat (first | exact sl_n | refine sl_c rfl ?_)) (fun w h => by first | exact h | exact h.ent (by repeat (first | exact .nil | refine .cons (by repeat (first | exact .here | apply Pick.there)) ?_)))) ?_
        refine o_p (p_pure rfl) rfl ?_
        refine o_and 6 137 143 _ _ rfl
          (by
            intro hg38
            have hs39 := hg38; try simp only [decide_eq_true_eq, decide_eq_false_iff_not, Bool.not_eq_true', Bool.not_eq_false', Bool.and_eq_true, Bool.or_eq_true, Bool.and_eq_false_iff, Bool.or_eq_false_iff, Bool.not_true, Bool.not_false] at hs39
            refine o_on 137 _ rfl rfl hg38 ?_
            refine o_p (p_pure rfl) rfl ?_
            refine o_on 137 _ rfl rfl hg38 ?_
            refine o_p (p_pure rfl) rfl ?_
            refine o_on 137 _ rfl rfl hg38 ?_
            refine o_p (p_slice_str_from k.toNat rfl rfl rfl Try.underlying9 rfl (by (try simp only [cryptL_length, List.length_append, List.length_replicate]); omega)) rfl ?_
            refine o_on 137 _ rfl rfl hg38 ?_
            refine o_p (p_pure rfl) rfl ?_
            refine o_on 137 _ rfl rfl hg38 ?_
            refine o_p (p_pure rfl) rfl ?_
            refine o_p (p_pickt rfl rfl hg38 rfl) rfl ?_
            refine o_nil ?_
            exact s_join () (by repeat (first | exact sl_n | refine sl_c rfl ?_)) (fun w h => by first | exact h | exact h.ent (by repeat (first | exact .nil | refine .cons (by repeat (first | exact .here | apply Pick.there)) ?_))))
          (by
            intro hg40
            have hs41 := hg40; try simp only [decide_eq_true_eq, decide_eq_false_iff_not, Bool.not_eq_true', Bool.not_eq_false', Bool.and_eq_true, Bool.or_eq_true, Bool.and_eq_false_iff, Bool.or_eq_false_iff, Bool.not_true, Bool.not_false] at hs41
            refine o_off 137 _ rfl rfl hg40 rfl ?_
            refine o_off 137 _ rfl rfl hg40 rfl ?_
            refine o_off 137 _ rfl rfl hg40 rfl ?_
            refine o_off 137 _ rfl rfl hg40 rfl ?_
            refine o_off 137 _ rfl rfl hg40 rfl ?_
            refine o_p (p_pickf rfl rfl hg40 rfl) rfl ?_
            refine o_nil ?_
            exact s_join () (by repeat (first | exact sl_n | refine sl_c rfl ?_)) (fun w h => by first | exact h | exact h.ent (by repeat (first | exact .nil | refine .cons (by repeat (first | exact .here | apply Pick.there)) ?_)))) ?_
        refine o_p (p_pure rfl) rfl ?_
        refine o_nil ?_
        exact s_retv (rs := [.tmp 6]) rfl (.tmp rfl (.nil)) (fun w' h' => ⟨by have e9 : ((k.toNat : Int) + (i : Int)).toNat = k.toNat + i := (by omega); simp [e9, cryptL_split hi2, cryptL_from]; rfl, h'.below⟩)

end Go.Proofs
