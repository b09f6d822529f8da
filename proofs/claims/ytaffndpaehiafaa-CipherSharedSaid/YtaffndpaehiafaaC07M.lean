/- Contracts of the program's functions, proved by walking them with the rules of the Gx texts; without conditions beyond those that each contract names. -/
import Derived.Test.YtaffndpaehiafaaC07L
import Derived.Test.YtaffndpaehiafaaGxVl
namespace Go.Proofs
open Go Go.RowKit Gx
set_option linter.unusedVariables false
set_option linter.unusedSimpArgs false
attribute [local irreducible] Go.Calls Gx.S Gx.O Gx.D Gx.OpP Gx.OpQ Gx.OpH

theorem sl_104 : tsl Try.prog 104 = some (9, 1, 16) := by kernel_rfl
theorem sl_115 : tsl Try.prog 115 = some (3, 1, 8) := by kernel_rfl
theorem zr_3 : tzero Try.prog 3 = some [.int .i64 0] := by kernel_rfl


set_option maxRecDepth 20000 in
theorem c16 (w : World) (a : Option Addr) (cap : Nat) (ss : List (List UInt8)) (hs : Vl w a (ss.map strV)) (hm : ss.length ≤ 1000) : Calls Try.prog 16 #[.slice a ss.length cap] w fun en w' => en = .returned (.bool (fewB ss)) ∧ Below w.heap.size w w' := by
  refine enter (args := [_]) Try.func16 Try.ntmps16 rfl rfl (HS.refl w []) ?_
  refine s_seq ?_
  refine s_region ?_
  refine o_p (p_pure rfl) rfl ?_
  refine o_nil ?_
  refine s_seq ?_
  refine s_seq ?_
  refine s_region ?_
  refine o_p (p_pure rfl) rfl ?_
  refine o_nil ?_
  refine s_block ?_
  refine s_loopI (α := Nat) [2, 3, 4, 5, 6, 7, 8, 9, 10, 11, 12, 13, 14, 15] (fun k => [(3, .int .i64 (k : Int))]) (fun _ => _) (fun k => k ≤ ss.length ∧ fewB (ss.take k) = true) (fun k => ss.length - k) 0 ⟨by omega, rfl⟩ (by repeat (first | exact sl_n | refine sl_c rfl ?_)) (fun w h => h) (fun k hk => ?_)
  obtain ⟨hk1, hk2⟩ := hk
  refine s_seq ?_
  refine s_seq ?_
  refine s_region ?_
  refine o_p (p_pure rfl) rfl ?_
  refine o_p (p_pure rfl) rfl ?_
  first | refine o_p (p_len_slice rfl rfl Try.underlying104) rfl ?_ | refine o_q (q_len_own rfl rfl Try.underlying104 (by repeat (first | exact .here | apply Pick.there))) rfl ?_
  refine o_p (p_pure rfl) rfl ?_
  refine o_nil ?_
  refine s_cond rfl (fun h1 => ?_) (fun h1 => ?_)
  · try simp only [decide_eq_true_eq, decide_eq_false_iff_not, Bool.not_eq_true', Bool.not_eq_false', Bool.and_eq_true, Bool.or_eq_true, Bool.and_eq_false_iff, Bool.or_eq_false_iff, Bool.not_true, Bool.not_false] at h1
    refine s_skip ?_
    refine s_seq ?_
    refine s_block ?_
    refine s_seq ?_
    refine s_region ?_
    refine o_p (p_pure rfl) rfl ?_
    refine o_p (p_pure rfl) rfl ?_
    first | refine o_p (p_indexAddr rfl rfl rfl sl_104 (k) (by omega) (by omega) rfl) rfl ?_ | refine o_p (p_indexAddr rfl rfl rfl sl_104 (k) (by omega) (by omega) (hs.some (by rw [List.length_map]; omega))) rfl ?_
    first | refine o_q (q_load rfl rfl sz_9 (by repeat (first | exact .here | apply Pick.there)) rfl) rfl ?_ | refine o_q (q_load_old rfl rfl sz_9 (hs.rd (str_get (i := k) (by omega)))) rfl ?_
    refine o_p (p_len_str rfl rfl Try.underlying9) rfl ?_
    refine o_p (p_pure rfl) rfl ?_
    refine o_nil ?_
    refine s_cond rfl (fun h2 => ?_) (fun h2 => ?_)
    · try simp only [decide_eq_true_eq, decide_eq_false_iff_not, Bool.not_eq_true', Bool.not_eq_false', Bool.and_eq_true, Bool.or_eq_true, Bool.and_eq_false_iff, Bool.or_eq_false_iff, Bool.not_true, Bool.not_false] at h2
      refine s_seq ?_
      refine s_region ?_
      refine o_p (p_pure rfl) rfl ?_
      refine o_nil ?_
      exact s_retv (rs := [.tmp 2]) rfl (.tmp rfl (.nil)) (fun w' h' => ⟨by rw [fewB_no (k := k) (by omega) (by omega)]; rfl, h'.below⟩)
    · try simp only [decide_eq_true_eq, decide_eq_false_iff_not, Bool.not_eq_true', Bool.not_eq_false', Bool.and_eq_true, Bool.or_eq_true, Bool.and_eq_false_iff, Bool.or_eq_false_iff, Bool.not_true, Bool.not_false] at h2
      refine s_skip ?_
      refine s_blk ?_
      refine s_region ?_
      refine o_p (p_pure rfl) rfl ?_
      refine o_p (p_pure rfl) rfl ?_
      try (refine o_slot (i64w (by omega) (by omega)) ?_)
      refine o_p (p_pure rfl) rfl ?_
      refine o_nil ?_
      exact s_backI (k+1) (by omega) ⟨by omega, fewB_take (by omega) hk2 (by omega)⟩ (by repeat (first | exact sl_n | refine sl_c rfl ?_)) (fun w h => h)
  · try simp only [decide_eq_true_eq, decide_eq_false_iff_not, Bool.not_eq_true', Bool.not_eq_false', Bool.and_eq_true, Bool.or_eq_true, Bool.and_eq_false_iff, Bool.or_eq_false_iff, Bool.not_true, Bool.not_false] at h1
    refine s_exit_to rfl ?_
    refine s_seq ?_
    refine s_region ?_
    refine o_p (p_pure rfl) rfl ?_
    refine o_nil ?_
    exact s_retv (rs := [.tmp 2]) rfl (.tmp rfl (.nil)) (fun w' h' => ⟨by rw [← hk2, List.take_of_length_le (by omega)]; rfl, h'.below⟩)

theorem x16 (w : World) (a : Option Addr) (n cap : Nat) (ss : List (List UInt8)) (hn : ss.length = n) (hs : Vl w a (ss.map strV)) (hm : n ≤ 1000) : Calls Try.prog 16 #[.slice a n cap] w fun en w' => en = .returned (.bool (fewB ss)) ∧ Below w.heap.size w w' := by
  subst hn
  exact c16 w a cap ss hs hm

set_option maxRecDepth 20000 in
theorem c95 (w : World) (s : List UInt8) (at' c : Nat) (h1 : at' + c ≤ s.length) (hc : c ≤ 6) (hm : s.length ≤ 9223372036854775000) : Calls Try.prog 95 #[.string (bs s), .int .i64 (at' : Int), .int .i64 (c : Int)] w fun en w' => en = .returned (.int .i64 (leS ((s.drop at').take c) : Int)) ∧ Below w.heap.size w w' := by
  refine enter (args := [_, _, _]) Try.func95 Try.ntmps95 rfl rfl (HS.refl w []) ?_
  refine s_seq ?_
  refine s_region ?_
  refine o_p (p_pure rfl) rfl ?_
  refine o_nil ?_
  refine s_seq ?_
  refine s_region ?_
  refine o_p (p_pure rfl) rfl ?_
  refine o_nil ?_
  refine s_seq ?_
  refine s_seq ?_
  refine s_region ?_
  refine o_p (p_pure rfl) rfl ?_
  refine o_p (p_pure rfl) rfl ?_
  try (refine o_slot (i64w (by omega) (by omega)) ?_)
  refine o_p (p_pure rfl) rfl ?_
  refine o_nil ?_
  refine s_block ?_
  refine s_loopI (α := Nat) [7, 8, 11, 12, 13, 14, 15, 16, 17, 18, 19, 20, 21, 22, 23] (fun j => [(8, .int .i64 ((j : Int) - 1)), (7, .int .i64 (leS ((s.drop (at' + j)).take (c - j)) : Int))]) (fun _ => _) (fun j => j ≤ c) (fun j => j) c (by omega) (by rw [Nat.sub_self, List.take_zero]; repeat (first | exact sl_n | refine sl_c rfl ?_)) (fun w h => h) (fun j hj => ?_)
  have hb : leS ((s.drop (at' + j)).take (c - j)) < 281474976710656 := leS_le (n := 6) (by simp only [List.length_take, List.length_drop]; omega) (by omega)
  refine s_seq ?_
  refine s_seq ?_
  refine s_region ?_
  refine o_p (p_pure rfl) rfl ?_
  refine o_p (p_pure rfl) rfl ?_
  refine o_nil ?_
  refine s_cond rfl (fun h1 => ?_) (fun h1 => ?_)
  · try simp only [decide_eq_true_eq, decide_eq_false_iff_not, Bool.not_eq_true', Bool.not_eq_false', Bool.and_eq_true, Bool.or_eq_true, Bool.and_eq_false_iff, Bool.or_eq_false_iff, Bool.not_true, Bool.not_false] at h1
    refine s_skip ?_
    refine s_seq ?_
    refine s_block ?_
    refine s_region ?_
    refine o_p (p_pure rfl) rfl ?_
    refine o_p (p_pure rfl) rfl ?_
    try (refine o_slot (i64w (by omega) (by omega)) ?_)
    refine o_p (p_pure rfl) rfl ?_
    refine o_p (p_pure rfl) rfl ?_
    refine o_p (p_pure rfl) rfl ?_
    refine o_p (p_pure rfl) rfl ?_
    try (refine o_slot (i64w (by omega) (by omega)) ?_)
    refine o_p (p_index_str rfl rfl rfl Try.underlying9 (at' + (j - 1)) (by omega) (by omega)) rfl ?_
    have hbt := (s.getD (at' + (j - 1)) 0).toNat_lt
    refine o_p (p_conv_int rfl rfl ki_5 ki_3) rfl ?_
    try (refine o_slot (i64w (by omega) (by omega)) ?_)
    refine o_p (p_pure rfl) rfl ?_
    try (refine o_slot (i64w (by omega) (by omega)) ?_)
    refine o_p (p_pure rfl) rfl ?_
    refine o_nil ?_
    refine s_blk ?_
    refine s_region ?_
    refine o_p (p_pure rfl) rfl ?_
    refine o_p (p_pure rfl) rfl ?_
    try (refine o_slot (i64w (by omega) (by omega)) ?_)
    refine o_p (p_pure rfl) rfl ?_
    refine o_nil ?_
    exact s_backI (j - 1) (by omega) (by omega) (sl_c (congrArg (fun e => some (Value.int .i64 e)) (by omega)) (sl_c (congrArg (fun e => some (Value.int .i64 e)) (by rw [show c - (j - 1) = c - j + 1 by omega, List.drop_eq_getElem_cons (show at' + (j - 1) < s.length by omega), List.take_succ_cons, leS, show at' + (j - 1) + 1 = at' + j by omega, List.getD_eq_getElem?_getD, List.getElem?_eq_getElem (show at' + (j - 1) < s.length by omega), Option.getD_some]; omega)) (by repeat (first | exact sl_n | refine sl_c rfl ?_)))) (fun w h => h)
  · try simp only [decide_eq_true_eq, decide_eq_false_iff_not, Bool.not_eq_true', Bool.not_eq_false', Bool.and_eq_true, Bool.or_eq_true, Bool.and_eq_false_iff, Bool.or_eq_false_iff, Bool.not_true, Bool.not_false] at h1
    refine s_exit_to rfl ?_
    refine s_seq ?_
    refine s_region ?_
    refine o_p (p_pure rfl) rfl ?_
    refine o_p (p_pure rfl) rfl ?_
    refine o_nil ?_
    exact s_retv (rs := [.tmp 6]) rfl (.tmp rfl (.nil)) (fun w' h' => ⟨by obtain rfl : j = 0 := (by omega); simp only [retV, Nat.add_zero, Nat.sub_zero], h'.below⟩)

set_option maxRecDepth 20000 in
theorem c78 (w : World) (m c : Nat) (hm : m ≤ 9223372036854775807) (hc : c ≤ 1000) : Calls Try.prog 78 #[.int .i64 (m : Int), .int .i64 (c : Int)] w fun en w' => en = .returned (.string (bs (leB m c))) ∧ Below w.heap.size w w' := by
  refine enter (args := [_, _]) Try.func78 Try.ntmps78 rfl rfl (HS.refl w []) ?_
  refine s_seq ?_
  refine s_region ?_
  refine o_p (p_pure rfl) rfl ?_
  refine o_nil ?_
  refine s_seq ?_
  refine s_region ?_
  refine o_p (p_pure rfl) rfl ?_
  refine o_nil ?_
  refine s_seq ?_
  refine s_seq ?_
  refine s_region ?_
  refine o_p (p_pure rfl) rfl ?_
  refine o_nil ?_
  refine s_block ?_
  refine s_loopI (α := Nat × Value) [0, 5, 6, 7, 8, 9, 10, 11, 12, 13, 14, 15, 16, 17, 18, 19] (fun x => [(6, .int .i64 (x.1 : Int)), (5, x.2), (0, .int .i64 (divB m x.1 : Int))]) (fun x => HS w [] [.own x.2 5 1 x.1 ((leB m x.1).map bv)]) (fun x => x.1 ≤ c) (fun x => c - x.1) (0, .slice none 0 0) (by omega) (by rw [divB_0]; repeat (first | exact sl_n | refine sl_c rfl ?_)) (fun w h => (h.own_nil 5 1).ent (by repeat (first | exact .nil | refine .cons (by repeat (first | exact .here | apply Pick.there)) ?_))) (fun ⟨k, v⟩ hk => ?_)
  dsimp only
  simp only [] at hk
  have hdv := divB_le m k
  refine s_seq ?_
  refine s_seq ?_
  refine s_region ?_
  refine o_p (p_pure rfl) rfl ?_
  refine o_p (p_pure rfl) rfl ?_
  refine o_p (p_pure rfl) rfl ?_
  refine o_nil ?_
  refine s_cond rfl (fun h1 => ?_) (fun h1 => ?_)
  · try simp only [decide_eq_true_eq, decide_eq_false_iff_not, Bool.not_eq_true', Bool.not_eq_false', Bool.and_eq_true, Bool.or_eq_true, Bool.and_eq_false_iff, Bool.or_eq_false_iff, Bool.not_true, Bool.not_false] at h1
    refine s_skip ?_
    refine s_seq ?_
    refine s_block ?_
    refine s_seq ?_
    refine s_region ?_
    refine o_p (p_pure rfl) rfl ?_
    refine o_p (p_pure rfl) rfl ?_
    first | refine o_p (p_rem_nn rfl rfl rfl (by omega) (by omega)) rfl ?_ | refine o_p (p_rem rfl rfl rfl (by decide)) rfl ?_ | refine o_p (p_rem rfl rfl rfl (by omega)) rfl ?_
    refine o_p (p_conv_int rfl rfl ki_3 ki_5) rfl ?_
    refine o_slot (byte_slot _) ?_
    refine o_h (h_buildSlice (cs := [_]) rfl rfl sl_113 zr_5 rfl rfl rfl) rfl (fun b2 _ => ?_)
    refine o_h (h_append _ rfl rfl rfl sl_113 Try.underlying113 zr_5 rfl (by repeat (first | exact .here | apply Pick.there)) (src_blk (by repeat (first | exact .here | apply Pick.there))) rfl (by intro u hu; simp only [List.mem_cons, List.mem_nil_iff, or_false] at hu; rcases hu with rfl | hu <;> first | rfl | (subst hu; rfl) | (rcases hu with rfl | rfl <;> rfl)) (by omega) (by simp only [maxLen]; omega)) rfl (fun b3 _ => ?_)
    refine o_p (p_pure rfl) rfl ?_
    refine o_nil ?_
    refine s_region ?_
    refine o_p (p_pure rfl) rfl ?_
    first | refine o_p (p_quo_nn rfl rfl rfl (by omega) (by omega) (by omega)) rfl ?_ | refine o_p (p_quo rfl rfl rfl (by decide)) rfl ?_ | refine o_p (p_quo rfl rfl rfl (by omega)) rfl ?_
    refine o_p (p_pure rfl) rfl ?_
    refine o_nil ?_
    refine s_blk ?_
    refine s_region ?_
    refine o_p (p_pure rfl) rfl ?_
    refine o_p (p_pure rfl) rfl ?_
    try (refine o_slot (i64w (by omega) (by omega)) ?_)
    refine o_p (p_pure rfl) rfl ?_
    refine o_nil ?_
    exact s_backI (k + 1, _) (by (try simp only []); omega) (by (try simp only []); omega) (sl_c rfl (sl_c rfl (sl_c (congrArg (fun e => some (Value.int .i64 e)) (by rw [divB_succ]; omega)) (by repeat (first | exact sl_n | refine sl_c rfl ?_))))) (fun w h => by rw [leB_succ, List.map_append]; exact h.ent (by repeat (first | exact .nil | refine .cons (by repeat (first | exact .here | apply Pick.there)) ?_)))
  · try simp only [decide_eq_true_eq, decide_eq_false_iff_not, Bool.not_eq_true', Bool.not_eq_false', Bool.and_eq_true, Bool.or_eq_true, Bool.and_eq_false_iff, Bool.or_eq_false_iff, Bool.not_true, Bool.not_false] at h1
    refine s_exit_to rfl ?_
    refine s_seq ?_
    refine s_region ?_
    refine o_p (p_pure rfl) rfl ?_
    first | refine o_q (q_string_own rfl rfl Try.underlying113 Try.underlying9 Try.underlying5 (by repeat (first | exact .here | apply Pick.there)) (isU8_bv _)) rfl ?_ | refine o_q (q_string_blk rfl rfl Try.underlying113 Try.underlying9 Try.underlying5 (by repeat (first | exact .here | apply Pick.there)) (by simp) (isU8_bv _)) rfl ?_
    refine o_p (p_pure rfl) rfl ?_
    refine o_nil ?_
    exact s_retv (rs := [.tmp 4]) rfl (.tmp rfl (.nil)) (fun w' h' => ⟨by simp only [vByte_bv]; rw [show k = c by omega]; rfl, h'.below⟩)

set_option maxRecDepth 20000 in
theorem c109 (w : World) (a : Option Addr) (cap : Nat) (vs : List Value) (hs : Vl w a vs) (h1 : ∀ u ∈ vs, u.oneCell' = true) (hm : vs.length ≤ 1000000) : Calls Try.prog 109 #[.slice a vs.length cap] w fun en w' => ∃ v : Value, en = .returned v ∧ True ∧ HS w [] [.own v 3 1 vs.length vs] w' := by
  refine enter (args := [_]) Try.func109 Try.ntmps109 rfl rfl (HS.refl w []) ?_
  refine s_seq ?_
  refine s_region ?_
  refine o_p (p_pure rfl) rfl ?_
  refine o_nil ?_
  refine s_seq ?_
  refine s_region ?_
  refine o_h (h_buildSlice0 rfl sl_115) rfl (fun b1 _ => ?_)
  refine o_p (p_pure rfl) rfl ?_
  refine o_h (h_append vs rfl rfl rfl sl_115 Try.underlying115 zr_3 rfl (by repeat (first | exact .here | apply Pick.there)) (fun w h => hs.src h) (by omega) h1 (by omega) (by simp only [maxLen]; omega)) rfl (fun b2 _ => ?_)
  refine o_p (p_pure rfl) rfl ?_
  refine o_nil ?_
  exact s_retv (rs := [.tmp 2]) rfl (.tmp rfl (.nil)) (fun w' h' => ⟨_, rfl, trivial, by have h2 := h'; rw [Nat.zero_add, List.nil_append] at h2; exact h2.ent (by repeat (first | exact .nil | refine .cons (by repeat (first | exact .here | apply Pick.there)) ?_))⟩)

end Go.Proofs
