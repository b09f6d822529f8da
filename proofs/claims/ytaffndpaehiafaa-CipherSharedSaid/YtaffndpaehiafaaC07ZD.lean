/- Contracts of the program's functions, proved by walking them with the rules of the Gx texts; without conditions beyond those that each contract names. -/
import Derived.Test.YtaffndpaehiafaaC07ZC
import Derived.Test.YtaffndpaehiafaaGxOps6
namespace Go.Proofs
open Go Go.RowKit Gx
set_option linter.unusedVariables false
set_option linter.unusedSimpArgs false
attribute [local irreducible] Go.Calls Gx.S Gx.O Gx.D Gx.OpP Gx.OpQ Gx.OpH

theorem ov_114 : isOv Try.prog 114 41 4 := ⟨_, Try.func114, rfl, rfl, by kernel_rfl, by kernel_rfl⟩


set_option maxRecDepth 20000 in
theorem c96a (w : World) (a : Option Addr) (i n m cap : Nat) (xs news : List Value) (b0 c0 tot2 : Nat) (hw : HS w (fps [.own (.slice a n cap) 96 2 n xs, .blk b0 96 tot2 news]) [.own (.slice a n cap) 96 2 n xs, .blk b0 96 tot2 news] w) (hm0 : 0 < m) (hl : news.length = m * 2) (hn1 : ∀ u ∈ news, u.oneCell' = true) (hx1 : ∀ u ∈ xs, u.oneCell' = true) (hmax : (n + m) * 24 ≤ 140737488355328) (hi : i = n) : Calls Try.prog 96 #[.slice a n cap, .int .i64 i, .slice (some ⟨b0, 0, none⟩) m c0] w fun en w' => ∃ g : Option Addr × Nat, en = .returned (.slice g.1 (n + m) g.2) ∧ True ∧ HS w (fps [.own (.slice a n cap) 96 2 n xs, .blk b0 96 tot2 news]) [.own (.slice g.1 (n + m) g.2) 96 2 (n + m) (xs.take (i * 2) ++ news ++ xs.drop (i * 2)), .blk b0 96 tot2 news] w' := by
  obtain ⟨_, hnc, hcm, hxl⟩ := hw.own_facts .here
  refine enter (args := [_, _, _]) Try.func96 Try.ntmps96 rfl rfl hw ?_
  refine s_seq ?_
  refine s_region ?_
  refine o_p (p_pure rfl) rfl ?_
  refine o_nil ?_
  refine s_seq ?_
  refine s_region ?_
  refine o_p (p_pure rfl) rfl ?_
  refine o_p (p_pure rfl) rfl ?_
  refine o_p (p_slice _ _ i n rfl rfl sl_41 ⟨_, _, rfl, rfl⟩ rfl (by omega) (by omega)) rfl ?_
  refine o_nil ?_
  refine s_seq ?_
  refine s_region ?_
  refine o_p (p_pure rfl) rfl ?_
  first | refine o_p (p_len_slice rfl rfl Try.underlying41) rfl ?_ | refine o_q (q_len_own rfl rfl Try.underlying41 (by repeat (first | exact .here | apply Pick.there))) rfl ?_
  refine o_p (p_pure rfl) rfl ?_
  refine o_nil ?_
  refine s_seq ?_
  refine s_seq ?_
  refine s_region ?_
  refine o_p (p_pure rfl) rfl ?_
  refine o_p (p_pure rfl) rfl ?_
  refine o_nil ?_
  refine s_cond rfl (fun h1 => ?_) (fun h1 => ?_)
  · try simp only [decide_eq_true_eq, decide_eq_false_iff_not, Bool.not_eq_true', Bool.not_eq_false', Bool.and_eq_true, Bool.or_eq_true, Bool.and_eq_false_iff, Bool.or_eq_false_iff, Bool.not_true, Bool.not_false] at h1
    exfalso; first | omega | (simp at h1; done) | (simp_all; done)
  · try simp only [decide_eq_true_eq, decide_eq_false_iff_not, Bool.not_eq_true', Bool.not_eq_false', Bool.and_eq_true, Bool.or_eq_true, Bool.and_eq_false_iff, Bool.or_eq_false_iff, Bool.not_true, Bool.not_false] at h1
    refine s_skip ?_
    refine s_seq ?_
    refine s_region ?_
    refine o_p (p_pure rfl) rfl ?_
    first | refine o_p (p_len_slice rfl rfl Try.underlying41) rfl ?_ | refine o_q (q_len_own rfl rfl Try.underlying41 (by repeat (first | exact .here | apply Pick.there))) rfl ?_
    refine o_p (p_pure rfl) rfl ?_
    refine o_nil ?_
    refine s_seq ?_
    refine s_seq ?_
    refine s_region ?_
    refine o_p (p_pure rfl) rfl ?_
    refine o_p (p_pure rfl) rfl ?_
    refine o_p (p_pure rfl) rfl ?_
    refine o_nil ?_
    refine s_cond rfl (fun h2 => ?_) (fun h2 => ?_)
    · try simp only [decide_eq_true_eq, decide_eq_false_iff_not, Bool.not_eq_true', Bool.not_eq_false', Bool.and_eq_true, Bool.or_eq_true, Bool.and_eq_false_iff, Bool.or_eq_false_iff, Bool.not_true, Bool.not_false] at h2
      refine s_seq ?_
      refine s_region ?_
      refine o_p (p_pure rfl) rfl ?_
      refine o_p (p_pure rfl) rfl ?_
      refine o_h (h_appendS news rfl rfl rfl sl_41 Try.underlying41 zr_96 rfl (by repeat (first | exact .here | apply Pick.there)) (src_blk (by repeat (first | exact .here | apply Pick.there))) hl hn1 (by omega) (by simp only [maxLen]; omega)) rfl (fun b3 _ => ?_)
      refine o_p (p_pure rfl) rfl ?_
      refine o_nil ?_
      exact s_retv (rs := [.tmp 6]) rfl (.tmp rfl (.nil)) (fun w' h' => ⟨(_, _), rfl, trivial, by subst hi; rw [List.take_of_length_le (by omega), List.drop_eq_nil_of_le (by omega), List.append_nil]; exact h'.ent (by repeat (first | exact .nil | refine .cons (by repeat (first | exact .here | apply Pick.there)) ?_))⟩)
    · try simp only [decide_eq_true_eq, decide_eq_false_iff_not, Bool.not_eq_true', Bool.not_eq_false', Bool.and_eq_true, Bool.or_eq_true, Bool.and_eq_false_iff, Bool.or_eq_false_iff, Bool.not_true, Bool.not_false] at h2
      exfalso; first | omega | (simp at h2; done) | (simp_all; done)

set_option maxRecDepth 20000 in
theorem c96b (w : World) (gg i n m cap : Nat) (xs news : List Value) (b0 c0 tot2 : Nat) (M : List Nat) (hw : HS w M [.blk gg 96 (cap * 2) xs, .blk b0 96 tot2 news] w) (hnc : n ≤ cap) (hcm : cap ≤ maxLen) (hxl : xs.length = n * 2) (hm0 : 0 < m) (hl : news.length = m * 2) (hn1 : ∀ u ∈ news, u.oneCell' = true) (hx1 : ∀ u ∈ xs, u.oneCell' = true) (hmax : (n + m) * 24 ≤ 140737488355328) (hi : i < n) : Calls Try.prog 96 #[.slice (some ⟨gg, 0, none⟩) n cap, .int .i64 i, .slice (some ⟨b0, 0, none⟩) m c0] w fun en w' => ∃ g : Option Addr × Nat, en = .returned (.slice g.1 (n + m) g.2) ∧ True ∧ HS w M [.own (.slice g.1 (n + m) g.2) 96 2 (n + m) (xs.take (i * 2) ++ news ++ xs.drop (i * 2)), .blk b0 96 tot2 news] w' := by
  have ht2 := (hw.blk_get (.there .here)).len_le
  have hcl : (cut xs 0 (i * 2)).length = i * 2 := cut_length _ _ _ (by omega)
  refine enter (args := [_, _, _]) Try.func96 Try.ntmps96 rfl rfl hw ?_
  refine s_seq ?_
  refine s_region ?_
  refine o_p (p_pure rfl) rfl ?_
  refine o_nil ?_
  refine s_seq ?_
  refine s_region ?_
  refine o_p (p_pure rfl) rfl ?_
  refine o_p (p_pure rfl) rfl ?_
  refine o_p (p_slice _ _ i n rfl rfl sl_41 ⟨_, _, rfl, rfl⟩ rfl (by omega) (by omega)) rfl ?_
  refine o_nil ?_
  refine s_seq ?_
  refine s_region ?_
  refine o_p (p_pure rfl) rfl ?_
  first | refine o_p (p_len_slice rfl rfl Try.underlying41) rfl ?_ | refine o_q (q_len_own rfl rfl Try.underlying41 (by repeat (first | exact .here | apply Pick.there))) rfl ?_
  refine o_p (p_pure rfl) rfl ?_
  refine o_nil ?_
  refine s_seq ?_
  refine s_seq ?_
  refine s_region ?_
  refine o_p (p_pure rfl) rfl ?_
  refine o_p (p_pure rfl) rfl ?_
  refine o_nil ?_
  refine s_cond rfl (fun h1 => ?_) (fun h1 => ?_)
  · try simp only [decide_eq_true_eq, decide_eq_false_iff_not, Bool.not_eq_true', Bool.not_eq_false', Bool.and_eq_true, Bool.or_eq_true, Bool.and_eq_false_iff, Bool.or_eq_false_iff, Bool.not_true, Bool.not_false] at h1
    exfalso; first | omega | (simp at h1; done) | (simp_all; done)
  · try simp only [decide_eq_true_eq, decide_eq_false_iff_not, Bool.not_eq_true', Bool.not_eq_false', Bool.and_eq_true, Bool.or_eq_true, Bool.and_eq_false_iff, Bool.or_eq_false_iff, Bool.not_true, Bool.not_false] at h1
    refine s_skip ?_
    refine s_seq ?_
    refine s_region ?_
    refine o_p (p_pure rfl) rfl ?_
    first | refine o_p (p_len_slice rfl rfl Try.underlying41) rfl ?_ | refine o_q (q_len_own rfl rfl Try.underlying41 (by repeat (first | exact .here | apply Pick.there))) rfl ?_
    refine o_p (p_pure rfl) rfl ?_
    refine o_nil ?_
    refine s_seq ?_
    refine s_seq ?_
    refine s_region ?_
    refine o_p (p_pure rfl) rfl ?_
    refine o_p (p_pure rfl) rfl ?_
    refine o_p (p_pure rfl) rfl ?_
    refine o_nil ?_
    refine s_cond rfl (fun h2 => ?_) (fun h2 => ?_)
    · try simp only [decide_eq_true_eq, decide_eq_false_iff_not, Bool.not_eq_true', Bool.not_eq_false', Bool.and_eq_true, Bool.or_eq_true, Bool.and_eq_false_iff, Bool.or_eq_false_iff, Bool.not_true, Bool.not_false] at h2
      exfalso; first | omega | (simp at h2; done) | (simp_all; done)
    · try simp only [decide_eq_true_eq, decide_eq_false_iff_not, Bool.not_eq_true', Bool.not_eq_false', Bool.and_eq_true, Bool.or_eq_true, Bool.and_eq_false_iff, Bool.or_eq_false_iff, Bool.not_true, Bool.not_false] at h2
      refine s_skip ?_
      refine s_seq ?_
      refine s_seq ?_
      refine s_region ?_
      refine o_p (p_pure rfl) rfl ?_
      refine o_p (p_pure rfl) rfl ?_
      refine o_p (p_pure rfl) rfl ?_
      try (refine o_slot (i64w (by omega) (by omega)) ?_)
      refine o_p (p_pure rfl) rfl ?_
      refine o_p (p_cap rfl rfl Try.underlying41) rfl ?_
      refine o_p (p_pure rfl) rfl ?_
      refine o_nil ?_
      refine s_cond rfl (fun h3 => ?_) (fun h3 => ?_)
      · try simp only [decide_eq_true_eq, decide_eq_false_iff_not, Bool.not_eq_true', Bool.not_eq_false', Bool.and_eq_true, Bool.or_eq_true, Bool.and_eq_false_iff, Bool.or_eq_false_iff, Bool.not_true, Bool.not_false] at h3
        refine s_seq ?_
        refine s_region ?_
        refine o_p (p_pure rfl) rfl ?_
        refine o_p (p_pure rfl) rfl ?_
        refine o_p (p_slice _ _ 0 i rfl rfl sl_41 rfl ⟨_, _, rfl, rfl⟩ (by omega) (by omega)) rfl ?_
        refine o_slot (show _ = Value.slice (some ⟨gg, 0, none⟩) (i) (cap) from by rw [subA_zero] <;> (congr 1 <;> omega)) ?_
        refine o_p (p_pure rfl) rfl ?_
        refine o_p (p_pure rfl) rfl ?_
        refine o_p (p_pure rfl) rfl ?_
        try (refine o_slot (i64w (by omega) (by omega)) ?_)
        refine o_p (p_pure rfl) rfl ?_
        refine o_p (p_pure rfl) rfl ?_
        try (refine o_slot (i64w (by omega) (by omega)) ?_)
        refine o_slot (show _ = Value.int .i64 ((n + m - i : Nat) : Int) from by first | rfl | (congr 1 <;> first | rfl | omega)) ?_
        refine o_h (h_append_zeros (m := n + m - i) (olds := cut xs 0 (i * 2)) rfl rfl rfl sl_41 ki_3 zr_96 rfl (by decide) (by omega) (by omega) (src_cut 0 (i * 2) (fun _ => rfl) (by repeat (first | exact .here | apply Pick.there))) hcl (by omega) (by simp only [maxLen]; omega)) rfl (fun ⟨b4, c5⟩ ⟨h6, k7⟩ => ?_)
        refine o_slot (show _ = Value.slice (some ⟨b4, 0, none⟩) (n + m) c5 from by first | rfl | (congr 1 <;> first | rfl | omega)) ?_
        refine o_p (p_pure rfl) rfl ?_
        refine o_nil ?_
        refine s_seq ?_
        refine s_region ?_
        refine o_p (p_pure rfl) rfl ?_
        refine o_p (p_pure rfl) rfl ?_
        refine o_p (p_slice _ _ i (n + m) rfl rfl sl_41 ⟨_, _, rfl, rfl⟩ rfl (by omega) (by omega)) rfl ?_
        refine o_slot (show _ = Value.slice (some ⟨b4, i * 2, none⟩) (n + m - i) (c5 - i) from by rw [subA_lt (by omega)] <;> (congr 1 <;> omega)) ?_
        refine o_p (p_pure rfl) rfl ?_
        refine o_h (h_copy m news rfl rfl rfl sl_41 (by repeat (first | exact .here | apply Put.there)) (by omega) hl (fun _ => rfl) (by simp only [zrow_length, List.length_append, setMany_length]; omega) (src_blk (by repeat (first | exact .here | apply Pick.there))) hn1) rfl (fun _ _ => ?_)
        refine o_nil ?_
        refine s_seq ?_
        refine s_draw [8] mixed ?_
        refine d_p 0 rfl (p_pure rfl) (by kernel_rfl) rfl rfl ?_
        refine d_p 1 rfl (p_pure rfl) (by kernel_rfl) rfl rfl ?_
        refine d_p 2 rfl (p_pure rfl) (by kernel_rfl) rfl rfl ?_
        refine d_p 3 rfl (p_pure rfl) (by kernel_rfl) rfl rfl ?_
        try (refine d_slot (i64w (by omega) (by omega)) ?_)
        refine d_p 4 rfl (p_slice _ _ (i + m) (n + m) rfl rfl sl_41 ⟨_, _, rfl, (by omega)⟩ rfl (by omega) (by omega)) (by kernel_rfl) rfl rfl ?_
        refine d_slot (show _ = Value.slice (some ⟨b4, (i + m) * 2, none⟩) (n - i) (c5 - (i + m)) from by rw [subA_lt (by omega)] <;> (congr 1 <;> omega)) ?_
        refine d_p 5 rfl (p_pure rfl) (by kernel_rfl) rfl rfl ?_
        refine d_p 6 rfl (p_pure rfl) (by kernel_rfl) rfl rfl ?_
        refine d_p 7 rfl (p_slice _ _ i n rfl rfl sl_41 ⟨_, _, rfl, rfl⟩ rfl (by omega) (by omega)) (by kernel_rfl) rfl rfl ?_
        refine d_slot (show _ = Value.slice (some ⟨gg, i * 2, none⟩) (n - i) (cap - i) from by rw [subA_lt (by omega)] <;> (congr 1 <;> omega)) ?_
        refine d_h 8 rfl (h_copy (n - i) (cut xs (i * 2) ((n - i) * 2)) rfl rfl rfl sl_41 (by repeat (first | exact .here | apply Put.there)) (by omega) (cut_length _ _ _ (by omega)) (fun _ => rfl) (by rw [cut_length _ _ _ (by omega)]; simp only [zrow_length, List.length_append, setMany_length]; omega) (src_cut (i * 2) ((n - i) * 2) (fun _ => rfl) (by repeat (first | exact .here | apply Pick.there))) (cut_one hx1 _ _)) (by kernel_rfl) (fun w h => h.ent (by repeat (first | exact .nil | refine .cons (by repeat (first | exact .here | apply Pick.there)) ?_))) rfl (fun _ _ => ?_)
        refine d_turn [] (by kernel_rfl) ?_
        refine d_nil (by kernel_rfl) (fun w h => h.ent (by repeat (first | exact .nil | refine .cons (by repeat (first | exact .here | apply Pick.there)) ?_))) ?_
        refine s_seq ?_
        refine s_region ?_
        refine o_p (p_pure rfl) rfl ?_
        refine o_p (p_pure rfl) rfl ?_
        refine o_nil ?_
        exact s_retv (rs := [.tmp 6]) rfl (.tmp rfl (.nil)) (fun w' h' => ⟨(some ⟨b4, 0, none⟩, c5), rfl, trivial, (HS.to_own (n := n + m) (xs := xs.take (i * 2) ++ news ++ xs.drop (i * 2)) (ds := []) (by repeat (first | exact .here | apply Pick.there)) h' (by have hq := ins_grow (xs := xs) (news := news) (z := zrow [.int .i64 0, .string (bs [])] ((n + m - i) * 2)) (p := i * 2) (q := m * 2) (N := n * 2) hxl (by omega) hl (by rw [zrow_length]; omega); rw [List.append_nil]; rw [show (i + m) * 2 = i * 2 + m * 2 from by omega, show (n - i) * 2 = n * 2 - i * 2 from by omega]; exact hq) (by simp only [List.length_append, List.length_take, List.length_drop]; omega) (by omega) (by omega)).ent (by repeat (first | exact .nil | refine .cons (by repeat (first | exact .here | apply Pick.there)) ?_))⟩)
      · try simp only [decide_eq_true_eq, decide_eq_false_iff_not, Bool.not_eq_true', Bool.not_eq_false', Bool.and_eq_true, Bool.or_eq_true, Bool.and_eq_false_iff, Bool.or_eq_false_iff, Bool.not_true, Bool.not_false] at h3
        refine s_skip ?_
        refine s_seq ?_
        refine s_region ?_
        refine o_p (p_pure rfl) rfl ?_
        refine o_p (p_pure rfl) rfl ?_
        refine o_p (p_pure rfl) rfl ?_
        refine o_p (p_pure rfl) rfl ?_
        try (refine o_slot (i64w (by omega) (by omega)) ?_)
        refine o_p (p_slice _ _ 0 (n + m) rfl rfl sl_41 rfl ⟨_, _, rfl, (by omega)⟩ (by omega) (by omega)) rfl ?_
        refine o_slot (show _ = Value.slice (some ⟨gg, 0, none⟩) (n + m) cap from by rw [subA_zero] <;> (congr 1 <;> omega)) ?_
        refine o_ex (fun w h => HS.blk_full (b := gg) (by repeat (first | exact .here | apply Pick.there)) h) fun ds => ?_
        refine o_fact (fun w h => h.1) fun hds => ?_
        refine o_class (fun w h => h.2) ?_
        refine o_p (p_pure rfl) rfl ?_
        refine o_nil ?_
        refine s_seq ?_
        refine s_seq ?_
        refine s_region ?_
        refine o_p (p_pure rfl) rfl ?_
        refine o_p (p_pure rfl) rfl ?_
        refine o_p (p_pure rfl) rfl ?_
        refine o_p (p_pure rfl) rfl ?_
        refine o_p (p_pure rfl) rfl ?_
        try (refine o_slot (i64w (by omega) (by omega)) ?_)
        refine o_p (p_slice _ _ (i + m) (n + m) rfl rfl sl_41 ⟨_, _, rfl, (by omega)⟩ rfl (by omega) (by omega)) rfl ?_
        refine o_slot (show _ = Value.slice (some ⟨gg, (i + m) * 2, none⟩) (n - i) (cap - (i + m)) from by rw [subA_lt (by omega)] <;> (congr 1 <;> omega)) ?_
        refine o_q (q_overlaps rfl ov_114 rfl rfl sl_41 (hp := (by repeat (first | exact .here | apply Pick.there))) (hp' := (by repeat (first | exact .here | apply Pick.there))) (by decide) (by omega) (by omega)) rfl ?_
        refine o_p (p_pure rfl) rfl ?_
        refine o_nil ?_
        refine s_cond rfl (fun h8 => ?_) (fun h8 => ?_)
        · try simp only [decide_eq_true_eq, decide_eq_false_iff_not, Bool.not_eq_true', Bool.not_eq_false', Bool.and_eq_true, Bool.or_eq_true, Bool.and_eq_false_iff, Bool.or_eq_false_iff, Bool.not_true, Bool.not_false] at h8
          refine s_seq ?_
          refine s_draw [8] mixed ?_
          refine d_p 0 rfl (p_pure rfl) (by kernel_rfl) rfl rfl ?_
          refine d_p 1 rfl (p_pure rfl) (by kernel_rfl) rfl rfl ?_
          refine d_p 2 rfl (p_pure rfl) (by kernel_rfl) rfl rfl ?_
          refine d_p 3 rfl (p_pure rfl) (by kernel_rfl) rfl rfl ?_
          try (refine d_slot (i64w (by omega) (by omega)) ?_)
          refine d_p 4 rfl (p_slice _ _ (i + m) (n + m) rfl rfl sl_41 ⟨_, _, rfl, (by omega)⟩ rfl (by omega) (by omega)) (by kernel_rfl) rfl rfl ?_
          refine d_slot (show _ = Value.slice (some ⟨gg, (i + m) * 2, none⟩) (n - i) (cap - (i + m)) from by rw [subA_lt (by omega)] <;> (congr 1 <;> omega)) ?_
          refine d_p 5 rfl (p_pure rfl) (by kernel_rfl) rfl rfl ?_
          refine d_p 6 rfl (p_pure rfl) (by kernel_rfl) rfl rfl ?_
          refine d_p 7 rfl (p_slice _ _ i (n + m) rfl rfl sl_41 ⟨_, _, rfl, rfl⟩ rfl (by omega) (by omega)) (by kernel_rfl) rfl rfl ?_
          refine d_slot (show _ = Value.slice (some ⟨gg, i * 2, none⟩) (n + m - i) (cap - i) from by rw [subA_lt (by omega)] <;> (congr 1 <;> omega)) ?_
          refine d_h 8 rfl (h_copy (n - i) (cut (xs ++ ds) (i * 2) ((n - i) * 2)) rfl rfl rfl sl_41 (by repeat (first | exact .here | apply Put.there)) (by omega) (cut_length _ _ _ (by simp only [zrow_length, List.length_append, setMany_length]; omega)) (fun _ => rfl) (by rw [cut_length _ _ _ (by simp only [zrow_length, List.length_append, setMany_length]; omega)]; simp only [zrow_length, List.length_append, setMany_length]; omega) (src_cut (i * 2) ((n - i) * 2) (fun _ => rfl) (by repeat (first | exact .here | apply Pick.there))) (ins_one hx1 (by omega))) (by kernel_rfl) (fun w h => h.ent (by repeat (first | exact .nil | refine .cons (by repeat (first | exact .here | apply Pick.there)) ?_))) rfl (fun _ _ => ?_)
          refine d_turn [] (by kernel_rfl) ?_
          refine d_nil (by kernel_rfl) (fun w h => h.ent (by repeat (first | exact .nil | refine .cons (by repeat (first | exact .here | apply Pick.there)) ?_))) ?_
          refine s_seq ?_
          refine s_region ?_
          refine o_p (p_pure rfl) rfl ?_
          refine o_p (p_pure rfl) rfl ?_
          refine o_p (p_slice _ _ i (n + m) rfl rfl sl_41 ⟨_, _, rfl, rfl⟩ rfl (by omega) (by omega)) rfl ?_
          refine o_slot (show _ = Value.slice (some ⟨gg, i * 2, none⟩) (n + m - i) (cap - i) from by rw [subA_lt (by omega)] <;> (congr 1 <;> omega)) ?_
          refine o_p (p_pure rfl) rfl ?_
          refine o_h (h_copy m news rfl rfl rfl sl_41 (by repeat (first | exact .here | apply Put.there)) (by omega) hl (fun _ => rfl) (by simp only [zrow_length, List.length_append, setMany_length]; omega) (src_blk (by repeat (first | exact .here | apply Pick.there))) hn1) rfl (fun _ _ => ?_)
          refine o_nil ?_
          refine s_seq ?_
          refine s_region ?_
          refine o_p (p_pure rfl) rfl ?_
          refine o_p (p_pure rfl) rfl ?_
          refine o_nil ?_
          exact s_retv (rs := [.tmp 6]) rfl (.tmp rfl (.nil)) (fun w' h' => ⟨(some ⟨gg, 0, none⟩, cap), rfl, trivial, (HS.to_own (n := n + m) (xs := xs.take (i * 2) ++ news ++ xs.drop (i * 2)) (ds := ds.drop (m * 2)) (by repeat (first | exact .here | apply Pick.there)) h' (by have hq := ins_in (xs := xs) (ds := ds) (news := news) (p := i * 2) (q := m * 2) (N := n * 2) hxl (by omega) hl (by omega); rw [show (i + m) * 2 = i * 2 + m * 2 from by omega, show (n - i) * 2 = n * 2 - i * 2 from by omega]; exact hq) (by simp only [List.length_append, List.length_take, List.length_drop]; omega) (by omega) (by omega)).ent (by repeat (first | exact .nil | refine .cons (by repeat (first | exact .here | apply Pick.there)) ?_))⟩)
        · try simp only [decide_eq_true_eq, decide_eq_false_iff_not, Bool.not_eq_true', Bool.not_eq_false', Bool.and_eq_true, Bool.or_eq_true, Bool.and_eq_false_iff, Bool.or_eq_false_iff, Bool.not_true, Bool.not_false] at h8
          exfalso; first | omega | (simp at h8; done) | (simp_all; done)

theorem c96 (w : World) (a : Option Addr) (i n m cap : Nat) (xs news : List Value) (b0 c0 tot2 : Nat) (hw : HS w (fps [.own (.slice a n cap) 96 2 n xs, .blk b0 96 tot2 news]) [.own (.slice a n cap) 96 2 n xs, .blk b0 96 tot2 news] w) (hm0 : 0 < m) (hl : news.length = m * 2) (hn1 : ∀ u ∈ news, u.oneCell' = true) (hx1 : ∀ u ∈ xs, u.oneCell' = true) (hmax : (n + m) * 24 ≤ 140737488355328) (hi : i ≤ n) : Calls Try.prog 96 #[.slice a n cap, .int .i64 i, .slice (some ⟨b0, 0, none⟩) m c0] w fun en w' => ∃ g : Option Addr × Nat, en = .returned (.slice g.1 (n + m) g.2) ∧ True ∧ HS w (fps [.own (.slice a n cap) 96 2 n xs, .blk b0 96 tot2 news]) [.own (.slice g.1 (n + m) g.2) 96 2 (n + m) (xs.take (i * 2) ++ news ++ xs.drop (i * 2)), .blk b0 96 tot2 news] w' := by
  rcases Nat.lt_or_ge i n with h | h
  · obtain ⟨gg, rfl, _, hnc, hcm, hxl, hb⟩ := hw.own_blk (by omega) .here
    exact c96b w gg i n m cap xs news b0 c0 tot2 _ hb hnc hcm hxl hm0 hl hn1 hx1 hmax h
  · exact c96a w a i n m cap xs news b0 c0 tot2 hw hm0 hl hn1 hx1 hmax (by omega)

set_option maxRecDepth 20000 in
theorem c94b (w : World) (gg i j n cap : Nat) (xs : List Value) (M : List Nat) (hw : HS w M [.blk gg 96 (cap * 2) xs] w) (hnc : n ≤ cap) (hcm : cap ≤ maxLen) (hxl : xs.length = n * 2) (hx1 : ∀ u ∈ xs, u.oneCell' = true) (hmx : n ≤ 9223372036854775807) (hij : i < j) (hjn : j ≤ n) : Calls Try.prog 94 #[.slice (some ⟨gg, 0, none⟩) n cap, .int .i64 i, .int .i64 j] w fun en w' => en = .returned (.slice (some ⟨gg, 0, none⟩) (n - (j - i)) cap) ∧ HS w M [.own (.slice (some ⟨gg, 0, none⟩) (n - (j - i)) cap) 96 2 (n - (j - i)) (xs.take (i * 2) ++ xs.drop (j * 2))] w' := by
  refine enter (args := [_, _, _]) Try.func94 Try.ntmps94 rfl rfl hw ?_
  refine s_seq ?_
  refine s_region ?_
  refine o_p (p_pure rfl) rfl ?_
  refine o_nil ?_
  refine s_seq ?_
  refine s_region ?_
  refine o_p (p_pure rfl) rfl ?_
  refine o_p (p_pure rfl) rfl ?_
  refine o_p (p_pure rfl) rfl ?_
  refine o_p (p_pure rfl) rfl ?_
  first | refine o_p (p_len_slice rfl rfl Try.underlying41) rfl ?_ | refine o_q (q_len_own rfl rfl Try.underlying41 (by repeat (first | exact .here | apply Pick.there))) rfl ?_
  refine o_p (p_slice3 i j n rfl rfl rfl rfl rfl sl_41 rfl rfl rfl (by omega) (by omega) (by omega)) rfl ?_
  refine o_nil ?_
  refine s_seq ?_
  refine s_seq ?_
  refine s_region ?_
  refine o_p (p_pure rfl) rfl ?_
  refine o_p (p_pure rfl) rfl ?_
  refine o_p (p_pure rfl) rfl ?_
  refine o_nil ?_
  refine s_cond rfl (fun h1 => ?_) (fun h1 => ?_)
  · try simp only [decide_eq_true_eq, decide_eq_false_iff_not, Bool.not_eq_true', Bool.not_eq_false', Bool.and_eq_true, Bool.or_eq_true, Bool.and_eq_false_iff, Bool.or_eq_false_iff, Bool.not_true, Bool.not_false] at h1
    exfalso; first | omega | (simp at h1; done) | (simp_all; done)
  · try simp only [decide_eq_true_eq, decide_eq_false_iff_not, Bool.not_eq_true', Bool.not_eq_false', Bool.and_eq_true, Bool.or_eq_true, Bool.and_eq_false_iff, Bool.or_eq_false_iff, Bool.not_true, Bool.not_false] at h1
    refine s_skip ?_
    refine s_seq ?_
    refine s_region ?_
    refine o_p (p_pure rfl) rfl ?_
    first | refine o_p (p_len_slice rfl rfl Try.underlying41) rfl ?_ | refine o_q (q_len_own rfl rfl Try.underlying41 (by repeat (first | exact .here | apply Pick.there))) rfl ?_
    refine o_p (p_pure rfl) rfl ?_
    refine o_nil ?_
    refine s_seq ?_
    refine s_draw [6] mixed ?_
    refine d_p 0 rfl (p_pure rfl) (by kernel_rfl) rfl rfl ?_
    refine d_p 1 rfl (p_pure rfl) (by kernel_rfl) rfl rfl ?_
    refine d_p 2 rfl (p_slice _ _ 0 i rfl rfl sl_41 rfl ⟨_, _, rfl, rfl⟩ (by omega) (by omega)) (by kernel_rfl) rfl rfl ?_
    refine d_slot (show _ = Value.slice (some ⟨gg, 0, none⟩) i cap from by rw [subA_zero] <;> (congr 1 <;> omega)) ?_
    refine d_p 3 rfl (p_pure rfl) (by kernel_rfl) rfl rfl ?_
    refine d_p 4 rfl (p_pure rfl) (by kernel_rfl) rfl rfl ?_
    refine d_p 5 rfl (p_slice _ _ j n rfl rfl sl_41 ⟨_, _, rfl, rfl⟩ rfl (by omega) (by omega)) (by kernel_rfl) rfl rfl ?_
    refine d_h 6 rfl (h_append_in (cut xs (j * 2) ((n - j) * 2)) rfl rfl rfl sl_41 Try.underlying41 (by repeat (first | exact .here | apply Put.there)) (by omega) (src_cut (j * 2) ((n - j) * 2) (fun hk => subA_lt (by omega)) (by repeat (first | exact .here | apply Pick.there))) (cut_length _ _ _ (by omega)) (by rw [cut_length _ _ _ (by omega)]; omega) (cut_one hx1 _ _)) (by kernel_rfl) (fun w h => h.ent (by repeat (first | exact .nil | refine .cons (by repeat (first | exact .here | apply Pick.there)) ?_))) rfl (fun _ _ => ?_)
    refine d_turn [] (by kernel_rfl) ?_
    refine d_slot (show _ = Value.slice (some ⟨gg, 0, none⟩) (n - (j - i)) cap from by first | rfl | (congr 1 <;> first | rfl | omega)) ?_
    refine d_p 7 rfl (p_pure rfl) (by kernel_rfl) rfl rfl ?_
    refine d_nil (by kernel_rfl) (fun w h => h.ent (by repeat (first | exact .nil | refine .cons (by repeat (first | exact .here | apply Pick.there)) ?_))) ?_
    refine s_seq ?_
    refine s_region ?_
    refine o_p (p_pure rfl) rfl ?_
    refine o_p (p_pure rfl) rfl ?_
    first | refine o_p (p_len_slice rfl rfl Try.underlying41) rfl ?_ | refine o_q (q_len_own rfl rfl Try.underlying41 (by repeat (first | exact .here | apply Pick.there))) rfl ?_
    refine o_p (p_pure rfl) rfl ?_
    refine o_p (p_slice _ _ (n - (j - i)) n rfl rfl sl_41 ⟨_, _, rfl, (by omega)⟩ ⟨_, _, rfl, rfl⟩ (by omega) (by omega)) rfl ?_
    refine o_slot (show _ = Value.slice (some ⟨gg, (n - (j - i)) * 2, none⟩) (j - i) (cap - (n - (j - i))) from by rw [subA_lt (by omega)] <;> (congr 1 <;> omega)) ?_
    refine o_h0 (h_clear rfl rfl sl_41 zr_96 rfl rfl (by simp) (by repeat (first | exact .here | apply Put.there)) (fun _ => rfl) (by simp only [setMany_length]; omega)) (fun _ _ => ?_)
    refine o_nil ?_
    refine s_seq ?_
    refine s_region ?_
    refine o_p (p_pure rfl) rfl ?_
    refine o_p (p_pure rfl) rfl ?_
    refine o_nil ?_
    exact s_retv (rs := [.tmp 6]) rfl (.tmp rfl (.nil)) (fun w' h' => ⟨rfl, (HS.to_own (n := n - (j - i)) (xs := xs.take (i * 2) ++ xs.drop (j * 2)) (ds := zrow [.int .i64 0, .string (bs [])] ((j - i) * 2)) (by repeat (first | exact .here | apply Pick.there)) h' (by have hq := del_in (xs := xs) (zs := zrow [.int .i64 0, .string (bs [])] ((j - i) * 2)) (p := i * 2) (q := j * 2) (N := n * 2) hxl (by omega) (by omega) (by rw [zrow_length]; omega); rw [show (n - j) * 2 = n * 2 - j * 2 from by omega, show (n - (j - i)) * 2 = n * 2 - (j * 2 - i * 2) from by omega]; exact hq) (by simp only [List.length_append, List.length_take, List.length_drop]; omega) (by omega) (by omega)).ent (by repeat (first | exact .nil | refine .cons (by repeat (first | exact .here | apply Pick.there)) ?_))⟩)

theorem c94 (w : World) (a : Option Addr) (i j n cap : Nat) (xs : List Value) (hw : HS w (fps [.own (.slice a n cap) 96 2 n xs]) [.own (.slice a n cap) 96 2 n xs] w) (hx1 : ∀ u ∈ xs, u.oneCell' = true) (hmx : n ≤ 9223372036854775807) (hij : i < j) (hjn : j ≤ n) : Calls Try.prog 94 #[.slice a n cap, .int .i64 i, .int .i64 j] w fun en w' => ∃ g : Unit, en = .returned (.slice a (n - (j - i)) cap) ∧ True ∧ HS w (fps [.own (.slice a n cap) 96 2 n xs]) [.own (.slice a (n - (j - i)) cap) 96 2 (n - (j - i)) (xs.take (i * 2) ++ xs.drop (j * 2))] w' := by
  obtain ⟨gg, rfl, _, hnc, hcm, hxl, hb⟩ := hw.own_blk (by omega) .here
  exact (c94b w gg i j n cap xs _ hb hnc hcm hxl hx1 hmx hij hjn).mono fun en w' h => ⟨(), h.1, trivial, h.2⟩

end Go.Proofs
