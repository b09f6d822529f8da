/- Contracts of the program's functions, proved by walking them with the rules of the Gx texts; without conditions beyond those that each contract names. -/
import Derived.Test.YtgdigngojonbhaaC25H
namespace Go.Proofs
open Go Go.RowKit Gx
set_option linter.unusedVariables false
set_option linter.unusedSimpArgs false
attribute [local irreducible] Go.Calls Gx.S Gx.O Gx.D Gx.OpP Gx.OpQ Gx.OpH

theorem ov_127 : isOv Try.prog 127 24 4 := ⟨_, Try.func127, rfl, rfl, by kernel_rfl, by kernel_rfl⟩
theorem fn_107 : isFn Try.prog 107 = true := by kernel_rfl
theorem fn_108 : isFn Try.prog 108 = true := by kernel_rfl


set_option maxRecDepth 20000 in
theorem c107b (w : World) (gg i j n cap : Nat) (xs : List Value) (M : List Nat) (hw : HS w M [.blk gg 62 (cap * 3) xs] w) (hnc : n ≤ cap) (hcm : cap ≤ maxLen) (hxl : xs.length = n * 3) (hx1 : ∀ u ∈ xs, u.oneCell' = true) (hmx : n ≤ 9223372036854775807) (hij : i < j) (hjn : j ≤ n) : Calls Try.prog 107 #[.slice (some ⟨gg, 0, none⟩) n cap, .int .i64 i, .int .i64 j] w fun en w' => en = .returned (.slice (some ⟨gg, 0, none⟩) (n - (j - i)) cap) ∧ HS w M [.own (.slice (some ⟨gg, 0, none⟩) (n - (j - i)) cap) 62 3 (n - (j - i)) (xs.take (i * 3) ++ xs.drop (j * 3))] w' := by
  refine enter (args := [_, _, _]) Try.func107 Try.ntmps107 rfl rfl hw ?_
  refine s_seq ?_
  refine s_region ?_
  refine o_p (p_pure rfl) rfl ?_
  refine o_nil ?_
  refine s_seq ?_
  refine s_region ?_
  refine o_p (p_pure rfl) rfl ?_
  refine o_p (p_pure rfl) rfl ?_
  refine o_p (p_pure rfl) rfl ?_
  refine o_p (p_pure rfl) rfl ?_
  first | refine o_p (p_len_slice rfl rfl Try.underlying46) rfl ?_ | refine o_q (q_len_own rfl rfl Try.underlying46 (by repeat (first | exact .here | apply Pick.there))) rfl ?_
  refine o_p (p_slice3 i j n rfl rfl rfl rfl rfl sl_46 rfl rfl rfl (by omega) (by omega) (by omega)) rfl ?_
  refine o_nil ?_
  refine s_seq ?_
  refine s_seq ?_
  refine s_region ?_
  refine o_p (p_pure rfl) rfl ?_
  refine o_p (p_pure rfl) rfl ?_
  refine o_p (p_pure rfl) rfl ?_
  refine o_nil ?_
  refine s_cond rfl (fun h1 => ?_) (fun h1 => ?_)
  · try simp only [decide_eq_true_eq, decide_eq_false_iff_not, Bool.not_eq_true', Bool.not_eq_false', Bool.and_eq_true, Bool.or_eq_true, Bool.and_eq_false_iff, Bool.or_eq_false_iff, Bool.not_true, Bool.not_false] at h1
    exfalso; first | omega | (simp at h1; done) | (simp_all; done)
  · try simp only [decide_eq_true_eq, decide_eq_false_iff_not, Bool.not_eq_true', Bool.not_eq_false', Bool.and_eq_true, Bool.or_eq_true, Bool.and_eq_false_iff, Bool.or_eq_false_iff, Bool.not_true, Bool.not_false] at h1
    refine s_skip ?_
    refine s_seq ?_
    refine s_region ?_
    refine o_p (p_pure rfl) rfl ?_
    first | refine o_p (p_len_slice rfl rfl Try.underlying46) rfl ?_ | refine o_q (q_len_own rfl rfl Try.underlying46 (by repeat (first | exact .here | apply Pick.there))) rfl ?_
    refine o_p (p_pure rfl) rfl ?_
    refine o_nil ?_
    refine s_seq ?_
    refine s_draw [6] mixed ?_
    refine d_p 0 rfl (p_pure rfl) (by kernel_rfl) rfl rfl ?_
    refine d_p 1 rfl (p_pure rfl) (by kernel_rfl) rfl rfl ?_
    refine d_p 2 rfl (p_slice _ _ 0 i rfl rfl sl_46 rfl ⟨_, _, rfl, rfl⟩ (by omega) (by omega)) (by kernel_rfl) rfl rfl ?_
    refine d_slot (show _ = Value.slice (some ⟨gg, 0, none⟩) i cap from by rw [subA_zero] <;> (congr 1 <;> omega)) ?_
    refine d_p 3 rfl (p_pure rfl) (by kernel_rfl) rfl rfl ?_
    refine d_p 4 rfl (p_pure rfl) (by kernel_rfl) rfl rfl ?_
    refine d_p 5 rfl (p_slice _ _ j n rfl rfl sl_46 ⟨_, _, rfl, rfl⟩ rfl (by omega) (by omega)) (by kernel_rfl) rfl rfl ?_
    refine d_h 6 rfl (h_append_in (cut xs (j * 3) ((n - j) * 3)) rfl rfl rfl sl_46 Try.underlying46 (by repeat (first | exact .here | apply Put.there)) (by omega) (src_cut (j * 3) ((n - j) * 3) (fun hk => subA_lt (by omega)) (by repeat (first | exact .here | apply Pick.there))) (cut_length _ _ _ (by omega)) (by rw [cut_length _ _ _ (by omega)]; omega) (cut_one hx1 _ _)) (by kernel_rfl) (fun w h => h.ent (by repeat (first | exact .nil | refine .cons (by repeat (first | exact .here | apply Pick.there)) ?_))) rfl (fun _ _ => ?_)
    refine d_turn [] (by kernel_rfl) ?_
    refine d_slot (show _ = Value.slice (some ⟨gg, 0, none⟩) (n - (j - i)) cap from by first | rfl | (congr 1 <;> first | rfl | omega)) ?_
    refine d_p 7 rfl (p_pure rfl) (by kernel_rfl) rfl rfl ?_
    refine d_nil (by kernel_rfl) (fun w h => h.ent (by repeat (first | exact .nil | refine .cons (by repeat (first | exact .here | apply Pick.there)) ?_))) ?_
    refine s_seq ?_
    refine s_region ?_
    refine o_p (p_pure rfl) rfl ?_
    refine o_p (p_pure rfl) rfl ?_
    first | refine o_p (p_len_slice rfl rfl Try.underlying46) rfl ?_ | refine o_q (q_len_own rfl rfl Try.underlying46 (by repeat (first | exact .here | apply Pick.there))) rfl ?_
    refine o_p (p_pure rfl) rfl ?_
    refine o_p (p_slice _ _ (n - (j - i)) n rfl rfl sl_46 ⟨_, _, rfl, (by omega)⟩ ⟨_, _, rfl, rfl⟩ (by omega) (by omega)) rfl ?_
    refine o_slot (show _ = Value.slice (some ⟨gg, (n - (j - i)) * 3, none⟩) (j - i) (cap - (n - (j - i))) from by rw [subA_lt (by omega)] <;> (congr 1 <;> omega)) ?_
    refine o_h0 (h_clear rfl rfl sl_46 zr_62 rfl rfl (by simp) (by repeat (first | exact .here | apply Put.there)) (fun _ => rfl) (by simp only [setMany_length]; omega)) (fun _ _ => ?_)
    refine o_nil ?_
    refine s_seq ?_
    refine s_region ?_
    refine o_p (p_pure rfl) rfl ?_
    refine o_p (p_pure rfl) rfl ?_
    refine o_nil ?_
    exact s_retv (rs := [.tmp 6]) rfl (.tmp rfl (.nil)) (fun w' h' => ⟨rfl, (HS.to_own (n := n - (j - i)) (xs := xs.take (i * 3) ++ xs.drop (j * 3)) (ds := zrow [.int .i64 0, .int .i64 0, .bool false] ((j - i) * 3)) (by repeat (first | exact .here | apply Pick.there)) h' (by have hq := del_in (xs := xs) (zs := zrow [.int .i64 0, .int .i64 0, .bool false] ((j - i) * 3)) (p := i * 3) (q := j * 3) (N := n * 3) hxl (by omega) (by omega) (by rw [zrow_length]; omega); rw [show (n - j) * 3 = n * 3 - j * 3 from by omega, show (n - (j - i)) * 3 = n * 3 - (j * 3 - i * 3) from by omega]; exact hq) (by simp only [List.length_append, List.length_take, List.length_drop]; omega) (by omega) (by omega)).ent (by repeat (first | exact .nil | refine .cons (by repeat (first | exact .here | apply Pick.there)) ?_))⟩)

theorem c107 (w : World) (a : Option Addr) (i j n cap : Nat) (xs : List Value) (hw : HS w (fps [.own (.slice a n cap) 62 3 n xs]) [.own (.slice a n cap) 62 3 n xs] w) (hx1 : ∀ u ∈ xs, u.oneCell' = true) (hmx : n ≤ 9223372036854775807) (hij : i < j) (hjn : j ≤ n) : Calls Try.prog 107 #[.slice a n cap, .int .i64 i, .int .i64 j] w fun en w' => ∃ g : Unit, en = .returned (.slice a (n - (j - i)) cap) ∧ True ∧ HS w (fps [.own (.slice a n cap) 62 3 n xs]) [.own (.slice a (n - (j - i)) cap) 62 3 (n - (j - i)) (xs.take (i * 3) ++ xs.drop (j * 3))] w' := by
  obtain ⟨gg, rfl, _, hnc, hcm, hxl, hb⟩ := hw.own_blk (by omega) .here
  exact (c107b w gg i j n cap xs _ hb hnc hcm hxl hx1 hmx hij hjn).mono fun en w' h => ⟨(), h.1, trivial, h.2⟩

set_option maxRecDepth 20000 in
theorem c117b (w : World) (gg i j n cap : Nat) (xs : List Value) (M : List Nat) (hw : HS w M [.blk gg 48 (cap * 5) xs] w) (hnc : n ≤ cap) (hcm : cap ≤ maxLen) (hxl : xs.length = n * 5) (hx1 : ∀ u ∈ xs, u.oneCell' = true) (hmx : n ≤ 9223372036854775807) (hij : i < j) (hjn : j ≤ n) : Calls Try.prog 117 #[.slice (some ⟨gg, 0, none⟩) n cap, .int .i64 i, .int .i64 j] w fun en w' => en = .returned (.slice (some ⟨gg, 0, none⟩) (n - (j - i)) cap) ∧ HS w M [.own (.slice (some ⟨gg, 0, none⟩) (n - (j - i)) cap) 48 5 (n - (j - i)) (xs.take (i * 5) ++ xs.drop (j * 5))] w' := by
  refine enter (args := [_, _, _]) Try.func117 Try.ntmps117 rfl rfl hw ?_
  refine s_seq ?_
  refine s_region ?_
  refine o_p (p_pure rfl) rfl ?_
  refine o_nil ?_
  refine s_seq ?_
  refine s_region ?_
  refine o_p (p_pure rfl) rfl ?_
  refine o_p (p_pure rfl) rfl ?_
  refine o_p (p_pure rfl) rfl ?_
  refine o_p (p_pure rfl) rfl ?_
  first | refine o_p (p_len_slice rfl rfl Try.underlying75) rfl ?_ | refine o_q (q_len_own rfl rfl Try.underlying75 (by repeat (first | exact .here | apply Pick.there))) rfl ?_
  refine o_p (p_slice3 i j n rfl rfl rfl rfl rfl sl_75 rfl rfl rfl (by omega) (by omega) (by omega)) rfl ?_
  refine o_nil ?_
  refine s_seq ?_
  refine s_seq ?_
  refine s_region ?_
  refine o_p (p_pure rfl) rfl ?_
  refine o_p (p_pure rfl) rfl ?_
  refine o_p (p_pure rfl) rfl ?_
  refine o_nil ?_
  refine s_cond rfl (fun h1 => ?_) (fun h1 => ?_)
  · try simp only [decide_eq_true_eq, decide_eq_false_iff_not, Bool.not_eq_true', Bool.not_eq_false', Bool.and_eq_true, Bool.or_eq_true, Bool.and_eq_false_iff, Bool.or_eq_false_iff, Bool.not_true, Bool.not_false] at h1
    exfalso; first | omega | (simp at h1; done) | (simp_all; done)
  · try simp only [decide_eq_true_eq, decide_eq_false_iff_not, Bool.not_eq_true', Bool.not_eq_false', Bool.and_eq_true, Bool.or_eq_true, Bool.and_eq_false_iff, Bool.or_eq_false_iff, Bool.not_true, Bool.not_false] at h1
    refine s_skip ?_
    refine s_seq ?_
    refine s_region ?_
    refine o_p (p_pure rfl) rfl ?_
    first | refine o_p (p_len_slice rfl rfl Try.underlying75) rfl ?_ | refine o_q (q_len_own rfl rfl Try.underlying75 (by repeat (first | exact .here | apply Pick.there))) rfl ?_
    refine o_p (p_pure rfl) rfl ?_
    refine o_nil ?_
    refine s_seq ?_
    refine s_draw [6] mixed ?_
    refine d_p 0 rfl (p_pure rfl) (by kernel_rfl) rfl rfl ?_
    refine d_p 1 rfl (p_pure rfl) (by kernel_rfl) rfl rfl ?_
    refine d_p 2 rfl (p_slice _ _ 0 i rfl rfl sl_75 rfl ⟨_, _, rfl, rfl⟩ (by omega) (by omega)) (by kernel_rfl) rfl rfl ?_
    refine d_slot (show _ = Value.slice (some ⟨gg, 0, none⟩) i cap from by rw [subA_zero] <;> (congr 1 <;> omega)) ?_
    refine d_p 3 rfl (p_pure rfl) (by kernel_rfl) rfl rfl ?_
    refine d_p 4 rfl (p_pure rfl) (by kernel_rfl) rfl rfl ?_
    refine d_p 5 rfl (p_slice _ _ j n rfl rfl sl_75 ⟨_, _, rfl, rfl⟩ rfl (by omega) (by omega)) (by kernel_rfl) rfl rfl ?_
    refine d_h 6 rfl (h_append_in (cut xs (j * 5) ((n - j) * 5)) rfl rfl rfl sl_75 Try.underlying75 (by repeat (first | exact .here | apply Put.there)) (by omega) (src_cut (j * 5) ((n - j) * 5) (fun hk => subA_lt (by omega)) (by repeat (first | exact .here | apply Pick.there))) (cut_length _ _ _ (by omega)) (by rw [cut_length _ _ _ (by omega)]; omega) (cut_one hx1 _ _)) (by kernel_rfl) (fun w h => h.ent (by repeat (first | exact .nil | refine .cons (by repeat (first | exact .here | apply Pick.there)) ?_))) rfl (fun _ _ => ?_)
    refine d_turn [] (by kernel_rfl) ?_
    refine d_slot (show _ = Value.slice (some ⟨gg, 0, none⟩) (n - (j - i)) cap from by first | rfl | (congr 1 <;> first | rfl | omega)) ?_
    refine d_p 7 rfl (p_pure rfl) (by kernel_rfl) rfl rfl ?_
    refine d_nil (by kernel_rfl) (fun w h => h.ent (by repeat (first | exact .nil | refine .cons (by repeat (first | exact .here | apply Pick.there)) ?_))) ?_
    refine s_seq ?_
    refine s_region ?_
    refine o_p (p_pure rfl) rfl ?_
    refine o_p (p_pure rfl) rfl ?_
    first | refine o_p (p_len_slice rfl rfl Try.underlying75) rfl ?_ | refine o_q (q_len_own rfl rfl Try.underlying75 (by repeat (first | exact .here | apply Pick.there))) rfl ?_
    refine o_p (p_pure rfl) rfl ?_
    refine o_p (p_slice _ _ (n - (j - i)) n rfl rfl sl_75 ⟨_, _, rfl, (by omega)⟩ ⟨_, _, rfl, rfl⟩ (by omega) (by omega)) rfl ?_
    refine o_slot (show _ = Value.slice (some ⟨gg, (n - (j - i)) * 5, none⟩) (j - i) (cap - (n - (j - i))) from by rw [subA_lt (by omega)] <;> (congr 1 <;> omega)) ?_
    refine o_h0 (h_clear rfl rfl sl_75 zr_48 rfl rfl (by simp) (by repeat (first | exact .here | apply Put.there)) (fun _ => rfl) (by simp only [setMany_length]; omega)) (fun _ _ => ?_)
    refine o_nil ?_
    refine s_seq ?_
    refine s_region ?_
    refine o_p (p_pure rfl) rfl ?_
    refine o_p (p_pure rfl) rfl ?_
    refine o_nil ?_
    exact s_retv (rs := [.tmp 6]) rfl (.tmp rfl (.nil)) (fun w' h' => ⟨rfl, (HS.to_own (n := n - (j - i)) (xs := xs.take (i * 5) ++ xs.drop (j * 5)) (ds := zrow [.int .i64 0, .int .i64 0, .int .i64 0, .bool false, .slice none 0 0] ((j - i) * 5)) (by repeat (first | exact .here | apply Pick.there)) h' (by have hq := del_in (xs := xs) (zs := zrow [.int .i64 0, .int .i64 0, .int .i64 0, .bool false, .slice none 0 0] ((j - i) * 5)) (p := i * 5) (q := j * 5) (N := n * 5) hxl (by omega) (by omega) (by rw [zrow_length]; omega); rw [show (n - j) * 5 = n * 5 - j * 5 from by omega, show (n - (j - i)) * 5 = n * 5 - (j * 5 - i * 5) from by omega]; exact hq) (by simp only [List.length_append, List.length_take, List.length_drop]; omega) (by omega) (by omega)).ent (by repeat (first | exact .nil | refine .cons (by repeat (first | exact .here | apply Pick.there)) ?_))⟩)

theorem c117 (w : World) (a : Option Addr) (i j n cap : Nat) (xs : List Value) (hw : HS w (fps [.own (.slice a n cap) 48 5 n xs]) [.own (.slice a n cap) 48 5 n xs] w) (hx1 : ∀ u ∈ xs, u.oneCell' = true) (hmx : n ≤ 9223372036854775807) (hij : i < j) (hjn : j ≤ n) : Calls Try.prog 117 #[.slice a n cap, .int .i64 i, .int .i64 j] w fun en w' => ∃ g : Unit, en = .returned (.slice a (n - (j - i)) cap) ∧ True ∧ HS w (fps [.own (.slice a n cap) 48 5 n xs]) [.own (.slice a (n - (j - i)) cap) 48 5 (n - (j - i)) (xs.take (i * 5) ++ xs.drop (j * 5))] w' := by
  obtain ⟨gg, rfl, _, hnc, hcm, hxl, hb⟩ := hw.own_blk (by omega) .here
  exact (c117b w gg i j n cap xs _ hb hnc hcm hxl hx1 hmx hij hjn).mono fun en w' h => ⟨(), h.1, trivial, h.2⟩

set_option maxRecDepth 20000 in
theorem c118b (w : World) (gg i j n cap : Nat) (xs : List Value) (M : List Nat) (hw : HS w M [.blk gg 77 (cap * 4) xs] w) (hnc : n ≤ cap) (hcm : cap ≤ maxLen) (hxl : xs.length = n * 4) (hx1 : ∀ u ∈ xs, u.oneCell' = true) (hmx : n ≤ 9223372036854775807) (hij : i < j) (hjn : j ≤ n) : Calls Try.prog 118 #[.slice (some ⟨gg, 0, none⟩) n cap, .int .i64 i, .int .i64 j] w fun en w' => en = .returned (.slice (some ⟨gg, 0, none⟩) (n - (j - i)) cap) ∧ HS w M [.own (.slice (some ⟨gg, 0, none⟩) (n - (j - i)) cap) 77 4 (n - (j - i)) (xs.take (i * 4) ++ xs.drop (j * 4))] w' := by
  refine enter (args := [_, _, _]) Try.func118 Try.ntmps118 rfl rfl hw ?_
  refine s_seq ?_
  refine s_region ?_
  refine o_p (p_pure rfl) rfl ?_
  refine o_nil ?_
  refine s_seq ?_
  refine s_region ?_
  refine o_p (p_pure rfl) rfl ?_
  refine o_p (p_pure rfl) rfl ?_
  refine o_p (p_pure rfl) rfl ?_
  refine o_p (p_pure rfl) rfl ?_
  first | refine o_p (p_len_slice rfl rfl Try.underlying24) rfl ?_ | refine o_q (q_len_own rfl rfl Try.underlying24 (by repeat (first | exact .here | apply Pick.there))) rfl ?_
  refine o_p (p_slice3 i j n rfl rfl rfl rfl rfl sl_24 rfl rfl rfl (by omega) (by omega) (by omega)) rfl ?_
  refine o_nil ?_
  refine s_seq ?_
  refine s_seq ?_
  refine s_region ?_
  refine o_p (p_pure rfl) rfl ?_
  refine o_p (p_pure rfl) rfl ?_
  refine o_p (p_pure rfl) rfl ?_
  refine o_nil ?_
  refine s_cond rfl (fun h1 => ?_) (fun h1 => ?_)
  · try simp only [decide_eq_true_eq, decide_eq_false_iff_not, Bool.not_eq_true', Bool.not_eq_false', Bool.and_eq_true, Bool.or_eq_true, Bool.and_eq_false_iff, Bool.or_eq_false_iff, Bool.not_true, Bool.not_false] at h1
    exfalso; first | omega | (simp at h1; done) | (simp_all; done)
  · try simp only [decide_eq_true_eq, decide_eq_false_iff_not, Bool.not_eq_true', Bool.not_eq_false', Bool.and_eq_true, Bool.or_eq_true, Bool.and_eq_false_iff, Bool.or_eq_false_iff, Bool.not_true, Bool.not_false] at h1
    refine s_skip ?_
    refine s_seq ?_
    refine s_region ?_
    refine o_p (p_pure rfl) rfl ?_
    first | refine o_p (p_len_slice rfl rfl Try.underlying24) rfl ?_ | refine o_q (q_len_own rfl rfl Try.underlying24 (by repeat (first | exact .here | apply Pick.there))) rfl ?_
    refine o_p (p_pure rfl) rfl ?_
    refine o_nil ?_
    refine s_seq ?_
    refine s_draw [6] mixed ?_
    refine d_p 0 rfl (p_pure rfl) (by kernel_rfl) rfl rfl ?_
    refine d_p 1 rfl (p_pure rfl) (by kernel_rfl) rfl rfl ?_
    refine d_p 2 rfl (p_slice _ _ 0 i rfl rfl sl_24 rfl ⟨_, _, rfl, rfl⟩ (by omega) (by omega)) (by kernel_rfl) rfl rfl ?_
    refine d_slot (show _ = Value.slice (some ⟨gg, 0, none⟩) i cap from by rw [subA_zero] <;> (congr 1 <;> omega)) ?_
    refine d_p 3 rfl (p_pure rfl) (by kernel_rfl) rfl rfl ?_
    refine d_p 4 rfl (p_pure rfl) (by kernel_rfl) rfl rfl ?_
    refine d_p 5 rfl (p_slice _ _ j n rfl rfl sl_24 ⟨_, _, rfl, rfl⟩ rfl (by omega) (by omega)) (by kernel_rfl) rfl rfl ?_
    refine d_h 6 rfl (h_append_in (cut xs (j * 4) ((n - j) * 4)) rfl rfl rfl sl_24 Try.underlying24 (by repeat (first | exact .here | apply Put.there)) (by omega) (src_cut (j * 4) ((n - j) * 4) (fun hk => subA_lt (by omega)) (by repeat (first | exact .here | apply Pick.there))) (cut_length _ _ _ (by omega)) (by rw [cut_length _ _ _ (by omega)]; omega) (cut_one hx1 _ _)) (by kernel_rfl) (fun w h => h.ent (by repeat (first | exact .nil | refine .cons (by repeat (first | exact .here | apply Pick.there)) ?_))) rfl (fun _ _ => ?_)
    refine d_turn [] (by kernel_rfl) ?_
    refine d_slot (show _ = Value.slice (some ⟨gg, 0, none⟩) (n - (j - i)) cap from by first | rfl | (congr 1 <;> first | rfl | omega)) ?_
    refine d_p 7 rfl (p_pure rfl) (by kernel_rfl) rfl rfl ?_
    refine d_nil (by kernel_rfl) (fun w h => h.ent (by repeat (first | exact .nil | refine .cons (by repeat (first | exact .here | apply Pick.there)) ?_))) ?_
    refine s_seq ?_
    refine s_region ?_
    refine o_p (p_pure rfl) rfl ?_
    refine o_p (p_pure rfl) rfl ?_
    first | refine o_p (p_len_slice rfl rfl Try.underlying24) rfl ?_ | refine o_q (q_len_own rfl rfl Try.underlying24 (by repeat (first | exact .here | apply Pick.there))) rfl ?_
    refine o_p (p_pure rfl) rfl ?_
    refine o_p (p_slice _ _ (n - (j - i)) n rfl rfl sl_24 ⟨_, _, rfl, (by omega)⟩ ⟨_, _, rfl, rfl⟩ (by omega) (by omega)) rfl ?_
    refine o_slot (show _ = Value.slice (some ⟨gg, (n - (j - i)) * 4, none⟩) (j - i) (cap - (n - (j - i))) from by rw [subA_lt (by omega)] <;> (congr 1 <;> omega)) ?_
    refine o_h0 (h_clear rfl rfl sl_24 zr_77 rfl rfl (by simp) (by repeat (first | exact .here | apply Put.there)) (fun _ => rfl) (by simp only [setMany_length]; omega)) (fun _ _ => ?_)
    refine o_nil ?_
    refine s_seq ?_
    refine s_region ?_
    refine o_p (p_pure rfl) rfl ?_
    refine o_p (p_pure rfl) rfl ?_
    refine o_nil ?_
    exact s_retv (rs := [.tmp 6]) rfl (.tmp rfl (.nil)) (fun w' h' => ⟨rfl, (HS.to_own (n := n - (j - i)) (xs := xs.take (i * 4) ++ xs.drop (j * 4)) (ds := zrow [.int .i64 0, .int .i64 0, .bool false, .slice none 0 0] ((j - i) * 4)) (by repeat (first | exact .here | apply Pick.there)) h' (by have hq := del_in (xs := xs) (zs := zrow [.int .i64 0, .int .i64 0, .bool false, .slice none 0 0] ((j - i) * 4)) (p := i * 4) (q := j * 4) (N := n * 4) hxl (by omega) (by omega) (by rw [zrow_length]; omega); rw [show (n - j) * 4 = n * 4 - j * 4 from by omega, show (n - (j - i)) * 4 = n * 4 - (j * 4 - i * 4) from by omega]; exact hq) (by simp only [List.length_append, List.length_take, List.length_drop]; omega) (by omega) (by omega)).ent (by repeat (first | exact .nil | refine .cons (by repeat (first | exact .here | apply Pick.there)) ?_))⟩)

theorem c118 (w : World) (a : Option Addr) (i j n cap : Nat) (xs : List Value) (hw : HS w (fps [.own (.slice a n cap) 77 4 n xs]) [.own (.slice a n cap) 77 4 n xs] w) (hx1 : ∀ u ∈ xs, u.oneCell' = true) (hmx : n ≤ 9223372036854775807) (hij : i < j) (hjn : j ≤ n) : Calls Try.prog 118 #[.slice a n cap, .int .i64 i, .int .i64 j] w fun en w' => ∃ g : Unit, en = .returned (.slice a (n - (j - i)) cap) ∧ True ∧ HS w (fps [.own (.slice a n cap) 77 4 n xs]) [.own (.slice a (n - (j - i)) cap) 77 4 (n - (j - i)) (xs.take (i * 4) ++ xs.drop (j * 4))] w' := by
  obtain ⟨gg, rfl, _, hnc, hcm, hxl, hb⟩ := hw.own_blk (by omega) .here
  exact (c118b w gg i j n cap xs _ hb hnc hcm hxl hx1 hmx hij hjn).mono fun en w' h => ⟨(), h.1, trivial, h.2⟩

set_option maxRecDepth 20000 in
theorem c116a (w : World) (a : Option Addr) (i n m cap : Nat) (xs news : List Value) (b0 c0 tot2 : Nat) (hw : HS w (fps [.own (.slice a n cap) 77 4 n xs, .blk b0 77 tot2 news]) [.own (.slice a n cap) 77 4 n xs, .blk b0 77 tot2 news] w) (hm0 : 0 < m) (hl : news.length = m * 4) (hn1 : ∀ u ∈ news, u.oneCell' = true) (hx1 : ∀ u ∈ xs, u.oneCell' = true) (hmax : (n + m) * 48 ≤ 140737488355328) (hi : i = n) : Calls Try.prog 116 #[.slice a n cap, .int .i64 i, .slice (some ⟨b0, 0, none⟩) m c0] w fun en w' => ∃ g : Option Addr × Nat, en = .returned (.slice g.1 (n + m) g.2) ∧ True ∧ HS w (fps [.own (.slice a n cap) 77 4 n xs, .blk b0 77 tot2 news]) [.own (.slice g.1 (n + m) g.2) 77 4 (n + m) (xs.take (i * 4) ++ news ++ xs.drop (i * 4)), .blk b0 77 tot2 news] w' := by
  obtain ⟨_, hnc, hcm, hxl⟩ := hw.own_facts .here
  refine enter (args := [_, _, _]) Try.func116 Try.ntmps116 rfl rfl hw ?_
  refine s_seq ?_
  refine s_region ?_
  refine o_p (p_pure rfl) rfl ?_
  refine o_nil ?_
  refine s_seq ?_
  refine s_region ?_
  refine o_p (p_pure rfl) rfl ?_
  refine o_p (p_pure rfl) rfl ?_
  refine o_p (p_slice _ _ i n rfl rfl sl_24 ⟨_, _, rfl, rfl⟩ rfl (by omega) (by omega)) rfl ?_
  refine o_nil ?_
  refine s_seq ?_
  refine s_region ?_
  refine o_p (p_pure rfl) rfl ?_
  first | refine o_p (p_len_slice rfl rfl Try.underlying24) rfl ?_ | refine o_q (q_len_own rfl rfl Try.underlying24 (by repeat (first | exact .here | apply Pick.there))) rfl ?_
  refine o_p (p_pure rfl) rfl ?_
  refine o_nil ?_
  refine s_seq ?_
  refine s_seq ?_
  refine s_region ?_
  refine o_p (p_pure rfl) rfl ?_
  refine o_p (p_pure rfl) rfl ?_
  refine o_nil ?_
  refine s_cond rfl (fun h1 => ?_) (fun h1 => ?_)
  · try simp only [decide_eq_true_eq, decide_eq_false_iff_not, Bool.not_eq_true', Bool.not_eq_false', Bool.and_eq_true, Bool.or_eq_true, Bool.and_eq_false_iff, Bool.or_eq_false_iff, Bool.not_true, Bool.not_false] at h1
    exfalso; first | omega | (simp at h1; done) | (simp_all; done)
  · try simp only [decide_eq_true_eq, decide_eq_false_iff_not, Bool.not_eq_true', Bool.not_eq_false', Bool.and_eq_true, Bool.or_eq_true, Bool.and_eq_false_iff, Bool.or_eq_false_iff, Bool.not_true, Bool.not_false] at h1
    refine s_skip ?_
    refine s_seq ?_
    refine s_region ?_
    refine o_p (p_pure rfl) rfl ?_
    first | refine o_p (p_len_slice rfl rfl Try.underlying24) rfl ?_ | refine o_q (q_len_own rfl rfl Try.underlying24 (by repeat (first | exact .here | apply Pick.there))) rfl ?_
    refine o_p (p_pure rfl) rfl ?_
    refine o_nil ?_
    refine s_seq ?_
    refine s_seq ?_
    refine s_region ?_
    refine o_p (p_pure rfl) rfl ?_
    refine o_p (p_pure rfl) rfl ?_
    refine o_p (p_pure rfl) rfl ?_
    refine o_nil ?_
    refine s_cond rfl (fun h2 => ?_) (fun h2 => ?_)
    · try simp only [decide_eq_true_eq, decide_eq_false_iff_not, Bool.not_eq_true', Bool.not_eq_false', Bool.and_eq_true, Bool.or_eq_true, Bool.and_eq_false_iff, Bool.or_eq_false_iff, Bool.not_true, Bool.not_false] at h2
      refine s_seq ?_
      refine s_region ?_
      refine o_p (p_pure rfl) rfl ?_
      refine o_p (p_pure rfl) rfl ?_
      refine o_h (h_appendS news rfl rfl rfl sl_24 Try.underlying24 zr_77 rfl (by repeat (first | exact .here | apply Pick.there)) (src_blk (by repeat (first | exact .here | apply Pick.there))) hl hn1 (by omega) (by simp only [maxLen]; omega)) rfl (fun b3 _ => ?_)
      refine o_p (p_pure rfl) rfl ?_
      refine o_nil ?_
      exact s_retv (rs := [.tmp 6]) rfl (.tmp rfl (.nil)) (fun w' h' => ⟨(_, _), rfl, trivial, by subst hi; rw [List.take_of_length_le (by omega), List.drop_eq_nil_of_le (by omega), List.append_nil]; exact h'.ent (by repeat (first | exact .nil | refine .cons (by repeat (first | exact .here | apply Pick.there)) ?_))⟩)
    · try simp only [decide_eq_true_eq, decide_eq_false_iff_not, Bool.not_eq_true', Bool.not_eq_false', Bool.and_eq_true, Bool.or_eq_true, Bool.and_eq_false_iff, Bool.or_eq_false_iff, Bool.not_true, Bool.not_false] at h2
      exfalso; first | omega | (simp at h2; done) | (simp_all; done)

set_option maxRecDepth 20000 in
theorem c116b (w : World) (gg i n m cap : Nat) (xs news : List Value) (b0 c0 tot2 : Nat) (M : List Nat) (hw : HS w M [.blk gg 77 (cap * 4) xs, .blk b0 77 tot2 news] w) (hnc : n ≤ cap) (hcm : cap ≤ maxLen) (hxl : xs.length = n * 4) (hm0 : 0 < m) (hl : news.length = m * 4) (hn1 : ∀ u ∈ news, u.oneCell' = true) (hx1 : ∀ u ∈ xs, u.oneCell' = true) (hmax : (n + m) * 48 ≤ 140737488355328) (hi : i < n) : Calls Try.prog 116 #[.slice (some ⟨gg, 0, none⟩) n cap, .int .i64 i, .slice (some ⟨b0, 0, none⟩) m c0] w fun en w' => ∃ g : Option Addr × Nat, en = .returned (.slice g.1 (n + m) g.2) ∧ True ∧ HS w M [.own (.slice g.1 (n + m) g.2) 77 4 (n + m) (xs.take (i * 4) ++ news ++ xs.drop (i * 4)), .blk b0 77 tot2 news] w' := by
  have ht2 := (hw.blk_get (.there .here)).len_le
  have hcl : (cut xs 0 (i * 4)).length = i * 4 := cut_length _ _ _ (by omega)
  refine enter (args := [_, _, _]) Try.func116 Try.ntmps116 rfl rfl hw ?_
  refine s_seq ?_
  refine s_region ?_
  refine o_p (p_pure rfl) rfl ?_
  refine o_nil ?_
  refine s_seq ?_
  refine s_region ?_
  refine o_p (p_pure rfl) rfl ?_
  refine o_p (p_pure rfl) rfl ?_
  refine o_p (p_slice _ _ i n rfl rfl sl_24 ⟨_, _, rfl, rfl⟩ rfl (by omega) (by omega)) rfl ?_
  refine o_nil ?_
  refine s_seq ?_
  refine s_region ?_
  refine o_p (p_pure rfl) rfl ?_
  first | refine o_p (p_len_slice rfl rfl Try.underlying24) rfl ?_ | refine o_q (q_len_own rfl rfl Try.underlying24 (by repeat (first | exact .here | apply Pick.there))) rfl ?_
  refine o_p (p_pure rfl) rfl ?_
  refine o_nil ?_
  refine s_seq ?_
  refine s_seq ?_
  refine s_region ?_
  refine o_p (p_pure rfl) rfl ?_
  refine o_p (p_pure rfl) rfl ?_
  refine o_nil ?_
  refine s_cond rfl (fun h1 => ?_) (fun h1 => ?_)
  · try simp only [decide_eq_true_eq, decide_eq_false_iff_not, Bool.not_eq_true', Bool.not_eq_false', Bool.and_eq_true, Bool.or_eq_true, Bool.and_eq_false_iff, Bool.or_eq_false_iff, Bool.not_true, Bool.not_false] at h1
    exfalso; first | omega | (simp at h1; done) | (simp_all; done)
  · try simp only [decide_eq_true_eq, decide_eq_false_iff_not, Bool.not_eq_true', Bool.not_eq_false', Bool.and_eq_true, Bool.or_eq_true, Bool.and_eq_false_iff, Bool.or_eq_false_iff, Bool.not_true, Bool.not_false] at h1
    refine s_skip ?_
    refine s_seq ?_
    refine s_region ?_
    refine o_p (p_pure rfl) rfl ?_
    first | refine o_p (p_len_slice rfl rfl Try.underlying24) rfl ?_ | refine o_q (q_len_own rfl rfl Try.underlying24 (by repeat (first | exact .here | apply Pick.there))) rfl ?_
    refine o_p (p_pure rfl) rfl ?_
    refine o_nil ?_
    refine s_seq ?_
    refine s_seq ?_
    refine s_region ?_
    refine o_p (p_pure rfl) rfl ?_
    refine o_p (p_pure rfl) rfl ?_
    refine o_p (p_pure rfl) rfl ?_
    refine o_nil ?_
    refine s_cond rfl (fun h2 => ?_) (fun h2 => ?_)
    · try simp only [decide_eq_true_eq, decide_eq_false_iff_not, Bool.not_eq_true', Bool.not_eq_false', Bool.and_eq_true, Bool.or_eq_true, Bool.and_eq_false_iff, Bool.or_eq_false_iff, Bool.not_true, Bool.not_false] at h2
      exfalso; first | omega | (simp at h2; done) | (simp_all; done)
    · try simp only [decide_eq_true_eq, decide_eq_false_iff_not, Bool.not_eq_true', Bool.not_eq_false', Bool.and_eq_true, Bool.or_eq_true, Bool.and_eq_false_iff, Bool.or_eq_false_iff, Bool.not_true, Bool.not_false] at h2
      refine s_skip ?_
      refine s_seq ?_
      refine s_seq ?_
      refine s_region ?_
      refine o_p (p_pure rfl) rfl ?_
      refine o_p (p_pure rfl) rfl ?_
      refine o_p (p_pure rfl) rfl ?_
      try (refine o_slot (i64w (by omega) (by omega)) ?_)
      refine o_p (p_pure rfl) rfl ?_
      refine o_p (p_cap rfl rfl Try.underlying24) rfl ?_
      refine o_p (p_pure rfl) rfl ?_
      refine o_nil ?_
      refine s_cond rfl (fun h3 => ?_) (fun h3 => ?_)
      · try simp only [decide_eq_true_eq, decide_eq_false_iff_not, Bool.not_eq_true', Bool.not_eq_false', Bool.and_eq_true, Bool.or_eq_true, Bool.and_eq_false_iff, Bool.or_eq_false_iff, Bool.not_true, Bool.not_false] at h3
        refine s_seq ?_
        refine s_region ?_
        refine o_p (p_pure rfl) rfl ?_
        refine o_p (p_pure rfl) rfl ?_
        refine o_p (p_slice _ _ 0 i rfl rfl sl_24 rfl ⟨_, _, rfl, rfl⟩ (by omega) (by omega)) rfl ?_
        refine o_slot (show _ = Value.slice (some ⟨gg, 0, none⟩) (i) (cap) from by rw [subA_zero] <;> (congr 1 <;> omega)) ?_
        refine o_p (p_pure rfl) rfl ?_
        refine o_p (p_pure rfl) rfl ?_
        refine o_p (p_pure rfl) rfl ?_
        try (refine o_slot (i64w (by omega) (by omega)) ?_)
        refine o_p (p_pure rfl) rfl ?_
        refine o_p (p_pure rfl) rfl ?_
        try (refine o_slot (i64w (by omega) (by omega)) ?_)
        refine o_slot (show _ = Value.int .i64 ((n + m - i : Nat) : Int) from by first | rfl | (congr 1 <;> first | rfl | omega)) ?_
        refine o_h (h_append_zeros (m := n + m - i) (olds := cut xs 0 (i * 4)) rfl rfl rfl sl_24 ki_3 zr_77 rfl (by decide) (by omega) (by omega) (src_cut 0 (i * 4) (fun _ => rfl) (by repeat (first | exact .here | apply Pick.there))) hcl (by omega) (by simp only [maxLen]; omega)) rfl (fun ⟨b4, c5⟩ ⟨h6, k7⟩ => ?_)
        refine o_slot (show _ = Value.slice (some ⟨b4, 0, none⟩) (n + m) c5 from by first | rfl | (congr 1 <;> first | rfl | omega)) ?_
        refine o_p (p_pure rfl) rfl ?_
        refine o_nil ?_
        refine s_seq ?_
        refine s_weaken (L' := [(0, _), (1, _), (2, _), (6, _), (7, _), (8, _), (9, _)]) (by repeat (first | exact sl_n | refine sl_c rfl ?_)) (fun _ h => h) ?_
        refine s_region ?_
        refine o_p (p_pure rfl) rfl ?_
        refine o_p (p_pure rfl) rfl ?_
        refine o_p (p_slice _ _ i (n + m) rfl rfl sl_24 ⟨_, _, rfl, rfl⟩ rfl (by omega) (by omega)) rfl ?_
        refine o_slot (show _ = Value.slice (some ⟨b4, i * 4, none⟩) (n + m - i) (c5 - i) from by rw [subA_lt (by omega)] <;> (congr 1 <;> omega)) ?_
        refine o_p (p_pure rfl) rfl ?_
        refine o_h (h_copy m news rfl rfl rfl sl_24 (by repeat (first | exact .here | apply Put.there)) (by omega) hl (fun _ => rfl) (by simp only [zrow_length, List.length_append, setMany_length]; omega) (src_blk (by repeat (first | exact .here | apply Pick.there))) hn1) rfl (fun _ _ => ?_)
        refine o_nil ?_
        refine s_seq ?_
        refine s_draw [8] mixed ?_
        refine d_p 0 rfl (p_pure rfl) (by kernel_rfl) rfl rfl ?_
        refine d_p 1 rfl (p_pure rfl) (by kernel_rfl) rfl rfl ?_
        refine d_p 2 rfl (p_pure rfl) (by kernel_rfl) rfl rfl ?_
        refine d_p 3 rfl (p_pure rfl) (by kernel_rfl) rfl rfl ?_
        try (refine d_slot (i64w (by omega) (by omega)) ?_)
        refine d_p 4 rfl (p_slice _ _ (i + m) (n + m) rfl rfl sl_24 ⟨_, _, rfl, (by omega)⟩ rfl (by omega) (by omega)) (by kernel_rfl) rfl rfl ?_
        refine d_slot (show _ = Value.slice (some ⟨b4, (i + m) * 4, none⟩) (n - i) (c5 - (i + m)) from by rw [subA_lt (by omega)] <;> (congr 1 <;> omega)) ?_
        refine d_p 5 rfl (p_pure rfl) (by kernel_rfl) rfl rfl ?_
        refine d_p 6 rfl (p_pure rfl) (by kernel_rfl) rfl rfl ?_
        refine d_p 7 rfl (p_slice _ _ i n rfl rfl sl_24 ⟨_, _, rfl, rfl⟩ rfl (by omega) (by omega)) (by kernel_rfl) rfl rfl ?_
        refine d_slot (show _ = Value.slice (some ⟨gg, i * 4, none⟩) (n - i) (cap - i) from by rw [subA_lt (by omega)] <;> (congr 1 <;> omega)) ?_
        refine d_h 8 rfl (h_copy (n - i) (cut xs (i * 4) ((n - i) * 4)) rfl rfl rfl sl_24 (by repeat (first | exact .here | apply Put.there)) (by omega) (cut_length _ _ _ (by omega)) (fun _ => rfl) (by rw [cut_length _ _ _ (by omega)]; simp only [zrow_length, List.length_append, setMany_length]; omega) (src_cut (i * 4) ((n - i) * 4) (fun _ => rfl) (by repeat (first | exact .here | apply Pick.there))) (cut_one hx1 _ _)) (by kernel_rfl) (fun w h => h.ent (by repeat (first | exact .nil | refine .cons (by repeat (first | exact .here | apply Pick.there)) ?_))) rfl (fun _ _ => ?_)
        refine d_turn [] (by kernel_rfl) ?_
        refine d_nil (by kernel_rfl) (fun w h => h.ent (by repeat (first | exact .nil | refine .cons (by repeat (first | exact .here | apply Pick.there)) ?_))) ?_
        refine s_seq ?_
        refine s_region ?_
        refine o_p (p_pure rfl) rfl ?_
        refine o_p (p_pure rfl) rfl ?_
        refine o_nil ?_
        exact s_retv (rs := [.tmp 6]) rfl (.tmp rfl (.nil)) (fun w' h' => ⟨(some ⟨b4, 0, none⟩, c5), rfl, trivial, (HS.to_own (n := n + m) (xs := xs.take (i * 4) ++ news ++ xs.drop (i * 4)) (ds := []) (by repeat (first | exact .here | apply Pick.there)) h' (by have hq := ins_grow (xs := xs) (news := news) (z := zrow [.int .i64 0, .int .i64 0, .bool false, .slice none 0 0] ((n + m - i) * 4)) (p := i * 4) (q := m * 4) (N := n * 4) hxl (by omega) hl (by rw [zrow_length]; omega); rw [List.append_nil]; rw [show (i + m) * 4 = i * 4 + m * 4 from by omega, show (n - i) * 4 = n * 4 - i * 4 from by omega]; exact hq) (by simp only [List.length_append, List.length_take, List.length_drop]; omega) (by omega) (by omega)).ent (by repeat (first | exact .nil | refine .cons (by repeat (first | exact .here | apply Pick.there)) ?_))⟩)
      · try simp only [decide_eq_true_eq, decide_eq_false_iff_not, Bool.not_eq_true', Bool.not_eq_false', Bool.and_eq_true, Bool.or_eq_true, Bool.and_eq_false_iff, Bool.or_eq_false_iff, Bool.not_true, Bool.not_false] at h3
        refine s_skip ?_
        refine s_seq ?_
        refine s_region ?_
        refine o_p (p_pure rfl) rfl ?_
        refine o_p (p_pure rfl) rfl ?_
        refine o_p (p_pure rfl) rfl ?_
        refine o_p (p_pure rfl) rfl ?_
        try (refine o_slot (i64w (by omega) (by omega)) ?_)
        refine o_p (p_slice _ _ 0 (n + m) rfl rfl sl_24 rfl ⟨_, _, rfl, (by omega)⟩ (by omega) (by omega)) rfl ?_
        refine o_slot (show _ = Value.slice (some ⟨gg, 0, none⟩) (n + m) cap from by rw [subA_zero] <;> (congr 1 <;> omega)) ?_
        refine o_ex (fun w h => HS.blk_full (b := gg) (by repeat (first | exact .here | apply Pick.there)) h) fun ds => ?_
        refine o_fact (fun w h => h.1) fun hds => ?_
        refine o_class (fun w h => h.2) ?_
        refine o_p (p_pure rfl) rfl ?_
        refine o_nil ?_
        refine s_seq ?_
        refine s_seq ?_
        refine s_region ?_
        refine o_p (p_pure rfl) rfl ?_
        refine o_p (p_pure rfl) rfl ?_
        refine o_p (p_pure rfl) rfl ?_
        refine o_p (p_pure rfl) rfl ?_
        refine o_p (p_pure rfl) rfl ?_
        try (refine o_slot (i64w (by omega) (by omega)) ?_)
        refine o_p (p_slice _ _ (i + m) (n + m) rfl rfl sl_24 ⟨_, _, rfl, (by omega)⟩ rfl (by omega) (by omega)) rfl ?_
        refine o_slot (show _ = Value.slice (some ⟨gg, (i + m) * 4, none⟩) (n - i) (cap - (i + m)) from by rw [subA_lt (by omega)] <;> (congr 1 <;> omega)) ?_
        refine o_q (q_overlaps rfl ov_127 rfl rfl sl_24 (hp := (by repeat (first | exact .here | apply Pick.there))) (hp' := (by repeat (first | exact .here | apply Pick.there))) (by decide) (by omega) (by omega)) rfl ?_
        refine o_p (p_pure rfl) rfl ?_
        refine o_nil ?_
        refine s_cond rfl (fun h8 => ?_) (fun h8 => ?_)
        · try simp only [decide_eq_true_eq, decide_eq_false_iff_not, Bool.not_eq_true', Bool.not_eq_false', Bool.and_eq_true, Bool.or_eq_true, Bool.and_eq_false_iff, Bool.or_eq_false_iff, Bool.not_true, Bool.not_false] at h8
          refine s_seq ?_
          refine s_weaken (L' := [(0, _), (1, _), (2, _), (6, _), (7, _), (8, _)]) (by repeat (first | exact sl_n | refine sl_c rfl ?_)) (fun _ h => h) ?_
          refine s_draw [8] mixed ?_
          refine d_p 0 rfl (p_pure rfl) (by kernel_rfl) rfl rfl ?_
          refine d_p 1 rfl (p_pure rfl) (by kernel_rfl) rfl rfl ?_
          refine d_p 2 rfl (p_pure rfl) (by kernel_rfl) rfl rfl ?_
          refine d_p 3 rfl (p_pure rfl) (by kernel_rfl) rfl rfl ?_
          try (refine d_slot (i64w (by omega) (by omega)) ?_)
          refine d_p 4 rfl (p_slice _ _ (i + m) (n + m) rfl rfl sl_24 ⟨_, _, rfl, (by omega)⟩ rfl (by omega) (by omega)) (by kernel_rfl) rfl rfl ?_
          refine d_slot (show _ = Value.slice (some ⟨gg, (i + m) * 4, none⟩) (n - i) (cap - (i + m)) from by rw [subA_lt (by omega)] <;> (congr 1 <;> omega)) ?_
          refine d_p 5 rfl (p_pure rfl) (by kernel_rfl) rfl rfl ?_
          refine d_p 6 rfl (p_pure rfl) (by kernel_rfl) rfl rfl ?_
          refine d_p 7 rfl (p_slice _ _ i (n + m) rfl rfl sl_24 ⟨_, _, rfl, rfl⟩ rfl (by omega) (by omega)) (by kernel_rfl) rfl rfl ?_
          refine d_slot (show _ = Value.slice (some ⟨gg, i * 4, none⟩) (n + m - i) (cap - i) from by rw [subA_lt (by omega)] <;> (congr 1 <;> omega)) ?_
          refine d_h 8 rfl (h_copy (n - i) (cut (xs ++ ds) (i * 4) ((n - i) * 4)) rfl rfl rfl sl_24 (by repeat (first | exact .here | apply Put.there)) (by omega) (cut_length _ _ _ (by simp only [zrow_length, List.length_append, setMany_length]; omega)) (fun _ => rfl) (by rw [cut_length _ _ _ (by simp only [zrow_length, List.length_append, setMany_length]; omega)]; simp only [zrow_length, List.length_append, setMany_length]; omega) (src_cut (i * 4) ((n - i) * 4) (fun _ => rfl) (by repeat (first | exact .here | apply Pick.there))) (ins_one hx1 (by omega))) (by kernel_rfl) (fun w h => h.ent (by repeat (first | exact .nil | refine .cons (by repeat (first | exact .here | apply Pick.there)) ?_))) rfl (fun _ _ => ?_)
          refine d_turn [] (by kernel_rfl) ?_
          refine d_nil (by kernel_rfl) (fun w h => h.ent (by repeat (first | exact .nil | refine .cons (by repeat (first | exact .here | apply Pick.there)) ?_))) ?_
          refine s_seq ?_
          refine s_region ?_
          refine o_p (p_pure rfl) rfl ?_
          refine o_p (p_pure rfl) rfl ?_
          refine o_p (p_slice _ _ i (n + m) rfl rfl sl_24 ⟨_, _, rfl, rfl⟩ rfl (by omega) (by omega)) rfl ?_
          refine o_slot (show _ = Value.slice (some ⟨gg, i * 4, none⟩) (n + m - i) (cap - i) from by rw [subA_lt (by omega)] <;> (congr 1 <;> omega)) ?_
          refine o_p (p_pure rfl) rfl ?_
          refine o_h (h_copy m news rfl rfl rfl sl_24 (by repeat (first | exact .here | apply Put.there)) (by omega) hl (fun _ => rfl) (by simp only [zrow_length, List.length_append, setMany_length]; omega) (src_blk (by repeat (first | exact .here | apply Pick.there))) hn1) rfl (fun _ _ => ?_)
          refine o_nil ?_
          refine s_seq ?_
          refine s_region ?_
          refine o_p (p_pure rfl) rfl ?_
          refine o_p (p_pure rfl) rfl ?_
          refine o_nil ?_
          exact s_retv (rs := [.tmp 6]) rfl (.tmp rfl (.nil)) (fun w' h' => ⟨(some ⟨gg, 0, none⟩, cap), rfl, trivial, (HS.to_own (n := n + m) (xs := xs.take (i * 4) ++ news ++ xs.drop (i * 4)) (ds := ds.drop (m * 4)) (by repeat (first | exact .here | apply Pick.there)) h' (by have hq := ins_in (xs := xs) (ds := ds) (news := news) (p := i * 4) (q := m * 4) (N := n * 4) hxl (by omega) hl (by omega); rw [show (i + m) * 4 = i * 4 + m * 4 from by omega, show (n - i) * 4 = n * 4 - i * 4 from by omega]; exact hq) (by simp only [List.length_append, List.length_take, List.length_drop]; omega) (by omega) (by omega)).ent (by repeat (first | exact .nil | refine .cons (by repeat (first | exact .here | apply Pick.there)) ?_))⟩)
        · try simp only [decide_eq_true_eq, decide_eq_false_iff_not, Bool.not_eq_true', Bool.not_eq_false', Bool.and_eq_true, Bool.or_eq_true, Bool.and_eq_false_iff, Bool.or_eq_false_iff, Bool.not_true, Bool.not_false] at h8
          exfalso; first | omega | (simp at h8; done) | (simp_all; done)

theorem c116 (w : World) (a : Option Addr) (i n m cap : Nat) (xs news : List Value) (b0 c0 tot2 : Nat) (hw : HS w (fps [.own (.slice a n cap) 77 4 n xs, .blk b0 77 tot2 news]) [.own (.slice a n cap) 77 4 n xs, .blk b0 77 tot2 news] w) (hm0 : 0 < m) (hl : news.length = m * 4) (hn1 : ∀ u ∈ news, u.oneCell' = true) (hx1 : ∀ u ∈ xs, u.oneCell' = true) (hmax : (n + m) * 48 ≤ 140737488355328) (hi : i ≤ n) : Calls Try.prog 116 #[.slice a n cap, .int .i64 i, .slice (some ⟨b0, 0, none⟩) m c0] w fun en w' => ∃ g : Option Addr × Nat, en = .returned (.slice g.1 (n + m) g.2) ∧ True ∧ HS w (fps [.own (.slice a n cap) 77 4 n xs, .blk b0 77 tot2 news]) [.own (.slice g.1 (n + m) g.2) 77 4 (n + m) (xs.take (i * 4) ++ news ++ xs.drop (i * 4)), .blk b0 77 tot2 news] w' := by
  rcases Nat.lt_or_ge i n with h | h
  · obtain ⟨gg, rfl, _, hnc, hcm, hxl, hb⟩ := hw.own_blk (by omega) .here
    exact c116b w gg i n m cap xs news b0 c0 tot2 _ hb hnc hcm hxl hm0 hl hn1 hx1 hmax h
  · exact c116a w a i n m cap xs news b0 c0 tot2 hw hm0 hl hn1 hx1 hmax (by omega)

def eqK (fr cnt : Int) (k : Lock) : Bool := decide (k.fr = fr) && decide (k.cnt = cnt)
def unlockT (L : List Fil) (h fr cnt : Int) : List Fil × Int :=
  if (findF L h 0).2.2 = 0 then if rngE fr cnt = 0 then
    if ixB ((nth (nth L (findF L h 0).1).op (findF L h 0).2.1).lk.map (eqK fr cnt)) < (nth (nth L (findF L h 0).1).op (findF L h 0).2.1).lk.length then (updO L (findF L h 0).1 (findF L h 0).2.1 fun o => { o with lk := others o.lk (ixB (o.lk.map (eqK fr cnt))) }, 0) else (L, 6)
  else (L, rngE fr cnt) else (L, (findF L h 0).2.2)
theorem unlockT_e {L : List Fil} {h fr cnt : Int} (hn : ¬ firstV [.int .i64 (findF L h 0).2.2, .int .i64 (rngE fr cnt)] = 0) : unlockT L h fr cnt = (L, firstV [.int .i64 (findF L h 0).2.2, .int .i64 (rngE fr cnt)]) := by
  have e : firstV [.int .i64 (findF L h 0).2.2, .int .i64 (rngE fr cnt)] = if (findF L h 0).2.2 = 0 then rngE fr cnt else (findF L h 0).2.2 := by
    simp only [firstV]
    grind
  rw [e] at hn ⊢
  unfold unlockT
  grind
theorem first2_0 {a b : Int} (h : firstV [.int .i64 a, .int .i64 b] = 0) : a = 0 ∧ b = 0 := by
  simp only [firstV] at h
  grind
theorem others_len {α : Type} {l : List α} {i : Nat} (h : i < l.length) : (others l i).length = l.length - 1 := by
  simp only [others, List.length_append, List.length_take, List.length_drop]
  omega
theorem others_flat {α : Type} {vals : α → List Value} {sz : Nat} (hv : ∀ x, (vals x).length = sz) (l : List α) (i : Nat) : (l.flatMap vals).take (i * sz) ++ (l.flatMap vals).drop ((i + 1) * sz) = (others l i).flatMap vals := by
  rw [flat_take hv, flat_drop hv, others, flat_append]
def mayB (ops : List Opn) (k : Nat) (q : Lock) (kp : Bool → Bool → Bool) : Bool := (List.range ops.length).any fun n => (nth ops n).lk.any fun h => ovl h q && kp h.ex (decide (n ≠ k))
theorem mayB_hit {ops : List Opn} {k n m : Nat} {q : Lock} {kp : Bool → Bool → Bool} (hn : n < ops.length) (hm : m < (nth ops n).lk.length) (h : (ovl (nth (nth ops n).lk m) q && kp (nth (nth ops n).lk m).ex (decide (n ≠ k))) = true) : mayB ops k q kp = true := by
  unfold mayB
  rw [List.any_eq_true]
  refine ⟨n, List.mem_range.2 hn, ?_⟩
  rw [List.any_eq_true]
  exact ⟨_, mem_nth hm, h⟩
theorem mayB_no {ops : List Opn} {k : Nat} {q : Lock} {kp : Bool → Bool → Bool} (h : ∀ n, n < ops.length → ∀ m, m < (nth ops n).lk.length → (ovl (nth (nth ops n).lk m) q && kp (nth (nth ops n).lk m).ex (decide (n ≠ k))) = false) : mayB ops k q kp = false := by
  unfold mayB
  rw [List.any_eq_false]
  intro n hn
  rw [List.mem_range] at hn
  have : ((nth ops n).lk.any fun h => ovl h q && kp h.ex (decide (n ≠ k))) = false := by
    rw [List.any_eq_false]
    intro x hx
    obtain ⟨m, hm, e⟩ := List.getElem_of_mem hx
    have e2 : nth (nth ops n).lk m = x := nth_eq (by rw [List.getElem?_eq_getElem hm, e])
    have := h n hn m hm
    rw [e2] at this
    rw [this]
    decide
  rw [this]
  decide
def mayT (L : List Fil) (h : Int) (q : Lock) (acc : Nat) (kp : Bool → Bool → Bool) : Int :=
  if (findF L h 0).2.2 = 0 then if rngE q.fr q.cnt = 0 then if hasB (nth (nth L (findF L h 0).1).op (findF L h 0).2.1).ac acc = true then if mayB (nth L (findF L h 0).1).op (findF L h 0).2.1 q kp = true then 29 else 0 else 27 else rngE q.fr q.cnt else (findF L h 0).2.2
theorem mayT_e {L : List Fil} {h : Int} {q : Lock} {acc : Nat} {kp : Bool → Bool → Bool} (hn : ¬ firstV [.int .i64 (findF L h 0).2.2, .int .i64 (rngE q.fr q.cnt)] = 0) : mayT L h q acc kp = firstV [.int .i64 (findF L h 0).2.2, .int .i64 (rngE q.fr q.cnt)] := by
  have e : firstV [.int .i64 (findF L h 0).2.2, .int .i64 (rngE q.fr q.cnt)] = if (findF L h 0).2.2 = 0 then rngE q.fr q.cnt else (findF L h 0).2.2 := by
    simp only [firstV]
    grind
  rw [e] at hn ⊢
  unfold mayT
  grind
def rdK (ex oth : Bool) : Bool := ex && oth
def wrK (ex oth : Bool) : Bool := !ex || oth

set_option maxRecDepth 20000 in
theorem c106 (w : World) (b b2 : Nat) (k : Lock) (fr cnt : Int) (hr : Rd w [] b 0 (.int .i64 fr)) (hr2 : Rd w [] b2 0 (.int .i64 cnt)) : Calls Try.prog 106 #[.agg #[.int .i64 k.fr, .int .i64 k.cnt, .bool k.ex], .pointer (some ⟨b, 0, none⟩), .pointer (some ⟨b2, 0, none⟩)] w fun en w' => en = .returned (.bool (eqK fr cnt k)) ∧ Below w.heap.size w w' := by
  refine enter (args := [_, _, _]) Try.func106 Try.ntmps106 rfl rfl (HS.refl w []) ?_
  refine s_seq ?_
  refine s_region ?_
  refine o_h (h_box rfl rfl) rfl (fun b1 _ => ?_)
  refine o_p (p_pure rfl) rfl ?_
  refine o_nil ?_
  refine s_seq ?_
  refine s_region ?_
  refine o_p (p_fieldAddr rfl rfl fd_62_0 sz_3 rfl) rfl ?_
  first | refine o_q (q_load rfl rfl sz_3 (by repeat (first | exact .here | apply Pick.there)) rfl) rfl ?_ | refine o_q (q_load_old rfl rfl sz_3 (hr)) rfl ?_ | refine o_q (q_load_old rfl rfl sz_3 (hr2)) rfl ?_
  first | refine o_q (q_load rfl rfl sz_3 (by repeat (first | exact .here | apply Pick.there)) rfl) rfl ?_ | refine o_q (q_load_old rfl rfl sz_3 (hr)) rfl ?_ | refine o_q (q_load_old rfl rfl sz_3 (hr2)) rfl ?_
  refine o_p (p_pure rfl) rfl ?_
  refine o_p (p_pure rfl) rfl ?_
  refine o_and 5 9 14 _ _ rfl
    (by
      intro hg2
      have hs3 := hg2; try simp only [decide_eq_true_eq, decide_eq_false_iff_not, Bool.not_eq_true', Bool.not_eq_false', Bool.and_eq_true, Bool.or_eq_true, Bool.and_eq_false_iff, Bool.or_eq_false_iff, Bool.not_true, Bool.not_false] at hs3
      refine o_on 9 _ rfl rfl hg2 ?_
      refine o_p (p_fieldAddr rfl rfl fd_62_1 sz_3 rfl) rfl ?_
      refine o_on 9 _ rfl rfl hg2 ?_
      first | refine o_q (q_load rfl rfl sz_3 (by repeat (first | exact .here | apply Pick.there)) rfl) rfl ?_ | refine o_q (q_load_old rfl rfl sz_3 (hr)) rfl ?_ | refine o_q (q_load_old rfl rfl sz_3 (hr2)) rfl ?_
      refine o_on 9 _ rfl rfl hg2 ?_
      first | refine o_q (q_load rfl rfl sz_3 (by repeat (first | exact .here | apply Pick.there)) rfl) rfl ?_ | refine o_q (q_load_old rfl rfl sz_3 (hr)) rfl ?_ | refine o_q (q_load_old rfl rfl sz_3 (hr2)) rfl ?_
      refine o_on 9 _ rfl rfl hg2 ?_
      refine o_p (p_pure rfl) rfl ?_
      refine o_p (p_pickt rfl rfl hg2 rfl) rfl ?_
      refine o_nil ?_
      exact s_joinN 5 14 _ rfl rfl rfl (fun w h => by first | exact h | exact h.ent (by repeat (first | exact .nil | refine .cons (by repeat (first | exact .here | apply Pick.there)) ?_))))
    (by
      intro hg4
      have hs5 := hg4; try simp only [decide_eq_true_eq, decide_eq_false_iff_not, Bool.not_eq_true', Bool.not_eq_false', Bool.and_eq_true, Bool.or_eq_true, Bool.and_eq_false_iff, Bool.or_eq_false_iff, Bool.not_true, Bool.not_false] at hs5
      refine o_off 9 _ rfl rfl hg4 rfl ?_
      refine o_off 9 _ rfl rfl hg4 rfl ?_
      refine o_off 9 _ rfl rfl hg4 rfl ?_
      refine o_off 9 _ rfl rfl hg4 rfl ?_
      refine o_p (p_pickf rfl rfl hg4 rfl) rfl ?_
      refine o_nil ?_
      exact s_joinN 5 14 _ rfl rfl rfl (fun w h => by first | exact h | exact h.ent (by repeat (first | exact .nil | refine .cons (by repeat (first | exact .here | apply Pick.there)) ?_)))) ?_
  refine o_p (p_pure rfl) rfl ?_
  refine o_nil ?_
  exact s_retv (rs := [.tmp 4]) rfl (.tmp rfl (.nil)) (fun w' h' => ⟨by simp only [retV, eqK], h'.below⟩)

set_option maxRecDepth 20000 in
theorem c74 (w : World) (bt : Nat) (next : Int) (a : Option Addr) (cap : Nat) (L : List LFil) (h fr cnt : Int) (hw : HS w (fps [.blk bt 106 2 [.int .i64 (next), .slice a (L).length cap], .files a cap (L)]) [.blk bt 106 2 [.int .i64 (next), .slice a (L).length cap], .files a cap (L)] w) (hV : VW (pls L)) : Calls Try.prog 74 #[.pointer (some ⟨bt, 0, none⟩), .int .i64 h, .int .i64 fr, .int .i64 cnt] w fun en w' => ∃ g : (Option Addr × Nat) × List LFil, en = .returned (.int .i64 (unlockT (pls L) h fr cnt).2) ∧ pls g.2 = (unlockT (pls L) h fr cnt).1 ∧ HS w (fps [.blk bt 106 2 [.int .i64 (next), .slice a (L).length cap], .files a cap (L)]) [.blk bt 106 2 [.int .i64 (next), .slice g.1.1 (g.2).length g.1.2], .files g.1.1 g.1.2 (g.2)] w' := by
  refine enter (args := [_, _, _, _]) Try.func74 Try.ntmps74 rfl rfl hw ?_
  refine s_seq ?_
  refine s_region ?_
  refine o_h (h_box rfl rfl) rfl (fun b1 _ => ?_)
  refine o_h (h_box rfl rfl) rfl (fun b2 _ => ?_)
  refine o_p (p_pure rfl) rfl ?_
  refine o_nil ?_
  refine s_seq ?_
  refine s_region ?_
  refine o_p (p_pure rfl) rfl ?_
  refine o_p (p_pure rfl) rfl ?_
  refine o_q (q_call rfl fn_100 rfl (fun w1 h1 => c100 w1 bt _ _ L h (h1.rd_blk (Mc := []) (by repeat (first | exact .here | apply Pick.there)) rfl (by simp)) (h1.ft (by repeat (first | exact .here | apply Pick.there))) (by have := (VW.lens hV).1; omega) (fun f hf => by have := (VW.lens hV).2 f hf; omega))) rfl ?_
  refine o_p (p_pure rfl) rfl ?_
  refine o_p (p_pure rfl) rfl ?_
  refine o_p (p_pure rfl) rfl ?_
  refine o_p (p_pure rfl) rfl ?_
  refine o_p (p_pure rfl) rfl ?_
  refine o_p (p_pure rfl) rfl ?_
  refine o_p (p_pure rfl) rfl ?_
  refine o_nil ?_
  refine s_seq ?_
  refine s_seq ?_
  refine s_region ?_
  refine o_p (p_pure rfl) rfl ?_
  first | refine o_q (q_load rfl rfl sz_3 (by repeat (first | exact .here | apply Pick.there)) rfl) rfl ?_ | refine o_q (q_load_at rfl rfl sz_3 (fun w h => (h.rd_blk (Mc := []) (by repeat (first | exact .here | apply Pick.there)) rfl (by simp)))) rfl ?_ | refine o_q (q_load_at rfl rfl sz_3 (fun w h => (HS.ft (a := some ⟨ga, 0, none⟩) (cap := cap) (l := L) h (by repeat (first | exact .here | apply Pick.there))).1.rdj 3 hi rfl)) rfl ?_ | refine o_q (q_load_at rfl rfl sz_3 (fun w h => by have h9 := ((HS.ft (a := some ⟨ga, 0, none⟩) (cap := cap) (l := L) h (by repeat (first | exact .here | apply Pick.there))).at hi).1.rdj 1 hk rfl; rw [hoa] at h9; exact h9)) rfl ?_ | refine o_q (q_load_at rfl rfl sz_3 (fun w h => by have h9 := ((HS.ft (a := some ⟨ga, 0, none⟩) (cap := cap) (l := L) h (by repeat (first | exact .here | apply Pick.there))).at hi).1.rdj 4 hk rfl; rw [hoa] at h9; exact h9)) rfl ?_ | refine o_q (q_load_at rfl rfl sz_3 (fun w h => (h.rd_blk (Mc := []) (b := go) (by repeat (first | exact .here | apply Pick.there)) (by rw [flat_get ov5 _ k 4 _ (nth_get hk) (by decide)]; rfl) (by simp)))) rfl ?_
  first | refine o_q (q_load rfl rfl sz_3 (by repeat (first | exact .here | apply Pick.there)) rfl) rfl ?_ | refine o_q (q_load_at rfl rfl sz_3 (fun w h => (h.rd_blk (Mc := []) (by repeat (first | exact .here | apply Pick.there)) rfl (by simp)))) rfl ?_ | refine o_q (q_load_at rfl rfl sz_3 (fun w h => (HS.ft (a := some ⟨ga, 0, none⟩) (cap := cap) (l := L) h (by repeat (first | exact .here | apply Pick.there))).1.rdj 3 hi rfl)) rfl ?_ | refine o_q (q_load_at rfl rfl sz_3 (fun w h => by have h9 := ((HS.ft (a := some ⟨ga, 0, none⟩) (cap := cap) (l := L) h (by repeat (first | exact .here | apply Pick.there))).at hi).1.rdj 1 hk rfl; rw [hoa] at h9; exact h9)) rfl ?_ | refine o_q (q_load_at rfl rfl sz_3 (fun w h => by have h9 := ((HS.ft (a := some ⟨ga, 0, none⟩) (cap := cap) (l := L) h (by repeat (first | exact .here | apply Pick.there))).at hi).1.rdj 4 hk rfl; rw [hoa] at h9; exact h9)) rfl ?_ | refine o_q (q_load_at rfl rfl sz_3 (fun w h => (h.rd_blk (Mc := []) (b := go) (by repeat (first | exact .here | apply Pick.there)) (by rw [flat_get ov5 _ k 4 _ (nth_get hk) (by decide)]; rfl) (by simp)))) rfl ?_
  refine o_q (q_call rfl fn_94 rfl (fun w1 h1 => c94 w1 _ _)) rfl ?_
  refine o_h (h_buildSlice (cs := [_, _]) rfl rfl sl_146 zr_28 rfl rfl rfl) rfl (fun b3 _ => ?_)
  refine o_q (q_call rfl fn_52 rfl (fun w1 h1 => f52 h1 (by repeat (first | exact .here | apply Pick.there)) (by rfl) (by rfl) (by decide))) rfl ?_
  refine o_p (p_pure rfl) rfl ?_
  refine o_nil ?_
  refine s_seq ?_
  refine s_region ?_
  refine o_p (p_pure rfl) rfl ?_
  refine o_p (p_pure rfl) rfl ?_
  refine o_nil ?_
  refine s_cond rfl (fun h4 => ?_) (fun h4 => ?_)
  · try simp only [decide_eq_true_eq, decide_eq_false_iff_not, Bool.not_eq_true', Bool.not_eq_false', Bool.and_eq_true, Bool.or_eq_true, Bool.and_eq_false_iff, Bool.or_eq_false_iff, Bool.not_true, Bool.not_false] at h4
    refine s_seq ?_
    refine s_region ?_
    refine o_p (p_pure rfl) rfl ?_
    refine o_p (p_pure rfl) rfl ?_
    refine o_nil ?_
    exact s_retv (rs := [.tmp 8]) rfl (.tmp rfl (.nil)) (fun w' h' => ⟨((a, cap), L), by rw [unlockT_e h4]; rfl, by rw [unlockT_e h4], h'.ent (by repeat (first | exact .nil | refine .cons (by repeat (first | exact .here | apply Pick.there)) ?_))⟩)
  · try simp only [decide_eq_true_eq, decide_eq_false_iff_not, Bool.not_eq_true', Bool.not_eq_false', Bool.and_eq_true, Bool.or_eq_true, Bool.and_eq_false_iff, Bool.or_eq_false_iff, Bool.not_true, Bool.not_false] at h4
    have hz := first2_0 h4
    obtain ⟨i, k, hfe, hi, hk, hV3⟩ := findF_some hV hz.1
    rw [hfe]
    obtain ⟨ga, rfl, hcap, hcm⟩ := files_addr (by omega) hw (.there .here)
    obtain ⟨go, hoa, hoc, hom⟩ := file_addr hi (by omega) hw (.there .here)
    dsimp only
    refine s_skip ?_
    refine s_seq ?_
    refine s_region ?_
    refine o_p (p_pure rfl) rfl ?_
    refine o_p (p_pure rfl) rfl ?_
    refine o_p (p_fieldAddr rfl rfl fd_106_0 sz_26 rfl) rfl ?_
    refine o_p (p_fieldAddr rfl rfl fd_26_1 sz_24 rfl) rfl ?_
    first | refine o_q (q_load rfl rfl sz_24 (by repeat (first | exact .here | apply Pick.there)) rfl) rfl ?_ | refine o_q (q_load_at rfl rfl sz_24 (fun w h => (h.rd_blk (Mc := []) (by repeat (first | exact .here | apply Pick.there)) rfl (by simp)))) rfl ?_ | refine o_q (q_load_at rfl rfl sz_24 (fun w h => (HS.ft (a := some ⟨ga, 0, none⟩) (cap := cap) (l := L) h (by repeat (first | exact .here | apply Pick.there))).1.rdj 3 hi rfl)) rfl ?_ | refine o_q (q_load_at rfl rfl sz_24 (fun w h => by have h9 := ((HS.ft (a := some ⟨ga, 0, none⟩) (cap := cap) (l := L) h (by repeat (first | exact .here | apply Pick.there))).at hi).1.rdj 1 hk rfl; rw [hoa] at h9; exact h9)) rfl ?_ | refine o_q (q_load_at rfl rfl sz_24 (fun w h => by have h9 := ((HS.ft (a := some ⟨ga, 0, none⟩) (cap := cap) (l := L) h (by repeat (first | exact .here | apply Pick.there))).at hi).1.rdj 4 hk rfl; rw [hoa] at h9; exact h9)) rfl ?_ | refine o_q (q_load_at rfl rfl sz_24 (fun w h => (h.rd_blk (Mc := []) (b := go) (by repeat (first | exact .here | apply Pick.there)) (by rw [flat_get ov5 _ k 4 _ (nth_get hk) (by decide)]; rfl) (by simp)))) rfl ?_
    refine o_p (p_pure rfl) rfl ?_
    first | refine o_p (p_indexAddr rfl rfl rfl sl_24 (i) (by omega) (by omega) rfl) rfl ?_ | refine o_p (p_indexAddr rfl rfl rfl sl_24 (i) (by omega) (by omega) hoa) rfl ?_
    refine o_p (p_fieldAddr rfl rfl fd_77_2 sz_75 rfl) rfl ?_
    first | refine o_q (q_load rfl rfl sz_75 (by repeat (first | exact .here | apply Pick.there)) rfl) rfl ?_ | refine o_q (q_load_at rfl rfl sz_75 (fun w h => (h.rd_blk (Mc := []) (by repeat (first | exact .here | apply Pick.there)) rfl (by simp)))) rfl ?_ | refine o_q (q_load_at rfl rfl sz_75 (fun w h => (HS.ft (a := some ⟨ga, 0, none⟩) (cap := cap) (l := L) h (by repeat (first | exact .here | apply Pick.there))).1.rdj 3 hi rfl)) rfl ?_ | refine o_q (q_load_at rfl rfl sz_75 (fun w h => by have h9 := ((HS.ft (a := some ⟨ga, 0, none⟩) (cap := cap) (l := L) h (by repeat (first | exact .here | apply Pick.there))).at hi).1.rdj 1 hk rfl; rw [hoa] at h9; exact h9)) rfl ?_ | refine o_q (q_load_at rfl rfl sz_75 (fun w h => by have h9 := ((HS.ft (a := some ⟨ga, 0, none⟩) (cap := cap) (l := L) h (by repeat (first | exact .here | apply Pick.there))).at hi).1.rdj 4 hk rfl; rw [hoa] at h9; exact h9)) rfl ?_ | refine o_q (q_load_at rfl rfl sz_75 (fun w h => (h.rd_blk (Mc := []) (b := go) (by repeat (first | exact .here | apply Pick.there)) (by rw [flat_get ov5 _ k 4 _ (nth_get hk) (by decide)]; rfl) (by simp)))) rfl ?_
    refine o_p (p_pure rfl) rfl ?_
    first | refine o_p (p_indexAddr rfl rfl rfl sl_75 (k) (by omega) (by omega) rfl) rfl ?_ | refine o_p (p_indexAddr rfl rfl rfl sl_75 (k) (by omega) (by omega) hoa) rfl ?_
    refine o_p (p_pure rfl) rfl ?_
    refine o_nil ?_
    refine s_seq ?_
    refine s_weaken (L' := [(6, _), (7, _), (8, _), (12, _)]) (by repeat (first | exact sl_n | refine sl_c rfl ?_)) (fun _ h => h) ?_
    refine s_region ?_
    refine o_p (p_pure rfl) rfl ?_
    refine o_p (p_pure rfl) rfl ?_
    refine o_p (p_fieldAddr rfl rfl fd_48_4 sz_46 rfl) rfl ?_
    first | refine o_q (q_load rfl rfl sz_46 (by repeat (first | exact .here | apply Pick.there)) rfl) rfl ?_ | refine o_q (q_load_at rfl rfl sz_46 (fun w h => (h.rd_blk (Mc := []) (by repeat (first | exact .here | apply Pick.there)) rfl (by simp)))) rfl ?_ | refine o_q (q_load_at rfl rfl sz_46 (fun w h => (HS.ft (a := some ⟨ga, 0, none⟩) (cap := cap) (l := L) h (by repeat (first | exact .here | apply Pick.there))).1.rdj 3 hi rfl)) rfl ?_ | refine o_q (q_load_at rfl rfl sz_46 (fun w h => by have h9 := ((HS.ft (a := some ⟨ga, 0, none⟩) (cap := cap) (l := L) h (by repeat (first | exact .here | apply Pick.there))).at hi).1.rdj 1 hk rfl; rw [hoa] at h9; exact h9)) rfl ?_ | refine o_q (q_load_at rfl rfl sz_46 (fun w h => by have h9 := ((HS.ft (a := some ⟨ga, 0, none⟩) (cap := cap) (l := L) h (by repeat (first | exact .here | apply Pick.there))).at hi).1.rdj 4 hk rfl; rw [hoa] at h9; exact h9)) rfl ?_ | refine o_q (q_load_at rfl rfl sz_46 (fun w h => (h.rd_blk (Mc := []) (b := go) (by repeat (first | exact .here | apply Pick.there)) (by rw [flat_get ov5 _ k 4 _ (nth_get hk) (by decide)]; rfl) (by simp)))) rfl ?_
    refine o_p (p_pure rfl) rfl ?_
    refine o_q (q_call rfl fn_105 rfl (fun w1 h1 => c105 w1 (nth (nth L i).op k).la (nth (nth L i).op k).lc (nth (nth L i).op k).lk 106 #[.pointer (some ⟨b1, 0, none⟩), .pointer (some ⟨b2, 0, none⟩)] ((nth (nth L i).op k).lk.map (eqK fr cnt)) (((HS.ft (a := some ⟨ga, 0, none⟩) (cap := cap) (l := L) h1 (by repeat (first | exact .here | apply Pick.there))).at hi).at hk) (by have := hV3.2.2; omega) (by kernel_rfl) (by simp) (fun j w2 hj h2 => by rw [map_getD_nthB hj]; exact c106 w2 b1 b2 _ fr cnt ((h1.rd_blk (Mc := []) (b := b1) (by repeat (first | exact .here | apply Pick.there)) rfl (by simp)).next h2) ((h1.rd_blk (Mc := []) (b := b2) (by repeat (first | exact .here | apply Pick.there)) rfl (by simp)).next h2)))) rfl ?_
    refine o_p (p_pure rfl) rfl ?_
    refine o_nil ?_
    refine s_seq ?_
    refine s_seq ?_
    refine s_region ?_
    refine o_p (p_pure rfl) rfl ?_
    refine o_p (p_pure rfl) rfl ?_
    refine o_nil ?_
    refine s_cond rfl (fun h5 => ?_) (fun h5 => ?_)
    · try simp only [decide_eq_true_eq, decide_eq_false_iff_not, Bool.not_eq_true', Bool.not_eq_false', Bool.and_eq_true, Bool.or_eq_true, Bool.and_eq_false_iff, Bool.or_eq_false_iff, Bool.not_true, Bool.not_false] at h5
      have hix : ¬ (ixB ((nth (nth L i).op k).lk.map (eqK fr cnt))) < (nth (nth L i).op k).lk.length := by have hq := h5; unfold ixI at hq; rw [List.length_map] at hq; intro h9; rw [if_pos h9] at hq; omega
      refine s_seq ?_
      refine s_region ?_
      refine o_p (p_pure rfl) rfl ?_
      refine o_nil ?_
      exact s_retv (rs := [.tmp 8]) rfl (.tmp rfl (.nil)) (fun w' h' => ⟨((some ⟨ga, 0, none⟩, cap), L), by rw [unlockT, hfe]; simp only [if_true]; rw [if_pos hz.2, nth_pls hi, LFil.pl, nth_plo hk]; skip; rw [if_neg (by simp only [LOpn.pl]; exact hix)]; rfl, by rw [unlockT, hfe]; simp only [if_true]; rw [if_pos hz.2, nth_pls hi, LFil.pl, nth_plo hk]; skip; rw [if_neg (by simp only [LOpn.pl]; exact hix)], h'.ent (by repeat (first | exact .nil | refine .cons (by repeat (first | exact .here | apply Pick.there)) ?_))⟩)
    · try simp only [decide_eq_true_eq, decide_eq_false_iff_not, Bool.not_eq_true', Bool.not_eq_false', Bool.and_eq_true, Bool.or_eq_true, Bool.and_eq_false_iff, Bool.or_eq_false_iff, Bool.not_true, Bool.not_false] at h5
      have hix : (ixB ((nth (nth L i).op k).lk.map (eqK fr cnt))) < (nth (nth L i).op k).lk.length := by have hq := h5; unfold ixI at hq; rw [List.length_map] at hq; split at hq <;> first | assumption | omega
      have hixi : ixI ((nth (nth L i).op k).lk.map (eqK fr cnt)) = ((ixB ((nth (nth L i).op k).lk.map (eqK fr cnt))) : Int) := by unfold ixI; rw [List.length_map, if_pos hix]
      rw [hixi]
      have hl16 : (nth (nth L i).op k).lk.length ≤ 16 := hV3.2.2
      refine s_class (fun w h => HS.lock_at hi hk hoa h (by repeat (first | exact .here | apply Pick.there))) ?_
      refine s_skip ?_
      refine s_seq ?_
      refine s_region ?_
      refine o_p (p_pure rfl) rfl ?_
      refine o_p (p_pure rfl) rfl ?_
      refine o_p (p_pure rfl) rfl ?_
      refine o_p (p_fieldAddr rfl rfl fd_48_4 sz_46 rfl) rfl ?_
      refine o_slot (show _ = Value.pointer (some ⟨go, k * 5 + 4, none⟩) from by rw [Nat.zero_add]) ?_
      first | refine o_q (q_load rfl rfl sz_46 (by repeat (first | exact .here | apply Pick.there)) rfl) rfl ?_ | refine o_q (q_load_at rfl rfl sz_46 (fun w h => (h.rd_blk (Mc := []) (by repeat (first | exact .here | apply Pick.there)) rfl (by simp)))) rfl ?_ | refine o_q (q_load_at rfl rfl sz_46 (fun w h => (HS.ft (a := some ⟨ga, 0, none⟩) (cap := cap) (l := L) h (by repeat (first | exact .here | apply Pick.there))).1.rdj 3 hi rfl)) rfl ?_ | refine o_q (q_load_at rfl rfl sz_46 (fun w h => by have h9 := ((HS.ft (a := some ⟨ga, 0, none⟩) (cap := cap) (l := L) h (by repeat (first | exact .here | apply Pick.there))).at hi).1.rdj 1 hk rfl; rw [hoa] at h9; exact h9)) rfl ?_ | refine o_q (q_load_at rfl rfl sz_46 (fun w h => by have h9 := ((HS.ft (a := some ⟨ga, 0, none⟩) (cap := cap) (l := L) h (by repeat (first | exact .here | apply Pick.there))).at hi).1.rdj 4 hk rfl; rw [hoa] at h9; exact h9)) rfl ?_ | refine o_q (q_load_at rfl rfl sz_46 (fun w h => (h.rd_blk (Mc := []) (b := go) (by repeat (first | exact .here | apply Pick.there)) (by rw [flat_get ov5 _ k 4 _ (nth_get hk) (by decide)]; rfl) (by simp)))) rfl ?_
      refine o_p (p_pure rfl) rfl ?_
      refine o_p (p_pure rfl) rfl ?_
      refine o_p (p_pure rfl) rfl ?_
      try (refine o_slot (i64w (by omega) (by omega)) ?_)
      refine o_h (h_callF (Cs := [.own (.slice (nth (nth L i).op k).la (nth (nth L i).op k).lk.length (nth (nth L i).op k).lc) 62 3 (nth (nth L i).op k).lk.length ((nth (nth L i).op k).lk.flatMap Lock.vals)]) rfl fn_107 rfl (by repeat (first | exact Picks.nil | (apply Picks.cons; · (repeat (first | exact .here | apply Pick.there))))) (fun w1 h1 hf => by have h9 := c107 w1 (nth (nth L i).op k).la (ixB ((nth (nth L i).op k).lk.map (eqK fr cnt))) ((ixB ((nth (nth L i).op k).lk.map (eqK fr cnt))) + 1) (nth (nth L i).op k).lk.length (nth (nth L i).op k).lc ((nth (nth L i).op k).lk.flatMap Lock.vals) hf (flat_one lv1 _) (by omega) (by omega) (by omega); rw [others_flat lv3, show (nth (nth L i).op k).lk.length - ((ixB ((nth (nth L i).op k).lk.map (eqK fr cnt))) + 1 - (ixB ((nth (nth L i).op k).lk.map (eqK fr cnt)))) = (others (nth (nth L i).op k).lk (ixB ((nth (nth L i).op k).lk.map (eqK fr cnt)))).length by rw [others_len hix]; omega] at h9; exact h9)) rfl (fun _ _ => ?_)
      refine o_p (p_pure rfl) rfl ?_
      refine o_p (p_fieldAddr rfl rfl fd_48_4 sz_46 rfl) rfl ?_
      refine o_slot (show _ = Value.pointer (some ⟨go, k * 5 + 4, none⟩) from by rw [Nat.zero_add]) ?_
      refine o_h0 (h_store rfl rfl rfl sz_46 rfl (by repeat (first | exact .here | apply Put.there)) (by rw [flat_length ov5]; omega) rfl) (fun _ _ => ?_)
      refine o_nil ?_
      refine s_seq ?_
      refine s_region ?_
      refine o_p (p_pure rfl) rfl ?_
      refine o_nil ?_
      exact s_retv (rs := [.tmp 8]) rfl (.tmp rfl (.nil)) (fun w' h' => ⟨((some ⟨ga, 0, none⟩, cap), L.set i { nth L i with op := (nth L i).op.set k { (nth (nth L i).op k) with lk := others (nth (nth L i).op k).lk (ixB ((nth (nth L i).op k).lk.map (eqK fr cnt))) } }), by rw [unlockT, hfe]; simp only [if_true]; rw [if_pos hz.2, nth_pls hi, LFil.pl, nth_plo hk]; skip; rw [if_pos (by simp only [LOpn.pl]; exact hix)]; rfl, by rw [unlockT, hfe]; simp only [if_true]; rw [if_pos hz.2, nth_pls hi, LFil.pl, nth_plo hk]; skip; rw [if_pos (by simp only [LOpn.pl]; exact hix)]; exact upd_lk (o := { (nth (nth L i).op k) with lk := others (nth (nth L i).op k).lk (ixB ((nth (nth L i).op k).lk.map (eqK fr cnt))) }) (u := fun o => { o with lk := others o.lk (ixB (o.lk.map (eqK fr cnt))) }) hi hk rfl, by have h2 := HS.lock_put (o := { (nth (nth L i).op k) with lk := others (nth (nth L i).op k).lk (ixB ((nth (nth L i).op k).lk.map (eqK fr cnt))) }) hi hk hoa (h'.ent (Bs := [.blk go 48 ((nth L i).oc * 5) _, .locks (nth (nth L i).op k).la (nth (nth L i).op k).lc (others (nth (nth L i).op k).lk (ixB ((nth (nth L i).op k).lk.map (eqK fr cnt)))), .star ((others (nth L i).op k).map subO), .blk ga 77 (cap * 4) (L.flatMap LFil.vals), .star ((others L i).map subF), .blk bt 106 2 [.int .i64 next, .slice (some ⟨ga, 0, none⟩) L.length cap]]) (by repeat (first | exact .nil | refine .cons (by repeat (first | exact .here | apply Pick.there)) ?_))) (flat_set ov5 (nth L i).op k 4 [.slice (nth (nth L i).op k).la (others (nth (nth L i).op k).lk (ixB ((nth (nth L i).op k).lk.map (eqK fr cnt)))).length (nth (nth L i).op k).lc] (nth (nth L i).op k) _ (nth_get hk) (by simp [LOpn.vals, setMany]) (by simp)) hoc hom hcap hcm; rw [List.length_set]; exact h2.ent (by repeat (first | exact .nil | refine .cons (by repeat (first | exact .here | apply Pick.there)) ?_))⟩)

set_option maxRecDepth 20000 in
theorem c109 (w : World) (k : Lock) (o : Bool) : Calls Try.prog 109 #[.agg #[.int .i64 k.fr, .int .i64 k.cnt, .bool k.ex], .bool o] w fun en w' => en = .returned (.bool (rdK k.ex o)) ∧ Below w.heap.size w w' := by
  refine enter (args := [_, _]) Try.func109 Try.ntmps109 rfl rfl (HS.refl w []) ?_
  refine s_seq ?_
  refine s_region ?_
  refine o_h (h_box rfl rfl) rfl (fun b1 _ => ?_)
  refine o_p (p_pure rfl) rfl ?_
  refine o_nil ?_
  refine s_seq ?_
  refine s_region ?_
  refine o_p (p_fieldAddr rfl rfl fd_62_2 sz_4 rfl) rfl ?_
  refine o_q (q_load rfl rfl sz_4 (by repeat (first | exact .here | apply Pick.there)) rfl) rfl ?_
  refine o_p (p_pure rfl) rfl ?_
  refine o_and 2 7 9 _ _ rfl
    (by
      intro hg2
      have hs3 := hg2; try simp only [decide_eq_true_eq, decide_eq_false_iff_not, Bool.not_eq_true', Bool.not_eq_false', Bool.and_eq_true, Bool.or_eq_true, Bool.and_eq_false_iff, Bool.or_eq_false_iff, Bool.not_true, Bool.not_false] at hs3
      refine o_on 7 _ rfl rfl hg2 ?_
      refine o_p (p_pure rfl) rfl ?_
      refine o_p (p_pickt rfl rfl hg2 rfl) rfl ?_
      refine o_nil ?_
      exact s_joinN 2 9 _ rfl rfl rfl (fun w h => by first | exact h | exact h.ent (by repeat (first | exact .nil | refine .cons (by repeat (first | exact .here | apply Pick.there)) ?_))))
    (by
      intro hg4
      have hs5 := hg4; try simp only [decide_eq_true_eq, decide_eq_false_iff_not, Bool.not_eq_true', Bool.not_eq_false', Bool.and_eq_true, Bool.or_eq_true, Bool.and_eq_false_iff, Bool.or_eq_false_iff, Bool.not_true, Bool.not_false] at hs5
      refine o_off 7 _ rfl rfl hg4 rfl ?_
      refine o_p (p_pickf rfl rfl hg4 rfl) rfl ?_
      refine o_nil ?_
      exact s_joinN 2 9 _ rfl rfl rfl (fun w h => by first | exact h | exact h.ent (by repeat (first | exact .nil | refine .cons (by repeat (first | exact .here | apply Pick.there)) ?_)))) ?_
  refine o_p (p_pure rfl) rfl ?_
  refine o_nil ?_
  exact s_retv (rs := [.tmp 4]) rfl (.tmp rfl (.nil)) (fun w' h' => ⟨by simp only [retV, rdK], h'.below⟩)

set_option maxRecDepth 20000 in
theorem c110 (w : World) (k : Lock) (o : Bool) : Calls Try.prog 110 #[.agg #[.int .i64 k.fr, .int .i64 k.cnt, .bool k.ex], .bool o] w fun en w' => en = .returned (.bool (wrK k.ex o)) ∧ Below w.heap.size w w' := by
  refine enter (args := [_, _]) Try.func110 Try.ntmps110 rfl rfl (HS.refl w []) ?_
  refine s_seq ?_
  refine s_region ?_
  refine o_h (h_box rfl rfl) rfl (fun b1 _ => ?_)
  refine o_p (p_pure rfl) rfl ?_
  refine o_nil ?_
  refine s_seq ?_
  refine s_region ?_
  refine o_p (p_fieldAddr rfl rfl fd_62_2 sz_4 rfl) rfl ?_
  refine o_q (q_load rfl rfl sz_4 (by repeat (first | exact .here | apply Pick.there)) rfl) rfl ?_
  refine o_p (p_pure rfl) rfl ?_
  refine o_p (p_pure rfl) rfl ?_
  refine o_or 2 8 10 _ _ rfl
    (by
      intro hg2
      have hs3 := hg2; try simp only [decide_eq_true_eq, decide_eq_false_iff_not, Bool.not_eq_true', Bool.not_eq_false', Bool.and_eq_true, Bool.or_eq_true, Bool.and_eq_false_iff, Bool.or_eq_false_iff, Bool.not_true, Bool.not_false] at hs3
      refine o_on 8 _ rfl rfl hg2 ?_
      refine o_p (p_pure rfl) rfl ?_
      refine o_p (p_pickf rfl rfl hg2 rfl) rfl ?_
      refine o_nil ?_
      exact s_joinN 2 10 _ rfl rfl rfl (fun w h => by first | exact h | exact h.ent (by repeat (first | exact .nil | refine .cons (by repeat (first | exact .here | apply Pick.there)) ?_))))
    (by
      intro hg4
      have hs5 := hg4; try simp only [decide_eq_true_eq, decide_eq_false_iff_not, Bool.not_eq_true', Bool.not_eq_false', Bool.and_eq_true, Bool.or_eq_true, Bool.and_eq_false_iff, Bool.or_eq_false_iff, Bool.not_true, Bool.not_false] at hs5
      refine o_off 8 _ rfl rfl hg4 rfl ?_
      refine o_p (p_pickt rfl rfl hg4 rfl) rfl ?_
      refine o_nil ?_
      exact s_joinN 2 10 _ rfl rfl rfl (fun w h => by first | exact h | exact h.ent (by repeat (first | exact .nil | refine .cons (by repeat (first | exact .here | apply Pick.there)) ?_)))) ?_
  refine o_p (p_pure rfl) rfl ?_
  refine o_nil ?_
  exact s_retv (rs := [.tmp 4]) rfl (.tmp rfl (.nil)) (fun w' h' => ⟨by simp only [retV, wrK], h'.below⟩)

set_option maxRecDepth 20000 in
theorem c108 (w : World) (bt : Nat) (a : Option Addr) (cap : Nat) (L : List LFil) (h : Int) (q : Lock) (acc f : Nat) (kp : Bool → Bool → Bool) (ht1 : Rd w [] bt 1 (.slice a L.length cap)) (hs : Ft w [] a L) (hV : VW (pls L)) (hf : isFn Try.prog f = true) (hacc : acc = 1 ∨ acc = 2) (hk0 : ∀ (k : Lock) (o : Bool) w1, Calls Try.prog f #[.agg #[.int .i64 k.fr, .int .i64 k.cnt, .bool k.ex], .bool o] w1 fun en w2 => en = .returned (.bool (kp k.ex o)) ∧ Below w1.heap.size w1 w2) : Calls Try.prog 108 #[.pointer (some ⟨bt, 0, none⟩), .int .i64 h, .agg #[.int .i64 q.fr, .int .i64 q.cnt, .bool q.ex], .int .i64 (acc : Int), .func (.func f) #[] #[]] w fun en w' => en = .returned (.int .i64 (mayT (pls L) h q acc kp)) ∧ Below w.heap.size w w' := by
  refine enter (args := [_, _, _, _, _]) Try.func108 Try.ntmps108 rfl rfl (HS.refl w []) ?_
  refine s_seq ?_
  refine s_region ?_
  refine o_h (h_box rfl rfl) rfl (fun b1 _ => ?_)
  refine o_p (p_pure rfl) rfl ?_
  refine o_nil ?_
  refine s_seq ?_
  refine s_region ?_
  refine o_p (p_pure rfl) rfl ?_
  refine o_p (p_pure rfl) rfl ?_
  refine o_q (q_call rfl fn_100 rfl (fun w1 h1 => c100 w1 bt a cap L h (ht1.next h1) (hs.later h1) (by have := (VW.lens hV).1; omega) (fun f hf => by have := (VW.lens hV).2 f hf; omega))) rfl ?_
  refine o_p (p_pure rfl) rfl ?_
  refine o_p (p_pure rfl) rfl ?_
  refine o_p (p_pure rfl) rfl ?_
  refine o_p (p_pure rfl) rfl ?_
  refine o_p (p_pure rfl) rfl ?_
  refine o_p (p_pure rfl) rfl ?_
  refine o_p (p_pure rfl) rfl ?_
  refine o_nil ?_
  refine s_seq ?_
  refine s_seq ?_
  refine s_region ?_
  refine o_p (p_pure rfl) rfl ?_
  refine o_p (p_fieldAddr rfl rfl fd_62_0 sz_3 rfl) rfl ?_
  first | refine o_q (q_load rfl rfl sz_3 (by repeat (first | exact .here | apply Pick.there)) rfl) rfl ?_ | refine o_q (q_load_old rfl rfl sz_3 (ht1)) rfl ?_ | refine o_q (q_load_old rfl rfl sz_3 (rfl (Rw.rd hs.1 hi))) rfl ?_ | refine o_q (q_load_old rfl rfl sz_3 (((hs.at hi).1.rdj 1 hk rfl))) rfl ?_ | refine o_q (q_load_old rfl rfl sz_3 (rfl (Rw.rd (hs.at hi).1 hnl))) rfl ?_ | refine o_q (q_load_old rfl rfl sz_3 (rfl (Rw.rd ((hs.at hi).at hnl) hml))) rfl ?_
  refine o_p (p_fieldAddr rfl rfl fd_62_1 sz_3 rfl) rfl ?_
  first | refine o_q (q_load rfl rfl sz_3 (by repeat (first | exact .here | apply Pick.there)) rfl) rfl ?_ | refine o_q (q_load_old rfl rfl sz_3 (ht1)) rfl ?_ | refine o_q (q_load_old rfl rfl sz_3 (rfl (Rw.rd hs.1 hi))) rfl ?_ | refine o_q (q_load_old rfl rfl sz_3 (((hs.at hi).1.rdj 1 hk rfl))) rfl ?_ | refine o_q (q_load_old rfl rfl sz_3 (rfl (Rw.rd (hs.at hi).1 hnl))) rfl ?_ | refine o_q (q_load_old rfl rfl sz_3 (rfl (Rw.rd ((hs.at hi).at hnl) hml))) rfl ?_
  refine o_q (q_call rfl fn_94 rfl (fun w1 h1 => c94 w1 _ _)) rfl ?_
  refine o_h (h_buildSlice (cs := [_, _]) rfl rfl sl_146 zr_28 rfl rfl rfl) rfl (fun b2 _ => ?_)
  refine o_q (q_call rfl fn_52 rfl (fun w1 h1 => f52 h1 (by repeat (first | exact .here | apply Pick.there)) (by rfl) (by rfl) (by decide))) rfl ?_
  refine o_p (p_pure rfl) rfl ?_
  refine o_nil ?_
  refine s_seq ?_
  refine s_region ?_
  refine o_p (p_pure rfl) rfl ?_
  refine o_p (p_pure rfl) rfl ?_
  refine o_nil ?_
  refine s_cond rfl (fun h3 => ?_) (fun h3 => ?_)
  · try simp only [decide_eq_true_eq, decide_eq_false_iff_not, Bool.not_eq_true', Bool.not_eq_false', Bool.and_eq_true, Bool.or_eq_true, Bool.and_eq_false_iff, Bool.or_eq_false_iff, Bool.not_true, Bool.not_false] at h3
    refine s_seq ?_
    refine s_region ?_
    refine o_p (p_pure rfl) rfl ?_
    refine o_p (p_pure rfl) rfl ?_
    refine o_nil ?_
    exact s_retv (rs := [.tmp 10]) rfl (.tmp rfl (.nil)) (fun w' h' => ⟨by rw [mayT_e h3]; rfl, h'.below⟩)
  · try simp only [decide_eq_true_eq, decide_eq_false_iff_not, Bool.not_eq_true', Bool.not_eq_false', Bool.and_eq_true, Bool.or_eq_true, Bool.and_eq_false_iff, Bool.or_eq_false_iff, Bool.not_true, Bool.not_false] at h3
    have hz := first2_0 h3
    obtain ⟨i, k, hfe, hi, hk, hV3⟩ := findF_some hV hz.1
    rw [hfe]
    dsimp only
    have h8 := and_8 (x := (nth (nth L i).op k).ac) (by have := openE_r hV3.1; omega)
    have h10 : decide (Gx.bits .and .i64 (nth (nth L i).op k).ac (acc : Int) = 0) = !hasB (nth (nth L i).op k).ac acc := by rcases hacc with rfl | rfl <;> first | exact h8.2.2.1 | exact h8.2.1
    refine s_skip ?_
    refine s_seq ?_
    refine s_region ?_
    refine o_p (p_pure rfl) rfl ?_
    refine o_p (p_pure rfl) rfl ?_
    refine o_p (p_fieldAddr rfl rfl fd_106_0 sz_26 rfl) rfl ?_
    refine o_p (p_fieldAddr rfl rfl fd_26_1 sz_24 rfl) rfl ?_
    first | refine o_q (q_load rfl rfl sz_24 (by repeat (first | exact .here | apply Pick.there)) rfl) rfl ?_ | refine o_q (q_load_old rfl rfl sz_24 (ht1)) rfl ?_ | refine o_q (q_load_old rfl rfl sz_24 (rfl (Rw.rd hs.1 hi))) rfl ?_ | refine o_q (q_load_old rfl rfl sz_24 (((hs.at hi).1.rdj 1 hk rfl))) rfl ?_ | refine o_q (q_load_old rfl rfl sz_24 (rfl (Rw.rd (hs.at hi).1 hnl))) rfl ?_ | refine o_q (q_load_old rfl rfl sz_24 (rfl (Rw.rd ((hs.at hi).at hnl) hml))) rfl ?_
    refine o_p (p_pure rfl) rfl ?_
    first | refine o_p (p_indexAddr rfl rfl rfl sl_24 (i) (by omega) (by omega) rfl) rfl ?_ | refine o_p (p_indexAddr rfl rfl rfl sl_24 (i) (by omega) (by omega) (Rw.some hs.1 (by omega))) rfl ?_ | refine o_p (p_indexAddr rfl rfl rfl sl_24 (i) (by omega) (by omega) (Rw.some (hs.at hi).1 (by omega))) rfl ?_ | refine o_p (p_indexAddr rfl rfl rfl sl_24 (i) (by omega) (by omega) (Rw.some ((hs.at hi).at hnl) (by omega))) rfl ?_
    first | refine o_q (q_loadn rfl rfl sz_77 (by repeat (first | exact .here | apply Pick.there)) rfl) rfl ?_ | refine o_q (q_load_oldn _ rfl rfl sz_77 ht1) rfl ?_ | refine o_q (q_load_oldn _ rfl rfl sz_77 rfl (Rw.rd hs.1 hi)) rfl ?_ | refine o_q (q_load_oldn _ rfl rfl sz_77 ((hs.at hi).1.rdj 1 hk rfl)) rfl ?_ | refine o_q (q_load_oldn _ rfl rfl sz_77 rfl (Rw.rd (hs.at hi).1 hnl)) rfl ?_ | refine o_q (q_load_oldn _ rfl rfl sz_77 rfl (Rw.rd ((hs.at hi).at hnl) hml)) rfl ?_
    refine o_h (h_alloc rfl zr_77) rfl (fun b4 _ => ?_)
    refine o_h0 (h_store rfl rfl rfl sz_77 rfl (by repeat (first | exact .here | apply Put.there)) (by simp only [setMany_length, List.length_set, List.length_cons, List.length_nil, List.length_map]; omega) rfl) (fun _ _ => ?_)
    refine o_nil ?_
    refine s_seq ?_
    refine s_seq ?_
    refine s_weaken (L' := [(3, _), (4, _), (7, _), (10, _), (12, _), (14, _)]) (by repeat (first | exact sl_n | refine sl_c rfl ?_)) (fun _ h => h) ?_
    refine s_region ?_
    refine o_p (p_fieldAddr rfl rfl fd_77_2 sz_75 rfl) rfl ?_
    first | refine o_q (q_load rfl rfl sz_75 (by repeat (first | exact .here | apply Pick.there)) rfl) rfl ?_ | refine o_q (q_load_old rfl rfl sz_75 (ht1)) rfl ?_ | refine o_q (q_load_old rfl rfl sz_75 (rfl (Rw.rd hs.1 hi))) rfl ?_ | refine o_q (q_load_old rfl rfl sz_75 (((hs.at hi).1.rdj 1 hk rfl))) rfl ?_ | refine o_q (q_load_old rfl rfl sz_75 (rfl (Rw.rd (hs.at hi).1 hnl))) rfl ?_ | refine o_q (q_load_old rfl rfl sz_75 (rfl (Rw.rd ((hs.at hi).at hnl) hml))) rfl ?_
    refine o_p (p_pure rfl) rfl ?_
    first | refine o_p (p_indexAddr rfl rfl rfl sl_75 (k) (by omega) (by omega) rfl) rfl ?_ | refine o_p (p_indexAddr rfl rfl rfl sl_75 (k) (by omega) (by omega) (Rw.some hs.1 (by omega))) rfl ?_ | refine o_p (p_indexAddr rfl rfl rfl sl_75 (k) (by omega) (by omega) (Rw.some (hs.at hi).1 (by omega))) rfl ?_ | refine o_p (p_indexAddr rfl rfl rfl sl_75 (k) (by omega) (by omega) (Rw.some ((hs.at hi).at hnl) (by omega))) rfl ?_
    refine o_p (p_fieldAddr rfl rfl fd_48_1 sz_3 rfl) rfl ?_
    first | refine o_q (q_load rfl rfl sz_3 (by repeat (first | exact .here | apply Pick.there)) rfl) rfl ?_ | refine o_q (q_load_old rfl rfl sz_3 (ht1)) rfl ?_ | refine o_q (q_load_old rfl rfl sz_3 (rfl (Rw.rd hs.1 hi))) rfl ?_ | refine o_q (q_load_old rfl rfl sz_3 (((hs.at hi).1.rdj 1 hk rfl))) rfl ?_ | refine o_q (q_load_old rfl rfl sz_3 (rfl (Rw.rd (hs.at hi).1 hnl))) rfl ?_ | refine o_q (q_load_old rfl rfl sz_3 (rfl (Rw.rd ((hs.at hi).at hnl) hml))) rfl ?_
    refine o_p (p_pure rfl) rfl ?_
    refine o_p (p_pure rfl) rfl ?_
    refine o_p (p_pure rfl) rfl ?_
    refine o_nil ?_
    refine s_cond rfl (fun h5 => ?_) (fun h5 => ?_)
    · try simp only [decide_eq_true_eq, decide_eq_false_iff_not, Bool.not_eq_true', Bool.not_eq_false', Bool.and_eq_true, Bool.or_eq_true, Bool.and_eq_false_iff, Bool.or_eq_false_iff, Bool.not_true, Bool.not_false] at h5
      have hno : hasB (nth (nth L i).op k).ac acc = false := by have hq := h5; have h9 := h10; rw [decide_eq_true hq] at h9; simpa using h9.symm
      have hno2 : ¬ hasB (nth (nth L i).op k).pl.ac acc = true := by show ¬ hasB (nth (nth L i).op k).ac acc = true; rw [hno]; decide
      refine s_seq ?_
      refine s_region ?_
      refine o_p (p_pure rfl) rfl ?_
      refine o_nil ?_
      exact s_retv (rs := [.tmp 10]) rfl (.tmp rfl (.nil)) (fun w' h' => ⟨by rw [mayT, hfe]; simp only [if_true]; rw [if_pos hz.2, nth_pls hi, LFil.pl, nth_plo hk]; skip; rw [if_neg hno2]; rfl, h'.below⟩)
    · try simp only [decide_eq_true_eq, decide_eq_false_iff_not, Bool.not_eq_true', Bool.not_eq_false', Bool.and_eq_true, Bool.or_eq_true, Bool.and_eq_false_iff, Bool.or_eq_false_iff, Bool.not_true, Bool.not_false] at h5
      have hyes : hasB (nth (nth L i).op k).ac acc = true := by have hq := h5; have h9 := h10; rw [decide_eq_false hq] at h9; simpa using h9.symm
      have hyes2 : hasB (nth (nth L i).op k).pl.ac acc = true := hyes
      have hl32 := (VW.lens hV).2 _ (mem_nth hi)
      refine s_skip ?_
      refine s_seq ?_
      refine s_seq ?_
      refine s_region ?_
      refine o_p (p_fieldAddr rfl rfl fd_77_2 sz_75 rfl) rfl ?_
      first | refine o_q (q_load rfl rfl sz_75 (by repeat (first | exact .here | apply Pick.there)) rfl) rfl ?_ | refine o_q (q_load_old rfl rfl sz_75 (ht1)) rfl ?_ | refine o_q (q_load_old rfl rfl sz_75 (rfl (Rw.rd hs.1 hi))) rfl ?_ | refine o_q (q_load_old rfl rfl sz_75 (((hs.at hi).1.rdj 1 hk rfl))) rfl ?_ | refine o_q (q_load_old rfl rfl sz_75 (rfl (Rw.rd (hs.at hi).1 hnl))) rfl ?_ | refine o_q (q_load_old rfl rfl sz_75 (rfl (Rw.rd ((hs.at hi).at hnl) hml))) rfl ?_
      first | refine o_p (p_len_slice rfl rfl Try.underlying75) rfl ?_ | refine o_q (q_len_own rfl rfl Try.underlying75 (by repeat (first | exact .here | apply Pick.there))) rfl ?_
      refine o_p (p_pure rfl) rfl ?_
      refine o_nil ?_
      refine s_block ?_
      refine s_weaken (L' := [(4, _), (7, _), (10, _), (12, _), (55, _), (56, _), (57, _)]) (by repeat (first | exact sl_n | refine sl_c rfl ?_)) (fun _ h => h) ?_
      refine s_loopI (α := Nat) [10, 15, 16, 18, 57, 58, 59, 60, 61, 62, 63, 64, 65, 66, 67, 68, 69, 70, 71, 72, 73, 74, 75, 76, 77, 78, 79, 80, 81] (fun n => [(57, .int .i64 (n : Int))]) (fun _ => HS w [] [.blk b1 62 3 q.vals]) (fun n => n ≤ (nth L i).op.length ∧ ∀ n2, n2 < n → ∀ m, m < (nth (nth L i).op n2).lk.length → (ovl (nth (nth (nth L i).op n2).lk m) q && kp (nth (nth (nth L i).op n2).lk m).ex (decide (n2 ≠ k))) = false) (fun n => (nth L i).op.length - n) 0 ⟨by omega, fun n2 h2 => absurd h2 (Nat.not_lt_zero n2)⟩ (by repeat (first | exact sl_n | refine sl_c rfl ?_)) (fun w h => h.ent (by repeat (first | exact .nil | refine .cons (by repeat (first | exact .here | apply Pick.there)) ?_))) (fun n hn => ?_)
      obtain ⟨hn1, hn2⟩ := hn
      refine s_seq ?_
      refine s_region ?_
      refine o_p (p_pure rfl) rfl ?_
      refine o_nil ?_
      refine s_seq ?_
      refine s_cond rfl (fun h6 => ?_) (fun h6 => ?_)
      · try simp only [decide_eq_true_eq, decide_eq_false_iff_not, Bool.not_eq_true', Bool.not_eq_false', Bool.and_eq_true, Bool.or_eq_true, Bool.and_eq_false_iff, Bool.or_eq_false_iff, Bool.not_true, Bool.not_false] at h6
        have hnl : n < (nth L i).op.length := by omega
        have hv9 := VW.at hV hi hnl
        refine s_skip ?_
        refine s_seq ?_
        refine s_block ?_
        refine s_seq ?_
        refine s_region ?_
        refine o_p (p_pure rfl) rfl ?_
        first | refine o_p (p_indexAddr rfl rfl rfl sl_75 (n) (by omega) (by omega) rfl) rfl ?_ | refine o_p (p_indexAddr rfl rfl rfl sl_75 (n) (by omega) (by omega) (Rw.some hs.1 (by omega))) rfl ?_ | refine o_p (p_indexAddr rfl rfl rfl sl_75 (n) (by omega) (by omega) (Rw.some (hs.at hi).1 (by omega))) rfl ?_ | refine o_p (p_indexAddr rfl rfl rfl sl_75 (n) (by omega) (by omega) (Rw.some ((hs.at hi).at hnl) (by omega))) rfl ?_
        first | refine o_q (q_loadn rfl rfl sz_48 (by repeat (first | exact .here | apply Pick.there)) rfl) rfl ?_ | refine o_q (q_load_oldn _ rfl rfl sz_48 ht1) rfl ?_ | refine o_q (q_load_oldn _ rfl rfl sz_48 rfl (Rw.rd hs.1 hi)) rfl ?_ | refine o_q (q_load_oldn _ rfl rfl sz_48 ((hs.at hi).1.rdj 1 hk rfl)) rfl ?_ | refine o_q (q_load_oldn _ rfl rfl sz_48 rfl (Rw.rd (hs.at hi).1 hnl)) rfl ?_ | refine o_q (q_load_oldn _ rfl rfl sz_48 rfl (Rw.rd ((hs.at hi).at hnl) hml)) rfl ?_
        refine o_h (h_alloc rfl zr_48) rfl (fun b7 _ => ?_)
        refine o_p (p_pure rfl) rfl ?_
        refine o_h0 (h_store rfl rfl rfl sz_48 rfl (by repeat (first | exact .here | apply Put.there)) (by simp only [setMany_length, List.length_set, List.length_cons, List.length_nil, List.length_map]; omega) rfl) (fun _ _ => ?_)
        refine o_nil ?_
        refine s_seq ?_
        refine s_region ?_
        refine o_p (p_fieldAddr rfl rfl fd_48_4 sz_46 rfl) rfl ?_
        first | refine o_q (q_load rfl rfl sz_46 (by repeat (first | exact .here | apply Pick.there)) rfl) rfl ?_ | refine o_q (q_load_old rfl rfl sz_46 (ht1)) rfl ?_ | refine o_q (q_load_old rfl rfl sz_46 (rfl (Rw.rd hs.1 hi))) rfl ?_ | refine o_q (q_load_old rfl rfl sz_46 (((hs.at hi).1.rdj 1 hk rfl))) rfl ?_ | refine o_q (q_load_old rfl rfl sz_46 (rfl (Rw.rd (hs.at hi).1 hnl))) rfl ?_ | refine o_q (q_load_old rfl rfl sz_46 (rfl (Rw.rd ((hs.at hi).at hnl) hml))) rfl ?_
        first | refine o_p (p_len_slice rfl rfl Try.underlying46) rfl ?_ | refine o_q (q_len_own rfl rfl Try.underlying46 (by repeat (first | exact .here | apply Pick.there))) rfl ?_
        refine o_p (p_pure rfl) rfl ?_
        refine o_nil ?_
        refine s_block ?_
        refine s_loopI (α := Nat) [10, 18, 65, 66, 67, 68, 69, 70, 71, 72, 73, 74, 75, 76, 77, 78, 79, 80] (fun m => [(65, .int .i64 (m : Int))]) (fun _ => HS w [] [.blk b7 48 5 (nth (nth L i).op n).vals, .blk b1 62 3 q.vals]) (fun m => m ≤ (nth (nth L i).op n).lk.length ∧ ∀ m2, m2 < m → (ovl (nth (nth (nth L i).op n).lk m2) q && kp (nth (nth (nth L i).op n).lk m2).ex (decide (n ≠ k))) = false) (fun m => (nth (nth L i).op n).lk.length - m) 0 ⟨by omega, fun n2 h2 => absurd h2 (Nat.not_lt_zero n2)⟩ (by repeat (first | exact sl_n | refine sl_c rfl ?_)) (fun w h => h.ent (by repeat (first | exact .nil | refine .cons (by repeat (first | exact .here | apply Pick.there)) ?_))) (fun m hm => ?_)
        obtain ⟨hm1, hm3⟩ := hm
        refine s_seq ?_
        refine s_region ?_
        refine o_p (p_pure rfl) rfl ?_
        refine o_nil ?_
        refine s_seq ?_
        refine s_cond rfl (fun h8 => ?_) (fun h8 => ?_)
        · try simp only [decide_eq_true_eq, decide_eq_false_iff_not, Bool.not_eq_true', Bool.not_eq_false', Bool.and_eq_true, Bool.or_eq_true, Bool.and_eq_false_iff, Bool.or_eq_false_iff, Bool.not_true, Bool.not_false] at h8
          have hml : m < (nth (nth L i).op n).lk.length := by omega
          refine s_skip ?_
          refine s_seq ?_
          refine s_block ?_
          refine s_seq ?_
          refine s_region ?_
          first | refine o_p (p_indexAddr rfl rfl rfl sl_46 (m) (by omega) (by omega) rfl) rfl ?_ | refine o_p (p_indexAddr rfl rfl rfl sl_46 (m) (by omega) (by omega) (Rw.some hs.1 (by omega))) rfl ?_ | refine o_p (p_indexAddr rfl rfl rfl sl_46 (m) (by omega) (by omega) (Rw.some (hs.at hi).1 (by omega))) rfl ?_ | refine o_p (p_indexAddr rfl rfl rfl sl_46 (m) (by omega) (by omega) (Rw.some ((hs.at hi).at hnl) (by omega))) rfl ?_
          first | refine o_q (q_loadn rfl rfl sz_62 (by repeat (first | exact .here | apply Pick.there)) rfl) rfl ?_ | refine o_q (q_load_oldn _ rfl rfl sz_62 ht1) rfl ?_ | refine o_q (q_load_oldn _ rfl rfl sz_62 rfl (Rw.rd hs.1 hi)) rfl ?_ | refine o_q (q_load_oldn _ rfl rfl sz_62 ((hs.at hi).1.rdj 1 hk rfl)) rfl ?_ | refine o_q (q_load_oldn _ rfl rfl sz_62 rfl (Rw.rd (hs.at hi).1 hnl)) rfl ?_ | refine o_q (q_load_oldn _ rfl rfl sz_62 rfl (Rw.rd ((hs.at hi).at hnl) hml)) rfl ?_
          refine o_h (h_alloc rfl zr_62) rfl (fun b9 _ => ?_)
          refine o_h0 (h_store rfl rfl rfl sz_62 rfl (by repeat (first | exact .here | apply Put.there)) (by simp only [setMany_length, List.length_set, List.length_cons, List.length_nil, List.length_map]; omega) rfl) (fun _ _ => ?_)
          refine o_nil ?_
          refine s_seq ?_
          refine s_region ?_
          first | refine o_q (q_loadn rfl rfl sz_62 (by repeat (first | exact .here | apply Pick.there)) rfl) rfl ?_ | refine o_q (q_load_oldn _ rfl rfl sz_62 ht1) rfl ?_ | refine o_q (q_load_oldn _ rfl rfl sz_62 rfl (Rw.rd hs.1 hi)) rfl ?_ | refine o_q (q_load_oldn _ rfl rfl sz_62 ((hs.at hi).1.rdj 1 hk rfl)) rfl ?_ | refine o_q (q_load_oldn _ rfl rfl sz_62 rfl (Rw.rd (hs.at hi).1 hnl)) rfl ?_ | refine o_q (q_load_oldn _ rfl rfl sz_62 rfl (Rw.rd ((hs.at hi).at hnl) hml)) rfl ?_
          first | refine o_q (q_loadn rfl rfl sz_62 (by repeat (first | exact .here | apply Pick.there)) rfl) rfl ?_ | refine o_q (q_load_oldn _ rfl rfl sz_62 ht1) rfl ?_ | refine o_q (q_load_oldn _ rfl rfl sz_62 rfl (Rw.rd hs.1 hi)) rfl ?_ | refine o_q (q_load_oldn _ rfl rfl sz_62 ((hs.at hi).1.rdj 1 hk rfl)) rfl ?_ | refine o_q (q_load_oldn _ rfl rfl sz_62 rfl (Rw.rd (hs.at hi).1 hnl)) rfl ?_ | refine o_q (q_load_oldn _ rfl rfl sz_62 rfl (Rw.rd ((hs.at hi).at hnl) hml)) rfl ?_
          refine o_q (q_call rfl fn_124 rfl (fun w1 h1 => c124 w1 _ q (okL_nth hv9.2.1 hml) hz.2)) rfl ?_
          refine o_p (p_pure rfl) rfl ?_
          refine o_and 7 72 79 _ _ rfl
            (by
              intro hg10
              have hs11 := hg10; try simp only [decide_eq_true_eq, decide_eq_false_iff_not, Bool.not_eq_true', Bool.not_eq_false', Bool.and_eq_true, Bool.or_eq_true, Bool.and_eq_false_iff, Bool.or_eq_false_iff, Bool.not_true, Bool.not_false] at hs11
              refine o_on 72 _ rfl rfl hg10 ?_
              refine o_p (p_pure rfl) rfl ?_
              refine o_on 72 _ rfl rfl hg10 ?_
              first | refine o_q (q_loadn rfl rfl sz_62 (by repeat (first | exact .here | apply Pick.there)) rfl) rfl ?_ | refine o_q (q_load_oldn _ rfl rfl sz_62 ht1) rfl ?_ | refine o_q (q_load_oldn _ rfl rfl sz_62 rfl (Rw.rd hs.1 hi)) rfl ?_ | refine o_q (q_load_oldn _ rfl rfl sz_62 ((hs.at hi).1.rdj 1 hk rfl)) rfl ?_ | refine o_q (q_load_oldn _ rfl rfl sz_62 rfl (Rw.rd (hs.at hi).1 hnl)) rfl ?_ | refine o_q (q_load_oldn _ rfl rfl sz_62 rfl (Rw.rd ((hs.at hi).at hnl) hml)) rfl ?_
              refine o_on 72 _ rfl rfl hg10 ?_
              refine o_p (p_pure rfl) rfl ?_
              refine o_on 72 _ rfl rfl hg10 ?_
              refine o_p (p_pure rfl) rfl ?_
              refine o_on 72 _ rfl rfl hg10 ?_
              refine o_p (p_pure rfl) rfl ?_
              refine o_slot (show _ = Value.bool (decide (n ≠ k)) from by congr 1; have e9 : ((n : Int) = (k : Int)) ↔ n = k := Int.ofNat_inj; simp [e9]) ?_
              refine o_on 72 _ rfl rfl hg10 ?_
              refine o_q (q_callv rfl rfl hf rfl (fun w1 h1 => hk0 (nth (nth (nth L i).op n).lk m) (decide (n ≠ k)) w1)) rfl ?_
              refine o_p (p_pickt rfl rfl hg10 rfl) rfl ?_
              refine o_nil ?_
              exact s_joinN 7 79 _ rfl rfl rfl (fun w h => by first | exact h | exact h.ent (by repeat (first | exact .nil | refine .cons (by repeat (first | exact .here | apply Pick.there)) ?_))))
            (by
              intro hg12
              have hs13 := hg12; try simp only [decide_eq_true_eq, decide_eq_false_iff_not, Bool.not_eq_true', Bool.not_eq_false', Bool.and_eq_true, Bool.or_eq_true, Bool.and_eq_false_iff, Bool.or_eq_false_iff, Bool.not_true, Bool.not_false] at hs13
              refine o_off 72 _ rfl rfl hg12 rfl ?_
              refine o_off 72 _ rfl rfl hg12 rfl ?_
              refine o_off 72 _ rfl rfl hg12 rfl ?_
              refine o_off 72 _ rfl rfl hg12 rfl ?_
              refine o_off 72 _ rfl rfl hg12 rfl ?_
              refine o_off 72 _ rfl rfl hg12 rfl ?_
              refine o_p (p_pickf rfl rfl hg12 rfl) rfl ?_
              refine o_nil ?_
              exact s_joinN 7 79 _ rfl rfl rfl (fun w h => by first | exact h | exact h.ent (by repeat (first | exact .nil | refine .cons (by repeat (first | exact .here | apply Pick.there)) ?_)))) ?_
          refine o_nil ?_
          refine s_cond rfl (fun h14 => ?_) (fun h14 => ?_)
          · try simp only [decide_eq_true_eq, decide_eq_false_iff_not, Bool.not_eq_true', Bool.not_eq_false', Bool.and_eq_true, Bool.or_eq_true, Bool.and_eq_false_iff, Bool.or_eq_false_iff, Bool.not_true, Bool.not_false] at h14
            have hhit : (ovl (nth (nth (nth L i).op n).lk m) q && kp (nth (nth (nth L i).op n).lk m).ex (decide (n ≠ k))) = true := by have hq := h14; simpa using hq
            refine s_seq ?_
            refine s_weaken (L' := [(4, _), (7, _), (12, _), (15, _), (16, _), (55, _), (56, _), (57, _), (58, _), (59, _), (60, _), (61, _), (62, _), (63, _), (64, _), (65, _)]) (by repeat (first | exact sl_n | refine sl_c rfl ?_)) (fun _ h => h) ?_
            refine s_region ?_
            refine o_p (p_pure rfl) rfl ?_
            refine o_nil ?_
            exact s_retv (rs := [.tmp 10]) rfl (.tmp rfl (.nil)) (fun w' h' => ⟨by rw [mayT, hfe]; simp only [if_true]; rw [if_pos hz.2, nth_pls hi, LFil.pl, nth_plo hk]; skip; rw [if_pos hyes2, if_pos (mayB_hit (n := n) (m := m) (by simp; omega) (by rw [nth_plo hnl]; exact hml) (by rw [nth_plo hnl]; exact hhit))]; rfl, h'.below⟩)
          · try simp only [decide_eq_true_eq, decide_eq_false_iff_not, Bool.not_eq_true', Bool.not_eq_false', Bool.and_eq_true, Bool.or_eq_true, Bool.and_eq_false_iff, Bool.or_eq_false_iff, Bool.not_true, Bool.not_false] at h14
            have hmiss : (ovl (nth (nth (nth L i).op n).lk m) q && kp (nth (nth (nth L i).op n).lk m).ex (decide (n ≠ k))) = false := by have hq := h14; (try simp only [Bool.and_eq_false_iff] at hq ⊢); first | exact hq | simpa using hq
            refine s_skip ?_
            refine s_blk ?_
            refine s_weaken (L' := [(4, _), (7, _), (12, _), (15, _), (16, _), (55, _), (56, _), (57, _), (58, _), (59, _), (60, _), (61, _), (62, _), (63, _), (64, _), (65, _)]) (by repeat (first | exact sl_n | refine sl_c rfl ?_)) (fun _ h => h) ?_
            refine s_region ?_
            refine o_p (p_pure rfl) rfl ?_
            try (refine o_slot (i64w (by omega) (by omega)) ?_)
            refine o_p (p_pure rfl) rfl ?_
            refine o_nil ?_
            exact s_backI (m + 1) (by omega) ⟨by omega, fun m2 h2 => (Nat.lt_or_ge m2 m).elim (hm3 m2) (fun h3 => by obtain rfl : m2 = m := (by omega); exact hmiss)⟩ (by repeat (first | exact sl_n | refine sl_c rfl ?_)) (fun w h => h.ent (by repeat (first | exact .nil | refine .cons (by repeat (first | exact .here | apply Pick.there)) ?_)))
        · try simp only [decide_eq_true_eq, decide_eq_false_iff_not, Bool.not_eq_true', Bool.not_eq_false', Bool.and_eq_true, Bool.or_eq_true, Bool.and_eq_false_iff, Bool.or_eq_false_iff, Bool.not_true, Bool.not_false] at h8
          refine s_exit_to rfl ?_
          refine s_blk ?_
          refine s_region ?_
          refine o_p (p_pure rfl) rfl ?_
          try (refine o_slot (i64w (by omega) (by omega)) ?_)
          refine o_p (p_pure rfl) rfl ?_
          refine o_nil ?_
          exact s_backI (n + 1) (by omega) ⟨by omega, fun n2 h2 m2 hm2 => (Nat.lt_or_ge n2 n).elim (fun h3 => hn2 n2 h3 m2 hm2) (fun h3 => by obtain rfl : n2 = n := (by omega); exact hm3 m2 (by omega))⟩ (by repeat (first | exact sl_n | refine sl_c rfl ?_)) (fun w h => h.ent (by repeat (first | exact .nil | refine .cons (by repeat (first | exact .here | apply Pick.there)) ?_)))
      · try simp only [decide_eq_true_eq, decide_eq_false_iff_not, Bool.not_eq_true', Bool.not_eq_false', Bool.and_eq_true, Bool.or_eq_true, Bool.and_eq_false_iff, Bool.or_eq_false_iff, Bool.not_true, Bool.not_false] at h6
        refine s_exit_to rfl ?_
        refine s_seq ?_
        refine s_region ?_
        refine o_p (p_pure rfl) rfl ?_
        refine o_nil ?_
        exact s_retv (rs := [.tmp 10]) rfl (.tmp rfl (.nil)) (fun w' h' => ⟨by rw [mayT, hfe]; simp only [if_true]; rw [if_pos hz.2, nth_pls hi, LFil.pl, nth_plo hk]; skip; rw [if_pos hyes2, if_neg (by rw [mayB_no (fun n9 h9 m9 h8 => by rw [List.length_map] at h9; rw [nth_plo h9] at h8 ⊢; exact hn2 n9 (by omega) m9 h8)]; decide)]; rfl, h'.below⟩)

set_option maxRecDepth 20000 in
theorem c76 (w : World) (bt : Nat) (a : Option Addr) (cap : Nat) (L : List LFil) (h : Int) (q : Lock) (ht1 : Rd w [] bt 1 (.slice a L.length cap)) (hs : Ft w [] a L) (hV : VW (pls L)) : Calls Try.prog 76 #[.pointer (some ⟨bt, 0, none⟩), .int .i64 h, .agg #[.int .i64 q.fr, .int .i64 q.cnt, .bool q.ex]] w fun en w' => en = .returned (.int .i64 (mayT (pls L) h q 1 rdK)) ∧ Below w.heap.size w w' := by
  refine enter (args := [_, _, _]) Try.func76 Try.ntmps76 rfl rfl (HS.refl w []) ?_
  refine s_seq ?_
  refine s_region ?_
  refine o_h (h_box rfl rfl) rfl (fun b1 _ => ?_)
  refine o_p (p_pure rfl) rfl ?_
  refine o_nil ?_
  refine s_seq ?_
  refine s_region ?_
  refine o_p (p_pure rfl) rfl ?_
  refine o_p (p_pure rfl) rfl ?_
  refine o_q (q_loadn rfl rfl sz_62 (by repeat (first | exact .here | apply Pick.there)) rfl) rfl ?_
  refine o_q (q_call rfl fn_108 rfl (fun w1 h1 => c108 w1 bt a cap L h q 1 109 rdK (ht1.next h1) (hs.later h1) hV (by kernel_rfl) (by simp) (fun k o w2 => c109 w2 k o))) rfl ?_
  refine o_p (p_pure rfl) rfl ?_
  refine o_nil ?_
  exact s_retv (rs := [.tmp 6]) rfl (.tmp rfl (.nil)) (fun w' h' => ⟨rfl, h'.below⟩)

set_option maxRecDepth 20000 in
theorem c78 (w : World) (bt : Nat) (a : Option Addr) (cap : Nat) (L : List LFil) (h : Int) (q : Lock) (ht1 : Rd w [] bt 1 (.slice a L.length cap)) (hs : Ft w [] a L) (hV : VW (pls L)) : Calls Try.prog 78 #[.pointer (some ⟨bt, 0, none⟩), .int .i64 h, .agg #[.int .i64 q.fr, .int .i64 q.cnt, .bool q.ex]] w fun en w' => en = .returned (.int .i64 (mayT (pls L) h q 2 wrK)) ∧ Below w.heap.size w w' := by
  refine enter (args := [_, _, _]) Try.func78 Try.ntmps78 rfl rfl (HS.refl w []) ?_
  refine s_seq ?_
  refine s_region ?_
  refine o_h (h_box rfl rfl) rfl (fun b1 _ => ?_)
  refine o_p (p_pure rfl) rfl ?_
  refine o_nil ?_
  refine s_seq ?_
  refine s_region ?_
  refine o_p (p_pure rfl) rfl ?_
  refine o_p (p_pure rfl) rfl ?_
  refine o_q (q_loadn rfl rfl sz_62 (by repeat (first | exact .here | apply Pick.there)) rfl) rfl ?_
  refine o_q (q_call rfl fn_108 rfl (fun w1 h1 => c108 w1 bt a cap L h q 2 110 wrK (ht1.next h1) (hs.later h1) hV (by kernel_rfl) (by simp) (fun k o w2 => c110 w2 k o))) rfl ?_
  refine o_p (p_pure rfl) rfl ?_
  refine o_nil ?_
  exact s_retv (rs := [.tmp 6]) rfl (.tmp rfl (.nil)) (fun w' h' => ⟨rfl, h'.below⟩)

end Go.Proofs
