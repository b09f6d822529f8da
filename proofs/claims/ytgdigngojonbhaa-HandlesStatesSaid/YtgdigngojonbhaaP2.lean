/- Contracts of the program's functions, proved by walking them with the rules of the Gx texts; without conditions beyond those that each contract names. -/
import Derived.WalkKit
import Derived.Deep.Draws
import Derived.Lib.Strings
import Derived.Laws.BytesArg
import Derived.Laws.IdiomStrings
import Derived.Deep.Quiet
import Derived.Laws.StructEq
import Derived.ChangeKeysEq
import Derived.Laws.Externs
import Derived.Lib.Overlaps
import Derived.Carry
import Derived.Laws.Small
import Derived.Test.YtgdigngojonbhaaProg
import Derived.KernelRfl
import Derived.ProofKit
import Derived.OpenShut
import Derived.Test.YtgdigngojonbhaaP1
namespace Go.Proofs
open Go Go.RowKit Gx
set_option linter.unusedVariables false
set_option linter.unusedSimpArgs false
attribute [local irreducible] Go.Calls Gx.S Gx.O Gx.D Gx.OpP Gx.OpQ Gx.OpH

theorem ov_127 : isOv Try.prog 127 24 4 := ⟨_, Try.func127, rfl, rfl, by kernel_rfl, by kernel_rfl⟩
theorem fn_107 : isFn Try.prog 107 = true := by kernel_rfl
theorem fn_108 : isFn Try.prog 108 = true := by kernel_rfl


set_option maxRecDepth 20000 in
theorem c107b (w : World) (gg i j n cap : Nat) (xs : List Value) (M : List Nat) (hw : HS w M [.blk gg 62 (cap * 3) xs] w) (hnc : n ≤ cap) (hcm : cap ≤ maxLen) (hxl : xs.length = n * 3) (hx1 : ∀ u ∈ xs, u.oneCell' = true) (hmx : n ≤ 9223372036854775807) (hij : i < j) (hjn : j ≤ n) : Calls Try.prog 107 #[.slice (some ⟨gg, 0, none⟩) n cap, .int .i64 i, .int .i64 j] w fun en w' => en = .returned (.slice (some ⟨gg, 0, none⟩) (n - (j - i)) cap) ∧ HS w M [.own (.slice (some ⟨gg, 0, none⟩) (n - (j - i)) cap) 62 3 (n - (j - i)) (xs.take (i * 3) ++ xs.drop (j * 3))] w' := by
  refine enter (args := [_, _, _]) Try.func107 Try.ntmps107 rfl rfl hw ?_
  refine s_seq ?_
  refine s_region ?_
  refine o_p (p_pure rfl) rfl ?_
  refine o_nil ?_
  refine s_seq ?_
  refine s_region ?_
  refine o_p (p_pure rfl) rfl ?_
  refine o_p (p_pure rfl) rfl ?_
  refine o_p (p_pure rfl) rfl ?_
  refine o_p (p_pure rfl) rfl ?_
  refine o_p (p_len_slice rfl rfl Try.underlying46) rfl ?_
  refine o_p (p_slice3 i j n rfl rfl rfl rfl rfl sl_46 rfl rfl rfl (by omega) (by omega) (by omega)) rfl ?_
  refine o_nil ?_
  refine s_seq ?_
  refine s_seq ?_
  refine s_region ?_
  refine o_p (p_pure rfl) rfl ?_
  refine o_p (p_pure rfl) rfl ?_
  refine o_p (p_pure rfl) rfl ?_
  refine o_nil ?_
  refine s_cond rfl (fun h1 => ?_) (fun h1 => ?_)
  · try simp only [decide_eq_true_eq, decide_eq_false_iff_not, Bool.not_eq_true', Bool.not_eq_false', Bool.and_eq_true, Bool.or_eq_true, Bool.and_eq_false_iff, Bool.or_eq_false_iff, Bool.not_true, Bool.not_false] at h1
    exfalso; first | omega | (simp at h1; done) | (simp_all; done)
  · try simp only [decide_eq_true_eq, decide_eq_false_iff_not, Bool.not_eq_true', Bool.not_eq_false', Bool.and_eq_true, Bool.or_eq_true, Bool.and_eq_false_iff, Bool.or_eq_false_iff, Bool.not_true, Bool.not_false] at h1
    refine s_skip ?_
    refine s_seq ?_
    refine s_region ?_
    refine o_p (p_pure rfl) rfl ?_
    refine o_p (p_len_slice rfl rfl Try.underlying46) rfl ?_
    refine o_p (p_pure rfl) rfl ?_
    refine o_nil ?_
    refine s_seq ?_
    refine s_draw [6] mixed ?_
    refine d_p 0 rfl (p_pure rfl) (by kernel_rfl) rfl rfl ?_
    refine d_p 1 rfl (p_pure rfl) (by kernel_rfl) rfl rfl ?_
    refine d_p 2 rfl (p_slice _ _ 0 i rfl rfl sl_46 rfl ⟨_, _, rfl, rfl⟩ (by omega) (by omega)) (by kernel_rfl) rfl rfl ?_
    refine d_slot (show _ = Value.slice (some ⟨gg, 0, none⟩) i cap from by rw [subA_zero] <;> (congr 1 <;> omega)) ?_
    refine d_p 3 rfl (p_pure rfl) (by kernel_rfl) rfl rfl ?_
    refine d_p 4 rfl (p_pure rfl) (by kernel_rfl) rfl rfl ?_
    refine d_p 5 rfl (p_slice _ _ j n rfl rfl sl_46 ⟨_, _, rfl, rfl⟩ rfl (by omega) (by omega)) (by kernel_rfl) rfl rfl ?_
    refine d_h 6 rfl (h_append_in (cut xs (j * 3) ((n - j) * 3)) rfl rfl rfl sl_46 Try.underlying46 aPt (by omega) (src_cut (j * 3) ((n - j) * 3) (fun hk => subA_lt (by omega)) aPk) (cut_length _ _ _ (by omega)) (by rw [cut_length _ _ _ (by omega)]; omega) (cut_one hx1 _ _)) (by kernel_rfl) (fun w h => h.ent aEt) rfl (fun _ _ => ?_)
    refine d_turn [] (by kernel_rfl) ?_
    refine d_slot (show _ = Value.slice (some ⟨gg, 0, none⟩) (n - (j - i)) cap from by first | rfl | (congr 1 <;> first | rfl | omega)) ?_
    refine d_p 7 rfl (p_pure rfl) (by kernel_rfl) rfl rfl ?_
    refine d_nil (by kernel_rfl) (fun w h => h.ent aEt) ?_
    refine s_seq ?_
    refine s_region ?_
    refine o_p (p_pure rfl) rfl ?_
    refine o_p (p_pure rfl) rfl ?_
    refine o_p (p_len_slice rfl rfl Try.underlying46) rfl ?_
    refine o_p (p_pure rfl) rfl ?_
    refine o_p (p_slice _ _ (n - (j - i)) n rfl rfl sl_46 ⟨_, _, rfl, (by omega)⟩ ⟨_, _, rfl, rfl⟩ (by omega) (by omega)) rfl ?_
    refine o_slot (show _ = Value.slice (some ⟨gg, (n - (j - i)) * 3, none⟩) (j - i) (cap - (n - (j - i))) from by rw [subA_lt (by omega)] <;> (congr 1 <;> omega)) ?_
    refine o_h0 (h_clear rfl rfl sl_46 zr_62 rfl rfl (by simp) aPt (fun _ => rfl) (by simp only [setMany_length]; omega)) (fun _ _ => ?_)
    refine o_nil ?_
    refine s_seq ?_
    refine s_region ?_
    refine o_p (p_pure rfl) rfl ?_
    refine o_p (p_pure rfl) rfl ?_
    refine o_nil ?_
    exact s_retv (rs := [.tmp 6]) rfl (.tmp rfl (.nil)) (fun w' h' => ⟨rfl, (HS.to_own (n := n - (j - i)) (xs := xs.take (i * 3) ++ xs.drop (j * 3)) (ds := zrow [.int .i64 0, .int .i64 0, .bool false] ((j - i) * 3)) aPk h' (by have hq := del_in (xs := xs) (zs := zrow [.int .i64 0, .int .i64 0, .bool false] ((j - i) * 3)) (p := i * 3) (q := j * 3) (N := n * 3) hxl (by omega) (by omega) (by rw [zrow_length]; omega); rw [show (n - j) * 3 = n * 3 - j * 3 from by omega, show (n - (j - i)) * 3 = n * 3 - (j * 3 - i * 3) from by omega]; exact hq) (by simp only [List.length_append, List.length_take, List.length_drop]; omega) (by omega) (by omega)).ent aEt⟩)

theorem c107 (w : World) (a : Option Addr) (i j n cap : Nat) (xs : List Value) (hw : HS w (fps [.own (.slice a n cap) 62 3 n xs]) [.own (.slice a n cap) 62 3 n xs] w) (hx1 : ∀ u ∈ xs, u.oneCell' = true) (hmx : n ≤ 9223372036854775807) (hij : i < j) (hjn : j ≤ n) : Calls Try.prog 107 #[.slice a n cap, .int .i64 i, .int .i64 j] w fun en w' => ∃ g : Unit, en = .returned (.slice a (n - (j - i)) cap) ∧ True ∧ HS w (fps [.own (.slice a n cap) 62 3 n xs]) [.own (.slice a (n - (j - i)) cap) 62 3 (n - (j - i)) (xs.take (i * 3) ++ xs.drop (j * 3))] w' := by
  obtain ⟨gg, rfl, _, hnc, hcm, hxl, hb⟩ := hw.own_blk (by omega) .here
  exact (c107b w gg i j n cap xs _ hb hnc hcm hxl hx1 hmx hij hjn).mono fun en w' h => ⟨(), h.1, trivial, h.2⟩

set_option maxRecDepth 20000 in
theorem c117b (w : World) (gg i j n cap : Nat) (xs : List Value) (M : List Nat) (hw : HS w M [.blk gg 48 (cap * 5) xs] w) (hnc : n ≤ cap) (hcm : cap ≤ maxLen) (hxl : xs.length = n * 5) (hx1 : ∀ u ∈ xs, u.oneCell' = true) (hmx : n ≤ 9223372036854775807) (hij : i < j) (hjn : j ≤ n) : Calls Try.prog 117 #[.slice (some ⟨gg, 0, none⟩) n cap, .int .i64 i, .int .i64 j] w fun en w' => en = .returned (.slice (some ⟨gg, 0, none⟩) (n - (j - i)) cap) ∧ HS w M [.own (.slice (some ⟨gg, 0, none⟩) (n - (j - i)) cap) 48 5 (n - (j - i)) (xs.take (i * 5) ++ xs.drop (j * 5))] w' := by
  refine enter (args := [_, _, _]) Try.func117 Try.ntmps117 rfl rfl hw ?_
  refine s_seq ?_
  refine s_region ?_
  refine o_p (p_pure rfl) rfl ?_
  refine o_nil ?_
  refine s_seq ?_
  refine s_region ?_
  refine o_p (p_pure rfl) rfl ?_
  refine o_p (p_pure rfl) rfl ?_
  refine o_p (p_pure rfl) rfl ?_
  refine o_p (p_pure rfl) rfl ?_
  refine o_p (p_len_slice rfl rfl Try.underlying75) rfl ?_
  refine o_p (p_slice3 i j n rfl rfl rfl rfl rfl sl_75 rfl rfl rfl (by omega) (by omega) (by omega)) rfl ?_
  refine o_nil ?_
  refine s_seq ?_
  refine s_seq ?_
  refine s_region ?_
  refine o_p (p_pure rfl) rfl ?_
  refine o_p (p_pure rfl) rfl ?_
  refine o_p (p_pure rfl) rfl ?_
  refine o_nil ?_
  refine s_cond rfl (fun h1 => ?_) (fun h1 => ?_)
  · try simp only [decide_eq_true_eq, decide_eq_false_iff_not, Bool.not_eq_true', Bool.not_eq_false', Bool.and_eq_true, Bool.or_eq_true, Bool.and_eq_false_iff, Bool.or_eq_false_iff, Bool.not_true, Bool.not_false] at h1
    exfalso; first | omega | (simp at h1; done) | (simp_all; done)
  · try simp only [decide_eq_true_eq, decide_eq_false_iff_not, Bool.not_eq_true', Bool.not_eq_false', Bool.and_eq_true, Bool.or_eq_true, Bool.and_eq_false_iff, Bool.or_eq_false_iff, Bool.not_true, Bool.not_false] at h1
    refine s_skip ?_
    refine s_seq ?_
    refine s_region ?_
    refine o_p (p_pure rfl) rfl ?_
    refine o_p (p_len_slice rfl rfl Try.underlying75) rfl ?_
    refine o_p (p_pure rfl) rfl ?_
    refine o_nil ?_
    refine s_seq ?_
    refine s_draw [6] mixed ?_
    refine d_p 0 rfl (p_pure rfl) (by kernel_rfl) rfl rfl ?_
    refine d_p 1 rfl (p_pure rfl) (by kernel_rfl) rfl rfl ?_
    refine d_p 2 rfl (p_slice _ _ 0 i rfl rfl sl_75 rfl ⟨_, _, rfl, rfl⟩ (by omega) (by omega)) (by kernel_rfl) rfl rfl ?_
    refine d_slot (show _ = Value.slice (some ⟨gg, 0, none⟩) i cap from by rw [subA_zero] <;> (congr 1 <;> omega)) ?_
    refine d_p 3 rfl (p_pure rfl) (by kernel_rfl) rfl rfl ?_
    refine d_p 4 rfl (p_pure rfl) (by kernel_rfl) rfl rfl ?_
    refine d_p 5 rfl (p_slice _ _ j n rfl rfl sl_75 ⟨_, _, rfl, rfl⟩ rfl (by omega) (by omega)) (by kernel_rfl) rfl rfl ?_
    refine d_h 6 rfl (h_append_in (cut xs (j * 5) ((n - j) * 5)) rfl rfl rfl sl_75 Try.underlying75 aPt (by omega) (src_cut (j * 5) ((n - j) * 5) (fun hk => subA_lt (by omega)) aPk) (cut_length _ _ _ (by omega)) (by rw [cut_length _ _ _ (by omega)]; omega) (cut_one hx1 _ _)) (by kernel_rfl) (fun w h => h.ent aEt) rfl (fun _ _ => ?_)
    refine d_turn [] (by kernel_rfl) ?_
    refine d_slot (show _ = Value.slice (some ⟨gg, 0, none⟩) (n - (j - i)) cap from by first | rfl | (congr 1 <;> first | rfl | omega)) ?_
    refine d_p 7 rfl (p_pure rfl) (by kernel_rfl) rfl rfl ?_
    refine d_nil (by kernel_rfl) (fun w h => h.ent aEt) ?_
    refine s_seq ?_
    refine s_region ?_
    refine o_p (p_pure rfl) rfl ?_
    refine o_p (p_pure rfl) rfl ?_
    refine o_p (p_len_slice rfl rfl Try.underlying75) rfl ?_
    refine o_p (p_pure rfl) rfl ?_
    refine o_p (p_slice _ _ (n - (j - i)) n rfl rfl sl_75 ⟨_, _, rfl, (by omega)⟩ ⟨_, _, rfl, rfl⟩ (by omega) (by omega)) rfl ?_
    refine o_slot (show _ = Value.slice (some ⟨gg, (n - (j - i)) * 5, none⟩) (j - i) (cap - (n - (j - i))) from by rw [subA_lt (by omega)] <;> (congr 1 <;> omega)) ?_
    refine o_h0 (h_clear rfl rfl sl_75 zr_48 rfl rfl (by simp) aPt (fun _ => rfl) (by simp only [setMany_length]; omega)) (fun _ _ => ?_)
    refine o_nil ?_
    refine s_seq ?_
    refine s_region ?_
    refine o_p (p_pure rfl) rfl ?_
    refine o_p (p_pure rfl) rfl ?_
    refine o_nil ?_
    exact s_retv (rs := [.tmp 6]) rfl (.tmp rfl (.nil)) (fun w' h' => ⟨rfl, (HS.to_own (n := n - (j - i)) (xs := xs.take (i * 5) ++ xs.drop (j * 5)) (ds := zrow [.int .i64 0, .int .i64 0, .int .i64 0, .bool false, .slice none 0 0] ((j - i) * 5)) aPk h' (by have hq := del_in (xs := xs) (zs := zrow [.int .i64 0, .int .i64 0, .int .i64 0, .bool false, .slice none 0 0] ((j - i) * 5)) (p := i * 5) (q := j * 5) (N := n * 5) hxl (by omega) (by omega) (by rw [zrow_length]; omega); rw [show (n - j) * 5 = n * 5 - j * 5 from by omega, show (n - (j - i)) * 5 = n * 5 - (j * 5 - i * 5) from by omega]; exact hq) (by simp only [List.length_append, List.length_take, List.length_drop]; omega) (by omega) (by omega)).ent aEt⟩)

theorem c117 (w : World) (a : Option Addr) (i j n cap : Nat) (xs : List Value) (hw : HS w (fps [.own (.slice a n cap) 48 5 n xs]) [.own (.slice a n cap) 48 5 n xs] w) (hx1 : ∀ u ∈ xs, u.oneCell' = true) (hmx : n ≤ 9223372036854775807) (hij : i < j) (hjn : j ≤ n) : Calls Try.prog 117 #[.slice a n cap, .int .i64 i, .int .i64 j] w fun en w' => ∃ g : Unit, en = .returned (.slice a (n - (j - i)) cap) ∧ True ∧ HS w (fps [.own (.slice a n cap) 48 5 n xs]) [.own (.slice a (n - (j - i)) cap) 48 5 (n - (j - i)) (xs.take (i * 5) ++ xs.drop (j * 5))] w' := by
  obtain ⟨gg, rfl, _, hnc, hcm, hxl, hb⟩ := hw.own_blk (by omega) .here
  exact (c117b w gg i j n cap xs _ hb hnc hcm hxl hx1 hmx hij hjn).mono fun en w' h => ⟨(), h.1, trivial, h.2⟩

set_option maxRecDepth 20000 in
theorem c118b (w : World) (gg i j n cap : Nat) (xs : List Value) (M : List Nat) (hw : HS w M [.blk gg 77 (cap * 4) xs] w) (hnc : n ≤ cap) (hcm : cap ≤ maxLen) (hxl : xs.length = n * 4) (hx1 : ∀ u ∈ xs, u.oneCell' = true) (hmx : n ≤ 9223372036854775807) (hij : i < j) (hjn : j ≤ n) : Calls Try.prog 118 #[.slice (some ⟨gg, 0, none⟩) n cap, .int .i64 i, .int .i64 j] w fun en w' => en = .returned (.slice (some ⟨gg, 0, none⟩) (n - (j - i)) cap) ∧ HS w M [.own (.slice (some ⟨gg, 0, none⟩) (n - (j - i)) cap) 77 4 (n - (j - i)) (xs.take (i * 4) ++ xs.drop (j * 4))] w' := by
  refine enter (args := [_, _, _]) Try.func118 Try.ntmps118 rfl rfl hw ?_
  refine s_seq ?_
  refine s_region ?_
  refine o_p (p_pure rfl) rfl ?_
  refine o_nil ?_
  refine s_seq ?_
  refine s_region ?_
  refine o_p (p_pure rfl) rfl ?_
  refine o_p (p_pure rfl) rfl ?_
  refine o_p (p_pure rfl) rfl ?_
  refine o_p (p_pure rfl) rfl ?_
  refine o_p (p_len_slice rfl rfl Try.underlying24) rfl ?_
  refine o_p (p_slice3 i j n rfl rfl rfl rfl rfl sl_24 rfl rfl rfl (by omega) (by omega) (by omega)) rfl ?_
  refine o_nil ?_
  refine s_seq ?_
  refine s_seq ?_
  refine s_region ?_
  refine o_p (p_pure rfl) rfl ?_
  refine o_p (p_pure rfl) rfl ?_
  refine o_p (p_pure rfl) rfl ?_
  refine o_nil ?_
  refine s_cond rfl (fun h1 => ?_) (fun h1 => ?_)
  · try simp only [decide_eq_true_eq, decide_eq_false_iff_not, Bool.not_eq_true', Bool.not_eq_false', Bool.and_eq_true, Bool.or_eq_true, Bool.and_eq_false_iff, Bool.or_eq_false_iff, Bool.not_true, Bool.not_false] at h1
    exfalso; first | omega | (simp at h1; done) | (simp_all; done)
  · try simp only [decide_eq_true_eq, decide_eq_false_iff_not, Bool.not_eq_true', Bool.not_eq_false', Bool.and_eq_true, Bool.or_eq_true, Bool.and_eq_false_iff, Bool.or_eq_false_iff, Bool.not_true, Bool.not_false] at h1
    refine s_skip ?_
    refine s_seq ?_
    refine s_region ?_
    refine o_p (p_pure rfl) rfl ?_
    refine o_p (p_len_slice rfl rfl Try.underlying24) rfl ?_
    refine o_p (p_pure rfl) rfl ?_
    refine o_nil ?_
    refine s_seq ?_
    refine s_draw [6] mixed ?_
    refine d_p 0 rfl (p_pure rfl) (by kernel_rfl) rfl rfl ?_
    refine d_p 1 rfl (p_pure rfl) (by kernel_rfl) rfl rfl ?_
    refine d_p 2 rfl (p_slice _ _ 0 i rfl rfl sl_24 rfl ⟨_, _, rfl, rfl⟩ (by omega) (by omega)) (by kernel_rfl) rfl rfl ?_
    refine d_slot (show _ = Value.slice (some ⟨gg, 0, none⟩) i cap from by rw [subA_zero] <;> (congr 1 <;> omega)) ?_
    refine d_p 3 rfl (p_pure rfl) (by kernel_rfl) rfl rfl ?_
    refine d_p 4 rfl (p_pure rfl) (by kernel_rfl) rfl rfl ?_
    refine d_p 5 rfl (p_slice _ _ j n rfl rfl sl_24 ⟨_, _, rfl, rfl⟩ rfl (by omega) (by omega)) (by kernel_rfl) rfl rfl ?_
    refine d_h 6 rfl (h_append_in (cut xs (j * 4) ((n - j) * 4)) rfl rfl rfl sl_24 Try.underlying24 aPt (by omega) (src_cut (j * 4) ((n - j) * 4) (fun hk => subA_lt (by omega)) aPk) (cut_length _ _ _ (by omega)) (by rw [cut_length _ _ _ (by omega)]; omega) (cut_one hx1 _ _)) (by kernel_rfl) (fun w h => h.ent aEt) rfl (fun _ _ => ?_)
    refine d_turn [] (by kernel_rfl) ?_
    refine d_slot (show _ = Value.slice (some ⟨gg, 0, none⟩) (n - (j - i)) cap from by first | rfl | (congr 1 <;> first | rfl | omega)) ?_
    refine d_p 7 rfl (p_pure rfl) (by kernel_rfl) rfl rfl ?_
    refine d_nil (by kernel_rfl) (fun w h => h.ent aEt) ?_
    refine s_seq ?_
    refine s_region ?_
    refine o_p (p_pure rfl) rfl ?_
    refine o_p (p_pure rfl) rfl ?_
    refine o_p (p_len_slice rfl rfl Try.underlying24) rfl ?_
    refine o_p (p_pure rfl) rfl ?_
    refine o_p (p_slice _ _ (n - (j - i)) n rfl rfl sl_24 ⟨_, _, rfl, (by omega)⟩ ⟨_, _, rfl, rfl⟩ (by omega) (by omega)) rfl ?_
    refine o_slot (show _ = Value.slice (some ⟨gg, (n - (j - i)) * 4, none⟩) (j - i) (cap - (n - (j - i))) from by rw [subA_lt (by omega)] <;> (congr 1 <;> omega)) ?_
    refine o_h0 (h_clear rfl rfl sl_24 zr_77 rfl rfl (by simp) aPt (fun _ => rfl) (by simp only [setMany_length]; omega)) (fun _ _ => ?_)
    refine o_nil ?_
    refine s_seq ?_
    refine s_region ?_
    refine o_p (p_pure rfl) rfl ?_
    refine o_p (p_pure rfl) rfl ?_
    refine o_nil ?_
    exact s_retv (rs := [.tmp 6]) rfl (.tmp rfl (.nil)) (fun w' h' => ⟨rfl, (HS.to_own (n := n - (j - i)) (xs := xs.take (i * 4) ++ xs.drop (j * 4)) (ds := zrow [.int .i64 0, .int .i64 0, .bool false, .slice none 0 0] ((j - i) * 4)) aPk h' (by have hq := del_in (xs := xs) (zs := zrow [.int .i64 0, .int .i64 0, .bool false, .slice none 0 0] ((j - i) * 4)) (p := i * 4) (q := j * 4) (N := n * 4) hxl (by omega) (by omega) (by rw [zrow_length]; omega); rw [show (n - j) * 4 = n * 4 - j * 4 from by omega, show (n - (j - i)) * 4 = n * 4 - (j * 4 - i * 4) from by omega]; exact hq) (by simp only [List.length_append, List.length_take, List.length_drop]; omega) (by omega) (by omega)).ent aEt⟩)

theorem c118 (w : World) (a : Option Addr) (i j n cap : Nat) (xs : List Value) (hw : HS w (fps [.own (.slice a n cap) 77 4 n xs]) [.own (.slice a n cap) 77 4 n xs] w) (hx1 : ∀ u ∈ xs, u.oneCell' = true) (hmx : n ≤ 9223372036854775807) (hij : i < j) (hjn : j ≤ n) : Calls Try.prog 118 #[.slice a n cap, .int .i64 i, .int .i64 j] w fun en w' => ∃ g : Unit, en = .returned (.slice a (n - (j - i)) cap) ∧ True ∧ HS w (fps [.own (.slice a n cap) 77 4 n xs]) [.own (.slice a (n - (j - i)) cap) 77 4 (n - (j - i)) (xs.take (i * 4) ++ xs.drop (j * 4))] w' := by
  obtain ⟨gg, rfl, _, hnc, hcm, hxl, hb⟩ := hw.own_blk (by omega) .here
  exact (c118b w gg i j n cap xs _ hb hnc hcm hxl hx1 hmx hij hjn).mono fun en w' h => ⟨(), h.1, trivial, h.2⟩

set_option maxRecDepth 20000 in
theorem c116a (w : World) (a : Option Addr) (i n m cap : Nat) (xs news : List Value) (b0 c0 tot2 : Nat) (hw : HS w (fps [.own (.slice a n cap) 77 4 n xs, .blk b0 77 tot2 news]) [.own (.slice a n cap) 77 4 n xs, .blk b0 77 tot2 news] w) (hm0 : 0 < m) (hl : news.length = m * 4) (hn1 : ∀ u ∈ news, u.oneCell' = true) (hx1 : ∀ u ∈ xs, u.oneCell' = true) (hmax : (n + m) * 48 ≤ 140737488355328) (hi : i = n) : Calls Try.prog 116 #[.slice a n cap, .int .i64 i, .slice (some ⟨b0, 0, none⟩) m c0] w fun en w' => ∃ g : Option Addr × Nat, en = .returned (.slice g.1 (n + m) g.2) ∧ True ∧ HS w (fps [.own (.slice a n cap) 77 4 n xs, .blk b0 77 tot2 news]) [.own (.slice g.1 (n + m) g.2) 77 4 (n + m) (xs.take (i * 4) ++ news ++ xs.drop (i * 4)), .blk b0 77 tot2 news] w' := by
  obtain ⟨_, hnc, hcm, hxl⟩ := hw.own_facts .here
  refine enter (args := [_, _, _]) Try.func116 Try.ntmps116 rfl rfl hw ?_
  refine s_seq ?_
  refine s_region ?_
  refine o_p (p_pure rfl) rfl ?_
  refine o_nil ?_
  refine s_seq ?_
  refine s_region ?_
  refine o_p (p_pure rfl) rfl ?_
  refine o_p (p_pure rfl) rfl ?_
  refine o_p (p_slice _ _ i n rfl rfl sl_24 ⟨_, _, rfl, rfl⟩ rfl (by omega) (by omega)) rfl ?_
  refine o_nil ?_
  refine s_seq ?_
  refine s_region ?_
  refine o_p (p_pure rfl) rfl ?_
  refine o_p (p_len_slice rfl rfl Try.underlying24) rfl ?_
  refine o_p (p_pure rfl) rfl ?_
  refine o_nil ?_
  refine s_seq ?_
  refine s_seq ?_
  refine s_region ?_
  refine o_p (p_pure rfl) rfl ?_
  refine o_p (p_pure rfl) rfl ?_
  refine o_nil ?_
  refine s_cond rfl (fun h1 => ?_) (fun h1 => ?_)
  · try simp only [decide_eq_true_eq, decide_eq_false_iff_not, Bool.not_eq_true', Bool.not_eq_false', Bool.and_eq_true, Bool.or_eq_true, Bool.and_eq_false_iff, Bool.or_eq_false_iff, Bool.not_true, Bool.not_false] at h1
    exfalso; first | omega | (simp at h1; done) | (simp_all; done)
  · try simp only [decide_eq_true_eq, decide_eq_false_iff_not, Bool.not_eq_true', Bool.not_eq_false', Bool.and_eq_true, Bool.or_eq_true, Bool.and_eq_false_iff, Bool.or_eq_false_iff, Bool.not_true, Bool.not_false] at h1
    refine s_skip ?_
    refine s_seq ?_
    refine s_region ?_
    refine o_p (p_pure rfl) rfl ?_
    refine o_p (p_len_slice rfl rfl Try.underlying24) rfl ?_
    refine o_p (p_pure rfl) rfl ?_
    refine o_nil ?_
    refine s_seq ?_
    refine s_seq ?_
    refine s_region ?_
    refine o_p (p_pure rfl) rfl ?_
    refine o_p (p_pure rfl) rfl ?_
    refine o_p (p_pure rfl) rfl ?_
    refine o_nil ?_
    refine s_cond rfl (fun h2 => ?_) (fun h2 => ?_)
    · try simp only [decide_eq_true_eq, decide_eq_false_iff_not, Bool.not_eq_true', Bool.not_eq_false', Bool.and_eq_true, Bool.or_eq_true, Bool.and_eq_false_iff, Bool.or_eq_false_iff, Bool.not_true, Bool.not_false] at h2
      refine s_seq ?_
      refine s_region ?_
      refine o_p (p_pure rfl) rfl ?_
      refine o_p (p_pure rfl) rfl ?_
      refine o_h (h_appendS news rfl rfl rfl sl_24 Try.underlying24 zr_77 rfl aPk (src_blk aPk) hl hn1 (by omega) (by simp only [maxLen]; omega)) rfl (fun b3 _ => ?_)
      refine o_p (p_pure rfl) rfl ?_
      refine o_nil ?_
      exact s_retv (rs := [.tmp 6]) rfl (.tmp rfl (.nil)) (fun w' h' => ⟨(_, _), rfl, trivial, by subst hi; rw [List.take_of_length_le (by omega), List.drop_eq_nil_of_le (by omega), List.append_nil]; exact h'.ent aEt⟩)
    · try simp only [decide_eq_true_eq, decide_eq_false_iff_not, Bool.not_eq_true', Bool.not_eq_false', Bool.and_eq_true, Bool.or_eq_true, Bool.and_eq_false_iff, Bool.or_eq_false_iff, Bool.not_true, Bool.not_false] at h2
      exfalso; first | omega | (simp at h2; done) | (simp_all; done)

set_option maxRecDepth 20000 in
theorem c116b (w : World) (gg i n m cap : Nat) (xs news : List Value) (b0 c0 tot2 : Nat) (M : List Nat) (hw : HS w M [.blk gg 77 (cap * 4) xs, .blk b0 77 tot2 news] w) (hnc : n ≤ cap) (hcm : cap ≤ maxLen) (hxl : xs.length = n * 4) (hm0 : 0 < m) (hl : news.length = m * 4) (hn1 : ∀ u ∈ news, u.oneCell' = true) (hx1 : ∀ u ∈ xs, u.oneCell' = true) (hmax : (n + m) * 48 ≤ 140737488355328) (hi : i < n) : Calls Try.prog 116 #[.slice (some ⟨gg, 0, none⟩) n cap, .int .i64 i, .slice (some ⟨b0, 0, none⟩) m c0] w fun en w' => ∃ g : Option Addr × Nat, en = .returned (.slice g.1 (n + m) g.2) ∧ True ∧ HS w M [.own (.slice g.1 (n + m) g.2) 77 4 (n + m) (xs.take (i * 4) ++ news ++ xs.drop (i * 4)), .blk b0 77 tot2 news] w' := by
  have ht2 := (hw.blk_get (.there .here)).len_le
  have hcl : (cut xs 0 (i * 4)).length = i * 4 := cut_length _ _ _ (by omega)
  refine enter (args := [_, _, _]) Try.func116 Try.ntmps116 rfl rfl hw ?_
  refine s_seq ?_
  refine s_region ?_
  refine o_p (p_pure rfl) rfl ?_
  refine o_nil ?_
  refine s_seq ?_
  refine s_region ?_
  refine o_p (p_pure rfl) rfl ?_
  refine o_p (p_pure rfl) rfl ?_
  refine o_p (p_slice _ _ i n rfl rfl sl_24 ⟨_, _, rfl, rfl⟩ rfl (by omega) (by omega)) rfl ?_
  refine o_nil ?_
  refine s_seq ?_
  refine s_region ?_
  refine o_p (p_pure rfl) rfl ?_
  refine o_p (p_len_slice rfl rfl Try.underlying24) rfl ?_
  refine o_p (p_pure rfl) rfl ?_
  refine o_nil ?_
  refine s_seq ?_
  refine s_seq ?_
  refine s_region ?_
  refine o_p (p_pure rfl) rfl ?_
  refine o_p (p_pure rfl) rfl ?_
  refine o_nil ?_
  refine s_cond rfl (fun h1 => ?_) (fun h1 => ?_)
  · try simp only [decide_eq_true_eq, decide_eq_false_iff_not, Bool.not_eq_true', Bool.not_eq_false', Bool.and_eq_true, Bool.or_eq_true, Bool.and_eq_false_iff, Bool.or_eq_false_iff, Bool.not_true, Bool.not_false] at h1
    exfalso; first | omega | (simp at h1; done) | (simp_all; done)
  · try simp only [decide_eq_true_eq, decide_eq_false_iff_not, Bool.not_eq_true', Bool.not_eq_false', Bool.and_eq_true, Bool.or_eq_true, Bool.and_eq_false_iff, Bool.or_eq_false_iff, Bool.not_true, Bool.not_false] at h1
    refine s_skip ?_
    refine s_seq ?_
    refine s_region ?_
    refine o_p (p_pure rfl) rfl ?_
    refine o_p (p_len_slice rfl rfl Try.underlying24) rfl ?_
    refine o_p (p_pure rfl) rfl ?_
    refine o_nil ?_
    refine s_seq ?_
    refine s_seq ?_
    refine s_region ?_
    refine o_p (p_pure rfl) rfl ?_
    refine o_p (p_pure rfl) rfl ?_
    refine o_p (p_pure rfl) rfl ?_
    refine o_nil ?_
    refine s_cond rfl (fun h2 => ?_) (fun h2 => ?_)
    · try simp only [decide_eq_true_eq, decide_eq_false_iff_not, Bool.not_eq_true', Bool.not_eq_false', Bool.and_eq_true, Bool.or_eq_true, Bool.and_eq_false_iff, Bool.or_eq_false_iff, Bool.not_true, Bool.not_false] at h2
      exfalso; first | omega | (simp at h2; done) | (simp_all; done)
    · try simp only [decide_eq_true_eq, decide_eq_false_iff_not, Bool.not_eq_true', Bool.not_eq_false', Bool.and_eq_true, Bool.or_eq_true, Bool.and_eq_false_iff, Bool.or_eq_false_iff, Bool.not_true, Bool.not_false] at h2
      refine s_skip ?_
      refine s_seq ?_
      refine s_seq ?_
      refine s_region ?_
      refine o_p (p_pure rfl) rfl ?_
      refine o_p (p_pure rfl) rfl ?_
      refine o_p (p_pure rfl) rfl ?_
      try (refine o_slot (i64w (by omega) (by omega)) ?_)
      refine o_p (p_pure rfl) rfl ?_
      refine o_p (p_cap rfl rfl Try.underlying24) rfl ?_
      refine o_p (p_pure rfl) rfl ?_
      refine o_nil ?_
      refine s_cond rfl (fun h3 => ?_) (fun h3 => ?_)
      · try simp only [decide_eq_true_eq, decide_eq_false_iff_not, Bool.not_eq_true', Bool.not_eq_false', Bool.and_eq_true, Bool.or_eq_true, Bool.and_eq_false_iff, Bool.or_eq_false_iff, Bool.not_true, Bool.not_false] at h3
        refine s_seq ?_
        refine s_region ?_
        refine o_p (p_pure rfl) rfl ?_
        refine o_p (p_pure rfl) rfl ?_
        refine o_p (p_slice _ _ 0 i rfl rfl sl_24 rfl ⟨_, _, rfl, rfl⟩ (by omega) (by omega)) rfl ?_
        refine o_slot (show _ = Value.slice (some ⟨gg, 0, none⟩) (i) (cap) from by rw [subA_zero] <;> (congr 1 <;> omega)) ?_
        refine o_p (p_pure rfl) rfl ?_
        refine o_p (p_pure rfl) rfl ?_
        refine o_p (p_pure rfl) rfl ?_
        try (refine o_slot (i64w (by omega) (by omega)) ?_)
        refine o_p (p_pure rfl) rfl ?_
        refine o_p (p_pure rfl) rfl ?_
        try (refine o_slot (i64w (by omega) (by omega)) ?_)
        refine o_slot (show _ = Value.int .i64 ((n + m - i : Nat) : Int) from by first | rfl | (congr 1 <;> first | rfl | omega)) ?_
        refine o_h (h_append_zeros (m := n + m - i) (olds := cut xs 0 (i * 4)) rfl rfl rfl sl_24 ki_3 zr_77 rfl (by decide) (by omega) (by omega) (src_cut 0 (i * 4) (fun _ => rfl) aPk) hcl (by omega) (by simp only [maxLen]; omega)) rfl (fun ⟨b4, c5⟩ ⟨h6, k7⟩ => ?_)
        refine o_slot (show _ = Value.slice (some ⟨b4, 0, none⟩) (n + m) c5 from by first | rfl | (congr 1 <;> first | rfl | omega)) ?_
        refine o_p (p_pure rfl) rfl ?_
        refine o_nil ?_
        refine s_seq ?_
        refine s_weaken (L' := [(0, _), (1, _), (2, _), (6, _), (7, _), (8, _), (9, _)]) aSx (fun _ h => h) ?_
        refine s_region ?_
        refine o_p (p_pure rfl) rfl ?_
        refine o_p (p_pure rfl) rfl ?_
        refine o_p (p_slice _ _ i (n + m) rfl rfl sl_24 ⟨_, _, rfl, rfl⟩ rfl (by omega) (by omega)) rfl ?_
        refine o_slot (show _ = Value.slice (some ⟨b4, i * 4, none⟩) (n + m - i) (c5 - i) from by rw [subA_lt (by omega)] <;> (congr 1 <;> omega)) ?_
        refine o_p (p_pure rfl) rfl ?_
        refine o_h (h_copy m news rfl rfl rfl sl_24 aPt (by omega) hl (fun _ => rfl) (by simp only [zrow_length, List.length_append, setMany_length]; omega) (src_blk aPk) hn1) rfl (fun _ _ => ?_)
        refine o_nil ?_
        refine s_seq ?_
        refine s_draw [8] mixed ?_
        refine d_p 0 rfl (p_pure rfl) (by kernel_rfl) rfl rfl ?_
        refine d_p 1 rfl (p_pure rfl) (by kernel_rfl) rfl rfl ?_
        refine d_p 2 rfl (p_pure rfl) (by kernel_rfl) rfl rfl ?_
        refine d_p 3 rfl (p_pure rfl) (by kernel_rfl) rfl rfl ?_
        try (refine d_slot (i64w (by omega) (by omega)) ?_)
        refine d_p 4 rfl (p_slice _ _ (i + m) (n + m) rfl rfl sl_24 ⟨_, _, rfl, (by omega)⟩ rfl (by omega) (by omega)) (by kernel_rfl) rfl rfl ?_
        refine d_slot (show _ = Value.slice (some ⟨b4, (i + m) * 4, none⟩) (n - i) (c5 - (i + m)) from by rw [subA_lt (by omega)] <;> (congr 1 <;> omega)) ?_
        refine d_p 5 rfl (p_pure rfl) (by kernel_rfl) rfl rfl ?_
        refine d_p 6 rfl (p_pure rfl) (by kernel_rfl) rfl rfl ?_
        refine d_p 7 rfl (p_slice _ _ i n rfl rfl sl_24 ⟨_, _, rfl, rfl⟩ rfl (by omega) (by omega)) (by kernel_rfl) rfl rfl ?_
        refine d_slot (show _ = Value.slice (some ⟨gg, i * 4, none⟩) (n - i) (cap - i) from by rw [subA_lt (by omega)] <;> (congr 1 <;> omega)) ?_
        refine d_h 8 rfl (h_copy (n - i) (cut xs (i * 4) ((n - i) * 4)) rfl rfl rfl sl_24 aPt (by omega) (cut_length _ _ _ (by omega)) (fun _ => rfl) (by rw [cut_length _ _ _ (by omega)]; simp only [zrow_length, List.length_append, setMany_length]; omega) (src_cut (i * 4) ((n - i) * 4) (fun _ => rfl) aPk) (cut_one hx1 _ _)) (by kernel_rfl) (fun w h => h.ent aEt) rfl (fun _ _ => ?_)
        refine d_turn [] (by kernel_rfl) ?_
        refine d_nil (by kernel_rfl) (fun w h => h.ent aEt) ?_
        refine s_seq ?_
        refine s_region ?_
        refine o_p (p_pure rfl) rfl ?_
        refine o_p (p_pure rfl) rfl ?_
        refine o_nil ?_
        exact s_retv (rs := [.tmp 6]) rfl (.tmp rfl (.nil)) (fun w' h' => ⟨(some ⟨b4, 0, none⟩, c5), rfl, trivial, (HS.to_own (n := n + m) (xs := xs.take (i * 4) ++ news ++ xs.drop (i * 4)) (ds := []) aPk h' (by have hq := ins_grow (xs := xs) (news := news) (z := zrow [.int .i64 0, .int .i64 0, .bool false, .slice none 0 0] ((n + m - i) * 4)) (p := i * 4) (q := m * 4) (N := n * 4) hxl (by omega) hl (by rw [zrow_length]; omega); rw [List.append_nil]; rw [show (i + m) * 4 = i * 4 + m * 4 from by omega, show (n - i) * 4 = n * 4 - i * 4 from by omega]; exact hq) (by simp only [List.length_append, List.length_take, List.length_drop]; omega) (by omega) (by omega)).ent aEt⟩)
      · try simp only [decide_eq_true_eq, decide_eq_false_iff_not, Bool.not_eq_true', Bool.not_eq_false', Bool.and_eq_true, Bool.or_eq_true, Bool.and_eq_false_iff, Bool.or_eq_false_iff, Bool.not_true, Bool.not_false] at h3
        refine s_skip ?_
        refine s_seq ?_
        refine s_region ?_
        refine o_p (p_pure rfl) rfl ?_
        refine o_p (p_pure rfl) rfl ?_
        refine o_p (p_pure rfl) rfl ?_
        refine o_p (p_pure rfl) rfl ?_
        try (refine o_slot (i64w (by omega) (by omega)) ?_)
        refine o_p (p_slice _ _ 0 (n + m) rfl rfl sl_24 rfl ⟨_, _, rfl, (by omega)⟩ (by omega) (by omega)) rfl ?_
        refine o_slot (show _ = Value.slice (some ⟨gg, 0, none⟩) (n + m) cap from by rw [subA_zero] <;> (congr 1 <;> omega)) ?_
        refine o_ex (fun w h => HS.blk_full (b := gg) aPk h) fun ds => ?_
        refine o_fact (fun w h => h.1) fun hds => ?_
        refine o_class (fun w h => h.2) ?_
        refine o_p (p_pure rfl) rfl ?_
        refine o_nil ?_
        refine s_seq ?_
        refine s_seq ?_
        refine s_region ?_
        refine o_p (p_pure rfl) rfl ?_
        refine o_p (p_pure rfl) rfl ?_
        refine o_p (p_pure rfl) rfl ?_
        refine o_p (p_pure rfl) rfl ?_
        refine o_p (p_pure rfl) rfl ?_
        try (refine o_slot (i64w (by omega) (by omega)) ?_)
        refine o_p (p_slice _ _ (i + m) (n + m) rfl rfl sl_24 ⟨_, _, rfl, (by omega)⟩ rfl (by omega) (by omega)) rfl ?_
        refine o_slot (show _ = Value.slice (some ⟨gg, (i + m) * 4, none⟩) (n - i) (cap - (i + m)) from by rw [subA_lt (by omega)] <;> (congr 1 <;> omega)) ?_
        refine o_q (q_overlaps rfl ov_127 rfl rfl sl_24 (hp := aPk) (hp' := aPk) (by decide) (by omega) (by omega)) rfl ?_
        refine o_p (p_pure rfl) rfl ?_
        refine o_nil ?_
        refine s_cond rfl (fun h8 => ?_) (fun h8 => ?_)
        · try simp only [decide_eq_true_eq, decide_eq_false_iff_not, Bool.not_eq_true', Bool.not_eq_false', Bool.and_eq_true, Bool.or_eq_true, Bool.and_eq_false_iff, Bool.or_eq_false_iff, Bool.not_true, Bool.not_false] at h8
          refine s_seq ?_
          refine s_weaken (L' := [(0, _), (1, _), (2, _), (6, _), (7, _), (8, _)]) aSx (fun _ h => h) ?_
          refine s_draw [8] mixed ?_
          refine d_p 0 rfl (p_pure rfl) (by kernel_rfl) rfl rfl ?_
          refine d_p 1 rfl (p_pure rfl) (by kernel_rfl) rfl rfl ?_
          refine d_p 2 rfl (p_pure rfl) (by kernel_rfl) rfl rfl ?_
          refine d_p 3 rfl (p_pure rfl) (by kernel_rfl) rfl rfl ?_
          try (refine d_slot (i64w (by omega) (by omega)) ?_)
          refine d_p 4 rfl (p_slice _ _ (i + m) (n + m) rfl rfl sl_24 ⟨_, _, rfl, (by omega)⟩ rfl (by omega) (by omega)) (by kernel_rfl) rfl rfl ?_
          refine d_slot (show _ = Value.slice (some ⟨gg, (i + m) * 4, none⟩) (n - i) (cap - (i + m)) from by rw [subA_lt (by omega)] <;> (congr 1 <;> omega)) ?_
          refine d_p 5 rfl (p_pure rfl) (by kernel_rfl) rfl rfl ?_
          refine d_p 6 rfl (p_pure rfl) (by kernel_rfl) rfl rfl ?_
          refine d_p 7 rfl (p_slice _ _ i (n + m) rfl rfl sl_24 ⟨_, _, rfl, rfl⟩ rfl (by omega) (by omega)) (by kernel_rfl) rfl rfl ?_
          refine d_slot (show _ = Value.slice (some ⟨gg, i * 4, none⟩) (n + m - i) (cap - i) from by rw [subA_lt (by omega)] <;> (congr 1 <;> omega)) ?_
          refine d_h 8 rfl (h_copy (n - i) (cut (xs ++ ds) (i * 4) ((n - i) * 4)) rfl rfl rfl sl_24 aPt (by omega) (cut_length _ _ _ (by simp only [zrow_length, List.length_append, setMany_length]; omega)) (fun _ => rfl) (by rw [cut_length _ _ _ (by simp only [zrow_length, List.length_append, setMany_length]; omega)]; simp only [zrow_length, List.length_append, setMany_length]; omega) (src_cut (i * 4) ((n - i) * 4) (fun _ => rfl) aPk) (ins_one hx1 (by omega))) (by kernel_rfl) (fun w h => h.ent aEt) rfl (fun _ _ => ?_)
          refine d_turn [] (by kernel_rfl) ?_
          refine d_nil (by kernel_rfl) (fun w h => h.ent aEt) ?_
          refine s_seq ?_
          refine s_region ?_
          refine o_p (p_pure rfl) rfl ?_
          refine o_p (p_pure rfl) rfl ?_
          refine o_p (p_slice _ _ i (n + m) rfl rfl sl_24 ⟨_, _, rfl, rfl⟩ rfl (by omega) (by omega)) rfl ?_
          refine o_slot (show _ = Value.slice (some ⟨gg, i * 4, none⟩) (n + m - i) (cap - i) from by rw [subA_lt (by omega)] <;> (congr 1 <;> omega)) ?_
          refine o_p (p_pure rfl) rfl ?_
          refine o_h (h_copy m news rfl rfl rfl sl_24 aPt (by omega) hl (fun _ => rfl) (by simp only [zrow_length, List.length_append, setMany_length]; omega) (src_blk aPk) hn1) rfl (fun _ _ => ?_)
          refine o_nil ?_
          refine s_seq ?_
          refine s_region ?_
          refine o_p (p_pure rfl) rfl ?_
          refine o_p (p_pure rfl) rfl ?_
          refine o_nil ?_
          exact s_retv (rs := [.tmp 6]) rfl (.tmp rfl (.nil)) (fun w' h' => ⟨(some ⟨gg, 0, none⟩, cap), rfl, trivial, (HS.to_own (n := n + m) (xs := xs.take (i * 4) ++ news ++ xs.drop (i * 4)) (ds := ds.drop (m * 4)) aPk h' (by have hq := ins_in (xs := xs) (ds := ds) (news := news) (p := i * 4) (q := m * 4) (N := n * 4) hxl (by omega) hl (by omega); rw [show (i + m) * 4 = i * 4 + m * 4 from by omega, show (n - i) * 4 = n * 4 - i * 4 from by omega]; exact hq) (by simp only [List.length_append, List.length_take, List.length_drop]; omega) (by omega) (by omega)).ent aEt⟩)
        · try simp only [decide_eq_true_eq, decide_eq_false_iff_not, Bool.not_eq_true', Bool.not_eq_false', Bool.and_eq_true, Bool.or_eq_true, Bool.and_eq_false_iff, Bool.or_eq_false_iff, Bool.not_true, Bool.not_false] at h8
          exfalso; first | omega | (simp at h8; done) | (simp_all; done)

theorem c116 (w : World) (a : Option Addr) (i n m cap : Nat) (xs news : List Value) (b0 c0 tot2 : Nat) (hw : HS w (fps [.own (.slice a n cap) 77 4 n xs, .blk b0 77 tot2 news]) [.own (.slice a n cap) 77 4 n xs, .blk b0 77 tot2 news] w) (hm0 : 0 < m) (hl : news.length = m * 4) (hn1 : ∀ u ∈ news, u.oneCell' = true) (hx1 : ∀ u ∈ xs, u.oneCell' = true) (hmax : (n + m) * 48 ≤ 140737488355328) (hi : i ≤ n) : Calls Try.prog 116 #[.slice a n cap, .int .i64 i, .slice (some ⟨b0, 0, none⟩) m c0] w fun en w' => ∃ g : Option Addr × Nat, en = .returned (.slice g.1 (n + m) g.2) ∧ True ∧ HS w (fps [.own (.slice a n cap) 77 4 n xs, .blk b0 77 tot2 news]) [.own (.slice g.1 (n + m) g.2) 77 4 (n + m) (xs.take (i * 4) ++ news ++ xs.drop (i * 4)), .blk b0 77 tot2 news] w' := by
  rcases Nat.lt_or_ge i n with h | h
  · obtain ⟨gg, rfl, _, hnc, hcm, hxl, hb⟩ := hw.own_blk (by omega) .here
    exact c116b w gg i n m cap xs news b0 c0 tot2 _ hb hnc hcm hxl hm0 hl hn1 hx1 hmax h
  · exact c116a w a i n m cap xs news b0 c0 tot2 hw hm0 hl hn1 hx1 hmax (by omega)

def eqK (fr cnt : Int) (k : Lock) : Bool := decide (k.fr = fr) && decide (k.cnt = cnt)
def unlockT (L : List Fil) (h fr cnt : Int) : List Fil × Int :=
  if (findF L h 0).2.2 = 0 then if rngE fr cnt = 0 then
    if ixB ((nth (nth L (findF L h 0).1).op (findF L h 0).2.1).lk.map (eqK fr cnt)) < (nth (nth L (findF L h 0).1).op (findF L h 0).2.1).lk.length then (updO L (findF L h 0).1 (findF L h 0).2.1 fun o => { o with lk := others o.lk (ixB (o.lk.map (eqK fr cnt))) }, 0) else (L, 6)
  else (L, rngE fr cnt) else (L, (findF L h 0).2.2)
theorem unlockT_e {L : List Fil} {h fr cnt : Int} (hn : ¬ firstV [.int .i64 (findF L h 0).2.2, .int .i64 (rngE fr cnt)] = 0) : unlockT L h fr cnt = (L, firstV [.int .i64 (findF L h 0).2.2, .int .i64 (rngE fr cnt)]) := by
  have e : firstV [.int .i64 (findF L h 0).2.2, .int .i64 (rngE fr cnt)] = if (findF L h 0).2.2 = 0 then rngE fr cnt else (findF L h 0).2.2 := by
    simp only [firstV]
    grind
  rw [e] at hn ⊢
  unfold unlockT
  grind
theorem first2_0 {a b : Int} (h : firstV [.int .i64 a, .int .i64 b] = 0) : a = 0 ∧ b = 0 := by
  simp only [firstV] at h
  grind
theorem others_len {α : Type} {l : List α} {i : Nat} (h : i < l.length) : (others l i).length = l.length - 1 := by
  simp only [others, List.length_append, List.length_take, List.length_drop]
  omega
theorem others_flat {α : Type} {vals : α → List Value} {sz : Nat} (hv : ∀ x, (vals x).length = sz) (l : List α) (i : Nat) : (l.flatMap vals).take (i * sz) ++ (l.flatMap vals).drop ((i + 1) * sz) = (others l i).flatMap vals := by
  rw [flat_take hv, flat_drop hv, others, flat_append]
def mayB (ops : List Opn) (k : Nat) (q : Lock) (kp : Bool → Bool → Bool) : Bool := (List.range ops.length).any fun n => (nth ops n).lk.any fun h => ovl h q && kp h.ex (decide (n ≠ k))
theorem mayB_hit {ops : List Opn} {k n m : Nat} {q : Lock} {kp : Bool → Bool → Bool} (hn : n < ops.length) (hm : m < (nth ops n).lk.length) (h : (ovl (nth (nth ops n).lk m) q && kp (nth (nth ops n).lk m).ex (decide (n ≠ k))) = true) : mayB ops k q kp = true := by
  unfold mayB
  rw [List.any_eq_true]
  refine ⟨n, List.mem_range.2 hn, ?_⟩
  rw [List.any_eq_true]
  exact ⟨_, mem_nth hm, h⟩
theorem mayB_no {ops : List Opn} {k : Nat} {q : Lock} {kp : Bool → Bool → Bool} (h : ∀ n, n < ops.length → ∀ m, m < (nth ops n).lk.length → (ovl (nth (nth ops n).lk m) q && kp (nth (nth ops n).lk m).ex (decide (n ≠ k))) = false) : mayB ops k q kp = false := by
  unfold mayB
  rw [List.any_eq_false]
  intro n hn
  rw [List.mem_range] at hn
  have : ((nth ops n).lk.any fun h => ovl h q && kp h.ex (decide (n ≠ k))) = false := by
    rw [List.any_eq_false]
    intro x hx
    obtain ⟨m, hm, e⟩ := List.getElem_of_mem hx
    have e2 : nth (nth ops n).lk m = x := nth_eq (by rw [List.getElem?_eq_getElem hm, e])
    have := h n hn m hm
    rw [e2] at this
    rw [this]
    decide
  rw [this]
  decide
def mayT (L : List Fil) (h : Int) (q : Lock) (acc : Nat) (kp : Bool → Bool → Bool) : Int :=
  if (findF L h 0).2.2 = 0 then if rngE q.fr q.cnt = 0 then if hasB (nth (nth L (findF L h 0).1).op (findF L h 0).2.1).ac acc = true then if mayB (nth L (findF L h 0).1).op (findF L h 0).2.1 q kp = true then 29 else 0 else 27 else rngE q.fr q.cnt else (findF L h 0).2.2
theorem mayT_e {L : List Fil} {h : Int} {q : Lock} {acc : Nat} {kp : Bool → Bool → Bool} (hn : ¬ firstV [.int .i64 (findF L h 0).2.2, .int .i64 (rngE q.fr q.cnt)] = 0) : mayT L h q acc kp = firstV [.int .i64 (findF L h 0).2.2, .int .i64 (rngE q.fr q.cnt)] := by
  have e : firstV [.int .i64 (findF L h 0).2.2, .int .i64 (rngE q.fr q.cnt)] = if (findF L h 0).2.2 = 0 then rngE q.fr q.cnt else (findF L h 0).2.2 := by
    simp only [firstV]
    grind
  rw [e] at hn ⊢
  unfold mayT
  grind
def rdK (ex oth : Bool) : Bool := ex && oth
def wrK (ex oth : Bool) : Bool := !ex || oth

set_option maxRecDepth 20000 in
theorem c106 (w : World) (b b2 : Nat) (k : Lock) (fr cnt : Int) (hr : Rd w [] b 0 (.int .i64 fr)) (hr2 : Rd w [] b2 0 (.int .i64 cnt)) : Calls Try.prog 106 #[.agg #[.int .i64 k.fr, .int .i64 k.cnt, .bool k.ex], .pointer (some ⟨b, 0, none⟩), .pointer (some ⟨b2, 0, none⟩)] w fun en w' => en = .returned (.bool (eqK fr cnt k)) ∧ Below w.heap.size w w' := by
  refine enter (args := [_, _, _]) Try.func106 Try.ntmps106 rfl rfl (HS.refl w []) ?_
  refine s_seq ?_
  refine s_region ?_
  refine o_h (h_box rfl rfl) rfl (fun b1 _ => ?_)
  refine o_p (p_pure rfl) rfl ?_
  refine o_nil ?_
  refine s_seq ?_
  refine s_region ?_
  refine o_p (p_fieldAddr rfl rfl fd_62_0 sz_3 rfl) rfl ?_
  refine o_q (q_load rfl rfl sz_3 aPk rfl) rfl ?_
  refine o_q (q_load_old rfl rfl sz_3 (hr)) rfl ?_
  refine o_p (p_pure rfl) rfl ?_
  refine o_p (p_pure rfl) rfl ?_
  refine o_and 5 9 14 _ _ rfl
    (by
      intro hg2
      have hs3 := hg2; try simp only [decide_eq_true_eq, decide_eq_false_iff_not, Bool.not_eq_true', Bool.not_eq_false', Bool.and_eq_true, Bool.or_eq_true, Bool.and_eq_false_iff, Bool.or_eq_false_iff, Bool.not_true, Bool.not_false] at hs3
      refine o_on 9 _ rfl rfl hg2 ?_
      refine o_p (p_fieldAddr rfl rfl fd_62_1 sz_3 rfl) rfl ?_
      refine o_on 9 _ rfl rfl hg2 ?_
      refine o_q (q_load rfl rfl sz_3 aPk rfl) rfl ?_
      refine o_on 9 _ rfl rfl hg2 ?_
      refine o_q (q_load_old rfl rfl sz_3 (hr2)) rfl ?_
      refine o_on 9 _ rfl rfl hg2 ?_
      refine o_p (p_pure rfl) rfl ?_
      refine o_p (p_pickt rfl rfl hg2 rfl) rfl ?_
      refine o_nil ?_
      exact s_joinN 5 14 _ rfl rfl rfl (fun w h => by first | exact h | exact h.ent aEt))
    (by
      intro hg4
      have hs5 := hg4; try simp only [decide_eq_true_eq, decide_eq_false_iff_not, Bool.not_eq_true', Bool.not_eq_false', Bool.and_eq_true, Bool.or_eq_true, Bool.and_eq_false_iff, Bool.or_eq_false_iff, Bool.not_true, Bool.not_false] at hs5
      refine o_off 9 _ rfl rfl hg4 rfl ?_
      refine o_off 9 _ rfl rfl hg4 rfl ?_
      refine o_off 9 _ rfl rfl hg4 rfl ?_
      refine o_off 9 _ rfl rfl hg4 rfl ?_
      refine o_p (p_pickf rfl rfl hg4 rfl) rfl ?_
      refine o_nil ?_
      exact s_joinN 5 14 _ rfl rfl rfl (fun w h => by first | exact h | exact h.ent aEt)) ?_
  refine o_p (p_pure rfl) rfl ?_
  refine o_nil ?_
  exact s_retv (rs := [.tmp 4]) rfl (.tmp rfl (.nil)) (fun w' h' => ⟨by simp only [retV, eqK], h'.below⟩)

set_option maxRecDepth 20000 in
theorem c74 (w : World) (bt : Nat) (next : Int) (a : Option Addr) (cap : Nat) (L : List LFil) (h fr cnt : Int) (hw : HS w (fps [.blk bt 106 2 [.int .i64 (next), .slice a (L).length cap], .files a cap (L)]) [.blk bt 106 2 [.int .i64 (next), .slice a (L).length cap], .files a cap (L)] w) (hV : VW (pls L)) : Calls Try.prog 74 #[.pointer (some ⟨bt, 0, none⟩), .int .i64 h, .int .i64 fr, .int .i64 cnt] w fun en w' => ∃ g : (Option Addr × Nat) × List LFil, en = .returned (.int .i64 (unlockT (pls L) h fr cnt).2) ∧ pls g.2 = (unlockT (pls L) h fr cnt).1 ∧ HS w (fps [.blk bt 106 2 [.int .i64 (next), .slice a (L).length cap], .files a cap (L)]) [.blk bt 106 2 [.int .i64 (next), .slice g.1.1 (g.2).length g.1.2], .files g.1.1 g.1.2 (g.2)] w' := by
  refine enter (args := [_, _, _, _]) Try.func74 Try.ntmps74 rfl rfl hw ?_
  refine s_seq ?_
  refine s_region ?_
  refine o_h (h_box rfl rfl) rfl (fun b1 _ => ?_)
  refine o_h (h_box rfl rfl) rfl (fun b2 _ => ?_)
  refine o_p (p_pure rfl) rfl ?_
  refine o_nil ?_
  refine s_seq ?_
  refine s_region ?_
  refine o_p (p_pure rfl) rfl ?_
  refine o_p (p_pure rfl) rfl ?_
  refine o_q (q_call rfl fn_100 rfl (fun w1 h1 => c100 w1 bt _ _ L h (h1.rd_blk (Mc := []) aPk rfl (by simp)) (h1.ft aPk) (by have := (VW.lens hV).1; omega) (fun f hf => by have := (VW.lens hV).2 f hf; omega))) rfl ?_
  refine o_p (p_pure rfl) rfl ?_
  refine o_p (p_pure rfl) rfl ?_
  refine o_p (p_pure rfl) rfl ?_
  refine o_p (p_pure rfl) rfl ?_
  refine o_p (p_pure rfl) rfl ?_
  refine o_p (p_pure rfl) rfl ?_
  refine o_p (p_pure rfl) rfl ?_
  refine o_nil ?_
  refine s_seq ?_
  refine s_seq ?_
  refine s_region ?_
  refine o_p (p_pure rfl) rfl ?_
  refine o_q (q_load rfl rfl sz_3 aPk rfl) rfl ?_
  refine o_q (q_load rfl rfl sz_3 aPk rfl) rfl ?_
  refine o_q (q_call rfl fn_94 rfl (fun w1 h1 => c94 w1 _ _)) rfl ?_
  refine o_h (h_buildSlice (cs := [_, _]) rfl rfl sl_146 zr_28 rfl rfl rfl) rfl (fun b3 _ => ?_)
  refine o_q (q_call rfl fn_52 rfl (fun w1 h1 => f52 h1 aPk (by rfl) (by rfl) (by decide))) rfl ?_
  refine o_p (p_pure rfl) rfl ?_
  refine o_nil ?_
  refine s_seq ?_
  refine s_region ?_
  refine o_p (p_pure rfl) rfl ?_
  refine o_p (p_pure rfl) rfl ?_
  refine o_nil ?_
  refine s_cond rfl (fun h4 => ?_) (fun h4 => ?_)
  · try simp only [decide_eq_true_eq, decide_eq_false_iff_not, Bool.not_eq_true', Bool.not_eq_false', Bool.and_eq_true, Bool.or_eq_true, Bool.and_eq_false_iff, Bool.or_eq_false_iff, Bool.not_true, Bool.not_false] at h4
    refine s_seq ?_
    refine s_region ?_
    refine o_p (p_pure rfl) rfl ?_
    refine o_p (p_pure rfl) rfl ?_
    refine o_nil ?_
    exact s_retv (rs := [.tmp 8]) rfl (.tmp rfl (.nil)) (fun w' h' => ⟨((a, cap), L), by rw [unlockT_e h4]; rfl, by rw [unlockT_e h4], h'.ent aEt⟩)
  · try simp only [decide_eq_true_eq, decide_eq_false_iff_not, Bool.not_eq_true', Bool.not_eq_false', Bool.and_eq_true, Bool.or_eq_true, Bool.and_eq_false_iff, Bool.or_eq_false_iff, Bool.not_true, Bool.not_false] at h4
    have hz := first2_0 h4
    obtain ⟨i, k, hfe, hi, hk, hV3⟩ := findF_some hV hz.1
    rw [hfe]
    obtain ⟨ga, rfl, hcap, hcm⟩ := files_addr (by omega) hw (.there .here)
    obtain ⟨go, hoa, hoc, hom⟩ := file_addr hi (by omega) hw (.there .here)
    dsimp only
    refine s_skip ?_
    refine s_seq ?_
    refine s_region ?_
    refine o_p (p_pure rfl) rfl ?_
    refine o_p (p_pure rfl) rfl ?_
    refine o_p (p_fieldAddr rfl rfl fd_106_0 sz_26 rfl) rfl ?_
    refine o_p (p_fieldAddr rfl rfl fd_26_1 sz_24 rfl) rfl ?_
    refine o_q (q_load rfl rfl sz_24 aPk rfl) rfl ?_
    refine o_p (p_pure rfl) rfl ?_
    refine o_p (p_indexAddr rfl rfl rfl sl_24 (i) (by omega) (by omega) rfl) rfl ?_
    refine o_p (p_fieldAddr rfl rfl fd_77_2 sz_75 rfl) rfl ?_
    refine o_q (q_load_at rfl rfl sz_75 (fun w h => (HS.ft (a := some ⟨ga, 0, none⟩) (cap := cap) (l := L) h aPk).1.rdj 3 hi rfl)) rfl ?_
    refine o_p (p_pure rfl) rfl ?_
    refine o_p (p_indexAddr rfl rfl rfl sl_75 (k) (by omega) (by omega) hoa) rfl ?_
    refine o_p (p_pure rfl) rfl ?_
    refine o_nil ?_
    refine s_seq ?_
    refine s_weaken (L' := [(6, _), (7, _), (8, _), (12, _)]) aSx (fun _ h => h) ?_
    refine s_region ?_
    refine o_p (p_pure rfl) rfl ?_
    refine o_p (p_pure rfl) rfl ?_
    refine o_p (p_fieldAddr rfl rfl fd_48_4 sz_46 rfl) rfl ?_
    refine o_q (q_load_at rfl rfl sz_46 (fun w h => by have h9 := ((HS.ft (a := some ⟨ga, 0, none⟩) (cap := cap) (l := L) h aPk).at hi).1.rdj 4 hk rfl; rw [hoa] at h9; exact h9)) rfl ?_
    refine o_p (p_pure rfl) rfl ?_
    refine o_q (q_call rfl fn_105 rfl (fun w1 h1 => c105 w1 (nth (nth L i).op k).la (nth (nth L i).op k).lc (nth (nth L i).op k).lk 106 #[.pointer (some ⟨b1, 0, none⟩), .pointer (some ⟨b2, 0, none⟩)] ((nth (nth L i).op k).lk.map (eqK fr cnt)) (((HS.ft (a := some ⟨ga, 0, none⟩) (cap := cap) (l := L) h1 aPk).at hi).at hk) (by have := hV3.2.2; omega) (by kernel_rfl) (by simp) (fun j w2 hj h2 => by rw [map_getD_nthB hj]; exact c106 w2 b1 b2 _ fr cnt ((h1.rd_blk (Mc := []) (b := b1) aPk rfl (by simp)).next h2) ((h1.rd_blk (Mc := []) (b := b2) aPk rfl (by simp)).next h2)))) rfl ?_
    refine o_p (p_pure rfl) rfl ?_
    refine o_nil ?_
    refine s_seq ?_
    refine s_seq ?_
    refine s_region ?_
    refine o_p (p_pure rfl) rfl ?_
    refine o_p (p_pure rfl) rfl ?_
    refine o_nil ?_
    refine s_cond rfl (fun h5 => ?_) (fun h5 => ?_)
    · try simp only [decide_eq_true_eq, decide_eq_false_iff_not, Bool.not_eq_true', Bool.not_eq_false', Bool.and_eq_true, Bool.or_eq_true, Bool.and_eq_false_iff, Bool.or_eq_false_iff, Bool.not_true, Bool.not_false] at h5
      have hix : ¬ (ixB ((nth (nth L i).op k).lk.map (eqK fr cnt))) < (nth (nth L i).op k).lk.length := by have hq := h5; unfold ixI at hq; rw [List.length_map] at hq; intro h9; rw [if_pos h9] at hq; omega
      refine s_seq ?_
      refine s_region ?_
      refine o_p (p_pure rfl) rfl ?_
      refine o_nil ?_
      exact s_retv (rs := [.tmp 8]) rfl (.tmp rfl (.nil)) (fun w' h' => ⟨((some ⟨ga, 0, none⟩, cap), L), by rw [unlockT, hfe]; simp only [if_true]; rw [if_pos hz.2, nth_pls hi, LFil.pl, nth_plo hk]; skip; rw [if_neg (by simp only [LOpn.pl]; exact hix)]; rfl, by rw [unlockT, hfe]; simp only [if_true]; rw [if_pos hz.2, nth_pls hi, LFil.pl, nth_plo hk]; skip; rw [if_neg (by simp only [LOpn.pl]; exact hix)], h'.ent aEt⟩)
    · try simp only [decide_eq_true_eq, decide_eq_false_iff_not, Bool.not_eq_true', Bool.not_eq_false', Bool.and_eq_true, Bool.or_eq_true, Bool.and_eq_false_iff, Bool.or_eq_false_iff, Bool.not_true, Bool.not_false] at h5
      have hix : (ixB ((nth (nth L i).op k).lk.map (eqK fr cnt))) < (nth (nth L i).op k).lk.length := by have hq := h5; unfold ixI at hq; rw [List.length_map] at hq; split at hq <;> first | assumption | omega
      have hixi : ixI ((nth (nth L i).op k).lk.map (eqK fr cnt)) = ((ixB ((nth (nth L i).op k).lk.map (eqK fr cnt))) : Int) := by unfold ixI; rw [List.length_map, if_pos hix]
      rw [hixi]
      have hl16 : (nth (nth L i).op k).lk.length ≤ 16 := hV3.2.2
      refine s_class (fun w h => HS.lock_at hi hk hoa h aPk) ?_
      refine s_skip ?_
      refine s_seq ?_
      refine s_region ?_
      refine o_p (p_pure rfl) rfl ?_
      refine o_p (p_pure rfl) rfl ?_
      refine o_p (p_pure rfl) rfl ?_
      refine o_p (p_fieldAddr rfl rfl fd_48_4 sz_46 rfl) rfl ?_
      refine o_slot (show _ = Value.pointer (some ⟨go, k * 5 + 4, none⟩) from by rw [Nat.zero_add]) ?_
      refine o_q (q_load_at rfl rfl sz_46 (fun w h => (h.rd_blk (Mc := []) (b := go) aPk (by rw [flat_get ov5 _ k 4 _ (nth_get hk) (by decide)]; rfl) (by simp)))) rfl ?_
      refine o_p (p_pure rfl) rfl ?_
      refine o_p (p_pure rfl) rfl ?_
      refine o_p (p_pure rfl) rfl ?_
      try (refine o_slot (i64w (by omega) (by omega)) ?_)
      refine o_h (h_callF (Cs := [.own (.slice (nth (nth L i).op k).la (nth (nth L i).op k).lk.length (nth (nth L i).op k).lc) 62 3 (nth (nth L i).op k).lk.length ((nth (nth L i).op k).lk.flatMap Lock.vals)]) rfl fn_107 rfl aPs (fun w1 h1 hf => by have h9 := c107 w1 (nth (nth L i).op k).la (ixB ((nth (nth L i).op k).lk.map (eqK fr cnt))) ((ixB ((nth (nth L i).op k).lk.map (eqK fr cnt))) + 1) (nth (nth L i).op k).lk.length (nth (nth L i).op k).lc ((nth (nth L i).op k).lk.flatMap Lock.vals) hf (flat_one lv1 _) (by omega) (by omega) (by omega); rw [others_flat lv3, show (nth (nth L i).op k).lk.length - ((ixB ((nth (nth L i).op k).lk.map (eqK fr cnt))) + 1 - (ixB ((nth (nth L i).op k).lk.map (eqK fr cnt)))) = (others (nth (nth L i).op k).lk (ixB ((nth (nth L i).op k).lk.map (eqK fr cnt)))).length by rw [others_len hix]; omega] at h9; exact h9)) rfl (fun _ _ => ?_)
      refine o_p (p_pure rfl) rfl ?_
      refine o_p (p_fieldAddr rfl rfl fd_48_4 sz_46 rfl) rfl ?_
      refine o_slot (show _ = Value.pointer (some ⟨go, k * 5 + 4, none⟩) from by rw [Nat.zero_add]) ?_
      refine o_h0 (h_store rfl rfl rfl sz_46 rfl aPt (by rw [flat_length ov5]; omega) rfl) (fun _ _ => ?_)
      refine o_nil ?_
      refine s_seq ?_
      refine s_region ?_
      refine o_p (p_pure rfl) rfl ?_
      refine o_nil ?_
      exact s_retv (rs := [.tmp 8]) rfl (.tmp rfl (.nil)) (fun w' h' => ⟨((some ⟨ga, 0, none⟩, cap), L.set i { nth L i with op := (nth L i).op.set k { (nth (nth L i).op k) with lk := others (nth (nth L i).op k).lk (ixB ((nth (nth L i).op k).lk.map (eqK fr cnt))) } }), by rw [unlockT, hfe]; simp only [if_true]; rw [if_pos hz.2, nth_pls hi, LFil.pl, nth_plo hk]; skip; rw [if_pos (by simp only [LOpn.pl]; exact hix)]; rfl, by rw [unlockT, hfe]; simp only [if_true]; rw [if_pos hz.2, nth_pls hi, LFil.pl, nth_plo hk]; skip; rw [if_pos (by simp only [LOpn.pl]; exact hix)]; exact upd_lk (o := { (nth (nth L i).op k) with lk := others (nth (nth L i).op k).lk (ixB ((nth (nth L i).op k).lk.map (eqK fr cnt))) }) (u := fun o => { o with lk := others o.lk (ixB (o.lk.map (eqK fr cnt))) }) hi hk rfl, by have h2 := HS.lock_put (o := { (nth (nth L i).op k) with lk := others (nth (nth L i).op k).lk (ixB ((nth (nth L i).op k).lk.map (eqK fr cnt))) }) hi hk hoa (h'.ent (Bs := [.blk go 48 ((nth L i).oc * 5) _, .locks (nth (nth L i).op k).la (nth (nth L i).op k).lc (others (nth (nth L i).op k).lk (ixB ((nth (nth L i).op k).lk.map (eqK fr cnt)))), .star ((others (nth L i).op k).map subO), .blk ga 77 (cap * 4) (L.flatMap LFil.vals), .star ((others L i).map subF), .blk bt 106 2 [.int .i64 next, .slice (some ⟨ga, 0, none⟩) L.length cap]]) aEt) (flat_set ov5 (nth L i).op k 4 [.slice (nth (nth L i).op k).la (others (nth (nth L i).op k).lk (ixB ((nth (nth L i).op k).lk.map (eqK fr cnt)))).length (nth (nth L i).op k).lc] (nth (nth L i).op k) _ (nth_get hk) (by simp [LOpn.vals, setMany]) (by simp)) hoc hom hcap hcm; rw [List.length_set]; exact h2.ent aEt⟩)

set_option maxRecDepth 20000 in
theorem c109 (w : World) (k : Lock) (o : Bool) : Calls Try.prog 109 #[.agg #[.int .i64 k.fr, .int .i64 k.cnt, .bool k.ex], .bool o] w fun en w' => en = .returned (.bool (rdK k.ex o)) ∧ Below w.heap.size w w' := by
  refine enter (args := [_, _]) Try.func109 Try.ntmps109 rfl rfl (HS.refl w []) ?_
  refine s_seq ?_
  refine s_region ?_
  refine o_h (h_box rfl rfl) rfl (fun b1 _ => ?_)
  refine o_p (p_pure rfl) rfl ?_
  refine o_nil ?_
  refine s_seq ?_
  refine s_region ?_
  refine o_p (p_fieldAddr rfl rfl fd_62_2 sz_4 rfl) rfl ?_
  refine o_q (q_load rfl rfl sz_4 aPk rfl) rfl ?_
  refine o_p (p_pure rfl) rfl ?_
  refine o_and 2 7 9 _ _ rfl
    (by
      intro hg2
      have hs3 := hg2; try simp only [decide_eq_true_eq, decide_eq_false_iff_not, Bool.not_eq_true', Bool.not_eq_false', Bool.and_eq_true, Bool.or_eq_true, Bool.and_eq_false_iff, Bool.or_eq_false_iff, Bool.not_true, Bool.not_false] at hs3
      refine o_on 7 _ rfl rfl hg2 ?_
      refine o_p (p_pure rfl) rfl ?_
      refine o_p (p_pickt rfl rfl hg2 rfl) rfl ?_
      refine o_nil ?_
      exact s_joinN 2 9 _ rfl rfl rfl (fun w h => by first | exact h | exact h.ent aEt))
    (by
      intro hg4
      have hs5 := hg4; try simp only [decide_eq_true_eq, decide_eq_false_iff_not, Bool.not_eq_true', Bool.not_eq_false', Bool.and_eq_true, Bool.or_eq_true, Bool.and_eq_false_iff, Bool.or_eq_false_iff, Bool.not_true, Bool.not_false] at hs5
      refine o_off 7 _ rfl rfl hg4 rfl ?_
      refine o_p (p_pickf rfl rfl hg4 rfl) rfl ?_
      refine o_nil ?_
      exact s_joinN 2 9 _ rfl rfl rfl (fun w h => by first | exact h | exact h.ent aEt)) ?_
  refine o_p (p_pure rfl) rfl ?_
  refine o_nil ?_
  exact s_retv (rs := [.tmp 4]) rfl (.tmp rfl (.nil)) (fun w' h' => ⟨by simp only [retV, rdK], h'.below⟩)

set_option maxRecDepth 20000 in
theorem c110 (w : World) (k : Lock) (o : Bool) : Calls Try.prog 110 #[.agg #[.int .i64 k.fr, .int .i64 k.cnt, .bool k.ex], .bool o] w fun en w' => en = .returned (.bool (wrK k.ex o)) ∧ Below w.heap.size w w' := by
  refine enter (args := [_, _]) Try.func110 Try.ntmps110 rfl rfl (HS.refl w []) ?_
  refine s_seq ?_
  refine s_region ?_
  refine o_h (h_box rfl rfl) rfl (fun b1 _ => ?_)
  refine o_p (p_pure rfl) rfl ?_
  refine o_nil ?_
  refine s_seq ?_
  refine s_region ?_
  refine o_p (p_fieldAddr rfl rfl fd_62_2 sz_4 rfl) rfl ?_
  refine o_q (q_load rfl rfl sz_4 aPk rfl) rfl ?_
  refine o_p (p_pure rfl) rfl ?_
  refine o_p (p_pure rfl) rfl ?_
  refine o_or 2 8 10 _ _ rfl
    (by
      intro hg2
      have hs3 := hg2; try simp only [decide_eq_true_eq, decide_eq_false_iff_not, Bool.not_eq_true', Bool.not_eq_false', Bool.and_eq_true, Bool.or_eq_true, Bool.and_eq_false_iff, Bool.or_eq_false_iff, Bool.not_true, Bool.not_false] at hs3
      refine o_on 8 _ rfl rfl hg2 ?_
      refine o_p (p_pure rfl) rfl ?_
      refine o_p (p_pickf rfl rfl hg2 rfl) rfl ?_
      refine o_nil ?_
      exact s_joinN 2 10 _ rfl rfl rfl (fun w h => by first | exact h | exact h.ent aEt))
    (by
      intro hg4
      have hs5 := hg4; try simp only [decide_eq_true_eq, decide_eq_false_iff_not, Bool.not_eq_true', Bool.not_eq_false', Bool.and_eq_true, Bool.or_eq_true, Bool.and_eq_false_iff, Bool.or_eq_false_iff, Bool.not_true, Bool.not_false] at hs5
      refine o_off 8 _ rfl rfl hg4 rfl ?_
      refine o_p (p_pickt rfl rfl hg4 rfl) rfl ?_
      refine o_nil ?_
      exact s_joinN 2 10 _ rfl rfl rfl (fun w h => by first | exact h | exact h.ent aEt)) ?_
  refine o_p (p_pure rfl) rfl ?_
  refine o_nil ?_
  exact s_retv (rs := [.tmp 4]) rfl (.tmp rfl (.nil)) (fun w' h' => ⟨by simp only [retV, wrK], h'.below⟩)

set_option maxRecDepth 20000 in
theorem c108 (w : World) (bt : Nat) (a : Option Addr) (cap : Nat) (L : List LFil) (h : Int) (q : Lock) (acc f : Nat) (kp : Bool → Bool → Bool) (ht1 : Rd w [] bt 1 (.slice a L.length cap)) (hs : Ft w [] a L) (hV : VW (pls L)) (hf : isFn Try.prog f = true) (hacc : acc = 1 ∨ acc = 2) (hk0 : ∀ (k : Lock) (o : Bool) w1, Calls Try.prog f #[.agg #[.int .i64 k.fr, .int .i64 k.cnt, .bool k.ex], .bool o] w1 fun en w2 => en = .returned (.bool (kp k.ex o)) ∧ Below w1.heap.size w1 w2) : Calls Try.prog 108 #[.pointer (some ⟨bt, 0, none⟩), .int .i64 h, .agg #[.int .i64 q.fr, .int .i64 q.cnt, .bool q.ex], .int .i64 (acc : Int), .func (.func f) #[] #[]] w fun en w' => en = .returned (.int .i64 (mayT (pls L) h q acc kp)) ∧ Below w.heap.size w w' := by
  refine enter (args := [_, _, _, _, _]) Try.func108 Try.ntmps108 rfl rfl (HS.refl w []) ?_
  refine s_seq ?_
  refine s_region ?_
  refine o_h (h_box rfl rfl) rfl (fun b1 _ => ?_)
  refine o_p (p_pure rfl) rfl ?_
  refine o_nil ?_
  refine s_seq ?_
  refine s_region ?_
  refine o_p (p_pure rfl) rfl ?_
  refine o_p (p_pure rfl) rfl ?_
  refine o_q (q_call rfl fn_100 rfl (fun w1 h1 => c100 w1 bt a cap L h (ht1.next h1) (hs.later h1) (by have := (VW.lens hV).1; omega) (fun f hf => by have := (VW.lens hV).2 f hf; omega))) rfl ?_
  refine o_p (p_pure rfl) rfl ?_
  refine o_p (p_pure rfl) rfl ?_
  refine o_p (p_pure rfl) rfl ?_
  refine o_p (p_pure rfl) rfl ?_
  refine o_p (p_pure rfl) rfl ?_
  refine o_p (p_pure rfl) rfl ?_
  refine o_p (p_pure rfl) rfl ?_
  refine o_nil ?_
  refine s_seq ?_
  refine s_seq ?_
  refine s_region ?_
  refine o_p (p_pure rfl) rfl ?_
  refine o_p (p_fieldAddr rfl rfl fd_62_0 sz_3 rfl) rfl ?_
  refine o_q (q_load rfl rfl sz_3 aPk rfl) rfl ?_
  refine o_p (p_fieldAddr rfl rfl fd_62_1 sz_3 rfl) rfl ?_
  refine o_q (q_load rfl rfl sz_3 aPk rfl) rfl ?_
  refine o_q (q_call rfl fn_94 rfl (fun w1 h1 => c94 w1 _ _)) rfl ?_
  refine o_h (h_buildSlice (cs := [_, _]) rfl rfl sl_146 zr_28 rfl rfl rfl) rfl (fun b2 _ => ?_)
  refine o_q (q_call rfl fn_52 rfl (fun w1 h1 => f52 h1 aPk (by rfl) (by rfl) (by decide))) rfl ?_
  refine o_p (p_pure rfl) rfl ?_
  refine o_nil ?_
  refine s_seq ?_
  refine s_region ?_
  refine o_p (p_pure rfl) rfl ?_
  refine o_p (p_pure rfl) rfl ?_
  refine o_nil ?_
  refine s_cond rfl (fun h3 => ?_) (fun h3 => ?_)
  · try simp only [decide_eq_true_eq, decide_eq_false_iff_not, Bool.not_eq_true', Bool.not_eq_false', Bool.and_eq_true, Bool.or_eq_true, Bool.and_eq_false_iff, Bool.or_eq_false_iff, Bool.not_true, Bool.not_false] at h3
    refine s_seq ?_
    refine s_region ?_
    refine o_p (p_pure rfl) rfl ?_
    refine o_p (p_pure rfl) rfl ?_
    refine o_nil ?_
    exact s_retv (rs := [.tmp 10]) rfl (.tmp rfl (.nil)) (fun w' h' => ⟨by rw [mayT_e h3]; rfl, h'.below⟩)
  · try simp only [decide_eq_true_eq, decide_eq_false_iff_not, Bool.not_eq_true', Bool.not_eq_false', Bool.and_eq_true, Bool.or_eq_true, Bool.and_eq_false_iff, Bool.or_eq_false_iff, Bool.not_true, Bool.not_false] at h3
    have hz := first2_0 h3
    obtain ⟨i, k, hfe, hi, hk, hV3⟩ := findF_some hV hz.1
    rw [hfe]
    dsimp only
    have h8 := and_8 (x := (nth (nth L i).op k).ac) (by have := openE_r hV3.1; omega)
    have h10 : decide (Gx.bits .and .i64 (nth (nth L i).op k).ac (acc : Int) = 0) = !hasB (nth (nth L i).op k).ac acc := by rcases hacc with rfl | rfl <;> first | exact h8.2.2.1 | exact h8.2.1
    refine s_skip ?_
    refine s_seq ?_
    refine s_region ?_
    refine o_p (p_pure rfl) rfl ?_
    refine o_p (p_pure rfl) rfl ?_
    refine o_p (p_fieldAddr rfl rfl fd_106_0 sz_26 rfl) rfl ?_
    refine o_p (p_fieldAddr rfl rfl fd_26_1 sz_24 rfl) rfl ?_
    refine o_q (q_load_old rfl rfl sz_24 (ht1)) rfl ?_
    refine o_p (p_pure rfl) rfl ?_
    refine o_p (p_indexAddr rfl rfl rfl sl_24 (i) (by omega) (by omega) (Rw.some hs.1 (by omega))) rfl ?_
    refine o_q (q_load_oldn _ rfl rfl sz_77 rfl (Rw.rd hs.1 hi)) rfl ?_
    refine o_h (h_alloc rfl zr_77) rfl (fun b4 _ => ?_)
    refine o_h0 (h_store rfl rfl rfl sz_77 rfl aPt (by simp only [setMany_length, List.length_set, List.length_cons, List.length_nil, List.length_map]; omega) rfl) (fun _ _ => ?_)
    refine o_nil ?_
    refine s_seq ?_
    refine s_seq ?_
    refine s_weaken (L' := [(3, _), (4, _), (7, _), (10, _), (12, _), (14, _)]) aSx (fun _ h => h) ?_
    refine s_region ?_
    refine o_p (p_fieldAddr rfl rfl fd_77_2 sz_75 rfl) rfl ?_
    refine o_q (q_load rfl rfl sz_75 aPk rfl) rfl ?_
    refine o_p (p_pure rfl) rfl ?_
    refine o_p (p_indexAddr rfl rfl rfl sl_75 (k) (by omega) (by omega) (Rw.some (hs.at hi).1 (by omega))) rfl ?_
    refine o_p (p_fieldAddr rfl rfl fd_48_1 sz_3 rfl) rfl ?_
    refine o_q (q_load_old rfl rfl sz_3 (((hs.at hi).1.rdj 1 hk rfl))) rfl ?_
    refine o_p (p_pure rfl) rfl ?_
    refine o_p (p_pure rfl) rfl ?_
    refine o_p (p_pure rfl) rfl ?_
    refine o_nil ?_
    refine s_cond rfl (fun h5 => ?_) (fun h5 => ?_)
    · try simp only [decide_eq_true_eq, decide_eq_false_iff_not, Bool.not_eq_true', Bool.not_eq_false', Bool.and_eq_true, Bool.or_eq_true, Bool.and_eq_false_iff, Bool.or_eq_false_iff, Bool.not_true, Bool.not_false] at h5
      have hno : hasB (nth (nth L i).op k).ac acc = false := by have hq := h5; have h9 := h10; rw [decide_eq_true hq] at h9; simpa using h9.symm
      have hno2 : ¬ hasB (nth (nth L i).op k).pl.ac acc = true := by show ¬ hasB (nth (nth L i).op k).ac acc = true; rw [hno]; decide
      refine s_seq ?_
      refine s_region ?_
      refine o_p (p_pure rfl) rfl ?_
      refine o_nil ?_
      exact s_retv (rs := [.tmp 10]) rfl (.tmp rfl (.nil)) (fun w' h' => ⟨by rw [mayT, hfe]; simp only [if_true]; rw [if_pos hz.2, nth_pls hi, LFil.pl, nth_plo hk]; skip; rw [if_neg hno2]; rfl, h'.below⟩)
    · try simp only [decide_eq_true_eq, decide_eq_false_iff_not, Bool.not_eq_true', Bool.not_eq_false', Bool.and_eq_true, Bool.or_eq_true, Bool.and_eq_false_iff, Bool.or_eq_false_iff, Bool.not_true, Bool.not_false] at h5
      have hyes : hasB (nth (nth L i).op k).ac acc = true := by have hq := h5; have h9 := h10; rw [decide_eq_false hq] at h9; simpa using h9.symm
      have hyes2 : hasB (nth (nth L i).op k).pl.ac acc = true := hyes
      have hl32 := (VW.lens hV).2 _ (mem_nth hi)
      refine s_skip ?_
      refine s_seq ?_
      refine s_seq ?_
      refine s_region ?_
      refine o_p (p_fieldAddr rfl rfl fd_77_2 sz_75 rfl) rfl ?_
      refine o_q (q_load rfl rfl sz_75 aPk rfl) rfl ?_
      refine o_p (p_len_slice rfl rfl Try.underlying75) rfl ?_
      refine o_p (p_pure rfl) rfl ?_
      refine o_nil ?_
      refine s_block ?_
      refine s_weaken (L' := [(4, _), (7, _), (10, _), (12, _), (55, _), (56, _), (57, _)]) aSx (fun _ h => h) ?_
      refine s_loopI (α := Nat) [10, 15, 16, 18, 57, 58, 59, 60, 61, 62, 63, 64, 65, 66, 67, 68, 69, 70, 71, 72, 73, 74, 75, 76, 77, 78, 79, 80, 81] (fun n => [(57, .int .i64 (n : Int))]) (fun _ => HS w [] [.blk b1 62 3 q.vals]) (fun n => n ≤ (nth L i).op.length ∧ ∀ n2, n2 < n → ∀ m, m < (nth (nth L i).op n2).lk.length → (ovl (nth (nth (nth L i).op n2).lk m) q && kp (nth (nth (nth L i).op n2).lk m).ex (decide (n2 ≠ k))) = false) (fun n => (nth L i).op.length - n) 0 ⟨by omega, fun n2 h2 => absurd h2 (Nat.not_lt_zero n2)⟩ aSx (fun w h => h.ent aEt) (fun n hn => ?_)
      obtain ⟨hn1, hn2⟩ := hn
      refine s_seq ?_
      refine s_region ?_
      refine o_p (p_pure rfl) rfl ?_
      refine o_nil ?_
      refine s_seq ?_
      refine s_cond rfl (fun h6 => ?_) (fun h6 => ?_)
      · try simp only [decide_eq_true_eq, decide_eq_false_iff_not, Bool.not_eq_true', Bool.not_eq_false', Bool.and_eq_true, Bool.or_eq_true, Bool.and_eq_false_iff, Bool.or_eq_false_iff, Bool.not_true, Bool.not_false] at h6
        have hnl : n < (nth L i).op.length := by omega
        have hv9 := VW.at hV hi hnl
        refine s_skip ?_
        refine s_seq ?_
        refine s_block ?_
        refine s_seq ?_
        refine s_region ?_
        refine o_p (p_pure rfl) rfl ?_
        refine o_p (p_indexAddr rfl rfl rfl sl_75 (n) (by omega) (by omega) (Rw.some (hs.at hi).1 (by omega))) rfl ?_
        refine o_q (q_load_oldn _ rfl rfl sz_48 rfl (Rw.rd (hs.at hi).1 hnl)) rfl ?_
        refine o_h (h_alloc rfl zr_48) rfl (fun b7 _ => ?_)
        refine o_p (p_pure rfl) rfl ?_
        refine o_h0 (h_store rfl rfl rfl sz_48 rfl aPt (by simp only [setMany_length, List.length_set, List.length_cons, List.length_nil, List.length_map]; omega) rfl) (fun _ _ => ?_)
        refine o_nil ?_
        refine s_seq ?_
        refine s_region ?_
        refine o_p (p_fieldAddr rfl rfl fd_48_4 sz_46 rfl) rfl ?_
        refine o_q (q_load rfl rfl sz_46 aPk rfl) rfl ?_
        refine o_p (p_len_slice rfl rfl Try.underlying46) rfl ?_
        refine o_p (p_pure rfl) rfl ?_
        refine o_nil ?_
        refine s_block ?_
        refine s_loopI (α := Nat) [10, 18, 65, 66, 67, 68, 69, 70, 71, 72, 73, 74, 75, 76, 77, 78, 79, 80] (fun m => [(65, .int .i64 (m : Int))]) (fun _ => HS w [] [.blk b7 48 5 (nth (nth L i).op n).vals, .blk b1 62 3 q.vals]) (fun m => m ≤ (nth (nth L i).op n).lk.length ∧ ∀ m2, m2 < m → (ovl (nth (nth (nth L i).op n).lk m2) q && kp (nth (nth (nth L i).op n).lk m2).ex (decide (n ≠ k))) = false) (fun m => (nth (nth L i).op n).lk.length - m) 0 ⟨by omega, fun n2 h2 => absurd h2 (Nat.not_lt_zero n2)⟩ aSx (fun w h => h.ent aEt) (fun m hm => ?_)
        obtain ⟨hm1, hm3⟩ := hm
        refine s_seq ?_
        refine s_region ?_
        refine o_p (p_pure rfl) rfl ?_
        refine o_nil ?_
        refine s_seq ?_
        refine s_cond rfl (fun h8 => ?_) (fun h8 => ?_)
        · try simp only [decide_eq_true_eq, decide_eq_false_iff_not, Bool.not_eq_true', Bool.not_eq_false', Bool.and_eq_true, Bool.or_eq_true, Bool.and_eq_false_iff, Bool.or_eq_false_iff, Bool.not_true, Bool.not_false] at h8
          have hml : m < (nth (nth L i).op n).lk.length := by omega
          refine s_skip ?_
          refine s_seq ?_
          refine s_block ?_
          refine s_seq ?_
          refine s_region ?_
          refine o_p (p_indexAddr rfl rfl rfl sl_46 (m) (by omega) (by omega) (Rw.some ((hs.at hi).at hnl) (by omega))) rfl ?_
          refine o_q (q_load_oldn _ rfl rfl sz_62 rfl (Rw.rd ((hs.at hi).at hnl) hml)) rfl ?_
          refine o_h (h_alloc rfl zr_62) rfl (fun b9 _ => ?_)
          refine o_h0 (h_store rfl rfl rfl sz_62 rfl aPt (by simp only [setMany_length, List.length_set, List.length_cons, List.length_nil, List.length_map]; omega) rfl) (fun _ _ => ?_)
          refine o_nil ?_
          refine s_seq ?_
          refine s_region ?_
          refine o_q (q_loadn rfl rfl sz_62 aPk rfl) rfl ?_
          refine o_q (q_loadn rfl rfl sz_62 aPk rfl) rfl ?_
          refine o_q (q_call rfl fn_124 rfl (fun w1 h1 => c124 w1 _ q (okL_nth hv9.2.1 hml) hz.2)) rfl ?_
          refine o_p (p_pure rfl) rfl ?_
          refine o_and 7 72 79 _ _ rfl
            (by
              intro hg10
              have hs11 := hg10; try simp only [decide_eq_true_eq, decide_eq_false_iff_not, Bool.not_eq_true', Bool.not_eq_false', Bool.and_eq_true, Bool.or_eq_true, Bool.and_eq_false_iff, Bool.or_eq_false_iff, Bool.not_true, Bool.not_false] at hs11
              refine o_on 72 _ rfl rfl hg10 ?_
              refine o_p (p_pure rfl) rfl ?_
              refine o_on 72 _ rfl rfl hg10 ?_
              refine o_q (q_loadn rfl rfl sz_62 aPk rfl) rfl ?_
              refine o_on 72 _ rfl rfl hg10 ?_
              refine o_p (p_pure rfl) rfl ?_
              refine o_on 72 _ rfl rfl hg10 ?_
              refine o_p (p_pure rfl) rfl ?_
              refine o_on 72 _ rfl rfl hg10 ?_
              refine o_p (p_pure rfl) rfl ?_
              refine o_slot (show _ = Value.bool (decide (n ≠ k)) from by congr 1; have e9 : ((n : Int) = (k : Int)) ↔ n = k := Int.ofNat_inj; simp [e9]) ?_
              refine o_on 72 _ rfl rfl hg10 ?_
              refine o_q (q_callv rfl rfl hf rfl (fun w1 h1 => hk0 (nth (nth (nth L i).op n).lk m) (decide (n ≠ k)) w1)) rfl ?_
              refine o_p (p_pickt rfl rfl hg10 rfl) rfl ?_
              refine o_nil ?_
              exact s_joinN 7 79 _ rfl rfl rfl (fun w h => by first | exact h | exact h.ent aEt))
            (by
              intro hg12
              have hs13 := hg12; try simp only [decide_eq_true_eq, decide_eq_false_iff_not, Bool.not_eq_true', Bool.not_eq_false', Bool.and_eq_true, Bool.or_eq_true, Bool.and_eq_false_iff, Bool.or_eq_false_iff, Bool.not_true, Bool.not_false] at hs13
              refine o_off 72 _ rfl rfl hg12 rfl ?_
              refine o_off 72 _ rfl rfl hg12 rfl ?_
              refine o_off 72 _ rfl rfl hg12 rfl ?_
              refine o_off 72 _ rfl rfl hg12 rfl ?_
              refine o_off 72 _ rfl rfl hg12 rfl ?_
              refine o_off 72 _ rfl rfl hg12 rfl ?_
              refine o_p (p_pickf rfl rfl hg12 rfl) rfl ?_
              refine o_nil ?_
              exact s_joinN 7 79 _ rfl rfl rfl (fun w h => by first | exact h | exact h.ent aEt)) ?_
          refine o_nil ?_
          refine s_cond rfl (fun h14 => ?_) (fun h14 => ?_)
          · try simp only [decide_eq_true_eq, decide_eq_false_iff_not, Bool.not_eq_true', Bool.not_eq_false', Bool.and_eq_true, Bool.or_eq_true, Bool.and_eq_false_iff, Bool.or_eq_false_iff, Bool.not_true, Bool.not_false] at h14
            have hhit : (ovl (nth (nth (nth L i).op n).lk m) q && kp (nth (nth (nth L i).op n).lk m).ex (decide (n ≠ k))) = true := by have hq := h14; simpa using hq
            refine s_seq ?_
            refine s_region ?_
            refine o_p (p_pure rfl) rfl ?_
            refine o_nil ?_
            exact s_retv (rs := [.tmp 10]) rfl (.tmp rfl (.nil)) (fun w' h' => ⟨by rw [mayT, hfe]; simp only [if_true]; rw [if_pos hz.2, nth_pls hi, LFil.pl, nth_plo hk]; skip; rw [if_pos hyes2, if_pos (mayB_hit (n := n) (m := m) (by simp; omega) (by rw [nth_plo hnl]; exact hml) (by rw [nth_plo hnl]; exact hhit))]; rfl, h'.below⟩)
          · try simp only [decide_eq_true_eq, decide_eq_false_iff_not, Bool.not_eq_true', Bool.not_eq_false', Bool.and_eq_true, Bool.or_eq_true, Bool.and_eq_false_iff, Bool.or_eq_false_iff, Bool.not_true, Bool.not_false] at h14
            have hmiss : (ovl (nth (nth (nth L i).op n).lk m) q && kp (nth (nth (nth L i).op n).lk m).ex (decide (n ≠ k))) = false := by have hq := h14; (try simp only [Bool.and_eq_false_iff] at hq ⊢); first | exact hq | simpa using hq
            refine s_skip ?_
            refine s_blk ?_
            refine s_region ?_
            refine o_p (p_pure rfl) rfl ?_
            try (refine o_slot (i64w (by omega) (by omega)) ?_)
            refine o_p (p_pure rfl) rfl ?_
            refine o_nil ?_
            exact s_backI (m + 1) (by omega) ⟨by omega, fun m2 h2 => (Nat.lt_or_ge m2 m).elim (hm3 m2) (fun h3 => by obtain rfl : m2 = m := (by omega); exact hmiss)⟩ aSx (fun w h => h.ent aEt)
        · try simp only [decide_eq_true_eq, decide_eq_false_iff_not, Bool.not_eq_true', Bool.not_eq_false', Bool.and_eq_true, Bool.or_eq_true, Bool.and_eq_false_iff, Bool.or_eq_false_iff, Bool.not_true, Bool.not_false] at h8
          refine s_exit_to rfl ?_
          refine s_blk ?_
          refine s_region ?_
          refine o_p (p_pure rfl) rfl ?_
          try (refine o_slot (i64w (by omega) (by omega)) ?_)
          refine o_p (p_pure rfl) rfl ?_
          refine o_nil ?_
          exact s_backI (n + 1) (by omega) ⟨by omega, fun n2 h2 m2 hm2 => (Nat.lt_or_ge n2 n).elim (fun h3 => hn2 n2 h3 m2 hm2) (fun h3 => by obtain rfl : n2 = n := (by omega); exact hm3 m2 (by omega))⟩ aSx (fun w h => h.ent aEt)
      · try simp only [decide_eq_true_eq, decide_eq_false_iff_not, Bool.not_eq_true', Bool.not_eq_false', Bool.and_eq_true, Bool.or_eq_true, Bool.and_eq_false_iff, Bool.or_eq_false_iff, Bool.not_true, Bool.not_false] at h6
        refine s_exit_to rfl ?_
        refine s_seq ?_
        refine s_region ?_
        refine o_p (p_pure rfl) rfl ?_
        refine o_nil ?_
        exact s_retv (rs := [.tmp 10]) rfl (.tmp rfl (.nil)) (fun w' h' => ⟨by rw [mayT, hfe]; simp only [if_true]; rw [if_pos hz.2, nth_pls hi, LFil.pl, nth_plo hk]; skip; rw [if_pos hyes2, if_neg (by rw [mayB_no (fun n9 h9 m9 h8 => by rw [List.length_map] at h9; rw [nth_plo h9] at h8 ⊢; exact hn2 n9 (by omega) m9 h8)]; decide)]; rfl, h'.below⟩)

set_option maxRecDepth 20000 in
theorem c76 (w : World) (bt : Nat) (a : Option Addr) (cap : Nat) (L : List LFil) (h : Int) (q : Lock) (ht1 : Rd w [] bt 1 (.slice a L.length cap)) (hs : Ft w [] a L) (hV : VW (pls L)) : Calls Try.prog 76 #[.pointer (some ⟨bt, 0, none⟩), .int .i64 h, .agg #[.int .i64 q.fr, .int .i64 q.cnt, .bool q.ex]] w fun en w' => en = .returned (.int .i64 (mayT (pls L) h q 1 rdK)) ∧ Below w.heap.size w w' := by
  refine enter (args := [_, _, _]) Try.func76 Try.ntmps76 rfl rfl (HS.refl w []) ?_
  refine s_seq ?_
  refine s_region ?_
  refine o_h (h_box rfl rfl) rfl (fun b1 _ => ?_)
  refine o_p (p_pure rfl) rfl ?_
  refine o_nil ?_
  refine s_seq ?_
  refine s_region ?_
  refine o_p (p_pure rfl) rfl ?_
  refine o_p (p_pure rfl) rfl ?_
  refine o_q (q_loadn rfl rfl sz_62 aPk rfl) rfl ?_
  refine o_q (q_call rfl fn_108 rfl (fun w1 h1 => c108 w1 bt a cap L h q 1 109 rdK (ht1.next h1) (hs.later h1) hV (by kernel_rfl) (by simp) (fun k o w2 => c109 w2 k o))) rfl ?_
  refine o_p (p_pure rfl) rfl ?_
  refine o_nil ?_
  exact s_retv (rs := [.tmp 6]) rfl (.tmp rfl (.nil)) (fun w' h' => ⟨rfl, h'.below⟩)

set_option maxRecDepth 20000 in
theorem c78 (w : World) (bt : Nat) (a : Option Addr) (cap : Nat) (L : List LFil) (h : Int) (q : Lock) (ht1 : Rd w [] bt 1 (.slice a L.length cap)) (hs : Ft w [] a L) (hV : VW (pls L)) : Calls Try.prog 78 #[.pointer (some ⟨bt, 0, none⟩), .int .i64 h, .agg #[.int .i64 q.fr, .int .i64 q.cnt, .bool q.ex]] w fun en w' => en = .returned (.int .i64 (mayT (pls L) h q 2 wrK)) ∧ Below w.heap.size w w' := by
  refine enter (args := [_, _, _]) Try.func78 Try.ntmps78 rfl rfl (HS.refl w []) ?_
  refine s_seq ?_
  refine s_region ?_
  refine o_h (h_box rfl rfl) rfl (fun b1 _ => ?_)
  refine o_p (p_pure rfl) rfl ?_
  refine o_nil ?_
  refine s_seq ?_
  refine s_region ?_
  refine o_p (p_pure rfl) rfl ?_
  refine o_p (p_pure rfl) rfl ?_
  refine o_q (q_loadn rfl rfl sz_62 aPk rfl) rfl ?_
  refine o_q (q_call rfl fn_108 rfl (fun w1 h1 => c108 w1 bt a cap L h q 2 110 wrK (ht1.next h1) (hs.later h1) hV (by kernel_rfl) (by simp) (fun k o w2 => c110 w2 k o))) rfl ?_
  refine o_p (p_pure rfl) rfl ?_
  refine o_nil ?_
  exact s_retv (rs := [.tmp 6]) rfl (.tmp rfl (.nil)) (fun w' h' => ⟨rfl, h'.below⟩)

end Go.Proofs

namespace Go.Proofs
open Go Go.RowKit Gx
set_option linter.unusedVariables false
set_option linter.unusedSimpArgs false
attribute [local irreducible] Go.Calls Gx.S Gx.O Gx.D Gx.OpP Gx.OpQ Gx.OpH

theorem fd_48_3 : tfd Try.prog 48 3 = some (3, 4) := by kernel_rfl
theorem fn_117 : isFn Try.prog 117 = true := by kernel_rfl
theorem fn_118 : isFn Try.prog 118 = true := by kernel_rfl


def closF (f : Fil) (k : Nat) : Fil := { f with pd := f.pd || (nth f.op k).dl, op := others f.op k }
def closeT (L : List Fil) (h : Int) : List Fil × Bool × Int :=
  if (findF L h 0).2.2 = 0 then
    if 0 < (closF (nth L (findF L h 0).1) (findF L h 0).2.1).op.length then (updF L (findF L h 0).1 fun f => closF f (findF L h 0).2.1, false, 0)
    else (others L (findF L h 0).1, (closF (nth L (findF L h 0).1) (findF L h 0).2.1).pd, 0)
  else (L, false, (findF L h 0).2.2)
def closL (f : LFil) (k : Nat) : LFil := { f with pd := f.pd || (nth f.op k).dl, op := others f.op k }
theorem closL_pl {f : LFil} {k : Nat} (hk : k < f.op.length) : (closL f k).pl = closF f.pl k := by
  unfold closL closF LFil.pl
  simp only [nth_plo hk]
  simp [others, LOpn.pl, List.map_take, List.map_drop]
theorem pls_others {L : List LFil} {i : Nat} : pls (others L i) = others (pls L) i := by simp [pls, others, List.map_take, List.map_drop]

set_option maxRecDepth 20000 in
set_option maxHeartbeats 1000000 in
theorem c82 (w : World) (bt : Nat) (next : Int) (a : Option Addr) (cap : Nat) (L : List LFil) (h : Int) (hw : HS w (fps [.blk bt 106 2 [.int .i64 (next), .slice a (L).length cap], .files a cap (L)]) [.blk bt 106 2 [.int .i64 (next), .slice a (L).length cap], .files a cap (L)] w) (hV : VW (pls L)) : Calls Try.prog 82 #[.pointer (some ⟨bt, 0, none⟩), .int .i64 h] w fun en w' => ∃ g : (Option Addr × Nat) × List LFil, en = .returned (.tuple #[.bool (closeT (pls L) h).2.1, .int .i64 (closeT (pls L) h).2.2]) ∧ pls g.2 = (closeT (pls L) h).1 ∧ HS w (fps [.blk bt 106 2 [.int .i64 (next), .slice a (L).length cap], .files a cap (L)]) [.blk bt 106 2 [.int .i64 (next), .slice g.1.1 (g.2).length g.1.2], .files g.1.1 g.1.2 (g.2)] w' := by
  refine enter (args := [_, _]) Try.func82 Try.ntmps82 rfl rfl hw ?_
  refine s_seq ?_
  refine s_region ?_
  refine o_p (p_pure rfl) rfl ?_
  refine o_p (p_pure rfl) rfl ?_
  refine o_nil ?_
  refine s_seq ?_
  refine s_region ?_
  refine o_p (p_pure rfl) rfl ?_
  refine o_p (p_pure rfl) rfl ?_
  refine o_q (q_call rfl fn_100 rfl (fun w1 h1 => c100 w1 bt _ _ L h (h1.rd_blk (Mc := []) aPk rfl (by simp)) (h1.ft aPk) (by have := (VW.lens hV).1; omega) (fun f hf => by have := (VW.lens hV).2 f hf; omega))) rfl ?_
  refine o_p (p_pure rfl) rfl ?_
  refine o_p (p_pure rfl) rfl ?_
  refine o_p (p_pure rfl) rfl ?_
  refine o_p (p_pure rfl) rfl ?_
  refine o_p (p_pure rfl) rfl ?_
  refine o_p (p_pure rfl) rfl ?_
  refine o_p (p_pure rfl) rfl ?_
  refine o_nil ?_
  refine s_seq ?_
  refine s_seq ?_
  refine s_region ?_
  refine o_p (p_pure rfl) rfl ?_
  refine o_p (p_pure rfl) rfl ?_
  refine o_nil ?_
  refine s_cond rfl (fun h1 => ?_) (fun h1 => ?_)
  · try simp only [decide_eq_true_eq, decide_eq_false_iff_not, Bool.not_eq_true', Bool.not_eq_false', Bool.and_eq_true, Bool.or_eq_true, Bool.and_eq_false_iff, Bool.or_eq_false_iff, Bool.not_true, Bool.not_false] at h1
    refine s_seq ?_
    refine s_region ?_
    refine o_p (p_pure rfl) rfl ?_
    refine o_p (p_pure rfl) rfl ?_
    refine o_p (p_pure rfl) rfl ?_
    refine o_nil ?_
    exact s_retv (rs := [.tmp 4, .tmp 5]) rfl (.tmp rfl (.tmp rfl (.nil))) (fun w' h' => ⟨((a, cap), L), by rw [closeT, if_neg h1]; rfl, by rw [closeT, if_neg h1], h'.ent aEt⟩)
  · try simp only [decide_eq_true_eq, decide_eq_false_iff_not, Bool.not_eq_true', Bool.not_eq_false', Bool.and_eq_true, Bool.or_eq_true, Bool.and_eq_false_iff, Bool.or_eq_false_iff, Bool.not_true, Bool.not_false] at h1
    obtain ⟨i, k, hfe, hi, hk, hV3⟩ := findF_some hV h1
    rw [hfe]
    obtain ⟨ga, rfl, hcap, hcm⟩ := files_addr (by omega) hw (.there .here)
    obtain ⟨go, hoa, hoc, hom⟩ := file_addr hi (by omega) hw (.there .here)
    dsimp only
    have hl32 := (VW.lens hV).2 _ (mem_nth hi)
    have hL32 := (VW.lens hV).1
    refine s_class (fun w h => HS.file_at hi h aPk) ?_
    refine s_skip ?_
    refine s_seq ?_
    refine s_region ?_
    refine o_p (p_pure rfl) rfl ?_
    refine o_p (p_pure rfl) rfl ?_
    refine o_p (p_fieldAddr rfl rfl fd_106_0 sz_26 rfl) rfl ?_
    refine o_p (p_fieldAddr rfl rfl fd_26_1 sz_24 rfl) rfl ?_
    refine o_q (q_load rfl rfl sz_24 aPk rfl) rfl ?_
    refine o_p (p_pure rfl) rfl ?_
    refine o_p (p_indexAddr rfl rfl rfl sl_24 (i) (by omega) (by omega) rfl) rfl ?_
    refine o_slot (show _ = Value.pointer (some ⟨ga, i * 4, none⟩) from by rw [Nat.zero_add]) ?_
    refine o_p (p_pure rfl) rfl ?_
    refine o_nil ?_
    refine s_seq ?_
    refine s_region ?_
    refine o_p (p_pure rfl) rfl ?_
    refine o_p (p_pure rfl) rfl ?_
    refine o_p (p_pure rfl) rfl ?_
    refine o_p (p_fieldAddr rfl rfl fd_77_1 sz_4 rfl) rfl ?_
    refine o_q (q_load_at rfl rfl sz_4 (fun w h => (h.rd_blk (Mc := []) (b := ga) aPk (by rw [flat_get fv4 _ i 2 _ (nth_get hi) (by decide)]; rfl) (by simp)))) rfl ?_
    refine o_p (p_pure rfl) rfl ?_
    refine o_or 9 33 42 _ _ rfl
      (by
        intro hg2
        have hs3 := hg2; try simp only [decide_eq_true_eq, decide_eq_false_iff_not, Bool.not_eq_true', Bool.not_eq_false', Bool.and_eq_true, Bool.or_eq_true, Bool.and_eq_false_iff, Bool.or_eq_false_iff, Bool.not_true, Bool.not_false] at hs3
        refine o_on 33 _ rfl rfl hg2 ?_
        refine o_p (p_pure rfl) rfl ?_
        refine o_on 33 _ rfl rfl hg2 ?_
        refine o_p (p_pure rfl) rfl ?_
        refine o_on 33 _ rfl rfl hg2 ?_
        refine o_p (p_fieldAddr rfl rfl fd_77_2 sz_75 rfl) rfl ?_
        refine o_on 33 _ rfl rfl hg2 ?_
        refine o_q (q_load_at rfl rfl sz_75 (fun w h => (h.rd_blk (Mc := []) (b := ga) aPk (by rw [flat_get fv4 _ i 3 _ (nth_get hi) (by decide)]; rfl) (by simp)))) rfl ?_
        refine o_on 33 _ rfl rfl hg2 ?_
        refine o_p (p_pure rfl) rfl ?_
        refine o_on 33 _ rfl rfl hg2 ?_
        refine o_p (p_indexAddr rfl rfl rfl sl_75 (k) (by omega) (by omega) hoa) rfl ?_
        refine o_on 33 _ rfl rfl hg2 ?_
        refine o_p (p_fieldAddr rfl rfl fd_48_3 sz_4 rfl) rfl ?_
        refine o_on 33 _ rfl rfl hg2 ?_
        refine o_q (q_load_at rfl rfl sz_4 (fun w h => by have h9 := (HS.ot (a := (nth L i).oa) (cap := (nth L i).oc) (l := (nth L i).op) h aPk).1.rdj 3 hk rfl; rw [hoa] at h9; exact h9)) rfl ?_
        refine o_p (p_pickf rfl rfl hg2 rfl) rfl ?_
        refine o_nil ?_
        exact s_joinN 9 42 _ rfl rfl rfl (fun w h => by first | exact h | exact h.ent aEt))
      (by
        intro hg4
        have hs5 := hg4; try simp only [decide_eq_true_eq, decide_eq_false_iff_not, Bool.not_eq_true', Bool.not_eq_false', Bool.and_eq_true, Bool.or_eq_true, Bool.and_eq_false_iff, Bool.or_eq_false_iff, Bool.not_true, Bool.not_false] at hs5
        refine o_off 33 _ rfl rfl hg4 rfl ?_
        refine o_off 33 _ rfl rfl hg4 rfl ?_
        refine o_off 33 _ rfl rfl hg4 rfl ?_
        refine o_off 33 _ rfl rfl hg4 rfl ?_
        refine o_off 33 _ rfl rfl hg4 rfl ?_
        refine o_off 33 _ rfl rfl hg4 rfl ?_
        refine o_off 33 _ rfl rfl hg4 rfl ?_
        refine o_off 33 _ rfl rfl hg4 rfl ?_
        refine o_p (p_pickt rfl rfl hg4 rfl) rfl ?_
        refine o_nil ?_
        exact s_joinN 9 42 _ rfl rfl rfl (fun w h => by first | exact h | exact h.ent aEt)) ?_
    refine o_p (p_pure rfl) rfl ?_
    refine o_p (p_fieldAddr rfl rfl fd_77_1 sz_4 rfl) rfl ?_
    refine o_h0 (h_store rfl rfl rfl sz_4 rfl aPt (by rw [flat_length fv4]; omega) rfl) (fun _ _ => ?_)
    refine o_nil ?_
    refine s_seq ?_
    refine s_weaken (L' := [(0, _), (4, _), (5, _), (6, _), (7, _), (9, _)]) aSx (fun _ h => h) ?_
    refine s_region ?_
    refine o_p (p_pure rfl) rfl ?_
    refine o_class (fun w h => HS.blk_to h (b := ga) aPk (flat_set fv4 L i 2 [.bool ((nth L i).pd || (nth (nth L i).op k).dl)] (nth L i) { nth L i with pd := ((nth L i).pd || (nth (nth L i).op k).dl) } (nth_get hi) rfl (by simp))) ?_
    refine o_class (fun w h => HS.opens_split (a := (nth L i).oa) (cap := (nth L i).oc) (l := (nth L i).op) h aPk) ?_
    refine o_p (p_pure rfl) rfl ?_
    refine o_p (p_pure rfl) rfl ?_
    refine o_p (p_fieldAddr rfl rfl fd_77_2 sz_75 rfl) rfl ?_
    refine o_q (q_load_at rfl rfl sz_75 (fun w h => (h.rd_blk (Mc := []) (b := ga) aPk (by rw [flat_get fv4 _ i 3 _ (List.getElem?_set_self hi) (by decide)]; rfl) (by simp)))) rfl ?_
    refine o_p (p_pure rfl) rfl ?_
    refine o_p (p_pure rfl) rfl ?_
    refine o_p (p_pure rfl) rfl ?_
    try (refine o_slot (i64w (by omega) (by omega)) ?_)
    refine o_h (h_callF (Cs := [.own (.slice (nth L i).oa (nth L i).op.length (nth L i).oc) 48 5 (nth L i).op.length ((nth L i).op.flatMap LOpn.vals)]) rfl fn_117 rfl aPs (fun w1 h1 hf => by have h9 := c117 w1 (nth L i).oa k (k + 1) (nth L i).op.length (nth L i).oc ((nth L i).op.flatMap LOpn.vals) hf (flat_one ov1 _) (by omega) (by omega) (by omega); rw [others_flat ov5, show (nth L i).op.length - (k + 1 - k) = (others (nth L i).op k).length by rw [others_len hk]; omega] at h9; exact h9)) rfl (fun _ _ => ?_)
    refine o_p (p_pure rfl) rfl ?_
    refine o_p (p_fieldAddr rfl rfl fd_77_2 sz_75 rfl) rfl ?_
    refine o_h0 (h_store rfl rfl rfl sz_75 rfl aPt (by rw [flat_length fv4, List.length_set]; omega) rfl) (fun _ _ => ?_)
    refine o_nil ?_
    refine s_seq ?_
    refine s_seq ?_
    refine s_region ?_
    refine o_p (p_pure rfl) rfl ?_
    refine o_class (fun w h => HS.blk_to h (b := ga) aPk (flat_set fv4 (L.set i { nth L i with pd := ((nth L i).pd || (nth (nth L i).op k).dl) }) i 3 [.slice (nth L i).oa (others (nth L i).op k).length (nth L i).oc] _ (closL (nth L i) k) (List.getElem?_set_self hi) rfl (by simp))) ?_
    refine o_p (p_pure rfl) rfl ?_
    refine o_p (p_fieldAddr rfl rfl fd_77_2 sz_75 rfl) rfl ?_
    refine o_q (q_load_at rfl rfl sz_75 (fun w h => (h.rd_blk (Mc := []) (b := ga) aPk (by rw [flat_get fv4 _ i 3 _ (List.getElem?_set_self (by rw [List.length_set]; exact hi)) (by decide)]; rfl) (by simp)))) rfl ?_
    refine o_p (p_len_slice rfl rfl Try.underlying75) rfl ?_
    refine o_p (p_pure rfl) rfl ?_
    refine o_nil ?_
    refine s_cond rfl (fun h6 => ?_) (fun h6 => ?_)
    · try simp only [decide_eq_true_eq, decide_eq_false_iff_not, Bool.not_eq_true', Bool.not_eq_false', Bool.and_eq_true, Bool.or_eq_true, Bool.and_eq_false_iff, Bool.or_eq_false_iff, Bool.not_true, Bool.not_false] at h6
      have hcl : 0 < (closL (nth L i) k).op.length := by have hq := h6; omega
      refine s_seq ?_
      refine s_region ?_
      refine o_p (p_pure rfl) rfl ?_
      refine o_p (p_pure rfl) rfl ?_
      refine o_nil ?_
      exact s_retv (rs := [.tmp 4, .tmp 5]) rfl (.tmp rfl (.tmp rfl (.nil))) (fun w' h' => ⟨((some ⟨ga, 0, none⟩, cap), L.set i (closL (nth L i) k)), by rw [closeT, hfe]; simp only [if_true]; rw [nth_pls hi, ← closL_pl hk]; skip; rw [if_pos (by simpa [LFil.pl] using hcl)]; rfl, by rw [closeT, hfe]; simp only [if_true]; rw [nth_pls hi, ← closL_pl hk]; skip; rw [if_pos (by simpa [LFil.pl] using hcl), pls_set, updF, nth_pls hi, closL_pl hk], by have h2 := HS.opens_less (k := k) (l := (nth L i).op) hk (h'.ent (Bs := [.own (.slice (nth L i).oa (others (nth L i).op k).length (nth L i).oc) 48 5 (others (nth L i).op k).length ((others (nth L i).op k).flatMap LOpn.vals), .star ((nth L i).op.map subO), .blk ga 77 (cap * 4) _, .star ((others L i).map subF), .blk bt 106 2 [.int .i64 next, .slice (some ⟨ga, 0, none⟩) L.length cap]]) aEt) rfl rfl; have h3 := HS.file_put (f := (closL (nth L i) k)) (cap := cap) hi (h2.perm (List.Perm.swap ..)) (by rw [List.set_set]) hcap hcm; rw [List.length_set]; exact h3.ent aEt⟩)
    · try simp only [decide_eq_true_eq, decide_eq_false_iff_not, Bool.not_eq_true', Bool.not_eq_false', Bool.and_eq_true, Bool.or_eq_true, Bool.and_eq_false_iff, Bool.or_eq_false_iff, Bool.not_true, Bool.not_false] at h6
      have hcl : ¬ 0 < (closL (nth L i) k).op.length := by have hq := h6; omega
      refine s_skip ?_
      refine s_seq ?_
      refine s_region ?_
      refine o_p (p_pure rfl) rfl ?_
      refine o_p (p_pure rfl) rfl ?_
      refine o_p (p_fieldAddr rfl rfl fd_77_1 sz_4 rfl) rfl ?_
      refine o_q (q_load_at rfl rfl sz_4 (fun w h => (h.rd_blk (Mc := []) (b := ga) aPk (by rw [flat_get fv4 _ i 2 _ (List.getElem?_set_self (by rw [List.length_set]; exact hi)) (by decide)]; rfl) (by simp)))) rfl ?_
      refine o_p (p_pure rfl) rfl ?_
      refine o_nil ?_
      refine s_seq ?_
      refine s_region ?_
      refine o_p (p_pure rfl) rfl ?_
      refine o_class (fun w h => HS.own_shut (n := L.length) (h.pick (show Pick _ (.blk ga 77 (cap * 4) (((L.set i { nth L i with pd := ((nth L i).pd || (nth (nth L i).op k).dl) }).set i (closL (nth L i) k)).flatMap LFil.vals)) _ from aPk)) (by rw [flat_length fv4, List.length_set, List.length_set]) hcap hcm) ?_
      refine o_p (p_pure rfl) rfl ?_
      refine o_p (p_pure rfl) rfl ?_
      refine o_p (p_fieldAddr rfl rfl fd_106_0 sz_26 rfl) rfl ?_
      refine o_p (p_fieldAddr rfl rfl fd_26_1 sz_24 rfl) rfl ?_
      refine o_q (q_load rfl rfl sz_24 aPk rfl) rfl ?_
      refine o_p (p_pure rfl) rfl ?_
      refine o_p (p_pure rfl) rfl ?_
      refine o_p (p_pure rfl) rfl ?_
      try (refine o_slot (i64w (by omega) (by omega)) ?_)
      refine o_h (h_callF (Cs := [.own (.slice (some ⟨ga, 0, none⟩) L.length cap) 77 4 L.length (((L.set i { nth L i with pd := ((nth L i).pd || (nth (nth L i).op k).dl) }).set i (closL (nth L i) k)).flatMap LFil.vals)]) rfl fn_118 rfl aPs (fun w1 h1 hf => by have h9 := c118 w1 (some ⟨ga, 0, none⟩) i (i + 1) L.length cap (((L.set i { nth L i with pd := ((nth L i).pd || (nth (nth L i).op k).dl) }).set i (closL (nth L i) k)).flatMap LFil.vals) hf (flat_one fv1 _) (by omega) (by omega) (by omega); rw [others_flat fv4, others_set, others_set, show L.length - (i + 1 - i) = (others L i).length by rw [others_len hi]; omega] at h9; exact h9)) rfl (fun _ _ => ?_)
      refine o_p (p_pure rfl) rfl ?_
      refine o_p (p_fieldAddr rfl rfl fd_106_0 sz_26 rfl) rfl ?_
      refine o_p (p_fieldAddr rfl rfl fd_26_1 sz_24 rfl) rfl ?_
      refine o_h0 (h_store rfl rfl rfl sz_24 rfl aPt (by simp only [setMany_length, List.length_set, List.length_cons, List.length_nil, List.length_map]; omega) rfl) (fun _ _ => ?_)
      refine o_nil ?_
      refine s_seq ?_
      refine s_weaken (L' := [(4, _), (5, _), (10, _)]) aSx (fun _ h => h) ?_
      refine s_region ?_
      refine o_p (p_pure rfl) rfl ?_
      refine o_p (p_pure rfl) rfl ?_
      refine o_p (p_pure rfl) rfl ?_
      refine o_nil ?_
      exact s_retv (rs := [.tmp 4, .tmp 5]) rfl (.tmp rfl (.tmp rfl (.nil))) (fun w' h' => ⟨((some ⟨ga, 0, none⟩, cap), others L i), by rw [closeT, hfe]; simp only [if_true]; rw [nth_pls hi, ← closL_pl hk]; skip; rw [if_neg (by simpa [LFil.pl] using hcl)]; rfl, by rw [closeT, hfe]; simp only [if_true]; rw [nth_pls hi, ← closL_pl hk]; skip; rw [if_neg (by simpa [LFil.pl] using hcl)]; exact pls_others, by have h2 := HS.files_shut (l := others L i) (h'.ent (Bs := [.own (.slice (some ⟨ga, 0, none⟩) (others L i).length cap) 77 4 (others L i).length ((others L i).flatMap LFil.vals), .star ((others L i).map subF), .blk bt 106 2 _]) aEt) rfl rfl; exact h2.ent aEt⟩)

end Go.Proofs

namespace Go.Proofs
open Go Go.RowKit Gx
set_option linter.unusedVariables false
set_option linter.unusedSimpArgs false
attribute [local irreducible] Go.Calls Gx.S Gx.O Gx.D Gx.OpP Gx.OpQ Gx.OpH

theorem fn_114 : isFn Try.prog 114 = true := by kernel_rfl
theorem pl_77 : tplaces Try.prog 77 = some [(0, 2), (2, 1), (3, 1)] := by kernel_rfl
theorem fn_116 : isFn Try.prog 116 = true := by kernel_rfl


section
variable {w0 w : World} {M : List Nat} {As As' : List HA} {a : Option Addr} {cap : Nat}
theorem HS.opens_none (h : HS w0 M As w) : HS w0 M (.opens none 0 [] :: As) w := HS.row_shut (n := 0) (xs := []) (h.star_nil.own_nil 48 5) rfl rfl
theorem HS.locks_none (h : HS w0 M As w) : HS w0 M (.locks none 0 [] :: As) w := h.own_nil 62 3
def newF (rc sq : Int) : LFil := ⟨rc, sq, false, none, 0, []⟩
def newO (x : LOpn) (next : Int) : LOpn := { x with hd := next, la := none, lc := 0, lk := [] }
theorem HS.files_ins {l : List LFil} {i n : Nat} {rc sq : Int} {xs : List Value} (h : HS w0 M (.own (.slice a n cap) 77 4 n xs :: .star (l.map subF) :: As) w) (hn : n = (insAt l i (newF rc sq)).length) (hx : xs = (insAt l i (newF rc sq)).flatMap LFil.vals) : HS w0 M (.files a cap (insAt l i (newF rc sq)) :: As) w := by
  have h1 : HS w0 M (subF (newF rc sq) :: .own (.slice a n cap) 77 4 n xs :: .star (l.map subF) :: As) w := HS.opens_none h
  have h2 : HS w0 M (.star ((insAt l i (newF rc sq)).map subF) :: .own (.slice a n cap) 77 4 n xs :: As) w := HS.sub_ins i (h1.perm (List.Perm.cons _ (List.Perm.swap ..)))
  exact HS.files_shut (h2.perm (List.Perm.swap ..)) hn hx
theorem HS.opens_app {l : List LOpn} {x : LOpn} {next : Int} {n : Nat} {xs : List Value} (h : HS w0 M (.own (.slice a n cap) 48 5 n xs :: .star (l.map subO) :: As) w) (hn : n = (l ++ [newO x next]).length) (hx : xs = (l ++ [newO x next]).flatMap LOpn.vals) : HS w0 M (.opens a cap (l ++ [newO x next]) :: As) w := by
  have h1 : HS w0 M (subO (newO x next) :: .own (.slice a n cap) 48 5 n xs :: .star (l.map subO) :: As) w := HS.locks_none h
  exact HS.opens_more (h1.perm ((List.Perm.swap ..).trans (List.Perm.cons _ (List.Perm.swap ..)))) hn hx
end
theorem ins_len {α : Type} {l : List α} {i : Nat} {x : α} (h : i ≤ l.length) : (insAt l i x).length = l.length + 1 := by
  simp only [insAt, List.length_append, List.length_take, List.length_cons, List.length_drop]
  omega
theorem ins_nth {α : Type} [Inhabited α] {l : List α} {i : Nat} {x : α} (h : i ≤ l.length) : nth (insAt l i x) i = x := nth_eq (by
  unfold insAt
  rw [List.getElem?_append_right (by rw [List.length_take]; omega), List.length_take, Nat.min_eq_left h, Nat.sub_self]
  rfl)
theorem ins_set {α : Type} {l : List α} {i : Nat} {x y : α} (h : i ≤ l.length) : (insAt l i x).set i y = insAt l i y := by
  unfold insAt
  rw [List.set_append_right _ _ (by rw [List.length_take]; omega), List.length_take, Nat.min_eq_left h, Nat.sub_self]
  rfl
theorem ins_flat {α : Type} {vals : α → List Value} {sz : Nat} (hv : ∀ x, (vals x).length = sz) (l : List α) (i : Nat) (x : α) : (l.flatMap vals).take (i * sz) ++ vals x ++ (l.flatMap vals).drop (i * sz) = (insAt l i x).flatMap vals := by
  rw [flat_take hv, flat_drop hv, insAt, flat_append, List.flatMap_cons, List.append_assoc]
theorem pls_ins {l : List LFil} {i : Nat} {x : LFil} : pls (insAt l i x) = insAt (pls l) i x.pl := by simp [pls, insAt, List.map_take, List.map_drop]
theorem ins_le {α : Type} {l : List α} {i : Nat} {x : α} : ∀ y ∈ insAt l i x, y = x ∨ y ∈ l := by
  intro y hy
  unfold insAt at hy
  rcases List.mem_append.1 hy with h | h
  · exact .inr (List.mem_of_mem_take h)
  · rcases List.mem_cons.1 h with h | h
    · exact .inl h
    · exact .inr (List.mem_of_mem_drop h)
theorem bsC_le (cs : List Int) : ∀ (n lo hi : Nat), lo ≤ hi → hi ≤ cs.length → bsC cs n lo hi ≤ cs.length
  | 0, lo, hi, h, h2 => by rw [bsC]; omega
  | n + 1, lo, hi, h, h2 => by
    rw [bsC]
    split
    · split
      · exact bsC_le cs n _ _ (by omega) h2
      · exact bsC_le cs n _ _ (by omega) (by omega)
    · omega
theorem bsL_le {L : List LFil} {rc sq : Int} : bsL (cmps (pls L) rc sq) ≤ L.length := by
  have h := bsC_le (cmps (pls L) rc sq) (cmps (pls L) rc sq).length 0 (cmps (pls L) rc sq).length (by omega) (by omega)
  have e : (cmps (pls L) rc sq).length = L.length := by simp [cmps, pls]
  unfold bsL
  omega
theorem bsF_lt {L : List LFil} {rc sq : Int} (h : bsF' (cmps (pls L) rc sq) = true) : bsL (cmps (pls L) rc sq) < L.length := by
  unfold bsF' at h
  simp only [Bool.and_eq_true, decide_eq_true_eq] at h
  have e : (cmps (pls L) rc sq).length = L.length := by simp [cmps, pls]
  omega
def oldE (f : Fil) (x : Opn) : Int := if f.pd = true then 30 else if f.op.any (cfl x) = true then 28 else 0
def putO (f : Fil) (x : Opn) (next : Int) : Fil := { f with op := f.op ++ [{ x with hd := next, lk := [] }] }
def opnE (next : Int) (L : List Fil) (rc sq : Int) (x : Opn) : Int := if refE rc sq = 0 then if openE x.ac x.sh = 0 then if cntT L < 32 ∧ next < 2147483647 then 0 else 16 else openE x.ac x.sh else refE rc sq
/-- The files, the next number, the handle, the error. -/
def openT (next : Int) (L : List Fil) (rc sq : Int) (x : Opn) : List Fil × Int × Int × Int :=
  if opnE next L rc sq x = 0 then
    if bsF' (cmps L rc sq) = true then
      if oldE (nth L (bsL (cmps L rc sq))) x = 0 then (updF L (bsL (cmps L rc sq)) fun f => putO f x next, next + 1, next, 0) else (L, next, 0, oldE (nth L (bsL (cmps L rc sq))) x)
    else (insAt L (bsL (cmps L rc sq)) (putO ⟨rc, sq, false, []⟩ x next), next + 1, next, 0)
  else (L, next, 0, opnE next L rc sq x)
theorem opnE_first {next : Int} {L : List Fil} {rc sq : Int} {x : Opn} : firstV [.int .i64 (refE rc sq), .int .i64 (openE x.ac x.sh), .int .i64 (bif decide ((cntT L : Int) < 32) && decide (next < 2147483647) then 0 else 16)] = opnE next L rc sq x := by
  simp only [firstV, opnE, cond_eq_ite]
  grind
theorem oldE_first {f : LFil} {x : LOpn} : firstV [.int .i64 (bif !f.pd then 0 else 30), .int .i64 (bif !(f.op.any fun y => cfl x.pl y.pl) then 0 else 28)] = oldE f.pl x.pl := by
  simp only [firstV, oldE, LFil.pl, cond_eq_ite, List.any_map, Function.comp_def]
  grind
theorem opnE_pos {next : Int} {L : List Fil} {rc sq : Int} {x : Opn} (h : opnE next L rc sq x = 0) : refE rc sq = 0 ∧ openE x.ac x.sh = 0 ∧ cntT L < 32 ∧ next < 2147483647 := by
  unfold opnE at h
  grind
theorem openT_old {next : Int} {L : List LFil} {rc sq : Int} {x : LOpn} {f : LFil} (h : opnE next (pls L) rc sq x.pl = 0) (hb : bsF' (cmps (pls L) rc sq) = true) (ho : oldE (nth L (bsL (cmps (pls L) rc sq))).pl x.pl = 0) (hf : f.pl = putO (nth L (bsL (cmps (pls L) rc sq))).pl x.pl next) : openT next (pls L) rc sq x.pl = (pls (L.set (bsL (cmps (pls L) rc sq)) f), next + 1, next, 0) := by
  have hi := bsF_lt hb
  unfold openT
  rw [if_pos h, if_pos hb, nth_pls hi, if_pos ho, updF, nth_pls hi, pls_set, hf]
theorem openT_new {next : Int} {L : List LFil} {rc sq : Int} {x : LOpn} {f : LFil} (h : opnE next (pls L) rc sq x.pl = 0) (hb : ¬ bsF' (cmps (pls L) rc sq) = true) (hf : f.pl = putO (newF rc sq).pl x.pl next) : openT next (pls L) rc sq x.pl = (pls ((insAt L (bsL (cmps (pls L) rc sq)) (newF rc sq)).set (bsL (cmps (pls L) rc sq)) f), next + 1, next, 0) := by
  unfold openT
  rw [if_pos h, if_neg hb, ins_set bsL_le, pls_ins, hf]
  rfl

set_option maxRecDepth 20000 in
theorem c115 (w : World) (b : Nat) (x y : LOpn) (hr : ∀ j v, x.vals[j]? = some v → Rd w [] b (0 + j) v) (ha : openE x.ac x.sh = 0) (hb : openE y.ac y.sh = 0) : Calls Try.prog 115 #[.agg #[.int .i64 y.hd, .int .i64 y.ac, .int .i64 y.sh, .bool y.dl, .slice y.la y.lk.length y.lc], .pointer (some ⟨b, 0, none⟩)] w fun en w' => en = .returned (.bool (cfl x.pl y.pl)) ∧ Below w.heap.size w w' := by
  refine enter (args := [_, _]) Try.func115 Try.ntmps115 rfl rfl (HS.refl w []) ?_
  refine s_seq ?_
  refine s_region ?_
  refine o_h (h_box rfl rfl) rfl (fun b1 _ => ?_)
  refine o_p (p_pure rfl) rfl ?_
  refine o_nil ?_
  refine s_seq ?_
  refine s_region ?_
  refine o_q (q_load_oldn _ rfl rfl sz_48 rfl hr) rfl ?_
  refine o_q (q_loadn rfl rfl sz_48 aPk rfl) rfl ?_
  refine o_q (q_call rfl fn_63 rfl (fun w1 h1 => c63 w1 x y ha hb)) rfl ?_
  refine o_p (p_pure rfl) rfl ?_
  refine o_nil ?_
  exact s_retv (rs := [.tmp 3]) rfl (.tmp rfl (.nil)) (fun w' h' => ⟨rfl, h'.below⟩)

set_option maxRecDepth 20000 in
set_option maxHeartbeats 1000000 in
theorem c81 (w : World) (bt : Nat) (next : Int) (a : Option Addr) (cap : Nat) (L : List LFil) (rc sq : Int) (x : LOpn) (hw : HS w (fps [.blk bt 106 2 [.int .i64 (next), .slice a (L).length cap], .files a cap (L)]) [.blk bt 106 2 [.int .i64 (next), .slice a (L).length cap], .files a cap (L)] w) (hV : VW (pls L)) (hn0 : 0 ≤ next ∧ next ≤ 2147483647) : Calls Try.prog 81 #[.pointer (some ⟨bt, 0, none⟩), .agg #[.int .i64 rc, .int .i64 sq], .agg #[.int .i64 x.hd, .int .i64 x.ac, .int .i64 x.sh, .bool x.dl, .slice x.la x.lk.length x.lc]] w fun en w' => ∃ g : (Option Addr × Nat) × List LFil, en = .returned (.tuple #[.int .i64 (openT next (pls L) rc sq x.pl).2.2.1, .int .i64 (openT next (pls L) rc sq x.pl).2.2.2]) ∧ pls g.2 = (openT next (pls L) rc sq x.pl).1 ∧ HS w (fps [.blk bt 106 2 [.int .i64 (next), .slice a (L).length cap], .files a cap (L)]) [.blk bt 106 2 [.int .i64 ((openT next (pls L) rc sq x.pl).2.1), .slice g.1.1 (g.2).length g.1.2], .files g.1.1 g.1.2 (g.2)] w' := by
  have hL32 := (VW.lens hV).1
  have hll := (VW.lens hV).2
  have hcl := cntT_le (fun f hf => by have := hll f hf; omega) L.length (Nat.le_refl _)
  have hpl : (pls L).length = L.length := by simp
  refine enter (args := [_, _, _]) Try.func81 Try.ntmps81 rfl rfl hw ?_
  refine s_seq ?_
  refine s_region ?_
  refine o_h (h_box rfl rfl) rfl (fun b1 _ => ?_)
  refine o_h (h_box rfl rfl) rfl (fun b2 _ => ?_)
  refine o_p (p_pure rfl) rfl ?_
  refine o_p (p_pure rfl) rfl ?_
  refine o_nil ?_
  refine s_seq ?_
  refine s_region ?_
  refine o_p (p_pure rfl) rfl ?_
  refine o_nil ?_
  refine s_seq ?_
  refine s_seq ?_
  refine s_region ?_
  refine o_p (p_pure rfl) rfl ?_
  refine o_p (p_pure rfl) rfl ?_
  refine o_p (p_fieldAddr rfl rfl fd_106_0 sz_26 rfl) rfl ?_
  refine o_p (p_fieldAddr rfl rfl fd_26_1 sz_24 rfl) rfl ?_
  refine o_q (q_load rfl rfl sz_24 aPk rfl) rfl ?_
  refine o_p (p_len_slice rfl rfl Try.underlying24) rfl ?_
  refine o_p (p_pure rfl) rfl ?_
  refine o_nil ?_
  refine s_block ?_
  refine s_loopI (α := Nat) [8, 10, 23, 24, 25, 26, 27, 28, 29, 30, 31, 32] (fun k => [(23, .int .i64 (k : Int)), (8, .int .i64 (cntT (pls (L.take k)) : Int))]) (fun _ => HS w (fps [.blk bt 106 2 [.int .i64 (next), .slice a (L).length cap], .files a cap (L)]) [.blk bt 106 2 [.int .i64 (next), .slice a (L).length cap], .files a cap (L), .blk b2 48 5 x.vals, .blk b1 42 2 [.int .i64 rc, .int .i64 sq]]) (fun k => k ≤ L.length) (fun k => L.length - k) 0 (by simp) (sl_c rfl (sl_c (congrArg (fun e => some (Value.int .i64 e)) (by simp [cntT, pls])) aSx)) (fun w h => h.ent aEt) (fun k hk => ?_)
  have hck := cntT_le (fun f hf => by have := hll f hf; omega) k hk
  refine s_seq ?_
  refine s_region ?_
  refine o_p (p_pure rfl) rfl ?_
  refine o_nil ?_
  refine s_seq ?_
  refine s_cond rfl (fun h3 => ?_) (fun h3 => ?_)
  · try simp only [decide_eq_true_eq, decide_eq_false_iff_not, Bool.not_eq_true', Bool.not_eq_false', Bool.and_eq_true, Bool.or_eq_true, Bool.and_eq_false_iff, Bool.or_eq_false_iff, Bool.not_true, Bool.not_false] at h3
    have hkl : k < L.length := by omega
    have hlk9 := hll _ (mem_nth hkl)
    refine s_fact (fun w h => files_addr (l := L) (a := a) (cap := cap) (by omega) h aPk) (fun hga => ?_)
    obtain ⟨ga, rfl, hcap, hcm⟩ := hga
    refine s_skip ?_
    refine s_seq ?_
    refine s_block ?_
    refine s_seq ?_
    refine s_region ?_
    refine o_p (p_indexAddr rfl rfl rfl sl_24 (k) (by omega) (by omega) rfl) rfl ?_
    refine o_q (q_load_atn _ rfl rfl sz_77 rfl (fun w h => Rw.rd (HS.ft (a := some ⟨ga, 0, none⟩) (cap := cap) (l := L) h aPk).1 hkl)) rfl ?_
    refine o_h (h_alloc rfl zr_77) rfl (fun b4 _ => ?_)
    refine o_h0 (h_store rfl rfl rfl sz_77 rfl aPt (by simp only [setMany_length, List.length_set, List.length_cons, List.length_nil, List.length_map]; omega) rfl) (fun _ _ => ?_)
    refine o_nil ?_
    refine s_region ?_
    refine o_p (p_pure rfl) rfl ?_
    refine o_p (p_fieldAddr rfl rfl fd_77_2 sz_75 rfl) rfl ?_
    refine o_q (q_load rfl rfl sz_75 aPk rfl) rfl ?_
    refine o_p (p_len_slice rfl rfl Try.underlying75) rfl ?_
    refine o_p (p_pure rfl) rfl ?_
    try (refine o_slot (i64w (by omega) (by omega)) ?_)
    refine o_p (p_pure rfl) rfl ?_
    refine o_nil ?_
    refine s_blk ?_
    refine s_region ?_
    refine o_p (p_pure rfl) rfl ?_
    try (refine o_slot (i64w (by omega) (by omega)) ?_)
    refine o_p (p_pure rfl) rfl ?_
    refine o_nil ?_
    exact s_backI (k + 1) (by omega) (by omega) (sl_c rfl (sl_c (congrArg (fun e => some (Value.int .i64 e)) (by rw [cntT_succ (by omega)]; omega)) aSx)) (fun w h => h.ent aEt)
  · try simp only [decide_eq_true_eq, decide_eq_false_iff_not, Bool.not_eq_true', Bool.not_eq_false', Bool.and_eq_true, Bool.or_eq_true, Bool.and_eq_false_iff, Bool.or_eq_false_iff, Bool.not_true, Bool.not_false] at h3
    obtain rfl : k = L.length := by omega
    rw [List.take_length]
    refine s_exit_to rfl ?_
    refine s_seq ?_
    refine s_seq ?_
    refine s_cutI (α := Unit) [11, 33, 34, 35, 36, 37, 38, 39, 40, 41, 42, 43, 44, 45, 46, 47, 48, 49] (fun _ => [(11, .int .i64 (opnE next (pls L) rc sq x.pl))]) (fun _ => HS w (fps [.blk bt 106 2 [.int .i64 (next), .slice a (L).length cap], .files a cap (L)]) [.blk bt 106 2 [.int .i64 (next), .slice a (L).length cap], .files a cap (L), .blk b2 48 5 x.vals, .blk b1 42 2 [.int .i64 rc, .int .i64 sq]]) (fun _ => True) ?_ ?_
    · skip
      refine s_draw [] mixed ?_
      refine d_q 0 [] rfl (q_loadn rfl rfl sz_42 aPk rfl) (by kernel_rfl) (by kernel_rfl) (by kernel_rfl) rfl ?_
      refine d_q 1 [] rfl (q_call rfl fn_55 rfl (fun w1 h1 => c55 w1 rc sq)) (by kernel_rfl) (by kernel_rfl) (by kernel_rfl) rfl ?_
      refine d_q 2 [] rfl (q_loadn rfl rfl sz_48 aPk rfl) (by kernel_rfl) (by kernel_rfl) (by kernel_rfl) rfl ?_
      refine d_q 3 [] rfl (q_call rfl fn_62 rfl (fun w1 h1 => c62 w1 x)) (by kernel_rfl) (by kernel_rfl) (by kernel_rfl) rfl ?_
      refine d_p 4 rfl (p_pure rfl) (by kernel_rfl) rfl rfl ?_
      refine d_p 5 rfl (p_pure rfl) (by kernel_rfl) rfl rfl ?_
      refine d_p 6 rfl (p_pure rfl) (by kernel_rfl) rfl rfl ?_
      apply d_split 39
      · exact rfl
      · intro hg5
        have hs6 := hg5; try simp only [decide_eq_true_eq, decide_eq_false_iff_not, Bool.not_eq_true', Bool.not_eq_false', Bool.and_eq_true, Bool.or_eq_true, Bool.and_eq_false_iff, Bool.or_eq_false_iff, Bool.not_true, Bool.not_false] at hs6
        refine d_pon 7 39 rfl rfl rfl hg5 (p_pure rfl) (by kernel_rfl) rfl rfl ?_
        refine d_pon 8 39 rfl rfl rfl hg5 (p_pure rfl) (by kernel_rfl) rfl rfl ?_
        refine d_pon 9 39 rfl rfl rfl hg5 (p_fieldAddr rfl rfl fd_106_0 sz_26 rfl) (by kernel_rfl) rfl rfl ?_
        refine d_pon 10 39 rfl rfl rfl hg5 (p_fieldAddr rfl rfl fd_26_0 sz_3 rfl) (by kernel_rfl) rfl rfl ?_
        refine d_qon 11 39 [] rfl rfl rfl hg5 (q_load rfl rfl sz_3 aPk rfl) (by kernel_rfl) (by kernel_rfl) (by kernel_rfl) rfl ?_
        refine d_pon 12 39 rfl rfl rfl hg5 (p_pure rfl) (by kernel_rfl) rfl rfl ?_
        refine d_p 13 rfl (p_pickt rfl rfl hg5 rfl) (by kernel_rfl) rfl rfl ?_
        refine d_q 14 [] rfl (q_call rfl fn_48 rfl (fun w1 h1 => c48 w1 _ _)) (by kernel_rfl) (by kernel_rfl) (by kernel_rfl) rfl ?_
        refine d_h 15 rfl (h_buildSlice (cs := [_, _, _]) rfl rfl sl_146 zr_28 rfl rfl rfl) (by kernel_rfl) (fun w h => h.ent aEt) rfl (fun b7 _ => ?_)
        refine d_base (fun w h => h.ent aEt) ?_
        refine d_q 16 [] rfl (q_call rfl fn_52 rfl (fun w1 h1 => f52 h1 aPk (by rfl) (by rfl) (by decide))) (by kernel_rfl) (by kernel_rfl) (by kernel_rfl) rfl ?_
        refine d_p 17 rfl (p_pure rfl) (by kernel_rfl) rfl rfl ?_
        refine d_nil (by kernel_rfl) (fun w h => h.ent aEt) ?_
        exact s_joinI () trivial (sl_c (congrArg (fun e => some (Value.int .i64 e)) (by rw [← opnE_first (x := x.pl), hg5]; rfl)) aSx) (fun w h => h.ent aEt)
      · intro hg8
        have hs9 := hg8; try simp only [decide_eq_true_eq, decide_eq_false_iff_not, Bool.not_eq_true', Bool.not_eq_false', Bool.and_eq_true, Bool.or_eq_true, Bool.and_eq_false_iff, Bool.or_eq_false_iff, Bool.not_true, Bool.not_false] at hs9
        refine d_off 7 39 rfl rfl rfl hg8 (by kernel_rfl) rfl rfl ?_
        refine d_off 8 39 rfl rfl rfl hg8 (by kernel_rfl) rfl rfl ?_
        refine d_off 9 39 rfl rfl rfl hg8 (by kernel_rfl) rfl rfl ?_
        refine d_off 10 39 rfl rfl rfl hg8 (by kernel_rfl) rfl rfl ?_
        refine d_off 11 39 rfl rfl rfl hg8 (by kernel_rfl) rfl rfl ?_
        refine d_off 12 39 rfl rfl rfl hg8 (by kernel_rfl) rfl rfl ?_
        refine d_p 13 rfl (p_pickf rfl rfl hg8 rfl) (by kernel_rfl) rfl rfl ?_
        refine d_q 14 [] rfl (q_call rfl fn_48 rfl (fun w1 h1 => c48 w1 _ _)) (by kernel_rfl) (by kernel_rfl) (by kernel_rfl) rfl ?_
        refine d_h 15 rfl (h_buildSlice (cs := [_, _, _]) rfl rfl sl_146 zr_28 rfl rfl rfl) (by kernel_rfl) (fun w h => h.ent aEt) rfl (fun b10 _ => ?_)
        refine d_base (fun w h => h.ent aEt) ?_
        refine d_q 16 [] rfl (q_call rfl fn_52 rfl (fun w1 h1 => f52 h1 aPk (by rfl) (by rfl) (by decide))) (by kernel_rfl) (by kernel_rfl) (by kernel_rfl) rfl ?_
        refine d_p 17 rfl (p_pure rfl) (by kernel_rfl) rfl rfl ?_
        refine d_nil (by kernel_rfl) (fun w h => h.ent aEt) ?_
        exact s_joinI () trivial (sl_c (congrArg (fun e => some (Value.int .i64 e)) (by rw [← opnE_first (x := x.pl), hg8]; rfl)) aSx) (fun w h => h.ent aEt)
    · intro _ _
      refine s_seq ?_
      refine s_region ?_
      refine o_p (p_pure rfl) rfl ?_
      refine o_p (p_pure rfl) rfl ?_
      refine o_nil ?_
      refine s_cond rfl (fun h11 => ?_) (fun h11 => ?_)
      · try simp only [decide_eq_true_eq, decide_eq_false_iff_not, Bool.not_eq_true', Bool.not_eq_false', Bool.and_eq_true, Bool.or_eq_true, Bool.and_eq_false_iff, Bool.or_eq_false_iff, Bool.not_true, Bool.not_false] at h11
        have hne : ¬ opnE next (pls L) rc sq x.pl = 0 := h11
        refine s_seq ?_
        refine s_region ?_
        refine o_p (p_pure rfl) rfl ?_
        refine o_p (p_pure rfl) rfl ?_
        refine o_p (p_pure rfl) rfl ?_
        refine o_nil ?_
        exact s_retv (rs := [.tmp 6, .tmp 7]) rfl (.tmp rfl (.tmp rfl (.nil))) (fun w' h' => ⟨((a, cap), L), by rw [openT, if_neg hne]; rfl, by rw [openT, if_neg hne], by rw [openT, if_neg hne]; exact h'.ent aEt⟩)
      · try simp only [decide_eq_true_eq, decide_eq_false_iff_not, Bool.not_eq_true', Bool.not_eq_false', Bool.and_eq_true, Bool.or_eq_true, Bool.and_eq_false_iff, Bool.or_eq_false_iff, Bool.not_true, Bool.not_false] at h11
        have hz : opnE next (pls L) rc sq x.pl = 0 := h11
        obtain ⟨hz1, hz2, hz3, hz4⟩ := opnE_pos hz
        refine s_skip ?_
        refine s_seq ?_
        refine s_region ?_
        refine o_p (p_pure rfl) rfl ?_
        refine o_q (q_loadn rfl rfl sz_42 aPk rfl) rfl ?_
        refine o_q (q_call rfl fn_114 rfl (fun w1 h1 => c114 w1 bt a cap L rc sq (h1.rd_blk (Mc := []) (b := bt) aPk rfl (by simp)) (h1.ft aPk) (by omega) (fun f hf => by have := hll f hf; omega))) rfl ?_
        refine o_p (p_pure rfl) rfl ?_
        refine o_p (p_pure rfl) rfl ?_
        refine o_p (p_pure rfl) rfl ?_
        refine o_p (p_pure rfl) rfl ?_
        refine o_p (p_pure rfl) rfl ?_
        refine o_nil ?_
        refine s_seq ?_
        refine s_seq ?_
        refine s_region ?_
        refine o_p (p_pure rfl) rfl ?_
        refine o_nil ?_
        refine s_weaken (L' := [(0, _), (1, _), (2, _), (4, _), (5, _), (6, _), (7, _), (8, _), (12, _), (17, _), (18, _), (19, _), (20, _), (21, _), (22, _), (23, _), (59, _)]) aSx (fun _ h => h) ?_
        refine s_cutI (α := (Option Addr × Nat) × List LFil) [6, 7, 14, 15, 16, 60, 61, 62, 63, 64, 65, 66, 67, 68, 69, 70, 71, 72, 73, 74, 75, 76, 77, 78, 79, 80, 81, 82, 83, 84, 85, 86, 87, 88, 89, 90, 91, 92, 93, 94, 95, 96, 97] (fun _ => []) (fun y : (Option Addr × Nat) × List LFil => HS w (fps [.blk bt 106 2 [.int .i64 (next), .slice a (L).length cap], .files a cap (L)]) [.blk bt 106 2 [.int .i64 (next), .slice y.1.1 y.2.length y.1.2], .files y.1.1 y.1.2 y.2, .blk b2 48 5 x.vals]) (fun y : (Option Addr × Nat) × List LFil => (bsL (cmps (pls L) rc sq)) < y.2.length ∧ (nth y.2 (bsL (cmps (pls L) rc sq))).op.length ≤ 32 ∧ y.2.length ≤ 33 ∧ opnE next (pls L) rc sq x.pl = 0 ∧ ∀ f : LFil, f.pl = putO (nth y.2 (bsL (cmps (pls L) rc sq))).pl x.pl next → (openT next (pls L) rc sq x.pl) = (pls (y.2.set (bsL (cmps (pls L) rc sq)) f), next + 1, next, 0)) ?_ ?_
        · skip
          refine s_cond rfl (fun h12 => ?_) (fun h12 => ?_)
          · try simp only [decide_eq_true_eq, decide_eq_false_iff_not, Bool.not_eq_true', Bool.not_eq_false', Bool.and_eq_true, Bool.or_eq_true, Bool.and_eq_false_iff, Bool.or_eq_false_iff, Bool.not_true, Bool.not_false] at h12
            have hbF := h12
            have hi := bsF_lt h12
            obtain ⟨ga, rfl, hcap, hcm⟩ := files_addr (by omega) hw (.there .here)
            refine s_seq ?_
            refine s_region ?_
            refine o_p (p_pure rfl) rfl ?_
            refine o_p (p_pure rfl) rfl ?_
            refine o_p (p_fieldAddr rfl rfl fd_106_0 sz_26 rfl) rfl ?_
            refine o_p (p_fieldAddr rfl rfl fd_26_1 sz_24 rfl) rfl ?_
            refine o_q (q_load rfl rfl sz_24 aPk rfl) rfl ?_
            refine o_p (p_pure rfl) rfl ?_
            refine o_p (p_indexAddr rfl rfl rfl sl_24 ((bsL (cmps (pls L) rc sq))) (by omega) (by omega) rfl) rfl ?_
            refine o_q (q_load_atn _ rfl rfl sz_77 rfl (fun w h => Rw.rd (HS.ft (a := some ⟨ga, 0, none⟩) (cap := cap) (l := L) h aPk).1 hi)) rfl ?_
            refine o_h (h_alloc rfl zr_77) rfl (fun b13 _ => ?_)
            refine o_h0 (h_store rfl rfl rfl sz_77 rfl aPt (by simp only [setMany_length, List.length_set, List.length_cons, List.length_nil, List.length_map]; omega) rfl) (fun _ _ => ?_)
            refine o_nil ?_
            refine s_seq ?_
            refine s_region ?_
            refine o_p (p_fieldAddr rfl rfl fd_77_2 sz_75 rfl) rfl ?_
            refine o_q (q_load rfl rfl sz_75 aPk rfl) rfl ?_
            refine o_p (p_pure rfl) rfl ?_
            refine o_q (q_call rfl fn_95 rfl (fun w1 h1 => by have hot := (HS.ft (a := some ⟨ga, 0, none⟩) (cap := cap) (l := L) h1 aPk).at hi; have h9 := c95 w1 _ (nth L (bsL (cmps (pls L) rc sq))).oc (nth L (bsL (cmps (pls L) rc sq))).op 115 #[.pointer (some ⟨b2, 0, none⟩)] ((nth L (bsL (cmps (pls L) rc sq))).op.map fun y => cfl x.pl y.pl) hot.1 (by have := hll _ (mem_nth hi); omega) (by kernel_rfl) (by simp) (fun j w2 hj h2 => by rw [map_getD_nthB hj]; exact c115 w2 b2 x _ (fun p v hv => by rw [Nat.zero_add]; exact (h1.rd_blk (Mc := []) aPk hv (by simp)).next h2) hz2 (VW.at hV hi hj).1); rw [any_map_id] at h9; exact h9)) rfl ?_
            refine o_p (p_pure rfl) rfl ?_
            refine o_p (p_pure rfl) rfl ?_
            refine o_nil ?_
            refine s_seq ?_
            refine s_weaken (L' := [(0, _), (1, _), (2, _), (4, _), (5, _), (6, _), (7, _), (8, _), (12, _), (14, _), (15, _), (17, _), (18, _), (19, _), (20, _), (21, _), (22, _), (23, _), (59, _)]) aSx (fun _ h => h) ?_
            refine s_region ?_
            refine o_p (p_fieldAddr rfl rfl fd_77_1 sz_4 rfl) rfl ?_
            refine o_q (q_load rfl rfl sz_4 aPk rfl) rfl ?_
            refine o_p (p_pure rfl) rfl ?_
            refine o_q (q_call rfl fn_48 rfl (fun w1 h1 => c48 w1 _ _)) rfl ?_
            refine o_p (p_pure rfl) rfl ?_
            refine o_q (q_call rfl fn_48 rfl (fun w1 h1 => c48 w1 _ _)) rfl ?_
            refine o_h (h_buildSlice (cs := [_, _]) rfl rfl sl_146 zr_28 rfl rfl rfl) rfl (fun b14 _ => ?_)
            refine o_q (q_call rfl fn_52 rfl (fun w1 h1 => f52 h1 aPk (by rfl) (by rfl) (by decide))) rfl ?_
            refine o_p (p_pure rfl) rfl ?_
            refine o_nil ?_
            refine s_seq ?_
            refine s_region ?_
            refine o_p (p_pure rfl) rfl ?_
            refine o_p (p_pure rfl) rfl ?_
            refine o_nil ?_
            refine s_cond rfl (fun h15 => ?_) (fun h15 => ?_)
            · try simp only [decide_eq_true_eq, decide_eq_false_iff_not, Bool.not_eq_true', Bool.not_eq_false', Bool.and_eq_true, Bool.or_eq_true, Bool.and_eq_false_iff, Bool.or_eq_false_iff, Bool.not_true, Bool.not_false] at h15
              have hold : ¬ oldE (nth L (bsL (cmps (pls L) rc sq))).pl x.pl = 0 := by rw [← oldE_first]; exact h15
              refine s_seq ?_
              refine s_weaken (L' := [(0, _), (1, _), (2, _), (4, _), (5, _), (6, _), (7, _), (8, _), (12, _), (16, _), (17, _), (18, _), (19, _), (20, _), (21, _), (22, _), (23, _), (59, _)]) aSx (fun _ h => h) ?_
              refine s_region ?_
              refine o_p (p_pure rfl) rfl ?_
              refine o_p (p_pure rfl) rfl ?_
              refine o_p (p_pure rfl) rfl ?_
              refine o_nil ?_
              exact s_retv (rs := [.tmp 6, .tmp 7]) rfl (.tmp rfl (.tmp rfl (.nil))) (fun w' h' => ⟨((some ⟨ga, 0, none⟩, cap), L), by rw [openT, if_pos hz, if_pos hbF, nth_pls hi, if_neg hold, oldE_first]; rfl, by rw [openT, if_pos hz, if_pos hbF, nth_pls hi, if_neg hold], by rw [openT, if_pos hz, if_pos hbF, nth_pls hi, if_neg hold]; exact h'.ent aEt⟩)
            · try simp only [decide_eq_true_eq, decide_eq_false_iff_not, Bool.not_eq_true', Bool.not_eq_false', Bool.and_eq_true, Bool.or_eq_true, Bool.and_eq_false_iff, Bool.or_eq_false_iff, Bool.not_true, Bool.not_false] at h15
              have hold : oldE (nth L (bsL (cmps (pls L) rc sq))).pl x.pl = 0 := by rw [← oldE_first]; exact h15
              refine s_skip ?_
              exact s_joinI ((some ⟨ga, 0, none⟩, cap), L) ⟨hi, hll _ (mem_nth hi), by show L.length ≤ 33; omega, hz, fun f hf => openT_old hz hbF hold hf⟩ aSx (fun w h => h.ent aEt)
          · try simp only [decide_eq_true_eq, decide_eq_false_iff_not, Bool.not_eq_true', Bool.not_eq_false', Bool.and_eq_true, Bool.or_eq_true, Bool.and_eq_false_iff, Bool.or_eq_false_iff, Bool.not_true, Bool.not_false] at h12
            have hnF := h12
            have hib : (bsL (cmps (pls L) rc sq)) ≤ L.length := bsL_le
            refine s_class (fun w h => HS.files_open h aPk) ?_
            refine s_draw [10, 14] mixed ?_
            refine d_p 0 rfl (p_pure rfl) (by kernel_rfl) rfl rfl ?_
            refine d_p 1 rfl (p_pure rfl) (by kernel_rfl) rfl rfl ?_
            refine d_p 2 rfl (p_pure rfl) (by kernel_rfl) rfl rfl ?_
            refine d_p 3 rfl (p_fieldAddr rfl rfl fd_106_0 sz_26 rfl) (by kernel_rfl) rfl rfl ?_
            refine d_p 4 rfl (p_fieldAddr rfl rfl fd_26_1 sz_24 rfl) (by kernel_rfl) rfl rfl ?_
            refine d_q 5 [[], []] rfl (q_load rfl rfl sz_24 aPk rfl) (by kernel_rfl) (by kernel_rfl) (by kernel_rfl) rfl ?_
            refine d_p 6 rfl (p_pure rfl) (by kernel_rfl) rfl rfl ?_
            refine d_q 7 [[9, 8], []] rfl (q_loadn rfl rfl sz_42 aPk rfl) (by kernel_rfl) (by kernel_rfl) (by kernel_rfl) rfl ?_
            refine d_p 8 rfl (p_build (cs := [_, _, _, _]) rfl rfl pl_77 zr_77 rfl) (by kernel_rfl) rfl rfl ?_
            refine d_h 9 rfl (h_buildSlice (cs := [_, _, _, _]) rfl rfl sl_24 zr_77 rfl rfl rfl) (by kernel_rfl) (fun w h => h.ent aEt) rfl (fun b16 _ => ?_)
            refine d_base (fun w h => h.ent aEt) ?_
            refine d_h 10 rfl (h_callF (Cs := [.own (.slice a L.length cap) 77 4 L.length (L.flatMap LFil.vals), .blk b16 77 4 (newF rc sq).vals]) rfl fn_116 rfl aPs (fun w1 h1 hf => c116 w1 a (bsL (cmps (pls L) rc sq)) L.length 1 cap _ _ b16 1 4 hf (by omega) rfl (fv1 (newF rc sq)) (flat_one fv1 _) (by omega) hib)) (by kernel_rfl) (fun w h => h.ent aEt) rfl (fun gn _ => ?_)
            refine d_turn [14] (by kernel_rfl) ?_
            refine d_p 11 rfl (p_pure rfl) (by kernel_rfl) rfl rfl ?_
            refine d_p 12 rfl (p_fieldAddr rfl rfl fd_106_0 sz_26 rfl) (by kernel_rfl) rfl rfl ?_
            refine d_p 13 rfl (p_fieldAddr rfl rfl fd_26_1 sz_24 rfl) (by kernel_rfl) rfl rfl ?_
            refine d_h0 14 rfl (h_store rfl rfl rfl sz_24 rfl aPt (by simp only [setMany_length, List.length_set, List.length_cons, List.length_nil, List.length_map]; omega) rfl) (by kernel_rfl) (fun w h => h.ent aEt) (fun _ _ => ?_)
            refine d_turn [] (by kernel_rfl) ?_
            refine d_nil (by kernel_rfl) (fun w h => h.ent aEt) ?_
            exact s_joinI ((gn.1, gn.2), insAt L (bsL (cmps (pls L) rc sq)) (newF rc sq)) ⟨by rw [ins_len hib]; omega, by rw [ins_nth hib]; simp [newF], by rw [ins_len hib]; omega, hz, fun f hf => openT_new hz (by rw [hnF]; decide) (by rw [ins_nth hib] at hf; exact hf)⟩ aSx (fun w h => by have h2 := HS.files_ins (i := (bsL (cmps (pls L) rc sq))) (rc := rc) (sq := sq) (h.ent (Bs := [.own (.slice gn.1 (L.length + 1) gn.2) 77 4 (L.length + 1) _, .star (L.map subF), .blk bt 106 2 _, .blk b2 48 5 x.vals]) aEt) (by rw [ins_len hib]) (ins_flat fv4 L (bsL (cmps (pls L) rc sq)) (newF rc sq)); rw [ins_len hib]; exact h2.ent aEt)
        · intro ⟨⟨ya, yc⟩, N⟩ hy
          dsimp only at hy ⊢
          obtain ⟨hy1, hy2, hy3, hz, hy4⟩ := hy
          obtain ⟨_, hz2, _, hz4⟩ := opnE_pos hz
          refine s_fact (fun w h => files_addr (l := N) (a := ya) (cap := yc) (by omega) h aPk) (fun hga => ?_)
          obtain ⟨ga, rfl, hcap, hcm⟩ := hga
          refine s_class (fun w h => HS.file_at hy1 h aPk) ?_
          refine s_class (fun w h => HS.opens_split (a := (nth N (bsL (cmps (pls L) rc sq))).oa) (cap := (nth N (bsL (cmps (pls L) rc sq))).oc) (l := (nth N (bsL (cmps (pls L) rc sq))).op) h aPk) ?_
          refine s_seq ?_
          refine s_region ?_
          refine o_p (p_pure rfl) rfl ?_
          refine o_p (p_pure rfl) rfl ?_
          refine o_p (p_fieldAddr rfl rfl fd_106_0 sz_26 rfl) rfl ?_
          refine o_p (p_fieldAddr rfl rfl fd_26_0 sz_3 rfl) rfl ?_
          refine o_q (q_load rfl rfl sz_3 aPk rfl) rfl ?_
          refine o_p (p_fieldAddr rfl rfl fd_48_0 sz_3 rfl) rfl ?_
          refine o_h0 (h_store rfl rfl rfl sz_3 rfl aPt (by first | (rw [ov5]; omega) | (rw [setMany_length, ov5]; omega) | decide) rfl) (fun _ _ => ?_)
          refine o_p (p_fieldAddr rfl rfl fd_48_4 sz_46 rfl) rfl ?_
          refine o_h0 (h_store rfl rfl rfl sz_46 rfl aPt (by first | (rw [ov5]; omega) | (rw [setMany_length, ov5]; omega) | decide) rfl) (fun _ _ => ?_)
          refine o_nil ?_
          refine s_seq ?_
          refine s_region ?_
          refine o_p (p_pure rfl) rfl ?_
          refine o_class (fun w h => HS.blk_to h (b := b2) aPk (show _ = (newO x next).vals from rfl)) ?_
          refine o_p (p_pure rfl) rfl ?_
          refine o_p (p_fieldAddr rfl rfl fd_106_0 sz_26 rfl) rfl ?_
          refine o_p (p_fieldAddr rfl rfl fd_26_0 sz_3 rfl) rfl ?_
          refine o_q (q_load rfl rfl sz_3 aPk rfl) rfl ?_
          refine o_p (p_pure rfl) rfl ?_
          try (refine o_slot (i64w (by omega) (by omega)) ?_)
          refine o_p (p_pure rfl) rfl ?_
          refine o_p (p_fieldAddr rfl rfl fd_106_0 sz_26 rfl) rfl ?_
          refine o_p (p_fieldAddr rfl rfl fd_26_0 sz_3 rfl) rfl ?_
          refine o_h0 (h_store rfl rfl rfl sz_3 rfl aPt (by simp only [setMany_length, List.length_set, List.length_cons, List.length_nil, List.length_map]; omega) rfl) (fun _ _ => ?_)
          refine o_nil ?_
          refine s_seq ?_
          refine s_weaken (L' := [(0, _), (1, _), (2, _), (4, _), (5, _), (8, _), (12, _), (17, _), (18, _), (19, _), (20, _), (21, _), (22, _), (23, _)]) aSx (fun _ h => h) ?_
          refine s_drawB [.blk bt 106 2 [.int .i64 (next + 1), .slice (some ⟨ga, 0, none⟩) N.length yc], .blk ga 77 (yc * 4) (N.flatMap LFil.vals), .blk b2 48 5 (newO x next).vals, .star ((others N (bsL (cmps (pls L) rc sq))).map subF)] [20] mixed ?_
          refine d_p 0 rfl (p_pure rfl) (by kernel_rfl) rfl rfl ?_
          refine d_p 1 rfl (p_pure rfl) (by kernel_rfl) rfl rfl ?_
          refine d_p 2 rfl (p_fieldAddr rfl rfl fd_106_0 sz_26 rfl) (by kernel_rfl) rfl rfl ?_
          refine d_p 3 rfl (p_fieldAddr rfl rfl fd_26_1 sz_24 rfl) (by kernel_rfl) rfl rfl ?_
          refine d_q 4 [[]] rfl (q_load rfl rfl sz_24 aPk rfl) (by kernel_rfl) (by kernel_rfl) (by kernel_rfl) rfl ?_
          refine d_p 5 rfl (p_pure rfl) (by kernel_rfl) rfl rfl ?_
          refine d_p 6 rfl (p_pure rfl) (by kernel_rfl) rfl rfl ?_
          refine d_p 7 rfl (p_pure rfl) (by kernel_rfl) rfl rfl ?_
          refine d_p 8 rfl (p_fieldAddr rfl rfl fd_106_0 sz_26 rfl) (by kernel_rfl) rfl rfl ?_
          refine d_p 9 rfl (p_fieldAddr rfl rfl fd_26_1 sz_24 rfl) (by kernel_rfl) rfl rfl ?_
          refine d_q 10 [[]] rfl (q_load rfl rfl sz_24 aPk rfl) (by kernel_rfl) (by kernel_rfl) (by kernel_rfl) rfl ?_
          refine d_p 11 rfl (p_pure rfl) (by kernel_rfl) rfl rfl ?_
          refine d_p 12 rfl (p_indexAddr rfl rfl rfl sl_24 ((bsL (cmps (pls L) rc sq))) (by omega) (by omega) rfl) (by kernel_rfl) rfl rfl ?_
          refine d_slot (show _ = Value.pointer (some ⟨ga, (bsL (cmps (pls L) rc sq)) * 4, none⟩) from by rw [Nat.zero_add]) ?_
          refine d_p 13 rfl (p_fieldAddr rfl rfl fd_77_2 sz_75 rfl) (by kernel_rfl) rfl rfl ?_
          refine d_q 14 [[]] rfl (q_load_at rfl rfl sz_75 (fun w h => (h.rd_blk (Mc := []) (b := ga) aPk (by rw [flat_get fv4 _ (bsL (cmps (pls L) rc sq)) 3 _ (nth_get hy1) (by decide)]; rfl) (by simp)))) (by kernel_rfl) (by kernel_rfl) (by kernel_rfl) rfl ?_
          refine d_q 15 [[]] rfl (q_loadn rfl rfl sz_48 aPk rfl) (by kernel_rfl) (by kernel_rfl) (by kernel_rfl) rfl ?_
          refine d_h 16 rfl (h_buildSlice (cs := [_, _, _, _, _]) rfl rfl sl_75 zr_48 rfl rfl rfl) (by kernel_rfl) (fun w h => h.ent aEt) rfl (fun b17 _ => ?_)
          refine d_h 17 rfl (h_appendS (n := (nth N (bsL (cmps (pls L) rc sq))).op.length) (newO x next).vals rfl rfl rfl sl_75 Try.underlying75 zr_48 rfl aPk (src_blk aPk) rfl (ov1 (newO x next)) (by omega) (by simp only [maxLen]; omega)) (by kernel_rfl) (fun w h => h.ent aEt) rfl (fun b18 _ => ?_)
          refine d_p 18 rfl (p_indexAddr rfl rfl rfl sl_24 ((bsL (cmps (pls L) rc sq))) (by omega) (by omega) rfl) (by kernel_rfl) rfl rfl ?_
          refine d_slot (show _ = Value.pointer (some ⟨ga, (bsL (cmps (pls L) rc sq)) * 4, none⟩) from by rw [Nat.zero_add]) ?_
          refine d_p 19 rfl (p_fieldAddr rfl rfl fd_77_2 sz_75 rfl) (by kernel_rfl) rfl rfl ?_
          refine d_h0 20 rfl (h_store rfl rfl rfl sz_75 rfl aPt (by rw [flat_length fv4]; omega) rfl) (by kernel_rfl) (fun w h => h.ent aEt) (fun _ _ => ?_)
          refine d_turn [] (by kernel_rfl) ?_
          refine d_nil (by kernel_rfl) (fun w h => h.ent aEt) ?_
          refine s_seq ?_
          refine s_weaken (L' := [(0, _), (1, _), (2, _), (4, _), (5, _), (8, _), (17, _), (18, _), (19, _), (20, _), (21, _), (22, _), (23, _)]) aSx (fun _ h => h) ?_
          refine s_region ?_
          refine o_p (p_fieldAddr rfl rfl fd_48_0 sz_3 rfl) rfl ?_
          refine o_q (q_load rfl rfl sz_3 aPk rfl) rfl ?_
          refine o_p (p_pure rfl) rfl ?_
          refine o_p (p_pure rfl) rfl ?_
          refine o_nil ?_
          exact s_retv (rs := [.tmp 6, .tmp 7]) rfl (.tmp rfl (.tmp rfl (.nil))) (fun w' h' => by have hf := hy4 { nth N (bsL (cmps (pls L) rc sq)) with oa := b18.1, oc := b18.2, op := (nth N (bsL (cmps (pls L) rc sq))).op ++ [newO x next] } (by simp [LFil.pl, putO, newO, LOpn.pl]); exact ⟨((some ⟨ga, 0, none⟩, yc), N.set (bsL (cmps (pls L) rc sq)) { nth N (bsL (cmps (pls L) rc sq)) with oa := b18.1, oc := b18.2, op := (nth N (bsL (cmps (pls L) rc sq))).op ++ [newO x next] }), by rw [hf]; rfl, by rw [hf], by rw [hf]; have h2 := HS.opens_app (next := next) (x := x) (l := (nth N (bsL (cmps (pls L) rc sq))).op) (h'.ent (Bs := [.own (.slice b18.1 ((nth N (bsL (cmps (pls L) rc sq))).op.length + 1) b18.2) 48 5 ((nth N (bsL (cmps (pls L) rc sq))).op.length + 1) _, .star ((nth N (bsL (cmps (pls L) rc sq))).op.map subO), .blk ga 77 (yc * 4) _, .star ((others N (bsL (cmps (pls L) rc sq))).map subF), .blk bt 106 2 [.int .i64 (next + 1), .slice (some ⟨ga, 0, none⟩) N.length yc]]) aEt) (by simp) (by rw [flat_append]; rfl); have h3 := HS.file_put (f := { nth N (bsL (cmps (pls L) rc sq)) with oa := b18.1, oc := b18.2, op := (nth N (bsL (cmps (pls L) rc sq))).op ++ [newO x next] }) hy1 (h2.perm (List.Perm.swap ..)) (flat_set fv4 N (bsL (cmps (pls L) rc sq)) 3 [.slice b18.1 ((nth N (bsL (cmps (pls L) rc sq))).op.length + 1) b18.2] (nth N (bsL (cmps (pls L) rc sq))) { nth N (bsL (cmps (pls L) rc sq)) with oa := b18.1, oc := b18.2, op := (nth N (bsL (cmps (pls L) rc sq))).op ++ [newO x next] } (nth_get hy1) (by simp [LFil.vals, setMany]) (by simp)) hcap hcm; rw [List.length_set]; exact h3.ent aEt⟩)

end Go.Proofs

namespace Go.Proofs
open Go Go.RowKit Gx
set_option linter.unusedVariables false
set_option linter.unusedSimpArgs false
attribute [local irreducible] Go.Calls Gx.S Gx.O Gx.D Gx.OpP Gx.OpQ Gx.OpH

theorem zr_40 : tzero Try.prog 40 = some [.int .i64 0, .int .i64 0] := by kernel_rfl
theorem fd_44_4 : tfd Try.prog 44 4 = some (4, 3) := by kernel_rfl
theorem fd_44_5 : tfd Try.prog 44 5 = some (5, 3) := by kernel_rfl
theorem fd_44_7 : tfd Try.prog 44 7 = some (8, 4) := by kernel_rfl
theorem pl_62 : tplaces Try.prog 62 = some [(0, 1), (1, 1), (2, 1)] := by kernel_rfl
theorem fd_44_0 : tfd Try.prog 44 0 = some (0, 3) := by kernel_rfl
theorem fd_44_6 : tfd Try.prog 44 6 = some (6, 42) := by kernel_rfl
theorem fd_44_2 : tfd Try.prog 44 2 = some (2, 3) := by kernel_rfl
theorem fd_44_3 : tfd Try.prog 44 3 = some (3, 3) := by kernel_rfl
theorem pl_48 : tplaces Try.prog 48 = some [(0, 1), (1, 1), (2, 1), (3, 1), (4, 1)] := by kernel_rfl
theorem fn_81 : isFn Try.prog 81 = true := by kernel_rfl
theorem fd_40_1 : tfd Try.prog 40 1 = some (1, 3) := by kernel_rfl
theorem fd_40_0 : tfd Try.prog 40 0 = some (0, 28) := by kernel_rfl
theorem sz_40 : tsz Try.prog 40 = some (2, true) := by kernel_rfl
theorem fd_44_1 : tfd Try.prog 44 1 = some (1, 3) := by kernel_rfl
theorem fn_82 : isFn Try.prog 82 = true := by kernel_rfl
theorem fn_84 : isFn Try.prog 84 = true := by kernel_rfl
theorem fn_67 : isFn Try.prog 67 = true := by kernel_rfl
theorem fn_74 : isFn Try.prog 74 = true := by kernel_rfl
theorem fn_76 : isFn Try.prog 76 = true := by kernel_rfl
theorem fn_78 : isFn Try.prog 78 = true := by kernel_rfl


structure HAct where
  kd : Int
  hd : Int
  ac : Int
  sh : Int
  fr : Int
  cnt : Int
  rc : Int
  sq : Int
  fl : Bool
instance : Inhabited HAct := ⟨⟨0, 0, 0, 0, 0, 0, 0, 0, false⟩⟩
def HAct.vals (a : HAct) : List Value := [.int .i64 a.kd, .int .i64 a.hd, .int .i64 a.ac, .int .i64 a.sh, .int .i64 a.fr, .int .i64 a.cnt, .int .i64 a.rc, .int .i64 a.sq, .bool a.fl]
theorem hv9 (a : HAct) : a.vals.length = 9 := rfl
theorem hv1 (a : HAct) : ∀ u ∈ a.vals, u.oneCell' = true := by
  intro u hu
  simp only [HAct.vals, List.mem_cons, List.mem_nil_iff, or_false] at hu
  rcases hu with rfl | rfl | rfl | rfl | rfl | rfl | rfl | rfl | rfl <;> rfl
def HAct.lock (a : HAct) : Lock := ⟨a.fr, a.cnt, a.fl⟩
/-- The files, the next number, the value, the error after an act. -/
def doT (next : Int) (L : List Fil) (a : HAct) : List Fil × Int × Int × Int :=
  if a.kd = 0 then openT next L a.rc a.sq ⟨0, a.ac, a.sh, a.fl, []⟩
  else if a.kd = 1 then ((closeT L a.hd).1, next, (if (closeT L a.hd).2.1 = true then 1 else 0), (closeT L a.hd).2.2)
  else if a.kd = 2 then ((markT L a.hd a.fl).1, next, 0, (markT L a.hd a.fl).2)
  else if a.kd = 3 then ((lockT L a.hd a.lock).1, next, 0, (lockT L a.hd a.lock).2)
  else if a.kd = 4 then ((unlockT L a.hd a.fr a.cnt).1, next, 0, (unlockT L a.hd a.fr a.cnt).2)
  else if a.kd = 5 then (L, next, 0, mayT L a.hd a.lock 1 rdK)
  else if a.kd = 6 then (L, next, 0, mayT L a.hd a.lock 2 wrK)
  else (L, next, 0, 0)

set_option maxRecDepth 20000 in
set_option maxHeartbeats 1000000 in
theorem c50 (w : World) (bt : Nat) (next : Int) (a : Option Addr) (cap : Nat) (L : List LFil) (a9 : HAct) (hw : HS w (fps [.blk bt 106 2 [.int .i64 (next), .slice a (L).length cap], .files a cap (L)]) [.blk bt 106 2 [.int .i64 (next), .slice a (L).length cap], .files a cap (L)] w) (hV : VW (pls L)) (hn0 : 0 ≤ next ∧ next ≤ 2147483647) : Calls Try.prog 50 #[.pointer (some ⟨bt, 0, none⟩), .agg #[.int .i64 a9.kd, .int .i64 a9.hd, .int .i64 a9.ac, .int .i64 a9.sh, .int .i64 a9.fr, .int .i64 a9.cnt, .int .i64 a9.rc, .int .i64 a9.sq, .bool a9.fl]] w fun en w' => ∃ g : (Option Addr × Nat) × List LFil, en = .returned (.agg #[.int .i64 (doT next (pls L) a9).2.2.2, .int .i64 (doT next (pls L) a9).2.2.1]) ∧ pls g.2 = (doT next (pls L) a9).1 ∧ HS w (fps [.blk bt 106 2 [.int .i64 (next), .slice a (L).length cap], .files a cap (L)]) [.blk bt 106 2 [.int .i64 ((doT next (pls L) a9).2.1), .slice g.1.1 (g.2).length g.1.2], .files g.1.1 g.1.2 (g.2)] w' := by
  refine enter (args := [_, _]) Try.func50 Try.ntmps50 rfl rfl hw ?_
  refine s_seq ?_
  refine s_region ?_
  refine o_h (h_box rfl rfl) rfl (fun b1 _ => ?_)
  refine o_h (h_alloc rfl zr_40) rfl (fun b2 _ => ?_)
  refine o_nil ?_
  refine s_seq ?_
  refine s_region ?_
  refine o_p (p_fieldAddr rfl rfl fd_44_4 sz_3 rfl) rfl ?_
  refine o_q (q_load rfl rfl sz_3 aPk rfl) rfl ?_
  refine o_p (p_fieldAddr rfl rfl fd_44_5 sz_3 rfl) rfl ?_
  refine o_q (q_load rfl rfl sz_3 aPk rfl) rfl ?_
  refine o_p (p_fieldAddr rfl rfl fd_44_7 sz_4 rfl) rfl ?_
  refine o_q (q_load rfl rfl sz_4 aPk rfl) rfl ?_
  refine o_p (p_build (cs := [_, _, _]) rfl rfl pl_62 zr_62 rfl) rfl ?_
  refine o_h (h_alloc rfl zr_62) rfl (fun b3 _ => ?_)
  refine o_h0 (h_store rfl rfl rfl sz_62 rfl aPt (by simp only [setMany_length, List.length_set, List.length_cons, List.length_nil, List.length_map]; omega) rfl) (fun _ _ => ?_)
  refine o_nil ?_
  refine s_seq ?_
  refine s_seq ?_
  refine s_region ?_
  refine o_p (p_fieldAddr rfl rfl fd_44_0 sz_3 rfl) rfl ?_
  refine o_q (q_load rfl rfl sz_3 aPk rfl) rfl ?_
  refine o_nil ?_
  refine s_block ?_
  refine s_seq ?_
  refine s_region ?_
  refine o_p (p_pure rfl) rfl ?_
  refine o_p (p_pure rfl) rfl ?_
  refine o_nil ?_
  refine s_cond rfl (fun h4 => ?_) (fun h4 => ?_)
  · try simp only [decide_eq_true_eq, decide_eq_false_iff_not, Bool.not_eq_true', Bool.not_eq_false', Bool.and_eq_true, Bool.or_eq_true, Bool.and_eq_false_iff, Bool.or_eq_false_iff, Bool.not_true, Bool.not_false] at h4
    have k0 : a9.kd = 0 := h4
    refine s_region ?_
    refine o_p (p_pure rfl) rfl ?_
    refine o_p (p_fieldAddr rfl rfl fd_44_6 sz_42 rfl) rfl ?_
    refine o_q (q_loadn rfl rfl sz_42 aPk rfl) rfl ?_
    refine o_p (p_fieldAddr rfl rfl fd_44_2 sz_3 rfl) rfl ?_
    refine o_q (q_load rfl rfl sz_3 aPk rfl) rfl ?_
    refine o_p (p_fieldAddr rfl rfl fd_44_3 sz_3 rfl) rfl ?_
    refine o_q (q_load rfl rfl sz_3 aPk rfl) rfl ?_
    refine o_p (p_fieldAddr rfl rfl fd_44_7 sz_4 rfl) rfl ?_
    refine o_q (q_load rfl rfl sz_4 aPk rfl) rfl ?_
    refine o_p (p_build (cs := [_, _, _, _, _]) rfl rfl pl_48 zr_48 rfl) rfl ?_
    refine o_h (h_callF (Cs := [.blk bt 106 2 [.int .i64 (next), .slice a (L).length cap], .files a cap (L)]) rfl fn_81 rfl aPs (fun w1 h1 hf => c81 w1 bt next a cap L a9.rc a9.sq (⟨0, a9.ac, a9.sh, a9.fl, none, 0, []⟩ : LOpn) hf hV hn0)) rfl (fun gz hgz => ?_)
    refine o_p (p_pure rfl) rfl ?_
    refine o_p (p_pure rfl) rfl ?_
    refine o_p (p_pure rfl) rfl ?_
    refine o_p (p_fieldAddr rfl rfl fd_40_1 sz_3 rfl) rfl ?_
    refine o_h0 (h_store rfl rfl rfl sz_3 rfl aPt (by simp only [setMany_length, List.length_set, List.length_cons, List.length_nil, List.length_map]; omega) rfl) (fun _ _ => ?_)
    refine o_p (p_fieldAddr rfl rfl fd_40_0 sz_28 rfl) rfl ?_
    refine o_h0 (h_store rfl rfl rfl sz_28 rfl aPt (by simp only [setMany_length, List.length_set, List.length_cons, List.length_nil, List.length_map]; omega) rfl) (fun _ _ => ?_)
    refine o_nil ?_
    refine s_blk ?_
    refine s_seq ?_
    refine s_weaken (L' := [(4, _)]) aSx (fun _ h => h) ?_
    refine s_region ?_
    refine o_q (q_loadn rfl rfl sz_40 aPk rfl) rfl ?_
    refine o_h0 (h_store rfl rfl rfl sz_40 rfl aPt (by simp only [setMany_length, List.length_set, List.length_cons, List.length_nil, List.length_map]; omega) rfl) (fun _ _ => ?_)
    refine o_nil ?_
    exact s_retv (rs := [.cell 4 40]) rfl (.cell rfl sz_40 aPk rfl (.nil)) (fun w' h' => by first | exact ⟨gz, by rw [doT, if_pos k0]; rfl, by rw [doT, if_pos k0]; exact hgz, by rw [doT, if_pos k0]; exact h'.ent aEt⟩ | exact ⟨gz, by rw [doT, if_neg n0, if_pos k1]; dsimp only; rw [if_pos hdl]; rfl, by rw [doT, if_neg n0, if_pos k1]; exact hgz, by rw [doT, if_neg n0, if_pos k1]; exact h'.ent aEt⟩ | exact ⟨gz, by rw [doT, if_neg n0, if_pos k1]; dsimp only; rw [if_neg (by rw [hdl]; decide)]; rfl, by rw [doT, if_neg n0, if_pos k1]; exact hgz, by rw [doT, if_neg n0, if_pos k1]; exact h'.ent aEt⟩ | exact ⟨gz, by rw [doT, if_neg n0, if_neg n1, if_pos k2]; rfl, by rw [doT, if_neg n0, if_neg n1, if_pos k2]; exact hgz, by rw [doT, if_neg n0, if_neg n1, if_pos k2]; exact h'.ent aEt⟩ | exact ⟨gz, by rw [doT, if_neg n0, if_neg n1, if_neg n2, if_pos k3]; rfl, by rw [doT, if_neg n0, if_neg n1, if_neg n2, if_pos k3]; exact hgz, by rw [doT, if_neg n0, if_neg n1, if_neg n2, if_pos k3]; exact h'.ent aEt⟩ | exact ⟨gz, by rw [doT, if_neg n0, if_neg n1, if_neg n2, if_neg n3, if_pos k4]; rfl, by rw [doT, if_neg n0, if_neg n1, if_neg n2, if_neg n3, if_pos k4]; exact hgz, by rw [doT, if_neg n0, if_neg n1, if_neg n2, if_neg n3, if_pos k4]; exact h'.ent aEt⟩ | exact ⟨((a, cap), L), by rw [doT, if_neg n0, if_neg n1, if_neg n2, if_neg n3, if_neg n4, if_pos k5]; rfl, by rw [doT, if_neg n0, if_neg n1, if_neg n2, if_neg n3, if_neg n4, if_pos k5], by rw [doT, if_neg n0, if_neg n1, if_neg n2, if_neg n3, if_neg n4, if_pos k5]; exact h'.ent aEt⟩ | exact ⟨((a, cap), L), by rw [doT, if_neg n0, if_neg n1, if_neg n2, if_neg n3, if_neg n4, if_neg n5, if_pos k6]; rfl, by rw [doT, if_neg n0, if_neg n1, if_neg n2, if_neg n3, if_neg n4, if_neg n5, if_pos k6], by rw [doT, if_neg n0, if_neg n1, if_neg n2, if_neg n3, if_neg n4, if_neg n5, if_pos k6]; exact h'.ent aEt⟩ | exact ⟨((a, cap), L), by rw [doT, if_neg n0, if_neg n1, if_neg n2, if_neg n3, if_neg n4, if_neg n5, if_neg n6]; rfl, by rw [doT, if_neg n0, if_neg n1, if_neg n2, if_neg n3, if_neg n4, if_neg n5, if_neg n6], by rw [doT, if_neg n0, if_neg n1, if_neg n2, if_neg n3, if_neg n4, if_neg n5, if_neg n6]; exact h'.ent aEt⟩)
  · try simp only [decide_eq_true_eq, decide_eq_false_iff_not, Bool.not_eq_true', Bool.not_eq_false', Bool.and_eq_true, Bool.or_eq_true, Bool.and_eq_false_iff, Bool.or_eq_false_iff, Bool.not_true, Bool.not_false] at h4
    have n0 : ¬ a9.kd = 0 := h4
    refine s_seq ?_
    refine s_region ?_
    refine o_p (p_pure rfl) rfl ?_
    refine o_p (p_pure rfl) rfl ?_
    refine o_nil ?_
    refine s_cond rfl (fun h5 => ?_) (fun h5 => ?_)
    · try simp only [decide_eq_true_eq, decide_eq_false_iff_not, Bool.not_eq_true', Bool.not_eq_false', Bool.and_eq_true, Bool.or_eq_true, Bool.and_eq_false_iff, Bool.or_eq_false_iff, Bool.not_true, Bool.not_false] at h5
      have k1 : a9.kd = 1 := h5
      refine s_seq ?_
      refine s_region ?_
      refine o_p (p_pure rfl) rfl ?_
      refine o_nil ?_
      refine s_seq ?_
      refine s_region ?_
      refine o_p (p_pure rfl) rfl ?_
      refine o_p (p_fieldAddr rfl rfl fd_44_1 sz_3 rfl) rfl ?_
      refine o_q (q_load rfl rfl sz_3 aPk rfl) rfl ?_
      refine o_h (h_callF (Cs := [.blk bt 106 2 [.int .i64 (next), .slice a (L).length cap], .files a cap (L)]) rfl fn_82 rfl aPs (fun w1 h1 hf => c82 w1 bt next a cap L a9.hd hf hV)) rfl (fun gz hgz => ?_)
      refine o_p (p_pure rfl) rfl ?_
      refine o_p (p_pure rfl) rfl ?_
      refine o_p (p_pure rfl) rfl ?_
      refine o_p (p_pure rfl) rfl ?_
      refine o_p (p_fieldAddr rfl rfl fd_40_0 sz_28 rfl) rfl ?_
      refine o_h0 (h_store rfl rfl rfl sz_28 rfl aPt (by simp only [setMany_length, List.length_set, List.length_cons, List.length_nil, List.length_map]; omega) rfl) (fun _ _ => ?_)
      refine o_nil ?_
      refine s_seq ?_
      refine s_region ?_
      refine o_p (p_pure rfl) rfl ?_
      refine o_nil ?_
      refine s_cond rfl (fun h6 => ?_) (fun h6 => ?_)
      · try simp only [decide_eq_true_eq, decide_eq_false_iff_not, Bool.not_eq_true', Bool.not_eq_false', Bool.and_eq_true, Bool.or_eq_true, Bool.and_eq_false_iff, Bool.or_eq_false_iff, Bool.not_true, Bool.not_false] at h6
        have hdl : (closeT (pls L) a9.hd).2.1 = true := h6
        refine s_region ?_
        refine o_p (p_fieldAddr rfl rfl fd_40_1 sz_3 rfl) rfl ?_
        refine o_h0 (h_store rfl rfl rfl sz_3 rfl aPt (by simp only [setMany_length, List.length_set, List.length_cons, List.length_nil, List.length_map]; omega) rfl) (fun _ _ => ?_)
        refine o_nil ?_
        refine s_blk ?_
        refine s_seq ?_
        refine s_region ?_
        refine o_q (q_loadn rfl rfl sz_40 aPk rfl) rfl ?_
        refine o_h0 (h_store rfl rfl rfl sz_40 rfl aPt (by simp only [setMany_length, List.length_set, List.length_cons, List.length_nil, List.length_map]; omega) rfl) (fun _ _ => ?_)
        refine o_nil ?_
        exact s_retv (rs := [.cell 4 40]) rfl (.cell rfl sz_40 aPk rfl (.nil)) (fun w' h' => by first | exact ⟨gz, by rw [doT, if_pos k0]; rfl, by rw [doT, if_pos k0]; exact hgz, by rw [doT, if_pos k0]; exact h'.ent aEt⟩ | exact ⟨gz, by rw [doT, if_neg n0, if_pos k1]; dsimp only; rw [if_pos hdl]; rfl, by rw [doT, if_neg n0, if_pos k1]; exact hgz, by rw [doT, if_neg n0, if_pos k1]; exact h'.ent aEt⟩ | exact ⟨gz, by rw [doT, if_neg n0, if_pos k1]; dsimp only; rw [if_neg (by rw [hdl]; decide)]; rfl, by rw [doT, if_neg n0, if_pos k1]; exact hgz, by rw [doT, if_neg n0, if_pos k1]; exact h'.ent aEt⟩ | exact ⟨gz, by rw [doT, if_neg n0, if_neg n1, if_pos k2]; rfl, by rw [doT, if_neg n0, if_neg n1, if_pos k2]; exact hgz, by rw [doT, if_neg n0, if_neg n1, if_pos k2]; exact h'.ent aEt⟩ | exact ⟨gz, by rw [doT, if_neg n0, if_neg n1, if_neg n2, if_pos k3]; rfl, by rw [doT, if_neg n0, if_neg n1, if_neg n2, if_pos k3]; exact hgz, by rw [doT, if_neg n0, if_neg n1, if_neg n2, if_pos k3]; exact h'.ent aEt⟩ | exact ⟨gz, by rw [doT, if_neg n0, if_neg n1, if_neg n2, if_neg n3, if_pos k4]; rfl, by rw [doT, if_neg n0, if_neg n1, if_neg n2, if_neg n3, if_pos k4]; exact hgz, by rw [doT, if_neg n0, if_neg n1, if_neg n2, if_neg n3, if_pos k4]; exact h'.ent aEt⟩ | exact ⟨((a, cap), L), by rw [doT, if_neg n0, if_neg n1, if_neg n2, if_neg n3, if_neg n4, if_pos k5]; rfl, by rw [doT, if_neg n0, if_neg n1, if_neg n2, if_neg n3, if_neg n4, if_pos k5], by rw [doT, if_neg n0, if_neg n1, if_neg n2, if_neg n3, if_neg n4, if_pos k5]; exact h'.ent aEt⟩ | exact ⟨((a, cap), L), by rw [doT, if_neg n0, if_neg n1, if_neg n2, if_neg n3, if_neg n4, if_neg n5, if_pos k6]; rfl, by rw [doT, if_neg n0, if_neg n1, if_neg n2, if_neg n3, if_neg n4, if_neg n5, if_pos k6], by rw [doT, if_neg n0, if_neg n1, if_neg n2, if_neg n3, if_neg n4, if_neg n5, if_pos k6]; exact h'.ent aEt⟩ | exact ⟨((a, cap), L), by rw [doT, if_neg n0, if_neg n1, if_neg n2, if_neg n3, if_neg n4, if_neg n5, if_neg n6]; rfl, by rw [doT, if_neg n0, if_neg n1, if_neg n2, if_neg n3, if_neg n4, if_neg n5, if_neg n6], by rw [doT, if_neg n0, if_neg n1, if_neg n2, if_neg n3, if_neg n4, if_neg n5, if_neg n6]; exact h'.ent aEt⟩)
      · try simp only [decide_eq_true_eq, decide_eq_false_iff_not, Bool.not_eq_true', Bool.not_eq_false', Bool.and_eq_true, Bool.or_eq_true, Bool.and_eq_false_iff, Bool.or_eq_false_iff, Bool.not_true, Bool.not_false] at h6
        have hdl : (closeT (pls L) a9.hd).2.1 = false := by have hq := h6; simpa using hq
        refine s_skip ?_
        refine s_blk ?_
        refine s_seq ?_
        refine s_region ?_
        refine o_q (q_loadn rfl rfl sz_40 aPk rfl) rfl ?_
        refine o_h0 (h_store rfl rfl rfl sz_40 rfl aPt (by simp only [setMany_length, List.length_set, List.length_cons, List.length_nil, List.length_map]; omega) rfl) (fun _ _ => ?_)
        refine o_nil ?_
        exact s_retv (rs := [.cell 4 40]) rfl (.cell rfl sz_40 aPk rfl (.nil)) (fun w' h' => by first | exact ⟨gz, by rw [doT, if_pos k0]; rfl, by rw [doT, if_pos k0]; exact hgz, by rw [doT, if_pos k0]; exact h'.ent aEt⟩ | exact ⟨gz, by rw [doT, if_neg n0, if_pos k1]; dsimp only; rw [if_pos hdl]; rfl, by rw [doT, if_neg n0, if_pos k1]; exact hgz, by rw [doT, if_neg n0, if_pos k1]; exact h'.ent aEt⟩ | exact ⟨gz, by rw [doT, if_neg n0, if_pos k1]; dsimp only; rw [if_neg (by rw [hdl]; decide)]; rfl, by rw [doT, if_neg n0, if_pos k1]; exact hgz, by rw [doT, if_neg n0, if_pos k1]; exact h'.ent aEt⟩ | exact ⟨gz, by rw [doT, if_neg n0, if_neg n1, if_pos k2]; rfl, by rw [doT, if_neg n0, if_neg n1, if_pos k2]; exact hgz, by rw [doT, if_neg n0, if_neg n1, if_pos k2]; exact h'.ent aEt⟩ | exact ⟨gz, by rw [doT, if_neg n0, if_neg n1, if_neg n2, if_pos k3]; rfl, by rw [doT, if_neg n0, if_neg n1, if_neg n2, if_pos k3]; exact hgz, by rw [doT, if_neg n0, if_neg n1, if_neg n2, if_pos k3]; exact h'.ent aEt⟩ | exact ⟨gz, by rw [doT, if_neg n0, if_neg n1, if_neg n2, if_neg n3, if_pos k4]; rfl, by rw [doT, if_neg n0, if_neg n1, if_neg n2, if_neg n3, if_pos k4]; exact hgz, by rw [doT, if_neg n0, if_neg n1, if_neg n2, if_neg n3, if_pos k4]; exact h'.ent aEt⟩ | exact ⟨((a, cap), L), by rw [doT, if_neg n0, if_neg n1, if_neg n2, if_neg n3, if_neg n4, if_pos k5]; rfl, by rw [doT, if_neg n0, if_neg n1, if_neg n2, if_neg n3, if_neg n4, if_pos k5], by rw [doT, if_neg n0, if_neg n1, if_neg n2, if_neg n3, if_neg n4, if_pos k5]; exact h'.ent aEt⟩ | exact ⟨((a, cap), L), by rw [doT, if_neg n0, if_neg n1, if_neg n2, if_neg n3, if_neg n4, if_neg n5, if_pos k6]; rfl, by rw [doT, if_neg n0, if_neg n1, if_neg n2, if_neg n3, if_neg n4, if_neg n5, if_pos k6], by rw [doT, if_neg n0, if_neg n1, if_neg n2, if_neg n3, if_neg n4, if_neg n5, if_pos k6]; exact h'.ent aEt⟩ | exact ⟨((a, cap), L), by rw [doT, if_neg n0, if_neg n1, if_neg n2, if_neg n3, if_neg n4, if_neg n5, if_neg n6]; rfl, by rw [doT, if_neg n0, if_neg n1, if_neg n2, if_neg n3, if_neg n4, if_neg n5, if_neg n6], by rw [doT, if_neg n0, if_neg n1, if_neg n2, if_neg n3, if_neg n4, if_neg n5, if_neg n6]; exact h'.ent aEt⟩)
    · try simp only [decide_eq_true_eq, decide_eq_false_iff_not, Bool.not_eq_true', Bool.not_eq_false', Bool.and_eq_true, Bool.or_eq_true, Bool.and_eq_false_iff, Bool.or_eq_false_iff, Bool.not_true, Bool.not_false] at h5
      have n1 : ¬ a9.kd = 1 := h5
      refine s_seq ?_
      refine s_region ?_
      refine o_p (p_pure rfl) rfl ?_
      refine o_p (p_pure rfl) rfl ?_
      refine o_nil ?_
      refine s_cond rfl (fun h7 => ?_) (fun h7 => ?_)
      · try simp only [decide_eq_true_eq, decide_eq_false_iff_not, Bool.not_eq_true', Bool.not_eq_false', Bool.and_eq_true, Bool.or_eq_true, Bool.and_eq_false_iff, Bool.or_eq_false_iff, Bool.not_true, Bool.not_false] at h7
        have k2 : a9.kd = 2 := h7
        refine s_region ?_
        refine o_p (p_pure rfl) rfl ?_
        refine o_p (p_fieldAddr rfl rfl fd_44_1 sz_3 rfl) rfl ?_
        refine o_q (q_load rfl rfl sz_3 aPk rfl) rfl ?_
        refine o_p (p_fieldAddr rfl rfl fd_44_7 sz_4 rfl) rfl ?_
        refine o_q (q_load rfl rfl sz_4 aPk rfl) rfl ?_
        refine o_h (h_callF (Cs := [.blk bt 106 2 [.int .i64 (next), .slice a (L).length cap], .files a cap (L)]) rfl fn_84 rfl aPs (fun w1 h1 hf => c84 w1 bt next a cap L a9.hd a9.fl hf hV)) rfl (fun gz hgz => ?_)
        refine o_p (p_fieldAddr rfl rfl fd_40_0 sz_28 rfl) rfl ?_
        refine o_h0 (h_store rfl rfl rfl sz_28 rfl aPt (by simp only [setMany_length, List.length_set, List.length_cons, List.length_nil, List.length_map]; omega) rfl) (fun _ _ => ?_)
        refine o_nil ?_
        refine s_blk ?_
        refine s_seq ?_
        refine s_region ?_
        refine o_q (q_loadn rfl rfl sz_40 aPk rfl) rfl ?_
        refine o_h0 (h_store rfl rfl rfl sz_40 rfl aPt (by simp only [setMany_length, List.length_set, List.length_cons, List.length_nil, List.length_map]; omega) rfl) (fun _ _ => ?_)
        refine o_nil ?_
        exact s_retv (rs := [.cell 4 40]) rfl (.cell rfl sz_40 aPk rfl (.nil)) (fun w' h' => by first | exact ⟨gz, by rw [doT, if_pos k0]; rfl, by rw [doT, if_pos k0]; exact hgz, by rw [doT, if_pos k0]; exact h'.ent aEt⟩ | exact ⟨gz, by rw [doT, if_neg n0, if_pos k1]; dsimp only; rw [if_pos hdl]; rfl, by rw [doT, if_neg n0, if_pos k1]; exact hgz, by rw [doT, if_neg n0, if_pos k1]; exact h'.ent aEt⟩ | exact ⟨gz, by rw [doT, if_neg n0, if_pos k1]; dsimp only; rw [if_neg (by rw [hdl]; decide)]; rfl, by rw [doT, if_neg n0, if_pos k1]; exact hgz, by rw [doT, if_neg n0, if_pos k1]; exact h'.ent aEt⟩ | exact ⟨gz, by rw [doT, if_neg n0, if_neg n1, if_pos k2]; rfl, by rw [doT, if_neg n0, if_neg n1, if_pos k2]; exact hgz, by rw [doT, if_neg n0, if_neg n1, if_pos k2]; exact h'.ent aEt⟩ | exact ⟨gz, by rw [doT, if_neg n0, if_neg n1, if_neg n2, if_pos k3]; rfl, by rw [doT, if_neg n0, if_neg n1, if_neg n2, if_pos k3]; exact hgz, by rw [doT, if_neg n0, if_neg n1, if_neg n2, if_pos k3]; exact h'.ent aEt⟩ | exact ⟨gz, by rw [doT, if_neg n0, if_neg n1, if_neg n2, if_neg n3, if_pos k4]; rfl, by rw [doT, if_neg n0, if_neg n1, if_neg n2, if_neg n3, if_pos k4]; exact hgz, by rw [doT, if_neg n0, if_neg n1, if_neg n2, if_neg n3, if_pos k4]; exact h'.ent aEt⟩ | exact ⟨((a, cap), L), by rw [doT, if_neg n0, if_neg n1, if_neg n2, if_neg n3, if_neg n4, if_pos k5]; rfl, by rw [doT, if_neg n0, if_neg n1, if_neg n2, if_neg n3, if_neg n4, if_pos k5], by rw [doT, if_neg n0, if_neg n1, if_neg n2, if_neg n3, if_neg n4, if_pos k5]; exact h'.ent aEt⟩ | exact ⟨((a, cap), L), by rw [doT, if_neg n0, if_neg n1, if_neg n2, if_neg n3, if_neg n4, if_neg n5, if_pos k6]; rfl, by rw [doT, if_neg n0, if_neg n1, if_neg n2, if_neg n3, if_neg n4, if_neg n5, if_pos k6], by rw [doT, if_neg n0, if_neg n1, if_neg n2, if_neg n3, if_neg n4, if_neg n5, if_pos k6]; exact h'.ent aEt⟩ | exact ⟨((a, cap), L), by rw [doT, if_neg n0, if_neg n1, if_neg n2, if_neg n3, if_neg n4, if_neg n5, if_neg n6]; rfl, by rw [doT, if_neg n0, if_neg n1, if_neg n2, if_neg n3, if_neg n4, if_neg n5, if_neg n6], by rw [doT, if_neg n0, if_neg n1, if_neg n2, if_neg n3, if_neg n4, if_neg n5, if_neg n6]; exact h'.ent aEt⟩)
      · try simp only [decide_eq_true_eq, decide_eq_false_iff_not, Bool.not_eq_true', Bool.not_eq_false', Bool.and_eq_true, Bool.or_eq_true, Bool.and_eq_false_iff, Bool.or_eq_false_iff, Bool.not_true, Bool.not_false] at h7
        have n2 : ¬ a9.kd = 2 := h7
        refine s_seq ?_
        refine s_region ?_
        refine o_p (p_pure rfl) rfl ?_
        refine o_p (p_pure rfl) rfl ?_
        refine o_nil ?_
        refine s_cond rfl (fun h8 => ?_) (fun h8 => ?_)
        · try simp only [decide_eq_true_eq, decide_eq_false_iff_not, Bool.not_eq_true', Bool.not_eq_false', Bool.and_eq_true, Bool.or_eq_true, Bool.and_eq_false_iff, Bool.or_eq_false_iff, Bool.not_true, Bool.not_false] at h8
          have k3 : a9.kd = 3 := h8
          refine s_region ?_
          refine o_p (p_pure rfl) rfl ?_
          refine o_p (p_fieldAddr rfl rfl fd_44_1 sz_3 rfl) rfl ?_
          refine o_q (q_load rfl rfl sz_3 aPk rfl) rfl ?_
          refine o_q (q_loadn rfl rfl sz_62 aPk rfl) rfl ?_
          refine o_h (h_callF (Cs := [.blk bt 106 2 [.int .i64 (next), .slice a (L).length cap], .files a cap (L)]) rfl fn_67 rfl aPs (fun w1 h1 hf => c67 w1 bt next a cap L a9.hd a9.lock hf hV)) rfl (fun gz hgz => ?_)
          refine o_p (p_fieldAddr rfl rfl fd_40_0 sz_28 rfl) rfl ?_
          refine o_h0 (h_store rfl rfl rfl sz_28 rfl aPt (by simp only [setMany_length, List.length_set, List.length_cons, List.length_nil, List.length_map]; omega) rfl) (fun _ _ => ?_)
          refine o_nil ?_
          refine s_blk ?_
          refine s_seq ?_
          refine s_region ?_
          refine o_q (q_loadn rfl rfl sz_40 aPk rfl) rfl ?_
          refine o_h0 (h_store rfl rfl rfl sz_40 rfl aPt (by simp only [setMany_length, List.length_set, List.length_cons, List.length_nil, List.length_map]; omega) rfl) (fun _ _ => ?_)
          refine o_nil ?_
          exact s_retv (rs := [.cell 4 40]) rfl (.cell rfl sz_40 aPk rfl (.nil)) (fun w' h' => by first | exact ⟨gz, by rw [doT, if_pos k0]; rfl, by rw [doT, if_pos k0]; exact hgz, by rw [doT, if_pos k0]; exact h'.ent aEt⟩ | exact ⟨gz, by rw [doT, if_neg n0, if_pos k1]; dsimp only; rw [if_pos hdl]; rfl, by rw [doT, if_neg n0, if_pos k1]; exact hgz, by rw [doT, if_neg n0, if_pos k1]; exact h'.ent aEt⟩ | exact ⟨gz, by rw [doT, if_neg n0, if_pos k1]; dsimp only; rw [if_neg (by rw [hdl]; decide)]; rfl, by rw [doT, if_neg n0, if_pos k1]; exact hgz, by rw [doT, if_neg n0, if_pos k1]; exact h'.ent aEt⟩ | exact ⟨gz, by rw [doT, if_neg n0, if_neg n1, if_pos k2]; rfl, by rw [doT, if_neg n0, if_neg n1, if_pos k2]; exact hgz, by rw [doT, if_neg n0, if_neg n1, if_pos k2]; exact h'.ent aEt⟩ | exact ⟨gz, by rw [doT, if_neg n0, if_neg n1, if_neg n2, if_pos k3]; rfl, by rw [doT, if_neg n0, if_neg n1, if_neg n2, if_pos k3]; exact hgz, by rw [doT, if_neg n0, if_neg n1, if_neg n2, if_pos k3]; exact h'.ent aEt⟩ | exact ⟨gz, by rw [doT, if_neg n0, if_neg n1, if_neg n2, if_neg n3, if_pos k4]; rfl, by rw [doT, if_neg n0, if_neg n1, if_neg n2, if_neg n3, if_pos k4]; exact hgz, by rw [doT, if_neg n0, if_neg n1, if_neg n2, if_neg n3, if_pos k4]; exact h'.ent aEt⟩ | exact ⟨((a, cap), L), by rw [doT, if_neg n0, if_neg n1, if_neg n2, if_neg n3, if_neg n4, if_pos k5]; rfl, by rw [doT, if_neg n0, if_neg n1, if_neg n2, if_neg n3, if_neg n4, if_pos k5], by rw [doT, if_neg n0, if_neg n1, if_neg n2, if_neg n3, if_neg n4, if_pos k5]; exact h'.ent aEt⟩ | exact ⟨((a, cap), L), by rw [doT, if_neg n0, if_neg n1, if_neg n2, if_neg n3, if_neg n4, if_neg n5, if_pos k6]; rfl, by rw [doT, if_neg n0, if_neg n1, if_neg n2, if_neg n3, if_neg n4, if_neg n5, if_pos k6], by rw [doT, if_neg n0, if_neg n1, if_neg n2, if_neg n3, if_neg n4, if_neg n5, if_pos k6]; exact h'.ent aEt⟩ | exact ⟨((a, cap), L), by rw [doT, if_neg n0, if_neg n1, if_neg n2, if_neg n3, if_neg n4, if_neg n5, if_neg n6]; rfl, by rw [doT, if_neg n0, if_neg n1, if_neg n2, if_neg n3, if_neg n4, if_neg n5, if_neg n6], by rw [doT, if_neg n0, if_neg n1, if_neg n2, if_neg n3, if_neg n4, if_neg n5, if_neg n6]; exact h'.ent aEt⟩)
        · try simp only [decide_eq_true_eq, decide_eq_false_iff_not, Bool.not_eq_true', Bool.not_eq_false', Bool.and_eq_true, Bool.or_eq_true, Bool.and_eq_false_iff, Bool.or_eq_false_iff, Bool.not_true, Bool.not_false] at h8
          have n3 : ¬ a9.kd = 3 := h8
          refine s_seq ?_
          refine s_region ?_
          refine o_p (p_pure rfl) rfl ?_
          refine o_p (p_pure rfl) rfl ?_
          refine o_nil ?_
          refine s_cond rfl (fun h9 => ?_) (fun h9 => ?_)
          · try simp only [decide_eq_true_eq, decide_eq_false_iff_not, Bool.not_eq_true', Bool.not_eq_false', Bool.and_eq_true, Bool.or_eq_true, Bool.and_eq_false_iff, Bool.or_eq_false_iff, Bool.not_true, Bool.not_false] at h9
            have k4 : a9.kd = 4 := h9
            refine s_region ?_
            refine o_p (p_pure rfl) rfl ?_
            refine o_p (p_fieldAddr rfl rfl fd_44_1 sz_3 rfl) rfl ?_
            refine o_q (q_load rfl rfl sz_3 aPk rfl) rfl ?_
            refine o_p (p_fieldAddr rfl rfl fd_44_4 sz_3 rfl) rfl ?_
            refine o_q (q_load rfl rfl sz_3 aPk rfl) rfl ?_
            refine o_p (p_fieldAddr rfl rfl fd_44_5 sz_3 rfl) rfl ?_
            refine o_q (q_load rfl rfl sz_3 aPk rfl) rfl ?_
            refine o_h (h_callF (Cs := [.blk bt 106 2 [.int .i64 (next), .slice a (L).length cap], .files a cap (L)]) rfl fn_74 rfl aPs (fun w1 h1 hf => c74 w1 bt next a cap L a9.hd a9.fr a9.cnt hf hV)) rfl (fun gz hgz => ?_)
            refine o_p (p_fieldAddr rfl rfl fd_40_0 sz_28 rfl) rfl ?_
            refine o_h0 (h_store rfl rfl rfl sz_28 rfl aPt (by simp only [setMany_length, List.length_set, List.length_cons, List.length_nil, List.length_map]; omega) rfl) (fun _ _ => ?_)
            refine o_nil ?_
            refine s_blk ?_
            refine s_seq ?_
            refine s_weaken (L' := [(4, _)]) aSx (fun _ h => h) ?_
            refine s_region ?_
            refine o_q (q_loadn rfl rfl sz_40 aPk rfl) rfl ?_
            refine o_h0 (h_store rfl rfl rfl sz_40 rfl aPt (by simp only [setMany_length, List.length_set, List.length_cons, List.length_nil, List.length_map]; omega) rfl) (fun _ _ => ?_)
            refine o_nil ?_
            exact s_retv (rs := [.cell 4 40]) rfl (.cell rfl sz_40 aPk rfl (.nil)) (fun w' h' => by first | exact ⟨gz, by rw [doT, if_pos k0]; rfl, by rw [doT, if_pos k0]; exact hgz, by rw [doT, if_pos k0]; exact h'.ent aEt⟩ | exact ⟨gz, by rw [doT, if_neg n0, if_pos k1]; dsimp only; rw [if_pos hdl]; rfl, by rw [doT, if_neg n0, if_pos k1]; exact hgz, by rw [doT, if_neg n0, if_pos k1]; exact h'.ent aEt⟩ | exact ⟨gz, by rw [doT, if_neg n0, if_pos k1]; dsimp only; rw [if_neg (by rw [hdl]; decide)]; rfl, by rw [doT, if_neg n0, if_pos k1]; exact hgz, by rw [doT, if_neg n0, if_pos k1]; exact h'.ent aEt⟩ | exact ⟨gz, by rw [doT, if_neg n0, if_neg n1, if_pos k2]; rfl, by rw [doT, if_neg n0, if_neg n1, if_pos k2]; exact hgz, by rw [doT, if_neg n0, if_neg n1, if_pos k2]; exact h'.ent aEt⟩ | exact ⟨gz, by rw [doT, if_neg n0, if_neg n1, if_neg n2, if_pos k3]; rfl, by rw [doT, if_neg n0, if_neg n1, if_neg n2, if_pos k3]; exact hgz, by rw [doT, if_neg n0, if_neg n1, if_neg n2, if_pos k3]; exact h'.ent aEt⟩ | exact ⟨gz, by rw [doT, if_neg n0, if_neg n1, if_neg n2, if_neg n3, if_pos k4]; rfl, by rw [doT, if_neg n0, if_neg n1, if_neg n2, if_neg n3, if_pos k4]; exact hgz, by rw [doT, if_neg n0, if_neg n1, if_neg n2, if_neg n3, if_pos k4]; exact h'.ent aEt⟩ | exact ⟨((a, cap), L), by rw [doT, if_neg n0, if_neg n1, if_neg n2, if_neg n3, if_neg n4, if_pos k5]; rfl, by rw [doT, if_neg n0, if_neg n1, if_neg n2, if_neg n3, if_neg n4, if_pos k5], by rw [doT, if_neg n0, if_neg n1, if_neg n2, if_neg n3, if_neg n4, if_pos k5]; exact h'.ent aEt⟩ | exact ⟨((a, cap), L), by rw [doT, if_neg n0, if_neg n1, if_neg n2, if_neg n3, if_neg n4, if_neg n5, if_pos k6]; rfl, by rw [doT, if_neg n0, if_neg n1, if_neg n2, if_neg n3, if_neg n4, if_neg n5, if_pos k6], by rw [doT, if_neg n0, if_neg n1, if_neg n2, if_neg n3, if_neg n4, if_neg n5, if_pos k6]; exact h'.ent aEt⟩ | exact ⟨((a, cap), L), by rw [doT, if_neg n0, if_neg n1, if_neg n2, if_neg n3, if_neg n4, if_neg n5, if_neg n6]; rfl, by rw [doT, if_neg n0, if_neg n1, if_neg n2, if_neg n3, if_neg n4, if_neg n5, if_neg n6], by rw [doT, if_neg n0, if_neg n1, if_neg n2, if_neg n3, if_neg n4, if_neg n5, if_neg n6]; exact h'.ent aEt⟩)
          · try simp only [decide_eq_true_eq, decide_eq_false_iff_not, Bool.not_eq_true', Bool.not_eq_false', Bool.and_eq_true, Bool.or_eq_true, Bool.and_eq_false_iff, Bool.or_eq_false_iff, Bool.not_true, Bool.not_false] at h9
            have n4 : ¬ a9.kd = 4 := h9
            refine s_seq ?_
            refine s_region ?_
            refine o_p (p_pure rfl) rfl ?_
            refine o_p (p_pure rfl) rfl ?_
            refine o_nil ?_
            refine s_cond rfl (fun h10 => ?_) (fun h10 => ?_)
            · try simp only [decide_eq_true_eq, decide_eq_false_iff_not, Bool.not_eq_true', Bool.not_eq_false', Bool.and_eq_true, Bool.or_eq_true, Bool.and_eq_false_iff, Bool.or_eq_false_iff, Bool.not_true, Bool.not_false] at h10
              have k5 : a9.kd = 5 := h10
              refine s_region ?_
              refine o_p (p_pure rfl) rfl ?_
              refine o_p (p_fieldAddr rfl rfl fd_44_1 sz_3 rfl) rfl ?_
              refine o_q (q_load rfl rfl sz_3 aPk rfl) rfl ?_
              refine o_q (q_loadn rfl rfl sz_62 aPk rfl) rfl ?_
              refine o_q (q_call rfl fn_76 rfl (fun w1 h1 => c76 w1 bt a cap L a9.hd a9.lock (h1.rd_blk (Mc := []) (b := bt) aPk rfl (by simp)) (h1.ft aPk) hV)) rfl ?_
              refine o_p (p_fieldAddr rfl rfl fd_40_0 sz_28 rfl) rfl ?_
              refine o_h0 (h_store rfl rfl rfl sz_28 rfl aPt (by simp only [setMany_length, List.length_set, List.length_cons, List.length_nil, List.length_map]; omega) rfl) (fun _ _ => ?_)
              refine o_nil ?_
              refine s_blk ?_
              refine s_seq ?_
              refine s_weaken (L' := [(4, _)]) aSx (fun _ h => h) ?_
              refine s_region ?_
              refine o_q (q_loadn rfl rfl sz_40 aPk rfl) rfl ?_
              refine o_h0 (h_store rfl rfl rfl sz_40 rfl aPt (by simp only [setMany_length, List.length_set, List.length_cons, List.length_nil, List.length_map]; omega) rfl) (fun _ _ => ?_)
              refine o_nil ?_
              exact s_retv (rs := [.cell 4 40]) rfl (.cell rfl sz_40 aPk rfl (.nil)) (fun w' h' => by first | exact ⟨gz, by rw [doT, if_pos k0]; rfl, by rw [doT, if_pos k0]; exact hgz, by rw [doT, if_pos k0]; exact h'.ent aEt⟩ | exact ⟨gz, by rw [doT, if_neg n0, if_pos k1]; dsimp only; rw [if_pos hdl]; rfl, by rw [doT, if_neg n0, if_pos k1]; exact hgz, by rw [doT, if_neg n0, if_pos k1]; exact h'.ent aEt⟩ | exact ⟨gz, by rw [doT, if_neg n0, if_pos k1]; dsimp only; rw [if_neg (by rw [hdl]; decide)]; rfl, by rw [doT, if_neg n0, if_pos k1]; exact hgz, by rw [doT, if_neg n0, if_pos k1]; exact h'.ent aEt⟩ | exact ⟨gz, by rw [doT, if_neg n0, if_neg n1, if_pos k2]; rfl, by rw [doT, if_neg n0, if_neg n1, if_pos k2]; exact hgz, by rw [doT, if_neg n0, if_neg n1, if_pos k2]; exact h'.ent aEt⟩ | exact ⟨gz, by rw [doT, if_neg n0, if_neg n1, if_neg n2, if_pos k3]; rfl, by rw [doT, if_neg n0, if_neg n1, if_neg n2, if_pos k3]; exact hgz, by rw [doT, if_neg n0, if_neg n1, if_neg n2, if_pos k3]; exact h'.ent aEt⟩ | exact ⟨gz, by rw [doT, if_neg n0, if_neg n1, if_neg n2, if_neg n3, if_pos k4]; rfl, by rw [doT, if_neg n0, if_neg n1, if_neg n2, if_neg n3, if_pos k4]; exact hgz, by rw [doT, if_neg n0, if_neg n1, if_neg n2, if_neg n3, if_pos k4]; exact h'.ent aEt⟩ | exact ⟨((a, cap), L), by rw [doT, if_neg n0, if_neg n1, if_neg n2, if_neg n3, if_neg n4, if_pos k5]; rfl, by rw [doT, if_neg n0, if_neg n1, if_neg n2, if_neg n3, if_neg n4, if_pos k5], by rw [doT, if_neg n0, if_neg n1, if_neg n2, if_neg n3, if_neg n4, if_pos k5]; exact h'.ent aEt⟩ | exact ⟨((a, cap), L), by rw [doT, if_neg n0, if_neg n1, if_neg n2, if_neg n3, if_neg n4, if_neg n5, if_pos k6]; rfl, by rw [doT, if_neg n0, if_neg n1, if_neg n2, if_neg n3, if_neg n4, if_neg n5, if_pos k6], by rw [doT, if_neg n0, if_neg n1, if_neg n2, if_neg n3, if_neg n4, if_neg n5, if_pos k6]; exact h'.ent aEt⟩ | exact ⟨((a, cap), L), by rw [doT, if_neg n0, if_neg n1, if_neg n2, if_neg n3, if_neg n4, if_neg n5, if_neg n6]; rfl, by rw [doT, if_neg n0, if_neg n1, if_neg n2, if_neg n3, if_neg n4, if_neg n5, if_neg n6], by rw [doT, if_neg n0, if_neg n1, if_neg n2, if_neg n3, if_neg n4, if_neg n5, if_neg n6]; exact h'.ent aEt⟩)
            · try simp only [decide_eq_true_eq, decide_eq_false_iff_not, Bool.not_eq_true', Bool.not_eq_false', Bool.and_eq_true, Bool.or_eq_true, Bool.and_eq_false_iff, Bool.or_eq_false_iff, Bool.not_true, Bool.not_false] at h10
              have n5 : ¬ a9.kd = 5 := h10
              refine s_seq ?_
              refine s_region ?_
              refine o_p (p_pure rfl) rfl ?_
              refine o_p (p_pure rfl) rfl ?_
              refine o_nil ?_
              refine s_cond rfl (fun h11 => ?_) (fun h11 => ?_)
              · try simp only [decide_eq_true_eq, decide_eq_false_iff_not, Bool.not_eq_true', Bool.not_eq_false', Bool.and_eq_true, Bool.or_eq_true, Bool.and_eq_false_iff, Bool.or_eq_false_iff, Bool.not_true, Bool.not_false] at h11
                have k6 : a9.kd = 6 := h11
                refine s_region ?_
                refine o_p (p_pure rfl) rfl ?_
                refine o_p (p_fieldAddr rfl rfl fd_44_1 sz_3 rfl) rfl ?_
                refine o_q (q_load rfl rfl sz_3 aPk rfl) rfl ?_
                refine o_q (q_loadn rfl rfl sz_62 aPk rfl) rfl ?_
                refine o_q (q_call rfl fn_78 rfl (fun w1 h1 => c78 w1 bt a cap L a9.hd a9.lock (h1.rd_blk (Mc := []) (b := bt) aPk rfl (by simp)) (h1.ft aPk) hV)) rfl ?_
                refine o_p (p_fieldAddr rfl rfl fd_40_0 sz_28 rfl) rfl ?_
                refine o_h0 (h_store rfl rfl rfl sz_28 rfl aPt (by simp only [setMany_length, List.length_set, List.length_cons, List.length_nil, List.length_map]; omega) rfl) (fun _ _ => ?_)
                refine o_nil ?_
                refine s_blk ?_
                refine s_seq ?_
                refine s_weaken (L' := [(4, _)]) aSx (fun _ h => h) ?_
                refine s_region ?_
                refine o_q (q_loadn rfl rfl sz_40 aPk rfl) rfl ?_
                refine o_h0 (h_store rfl rfl rfl sz_40 rfl aPt (by simp only [setMany_length, List.length_set, List.length_cons, List.length_nil, List.length_map]; omega) rfl) (fun _ _ => ?_)
                refine o_nil ?_
                exact s_retv (rs := [.cell 4 40]) rfl (.cell rfl sz_40 aPk rfl (.nil)) (fun w' h' => by first | exact ⟨gz, by rw [doT, if_pos k0]; rfl, by rw [doT, if_pos k0]; exact hgz, by rw [doT, if_pos k0]; exact h'.ent aEt⟩ | exact ⟨gz, by rw [doT, if_neg n0, if_pos k1]; dsimp only; rw [if_pos hdl]; rfl, by rw [doT, if_neg n0, if_pos k1]; exact hgz, by rw [doT, if_neg n0, if_pos k1]; exact h'.ent aEt⟩ | exact ⟨gz, by rw [doT, if_neg n0, if_pos k1]; dsimp only; rw [if_neg (by rw [hdl]; decide)]; rfl, by rw [doT, if_neg n0, if_pos k1]; exact hgz, by rw [doT, if_neg n0, if_pos k1]; exact h'.ent aEt⟩ | exact ⟨gz, by rw [doT, if_neg n0, if_neg n1, if_pos k2]; rfl, by rw [doT, if_neg n0, if_neg n1, if_pos k2]; exact hgz, by rw [doT, if_neg n0, if_neg n1, if_pos k2]; exact h'.ent aEt⟩ | exact ⟨gz, by rw [doT, if_neg n0, if_neg n1, if_neg n2, if_pos k3]; rfl, by rw [doT, if_neg n0, if_neg n1, if_neg n2, if_pos k3]; exact hgz, by rw [doT, if_neg n0, if_neg n1, if_neg n2, if_pos k3]; exact h'.ent aEt⟩ | exact ⟨gz, by rw [doT, if_neg n0, if_neg n1, if_neg n2, if_neg n3, if_pos k4]; rfl, by rw [doT, if_neg n0, if_neg n1, if_neg n2, if_neg n3, if_pos k4]; exact hgz, by rw [doT, if_neg n0, if_neg n1, if_neg n2, if_neg n3, if_pos k4]; exact h'.ent aEt⟩ | exact ⟨((a, cap), L), by rw [doT, if_neg n0, if_neg n1, if_neg n2, if_neg n3, if_neg n4, if_pos k5]; rfl, by rw [doT, if_neg n0, if_neg n1, if_neg n2, if_neg n3, if_neg n4, if_pos k5], by rw [doT, if_neg n0, if_neg n1, if_neg n2, if_neg n3, if_neg n4, if_pos k5]; exact h'.ent aEt⟩ | exact ⟨((a, cap), L), by rw [doT, if_neg n0, if_neg n1, if_neg n2, if_neg n3, if_neg n4, if_neg n5, if_pos k6]; rfl, by rw [doT, if_neg n0, if_neg n1, if_neg n2, if_neg n3, if_neg n4, if_neg n5, if_pos k6], by rw [doT, if_neg n0, if_neg n1, if_neg n2, if_neg n3, if_neg n4, if_neg n5, if_pos k6]; exact h'.ent aEt⟩ | exact ⟨((a, cap), L), by rw [doT, if_neg n0, if_neg n1, if_neg n2, if_neg n3, if_neg n4, if_neg n5, if_neg n6]; rfl, by rw [doT, if_neg n0, if_neg n1, if_neg n2, if_neg n3, if_neg n4, if_neg n5, if_neg n6], by rw [doT, if_neg n0, if_neg n1, if_neg n2, if_neg n3, if_neg n4, if_neg n5, if_neg n6]; exact h'.ent aEt⟩)
              · try simp only [decide_eq_true_eq, decide_eq_false_iff_not, Bool.not_eq_true', Bool.not_eq_false', Bool.and_eq_true, Bool.or_eq_true, Bool.and_eq_false_iff, Bool.or_eq_false_iff, Bool.not_true, Bool.not_false] at h11
                have n6 : ¬ a9.kd = 6 := h11
                refine s_skip ?_
                refine s_blk ?_
                refine s_seq ?_
                refine s_region ?_
                refine o_q (q_loadn rfl rfl sz_40 aPk rfl) rfl ?_
                refine o_h0 (h_store rfl rfl rfl sz_40 rfl aPt (by simp only [setMany_length, List.length_set, List.length_cons, List.length_nil, List.length_map]; omega) rfl) (fun _ _ => ?_)
                refine o_nil ?_
                exact s_retv (rs := [.cell 4 40]) rfl (.cell rfl sz_40 aPk rfl (.nil)) (fun w' h' => by first | exact ⟨gz, by rw [doT, if_pos k0]; rfl, by rw [doT, if_pos k0]; exact hgz, by rw [doT, if_pos k0]; exact h'.ent aEt⟩ | exact ⟨gz, by rw [doT, if_neg n0, if_pos k1]; dsimp only; rw [if_pos hdl]; rfl, by rw [doT, if_neg n0, if_pos k1]; exact hgz, by rw [doT, if_neg n0, if_pos k1]; exact h'.ent aEt⟩ | exact ⟨gz, by rw [doT, if_neg n0, if_pos k1]; dsimp only; rw [if_neg (by rw [hdl]; decide)]; rfl, by rw [doT, if_neg n0, if_pos k1]; exact hgz, by rw [doT, if_neg n0, if_pos k1]; exact h'.ent aEt⟩ | exact ⟨gz, by rw [doT, if_neg n0, if_neg n1, if_pos k2]; rfl, by rw [doT, if_neg n0, if_neg n1, if_pos k2]; exact hgz, by rw [doT, if_neg n0, if_neg n1, if_pos k2]; exact h'.ent aEt⟩ | exact ⟨gz, by rw [doT, if_neg n0, if_neg n1, if_neg n2, if_pos k3]; rfl, by rw [doT, if_neg n0, if_neg n1, if_neg n2, if_pos k3]; exact hgz, by rw [doT, if_neg n0, if_neg n1, if_neg n2, if_pos k3]; exact h'.ent aEt⟩ | exact ⟨gz, by rw [doT, if_neg n0, if_neg n1, if_neg n2, if_neg n3, if_pos k4]; rfl, by rw [doT, if_neg n0, if_neg n1, if_neg n2, if_neg n3, if_pos k4]; exact hgz, by rw [doT, if_neg n0, if_neg n1, if_neg n2, if_neg n3, if_pos k4]; exact h'.ent aEt⟩ | exact ⟨((a, cap), L), by rw [doT, if_neg n0, if_neg n1, if_neg n2, if_neg n3, if_neg n4, if_pos k5]; rfl, by rw [doT, if_neg n0, if_neg n1, if_neg n2, if_neg n3, if_neg n4, if_pos k5], by rw [doT, if_neg n0, if_neg n1, if_neg n2, if_neg n3, if_neg n4, if_pos k5]; exact h'.ent aEt⟩ | exact ⟨((a, cap), L), by rw [doT, if_neg n0, if_neg n1, if_neg n2, if_neg n3, if_neg n4, if_neg n5, if_pos k6]; rfl, by rw [doT, if_neg n0, if_neg n1, if_neg n2, if_neg n3, if_neg n4, if_neg n5, if_pos k6], by rw [doT, if_neg n0, if_neg n1, if_neg n2, if_neg n3, if_neg n4, if_neg n5, if_pos k6]; exact h'.ent aEt⟩ | exact ⟨((a, cap), L), by rw [doT, if_neg n0, if_neg n1, if_neg n2, if_neg n3, if_neg n4, if_neg n5, if_neg n6]; rfl, by rw [doT, if_neg n0, if_neg n1, if_neg n2, if_neg n3, if_neg n4, if_neg n5, if_neg n6], by rw [doT, if_neg n0, if_neg n1, if_neg n2, if_neg n3, if_neg n4, if_neg n5, if_neg n6]; exact h'.ent aEt⟩)

end Go.Proofs

/- Chapter 25, plain: valid tables stay valid. No program here. -/
namespace Go.Proofs
open Go Go.RowKit Gx
set_option linter.unusedVariables false
set_option linter.unusedSimpArgs false

structure FOk (next : Int) (f : Fil) : Prop where
  rf : refE f.rc f.sq = 0
  ne : 0 < f.op.length
  hd : ∀ o ∈ f.op, 1 ≤ o.hd ∧ o.hd ≤ next - 1
  op : ∀ o ∈ f.op, openE o.ac o.sh = 0 ∧ (∀ k ∈ o.lk, rngE k.fr k.cnt = 0) ∧ o.lk.length ≤ 16
  hs : f.op.Pairwise (fun a b => a.hd < b.hd)
  cf : f.op.Pairwise (fun a b => cfl a b = false)
  lk : (f.op.flatMap Opn.lk).Pairwise (fun a b => clsh a b = false)
structure Ok (next : Int) (L : List Fil) : Prop where
  nx : 1 ≤ next ∧ next ≤ 2147483647
  cnt : cntT L ≤ 32
  fl : ∀ f ∈ L, FOk next f
  sr : L.Pairwise (fun f g => refLt (f.rc, f.sq) (g.rc, g.sq) = true)
  ds : L.Pairwise (fun f g => ∀ o ∈ f.op, ∀ p ∈ g.op, o.hd ≠ p.hd)
theorem cntT_cons (f : Fil) (L : List Fil) : cntT (f :: L) = f.op.length + cntT L := by simp [cntT]
theorem cntT_app (L M : List Fil) : cntT (L ++ M) = cntT L + cntT M := by simp [cntT]
theorem len_cnt : ∀ {L : List Fil}, (∀ f ∈ L, 0 < f.op.length) → L.length ≤ cntT L
  | [], _ => by simp
  | f :: L, h => by
    have h1 := len_cnt (fun g hg => h g (List.mem_cons_of_mem _ hg))
    have h2 := h f List.mem_cons_self
    rw [cntT_cons, List.length_cons]
    omega
theorem Ok.vw {next : Int} {L : List Fil} (h : Ok next L) : VW L := by
  refine ⟨?_, h.cnt, fun f hf o ho => (h.fl f hf).op o ho⟩
  have := len_cnt (fun f hf => (h.fl f hf).ne)
  have := h.cnt
  omega
theorem Ok.nil : Ok 1 [] := ⟨by omega, by simp [cntT], fun f hf => (by cases hf), .nil, .nil⟩
theorem others_sub {α : Type} (l : List α) (i : Nat) : (others l i).Sublist l := by
  have h : l = l.take i ++ l.drop i := (List.take_append_drop i l).symm
  conv => rhs; rw [h]
  unfold others
  exact (List.Sublist.refl _).append (by rw [← List.drop_drop]; exact List.drop_sublist _ _)
theorem cnt_sub {L M : List Fil} (h : L.Sublist M) : cntT L ≤ cntT M := by
  induction h with
  | slnil => exact Nat.le_refl _
  | cons a _ ih => rw [cntT_cons]; omega
  | cons_cons a _ ih => rw [cntT_cons, cntT_cons]; omega
theorem Ok.sub {next : Int} {L M : List Fil} (h : Ok next M) (hs : L.Sublist M) : Ok next L :=
  ⟨h.nx, Nat.le_trans (cnt_sub hs) h.cnt, fun f hf => h.fl f (hs.subset hf), h.sr.sublist hs, h.ds.sublist hs⟩
theorem pw_map_set {α β : Type} [Inhabited α] {R : β → β → Prop} {g : α → β} {l : List α} {k : Nat} {x : α} (hx : g x = g (nth l k)) (h : l.Pairwise (fun a b => R (g a) (g b))) : (l.set k x).Pairwise (fun a b => R (g a) (g b)) := by
  rw [← List.pairwise_map] at h ⊢
  have e : (l.set k x).map g = l.map g := by
    apply List.ext_getElem?
    intro j
    rw [List.getElem?_map, List.getElem?_map, List.getElem?_set]
    split
    · rename_i e
      subst e
      split
      · rename_i h2
        rw [nth_get h2, Option.map_some, Option.map_some, hx]
      · rename_i h2
        rw [List.getElem?_eq_none (by omega)]
    · rfl
  rw [e]
  exact h
theorem mem_set_or {α : Type} {l : List α} {k : Nat} {x y : α} (h : y ∈ l.set k x) : y = x ∨ y ∈ l := (List.mem_or_eq_of_mem_set h).symm
theorem pw_set {α : Type} [Inhabited α] {R : α → α → Prop} {l : List α} {k : Nat} {x : α} (h : l.Pairwise R) (h1 : ∀ y ∈ l, R y (nth l k) → R y x) (h2 : ∀ y ∈ l, R (nth l k) y → R x y) : (l.set k x).Pairwise R := by
  rw [List.pairwise_iff_getElem] at h ⊢
  intro i j hi hj hij
  rw [List.length_set] at hi hj
  have h9 := h i j hi hj hij
  rw [List.getElem_set, List.getElem_set]
  split
  · rename_i e
    subst e
    rw [if_neg (by omega)]
    have e2 : nth l k = l[k] := nth_eq (by rw [List.getElem?_eq_getElem hi])
    exact h2 _ (List.getElem_mem hj) (by rw [e2]; exact h9)
  · split
    · rename_i e
      subst e
      have e2 : nth l k = l[k] := nth_eq (by rw [List.getElem?_eq_getElem hj])
      exact h1 _ (List.getElem_mem hi) (by rw [e2]; exact h9)
    · exact h9
theorem cnt_set : ∀ {L : List Fil} {i : Nat} {f : Fil}, i < L.length → cntT (L.set i f) + (nth L i).op.length = cntT L + f.op.length
  | [], i, f, h => by cases h
  | g :: L, 0, f, h => by
    rw [List.set_cons_zero, cntT_cons, cntT_cons]
    show _ + g.op.length = _
    omega
  | g :: L, i + 1, f, h => by
    have h1 := cnt_set (L := L) (i := i) (f := f) (by simpa using h)
    rw [List.set_cons_succ, cntT_cons, cntT_cons]
    have e : nth (g :: L) (i + 1) = nth L i := by simp [nth]
    rw [e]
    omega
theorem Ok.set {next : Int} {L : List Fil} {i : Nat} {f : Fil} (h : Ok next L) (hi : i < L.length) (hf : FOk next f) (h1 : f.rc = (nth L i).rc) (h2 : f.sq = (nth L i).sq) (h3 : ∀ o ∈ f.op, ∃ p ∈ (nth L i).op, p.hd = o.hd) (h4 : f.op.length ≤ (nth L i).op.length) : Ok next (L.set i f) := by
  refine ⟨h.nx, ?_, fun g hg => ?_, ?_, ?_⟩
  · have := cnt_set (L := L) (f := f) hi
    have := h.cnt
    omega
  · rcases mem_set_or hg with rfl | h9
    · exact hf
    · exact h.fl g h9
  · exact pw_map_set (g := fun f : Fil => (f.rc, f.sq)) (R := fun a b => refLt a b = true) (by rw [h1, h2]) h.sr
  · refine pw_set h.ds (fun y hy hR o ho p hp => ?_) (fun y hy hR o ho p hp => ?_)
    · obtain ⟨q, hq, e⟩ := h3 p hp
      rw [← e]
      exact hR o ho q hq
    · obtain ⟨q, hq, e⟩ := h3 o ho
      rw [← e]
      exact hR q hq p hp
theorem nth_Ok {next : Int} {L : List Fil} {i : Nat} (h : Ok next L) (hi : i < L.length) : FOk next (nth L i) := h.fl _ (mem_nth hi)
theorem sub_flat {α β : Type} {g : α → List β} {l m : List α} (h : l.Sublist m) : (l.flatMap g).Sublist (m.flatMap g) := by
  induction h with
  | slnil => exact List.Sublist.refl _
  | cons a _ ih => rw [List.flatMap_cons]; exact ih.trans (List.sublist_append_right _ _)
  | cons_cons a _ ih => rw [List.flatMap_cons, List.flatMap_cons]; exact List.Sublist.append (List.Sublist.refl _) ih
theorem FOk.less {next : Int} {f : Fil} {k : Nat} {pd : Bool} (h : FOk next f) (hn : 0 < (others f.op k).length) : FOk next { f with pd := pd, op := others f.op k } := by
  have hs := others_sub f.op k
  exact ⟨h.rf, hn, fun o ho => h.hd o (hs.subset ho), fun o ho => h.op o (hs.subset ho), h.hs.sublist hs, h.cf.sublist hs, h.lk.sublist (sub_flat hs)⟩
theorem flat_set_sub : ∀ {l : List Opn} {k : Nat} {o : Opn}, o.lk.Sublist (nth l k).lk → ((l.set k o).flatMap Opn.lk).Sublist (l.flatMap Opn.lk)
  | [], k, o, h => by simp
  | x :: l, 0, o, h => by
    rw [List.set_cons_zero, List.flatMap_cons, List.flatMap_cons]
    exact List.Sublist.append h (List.Sublist.refl _)
  | x :: l, k + 1, o, h => by
    rw [List.set_cons_succ, List.flatMap_cons, List.flatMap_cons]
    exact List.Sublist.append (List.Sublist.refl _) (flat_set_sub (by simpa [nth] using h))
theorem flat_set_perm : ∀ {l : List Opn} {k : Nat} {o : Opn} {q : Lock}, k < l.length → o.lk = (nth l k).lk ++ [q] → ((l.set k o).flatMap Opn.lk).Perm (q :: l.flatMap Opn.lk)
  | [], k, o, q, h, _ => by cases h
  | x :: l, 0, o, q, _, h => by
    rw [List.set_cons_zero, List.flatMap_cons, List.flatMap_cons, h]
    show (x.lk ++ [q] ++ _).Perm (q :: (x.lk ++ _))
    rw [List.append_assoc]
    exact List.perm_middle
  | x :: l, k + 1, o, q, hk, h => by
    rw [List.set_cons_succ, List.flatMap_cons, List.flatMap_cons]
    exact ((flat_set_perm (l := l) (k := k) (by simpa using hk) (by simpa [nth] using h)).append_left _).trans List.perm_middle
theorem FOk.locks {next : Int} {f : Fil} {k : Nat} {o : Opn} (h : FOk next f) (hk : k < f.op.length) (h1 : o.hd = (nth f.op k).hd) (h2 : o.ac = (nth f.op k).ac) (h3 : o.sh = (nth f.op k).sh) (h4 : (∀ k ∈ o.lk, rngE k.fr k.cnt = 0) ∧ o.lk.length ≤ 16) (h5 : ((f.op.set k o).flatMap Opn.lk).Pairwise (fun a b => clsh a b = false)) : FOk next { f with op := f.op.set k o } := by
  refine ⟨h.rf, by show 0 < (f.op.set k o).length; rw [List.length_set]; exact h.ne, fun p hp => ?_, fun p hp => ?_, ?_, ?_, h5⟩
  · rcases mem_set_or hp with rfl | h9
    · rw [h1]; exact h.hd _ (mem_nth hk)
    · exact h.hd p h9
  · rcases mem_set_or hp with rfl | h9
    · exact ⟨by rw [h2, h3]; exact (h.op _ (mem_nth hk)).1, h4⟩
    · exact h.op p h9
  · exact pw_map_set (g := Opn.hd) (R := fun a b => a < b) h1 h.hs
  · exact pw_map_set (g := fun o : Opn => (o.ac, o.sh)) (R := fun (a b : Int × Int) => (missN a.1.toNat b.2.toNat || missN b.1.toNat a.2.toNat) = false) (by rw [h2, h3]) h.cf
theorem hd_set {f : Fil} {k : Nat} {o : Opn} (hk : k < f.op.length) (h1 : o.hd = (nth f.op k).hd) : ∀ p ∈ f.op.set k o, ∃ q ∈ f.op, q.hd = p.hd := by
  intro p hp
  rcases mem_set_or hp with rfl | h9
  · exact ⟨_, mem_nth hk, h1.symm⟩
  · exact ⟨p, h9, rfl⟩
theorem mark_ok {next : Int} {L : List Fil} {h : Int} {d : Bool} (hk : Ok next L) : Ok next (markT L h d).1 := by
  unfold markT
  split
  · rename_i e
    obtain ⟨i, k, e2, hi, hk2, _⟩ := findF_spec e
    rw [e2]
    split
    · simp only [Nat.zero_add, updF]
      have hf := nth_Ok hk hi
      exact hk.set hi ⟨hf.rf, hf.ne, hf.hd, hf.op, hf.hs, hf.cf, hf.lk⟩ rfl rfl (fun o ho => ⟨o, ho, rfl⟩) (Nat.le_refl _)
    · exact hk
  · exact hk
theorem lock_ok {next : Int} {L : List Fil} {h : Int} {q : Lock} (hk : Ok next L) : Ok next (lockT L h q).1 := by
  unfold lockT
  split
  · rename_i e
    split
    · rename_i hr
      split
      · rename_i hle
        obtain ⟨i, k, e2, hi, hk2, _⟩ := findF_spec e
        rw [e2] at hle ⊢
        simp only [Nat.zero_add, updO, updF] at hle ⊢
        have hp := lockE_pos hle
        have hf := nth_Ok hk hi
        have ho := hf.op _ (mem_nth hk2)
        refine hk.set hi (hf.locks hk2 rfl rfl rfl ⟨?_, ?_⟩ ?_) rfl rfl (hd_set hk2 rfl) (by show (List.set _ _ _).length ≤ _; rw [List.length_set]; exact Nat.le_refl _)
        · intro c hc
          rcases List.mem_append.1 hc with h9 | h9
          · exact ho.2.1 c h9
          · rw [List.mem_singleton.1 h9]; exact hr
        · show (_ ++ [q]).length ≤ 16
          rw [List.length_append]
          have := hp.1
          simp only [List.length_singleton]
          omega
        · refine ((flat_set_perm (q := q) hk2 rfl).pairwise_iff (fun {x y} e => by rw [clsh_comm]; exact e)).2 ?_
          refine List.pairwise_cons.2 ⟨fun c hc => ?_, hf.lk⟩
          obtain ⟨o, ho1, ho2⟩ := List.mem_flatMap.1 hc
          have h9 := hp.2
          unfold anyK at h9
          rw [List.any_eq_false] at h9
          have h8 := h9 o ho1
          rw [Bool.not_eq_true, List.any_eq_false] at h8
          have h7 := h8 c ho2
          rw [clsh_comm]
          simpa using h7
      · exact hk
    · exact hk
  · exact hk
theorem unlock_ok {next : Int} {L : List Fil} {h fr cnt : Int} (hk : Ok next L) : Ok next (unlockT L h fr cnt).1 := by
  unfold unlockT
  split
  · rename_i e
    split
    · split
      · rename_i hle
        obtain ⟨i, k, e2, hi, hk2, _⟩ := findF_spec e
        rw [e2] at hle ⊢
        simp only [Nat.zero_add, updO, updF] at hle ⊢
        have hf := nth_Ok hk hi
        have ho := hf.op _ (mem_nth hk2)
        have hs := others_sub (nth (nth L i).op k).lk (ixB ((nth (nth L i).op k).lk.map (eqK fr cnt)))
        refine hk.set hi (hf.locks hk2 rfl rfl rfl ⟨fun c hc => ho.2.1 c (hs.subset hc), Nat.le_trans hs.length_le ho.2.2⟩ (hf.lk.sublist (flat_set_sub hs))) rfl rfl (hd_set hk2 rfl) (by show (List.set _ _ _).length ≤ _; rw [List.length_set]; exact Nat.le_refl _)
      · exact hk
    · exact hk
  · exact hk
theorem close_ok {next : Int} {L : List Fil} {h : Int} (hk : Ok next L) : Ok next (closeT L h).1 := by
  unfold closeT
  split
  · rename_i e
    obtain ⟨i, k, e2, hi, hk2, _⟩ := findF_spec e
    rw [e2]
    simp only [Nat.zero_add]
    split
    · rename_i hn
      have hs := others_sub (nth L i).op k
      exact hk.set hi ((nth_Ok hk hi).less hn) rfl rfl (fun o ho => ⟨o, hs.subset ho, rfl⟩) hs.length_le
    · exact hk.sub (others_sub L i)
  · exact hk
theorem FOk.mono {next next' : Int} {f : Fil} (h : FOk next f) (hn : next ≤ next') : FOk next' f := ⟨h.rf, h.ne, fun o ho => by have := h.hd o ho; omega, h.op, h.hs, h.cf, h.lk⟩
theorem Ok.mono {next next' : Int} {L : List Fil} (h : Ok next L) (hn : next ≤ next' ∧ next' ≤ 2147483647) : Ok next' L := ⟨by have := h.nx; omega, h.cnt, fun f hf => (h.fl f hf).mono hn.1, h.sr, h.ds⟩
theorem refLt_tr {a b c : Int × Int} (h1 : refLt a b = true) (h2 : refLt b c = true) : refLt a c = true := by
  unfold refLt at *
  simp only [Bool.or_eq_true, Bool.and_eq_true, decide_eq_true_eq] at *
  omega
/-- Where a row changes from 'less' to 'not less'. -/
theorem turn {α : Type} [Inhabited α] {P : α → Prop} [DecidablePred P] : ∀ {l : List α}, l.Pairwise (fun a b => P b → P a) → ∃ p, p ≤ l.length ∧ (∀ i, i < p → P (nth l i)) ∧ ∀ i, p ≤ i → i < l.length → ¬ P (nth l i)
  | [], _ => ⟨0, Nat.le_refl _, fun i h => absurd h (Nat.not_lt_zero i), fun i _ h => absurd h (Nat.not_lt_zero i)⟩
  | x :: l, h => by
    have hc := List.pairwise_cons.1 h
    by_cases hx : P x
    · obtain ⟨p, h1, h2, h3⟩ := turn hc.2
      refine ⟨p + 1, by simpa using h1, fun i hi => ?_, fun i hi hl => ?_⟩
      · cases i with
        | zero => exact hx
        | succ i => exact h2 i (by omega)
      · cases i with
        | zero => omega
        | succ i => exact h3 i (by omega) (by simpa using hl)
    · refine ⟨0, Nat.zero_le _, fun i h => absurd h (Nat.not_lt_zero i), fun i _ hl => ?_⟩
      cases i with
      | zero => exact hx
      | succ i =>
        have hl' : i < l.length := by simpa using hl
        exact fun hp => hx (hc.1 _ (mem_nth hl') hp)
theorem cmps_get {L : List Fil} {rc sq : Int} {i : Nat} (h : i < L.length) : (cmps L rc sq).getD i 0 = cmp2 ((nth L i).rc, (nth L i).sq) (rc, sq) := by
  unfold cmps
  exact map_getD_nth h
theorem place_spec {next : Int} {L : List Fil} {rc sq : Int} (h : Ok next L) : bsL (cmps L rc sq) ≤ L.length ∧ (∀ i, i < bsL (cmps L rc sq) → refLt ((nth L i).rc, (nth L i).sq) (rc, sq) = true) ∧ ∀ i, bsL (cmps L rc sq) ≤ i → i < L.length → refLt ((nth L i).rc, (nth L i).sq) (rc, sq) = false := by
  obtain ⟨p, h1, h2, h3⟩ := turn (P := fun f : Fil => refLt (f.rc, f.sq) (rc, sq) = true) (l := L) (h.sr.imp fun hab hb => refLt_tr hab hb)
  have e : bsL (cmps L rc sq) = p := by
    refine bsL_spec (by simpa [cmps] using h1) (fun i hi => ?_) (fun i hi hl => ?_)
    · rw [cmps_get (by omega)]
      have := h2 i hi
      rw [← cmp2_lt] at this
      simpa using this
    · have hl' : i < L.length := by simpa [cmps] using hl
      rw [cmps_get hl']
      have := h3 i hi hl'
      rw [← cmp2_lt] at this
      simpa using this
  rw [e]
  exact ⟨h1, h2, fun i a b => by simpa using h3 i a b⟩
theorem put_ok {next : Int} {f : Fil} {x : Opn} (h : FOk next f) (hn : 1 ≤ next) (hx : openE x.ac x.sh = 0) (ho : oldE f x = 0) : FOk (next + 1) (putO f x next) := by
  have h9 : ∀ y ∈ f.op, cfl x y = false := by
    intro y hy
    unfold oldE at ho
    split at ho
    · exact absurd ho (by decide)
    · split at ho
      · exact absurd ho (by decide)
      · rename_i h8
        rw [Bool.not_eq_true, List.any_eq_false] at h8
        simpa using h8 y hy
  refine ⟨h.rf, by simp [putO], fun o ho => ?_, fun o ho => ?_, ?_, ?_, ?_⟩
  · rcases List.mem_append.1 ho with h1 | h1
    · have := h.hd o h1; omega
    · rw [List.mem_singleton.1 h1]
      show 1 ≤ next ∧ next ≤ next + 1 - 1
      omega
  · rcases List.mem_append.1 ho with h1 | h1
    · exact h.op o h1
    · rw [List.mem_singleton.1 h1]
      exact ⟨hx, fun k hk => (by cases hk), by simp⟩
  · refine List.pairwise_append.2 ⟨h.hs, List.pairwise_singleton _ _, fun a ha b hb => ?_⟩
    rw [List.mem_singleton.1 hb]
    have := h.hd a ha
    show a.hd < next
    omega
  · refine List.pairwise_append.2 ⟨h.cf, List.pairwise_singleton _ _, fun a ha b hb => ?_⟩
    rw [List.mem_singleton.1 hb, cfl_comm]
    exact h9 a ha
  · show ((f.op ++ [_]).flatMap Opn.lk).Pairwise _
    rw [List.flatMap_append]
    simpa using h.lk
theorem new_ok {next rc sq : Int} {x : Opn} (hn : 1 ≤ next) (hr : refE rc sq = 0) (hx : openE x.ac x.sh = 0) : FOk (next + 1) (putO ⟨rc, sq, false, []⟩ x next) := by
  refine ⟨hr, by simp [putO], fun o ho => ?_, fun o ho => ?_, List.pairwise_singleton _ _, List.pairwise_singleton _ _, by simp [putO]⟩
  · rw [List.mem_singleton.1 ho]
    show 1 ≤ next ∧ next ≤ next + 1 - 1
    omega
  · rw [List.mem_singleton.1 ho]
    exact ⟨hx, fun k hk => (by cases hk), by simp⟩
theorem refLt_tri {a b : Int × Int} (h1 : refLt a b = false) (h2 : a ≠ b) : refLt b a = true := by
  obtain ⟨a1, a2⟩ := a
  obtain ⟨b1, b2⟩ := b
  unfold refLt at *
  simp only [Bool.or_eq_false_iff, Bool.and_eq_false_iff, decide_eq_false_iff_not, Bool.or_eq_true, Bool.and_eq_true, decide_eq_true_eq, ne_eq, Prod.mk.injEq, not_and] at *
  omega
theorem bsF_iff {next : Int} {L : List Fil} {rc sq : Int} (h : Ok next L) : bsF' (cmps L rc sq) = true ↔ bsL (cmps L rc sq) < L.length ∧ ((nth L (bsL (cmps L rc sq))).rc, (nth L (bsL (cmps L rc sq))).sq) = (rc, sq) := by
  unfold bsF'
  rw [Bool.and_eq_true, decide_eq_true_eq, decide_eq_true_eq]
  have e : (cmps L rc sq).length = L.length := by simp [cmps]
  constructor
  · rintro ⟨h1, h2⟩
    rw [e] at h1
    rw [cmps_get h1, cmp2_eq] at h2
    exact ⟨h1, h2⟩
  · rintro ⟨h1, h2⟩
    refine ⟨by rw [e]; exact h1, ?_⟩
    rw [cmps_get h1, cmp2_eq]
    exact h2
theorem not_at {next : Int} {L : List Fil} {rc sq : Int} (h : Ok next L) (hn : ¬ bsF' (cmps L rc sq) = true) : ∀ f ∈ L, (f.rc, f.sq) ≠ (rc, sq) := by
  intro f hf he
  obtain ⟨i, hi, e⟩ := List.getElem_of_mem hf
  have e2 : nth L i = f := nth_eq (by rw [List.getElem?_eq_getElem hi, e])
  obtain ⟨p1, p2, p3⟩ := place_spec (rc := rc) (sq := sq) h
  have irr : refLt (rc, sq) (rc, sq) = false := by simp [refLt]
  rcases Nat.lt_trichotomy i (bsL (cmps L rc sq)) with h1 | h1 | h1
  · have := p2 i h1
    rw [e2, he, irr] at this
    cases this
  · exact hn ((bsF_iff h).2 ⟨by omega, by rw [← h1, e2]; exact he⟩)
  · have hp : bsL (cmps L rc sq) < L.length := by omega
    have h4 := List.pairwise_iff_getElem.1 h.sr (bsL (cmps L rc sq)) i hp hi h1
    have e3 : nth L (bsL (cmps L rc sq)) = L[bsL (cmps L rc sq)] := nth_eq (by rw [List.getElem?_eq_getElem hp])
    rw [← e3, e, he] at h4
    rw [p3 _ (Nat.le_refl _) hp] at h4
    cases h4
theorem cnt_ins {L : List Fil} {i : Nat} {f : Fil} : cntT (insAt L i f) = cntT L + f.op.length := by
  have h : cntT L = cntT (L.take i) + cntT (L.drop i) := by rw [← cntT_app, List.take_append_drop]
  rw [insAt, cntT_app, cntT_cons, h]
  omega
theorem nth_mem_take {α : Type} [Inhabited α] {l : List α} {i : Nat} {y : α} (h : y ∈ l.take i) : ∃ j, j < i ∧ j < l.length ∧ nth l j = y := by
  obtain ⟨j, hj, e⟩ := List.getElem_of_mem h
  rw [List.length_take] at hj
  refine ⟨j, by omega, by omega, nth_eq ?_⟩
  rw [List.getElem_take] at e
  rw [List.getElem?_eq_getElem (by omega), e]
theorem nth_mem_drop {α : Type} [Inhabited α] {l : List α} {i : Nat} {y : α} (h : y ∈ l.drop i) : ∃ j, i ≤ j ∧ j < l.length ∧ nth l j = y := by
  obtain ⟨j, hj, e⟩ := List.getElem_of_mem h
  rw [List.length_drop] at hj
  refine ⟨i + j, by omega, by omega, nth_eq ?_⟩
  rw [List.getElem_drop] at e
  rw [List.getElem?_eq_getElem (by omega), e]
theorem pw_ins {α : Type} {R : α → α → Prop} {l : List α} {i : Nat} {x : α} (h : l.Pairwise R) (h1 : ∀ y ∈ l.take i, R y x) (h2 : ∀ y ∈ l.drop i, R x y) : (insAt l i x).Pairwise R := by
  rw [← List.take_append_drop i l, List.pairwise_append] at h
  unfold insAt
  refine List.pairwise_append.2 ⟨h.1, List.pairwise_cons.2 ⟨h2, h.2.1⟩, fun a ha b hb => ?_⟩
  rcases List.mem_cons.1 hb with rfl | hb
  · exact h1 a ha
  · exact h.2.2 a ha b hb
theorem open_ok {next : Int} {L : List Fil} {rc sq : Int} {x : Opn} (hk : Ok next L) : Ok (openT next L rc sq x).2.1 (openT next L rc sq x).1 := by
  unfold openT
  split
  · rename_i hz
    obtain ⟨z1, z2, z3, z4⟩ := opnE_pos hz
    have hk' := hk.mono (next' := next + 1) (by omega)
    split
    · rename_i hb
      obtain ⟨hi, he⟩ := (bsF_iff hk).1 hb
      split
      · rename_i ho
        have hf := put_ok (nth_Ok hk hi) hk.nx.1 z2 ho
        refine ⟨hk'.nx, ?_, fun g hg => ?_, ?_, ?_⟩
        · have := cnt_set (L := L) (f := putO (nth L (bsL (cmps L rc sq))) x next) hi
          have e : (putO (nth L (bsL (cmps L rc sq))) x next).op.length = (nth L (bsL (cmps L rc sq))).op.length + 1 := by simp [putO]
          show cntT (L.set (bsL (cmps L rc sq)) (putO (nth L (bsL (cmps L rc sq))) x next)) ≤ 32
          omega
        · rcases mem_set_or hg with rfl | h9
          · exact hf
          · exact hk'.fl g h9
        · exact pw_map_set (g := fun f : Fil => (f.rc, f.sq)) (R := fun a b => refLt a b = true) rfl hk.sr
        · refine pw_set hk.ds (fun y hy hR o ho p hp => ?_) (fun y hy hR o ho p hp => ?_)
          · rcases List.mem_append.1 hp with h1 | h1
            · exact hR o ho p h1
            · have := (hk.fl y hy).hd o ho
              rw [List.mem_singleton.1 h1]
              show o.hd ≠ next
              omega
          · rcases List.mem_append.1 ho with h1 | h1
            · exact hR o h1 p hp
            · have := (hk.fl y hy).hd p hp
              rw [List.mem_singleton.1 h1]
              show next ≠ p.hd
              omega
      · exact hk
    · rename_i hb
      have hna := not_at hk hb
      obtain ⟨p1, p2, p3⟩ := place_spec (rc := rc) (sq := sq) hk
      refine ⟨hk'.nx, ?_, fun g hg => ?_, ?_, ?_⟩
      · show cntT (insAt _ _ _) ≤ 32
        rw [cnt_ins]
        show cntT L + 1 ≤ 32
        omega
      · rcases ins_le g hg with rfl | h9
        · exact new_ok hk.nx.1 z1 z2
        · exact hk'.fl g h9
      · refine pw_ins hk.sr (fun y hy => ?_) (fun y hy => ?_)
        · obtain ⟨j, h1, h2, rfl⟩ := nth_mem_take hy
          exact p2 j h1
        · obtain ⟨j, h1, h2, rfl⟩ := nth_mem_drop hy
          exact refLt_tri (p3 j h1 h2) (hna _ (mem_nth h2))
      · refine pw_ins hk.ds (fun y hy o ho p hp => ?_) (fun y hy o ho p hp => ?_)
        · have := (hk.fl y (List.mem_of_mem_take hy)).hd o ho
          rw [List.mem_singleton.1 hp]
          show o.hd ≠ next
          omega
        · have := (hk.fl y (List.mem_of_mem_drop hy)).hd p hp
          rw [List.mem_singleton.1 ho]
          show next ≠ p.hd
          omega
  · exact hk
theorem doT_ok {next : Int} {L : List Fil} {a : HAct} (hk : Ok next L) : Ok (doT next L a).2.1 (doT next L a).1 := by
  unfold doT
  by_cases h0 : a.kd = 0
  · rw [if_pos h0]; exact open_ok hk
  rw [if_neg h0]
  by_cases h1 : a.kd = 1
  · rw [if_pos h1]; exact close_ok hk
  rw [if_neg h1]
  by_cases h2 : a.kd = 2
  · rw [if_pos h2]; exact mark_ok hk
  rw [if_neg h2]
  by_cases h3 : a.kd = 3
  · rw [if_pos h3]; exact lock_ok hk
  rw [if_neg h3]
  by_cases h4 : a.kd = 4
  · rw [if_pos h4]; exact unlock_ok hk
  rw [if_neg h4]
  repeat' split
  all_goals exact hk
end Go.Proofs

namespace Go.Proofs
open Go Go.RowKit Gx
set_option linter.unusedVariables false
set_option linter.unusedSimpArgs false
attribute [local irreducible] Go.Calls Gx.S Gx.O Gx.D Gx.OpP Gx.OpQ Gx.OpH

theorem sl_22 : tsl Try.prog 22 = some (44, 9, 72) := by kernel_rfl
theorem sz_44 : tsz Try.prog 44 = some (9, true) := by kernel_rfl
theorem zr_44 : tzero Try.prog 44 = some [.int .i64 0, .int .i64 0, .int .i64 0, .int .i64 0, .int .i64 0, .int .i64 0, .int .i64 0, .int .i64 0, .bool false] := by kernel_rfl
theorem zr_26 : tzero Try.prog 26 = some [.int .i64 0, .slice none 0 0] := by kernel_rfl
theorem pl_26 : tplaces Try.prog 26 = some [(0, 1), (1, 1)] := by kernel_rfl
theorem fn_46 : isFn Try.prog 46 = true := by kernel_rfl
theorem pl_106 : tplaces Try.prog 106 = some [(0, 2)] := by kernel_rfl
theorem zr_106 : tzero Try.prog 106 = some [.int .i64 0, .slice none 0 0] := by kernel_rfl
theorem fn_50 : isFn Try.prog 50 = true := by kernel_rfl
theorem sl_27 : tsl Try.prog 27 = some (40, 2, 16) := by kernel_rfl


def kindE (a : HAct) : Int := if 0 ≤ a.kd ∧ a.kd ≤ 6 then 0 else 15
def runE (l : List HAct) : Int := if 100 < l.length then 8 else (eachF (l.map kindE) 0).2
def stepT (s : (List Fil × Int) × List (Int × Int)) (a : HAct) : (List Fil × Int) × List (Int × Int) :=
  (((doT s.1.2 s.1.1 a).1, (doT s.1.2 s.1.1 a).2.1), s.2 ++ [((doT s.1.2 s.1.1 a).2.2.2, (doT s.1.2 s.1.1 a).2.2.1)])
def runS (l : List HAct) : (List Fil × Int) × List (Int × Int) := l.foldl stepT (([], 1), [])
def runR (l : List HAct) : (List Fil × Int) × List (Int × Int) := if runE l = 0 then runS l else (([], 0), [])
def ansV (p : Int × Int) : List Value := [.int .i64 p.1, .int .i64 p.2]
theorem runS_ok (l : List HAct) : Ok (runS l).1.2 (runS l).1.1 := by
  suffices h : ∀ (l : List HAct) (s : (List Fil × Int) × List (Int × Int)), Ok s.1.2 s.1.1 → Ok (l.foldl stepT s).1.2 (l.foldl stepT s).1.1 from h l _ Ok.nil
  intro l
  induction l with
  | nil => exact fun s h => h
  | cons a l ih => exact fun s h => ih _ (doT_ok h)
theorem runS_succ {l : List HAct} {k : Nat} (h : k < l.length) : runS (l.take (k + 1)) = stepT (runS (l.take k)) (nth l k) := by
  unfold runS
  rw [take_succ_nth h, List.foldl_append]
  rfl
theorem runS_len (l : List HAct) : (runS l).2.length = l.length := by
  suffices h : ∀ (l : List HAct) (s : (List Fil × Int) × List (Int × Int)), (l.foldl stepT s).2.length = s.2.length + l.length from by
    have := h l (([], 1), [])
    unfold runS
    rw [this]
    simp
  intro l
  induction l with
  | nil => intro s; rfl
  | cons a l ih =>
    intro s
    rw [List.foldl_cons, ih]
    simp [stepT]
    omega
theorem HS.files_none {w0 w : World} {M : List Nat} {As : List HA} (h : HS w0 M As w) : HS w0 M (.files none 0 [] :: As) w := HS.row_shut (n := 0) (xs := []) (h.star_nil.own_nil 77 4) rfl rfl
theorem runE_big {l : List HAct} (h : 100 < l.length) : runE l = 8 := by rw [runE, if_pos h]
theorem runE_sm {l : List HAct} (h : ¬ 100 < l.length) : runE l = (eachF (l.map kindE) 0).2 := by rw [runE, if_neg h]
theorem runR_0 {l : List HAct} (h : runE l = 0) : runR l = runS l := by rw [runR, if_pos h]
theorem runR_e {l : List HAct} (h : ¬ runE l = 0) : runR l = (([], 0), []) := by rw [runR, if_neg h]

set_option maxRecDepth 20000 in
theorem c46 (w : World) (a : Option Addr) (cap : Nat) (l : List HAct) (q : Nat) (cv : Array Value) (es : List Int) (hs : Rw HAct.vals 9 w [] a l) (hm : l.length ≤ 1000000) (hq : isFn Try.prog q = true) (he : es.length = l.length) (hc : ∀ k w1, k < l.length → (∀ j, j < k → es.getD j 0 = 0) → HS w [] [] w1 → Calls Try.prog q (#[] ++ [.int .i64 (k : Int), .agg (HAct.vals (nth l k)).toArray].toArray ++ cv) w1 fun en w2 => en = .returned (.int .i64 (es.getD k 0)) ∧ Below w1.heap.size w1 w2) : Calls Try.prog 46 #[.slice a l.length cap, .func (.func q) #[] cv] w fun en w' => en = .returned (.tuple #[.int .i64 (eachF es 0).1, .int .i64 (eachF es 0).2]) ∧ Below w.heap.size w w' := by
  refine enter (args := [_, _]) Try.func46 Try.ntmps46 rfl rfl (HS.refl w []) ?_
  refine s_seq ?_
  refine s_region ?_
  refine o_p (p_pure rfl) rfl ?_
  refine o_p (p_pure rfl) rfl ?_
  refine o_nil ?_
  refine s_seq ?_
  refine s_seq ?_
  refine s_region ?_
  refine o_p (p_pure rfl) rfl ?_
  refine o_p (p_len_slice rfl rfl Try.underlying22) rfl ?_
  refine o_p (p_pure rfl) rfl ?_
  refine o_nil ?_
  refine s_block ?_
  refine s_loopI (α := Nat) [4, 5, 6, 7, 8, 11, 12, 13, 14, 15, 16, 17, 18, 19, 20, 21, 22, 23, 24] (fun k => [(11, .int .i64 (k : Int))]) (fun _ => HS w [] []) (fun k => k ≤ l.length ∧ eachF es 0 = eachF (es.drop k) k ∧ ∀ j, j < k → es.getD j 0 = 0) (fun k => l.length - k) 0 ⟨by omega, rfl, fun i h => absurd h (Nat.not_lt_zero i)⟩ aSx (fun w h => h.ent aEt) (fun k hk => ?_)
  obtain ⟨hk1, hk2, hk3⟩ := hk
  refine s_seq ?_
  refine s_region ?_
  refine o_p (p_pure rfl) rfl ?_
  refine o_nil ?_
  refine s_seq ?_
  refine s_cond rfl (fun h1 => ?_) (fun h1 => ?_)
  · try simp only [decide_eq_true_eq, decide_eq_false_iff_not, Bool.not_eq_true', Bool.not_eq_false', Bool.and_eq_true, Bool.or_eq_true, Bool.and_eq_false_iff, Bool.or_eq_false_iff, Bool.not_true, Bool.not_false] at h1
    refine s_skip ?_
    refine s_seq ?_
    refine s_block ?_
    refine s_seq ?_
    refine s_region ?_
    refine o_p (p_pure rfl) rfl ?_
    refine o_p (p_indexAddr rfl rfl rfl sl_22 (k) (by omega) (by omega) (Rw.some hs (by omega))) rfl ?_
    refine o_q (q_load_oldn _ rfl rfl sz_44 rfl (Rw.rd hs (by omega))) rfl ?_
    refine o_h (h_alloc rfl zr_44) rfl (fun b2 _ => ?_)
    refine o_p (p_pure rfl) rfl ?_
    refine o_h0 (h_store rfl rfl rfl sz_44 rfl aPt (by simp only [setMany_length, List.length_set, List.length_cons, List.length_nil, List.length_map]; omega) rfl) (fun _ _ => ?_)
    refine o_nil ?_
    refine s_seq ?_
    refine s_region ?_
    refine o_p (p_pure rfl) rfl ?_
    refine o_p (p_pure rfl) rfl ?_
    refine o_q (q_loadn rfl rfl sz_44 aPk rfl) rfl ?_
    refine o_q (q_callv rfl rfl hq rfl (fun w1 h1 => hc k w1 (by omega) hk3 (h1.ent aEt))) rfl ?_
    refine o_p (p_pure rfl) rfl ?_
    refine o_nil ?_
    refine s_seq ?_
    refine s_region ?_
    refine o_p (p_pure rfl) rfl ?_
    refine o_p (p_pure rfl) rfl ?_
    refine o_nil ?_
    refine s_cond rfl (fun h3 => ?_) (fun h3 => ?_)
    · try simp only [decide_eq_true_eq, decide_eq_false_iff_not, Bool.not_eq_true', Bool.not_eq_false', Bool.and_eq_true, Bool.or_eq_true, Bool.and_eq_false_iff, Bool.or_eq_false_iff, Bool.not_true, Bool.not_false] at h3
      refine s_seq ?_
      refine s_region ?_
      refine o_p (p_pure rfl) rfl ?_
      refine o_p (p_pure rfl) rfl ?_
      refine o_p (p_pure rfl) rfl ?_
      refine o_p (p_pure rfl) rfl ?_
      refine o_nil ?_
      exact s_retv (rs := [.tmp 4, .tmp 5]) rfl (.tmp rfl (.tmp rfl (.nil))) (fun w' h' => ⟨by simp only [retV]; rw [hk2, eachF_drop (by omega), if_neg (by assumption)], h'.below⟩)
    · try simp only [decide_eq_true_eq, decide_eq_false_iff_not, Bool.not_eq_true', Bool.not_eq_false', Bool.and_eq_true, Bool.or_eq_true, Bool.and_eq_false_iff, Bool.or_eq_false_iff, Bool.not_true, Bool.not_false] at h3
      refine s_skip ?_
      refine s_blk ?_
      refine s_region ?_
      refine o_p (p_pure rfl) rfl ?_
      try (refine o_slot (i64w (by omega) (by omega)) ?_)
      refine o_p (p_pure rfl) rfl ?_
      refine o_nil ?_
      exact s_backI (k+1) (by omega) ⟨by omega, by rw [hk2, eachF_drop (by omega), if_pos (by assumption)], fun j hj => (Nat.lt_or_ge j k).elim (hk3 j) (fun h => by obtain rfl : j = k := (by omega); assumption)⟩ aSx (fun w h => h.ent aEt)
  · try simp only [decide_eq_true_eq, decide_eq_false_iff_not, Bool.not_eq_true', Bool.not_eq_false', Bool.and_eq_true, Bool.or_eq_true, Bool.and_eq_false_iff, Bool.or_eq_false_iff, Bool.not_true, Bool.not_false] at h1
    refine s_exit_to rfl ?_
    refine s_seq ?_
    refine s_region ?_
    refine o_p (p_pure rfl) rfl ?_
    refine o_p (p_pure rfl) rfl ?_
    refine o_nil ?_
    exact s_retv (rs := [.tmp 4, .tmp 5]) rfl (.tmp rfl (.tmp rfl (.nil))) (fun w' h' => ⟨by simp only [retV]; rw [hk2, eachF_end (by omega)], h'.below⟩)

set_option maxRecDepth 20000 in
theorem c47 (w : World) (i : Int) (a9 : HAct) : Calls Try.prog 47 #[.int .i64 i, .agg #[.int .i64 a9.kd, .int .i64 a9.hd, .int .i64 a9.ac, .int .i64 a9.sh, .int .i64 a9.fr, .int .i64 a9.cnt, .int .i64 a9.rc, .int .i64 a9.sq, .bool a9.fl]] w fun en w' => en = .returned (.int .i64 (kindE a9)) ∧ Below w.heap.size w w' := by
  refine enter (args := [_, _]) Try.func47 Try.ntmps47 rfl rfl (HS.refl w []) ?_
  refine s_seq ?_
  refine s_region ?_
  refine o_h (h_box rfl rfl) rfl (fun b1 _ => ?_)
  refine o_p (p_pure rfl) rfl ?_
  refine o_nil ?_
  refine s_seq ?_
  refine s_region ?_
  refine o_p (p_fieldAddr rfl rfl fd_44_0 sz_3 rfl) rfl ?_
  refine o_q (q_load rfl rfl sz_3 aPk rfl) rfl ?_
  refine o_q (q_call rfl fn_49 rfl (fun w1 h1 => c49 w1 _ _ _)) rfl ?_
  refine o_q (q_call rfl fn_48 rfl (fun w1 h1 => c48 w1 _ _)) rfl ?_
  refine o_p (p_pure rfl) rfl ?_
  refine o_nil ?_
  exact s_retv (rs := [.tmp 4]) rfl (.tmp rfl (.nil)) (fun w' h' => ⟨by simp only [retV, kindE, cond_eq_ite, Bool.and_eq_true, decide_eq_true_eq], h'.below⟩)

set_option maxRecDepth 20000 in
set_option maxHeartbeats 1000000 in
theorem c12 (w : World) (a : Option Addr) (cap : Nat) (l : List HAct) (hs : Rw HAct.vals 9 w [] a l) (hm : l.length ≤ 1000000) : Calls Try.prog 12 #[.slice a l.length cap] w fun en w' => ∃ g : ((Option Addr × Nat) × List LFil) × (Option Addr × Nat), en = .returned (.tuple #[.agg #[.int .i64 (runR l).1.2, .slice g.1.1.1 g.1.2.length g.1.1.2], .slice g.2.1 (runR l).2.length g.2.2, .int .i64 (runE l)]) ∧ pls g.1.2 = (runR l).1.1 ∧ HS w [] [.files g.1.1.1 g.1.1.2 g.1.2, .own (.slice g.2.1 (runR l).2.length g.2.2) 40 2 (runR l).2.length ((runR l).2.flatMap ansV)] w' := by
  refine enter (args := [_]) Try.func12 Try.ntmps12 rfl rfl (HS.refl w []) ?_
  refine s_seq ?_
  refine s_region ?_
  refine o_h (h_alloc rfl zr_26) rfl (fun b1 _ => ?_)
  refine o_p (p_pure rfl) rfl ?_
  refine o_p (p_pure rfl) rfl ?_
  refine o_nil ?_
  refine s_seq ?_
  refine s_seq ?_
  refine s_region ?_
  refine o_p (p_pure rfl) rfl ?_
  refine o_p (p_len_slice rfl rfl Try.underlying22) rfl ?_
  refine o_p (p_pure rfl) rfl ?_
  refine o_nil ?_
  refine s_cond rfl (fun h2 => ?_) (fun h2 => ?_)
  · try simp only [decide_eq_true_eq, decide_eq_false_iff_not, Bool.not_eq_true', Bool.not_eq_false', Bool.and_eq_true, Bool.or_eq_true, Bool.and_eq_false_iff, Bool.or_eq_false_iff, Bool.not_true, Bool.not_false] at h2
    have hbig : 100 < l.length := by have hq := h2; omega
    refine s_seq ?_
    refine s_region ?_
    refine o_p (p_build (cs := [_, _]) rfl rfl pl_26 zr_26 rfl) rfl ?_
    refine o_h0 (h_store rfl rfl rfl sz_26 rfl aPt (by simp only [setMany_length, List.length_set, List.length_cons, List.length_nil, List.length_map]; omega) rfl) (fun _ _ => ?_)
    refine o_p (p_pure rfl) rfl ?_
    refine o_p (p_pure rfl) rfl ?_
    refine o_nil ?_
    exact s_retv (rs := [.cell 2 26, .tmp 3, .tmp 4]) rfl (.cell rfl sz_26 aPk rfl (.tmp rfl (.tmp rfl (.nil)))) (fun w' h' => ⟨(((none, 0), []), (none, 0)), by rw [runR_e (by rw [runE_big hbig]; decide)]; rw [runE_big hbig]; rfl, by rw [runR_e (by rw [runE_big hbig]; decide)]; rfl, by rw [runR_e (by rw [runE_big hbig]; decide)]; exact ((HS.files_none h').own_nil 40 2).ent aEt⟩)
  · try simp only [decide_eq_true_eq, decide_eq_false_iff_not, Bool.not_eq_true', Bool.not_eq_false', Bool.and_eq_true, Bool.or_eq_true, Bool.and_eq_false_iff, Bool.or_eq_false_iff, Bool.not_true, Bool.not_false] at h2
    have hbig : ¬ 100 < l.length := by have hq := h2; omega
    refine s_skip ?_
    refine s_seq ?_
    refine s_seq ?_
    refine s_region ?_
    refine o_p (p_pure rfl) rfl ?_
    refine o_q (q_call rfl fn_46 rfl (fun w1 h1 => c46 w1 a cap l 47 #[] (l.map kindE) (hs.later h1) hm (by kernel_rfl) (by simp) (fun k w2 hk _ h2 => by rw [map_getD_nth hk]; exact c47 w2 _ _))) rfl ?_
    refine o_p (p_pure rfl) rfl ?_
    refine o_p (p_pure rfl) rfl ?_
    refine o_p (p_pure rfl) rfl ?_
    refine o_p (p_pure rfl) rfl ?_
    refine o_p (p_pure rfl) rfl ?_
    refine o_nil ?_
    refine s_seq ?_
    refine s_region ?_
    refine o_p (p_pure rfl) rfl ?_
    refine o_p (p_pure rfl) rfl ?_
    refine o_nil ?_
    refine s_cond rfl (fun h3 => ?_) (fun h3 => ?_)
    · try simp only [decide_eq_true_eq, decide_eq_false_iff_not, Bool.not_eq_true', Bool.not_eq_false', Bool.and_eq_true, Bool.or_eq_true, Bool.and_eq_false_iff, Bool.or_eq_false_iff, Bool.not_true, Bool.not_false] at h3
      have hke : ¬ (eachF (l.map kindE) 0).2 = 0 := h3
      refine s_seq ?_
      refine s_region ?_
      refine o_p (p_build (cs := [_, _]) rfl rfl pl_26 zr_26 rfl) rfl ?_
      refine o_p (p_pure rfl) rfl ?_
      refine o_h0 (h_store rfl rfl rfl sz_26 rfl aPt (by simp only [setMany_length, List.length_set, List.length_cons, List.length_nil, List.length_map]; omega) rfl) (fun _ _ => ?_)
      refine o_p (p_pure rfl) rfl ?_
      refine o_p (p_pure rfl) rfl ?_
      refine o_nil ?_
      exact s_retv (rs := [.cell 2 26, .tmp 3, .tmp 4]) rfl (.cell rfl sz_26 aPk rfl (.tmp rfl (.tmp rfl (.nil)))) (fun w' h' => ⟨(((none, 0), []), (none, 0)), by rw [runR_e (by rw [runE_sm hbig]; exact hke)]; rw [runE_sm hbig]; rfl, by rw [runR_e (by rw [runE_sm hbig]; exact hke)]; rfl, by rw [runR_e (by rw [runE_sm hbig]; exact hke)]; exact ((HS.files_none h').own_nil 40 2).ent aEt⟩)
    · try simp only [decide_eq_true_eq, decide_eq_false_iff_not, Bool.not_eq_true', Bool.not_eq_false', Bool.and_eq_true, Bool.or_eq_true, Bool.and_eq_false_iff, Bool.or_eq_false_iff, Bool.not_true, Bool.not_false] at h3
      have hke : (eachF (l.map kindE) 0).2 = 0 := h3
      have hrz : runE l = 0 := by rw [runE_sm hbig]; exact hke
      refine s_skip ?_
      refine s_seq ?_
      refine s_region ?_
      refine o_p (p_build (cs := [_, _]) rfl rfl pl_26 zr_26 rfl) rfl ?_
      refine o_p (p_build (cs := [_, _]) rfl rfl pl_106 zr_106 rfl) rfl ?_
      refine o_h (h_box rfl rfl) rfl (fun b4 _ => ?_)
      refine o_p (p_pure rfl) rfl ?_
      refine o_nil ?_
      refine s_seq ?_
      refine s_region ?_
      refine o_p (p_pure rfl) rfl ?_
      refine o_nil ?_
      refine s_seq ?_
      refine s_seq ?_
      refine s_region ?_
      refine o_p (p_pure rfl) rfl ?_
      refine o_p (p_len_slice rfl rfl Try.underlying22) rfl ?_
      refine o_p (p_pure rfl) rfl ?_
      refine o_nil ?_
      refine s_block ?_
      refine s_weaken (L' := [(2, _), (3, _), (4, _), (7, _), (8, _), (27, _), (28, _), (29, _)]) aSx (fun _ h => h) ?_
      refine s_loopI (α := Nat × ((Option Addr × Nat) × List LFil) × (Option Addr × Nat)) [8, 10, 29, 30, 31, 32, 33, 34, 35, 36, 37, 38, 39] (fun y => [(29, .int .i64 (y.1 : Int)), (8, .slice y.2.2.1 y.1 y.2.2.2)]) (fun y => HS w [] [.blk b4 106 2 [.int .i64 (runS (l.take y.1)).1.2, .slice y.2.1.1.1 y.2.1.2.length y.2.1.1.2], .files y.2.1.1.1 y.2.1.1.2 y.2.1.2, .own (.slice y.2.2.1 y.1 y.2.2.2) 40 2 y.1 ((runS (l.take y.1)).2.flatMap ansV), .blk b1 26 2 [.int .i64 0, .slice none 0 0]]) (fun y => y.1 ≤ l.length ∧ pls y.2.1.2 = (runS (l.take y.1)).1.1) (fun y => l.length - y.1) (0, ((none, 0), []), (none, 0)) ⟨Nat.zero_le _, rfl⟩ aSx (fun w h => ((HS.files_none h).own_nil 40 2).ent aEt) (fun ⟨k, x, o⟩ hk => ?_)
      dsimp only at hk ⊢
      obtain ⟨hk1, hk2⟩ := hk
      refine s_seq ?_
      refine s_region ?_
      refine o_p (p_pure rfl) rfl ?_
      refine o_nil ?_
      refine s_seq ?_
      refine s_cond rfl (fun h5 => ?_) (fun h5 => ?_)
      · try simp only [decide_eq_true_eq, decide_eq_false_iff_not, Bool.not_eq_true', Bool.not_eq_false', Bool.and_eq_true, Bool.or_eq_true, Bool.and_eq_false_iff, Bool.or_eq_false_iff, Bool.not_true, Bool.not_false] at h5
        have hkl : k < l.length := by omega
        have hok := runS_ok (l.take k)
        have hnx := hok.nx
        rw [← hk2] at hok
        have hvw := hok.vw
        have e : runS (l.take (k + 1)) = (((doT (runS (l.take k)).1.2 (pls x.2) (nth l k)).1, (doT (runS (l.take k)).1.2 (pls x.2) (nth l k)).2.1), (runS (l.take k)).2 ++ [((doT (runS (l.take k)).1.2 (pls x.2) (nth l k)).2.2.2, (doT (runS (l.take k)).1.2 (pls x.2) (nth l k)).2.2.1)]) := by rw [runS_succ hkl, stepT, ← hk2]
        have e3 : (runS (l.take (k + 1))).2.flatMap ansV = (runS (l.take k)).2.flatMap ansV ++ [.int .i64 (doT (runS (l.take k)).1.2 (pls x.2) (nth l k)).2.2.2, .int .i64 (doT (runS (l.take k)).1.2 (pls x.2) (nth l k)).2.2.1] := by rw [e, flat_append]; rfl
        refine s_skip ?_
        refine s_seq ?_
        refine s_block ?_
        refine s_seq ?_
        refine s_region ?_
        refine o_p (p_indexAddr rfl rfl rfl sl_22 (k) (by omega) (by omega) (Rw.some hs (by omega))) rfl ?_
        refine o_q (q_load_oldn _ rfl rfl sz_44 rfl (Rw.rd hs hkl)) rfl ?_
        refine o_h (h_alloc rfl zr_44) rfl (fun b6 _ => ?_)
        refine o_h0 (h_store rfl rfl rfl sz_44 rfl aPt (by simp only [setMany_length, List.length_set, List.length_cons, List.length_nil, List.length_map]; omega) rfl) (fun _ _ => ?_)
        refine o_nil ?_
        refine s_region ?_
        refine o_p (p_pure rfl) rfl ?_
        refine o_p (p_pure rfl) rfl ?_
        refine o_q (q_loadn rfl rfl sz_44 aPk rfl) rfl ?_
        refine o_h (h_callF (Cs := [.blk b4 106 2 [.int .i64 (runS (l.take k)).1.2, .slice x.1.1 x.2.length x.1.2], .files x.1.1 x.1.2 x.2]) rfl fn_50 rfl aPs (fun w1 h1 hf => c50 w1 b4 _ x.1.1 x.1.2 x.2 (nth l k) hf hvw (by omega))) rfl (fun gz hgz => ?_)
        refine o_h (h_buildSlice (cs := [_, _]) rfl rfl sl_27 zr_40 rfl rfl rfl) rfl (fun b7 _ => ?_)
        refine o_h (h_appendS (n := k) (ansV ((doT (runS (l.take k)).1.2 (pls x.2) (nth l k)).2.2.2, (doT (runS (l.take k)).1.2 (pls x.2) (nth l k)).2.2.1)) rfl rfl rfl sl_27 Try.underlying27 zr_40 rfl aPk (src_blk aPk) rfl (by intro u hu; simp only [ansV, List.mem_cons, List.mem_nil_iff, or_false] at hu; rcases hu with rfl | rfl <;> rfl) (by omega) (by simp only [maxLen]; omega)) rfl (fun b8 _ => ?_)
        refine o_p (p_pure rfl) rfl ?_
        refine o_nil ?_
        refine s_blk ?_
        refine s_region ?_
        refine o_p (p_pure rfl) rfl ?_
        try (refine o_slot (i64w (by omega) (by omega)) ?_)
        refine o_p (p_pure rfl) rfl ?_
        refine o_nil ?_
        exact s_backI (k + 1, gz, b8) (by show l.length - (k + 1) < l.length - k; omega) ⟨by show k + 1 ≤ l.length; omega, by show pls gz.2 = (runS (l.take (k + 1))).1.1; rw [hgz, e]⟩ aSx (fun w h => by dsimp only; rw [e3]; rw [e]; exact h.ent aEt)
      · try simp only [decide_eq_true_eq, decide_eq_false_iff_not, Bool.not_eq_true', Bool.not_eq_false', Bool.and_eq_true, Bool.or_eq_true, Bool.and_eq_false_iff, Bool.or_eq_false_iff, Bool.not_true, Bool.not_false] at h5
        obtain rfl : k = l.length := by omega
        rw [List.take_length]
        rw [List.take_length] at hk2
        refine s_exit_to rfl ?_
        refine s_seq ?_
        refine s_region ?_
        refine o_p (p_pure rfl) rfl ?_
        refine o_p (p_pure rfl) rfl ?_
        refine o_p (p_fieldAddr rfl rfl fd_106_0 sz_26 rfl) rfl ?_
        refine o_q (q_loadn rfl rfl sz_26 aPk rfl) rfl ?_
        refine o_p (p_pure rfl) rfl ?_
        refine o_h0 (h_store rfl rfl rfl sz_26 rfl aPt (by simp only [setMany_length, List.length_set, List.length_cons, List.length_nil, List.length_map]; omega) rfl) (fun _ _ => ?_)
        refine o_p (p_pure rfl) rfl ?_
        refine o_p (p_pure rfl) rfl ?_
        refine o_nil ?_
        exact s_retv (rs := [.cell 2 26, .tmp 3, .tmp 4]) rfl (.cell rfl sz_26 aPk rfl (.tmp rfl (.tmp rfl (.nil)))) (fun w' h' => ⟨(x, o), by rw [runR_0 hrz, hrz, runS_len]; rfl, by rw [runR_0 hrz]; exact hk2, by rw [runR_0 hrz, runS_len]; exact h'.ent aEt⟩)

end Go.Proofs

namespace Go.Proofs
open Go Go.RowKit Gx
set_option linter.unusedVariables false
set_option linter.unusedSimpArgs false
attribute [local irreducible] Go.Calls Gx.S Gx.O Gx.D Gx.OpP Gx.OpQ Gx.OpH

theorem eqk_40 : teqk Try.prog 40 = some [0, 0] := by kernel_rfl
theorem pl_42 : tplaces Try.prog 42 = some [(0, 1), (1, 1)] := by kernel_rfl
theorem zr_42 : tzero Try.prog 42 = some [.int .i64 0, .int .i64 0] := by kernel_rfl
theorem pl_44 : tplaces Try.prog 44 = some [(0, 1), (1, 1), (2, 1), (3, 1), (4, 1), (5, 1), (6, 2), (8, 1)] := by kernel_rfl
theorem fn_12 : isFn Try.prog 12 = true := by kernel_rfl
theorem pl_40 : tplaces Try.prog 40 = some [(0, 1), (1, 1)] := by kernel_rfl
theorem fn_15 : isFn Try.prog 15 = true := by kernel_rfl


def awkL : List HAct := [⟨0, 0, 1, 1, 0, 0, 20, 1, false⟩, ⟨0, 0, 2, 7, 0, 0, 20, 1, false⟩, ⟨1, 1, 0, 0, 0, 0, 0, 0, false⟩, ⟨0, 0, 3, 7, 0, 0, 20, 1, false⟩, ⟨3, 2, 0, 0, 0, 10, 0, 0, false⟩, ⟨6, 2, 0, 0, 5, 1, 0, 0, false⟩]
def awkA : List (Int × Int) := [(0, 1), (28, 0), (0, 0), (0, 2), (0, 0), (29, 0)]
theorem awk_E : runE awkL = 0 := by decide +kernel
theorem awk_A : (runR awkL).2 = awkA := by decide +kernel
theorem awk_N : (runR awkL).1.2 = 3 := by decide +kernel
theorem awk_L : (runR awkL).1.1.length = 1 := by decide +kernel
theorem y12 (w : World) (a : Option Addr) (cap : Nat) (hs : Rw HAct.vals 9 w [] a awkL) : Calls Try.prog 12 #[.slice a 6 cap] w fun en w' => ∃ g : (Option Addr × Nat) × (Option Addr × Nat), en = .returned (.tuple #[.agg #[.int .i64 3, .slice g.1.1 1 g.1.2], .slice g.2.1 6 g.2.2, .int .i64 0]) ∧ True ∧ HS w [] [.own (.slice g.2.1 6 g.2.2) 40 2 6 (awkA.flatMap ansV)] w' := by
  refine Calls.mono (c12 w a cap awkL hs (by decide)) fun en w' hh => ?_
  obtain ⟨g, rfl, hp, h⟩ := hh
  have hl : g.1.2.length = 1 := by
    have h9 := congrArg List.length hp
    rw [awk_L] at h9
    simpa using h9
  rw [awk_E, awk_N, awk_A, hl]
  rw [awk_A] at h
  exact ⟨(g.1.1, g.2), rfl, trivial, h.ent aEt⟩

set_option maxRecDepth 20000 in
theorem c15 (w : World) (a b : Option Addr) (ca cb : Nat) (l : List (Int × Int)) (ha : Rw ansV 2 w [] a l) (hb : Rw ansV 2 w [] b l) (hm : l.length ≤ 1000000) : Calls Try.prog 15 #[.slice a l.length ca, .slice b l.length cb] w fun en w' => en = .returned (.bool true) ∧ Below w.heap.size w w' := by
  refine enter (args := [_, _]) Try.func15 Try.ntmps15 rfl rfl (HS.refl w []) ?_
  refine s_seq ?_
  refine s_region ?_
  refine o_p (p_pure rfl) rfl ?_
  refine o_nil ?_
  refine s_seq ?_
  refine s_seq ?_
  refine s_region ?_
  refine o_p (p_pure rfl) rfl ?_
  refine o_p (p_len_slice rfl rfl Try.underlying27) rfl ?_
  refine o_p (p_pure rfl) rfl ?_
  refine o_p (p_len_slice rfl rfl Try.underlying27) rfl ?_
  refine o_p (p_pure rfl) rfl ?_
  refine o_nil ?_
  refine s_cond rfl (fun h1 => ?_) (fun h1 => ?_)
  · try simp only [decide_eq_true_eq, decide_eq_false_iff_not, Bool.not_eq_true', Bool.not_eq_false', Bool.and_eq_true, Bool.or_eq_true, Bool.and_eq_false_iff, Bool.or_eq_false_iff, Bool.not_true, Bool.not_false] at h1
    exfalso; first | omega | (simp at h1; done) | (simp_all; done)
  · try simp only [decide_eq_true_eq, decide_eq_false_iff_not, Bool.not_eq_true', Bool.not_eq_false', Bool.and_eq_true, Bool.or_eq_true, Bool.and_eq_false_iff, Bool.or_eq_false_iff, Bool.not_true, Bool.not_false] at h1
    refine s_skip ?_
    refine s_seq ?_
    refine s_seq ?_
    refine s_region ?_
    refine o_p (p_pure rfl) rfl ?_
    refine o_nil ?_
    refine s_block ?_
    refine s_loopI (α := Nat) [4, 5, 11, 12, 13, 14, 15, 16, 17, 18, 19, 20, 21, 22, 23, 24, 25] (fun k => [(5, .int .i64 (k : Int))]) (fun _ => HS w [] []) (fun k => k ≤ l.length) (fun k => l.length - k) 0 (Nat.zero_le _) aSx (fun w h => h.ent aEt) (fun k hk => ?_)
    refine s_seq ?_
    refine s_seq ?_
    refine s_region ?_
    refine o_p (p_pure rfl) rfl ?_
    refine o_p (p_pure rfl) rfl ?_
    refine o_p (p_len_slice rfl rfl Try.underlying27) rfl ?_
    refine o_p (p_pure rfl) rfl ?_
    refine o_nil ?_
    refine s_cond rfl (fun h2 => ?_) (fun h2 => ?_)
    · try simp only [decide_eq_true_eq, decide_eq_false_iff_not, Bool.not_eq_true', Bool.not_eq_false', Bool.and_eq_true, Bool.or_eq_true, Bool.and_eq_false_iff, Bool.or_eq_false_iff, Bool.not_true, Bool.not_false] at h2
      have hkl : k < l.length := by omega
      refine s_skip ?_
      refine s_seq ?_
      refine s_block ?_
      refine s_seq ?_
      refine s_draw [] mixed ?_
      refine d_p 0 rfl (p_pure rfl) (by kernel_rfl) rfl rfl ?_
      refine d_p 1 rfl (p_pure rfl) (by kernel_rfl) rfl rfl ?_
      refine d_p 2 rfl (p_indexAddr rfl rfl rfl sl_27 (k) (by omega) (by omega) (Rw.some ha (by omega))) (by kernel_rfl) rfl rfl ?_
      refine d_q 3 [] rfl (q_load_oldn _ rfl rfl sz_40 rfl (Rw.rd ha hkl)) (by kernel_rfl) (by kernel_rfl) (by kernel_rfl) rfl ?_
      refine d_p 4 rfl (p_pure rfl) (by kernel_rfl) rfl rfl ?_
      refine d_p 5 rfl (p_pure rfl) (by kernel_rfl) rfl rfl ?_
      refine d_p 6 rfl (p_indexAddr rfl rfl rfl sl_27 (k) (by omega) (by omega) (Rw.some hb (by omega))) (by kernel_rfl) rfl rfl ?_
      refine d_q 7 [] rfl (q_load_oldn _ rfl rfl sz_40 rfl (Rw.rd hb hkl)) (by kernel_rfl) (by kernel_rfl) (by kernel_rfl) rfl ?_
      refine d_p 8 rfl (p_neq_agg rfl rfl rfl eqk_40 (by rfl) (by rfl) (by rfl)) (by kernel_rfl) rfl rfl ?_
      refine d_nil (by kernel_rfl) (fun w h => h.ent aEt) ?_
      refine s_cond rfl (fun h3 => ?_) (fun h3 => ?_)
      · try simp only [decide_eq_true_eq, decide_eq_false_iff_not, Bool.not_eq_true', Bool.not_eq_false', Bool.and_eq_true, Bool.or_eq_true, Bool.and_eq_false_iff, Bool.or_eq_false_iff, Bool.not_true, Bool.not_false] at h3
        exfalso; first | omega | (simp at h3; done) | (simp_all; done)
      · try simp only [decide_eq_true_eq, decide_eq_false_iff_not, Bool.not_eq_true', Bool.not_eq_false', Bool.and_eq_true, Bool.or_eq_true, Bool.and_eq_false_iff, Bool.or_eq_false_iff, Bool.not_true, Bool.not_false] at h3
        refine s_skip ?_
        refine s_blk ?_
        refine s_region ?_
        refine o_p (p_pure rfl) rfl ?_
        refine o_p (p_pure rfl) rfl ?_
        try (refine o_slot (i64w (by omega) (by omega)) ?_)
        refine o_p (p_pure rfl) rfl ?_
        refine o_nil ?_
        exact s_backI (k + 1) (by omega) (by omega) aSx (fun w h => h.ent aEt)
    · try simp only [decide_eq_true_eq, decide_eq_false_iff_not, Bool.not_eq_true', Bool.not_eq_false', Bool.and_eq_true, Bool.or_eq_true, Bool.and_eq_false_iff, Bool.or_eq_false_iff, Bool.not_true, Bool.not_false] at h2
      refine s_exit_to rfl ?_
      refine s_seq ?_
      refine s_region ?_
      refine o_p (p_pure rfl) rfl ?_
      refine o_nil ?_
      exact s_retv (rs := [.tmp 4]) rfl (.tmp rfl (.nil)) (fun w' h' => ⟨rfl, h'.below⟩)

set_option maxRecDepth 20000 in
theorem c11 (w : World)  : Calls Try.prog 11 #[] w fun en w' => en = .returned (.bool true) ∧ Below w.heap.size w w' := by
  refine enter (args := []) Try.func11 Try.ntmps11 rfl rfl (HS.refl w []) ?_
  refine s_seq ?_
  refine s_region ?_
  refine o_p (p_pure rfl) rfl ?_
  refine o_nil ?_
  refine s_seq ?_
  refine s_region ?_
  refine o_p (p_build (cs := [_, _]) rfl rfl pl_42 zr_42 rfl) rfl ?_
  refine o_h (h_alloc rfl zr_42) rfl (fun b1 _ => ?_)
  refine o_h0 (h_store rfl rfl rfl sz_42 rfl aPt (by simp only [setMany_length, List.length_set, List.length_cons, List.length_nil, List.length_map]; omega) rfl) (fun _ _ => ?_)
  refine o_nil ?_
  refine s_seq ?_
  refine s_region ?_
  refine o_q (q_loadn rfl rfl sz_42 aPk rfl) rfl ?_
  refine o_p (p_build (cs := [_, _, _, _, _, _, _, _, _]) rfl rfl pl_44 zr_44 rfl) rfl ?_
  refine o_q (q_loadn rfl rfl sz_42 aPk rfl) rfl ?_
  refine o_p (p_build (cs := [_, _, _, _, _, _, _, _, _]) rfl rfl pl_44 zr_44 rfl) rfl ?_
  refine o_p (p_build (cs := [_, _, _, _, _, _, _, _, _]) rfl rfl pl_44 zr_44 rfl) rfl ?_
  refine o_q (q_loadn rfl rfl sz_42 aPk rfl) rfl ?_
  refine o_p (p_build (cs := [_, _, _, _, _, _, _, _, _]) rfl rfl pl_44 zr_44 rfl) rfl ?_
  refine o_p (p_build (cs := [_, _, _, _, _, _, _, _, _]) rfl rfl pl_44 zr_44 rfl) rfl ?_
  refine o_p (p_build (cs := [_, _, _, _, _, _, _, _, _]) rfl rfl pl_44 zr_44 rfl) rfl ?_
  refine o_h (h_buildSlice (cs := [_, _, _, _, _, _, _, _, _, _, _, _, _, _, _, _, _, _, _, _, _, _, _, _, _, _, _, _, _, _, _, _, _, _, _, _, _, _, _, _, _, _, _, _, _, _, _, _, _, _, _, _, _, _]) rfl rfl sl_22 zr_44 rfl rfl rfl) rfl (fun b2 _ => ?_)
  refine o_h (h_call rfl fn_12 rfl (fun w1 h1 => y12 w1 _ 6 (h1.rw_blk (l := awkL) hv9 aPk))) rfl (fun b3 _ => ?_)
  refine o_p (p_pure rfl) rfl ?_
  refine o_p (p_pure rfl) rfl ?_
  refine o_p (p_pure rfl) rfl ?_
  refine o_p (p_pure rfl) rfl ?_
  refine o_h (h_alloc rfl zr_26) rfl (fun b4 _ => ?_)
  refine o_h0 (h_store rfl rfl rfl sz_26 rfl aPt (by simp only [setMany_length, List.length_set, List.length_cons, List.length_nil, List.length_map]; omega) rfl) (fun _ _ => ?_)
  refine o_p (p_pure rfl) rfl ?_
  refine o_p (p_pure rfl) rfl ?_
  refine o_nil ?_
  refine s_seq ?_
  refine s_region ?_
  refine o_p (p_pure rfl) rfl ?_
  refine o_p (p_pure rfl) rfl ?_
  refine o_p (p_pure rfl) rfl ?_
  refine o_and 10 23 33 _ _ rfl
    (by
      intro hg5
      have hs6 := hg5; try simp only [decide_eq_true_eq, decide_eq_false_iff_not, Bool.not_eq_true', Bool.not_eq_false', Bool.and_eq_true, Bool.or_eq_true, Bool.and_eq_false_iff, Bool.or_eq_false_iff, Bool.not_true, Bool.not_false] at hs6
      refine o_on 23 _ rfl rfl hg5 ?_
      refine o_p (p_pure rfl) rfl ?_
      refine o_on 23 _ rfl rfl hg5 ?_
      refine o_p (p_build (cs := [_, _]) rfl rfl pl_40 zr_40 rfl) rfl ?_
      refine o_on 23 _ rfl rfl hg5 ?_
      refine o_p (p_build (cs := [_, _]) rfl rfl pl_40 zr_40 rfl) rfl ?_
      refine o_on 23 _ rfl rfl hg5 ?_
      refine o_p (p_build (cs := [_, _]) rfl rfl pl_40 zr_40 rfl) rfl ?_
      refine o_on 23 _ rfl rfl hg5 ?_
      refine o_p (p_build (cs := [_, _]) rfl rfl pl_40 zr_40 rfl) rfl ?_
      refine o_on 23 _ rfl rfl hg5 ?_
      refine o_p (p_build (cs := [_, _]) rfl rfl pl_40 zr_40 rfl) rfl ?_
      refine o_on 23 _ rfl rfl hg5 ?_
      refine o_p (p_build (cs := [_, _]) rfl rfl pl_40 zr_40 rfl) rfl ?_
      refine o_on 23 _ rfl rfl hg5 ?_
      refine o_h (h_buildSlice (cs := [_, _, _, _, _, _, _, _, _, _, _, _]) rfl rfl sl_27 zr_40 rfl rfl rfl) rfl (fun b7 _ => ?_)
      refine o_on 23 _ rfl rfl hg5 ?_
      refine o_q (q_call rfl fn_15 rfl (fun w1 h1 => c15 w1 _ _ _ _ awkA (h1.rw_own (vals := ansV) (fun _ => rfl) aPk rfl) (h1.rw_blk (vals := ansV) (fun _ => rfl) aPk) (by decide))) rfl ?_
      refine o_p (p_pickt rfl rfl hg5 rfl) rfl ?_
      refine o_nil ?_
      exact s_joinN 10 33 _ rfl rfl rfl (fun w h => by first | exact h | exact h.ent aEt))
    (by
      intro hg8
      have hs9 := hg8; try simp only [decide_eq_true_eq, decide_eq_false_iff_not, Bool.not_eq_true', Bool.not_eq_false', Bool.and_eq_true, Bool.or_eq_true, Bool.and_eq_false_iff, Bool.or_eq_false_iff, Bool.not_true, Bool.not_false] at hs9
      refine o_off 23 _ rfl rfl hg8 rfl ?_
      refine o_off 23 _ rfl rfl hg8 rfl ?_
      refine o_off 23 _ rfl rfl hg8 rfl ?_
      refine o_off 23 _ rfl rfl hg8 rfl ?_
      refine o_off 23 _ rfl rfl hg8 rfl ?_
      refine o_off 23 _ rfl rfl hg8 rfl ?_
      refine o_off 23 _ rfl rfl hg8 rfl ?_
      refine o_off 23 _ rfl rfl hg8 rfl ?_
      refine o_off 23 _ rfl rfl hg8 rfl ?_
      refine o_p (p_pickf rfl rfl hg8 rfl) rfl ?_
      refine o_nil ?_
      exact s_joinN 10 33 _ rfl rfl rfl (fun w h => by first | exact h | exact h.ent aEt)) ?_
  refine o_p (p_pure rfl) rfl ?_
  refine o_and 4 34 38 _ _ rfl
    (by
      intro hg10
      have hs11 := hg10; try simp only [decide_eq_true_eq, decide_eq_false_iff_not, Bool.not_eq_true', Bool.not_eq_false', Bool.and_eq_true, Bool.or_eq_true, Bool.and_eq_false_iff, Bool.or_eq_false_iff, Bool.not_true, Bool.not_false] at hs11
      refine o_on 34 _ rfl rfl hg10 ?_
      refine o_p (p_fieldAddr rfl rfl fd_26_0 sz_3 rfl) rfl ?_
      refine o_on 34 _ rfl rfl hg10 ?_
      refine o_q (q_load rfl rfl sz_3 aPk rfl) rfl ?_
      refine o_on 34 _ rfl rfl hg10 ?_
      refine o_p (p_pure rfl) rfl ?_
      refine o_p (p_pickt rfl rfl hg10 rfl) rfl ?_
      refine o_nil ?_
      exact s_joinN 4 38 _ rfl rfl rfl (fun w h => by first | exact h | exact h.ent aEt))
    (by
      intro hg12
      have hs13 := hg12; try simp only [decide_eq_true_eq, decide_eq_false_iff_not, Bool.not_eq_true', Bool.not_eq_false', Bool.and_eq_true, Bool.or_eq_true, Bool.and_eq_false_iff, Bool.or_eq_false_iff, Bool.not_true, Bool.not_false] at hs13
      refine o_off 34 _ rfl rfl hg12 rfl ?_
      refine o_off 34 _ rfl rfl hg12 rfl ?_
      refine o_off 34 _ rfl rfl hg12 rfl ?_
      refine o_p (p_pickf rfl rfl hg12 rfl) rfl ?_
      refine o_nil ?_
      exact s_joinN 4 38 _ rfl rfl rfl (fun w h => by first | exact h | exact h.ent aEt)) ?_
  refine o_p (p_pure rfl) rfl ?_
  refine o_and 5 39 44 _ _ rfl
    (by
      intro hg14
      have hs15 := hg14; try simp only [decide_eq_true_eq, decide_eq_false_iff_not, Bool.not_eq_true', Bool.not_eq_false', Bool.and_eq_true, Bool.or_eq_true, Bool.and_eq_false_iff, Bool.or_eq_false_iff, Bool.not_true, Bool.not_false] at hs15
      refine o_on 39 _ rfl rfl hg14 ?_
      refine o_p (p_fieldAddr rfl rfl fd_26_1 sz_24 rfl) rfl ?_
      refine o_on 39 _ rfl rfl hg14 ?_
      refine o_q (q_load rfl rfl sz_24 aPk rfl) rfl ?_
      refine o_on 39 _ rfl rfl hg14 ?_
      refine o_p (p_len_slice rfl rfl Try.underlying24) rfl ?_
      refine o_on 39 _ rfl rfl hg14 ?_
      refine o_p (p_pure rfl) rfl ?_
      refine o_p (p_pickt rfl rfl hg14 rfl) rfl ?_
      refine o_nil ?_
      exact s_joinN 5 44 _ rfl rfl rfl (fun w h => by first | exact h | exact h.ent aEt))
    (by
      intro hg16
      have hs17 := hg16; try simp only [decide_eq_true_eq, decide_eq_false_iff_not, Bool.not_eq_true', Bool.not_eq_false', Bool.and_eq_true, Bool.or_eq_true, Bool.and_eq_false_iff, Bool.or_eq_false_iff, Bool.not_true, Bool.not_false] at hs17
      refine o_off 39 _ rfl rfl hg16 rfl ?_
      refine o_off 39 _ rfl rfl hg16 rfl ?_
      refine o_off 39 _ rfl rfl hg16 rfl ?_
      refine o_off 39 _ rfl rfl hg16 rfl ?_
      refine o_p (p_pickf rfl rfl hg16 rfl) rfl ?_
      refine o_nil ?_
      exact s_joinN 5 44 _ rfl rfl rfl (fun w h => by first | exact h | exact h.ent aEt)) ?_
  refine o_p (p_pure rfl) rfl ?_
  refine o_nil ?_
  exact s_retv (rs := [.tmp 0]) rfl (.tmp rfl (.nil)) (fun w' h' => ⟨rfl, h'.below⟩)

end Go.Proofs

namespace Go.Proofs
open Go Go.RowKit Gx
set_option linter.unusedVariables false
set_option linter.unusedSimpArgs false
attribute [local irreducible] Go.Calls Gx.S Gx.O Gx.D Gx.OpP Gx.OpQ Gx.OpH

theorem fn_69 : isFn Try.prog 69 = true := by kernel_rfl
theorem eqk_42 : teqk Try.prog 42 = some [0, 0] := by kernel_rfl


def lksE (l : List Lock) : Int := if 16 < l.length then 8 else rngsE l
def rngEs (l : List Lock) : List Int := l.map fun k => rngE k.fr k.cnt
theorem rngEs_get {l : List Lock} {k : Nat} (h : k < l.length) : (rngEs l).getD k 0 = rngE (nth l k).fr (nth l k).cnt := map_getD_nth h
theorem rngEs_len (l : List Lock) : (rngEs l).length = l.length := by simp [rngEs]
theorem lockedE_drop {held lk : List Lock} {i : Nat} (hi : i < lk.length) : lockedE held (lk.drop i) = if held.any (clsh · (nth lk i)) = true then 29 else lockedE (held ++ [nth lk i]) (lk.drop (i + 1)) := by
  rw [drop_nth hi, lockedE]
/-- Of the handles up to k of a file: no lock clashes with q, of handle k itself the first i. -/
def noCl (ops : List LOpn) (k i n m : Nat) (q : Lock) : Prop := ∀ n2 m2, n2 < ops.length → m2 < (nth ops n2).lk.length → (n2 < n ∨ n2 = n ∧ m2 < m) → n2 ≤ k → (n2 < k ∨ m2 < i) → clsh q (nth (nth ops n2).lk m2) = false
theorem held_mem {ops : List LOpn} {k i : Nat} (hk : k < ops.length) {x : Lock} : x ∈ ((plo ops).take k).flatMap Opn.lk ++ (nth ops k).lk.take i ↔ ∃ n2 m2, n2 < ops.length ∧ m2 < (nth ops n2).lk.length ∧ n2 ≤ k ∧ (n2 < k ∨ m2 < i) ∧ nth (nth ops n2).lk m2 = x := by
  rw [List.mem_append, List.mem_flatMap]
  constructor
  · rintro (⟨o, ho, hx⟩ | hx)
    · obtain ⟨j, hj, hl, rfl⟩ := nth_mem_take ho
      have hl' : j < ops.length := by simpa using hl
      rw [nth_plo hl'] at hx
      obtain ⟨m, hm, e⟩ := List.getElem_of_mem hx
      exact ⟨j, m, hl', hm, by omega, .inl hj, nth_eq (by rw [← e]; exact List.getElem?_eq_getElem hm)⟩
    · obtain ⟨m, h1, h2, h3⟩ := nth_mem_take hx
      exact ⟨k, m, hk, h2, Nat.le_refl _, .inr h1, h3⟩
  · rintro ⟨n2, m2, h1, h2, h3, h4, rfl⟩
    by_cases h : n2 < k
    · refine .inl ⟨(nth ops n2).pl, ?_, mem_nth h2⟩
      have e : nth ((plo ops).take k) n2 = (nth ops n2).pl := by rw [nth_take h, nth_plo h1]
      rw [← e]
      exact mem_nth (by rw [List.length_take, List.length_map]; omega)
    · obtain rfl : n2 = k := by omega
      refine .inr ?_
      have hm : m2 < i := by omega
      have e : nth ((nth ops n2).lk.take i) m2 = nth (nth ops n2).lk m2 := nth_take hm
      rw [← e]
      exact mem_nth (by rw [List.length_take]; omega)
theorem noCl_all {ops : List LOpn} {k i n : Nat} {q : Lock} (hk : k < ops.length) (hn : k < n) (h : noCl ops k i n 0 q) : (((plo ops).take k).flatMap Opn.lk ++ (nth ops k).lk.take i).any (clsh · q) = false := by
  rw [List.any_eq_false]
  intro x hx
  obtain ⟨n2, m2, h1, h2, h3, h4, rfl⟩ := (held_mem hk).1 hx
  have := h n2 m2 h1 h2 (.inl (by omega)) h3 h4
  rw [clsh_comm]
  simpa using this
theorem noCl_hit {ops : List LOpn} {k i n m : Nat} {q : Lock} (hk : k < ops.length) (hn : n < ops.length) (hm : m < (nth ops n).lk.length) (hnk : n ≤ k) (hw : n < k ∨ m < i) (h : clsh q (nth (nth ops n).lk m) = true) : (((plo ops).take k).flatMap Opn.lk ++ (nth ops k).lk.take i).any (clsh · q) = true := by
  rw [List.any_eq_true]
  exact ⟨_, (held_mem hk).2 ⟨n, m, hn, hm, hnk, hw, rfl⟩, by rw [clsh_comm]; exact h⟩
def fdI (L : List Fil) (h : Int) : Int × Int := if (findF L h 0).2.2 = 0 then (((findF L h 0).1 : Int), ((findF L h 0).2.1 : Int)) else (-1, -1)
def atB (L : List Fil) (rc sq : Int) : List Bool := L.map fun f => decide (f.rc = rc) && decide (f.sq = sq)
theorem atB_get {L : List LFil} {rc sq : Int} {k : Nat} (h : k < L.length) : (atB (pls L) rc sq).getD k false = (decide ((nth L k).rc = rc) && decide ((nth L k).sq = sq)) := by
  have h2 : k < (pls L).length := by simpa using h
  have e : (atB (pls L) rc sq).getD k false = (decide ((nth (pls L) k).rc = rc) && decide ((nth (pls L) k).sq = sq)) := by
    unfold atB
    exact map_getD_nthB h2
  rw [e, nth_pls h]
  rfl
theorem atB_len {L : List LFil} {rc sq : Int} : (atB (pls L) rc sq).length = L.length := by simp [atB]
set_option maxRecDepth 20000 in
theorem c98 (w : World) (o : LOpn) (hk : Kt w [] o.la o.lk) : Calls Try.prog 98 #[.agg #[.int .i64 o.hd, .int .i64 o.ac, .int .i64 o.sh, .bool o.dl, .slice o.la o.lk.length o.lc]] w fun en w' => en = .returned (.int .i64 (lksE o.lk)) ∧ Below w.heap.size w w' := by
  have hel := rngEs_len o.lk
  refine enter (args := [_]) Try.func98 Try.ntmps98 rfl rfl (HS.refl w []) ?_
  refine s_seq ?_
  refine s_region ?_
  refine o_h (h_box rfl rfl) rfl (fun b1 _ => ?_)
  refine o_p (p_pure rfl) rfl ?_
  refine o_nil ?_
  refine s_seq ?_
  refine s_seq ?_
  refine s_region ?_
  refine o_p (p_fieldAddr rfl rfl fd_48_4 sz_46 rfl) rfl ?_
  refine o_q (q_load rfl rfl sz_46 aPk rfl) rfl ?_
  refine o_p (p_len_slice rfl rfl Try.underlying46) rfl ?_
  refine o_p (p_pure rfl) rfl ?_
  refine o_nil ?_
  refine s_cond rfl (fun h2 => ?_) (fun h2 => ?_)
  · try simp only [decide_eq_true_eq, decide_eq_false_iff_not, Bool.not_eq_true', Bool.not_eq_false', Bool.and_eq_true, Bool.or_eq_true, Bool.and_eq_false_iff, Bool.or_eq_false_iff, Bool.not_true, Bool.not_false] at h2
    refine s_seq ?_
    refine s_region ?_
    refine o_p (p_pure rfl) rfl ?_
    refine o_nil ?_
    exact s_retv (rs := [.tmp 2]) rfl (.tmp rfl (.nil)) (fun w' h' => ⟨by rw [lksE, if_pos (by omega)]; rfl, h'.below⟩)
  · try simp only [decide_eq_true_eq, decide_eq_false_iff_not, Bool.not_eq_true', Bool.not_eq_false', Bool.and_eq_true, Bool.or_eq_true, Bool.and_eq_false_iff, Bool.or_eq_false_iff, Bool.not_true, Bool.not_false] at h2
    have hm : o.lk.length ≤ 16 := by omega
    refine s_skip ?_
    refine s_seq ?_
    refine s_seq ?_
    refine s_region ?_
    refine o_p (p_pure rfl) rfl ?_
    refine o_nil ?_
    refine s_block ?_
    refine s_loopI (α := Nat) [2, 3, 4, 9, 10, 11, 12, 13, 14, 15, 16, 17, 18, 19, 20, 21, 22, 23, 24, 25, 26, 27, 28, 29, 30, 31] (fun k => [(3, .int .i64 (k : Int))]) (fun _ => HS w [] [.blk b1 48 5 o.vals]) (fun k => k ≤ o.lk.length ∧ eachF (rngEs o.lk) 0 = eachF ((rngEs o.lk).drop k) k) (fun k => o.lk.length - k) 0 ⟨by omega, rfl⟩ aSx (fun w h => h.ent aEt) (fun k hy => ?_)
    obtain ⟨hk1, hk2⟩ := hy
    refine s_seq ?_
    refine s_seq ?_
    refine s_region ?_
    refine o_p (p_pure rfl) rfl ?_
    refine o_p (p_fieldAddr rfl rfl fd_48_4 sz_46 rfl) rfl ?_
    refine o_q (q_load rfl rfl sz_46 aPk rfl) rfl ?_
    refine o_p (p_len_slice rfl rfl Try.underlying46) rfl ?_
    refine o_p (p_pure rfl) rfl ?_
    refine o_nil ?_
    refine s_cond rfl (fun h3 => ?_) (fun h3 => ?_)
    · try simp only [decide_eq_true_eq, decide_eq_false_iff_not, Bool.not_eq_true', Bool.not_eq_false', Bool.and_eq_true, Bool.or_eq_true, Bool.and_eq_false_iff, Bool.or_eq_false_iff, Bool.not_true, Bool.not_false] at h3
      have hkl : k < o.lk.length := by omega
      refine s_skip ?_
      refine s_seq ?_
      refine s_block ?_
      refine s_seq ?_
      refine s_draw [] mixed ?_
      refine d_p 0 rfl (p_fieldAddr rfl rfl fd_48_4 sz_46 rfl) (by kernel_rfl) rfl rfl ?_
      refine d_q 1 [] rfl (q_load rfl rfl sz_46 aPk rfl) (by kernel_rfl) (by kernel_rfl) (by kernel_rfl) rfl ?_
      refine d_p 2 rfl (p_pure rfl) (by kernel_rfl) rfl rfl ?_
      refine d_p 3 rfl (p_indexAddr rfl rfl rfl sl_46 (k) (by omega) (by omega) (Rw.some hk (by omega))) (by kernel_rfl) rfl rfl ?_
      refine d_p 4 rfl (p_fieldAddr rfl rfl fd_62_0 sz_3 rfl) (by kernel_rfl) rfl rfl ?_
      refine d_q 5 [] rfl (q_load_old rfl rfl sz_3 ((Rw.rdj hk 0 hkl rfl))) (by kernel_rfl) (by kernel_rfl) (by kernel_rfl) rfl ?_
      refine d_p 6 rfl (p_fieldAddr rfl rfl fd_48_4 sz_46 rfl) (by kernel_rfl) rfl rfl ?_
      refine d_q 7 [] rfl (q_load rfl rfl sz_46 aPk rfl) (by kernel_rfl) (by kernel_rfl) (by kernel_rfl) rfl ?_
      refine d_p 8 rfl (p_pure rfl) (by kernel_rfl) rfl rfl ?_
      refine d_p 9 rfl (p_indexAddr rfl rfl rfl sl_46 (k) (by omega) (by omega) (Rw.some hk (by omega))) (by kernel_rfl) rfl rfl ?_
      refine d_p 10 rfl (p_fieldAddr rfl rfl fd_62_1 sz_3 rfl) (by kernel_rfl) rfl rfl ?_
      refine d_q 11 [] rfl (q_load_old rfl rfl sz_3 ((Rw.rdj hk 1 hkl rfl))) (by kernel_rfl) (by kernel_rfl) (by kernel_rfl) rfl ?_
      refine d_q 12 [] rfl (q_call rfl fn_69 rfl (fun w1 h1 => c69 w1 _ _)) (by kernel_rfl) (by kernel_rfl) (by kernel_rfl) rfl ?_
      refine d_p 13 rfl (p_pure rfl) (by kernel_rfl) rfl rfl ?_
      refine d_nil (by kernel_rfl) (fun w h => h.ent aEt) ?_
      refine s_seq ?_
      refine s_region ?_
      refine o_p (p_pure rfl) rfl ?_
      refine o_p (p_pure rfl) rfl ?_
      refine o_nil ?_
      refine s_cond rfl (fun h4 => ?_) (fun h4 => ?_)
      · try simp only [decide_eq_true_eq, decide_eq_false_iff_not, Bool.not_eq_true', Bool.not_eq_false', Bool.and_eq_true, Bool.or_eq_true, Bool.and_eq_false_iff, Bool.or_eq_false_iff, Bool.not_true, Bool.not_false] at h4
        refine s_seq ?_
        refine s_region ?_
        refine o_p (p_pure rfl) rfl ?_
        refine o_p (p_pure rfl) rfl ?_
        refine o_nil ?_
        exact s_retv (rs := [.tmp 2]) rfl (.tmp rfl (.nil)) (fun w' h' => ⟨by rw [lksE, if_neg (by omega)]; show _ = Ending.returned (.int .i64 (eachF (rngEs o.lk) 0).2); rw [hk2, eachF_drop (by omega), if_neg (by rw [rngEs_get hkl]; exact h4), rngEs_get hkl]; rfl, h'.below⟩)
      · try simp only [decide_eq_true_eq, decide_eq_false_iff_not, Bool.not_eq_true', Bool.not_eq_false', Bool.and_eq_true, Bool.or_eq_true, Bool.and_eq_false_iff, Bool.or_eq_false_iff, Bool.not_true, Bool.not_false] at h4
        refine s_skip ?_
        refine s_blk ?_
        refine s_region ?_
        refine o_p (p_pure rfl) rfl ?_
        refine o_p (p_pure rfl) rfl ?_
        try (refine o_slot (i64w (by omega) (by omega)) ?_)
        refine o_p (p_pure rfl) rfl ?_
        refine o_nil ?_
        exact s_backI (k + 1) (by omega) ⟨by omega, by rw [hk2, eachF_drop (by omega), if_pos (by rw [rngEs_get hkl]; exact h4)]⟩ aSx (fun w h => h.ent aEt)
    · try simp only [decide_eq_true_eq, decide_eq_false_iff_not, Bool.not_eq_true', Bool.not_eq_false', Bool.and_eq_true, Bool.or_eq_true, Bool.and_eq_false_iff, Bool.or_eq_false_iff, Bool.not_true, Bool.not_false] at h3
      refine s_exit_to rfl ?_
      refine s_seq ?_
      refine s_region ?_
      refine o_p (p_pure rfl) rfl ?_
      refine o_nil ?_
      exact s_retv (rs := [.tmp 2]) rfl (.tmp rfl (.nil)) (fun w' h' => ⟨by rw [lksE, if_neg (by omega)]; show _ = Ending.returned (.int .i64 (eachF (rngEs o.lk) 0).2); rw [hk2, eachF_end (by omega)]; rfl, h'.below⟩)

set_option maxRecDepth 20000 in
theorem c34 (w : World) (next : Int) (a : Option Addr) (cap : Nat) (L : List LFil) (hs : Ft w [] a L) (hm : L.length ≤ 1000) (hmo : ∀ f ∈ L, f.op.length ≤ 1000) : Calls Try.prog 34 #[.agg #[.int .i64 next, .slice a L.length cap]] w fun en w' => en = .returned (.int .i64 (cntT (pls L) : Int)) ∧ Below w.heap.size w w' := by
  have hcl := cntT_le hmo L.length (Nat.le_refl _)
  refine enter (args := [_]) Try.func34 Try.ntmps34 rfl rfl (HS.refl w []) ?_
  refine s_seq ?_
  refine s_region ?_
  refine o_h (h_box rfl rfl) rfl (fun b1 _ => ?_)
  refine o_p (p_pure rfl) rfl ?_
  refine o_nil ?_
  refine s_seq ?_
  refine s_region ?_
  refine o_p (p_pure rfl) rfl ?_
  refine o_nil ?_
  refine s_seq ?_
  refine s_seq ?_
  refine s_region ?_
  refine o_p (p_pure rfl) rfl ?_
  refine o_nil ?_
  refine s_block ?_
  refine s_loopI (α := Nat) [3, 4, 5, 6, 7, 8, 9, 10, 11, 12, 13, 14, 15, 16, 17, 18, 19, 20] (fun k => [(4, .int .i64 (k : Int)), (3, .int .i64 (cntT (pls (L.take k)) : Int))]) (fun _ => HS w [] [.blk b1 26 2 [.int .i64 next, .slice a L.length cap]]) (fun k => k ≤ L.length) (fun k => L.length - k) 0 (by simp) (sl_c rfl (sl_c (congrArg (fun e => some (Value.int .i64 e)) (by simp [cntT, pls])) aSx)) (fun w h => h.ent aEt) (fun k hk => ?_)
  have hck := cntT_le hmo k hk
  refine s_seq ?_
  refine s_seq ?_
  refine s_region ?_
  refine o_p (p_pure rfl) rfl ?_
  refine o_p (p_fieldAddr rfl rfl fd_26_1 sz_24 rfl) rfl ?_
  refine o_q (q_load rfl rfl sz_24 aPk rfl) rfl ?_
  refine o_p (p_len_slice rfl rfl Try.underlying24) rfl ?_
  refine o_p (p_pure rfl) rfl ?_
  refine o_nil ?_
  refine s_cond rfl (fun h2 => ?_) (fun h2 => ?_)
  · try simp only [decide_eq_true_eq, decide_eq_false_iff_not, Bool.not_eq_true', Bool.not_eq_false', Bool.and_eq_true, Bool.or_eq_true, Bool.and_eq_false_iff, Bool.or_eq_false_iff, Bool.not_true, Bool.not_false] at h2
    have hkl : k < L.length := by omega
    have hmk := hmo _ (mem_nth hkl)
    refine s_skip ?_
    refine s_seq ?_
    refine s_block ?_
    refine s_region ?_
    refine o_p (p_pure rfl) rfl ?_
    refine o_p (p_fieldAddr rfl rfl fd_26_1 sz_24 rfl) rfl ?_
    refine o_q (q_load rfl rfl sz_24 aPk rfl) rfl ?_
    refine o_p (p_pure rfl) rfl ?_
    refine o_p (p_indexAddr rfl rfl rfl sl_24 (k) (by omega) (by omega) (Rw.some hs.1 (by omega))) rfl ?_
    refine o_p (p_fieldAddr rfl rfl fd_77_2 sz_75 rfl) rfl ?_
    refine o_q (q_load_old rfl rfl sz_75 ((hs.1.rdj 3 hkl rfl))) rfl ?_
    refine o_p (p_len_slice rfl rfl Try.underlying75) rfl ?_
    refine o_p (p_pure rfl) rfl ?_
    try (refine o_slot (i64w (by omega) (by omega)) ?_)
    refine o_p (p_pure rfl) rfl ?_
    refine o_nil ?_
    refine s_blk ?_
    refine s_region ?_
    refine o_p (p_pure rfl) rfl ?_
    refine o_p (p_pure rfl) rfl ?_
    try (refine o_slot (i64w (by omega) (by omega)) ?_)
    refine o_p (p_pure rfl) rfl ?_
    refine o_nil ?_
    exact s_backI (k + 1) (by omega) (by omega) (sl_c rfl (sl_c (congrArg (fun e => some (Value.int .i64 e)) (by rw [cntT_succ (by omega)]; omega)) aSx)) (fun w h => h.ent aEt)
  · try simp only [decide_eq_true_eq, decide_eq_false_iff_not, Bool.not_eq_true', Bool.not_eq_false', Bool.and_eq_true, Bool.or_eq_true, Bool.and_eq_false_iff, Bool.or_eq_false_iff, Bool.not_true, Bool.not_false] at h2
    obtain rfl : k = L.length := by omega
    rw [List.take_length] at *
    refine s_exit_to rfl ?_
    refine s_seq ?_
    refine s_region ?_
    refine o_p (p_pure rfl) rfl ?_
    refine o_p (p_pure rfl) rfl ?_
    refine o_nil ?_
    exact s_retv (rs := [.tmp 2]) rfl (.tmp rfl (.nil)) (fun w' h' => ⟨rfl, h'.below⟩)

set_option maxRecDepth 20000 in
theorem c33 (w : World) (next : Int) (a : Option Addr) (cap : Nat) (L : List LFil) (rc sq : Int) (hs : Ft w [] a L) (hm : L.length ≤ 1000) (hmo : ∀ f ∈ L, f.op.length ≤ 1000) : Calls Try.prog 33 #[.agg #[.int .i64 next, .slice a L.length cap], .agg #[.int .i64 rc, .int .i64 sq]] w fun en w' => en = .returned (.int .i64 (ixI (atB (pls L) rc sq))) ∧ Below w.heap.size w w' := by
  have hal := atB_len (L := L) (rc := rc) (sq := sq)
  refine enter (args := [_, _]) Try.func33 Try.ntmps33 rfl rfl (HS.refl w []) ?_
  refine s_seq ?_
  refine s_region ?_
  refine o_h (h_box rfl rfl) rfl (fun b1 _ => ?_)
  refine o_h (h_box rfl rfl) rfl (fun b2 _ => ?_)
  refine o_p (p_pure rfl) rfl ?_
  refine o_nil ?_
  refine s_seq ?_
  refine s_seq ?_
  refine s_region ?_
  refine o_p (p_pure rfl) rfl ?_
  refine o_nil ?_
  refine s_block ?_
  refine s_loopI (α := Nat) [4, 5, 6, 7, 8, 9, 10, 11, 12, 13, 14, 15, 16, 17, 18, 19, 20, 21] (fun k => [(5, .int .i64 (k : Int))]) (fun _ => HS w [] [.blk b1 26 2 [.int .i64 next, .slice a L.length cap], .blk b2 42 2 [.int .i64 rc, .int .i64 sq]]) (fun k => k ≤ L.length ∧ ∀ i, i < k → (atB (pls L) rc sq).getD i false = false) (fun k => L.length - k) 0 ⟨by omega, fun i h => absurd h (Nat.not_lt_zero i)⟩ aSx (fun w h => h.ent aEt) (fun k hk => ?_)
  obtain ⟨hk1, hk2⟩ := hk
  refine s_seq ?_
  refine s_seq ?_
  refine s_region ?_
  refine o_p (p_pure rfl) rfl ?_
  refine o_p (p_fieldAddr rfl rfl fd_26_1 sz_24 rfl) rfl ?_
  refine o_q (q_load rfl rfl sz_24 aPk rfl) rfl ?_
  refine o_p (p_len_slice rfl rfl Try.underlying24) rfl ?_
  refine o_p (p_pure rfl) rfl ?_
  refine o_nil ?_
  refine s_cond rfl (fun h3 => ?_) (fun h3 => ?_)
  · try simp only [decide_eq_true_eq, decide_eq_false_iff_not, Bool.not_eq_true', Bool.not_eq_false', Bool.and_eq_true, Bool.or_eq_true, Bool.and_eq_false_iff, Bool.or_eq_false_iff, Bool.not_true, Bool.not_false] at h3
    have hkl : k < L.length := by omega
    refine s_skip ?_
    refine s_seq ?_
    refine s_block ?_
    refine s_seq ?_
    refine s_draw [] mixed ?_
    refine d_p 0 rfl (p_fieldAddr rfl rfl fd_26_1 sz_24 rfl) (by kernel_rfl) rfl rfl ?_
    refine d_q 1 [] rfl (q_load rfl rfl sz_24 aPk rfl) (by kernel_rfl) (by kernel_rfl) (by kernel_rfl) rfl ?_
    refine d_p 2 rfl (p_pure rfl) (by kernel_rfl) rfl rfl ?_
    refine d_p 3 rfl (p_indexAddr rfl rfl rfl sl_24 (k) (by omega) (by omega) (Rw.some hs.1 (by omega))) (by kernel_rfl) rfl rfl ?_
    refine d_p 4 rfl (p_fieldAddr rfl rfl fd_77_0 sz_42 rfl) (by kernel_rfl) rfl rfl ?_
    refine d_q 5 [] rfl (q_load_oldn [.int .i64 (nth L k).rc, .int .i64 (nth L k).sq] rfl rfl sz_42 rfl (fun j v hv => Rw.rd hs.1 (i := k) hkl j v (by rcases j with _ | _ | j <;> first | exact hv | (simp at hv)))) (by kernel_rfl) (by kernel_rfl) (by kernel_rfl) rfl ?_
    refine d_q 6 [] rfl (q_loadn rfl rfl sz_42 aPk rfl) (by kernel_rfl) (by kernel_rfl) (by kernel_rfl) rfl ?_
    refine d_p 7 rfl (p_eql_agg rfl rfl rfl eqk_42 (by rfl) (by rfl) (by rfl)) (by kernel_rfl) rfl rfl ?_
    refine d_nil (by kernel_rfl) (fun w h => h.ent aEt) ?_
    refine s_cond rfl (fun h4 => ?_) (fun h4 => ?_)
    · try simp only [decide_eq_true_eq, decide_eq_false_iff_not, Bool.not_eq_true', Bool.not_eq_false', Bool.and_eq_true, Bool.or_eq_true, Bool.and_eq_false_iff, Bool.or_eq_false_iff, Bool.not_true, Bool.not_false] at h4
      have hhit : (decide ((nth L k).rc = rc) && decide ((nth L k).sq = sq)) = true := by have hq := h4; simpa using hq
      refine s_seq ?_
      refine s_region ?_
      refine o_p (p_pure rfl) rfl ?_
      refine o_p (p_pure rfl) rfl ?_
      refine o_nil ?_
      exact s_retv (rs := [.tmp 4]) rfl (.tmp rfl (.nil)) (fun w' h' => ⟨by have e := ixB_eq (l := atB (pls L) rc sq) (k := k) (by omega) hk2 (fun _ => by rw [atB_get hkl]; exact hhit); simp only [retV, ixI, e]; rw [if_pos (by omega)], h'.below⟩)
    · try simp only [decide_eq_true_eq, decide_eq_false_iff_not, Bool.not_eq_true', Bool.not_eq_false', Bool.and_eq_true, Bool.or_eq_true, Bool.and_eq_false_iff, Bool.or_eq_false_iff, Bool.not_true, Bool.not_false] at h4
      have hmiss : (decide ((nth L k).rc = rc) && decide ((nth L k).sq = sq)) = false := by have hq := h4; (try simp only [Bool.and_eq_false_iff] at hq ⊢); first | exact hq | simpa using hq
      refine s_skip ?_
      refine s_blk ?_
      refine s_region ?_
      refine o_p (p_pure rfl) rfl ?_
      refine o_p (p_pure rfl) rfl ?_
      try (refine o_slot (i64w (by omega) (by omega)) ?_)
      refine o_p (p_pure rfl) rfl ?_
      refine o_nil ?_
      exact s_backI (k + 1) (by omega) ⟨by omega, fun i hi => (Nat.lt_or_ge i k).elim (hk2 i) (fun h => by obtain rfl : i = k := (by omega); rw [atB_get hkl]; exact hmiss)⟩ aSx (fun w h => h.ent aEt)
  · try simp only [decide_eq_true_eq, decide_eq_false_iff_not, Bool.not_eq_true', Bool.not_eq_false', Bool.and_eq_true, Bool.or_eq_true, Bool.and_eq_false_iff, Bool.or_eq_false_iff, Bool.not_true, Bool.not_false] at h3
    refine s_exit_to rfl ?_
    refine s_seq ?_
    refine s_region ?_
    refine o_p (p_pure rfl) rfl ?_
    refine o_nil ?_
    exact s_retv (rs := [.tmp 4]) rfl (.tmp rfl (.nil)) (fun w' h' => ⟨by have e := ixB_eq (l := atB (pls L) rc sq) (k := k) (by omega) hk2 (fun h => by omega); simp only [retV, ixI, e]; rw [if_neg (by omega)], h'.below⟩)

end Go.Proofs

