/- Contracts of the program's functions, proved by walking them with the rules of the Gx texts; without conditions beyond those that each contract names. -/
import Derived.WalkKit
import Derived.Deep.Draws
import Derived.TacticsIn
import Derived.OrdersIn
import Derived.RangeFuncLeaves
import Derived.Lib.Strings
import Derived.Laws.BytesArg
import Derived.Laws.IdiomStrings
import Derived.Deep.Quiet
import Derived.Laws.StructEq
import Derived.ChangeKeysEq
import Derived.Laws.Externs
import Derived.Lib.Overlaps
import Derived.Carry
import Derived.Laws.Small
import Derived.Lib.Bytealg
import Derived.Test.YtbbbhjhafdnnaaaGreatDoorProg
import Derived.KernelRfl
import Derived.RangeFuncRecord
import Derived.ProofKit
import Derived.OpenShut
import Derived.Lib.Builder
import Derived.Lib.UnsafeStr
import Derived.Laws.Pointers
import Derived.LaidEqlPtr
import Derived.Shelf.Strings.Builder1
import Derived.Shelf.Strings.Builder2
import Derived.Shelf.Small.Utf8
import Derived.Shelf.Small.Strs
import Derived.Shelf.Strings.BuilderF
import Derived.Shelf.Strings.Search1
import Derived.Shelf.Strings.Prefix
import Derived.Shelf.Unicode.Decode
import Derived.Shelf.Strings.Runes
import Derived.Shelf.Strings.AsciiSet
import Derived.Shelf.Bits.Mul64
import Derived.Shelf.Strings.Repeat
import Derived.Shelf.Unicode.DecodeSlow
import Derived.Shelf.Unicode.DecodeAny
import Derived.Shelf.Unicode.DecodeLast
import Derived.Test.YtbbbhjhafdnnaaaGreatDoorTie
import Derived.Test.YtbbbhjhafdnnaaaGreatDoorCards
import Derived.SevenTiedAt
import Derived.LaidMore
import Derived.Lay
import Derived.Stop.Joined
import Derived.Test.YtbbbhjhafdnnaaaGreatDoorP1
namespace Go.Proofs
open Go Go.RowKit Gx
set_option linter.unusedVariables false
set_option linter.unusedSimpArgs false
attribute [local irreducible] Go.Calls Gx.S Gx.O Gx.D Gx.OpP Gx.OpQ Gx.OpH

theorem fn_65 : isFn Tryz.prog 65 = true := by kernel_rfl
theorem fn_95 : isFn Tryz.prog 95 = true := by kernel_rfl


set_option maxRecDepth 20000 in
theorem c65 (w : World) (s : List UInt8) (at' c : Nat) (hm : s.length ≤ 1000000000) (hc : c ≤ 7) (hac : at' + c ≤ s.length) : Calls Tryz.prog 65 #[.string (bs s), .int .i64 (at' : Int), .int .i64 (c : Int)] w fun en w' => en = .returned (.int .i64 (litN s at' c)) ∧ Below w.heap.size w w' := by
  refine enter (args := [_, _, _]) Tryz.func65 Tryz.ntmps65 rfl rfl (HS.refl w []) ?_
  refine s_seq ?_
  refine s_region ?_
  refine o_p (p_pure rfl) rfl ?_
  refine o_nil ?_
  refine s_seq ?_
  refine s_region ?_
  refine o_p (p_pure rfl) rfl ?_
  refine o_nil ?_
  refine s_seq ?_
  refine s_seq ?_
  refine s_region ?_
  refine o_p (p_pure rfl) rfl ?_
  refine o_p (p_pure rfl) rfl ?_
  try (refine o_slot (i64w (by omega) (by omega)) ?_)
  refine o_p (p_pure rfl) rfl ?_
  refine o_nil ?_
  refine s_block ?_
  refine s_loopI (α := Nat) [7, 8, 11, 12, 13, 14, 15, 16, 17, 18, 19, 20, 21, 22, 23] (fun j => [(8, .int .i64 ((j : Int) - 1)), (7, .int .i64 (litN s (at' + j) (c - j)))]) (fun _ => _) (fun j => j ≤ c) (fun j => j) c (Nat.le_refl _) (by rw [Nat.sub_self]; exact aSx) (fun w h => h) (fun j hj => ?_)
  refine s_seq ?_
  refine s_seq ?_
  refine s_region ?_
  refine o_p (p_pure rfl) rfl ?_
  refine o_p (p_pure rfl) rfl ?_
  refine o_nil ?_
  refine s_cond rfl (fun h1 => ?_) (fun h1 => ?_)
  · try simp only [decide_eq_true_eq, decide_eq_false_iff_not, Bool.not_eq_true', Bool.not_eq_false', Bool.and_eq_true, Bool.or_eq_true, Bool.and_eq_false_iff, Bool.or_eq_false_iff, Bool.not_true, Bool.not_false] at h1
    obtain ⟨i, rfl⟩ : ∃ i, j = i + 1 := ⟨j - 1, by omega⟩
    have hst : litN s (at' + i) (c - i) = at1 s (at' + i) + 256 * litN s (at' + (i + 1)) (c - (i + 1)) := by rw [show c - i = (c - (i + 1)) + 1 by omega, litN]; rfl
    have hb1 := at1_le s (at' + i)
    have hn6 := litN_6 s (at' + (i + 1)) (k := c - (i + 1)) (by omega)
    have hb9 := (s.getD (at' + i) 0).toNat_lt
    refine s_skip ?_
    refine s_seq ?_
    refine s_block ?_
    refine s_region ?_
    refine o_p (p_pure rfl) rfl ?_
    refine o_p (p_pure rfl) rfl ?_
    try (refine o_slot (i64w (by omega) (by omega)) ?_)
    refine o_p (p_pure rfl) rfl ?_
    refine o_p (p_pure rfl) rfl ?_
    refine o_p (p_pure rfl) rfl ?_
    refine o_p (p_pure rfl) rfl ?_
    try (refine o_slot (i64w (by omega) (by omega)) ?_)
    refine o_slot (show _ = Value.int .i64 ((at' + i : Nat) : Int) from by congr 1; omega) ?_
    refine o_p (p_index_str rfl rfl rfl Tryz.underlying9 (at' + i) (by omega) (by omega)) rfl ?_
    refine o_p (p_conv_int rfl rfl ki_5 ki_3) rfl ?_
    try (refine o_slot (i64w (by omega) (by omega)) ?_)
    refine o_p (p_pure rfl) rfl ?_
    try (refine o_slot (i64w (by omega) (by omega)) ?_)
    refine o_slot (show _ = Value.int .i64 (litN s (at' + i) (c - i)) from by rw [hst]; congr 1; show _ * 256 + at1 s (at' + i) = _; omega) ?_
    refine o_p (p_pure rfl) rfl ?_
    refine o_nil ?_
    refine s_blk ?_
    refine s_region ?_
    refine o_p (p_pure rfl) rfl ?_
    refine o_p (p_pure rfl) rfl ?_
    try (refine o_slot (i64w (by omega) (by omega)) ?_)
    refine o_p (p_pure rfl) rfl ?_
    refine o_nil ?_
    exact s_backI i (by omega) (by omega) (by rw [show ((i : Int) - 1) = ((i + 1 : Nat) : Int) - 1 - 1 from by omega]; exact aSx) (fun w h => h)
  · try simp only [decide_eq_true_eq, decide_eq_false_iff_not, Bool.not_eq_true', Bool.not_eq_false', Bool.and_eq_true, Bool.or_eq_true, Bool.and_eq_false_iff, Bool.or_eq_false_iff, Bool.not_true, Bool.not_false] at h1
    obtain rfl : j = 0 := by omega
    rw [Nat.add_zero, Nat.sub_zero]
    refine s_exit_to rfl ?_
    refine s_seq ?_
    refine s_region ?_
    refine o_p (p_pure rfl) rfl ?_
    refine o_p (p_pure rfl) rfl ?_
    refine o_nil ?_
    exact s_retv (rs := [.tmp 6]) rfl (.tmp rfl (.nil)) (fun w' h' => ⟨by rfl, h'.below⟩)

set_option maxRecDepth 20000 in
set_option maxHeartbeats 4000000 in
theorem c67 (w : World) (s : List UInt8) (hm : s.length ≤ 1000000) : Calls Tryz.prog 67 #[.string (bs s)] w fun en w' => ∃ g : (Option Addr × Nat) × (Option Addr × Nat), en = .returned (.tuple #[.agg #[.int .i64 (decD s).ow, .int .i64 (decD s).gr, .bool (decD s).pr, .bool (decD s).he, .slice g.1.1 (decD s).en.length g.1.2, .slice g.2.1 (decD s).au.length g.2.2], .int .i64 (decE s)]) ∧ True ∧ HS w [] [.own (.slice g.1.1 (decD s).en.length g.1.2) 85 4 (decD s).en.length ((decD s).en.flatMap Ace.vals), .own (.slice g.2.1 (decD s).au.length g.2.2) 85 4 (decD s).au.length ((decD s).au.flatMap Ace.vals)] w' := by
  have hb0 := at1_le s 0
  have hb1 := at1_le s 1
  have hb2 := at1_le s 2
  have hb3 := at1_le s 3
  have hx4 := at4_le s 4
  have hx8 := at4_le s 8
  refine enter (args := [_]) Tryz.func67 Tryz.ntmps67 rfl rfl (HS.refl w []) ?_
  refine s_seq ?_
  refine s_region ?_
  refine o_h (h_alloc rfl zr_57) rfl (fun b1 _ => ?_)
  refine o_p (p_pure rfl) rfl ?_
  refine o_nil ?_
  refine s_seq ?_
  refine s_region ?_
  refine o_p (p_build (cs := [_, _, _, _, _, _]) rfl rfl pl_57 zr_57 rfl) rfl ?_
  refine o_h (h_alloc rfl zr_57) rfl (fun b2 _ => ?_)
  refine o_h0 (h_store rfl rfl rfl sz_57 rfl aPt (by simp only [setMany_length, List.length_set, List.length_cons, List.length_nil, List.length_map]; omega) rfl) (fun _ _ => ?_)
  refine o_nil ?_
  refine s_seq ?_
  refine s_seq ?_
  refine s_region ?_
  refine o_p (p_pure rfl) rfl ?_
  refine o_p (p_len_str rfl rfl Tryz.underlying9) rfl ?_
  refine o_p (p_pure rfl) rfl ?_
  refine o_nil ?_
  refine s_cond rfl (fun h3 => ?_) (fun h3 => ?_)
  · try simp only [decide_eq_true_eq, decide_eq_false_iff_not, Bool.not_eq_true', Bool.not_eq_false', Bool.and_eq_true, Bool.or_eq_true, Bool.and_eq_false_iff, Bool.or_eq_false_iff, Bool.not_true, Bool.not_false] at h3
    have hl12 : s.length < 12 := by omega
    have hz9 : shpE s = 10 := by unfold shpE; rw [if_pos hl12]
    obtain ⟨hE9, hD9⟩ := dec_bad (s := s) (by rw [hz9]; decide)
    refine s_seq ?_
    refine s_region ?_
    refine o_q (q_loadn rfl rfl sz_57 aPk rfl) rfl ?_
    refine o_h0 (h_store rfl rfl rfl sz_57 rfl aPt (by simp only [setMany_length, List.length_set, List.length_cons, List.length_nil, List.length_map]; omega) rfl) (fun _ _ => ?_)
    refine o_p (p_pure rfl) rfl ?_
    refine o_nil ?_
    exact s_retv (rs := [.cell 2 57, .tmp 3]) rfl (.cell rfl sz_57 aPk rfl (.tmp rfl (.nil))) (fun w' h' => ⟨((none, 0), (none, 0)), by rw [hE9, hD9, hz9]; rfl, trivial, by rw [hD9]; exact ((h'.own_nil 85 4).own_nil 85 4).ent aEt⟩)
  · try simp only [decide_eq_true_eq, decide_eq_false_iff_not, Bool.not_eq_true', Bool.not_eq_false', Bool.and_eq_true, Bool.or_eq_true, Bool.and_eq_false_iff, Bool.or_eq_false_iff, Bool.not_true, Bool.not_false] at h3
    have hl12 : ¬ s.length < 12 := by omega
    refine s_skip ?_
    refine s_seq ?_
    refine s_region ?_
    refine o_p (p_pure rfl) rfl ?_
    refine o_q (q_call rfl fn_65 rfl (fun w1 h1 => by have h9 := c65 w1 s 2 1 (by omega) (by omega) (by omega); rw [litN_1] at h9; exact h9)) rfl ?_
    refine o_p (p_pure rfl) rfl ?_
    refine o_q (q_call rfl fn_65 rfl (fun w1 h1 => by have h9 := c65 w1 s 3 1 (by omega) (by omega) (by omega); rw [litN_1] at h9; exact h9)) rfl ?_
    refine o_p (p_pure rfl) rfl ?_
    refine o_p (p_pure rfl) rfl ?_
    refine o_nil ?_
    refine s_seq ?_
    refine s_seq ?_
    refine s_region ?_
    refine o_p (p_pure rfl) rfl ?_
    refine o_p (p_pure rfl) rfl ?_
    refine o_p (p_pure rfl) rfl ?_
    refine o_or 3 24 27 _ _ rfl
      (by
        intro hg4
        have hs5 := hg4; try simp only [decide_eq_true_eq, decide_eq_false_iff_not, Bool.not_eq_true', Bool.not_eq_false', Bool.and_eq_true, Bool.or_eq_true, Bool.and_eq_false_iff, Bool.or_eq_false_iff, Bool.not_true, Bool.not_false] at hs5
        refine o_on 24 _ rfl rfl hg4 ?_
        refine o_p (p_pure rfl) rfl ?_
        refine o_on 24 _ rfl rfl hg4 ?_
        refine o_p (p_pure rfl) rfl ?_
        refine o_p (p_pickf rfl rfl hg4 rfl) rfl ?_
        refine o_nil ?_
        exact s_joinN 3 27 _ rfl rfl rfl (fun w h => by first | exact h | exact h.ent aEt))
      (by
        intro hg6
        have hs7 := hg6; try simp only [decide_eq_true_eq, decide_eq_false_iff_not, Bool.not_eq_true', Bool.not_eq_false', Bool.and_eq_true, Bool.or_eq_true, Bool.and_eq_false_iff, Bool.or_eq_false_iff, Bool.not_true, Bool.not_false] at hs7
        refine o_off 24 _ rfl rfl hg6 rfl ?_
        refine o_off 24 _ rfl rfl hg6 rfl ?_
        refine o_p (p_pickt rfl rfl hg6 rfl) rfl ?_
        refine o_nil ?_
        exact s_joinN 3 27 _ rfl rfl rfl (fun w h => by first | exact h | exact h.ent aEt)) ?_
    refine o_nil ?_
    refine s_cond rfl (fun h8 => ?_) (fun h8 => ?_)
    · try simp only [decide_eq_true_eq, decide_eq_false_iff_not, Bool.not_eq_true', Bool.not_eq_false', Bool.and_eq_true, Bool.or_eq_true, Bool.and_eq_false_iff, Bool.or_eq_false_iff, Bool.not_true, Bool.not_false] at h8
      have h16 : ¬ (at1 s 2 ≤ 16 ∧ at1 s 3 ≤ 16) := by have hq := h8; omega
      have hz9 : shpE s = 8 := by unfold shpE; rw [if_neg hl12, if_neg h16]
      obtain ⟨hE9, hD9⟩ := dec_bad (s := s) (by rw [hz9]; decide)
      refine s_seq ?_
      refine s_region ?_
      refine o_q (q_loadn rfl rfl sz_57 aPk rfl) rfl ?_
      refine o_h0 (h_store rfl rfl rfl sz_57 rfl aPt (by simp only [setMany_length, List.length_set, List.length_cons, List.length_nil, List.length_map]; omega) rfl) (fun _ _ => ?_)
      refine o_p (p_pure rfl) rfl ?_
      refine o_nil ?_
      exact s_retv (rs := [.cell 2 57, .tmp 3]) rfl (.cell rfl sz_57 aPk rfl (.tmp rfl (.nil))) (fun w' h' => ⟨((none, 0), (none, 0)), by rw [hE9, hD9, hz9]; rfl, trivial, by rw [hD9]; exact ((h'.own_nil 85 4).own_nil 85 4).ent aEt⟩)
    · try simp only [decide_eq_true_eq, decide_eq_false_iff_not, Bool.not_eq_true', Bool.not_eq_false', Bool.and_eq_true, Bool.or_eq_true, Bool.and_eq_false_iff, Bool.or_eq_false_iff, Bool.not_true, Bool.not_false] at h8
      have h16 : at1 s 2 ≤ 16 ∧ at1 s 3 ≤ 16 := by have hq := h8; omega
      refine s_skip ?_
      refine s_seq ?_
      refine s_seq ?_
      refine s_region ?_
      refine o_p (p_pure rfl) rfl ?_
      refine o_p (p_len_str rfl rfl Tryz.underlying9) rfl ?_
      refine o_p (p_pure rfl) rfl ?_
      refine o_p (p_pure rfl) rfl ?_
      refine o_p (p_pure rfl) rfl ?_
      try (refine o_slot (i64w (by omega) (by omega)) ?_)
      refine o_p (p_pure rfl) rfl ?_
      try (refine o_slot (i64w (by omega) (by omega)) ?_)
      refine o_p (p_pure rfl) rfl ?_
      try (refine o_slot (i64w (by omega) (by omega)) ?_)
      refine o_p (p_pure rfl) rfl ?_
      refine o_nil ?_
      refine s_cond rfl (fun h9 => ?_) (fun h9 => ?_)
      · try simp only [decide_eq_true_eq, decide_eq_false_iff_not, Bool.not_eq_true', Bool.not_eq_false', Bool.and_eq_true, Bool.or_eq_true, Bool.and_eq_false_iff, Bool.or_eq_false_iff, Bool.not_true, Bool.not_false] at h9
        have hsl : ¬ (s.length : Int) = 12 + (at1 s 2 + at1 s 3) * 8 := by have hq := h9; omega
        have hz9 : shpE s = 10 := by unfold shpE; rw [if_neg hl12, if_pos h16, if_neg hsl]
        obtain ⟨hE9, hD9⟩ := dec_bad (s := s) (by rw [hz9]; decide)
        refine s_seq ?_
        refine s_region ?_
        refine o_q (q_loadn rfl rfl sz_57 aPk rfl) rfl ?_
        refine o_h0 (h_store rfl rfl rfl sz_57 rfl aPt (by simp only [setMany_length, List.length_set, List.length_cons, List.length_nil, List.length_map]; omega) rfl) (fun _ _ => ?_)
        refine o_p (p_pure rfl) rfl ?_
        refine o_nil ?_
        exact s_retv (rs := [.cell 2 57, .tmp 3]) rfl (.cell rfl sz_57 aPk rfl (.tmp rfl (.nil))) (fun w' h' => ⟨((none, 0), (none, 0)), by rw [hE9, hD9, hz9]; rfl, trivial, by rw [hD9]; exact ((h'.own_nil 85 4).own_nil 85 4).ent aEt⟩)
      · try simp only [decide_eq_true_eq, decide_eq_false_iff_not, Bool.not_eq_true', Bool.not_eq_false', Bool.and_eq_true, Bool.or_eq_true, Bool.and_eq_false_iff, Bool.or_eq_false_iff, Bool.not_true, Bool.not_false] at h9
        have hsl : (s.length : Int) = 12 + (at1 s 2 + at1 s 3) * 8 := by have hq := h9; omega
        refine s_skip ?_
        refine s_seq ?_
        refine s_region ?_
        refine o_p (p_pure rfl) rfl ?_
        refine o_q (q_call rfl fn_65 rfl (fun w1 h1 => by have h9 := c65 w1 s 1 1 (by omega) (by omega) (by omega); rw [litN_1] at h9; exact h9)) rfl ?_
        refine o_p (p_pure rfl) rfl ?_
        refine o_nil ?_
        refine s_seq ?_
        refine s_seq ?_
        refine s_region ?_
        refine o_p (p_pure rfl) rfl ?_
        refine o_q (q_call rfl fn_65 rfl (fun w1 h1 => by have h9 := c65 w1 s 0 1 (by omega) (by omega) (by omega); rw [litN_1] at h9; exact h9)) rfl ?_
        refine o_p (p_pure rfl) rfl ?_
        refine o_p (p_pure rfl) rfl ?_
        refine o_or 3 43 46 _ _ rfl
          (by
            intro hg10
            have hs11 := hg10; try simp only [decide_eq_true_eq, decide_eq_false_iff_not, Bool.not_eq_true', Bool.not_eq_false', Bool.and_eq_true, Bool.or_eq_true, Bool.and_eq_false_iff, Bool.or_eq_false_iff, Bool.not_true, Bool.not_false] at hs11
            refine o_on 43 _ rfl rfl hg10 ?_
            refine o_p (p_pure rfl) rfl ?_
            refine o_on 43 _ rfl rfl hg10 ?_
            refine o_p (p_pure rfl) rfl ?_
            refine o_p (p_pickf rfl rfl hg10 rfl) rfl ?_
            refine o_nil ?_
            exact s_joinN 3 46 _ rfl rfl rfl (fun w h => by first | exact h | exact h.ent aEt))
          (by
            intro hg12
            have hs13 := hg12; try simp only [decide_eq_true_eq, decide_eq_false_iff_not, Bool.not_eq_true', Bool.not_eq_false', Bool.and_eq_true, Bool.or_eq_true, Bool.and_eq_false_iff, Bool.or_eq_false_iff, Bool.not_true, Bool.not_false] at hs13
            refine o_off 43 _ rfl rfl hg12 rfl ?_
            refine o_off 43 _ rfl rfl hg12 rfl ?_
            refine o_p (p_pickt rfl rfl hg12 rfl) rfl ?_
            refine o_nil ?_
            exact s_joinN 3 46 _ rfl rfl rfl (fun w h => by first | exact h | exact h.ent aEt)) ?_
        refine o_nil ?_
        refine s_cond rfl (fun h14 => ?_) (fun h14 => ?_)
        · try simp only [decide_eq_true_eq, decide_eq_false_iff_not, Bool.not_eq_true', Bool.not_eq_false', Bool.and_eq_true, Bool.or_eq_true, Bool.and_eq_false_iff, Bool.or_eq_false_iff, Bool.not_true, Bool.not_false] at h14
          have hfm : ¬ (at1 s 0 = 1 ∧ at1 s 1 ≤ 3) := by have hq := h14; omega
          have hz9 : shpE s = 3 := by unfold shpE; rw [if_neg hl12, if_pos h16, if_pos hsl, if_neg hfm]
          obtain ⟨hE9, hD9⟩ := dec_bad (s := s) (by rw [hz9]; decide)
          refine s_seq ?_
          refine s_weaken (L' := [(0, _), (2, _), (3, _), (4, _), (5, _), (6, _), (7, _)]) aSx (fun _ h => h) ?_
          refine s_region ?_
          refine o_q (q_loadn rfl rfl sz_57 aPk rfl) rfl ?_
          refine o_h0 (h_store rfl rfl rfl sz_57 rfl aPt (by simp only [setMany_length, List.length_set, List.length_cons, List.length_nil, List.length_map]; omega) rfl) (fun _ _ => ?_)
          refine o_p (p_pure rfl) rfl ?_
          refine o_nil ?_
          exact s_retv (rs := [.cell 2 57, .tmp 3]) rfl (.cell rfl sz_57 aPk rfl (.tmp rfl (.nil))) (fun w' h' => ⟨((none, 0), (none, 0)), by rw [hE9, hD9, hz9]; rfl, trivial, by rw [hD9]; exact ((h'.own_nil 85 4).own_nil 85 4).ent aEt⟩)
        · try simp only [decide_eq_true_eq, decide_eq_false_iff_not, Bool.not_eq_true', Bool.not_eq_false', Bool.and_eq_true, Bool.or_eq_true, Bool.and_eq_false_iff, Bool.or_eq_false_iff, Bool.not_true, Bool.not_false] at h14
          have hfm : at1 s 0 = 1 ∧ at1 s 1 ≤ 3 := by have hq := h14; omega
          have hz9 : shpE s = 0 := by unfold shpE; rw [if_neg hl12, if_pos h16, if_pos hsl, if_pos hfm]
          refine s_skip ?_
          refine s_seq ?_
          refine s_weaken (L' := [(0, _), (2, _), (3, _), (4, _), (5, _), (6, _), (7, _)]) aSx (fun _ h => h) ?_
          refine s_region ?_
          refine o_p (p_pure rfl) rfl ?_
          refine o_q (q_call rfl fn_65 rfl (fun w1 h1 => by have h9 := c65 w1 s 4 4 (by omega) (by omega) (by omega); rw [litN_4] at h9; exact h9)) rfl ?_
          refine o_p (p_pure rfl) rfl ?_
          refine o_q (q_call rfl fn_65 rfl (fun w1 h1 => by have h9 := c65 w1 s 8 4 (by omega) (by omega) (by omega); rw [litN_4] at h9; exact h9)) rfl ?_
          refine o_p (p_pure rfl) rfl ?_
          refine o_p (p_rem_nn rfl rfl rfl (by omega) (by omega)) rfl ?_
          refine o_p (p_pure rfl) rfl ?_
          refine o_slot (show _ = Value.bool (rawD s).pr from rfl) ?_
          refine o_p (p_pure rfl) rfl ?_
          refine o_p (p_quo_nn rfl rfl rfl (by omega) (by omega) (by omega)) rfl ?_
          refine o_p (p_pure rfl) rfl ?_
          refine o_slot (show _ = Value.bool (rawD s).he from by show Value.bool (decide (at1 s 1 / 2 = 1)) = Value.bool (decide (at1 s 1 / 2 % 2 = 1)); congr 1; exact decide_eq_decide.2 (by omega)) ?_
          refine o_p (p_build (cs := [_, _, _, _, _, _]) rfl rfl pl_57 zr_57 rfl) rfl ?_
          refine o_h (h_alloc rfl zr_57) rfl (fun b15 _ => ?_)
          refine o_h0 (h_store rfl rfl rfl sz_57 rfl aPt (by simp only [setMany_length, List.length_set, List.length_cons, List.length_nil, List.length_map]; omega) rfl) (fun _ _ => ?_)
          refine o_nil ?_
          refine s_seq ?_
          refine s_seq ?_
          refine s_region ?_
          refine o_p (p_pure rfl) rfl ?_
          refine o_nil ?_
          refine s_block ?_
          refine s_weaken (L' := [(0, _), (2, _), (3, _), (4, _), (5, _), (6, _), (8, _), (9, _)]) aSx (fun _ h => h) ?_
          refine s_loopI (α := Nat × (Option Addr × Nat) × (Option Addr × Nat)) [9, 10, 11, 59, 60, 61, 62, 63, 64, 65, 66, 67, 68, 69, 70, 71, 72, 73, 74, 75, 76, 77, 78, 79, 80, 81, 82, 83, 84, 85, 86, 87, 88, 89, 90, 91, 92, 93, 94, 95, 96, 97, 98, 99] (fun y => [(9, .int .i64 (y.1 : Int))]) (fun y => HS w [] [.blk b15 57 6 [.int .i64 (rawD s).ow, .int .i64 (rawD s).gr, .bool (rawD s).pr, .bool (rawD s).he, .slice y.2.1.1 (enK s y.1).length y.2.1.2, .slice y.2.2.1 (auK s y.1).length y.2.2.2], .own (.slice y.2.1.1 (enK s y.1).length y.2.1.2) 85 4 (enK s y.1).length ((enK s y.1).flatMap Ace.vals), .own (.slice y.2.2.1 (auK s y.1).length y.2.2.2) 85 4 (auK s y.1).length ((auK s y.1).flatMap Ace.vals), .blk b2 57 6 [.int .i64 0, .int .i64 0, .bool false, .bool false, .slice none 0 0, .slice none 0 0], .blk b1 57 6 [.int .i64 0, .int .i64 0, .bool false, .bool false, .slice none 0 0, .slice none 0 0]]) (fun y => y.1 ≤ ((at1 s 2).toNat + (at1 s 3).toNat)) (fun y => ((at1 s 2).toNat + (at1 s 3).toNat) - y.1) (0, (none, 0), (none, 0)) (Nat.zero_le _) aSx (fun w h => by dsimp only; rw [enK_zero, auK_zero]; exact ((h.own_nil 85 4).own_nil 85 4).ent aEt) (fun ⟨k, ga, gb9⟩ hk1 => ?_)
          dsimp only
          simp only [] at hk1
          refine s_seq ?_
          refine s_seq ?_
          refine s_region ?_
          refine o_p (p_pure rfl) rfl ?_
          refine o_p (p_pure rfl) rfl ?_
          refine o_p (p_pure rfl) rfl ?_
          refine o_p (p_pure rfl) rfl ?_
          try (refine o_slot (i64w (by omega) (by omega)) ?_)
          refine o_p (p_pure rfl) rfl ?_
          refine o_nil ?_
          refine s_cond rfl (fun h16 => ?_) (fun h16 => ?_)
          · try simp only [decide_eq_true_eq, decide_eq_false_iff_not, Bool.not_eq_true', Bool.not_eq_false', Bool.and_eq_true, Bool.or_eq_true, Bool.and_eq_false_iff, Bool.or_eq_false_iff, Bool.not_true, Bool.not_false] at h16
            have hk : k < ((at1 s 2).toNat + (at1 s 3).toNat) := by omega
            have hel := enK_len s k
            have hal := auK_len s k
            refine s_skip ?_
            refine s_seq ?_
            refine s_block ?_
            refine s_seq ?_
            refine s_region ?_
            refine o_p (p_pure rfl) rfl ?_
            refine o_p (p_pure rfl) rfl ?_
            try (refine o_slot (i64w (by omega) (by omega)) ?_)
            refine o_p (p_pure rfl) rfl ?_
            try (refine o_slot (i64w (by omega) (by omega)) ?_)
            refine o_slot (show _ = Value.int .i64 ((12 + 8 * k : Nat) : Int) from by congr 1) ?_
            refine o_p (p_pure rfl) rfl ?_
            refine o_nil ?_
            refine s_seq ?_
            refine s_region ?_
            refine o_p (p_pure rfl) rfl ?_
            refine o_p (p_pure rfl) rfl ?_
            refine o_q (q_call rfl fn_65 rfl (fun w1 h1 => by have h9 := c65 w1 s (12 + 8 * k) 1 (by omega) (by omega) (by omega); rw [litN_1] at h9; exact h9)) rfl ?_
            refine o_p (p_pure rfl) rfl ?_
            refine o_p (p_pure rfl) rfl ?_
            refine o_p (p_pure rfl) rfl ?_
            try (refine o_slot (i64w (by omega) (by omega)) ?_)
            refine o_slot (show _ = Value.int .i64 ((12 + 8 * k + 1 : Nat) : Int) from by congr 1) ?_
            refine o_q (q_call rfl fn_65 rfl (fun w1 h1 => by have h9 := c65 w1 s (12 + 8 * k + 1) 1 (by omega) (by omega) (by omega); rw [litN_1] at h9; exact h9)) rfl ?_
            refine o_p (p_pure rfl) rfl ?_
            refine o_p (p_pure rfl) rfl ?_
            refine o_p (p_pure rfl) rfl ?_
            try (refine o_slot (i64w (by omega) (by omega)) ?_)
            refine o_slot (show _ = Value.int .i64 ((12 + 8 * k + 2 : Nat) : Int) from by congr 1) ?_
            refine o_q (q_call rfl fn_65 rfl (fun w1 h1 => by have h9 := c65 w1 s (12 + 8 * k + 2) 2 (by omega) (by omega) (by omega); rw [litN_2] at h9; exact h9)) rfl ?_
            refine o_p (p_pure rfl) rfl ?_
            refine o_p (p_pure rfl) rfl ?_
            refine o_p (p_pure rfl) rfl ?_
            try (refine o_slot (i64w (by omega) (by omega)) ?_)
            refine o_slot (show _ = Value.int .i64 ((12 + 8 * k + 4 : Nat) : Int) from by congr 1) ?_
            refine o_q (q_call rfl fn_65 rfl (fun w1 h1 => by have h9 := c65 w1 s (12 + 8 * k + 4) 4 (by omega) (by omega) (by omega); rw [litN_4] at h9; exact h9)) rfl ?_
            refine o_p (p_build (cs := [_, _, _, _]) rfl rfl pl_85 zr_85 rfl) rfl ?_
            refine o_h (h_alloc rfl zr_85) rfl (fun b17 _ => ?_)
            refine o_h0 (h_store rfl rfl rfl sz_85 rfl aPt (by simp only [setMany_length, List.length_set, List.length_cons, List.length_nil, List.length_map]; omega) rfl) (fun _ _ => ?_)
            refine o_nil ?_
            refine s_seq ?_
            refine s_weaken (L' := [(0, _), (2, _), (3, _), (4, _), (5, _), (6, _), (8, _), (9, _), (11, _)]) aSx (fun _ h => h) ?_
            refine s_region ?_
            refine o_p (p_pure rfl) rfl ?_
            refine o_p (p_pure rfl) rfl ?_
            refine o_p (p_pure rfl) rfl ?_
            refine o_nil ?_
            refine s_cond rfl (fun h18 => ?_) (fun h18 => ?_)
            · try simp only [decide_eq_true_eq, decide_eq_false_iff_not, Bool.not_eq_true', Bool.not_eq_false', Bool.and_eq_true, Bool.or_eq_true, Bool.and_eq_false_iff, Bool.or_eq_false_iff, Bool.not_true, Bool.not_false] at h18
              have hke : k < (at1 s 2).toNat := by have hq := h18; omega
              have hen := enK_succ hke
              have hau := auK_same hke
              refine s_region ?_
              refine o_p (p_fieldAddr rfl rfl fd_57_4 sz_55 rfl) rfl ?_
              refine o_q (q_load rfl rfl sz_55 aPk rfl) rfl ?_
              refine o_q (q_loadn rfl rfl sz_85 aPk rfl) rfl ?_
              refine o_h (h_buildSlice (cs := [_, _, _, _]) rfl rfl sl_55 zr_85 rfl rfl rfl) rfl (fun b19 _ => ?_)
              refine o_h (h_appendS [_, _, _, _] rfl rfl rfl sl_55 Tryz.underlying55 zr_85 rfl aPk (src_blk aPk) rfl (av1 (aceOf s (12 + 8 * k))) (by omega) (by simp only [maxLen]; omega)) rfl (fun b20 _ => ?_)
              refine o_p (p_fieldAddr rfl rfl fd_57_4 sz_55 rfl) rfl ?_
              refine o_h0 (h_store rfl rfl rfl sz_55 rfl aPt (by simp only [setMany_length, List.length_set, List.length_cons, List.length_nil, List.length_map]; omega) rfl) (fun _ _ => ?_)
              refine o_nil ?_
              refine s_blk ?_
              refine s_region ?_
              refine o_p (p_pure rfl) rfl ?_
              refine o_p (p_pure rfl) rfl ?_
              try (refine o_slot (i64w (by omega) (by omega)) ?_)
              refine o_p (p_pure rfl) rfl ?_
              refine o_nil ?_
              exact s_backI (k + 1, b20, gb9) (by (try simp only []); omega) (by (try simp only []); omega) aSx (fun w h => by dsimp only; rw [hen, hau, List.length_append, flat_append]; exact h.ent aEt)
            · try simp only [decide_eq_true_eq, decide_eq_false_iff_not, Bool.not_eq_true', Bool.not_eq_false', Bool.and_eq_true, Bool.or_eq_true, Bool.and_eq_false_iff, Bool.or_eq_false_iff, Bool.not_true, Bool.not_false] at h18
              have hke : (at1 s 2).toNat ≤ k := by have hq := h18; omega
              have hen := enK_same hke
              have hau := auK_succ hke
              refine s_region ?_
              refine o_p (p_fieldAddr rfl rfl fd_57_5 sz_55 rfl) rfl ?_
              refine o_q (q_load rfl rfl sz_55 aPk rfl) rfl ?_
              refine o_q (q_loadn rfl rfl sz_85 aPk rfl) rfl ?_
              refine o_h (h_buildSlice (cs := [_, _, _, _]) rfl rfl sl_55 zr_85 rfl rfl rfl) rfl (fun b21 _ => ?_)
              refine o_h (h_appendS [_, _, _, _] rfl rfl rfl sl_55 Tryz.underlying55 zr_85 rfl aPk (src_blk aPk) rfl (av1 (aceOf s (12 + 8 * k))) (by omega) (by simp only [maxLen]; omega)) rfl (fun b22 _ => ?_)
              refine o_p (p_fieldAddr rfl rfl fd_57_5 sz_55 rfl) rfl ?_
              refine o_h0 (h_store rfl rfl rfl sz_55 rfl aPt (by simp only [setMany_length, List.length_set, List.length_cons, List.length_nil, List.length_map]; omega) rfl) (fun _ _ => ?_)
              refine o_nil ?_
              refine s_blk ?_
              refine s_region ?_
              refine o_p (p_pure rfl) rfl ?_
              refine o_p (p_pure rfl) rfl ?_
              try (refine o_slot (i64w (by omega) (by omega)) ?_)
              refine o_p (p_pure rfl) rfl ?_
              refine o_nil ?_
              exact s_backI (k + 1, ga, b22) (by (try simp only []); omega) (by (try simp only []); omega) aSx (fun w h => by dsimp only; rw [hen, hau, List.length_append, flat_append]; exact h.ent aEt)
          · try simp only [decide_eq_true_eq, decide_eq_false_iff_not, Bool.not_eq_true', Bool.not_eq_false', Bool.and_eq_true, Bool.or_eq_true, Bool.and_eq_false_iff, Bool.or_eq_false_iff, Bool.not_true, Bool.not_false] at h16
            obtain rfl : k = ((at1 s 2).toNat + (at1 s 3).toNat) := by omega
            rw [enK_end, auK_end]
            refine s_exit_to rfl ?_
            refine s_seq ?_
            refine s_seq ?_
            refine s_region ?_
            refine o_q (q_loadn rfl rfl sz_57 aPk rfl) rfl ?_
            refine o_q (q_call rfl fn_95 rfl (fun w1 h1 => c95 w1 (rawD s) ga.1 ga.2 gb9.1 gb9.2 (h1.rw_own av4 aPk rfl) (h1.rw_own av4 aPk rfl) (by rw [← enK_end, enK_len]; omega) (by rw [← auK_end, auK_len]; omega))) rfl ?_
            refine o_p (p_pure rfl) rfl ?_
            refine o_nil ?_
            refine s_seq ?_
            refine s_region ?_
            refine o_p (p_pure rfl) rfl ?_
            refine o_p (p_pure rfl) rfl ?_
            refine o_nil ?_
            refine s_cond rfl (fun h23 => ?_) (fun h23 => ?_)
            · try simp only [decide_eq_true_eq, decide_eq_false_iff_not, Bool.not_eq_true', Bool.not_eq_false', Bool.and_eq_true, Bool.or_eq_true, Bool.and_eq_false_iff, Bool.or_eq_false_iff, Bool.not_true, Bool.not_false] at h23
              have hn9 : ¬ (dscE (rawD s)).2 = 0 := h23
              obtain ⟨hE9, hD9⟩ := dec_not hz9 hn9
              refine s_seq ?_
              refine s_region ?_
              refine o_q (q_loadn rfl rfl sz_57 aPk rfl) rfl ?_
              refine o_p (p_pure rfl) rfl ?_
              refine o_h0 (h_store rfl rfl rfl sz_57 rfl aPt (by simp only [setMany_length, List.length_set, List.length_cons, List.length_nil, List.length_map]; omega) rfl) (fun _ _ => ?_)
              refine o_p (p_pure rfl) rfl ?_
              refine o_nil ?_
              exact s_retv (rs := [.cell 2 57, .tmp 3]) rfl (.cell rfl sz_57 aPk rfl (.tmp rfl (.nil))) (fun w' h' => ⟨((none, 0), (none, 0)), by rw [hE9, hD9]; rfl, trivial, by rw [hD9]; exact ((h'.own_nil 85 4).own_nil 85 4).ent aEt⟩)
            · try simp only [decide_eq_true_eq, decide_eq_false_iff_not, Bool.not_eq_true', Bool.not_eq_false', Bool.and_eq_true, Bool.or_eq_true, Bool.and_eq_false_iff, Bool.or_eq_false_iff, Bool.not_true, Bool.not_false] at h23
              have hn9 : (dscE (rawD s)).2 = 0 := h23
              obtain ⟨hE9, hD9⟩ := dec_good hz9 hn9
              refine s_skip ?_
              refine s_seq ?_
              refine s_region ?_
              refine o_q (q_loadn rfl rfl sz_57 aPk rfl) rfl ?_
              refine o_h0 (h_store rfl rfl rfl sz_57 rfl aPt (by simp only [setMany_length, List.length_set, List.length_cons, List.length_nil, List.length_map]; omega) rfl) (fun _ _ => ?_)
              refine o_p (p_pure rfl) rfl ?_
              refine o_nil ?_
              exact s_retv (rs := [.cell 2 57, .tmp 3]) rfl (.cell rfl sz_57 aPk rfl (.tmp rfl (.nil))) (fun w' h' => ⟨(ga, gb9), by rw [hE9, hD9]; rfl, trivial, by rw [hD9]; exact h'.ent aEt⟩)

end Go.Proofs

/- Plain lemmas of chapter 18: places, items, stores. Nothing of a program is named here. -/
namespace Gx
set_option linter.unusedSimpArgs false
set_option linter.unusedVariables false
open Go Go.RowKit
abbrev KS (l : List UInt8) : Value := .string (bs l)
def nv (n : Int) : Value := .int .i64 n
theorem nv_get {l : List Int} {k : Nat} (h : k < l.length) : (l.map nv)[k]? = some (.int .i64 (l.getD k 0)) := by
  rw [List.getElem?_map, List.getElem?_eq_getElem h, List.getD_eq_getElem?_getD, List.getElem?_eq_getElem h]
  rfl
theorem sv2 (x : SItm) : (SItm.vals x).length = 2 := rfl
theorem sv1 (x : SItm) : ∀ u ∈ SItm.vals x, u.oneCell' = true := fun u hu => by
  simp only [SItm.vals, List.mem_cons, List.mem_nil_iff, or_false] at hu
  rcases hu with rfl | rfl <;> rfl
theorem fl_tdiv {m : Int} (h : 0 ≤ m) : (-m).tdiv 16 = -(m / 16) := by rw [Int.neg_tdiv, Int.tdiv_eq_ediv_of_nonneg h]
theorem fl_tmod {m : Int} (h : 0 ≤ m) : (-m).tmod 16 = -(m % 16) := by rw [Int.neg_tmod, Int.tmod_eq_emod_of_nonneg h]
theorem pls_succ {l : List SItm} {k : Nat} (h : k < l.length) : plsI (l.take (k + 1)) = ((plsI (l.take k)).1 ++ [(plsI (l.take k)).2], (plsI (l.take k)).2 + upT (16 + ((nth l k).by_.length : Int))) := by
  unfold plsI
  rw [take_succ_getD (d := default) h, List.foldl_append]
  rfl
theorem pls_len : ∀ (k : Nat) (l : List SItm), k ≤ l.length → (plsI (l.take k)).1.length = k
  | 0, l, _ => rfl
  | k + 1, l, h => by rw [pls_succ (by omega), List.length_append, pls_len k l (by omega)]; rfl
theorem pls_len' (l : List SItm) : (plsI l).1.length = l.length := by
  have := pls_len l.length l (Nat.le_refl _)
  rwa [List.take_length] at this
theorem pls_le {l : List SItm} (hb : ∀ x ∈ l, x.by_.length ≤ 100000) : ∀ k, k ≤ l.length → 16 ≤ (plsI (l.take k)).2 ∧ (plsI (l.take k)).2 ≤ 16 + 100032 * (k : Int)
  | 0, _ => by simp [plsI]
  | k + 1, h => by
    have h1 := pls_le hb k (by omega)
    have h2 : (nth l k).by_.length ≤ 100000 := hb _ (getD_mem (by omega))
    rw [pls_succ (by omega)]
    unfold upT
    simp only []
    omega
theorem pls_le' {l : List SItm} (hb : ∀ x ∈ l, x.by_.length ≤ 100000) : 16 ≤ (plsI l).2 ∧ (plsI l).2 ≤ 16 + 100032 * (l.length : Int) := by
  have := pls_le hb l.length (Nat.le_refl _)
  rwa [List.take_length] at this
/-! ## The error of an item -/
def e0E (nx : Int) (l : List SItm) (i : Nat) : Int := if 256 ≤ (nth l i).id ∧ (nth l i).id ≤ nx - 1 then if i = 0 ∨ (nth l (i - 1)).id < (nth l i).id then 0 else 9 else 2
def e1E (nx : Int) (l : List SItm) (i : Nat) : Int := if e0E nx l i = 0 then decE (nth l i).by_ else e0E nx l i
open Classical in
theorem itm_eq (nx : Int) (l : List SItm) (i : Nat) {P : Prop} {dP : Decidable P} (hP : P ↔ (nth l i).by_ ∈ (l.take i).map SItm.by_) : firstV [.int .i64 (e1E nx l i), .int .i64 (cond (!decide P) 0 23)] = itmE nx l i := by
  unfold itmE e1E e0E nth
  simp only [firstV, cond_eq_ite]
  by_cases h : P
  · have := hP.1 h
    simp only [h, decide_true, Bool.not_true, Bool.false_eq_true, if_false]
    unfold nth at this
    simp only [this]
    grind
  · have : ¬ (nth l i).by_ ∈ (l.take i).map SItm.by_ := fun h9 => h (hP.2 h9)
    simp only [h, decide_false, Bool.not_false, if_true]
    unfold nth at this
    simp only [this]
    grind
theorem e0_first {nx : Int} {l : List SItm} {i : Nat} {b : Bool} (hb : b = decide (i = 0 ∨ (nth l (i - 1)).id < (nth l i).id)) : firstV [.int .i64 (cond (decide (256 ≤ (nth l i).id) && decide ((nth l i).id ≤ nx - 1)) 0 2), .int .i64 (cond b 0 9)] = e0E nx l i := by
  subst hb
  unfold e0E
  simp only [firstV, cond_eq_ite, Bool.and_eq_true, decide_eq_true_eq]
  grind
theorem itms_len (nx : Int) (l : List SItm) : (itmsE nx l).length = l.length := by simp [itmsE]
theorem itms_get {nx : Int} {l : List SItm} {k : Nat} (h : k < l.length) : (itmsE nx l).getD k 0 = itmE nx l k := by
  unfold itmsE
  rw [List.getD_eq_getElem?_getD, List.getElem?_map, List.getElem?_range h]
  rfl
theorem by_take {l : List SItm} {k : Nat} (h : k < l.length) {x : List UInt8} : x ∈ (l.take (k + 1)).map SItm.by_ ↔ x ∈ (l.take k).map SItm.by_ ∨ x = (nth l k).by_ := by
  rw [take_succ_getD (d := default) h, List.map_append, List.mem_append]
  simp [nth]
theorem mem_insK {ks : List (List UInt8)} {a x : List UInt8} : x ∈ insK' ks a ↔ x ∈ ks ∨ x = a := by
  unfold insK'
  split
  · rename_i h
    constructor
    · exact .inl
    · rintro (h1 | rfl)
      · exact h1
      · exact h
  · simp
/-- The error of a store before its items. -/
def spreE (nx : Int) (l : List SItm) : Int := if 256 ≤ nx ∧ nx ≤ 2147483647 then if l.length ≤ 60 then 0 else 8 else 2
theorem spre_first (nx : Int) (l : List SItm) : firstV [.int .i64 (cond (decide (256 ≤ nx) && decide (nx ≤ 2147483647)) 0 2), .int .i64 (cond (decide ((l.length : Int) ≤ 60)) 0 8)] = spreE nx l := by
  unfold spreE
  simp only [firstV, cond_eq_ite, Bool.and_eq_true, decide_eq_true_eq]
  have : ((l.length : Int) ≤ 60) ↔ l.length ≤ 60 := by omega
  simp only [this]
  grind
theorem sto_pre (nx : Int) (l : List SItm) : stoE nx l = if spreE nx l = 0 then if (eachF (itmsE nx l) 0).2 = 0 then if (plsI l).2 ≤ 8192 then (0, 0) else (0, 16) else eachF (itmsE nx l) 0 else (0, spreE nx l) := by
  unfold stoE spreE
  split
  · split
    · simp
    · simp
  · simp
/-! ## Items sought -/
def byB (l : List SItm) (b : List UInt8) : List Bool := l.map fun x => decide (x.by_ = b)
def idB (l : List SItm) (n : Int) : List Bool := l.map fun x => decide (x.id = n)
theorem byB_len (l : List SItm) (b : List UInt8) : (byB l b).length = l.length := by simp [byB]
theorem idB_len (l : List SItm) (n : Int) : (idB l n).length = l.length := by simp [idB]
theorem byB_get {l : List SItm} {b : List UInt8} {k : Nat} (h : k < l.length) : (byB l b).getD k false = decide ((nth l k).by_ = b) := by
  unfold byB; rw [getD_map (d := default) h]; rfl
theorem idB_get {l : List SItm} {n : Int} {k : Nat} (h : k < l.length) : (idB l n).getD k false = decide ((nth l k).id = n) := by
  unfold idB; rw [getD_map (d := default) h]; rfl
def byK (l : List SItm) (b : List UInt8) : Nat := ixB (byB l b)
def idK (l : List SItm) (n : Int) : Nat := ixB (idB l n)
def addE (nx : Int) (l : List SItm) (d : Dsc) : Int := if (stoE nx l).2 = 0 then (dscE d).2 else (stoE nx l).2
structure AddR where
  nx : Int
  l : List SItm
  id : Int
  e : Int
def addR (nx : Int) (l : List SItm) (b : List UInt8) : AddR :=
  if byK l b < l.length then ⟨nx, l, (nth l (byK l b)).id, 0⟩
  else if (l ++ [SItm.mk nx b]).length > 60 ∨ (plsI (l ++ [SItm.mk nx b])).2 > 8192 ∨ nx = 2147483647 then ⟨0, [], 0, 16⟩ else ⟨nx + 1, l ++ [SItm.mk nx b], nx, 0⟩
def addT (nx : Int) (l : List SItm) (d : Dsc) : AddR := if addE nx l d = 0 then addR nx l (encD d) else ⟨0, [], 0, addE nx l d⟩
def idtT (nx : Int) (l : List SItm) (d : Dsc) : Int × Int := if addE nx l d = 0 then if byK l (encD d) < l.length then ((nth l (byK l (encD d))).id, 0) else (0, 6) else (0, addE nx l d)
theorem encD_len (d : Dsc) : (encD d).length = 12 + 8 * (d.en.length + d.au.length) := by
  rw [encD_eq, List.length_append, headB_len, flatB_len, List.length_append]
theorem add_ok {nx : Int} {l : List SItm} {d : Dsc} (h : addE nx l d = 0) : (stoE nx l).2 = 0 ∧ (dscE d).2 = 0 := by
  unfold addE at h
  split at h
  · exact ⟨by assumption, h⟩
  · rename_i h1; exact absurd h h1
theorem sto_ok {nx : Int} {l : List SItm} (h : (stoE nx l).2 = 0) : (256 ≤ nx ∧ nx ≤ 2147483647) ∧ l.length ≤ 60 ∧ (∀ k, k < l.length → itmE nx l k = 0) ∧ (plsI l).2 ≤ 8192 := by
  unfold stoE at h
  split at h
  · rename_i h1
    split at h
    · rename_i h2
      split at h
      · rename_i h3
        split at h
        · rename_i h4
          refine ⟨h1, h2, fun k hk => ?_, h4⟩
          rw [← itms_get hk]
          exact eachF_0.1 h3 _ (getD_mem (by rw [itms_len]; exact hk))
        · simp at h
      · rename_i h3; exact absurd h h3
    · simp at h
  · simp at h
theorem ixB_le : ∀ (l : List Bool), ixB l ≤ l.length := by
  intro l
  induction l with
  | nil => exact Nat.le_refl _
  | cons b l ih =>
    cases b with
    | false => show ixB l + 1 ≤ l.length + 1; omega
    | true => exact Nat.zero_le _
theorem byK_le (l : List SItm) (b : List UInt8) : byK l b ≤ l.length := by have := ixB_le (byB l b); rwa [byB_len] at this
theorem idK_le (l : List SItm) (n : Int) : idK l n ≤ l.length := by have := ixB_le (idB l n); rwa [idB_len] at this
theorem ixB_true : ∀ {l : List Bool}, ixB l < l.length → l.getD (ixB l) false = true
  | [], h => absurd h (Nat.not_lt_zero _)
  | true :: l, h => rfl
  | false :: l, h => by
    have h1 : ixB (false :: l) = ixB l + 1 := rfl
    rw [h1] at h ⊢
    exact ixB_true (l := l) (by simpa using h)
theorem ixB_false : ∀ {l : List Bool} {i : Nat}, i < ixB l → l.getD i false = false
  | [], i, h => absurd h (Nat.not_lt_zero _)
  | true :: l, i, h => absurd h (Nat.not_lt_zero _)
  | false :: l, 0, h => rfl
  | false :: l, i + 1, h => by
    have h1 : ixB (false :: l) = ixB l + 1 := rfl
    rw [h1] at h
    exact ixB_false (l := l) (by omega)
theorem idK_hit {l : List SItm} {n : Int} (h : idK l n < l.length) : (nth l (idK l n)).id = n := by
  have h1 := ixB_true (l := idB l n) (by rw [idB_len]; exact h)
  have h2 := idB_get (n := n) h
  rw [show (idB l n).getD (idK l n) false = true from h1] at h2
  exact of_decide_eq_true h2.symm
theorem idK_no {l : List SItm} {n : Int} {i : Nat} (h : i < idK l n) : (nth l i).id ≠ n := by
  have h1 := ixB_false (l := idB l n) h
  have h2 := idB_get (l := l) (n := n) (k := i) (by have := idK_le l n; omega)
  rw [h1] at h2
  exact of_decide_eq_false h2.symm
theorem itm_e0 {nx : Int} {l : List SItm} {i : Nat} (h : itmE nx l i = 0) : e0E nx l i = 0 ∧ decE (nth l i).by_ = 0 ∧ ¬ (nth l i).by_ ∈ (l.take i).map SItm.by_ := by
  rw [← itm_eq nx l i (P := (nth l i).by_ ∈ (l.take i).map SItm.by_) (dP := inferInstance) Iff.rfl] at h
  simp only [firstV, e1E] at h
  grind
theorem itm_rng {nx : Int} {l : List SItm} {i : Nat} (h : itmE nx l i = 0) : (256 ≤ (nth l i).id ∧ (nth l i).id ≤ nx - 1) ∧ (i = 0 ∨ (nth l (i - 1)).id < (nth l i).id) := by
  have h1 := (itm_e0 h).1
  unfold e0E at h1
  split at h1
  · rename_i h2
    split at h1
    · rename_i h3; exact ⟨h2, h3⟩
    · simp at h1
  · simp at h1
theorem asc_of {nx : Int} {l : List SItm} (h : ∀ k, k < l.length → itmE nx l k = 0) : ∀ j, j < l.length → ∀ i, i < j → (nth l i).id < (nth l j).id
  | 0, _, i, hi => absurd hi (Nat.not_lt_zero _)
  | j + 1, hj, i, hi => by
    have h1 := (itm_rng (h (j + 1) hj)).2
    have h2 : (nth l j).id < (nth l (j + 1)).id := by
      rcases h1 with h1 | h1
      · omega
      · simpa using h1
    rcases Nat.lt_or_ge i j with h3 | h3
    · exact Int.lt_trans (asc_of h j (by omega) i h3) h2
    · obtain rfl : i = j := by omega
      exact h2
def idC (l : List SItm) (n : Int) : List Int := l.map fun x => x.id - n
theorem idC_len (l : List SItm) (n : Int) : (idC l n).length = l.length := by simp [idC]
theorem idC_get {l : List SItm} {n : Int} {k : Nat} (h : k < l.length) : (idC l n).getD k 0 = (nth l k).id - n := by
  unfold idC; rw [getD_map (d := default) h]; rfl
theorem bs_id {l : List SItm} {n : Int} (ha : ∀ j, j < l.length → ∀ i, i < j → (nth l i).id < (nth l j).id) : bsF' (idC l n) = decide (idK l n < l.length) ∧ (idK l n < l.length → bsL (idC l n) = idK l n) := by
  by_cases hk : idK l n < l.length
  · have h0 := idK_hit hk
    have hb : bsL (idC l n) = idK l n := bsL_spec (by rw [idC_len]; omega) (fun i hi => by rw [idC_get (by omega)]; have := ha _ hk i hi; omega) (fun i h1 h2 => by
      rw [idC_len] at h2
      rw [idC_get h2]
      rcases Nat.lt_or_ge (idK l n) i with h3 | h3
      · have := ha i h2 _ h3; omega
      · obtain rfl : i = idK l n := by omega
        omega)
    refine ⟨?_, fun _ => hb⟩
    unfold bsF'
    rw [hb, idC_len, idC_get hk, h0]
    simp [hk]
  · refine ⟨?_, fun h => absurd h hk⟩
    rw [decide_eq_false hk]
    unfold bsF'
    rw [idC_len]
    by_cases hb : bsL (idC l n) < l.length
    · rw [idC_get hb]
      have : (nth l (bsL (idC l n))).id ≠ n := idK_no (by have := idK_le l n; omega)
      have : ¬ (nth l (bsL (idC l n))).id - n = 0 := by omega
      simp [this]
    · simp [hb]
def dofT (nx : Int) (l : List SItm) (n : Int) : Dsc × Int :=
  if (stoE nx l).2 = 0 then if 256 ≤ n ∧ n ≤ 2147483647 then if idK l n < l.length then (decD (nth l (idK l n)).by_, decE (nth l (idK l n)).by_) else (noD, 6) else (noD, 6) else (noD, (stoE nx l).2)
/-! ## Items used -/
def hasB (u : List Int) (n : Int) : List Bool := u.map fun x => decide (n = x)
theorem hasB_get {u : List Int} {n : Int} {k : Nat} (h : k < u.length) : (hasB u n).getD k false = decide (n = u.getD k 0) := by
  unfold hasB; rw [getD_map (d := 0) h]
theorem hasB_len (u : List Int) (n : Int) : (hasB u n).length = u.length := by simp [hasB]
theorem hasB_any (u : List Int) (n : Int) : (hasB u n).any id = decide (n ∈ u) := by
  rw [Bool.eq_iff_iff, List.any_eq_true, decide_eq_true_eq]
  constructor
  · rintro ⟨b, hb, h⟩
    obtain ⟨x, hx, rfl⟩ := List.mem_map.1 hb
    rw [of_decide_eq_true (p := n = x) h]; exact hx
  · intro h
    exact ⟨true, List.mem_map.2 ⟨n, h, by simp⟩, rfl⟩
def mx0 (n : Int) : Int := if n < 0 then 0 else n
def usedAt (l : List SItm) (u : List Int) (i : Nat) : Int := if idK l (u.getD i 0) < l.length then if i = 0 ∨ u.getD (i - 1) 0 < u.getD i 0 then 0 else 9 else 6
def usedEs (l : List SItm) (u : List Int) : List Int := (List.range u.length).map (usedAt l u)
theorem used_len (l : List SItm) (u : List Int) : (usedEs l u).length = u.length := by simp [usedEs]
theorem used_get {l : List SItm} {u : List Int} {k : Nat} (h : k < u.length) : (usedEs l u).getD k 0 = usedAt l u k := by
  unfold usedEs
  rw [List.getD_eq_getElem?_getD, List.getElem?_map, List.getElem?_range h]
  rfl
def usedE (l : List SItm) (u : List Int) : Int := (eachF (usedEs l u) 0).2
def colE (nx : Int) (l : List SItm) (u : List Int) : Int := if (stoE nx l).2 = 0 then usedE l u else (stoE nx l).2
def keptL (u : List Int) (l : List SItm) : List SItm := l.filter fun x => decide (x.id ∈ u)
def goneL (u : List Int) (l : List SItm) : List Int := (l.filter fun x => !decide (x.id ∈ u)).map SItm.id
theorem kept_succ {u : List Int} {l : List SItm} {k : Nat} (h : k < l.length) : keptL u (l.take (k + 1)) = if (nth l k).id ∈ u then keptL u (l.take k) ++ [nth l k] else keptL u (l.take k) := by
  unfold keptL
  rw [take_succ_getD (d := default) h, List.filter_append, List.filter_cons, List.filter_nil]
  unfold nth
  generalize l.getD k default = x
  by_cases hq : x.id ∈ u <;> simp [hq]
theorem gone_succ {u : List Int} {l : List SItm} {k : Nat} (h : k < l.length) : goneL u (l.take (k + 1)) = if (nth l k).id ∈ u then goneL u (l.take k) else goneL u (l.take k) ++ [(nth l k).id] := by
  unfold goneL
  rw [take_succ_getD (d := default) h, List.filter_append, List.filter_cons, List.filter_nil, List.map_append]
  unfold nth
  generalize l.getD k default = x
  by_cases hq : x.id ∈ u <;> simp [hq]
theorem kept_le (u : List Int) (l : List SItm) : (keptL u l).length ≤ l.length := List.length_filter_le _ _
theorem gone_le (u : List Int) (l : List SItm) : (goneL u l).length ≤ l.length := by
  unfold goneL; rw [List.length_map]; exact List.length_filter_le _ _
theorem idK_none {l : List SItm} {n : Int} (h : ∀ k, k < l.length → (nth l k).id ≠ n) : ¬ idK l n < l.length := fun hk => h _ hk (idK_hit hk)
theorem idK_mx {l : List SItm} {n : Int} (h : ∀ k, k < l.length → 256 ≤ (nth l k).id) : decide (idK l (mx0 n) < l.length) = decide (idK l n < l.length) := by
  unfold mx0
  split
  · rw [decide_eq_false (idK_none fun k hk => by have := h k hk; omega), decide_eq_false (idK_none fun k hk => by have := h k hk; omega)]
  · rfl
structure ColR where
  nx : Int
  l : List SItm
  g : List Int
def colT (nx : Int) (l : List SItm) (u : List Int) : ColR := if colE nx l u = 0 then ⟨nx, keptL u l, goneL u l⟩ else ⟨0, [], []⟩
/-! ## Limits -/
def cntS (n : Nat) : Bool := !(decide (14 < n) && decide (n ≤ 60) || decide (62 < n))
def fewS (l : List SItm) : Bool := cntS l.length && l.all fun x => decide (x.by_.length ≤ 300)
theorem fewS_ok {l : List SItm} (h : fewS l = true) : l.length ≤ 62 ∧ ∀ x ∈ l, x.by_.length ≤ 300 := by
  unfold fewS cntS at h
  simp only [Bool.and_eq_true, List.all_eq_true, decide_eq_true_eq, Bool.not_eq_true', Bool.or_eq_false_iff, decide_eq_false_iff_not] at h
  exact ⟨by omega, h.2⟩
theorem allS_succ {l : List SItm} {k : Nat} {p : SItm → Bool} (h : k < l.length) : (l.take (k + 1)).all p = ((l.take k).all p && p (nth l k)) := by
  rw [take_succ_getD (d := default) h, List.all_append]; simp [nth]
theorem allS_no {l : List SItm} {k : Nat} {p : SItm → Bool} (h : k < l.length) (h2 : p (nth l k) = false) : l.all p = false := by
  rw [← Bool.not_eq_true]
  intro h3
  have := List.all_eq_true.1 h3 (nth l k) (getD_mem h)
  rw [h2] at this; cases this
def fewD (d : Dsc) : Bool := decide (d.en.length ≤ 20) && decide (d.au.length ≤ 20)
end Gx

namespace Go.Proofs
open Go Go.RowKit Gx
set_option linter.unusedVariables false
set_option linter.unusedSimpArgs false
attribute [local irreducible] Go.Calls Gx.S Gx.O Gx.D Gx.OpP Gx.OpQ Gx.OpH

theorem fn_96 : isFn Tryz.prog 96 = true := by kernel_rfl
theorem fn_69 : isFn Tryz.prog 69 = true := by kernel_rfl
theorem sl_31 : tsl Tryz.prog 31 = some (3, 1, 8) := by kernel_rfl
theorem fd_50_1 : tfd Tryz.prog 50 1 = some (1, 9) := by kernel_rfl
theorem sz_9 : tsz Tryz.prog 9 = some (1, false) := by kernel_rfl
theorem fn_33 : isFn Tryz.prog 33 = true := by kernel_rfl
theorem fd_24_1 : tfd Tryz.prog 24 1 = some (1, 22) := by kernel_rfl
theorem sz_22 : tsz Tryz.prog 22 = some (1, false) := by kernel_rfl
theorem fn_41 : isFn Tryz.prog 41 = true := by kernel_rfl


theorem fl_wrap {m : Int} (h : 0 ≤ m ∧ m ≤ 1000000000000) : Value.int .i64 (IntKind.i64.wrap ((-m).tdiv 16)) = .int .i64 (-(m / 16)) := by
  rw [fl_tdiv h.1]; exact i64w (by omega) (by omega)

set_option maxRecDepth 20000 in
theorem c33 (w : World) (m : Int) (hm : 0 ≤ m ∧ m ≤ 1000000000000) : Calls Tryz.prog 33 #[.int .i64 m] w fun en w' => en = .returned (.int .i64 (upT m)) ∧ Below w.heap.size w w' := by
  refine enter (args := [_]) Tryz.func33 Tryz.ntmps33 rfl rfl (HS.refl w []) ?_
  refine s_seq ?_
  refine s_region ?_
  refine o_p (p_pure rfl) rfl ?_
  refine o_nil ?_
  refine s_seq ?_
  refine s_region ?_
  refine o_p (p_pure rfl) rfl ?_
  refine o_p (p_pure rfl) rfl ?_
  try (refine o_slot (i64w (by omega) (by omega)) ?_)
  refine o_p (p_pure rfl) rfl ?_
  try (refine o_slot (i64w (by omega) (by omega)) ?_)
  refine o_p (p_quo_nn rfl rfl rfl (by omega) (by omega) (by omega)) rfl ?_
  refine o_p (p_pure rfl) rfl ?_
  try (refine o_slot (i64w (by omega) (by omega)) ?_)
  refine o_p (p_pure rfl) rfl ?_
  refine o_nil ?_
  exact s_retv (rs := [.tmp 2]) rfl (.tmp rfl (.nil)) (fun w' h' => ⟨by unfold upT; rw [show m + 16 - 1 = m + 15 by omega]; rfl, h'.below⟩)

set_option maxRecDepth 20000 in
theorem c96 (w : World) (m : Int) (hm : 0 ≤ m ∧ m ≤ 1000000000000) : Calls Tryz.prog 96 #[.int .i64 (-m), .int .i64 16] w fun en w' => en = .returned (.int .i64 (-((m + 15) / 16))) ∧ Below w.heap.size w w' := by
  refine enter (args := [_, _]) Tryz.func96 Tryz.ntmps96 rfl rfl (HS.refl w []) ?_
  refine s_seq ?_
  refine s_region ?_
  refine o_p (p_pure rfl) rfl ?_
  refine o_nil ?_
  refine s_seq ?_
  refine s_region ?_
  refine o_p (p_pure rfl) rfl ?_
  refine o_p (p_pure rfl) rfl ?_
  refine o_p (p_quo rfl rfl rfl (by decide)) rfl ?_
  refine o_slot (fl_wrap hm) ?_
  refine o_p (p_pure rfl) rfl ?_
  refine o_nil ?_
  refine s_seq ?_
  refine s_seq ?_
  refine s_region ?_
  refine o_p (p_pure rfl) rfl ?_
  refine o_p (p_pure rfl) rfl ?_
  refine o_p (p_rem rfl rfl rfl (by decide)) rfl ?_
  refine o_slot (show _ = Value.int .i64 (-(m % 16)) from by rw [fl_tmod hm.1]) ?_
  refine o_p (p_pure rfl) rfl ?_
  refine o_nil ?_
  refine s_cond rfl (fun h1 => ?_) (fun h1 => ?_)
  · try simp only [decide_eq_true_eq, decide_eq_false_iff_not, Bool.not_eq_true', Bool.not_eq_false', Bool.and_eq_true, Bool.or_eq_true, Bool.and_eq_false_iff, Bool.or_eq_false_iff, Bool.not_true, Bool.not_false] at h1
    refine s_region ?_
    refine o_p (p_pure rfl) rfl ?_
    refine o_p (p_pure rfl) rfl ?_
    try (refine o_slot (i64w (by omega) (by omega)) ?_)
    refine o_p (p_pure rfl) rfl ?_
    refine o_nil ?_
    refine s_seq ?_
    refine s_region ?_
    refine o_p (p_pure rfl) rfl ?_
    refine o_p (p_pure rfl) rfl ?_
    refine o_nil ?_
    exact s_retv (rs := [.tmp 4]) rfl (.tmp rfl (.nil)) (fun w' h' => ⟨by simp only [retV]; congr 2; omega, h'.below⟩)
  · try simp only [decide_eq_true_eq, decide_eq_false_iff_not, Bool.not_eq_true', Bool.not_eq_false', Bool.and_eq_true, Bool.or_eq_true, Bool.and_eq_false_iff, Bool.or_eq_false_iff, Bool.not_true, Bool.not_false] at h1
    refine s_skip ?_
    refine s_seq ?_
    refine s_region ?_
    refine o_p (p_pure rfl) rfl ?_
    refine o_p (p_pure rfl) rfl ?_
    refine o_nil ?_
    exact s_retv (rs := [.tmp 4]) rfl (.tmp rfl (.nil)) (fun w' h' => ⟨by simp only [retV]; congr 2; omega, h'.below⟩)

set_option maxRecDepth 20000 in
theorem c69 (w : World) (m : Int) (hm : 0 ≤ m ∧ m ≤ 1000000000000) : Calls Tryz.prog 69 #[.int .i64 m, .int .i64 16] w fun en w' => en = .returned (.int .i64 ((m + 15) / 16)) ∧ Below w.heap.size w w' := by
  refine enter (args := [_, _]) Tryz.func69 Tryz.ntmps69 rfl rfl (HS.refl w []) ?_
  refine s_seq ?_
  refine s_region ?_
  refine o_p (p_pure rfl) rfl ?_
  refine o_nil ?_
  refine s_seq ?_
  refine s_region ?_
  refine o_p (p_pure rfl) rfl ?_
  refine o_p (p_pure rfl) rfl ?_
  try (refine o_slot (i64w (by omega) (by omega)) ?_)
  refine o_slot (show _ = Value.int .i64 (-m) from by rw [Int.zero_sub]) ?_
  refine o_p (p_pure rfl) rfl ?_
  refine o_q (q_call rfl fn_96 rfl (fun w1 h1 => c96 w1 m hm)) rfl ?_
  refine o_p (p_pure rfl) rfl ?_
  try (refine o_slot (i64w (by omega) (by omega)) ?_)
  refine o_slot (show _ = Value.int .i64 ((m + 15) / 16) from by congr 1; omega) ?_
  refine o_p (p_pure rfl) rfl ?_
  refine o_nil ?_
  exact s_retv (rs := [.tmp 4]) rfl (.tmp rfl (.nil)) (fun w' h' => ⟨by rfl, h'.below⟩)

set_option maxRecDepth 20000 in
theorem c41 (w : World) (m : Int) (hm : 0 ≤ m ∧ m ≤ 1000000000000) : Calls Tryz.prog 41 #[.int .i64 m] w fun en w' => en = .returned (.int .i64 (upT m)) ∧ Below w.heap.size w w' := by
  refine enter (args := [_]) Tryz.func41 Tryz.ntmps41 rfl rfl (HS.refl w []) ?_
  refine s_seq ?_
  refine s_region ?_
  refine o_p (p_pure rfl) rfl ?_
  refine o_nil ?_
  refine s_seq ?_
  refine s_region ?_
  refine o_p (p_pure rfl) rfl ?_
  refine o_q (q_call rfl fn_69 rfl (fun w1 h1 => c69 w1 m hm)) rfl ?_
  refine o_p (p_pure rfl) rfl ?_
  try (refine o_slot (i64w (by omega) (by omega)) ?_)
  refine o_p (p_pure rfl) rfl ?_
  refine o_nil ?_
  exact s_retv (rs := [.tmp 2]) rfl (.tmp rfl (.nil)) (fun w' h' => ⟨by rfl, h'.below⟩)

set_option maxRecDepth 20000 in
theorem c45 (w : World) (a : Option Addr) (cap : Nat) (l : List SItm) (hs : Rw SItm.vals 2 w [] a l) (hm : l.length ≤ 100000) (hb : ∀ x ∈ l, x.by_.length ≤ 100000) : Calls Tryz.prog 45 #[.slice a l.length cap] w fun en w' => ∃ g : Option Addr × Nat, en = .returned (.tuple #[.slice g.1 l.length g.2, .int .i64 (plsI l).2]) ∧ True ∧ HS w [] [.own (.slice g.1 l.length g.2) 3 1 l.length ((plsI l).1.map nv)] w' := by
  refine enter (args := [_]) Tryz.func45 Tryz.ntmps45 rfl rfl (HS.refl w []) ?_
  refine s_seq ?_
  refine s_region ?_
  refine o_p (p_pure rfl) rfl ?_
  refine o_p (p_pure rfl) rfl ?_
  refine o_nil ?_
  refine s_seq ?_
  refine s_region ?_
  refine o_p (p_pure rfl) rfl ?_
  refine o_nil ?_
  refine s_seq ?_
  refine s_region ?_
  refine o_p (p_pure rfl) rfl ?_
  refine o_nil ?_
  refine s_seq ?_
  refine s_seq ?_
  refine s_region ?_
  refine o_p (p_pure rfl) rfl ?_
  refine o_p (p_len_slice rfl rfl Tryz.underlying22) rfl ?_
  refine o_p (p_pure rfl) rfl ?_
  refine o_nil ?_
  refine s_block ?_
  refine s_loopI (α := Nat × Option Addr × Nat) [4, 5, 7, 10, 11, 12, 13, 14, 15, 16, 17, 18, 19, 20, 21, 22, 23, 24, 25] (fun y => [(10, .int .i64 (y.1 : Int)), (4, .int .i64 (plsI (l.take y.1)).2), (5, .slice y.2.1 (plsI (l.take y.1)).1.length y.2.2)]) (fun y => HS w [] [.own (.slice y.2.1 (plsI (l.take y.1)).1.length y.2.2) 3 1 (plsI (l.take y.1)).1.length ((plsI (l.take y.1)).1.map nv)]) (fun y => y.1 ≤ l.length) (fun y => l.length - y.1) (0, none, 0) (Nat.zero_le _) aSx (fun w h => (h.own_nil 3 1).ent aEt) (fun ⟨k, ga, gc⟩ hk1 => ?_)
  dsimp only
  simp only [] at hk1
  refine s_seq ?_
  refine s_region ?_
  refine o_p (p_pure rfl) rfl ?_
  refine o_nil ?_
  refine s_seq ?_
  refine s_cond rfl (fun h1 => ?_) (fun h1 => ?_)
  · try simp only [decide_eq_true_eq, decide_eq_false_iff_not, Bool.not_eq_true', Bool.not_eq_false', Bool.and_eq_true, Bool.or_eq_true, Bool.and_eq_false_iff, Bool.or_eq_false_iff, Bool.not_true, Bool.not_false] at h1
    have hk : k < l.length := by omega
    have hst := pls_succ hk
    have hpl := pls_len k l (by omega)
    have hpb := pls_le hb k (by omega)
    have hb9 : (nth l k).by_.length ≤ 100000 := hb _ (getD_mem hk)
    have hpu : 0 ≤ upT (16 + ((nth l k).by_.length : Int)) ∧ upT (16 + ((nth l k).by_.length : Int)) ≤ 100032 := by unfold upT; omega
    refine s_skip ?_
    refine s_seq ?_
    refine s_block ?_
    refine s_seq ?_
    refine s_region ?_
    refine o_p (p_indexAddr rfl rfl rfl sl_22 (k) (by omega) (by omega) (Rw.some hs (by omega))) rfl ?_
    refine o_q (q_load_oldn _ rfl rfl sz_50 rfl (Rw.rd hs (by omega))) rfl ?_
    refine o_h (h_alloc rfl zr_50) rfl (fun b2 _ => ?_)
    refine o_h0 (h_store rfl rfl rfl sz_50 rfl aPt (by simp only [setMany_length, List.length_set, List.length_cons, List.length_nil, List.length_map]; omega) rfl) (fun _ _ => ?_)
    refine o_nil ?_
    refine s_seq ?_
    refine s_region ?_
    refine o_p (p_pure rfl) rfl ?_
    refine o_p (p_pure rfl) rfl ?_
    refine o_h (h_buildSlice (cs := [_]) rfl rfl sl_31 zr_3 rfl rfl rfl) rfl (fun b3 _ => ?_)
    refine o_h (h_appendS _ rfl rfl rfl sl_31 Tryz.underlying31 zr_3 rfl aPk (src_blk aPk) rfl (by intro u hu; simp only [List.mem_cons, List.mem_nil_iff, or_false] at hu; subst hu; rfl) (by omega) (by simp only [maxLen]; omega)) rfl (fun b4 _ => ?_)
    refine o_p (p_pure rfl) rfl ?_
    refine o_nil ?_
    refine s_region ?_
    refine o_p (p_pure rfl) rfl ?_
    refine o_p (p_fieldAddr rfl rfl fd_50_1 sz_9 rfl) rfl ?_
    refine o_q (q_load rfl rfl sz_9 aPk rfl) rfl ?_
    refine o_p (p_len_str rfl rfl Tryz.underlying9) rfl ?_
    refine o_p (p_pure rfl) rfl ?_
    try (refine o_slot (i64w (by omega) (by omega)) ?_)
    refine o_q (q_call rfl fn_33 rfl (fun w1 h1 => c33 w1 _ (by omega))) rfl ?_
    refine o_p (p_pure rfl) rfl ?_
    try (refine o_slot (i64w (by omega) (by omega)) ?_)
    refine o_p (p_pure rfl) rfl ?_
    refine o_nil ?_
    refine s_blk ?_
    refine s_region ?_
    refine o_p (p_pure rfl) rfl ?_
    try (refine o_slot (i64w (by omega) (by omega)) ?_)
    refine o_p (p_pure rfl) rfl ?_
    refine o_nil ?_
    exact s_backI (k + 1, b4.1, b4.2) (by (try simp only []); omega) (by (try simp only []); omega) (by dsimp only; rw [hst, List.length_append]; exact aSx) (fun w h => by dsimp only; rw [hst, List.length_append, List.map_append]; exact h.ent aEt)
  · try simp only [decide_eq_true_eq, decide_eq_false_iff_not, Bool.not_eq_true', Bool.not_eq_false', Bool.and_eq_true, Bool.or_eq_true, Bool.and_eq_false_iff, Bool.or_eq_false_iff, Bool.not_true, Bool.not_false] at h1
    obtain rfl : k = l.length := by omega
    rw [List.take_length]
    refine s_exit_to rfl ?_
    refine s_seq ?_
    refine s_region ?_
    refine o_p (p_pure rfl) rfl ?_
    refine o_p (p_pure rfl) rfl ?_
    refine o_p (p_pure rfl) rfl ?_
    refine o_p (p_pure rfl) rfl ?_
    refine o_nil ?_
    exact s_retv (rs := [.tmp 2, .tmp 3]) rfl (.tmp rfl (.tmp rfl (.nil))) (fun w' h' => ⟨(ga, gc), by rw [pls_len']; rfl, trivial, by have h2 := h'; rw [pls_len'] at h2; exact h2.ent aEt⟩)

set_option maxRecDepth 20000 in
theorem c15 (w : World) (nx : Int) (a : Option Addr) (cap : Nat) (l : List SItm) (hs : Rw SItm.vals 2 w [] a l) (hm : l.length ≤ 100000) (hb : ∀ x ∈ l, x.by_.length ≤ 100000) : Calls Tryz.prog 15 #[.agg #[.int .i64 nx, .slice a l.length cap]] w fun en w' => ∃ g : Option Addr × Nat, en = .returned (.tuple #[.slice g.1 l.length g.2, .int .i64 (plsI l).2]) ∧ True ∧ HS w [] [.own (.slice g.1 l.length g.2) 3 1 l.length ((plsI l).1.map nv)] w' := by
  refine enter (args := [_]) Tryz.func15 Tryz.ntmps15 rfl rfl (HS.refl w []) ?_
  refine s_seq ?_
  refine s_region ?_
  refine o_h (h_box rfl rfl) rfl (fun b1 _ => ?_)
  refine o_p (p_pure rfl) rfl ?_
  refine o_p (p_pure rfl) rfl ?_
  refine o_nil ?_
  refine s_seq ?_
  refine s_region ?_
  refine o_p (p_pure rfl) rfl ?_
  refine o_nil ?_
  refine s_seq ?_
  refine s_region ?_
  refine o_p (p_pure rfl) rfl ?_
  refine o_nil ?_
  refine s_seq ?_
  refine s_seq ?_
  refine s_region ?_
  refine o_p (p_pure rfl) rfl ?_
  refine o_nil ?_
  refine s_block ?_
  refine s_loopI (α := Nat × Option Addr × Nat) [4, 5, 6, 7, 8, 9, 10, 11, 12, 13, 14, 15, 16, 17, 18, 19, 20, 21, 22, 23, 24, 25, 26, 27, 28] (fun y => [(6, .int .i64 (y.1 : Int)), (4, .int .i64 (plsI (l.take y.1)).2), (5, .slice y.2.1 (plsI (l.take y.1)).1.length y.2.2)]) (fun y => HS w [] [.own (.slice y.2.1 (plsI (l.take y.1)).1.length y.2.2) 3 1 (plsI (l.take y.1)).1.length ((plsI (l.take y.1)).1.map nv), .blk b1 24 2 [.int .i64 nx, .slice a l.length cap]]) (fun y => y.1 ≤ l.length) (fun y => l.length - y.1) (0, none, 0) (Nat.zero_le _) aSx (fun w h => (h.own_nil 3 1).ent aEt) (fun ⟨k, ga, gc⟩ hk1 => ?_)
  dsimp only
  simp only [] at hk1
  refine s_seq ?_
  refine s_seq ?_
  refine s_region ?_
  refine o_p (p_pure rfl) rfl ?_
  refine o_p (p_fieldAddr rfl rfl fd_24_1 sz_22 rfl) rfl ?_
  refine o_q (q_load rfl rfl sz_22 aPk rfl) rfl ?_
  refine o_p (p_len_slice rfl rfl Tryz.underlying22) rfl ?_
  refine o_p (p_pure rfl) rfl ?_
  refine o_nil ?_
  refine s_cond rfl (fun h2 => ?_) (fun h2 => ?_)
  · try simp only [decide_eq_true_eq, decide_eq_false_iff_not, Bool.not_eq_true', Bool.not_eq_false', Bool.and_eq_true, Bool.or_eq_true, Bool.and_eq_false_iff, Bool.or_eq_false_iff, Bool.not_true, Bool.not_false] at h2
    have hk : k < l.length := by omega
    have hst := pls_succ hk
    have hpl := pls_len k l (by omega)
    have hpb := pls_le hb k (by omega)
    have hb9 : (nth l k).by_.length ≤ 100000 := hb _ (getD_mem hk)
    have hpu : 0 ≤ upT (16 + ((nth l k).by_.length : Int)) ∧ upT (16 + ((nth l k).by_.length : Int)) ≤ 100032 := by unfold upT; omega
    refine s_skip ?_
    refine s_seq ?_
    refine s_block ?_
    refine s_seq ?_
    refine s_region ?_
    refine o_p (p_pure rfl) rfl ?_
    refine o_p (p_pure rfl) rfl ?_
    refine o_h (h_buildSlice (cs := [_]) rfl rfl sl_31 zr_3 rfl rfl rfl) rfl (fun b3 _ => ?_)
    refine o_h (h_appendS _ rfl rfl rfl sl_31 Tryz.underlying31 zr_3 rfl aPk (src_blk aPk) rfl (by intro u hu; simp only [List.mem_cons, List.mem_nil_iff, or_false] at hu; subst hu; rfl) (by omega) (by simp only [maxLen]; omega)) rfl (fun b4 _ => ?_)
    refine o_p (p_pure rfl) rfl ?_
    refine o_nil ?_
    refine s_region ?_
    refine o_p (p_pure rfl) rfl ?_
    refine o_p (p_fieldAddr rfl rfl fd_24_1 sz_22 rfl) rfl ?_
    refine o_q (q_load rfl rfl sz_22 aPk rfl) rfl ?_
    refine o_p (p_pure rfl) rfl ?_
    refine o_p (p_indexAddr rfl rfl rfl sl_22 (k) (by omega) (by omega) (Rw.some hs (by omega))) rfl ?_
    refine o_p (p_fieldAddr rfl rfl fd_50_1 sz_9 rfl) rfl ?_
    refine o_q (q_load_old rfl rfl sz_9 ((hs.rdj 1 hk rfl))) rfl ?_
    refine o_p (p_len_str rfl rfl Tryz.underlying9) rfl ?_
    refine o_p (p_pure rfl) rfl ?_
    try (refine o_slot (i64w (by omega) (by omega)) ?_)
    refine o_q (q_call rfl fn_41 rfl (fun w1 h1 => c41 w1 _ (by omega))) rfl ?_
    refine o_p (p_pure rfl) rfl ?_
    try (refine o_slot (i64w (by omega) (by omega)) ?_)
    refine o_p (p_pure rfl) rfl ?_
    refine o_nil ?_
    refine s_blk ?_
    refine s_region ?_
    refine o_p (p_pure rfl) rfl ?_
    refine o_p (p_pure rfl) rfl ?_
    try (refine o_slot (i64w (by omega) (by omega)) ?_)
    refine o_p (p_pure rfl) rfl ?_
    refine o_nil ?_
    exact s_backI (k + 1, b4.1, b4.2) (by (try simp only []); omega) (by (try simp only []); omega) (by dsimp only; rw [hst, List.length_append]; exact aSx) (fun w h => by dsimp only; rw [hst, List.length_append, List.map_append]; exact h.ent aEt)
  · try simp only [decide_eq_true_eq, decide_eq_false_iff_not, Bool.not_eq_true', Bool.not_eq_false', Bool.and_eq_true, Bool.or_eq_true, Bool.and_eq_false_iff, Bool.or_eq_false_iff, Bool.not_true, Bool.not_false] at h2
    obtain rfl : k = l.length := by omega
    rw [List.take_length]
    refine s_exit_to rfl ?_
    refine s_seq ?_
    refine s_region ?_
    refine o_p (p_pure rfl) rfl ?_
    refine o_p (p_pure rfl) rfl ?_
    refine o_p (p_pure rfl) rfl ?_
    refine o_p (p_pure rfl) rfl ?_
    refine o_nil ?_
    exact s_retv (rs := [.tmp 2, .tmp 3]) rfl (.tmp rfl (.tmp rfl (.nil))) (fun w' h' => ⟨(ga, gc), by rw [pls_len']; rfl, trivial, by have h2 := h'; rw [pls_len'] at h2; exact h2.ent aEt⟩)

end Go.Proofs

namespace Go.Proofs
open Go Go.RowKit Gx
set_option linter.unusedVariables false
set_option linter.unusedSimpArgs false
attribute [local irreducible] Go.Calls Gx.S Gx.O Gx.D Gx.OpP Gx.OpQ Gx.OpH

theorem fd_50_0 : tfd Tryz.prog 50 0 = some (0, 3) := by kernel_rfl
theorem fd_24_0 : tfd Tryz.prog 24 0 = some (0, 3) := by kernel_rfl
theorem fn_62 : isFn Tryz.prog 62 = true := by kernel_rfl
theorem fn_50 : isFn Tryz.prog 50 = true := by kernel_rfl
theorem fn_49 : isFn Tryz.prog 49 = true := by kernel_rfl
theorem fn_78 : isFn Tryz.prog 78 = true := by kernel_rfl
theorem sz_124 : tsz Tryz.prog 124 = some (1, false) := by kernel_rfl
theorem zv_4 : tzv Tryz.prog 4 = some (.bool false) := by kernel_rfl
theorem fn_77 : isFn Tryz.prog 77 = true := by kernel_rfl
theorem zr_124 : tzero Tryz.prog 124 = some [.map none] := by kernel_rfl
theorem fn_76 : isFn Tryz.prog 76 = true := by kernel_rfl
theorem fn_45 : isFn Tryz.prog 45 = true := by kernel_rfl
theorem sz_24 : tsz Tryz.prog 24 = some (2, true) := by kernel_rfl
theorem fn_52 : isFn Tryz.prog 52 = true := by kernel_rfl


set_option maxRecDepth 20000 in
theorem c77 (w : World) (r bS bM i : Nat) (ks : List (List UInt8)) (nx : Int) (a : Option Addr) (cap : Nat) (l : List SItm) (hw : HS w [r] [.mp r KS (ks)] w) (hA1 : Rd w [r] bS 0 (.int .i64 nx)) (hA2 : Rd w [r] bS 1 (.slice a l.length cap)) (hA5 : Rd w [r] bM 0 (.map (some r))) (hs : Rw SItm.vals 2 w [r] a l) (hm : l.length ≤ 100000) (hb : ∀ x ∈ l, x.by_.length ≤ 100000) (hnx : 0 ≤ nx ∧ nx ≤ 2147483647) (hi : i < l.length) (hks : ∀ y, y ∈ ks ↔ y ∈ (l.take i).map SItm.by_) : Calls Tryz.prog 77 #[.int .i64 (i : Int), .agg #[.int .i64 (nth l i).id, .string (bs (nth l i).by_)], .pointer (some ⟨bS, 0, none⟩), .pointer (some ⟨bM, 0, none⟩)] w fun en w' => ∃ g : List (List UInt8), en = .returned (.int .i64 (itmE nx l i)) ∧ (∀ y, y ∈ g ↔ y ∈ (l.take (i + 1)).map SItm.by_) ∧ HS w [r] [.mp r KS (g)] w' := by
  have hbi : (nth l i).by_.length ≤ 100000 := hb _ (getD_mem hi)
  refine enter (args := [_, _, _, _]) Tryz.func77 Tryz.ntmps77 rfl rfl hw ?_
  refine s_seq ?_
  refine s_region ?_
  refine o_h (h_box rfl rfl) rfl (fun b1 _ => ?_)
  refine o_p (p_pure rfl) rfl ?_
  refine o_nil ?_
  refine s_seq ?_
  refine s_draw [] mixed ?_
  refine d_p 0 rfl (p_fieldAddr rfl rfl fd_50_0 sz_3 rfl) (by kernel_rfl) rfl rfl ?_
  refine d_q 1 [] rfl (q_load rfl rfl sz_3 aPk rfl) (by kernel_rfl) (by kernel_rfl) (by kernel_rfl) rfl ?_
  refine d_p 2 rfl (p_fieldAddr rfl rfl fd_24_0 sz_3 rfl) (by kernel_rfl) rfl rfl ?_
  refine d_q 3 [] rfl (q_load_old rfl rfl sz_3 (hA1)) (by kernel_rfl) (by kernel_rfl) (by kernel_rfl) rfl ?_
  refine d_p 4 rfl (p_pure rfl) (by kernel_rfl) rfl rfl ?_
  try (refine d_slot (i64w (by omega) (by omega)) ?_)
  refine d_q 5 [] rfl (q_call rfl fn_62 rfl (fun w1 h1 => c62 w1 _ _ _)) (by kernel_rfl) (by kernel_rfl) (by kernel_rfl) rfl ?_
  refine d_q 6 [] rfl (q_call rfl fn_50 rfl (fun w1 h1 => c50 w1 _ _)) (by kernel_rfl) (by kernel_rfl) (by kernel_rfl) rfl ?_
  refine d_p 7 rfl (p_pure rfl) (by kernel_rfl) rfl rfl ?_
  refine d_p 8 rfl (p_pure rfl) (by kernel_rfl) rfl rfl ?_
  refine d_p 9 rfl (p_pure rfl) (by kernel_rfl) rfl rfl ?_
  apply d_split 17
  · exact rfl
  · intro hg2
    have hs3 := hg2; try simp only [decide_eq_true_eq, decide_eq_false_iff_not, Bool.not_eq_true', Bool.not_eq_false', Bool.and_eq_true, Bool.or_eq_true, Bool.and_eq_false_iff, Bool.or_eq_false_iff, Bool.not_true, Bool.not_false] at hs3
    refine d_off 10 17 rfl rfl rfl hg2 (by kernel_rfl) rfl rfl ?_
    refine d_off 11 17 rfl rfl rfl hg2 (by kernel_rfl) rfl rfl ?_
    refine d_off 12 17 rfl rfl rfl hg2 (by kernel_rfl) rfl rfl ?_
    refine d_off 13 17 rfl rfl rfl hg2 (by kernel_rfl) rfl rfl ?_
    refine d_off 14 17 rfl rfl rfl hg2 (by kernel_rfl) rfl rfl ?_
    refine d_off 15 17 rfl rfl rfl hg2 (by kernel_rfl) rfl rfl ?_
    refine d_off 16 17 rfl rfl rfl hg2 (by kernel_rfl) rfl rfl ?_
    refine d_off 17 17 rfl rfl rfl hg2 (by kernel_rfl) rfl rfl ?_
    refine d_off 18 17 rfl rfl rfl hg2 (by kernel_rfl) rfl rfl ?_
    refine d_off 19 17 rfl rfl rfl hg2 (by kernel_rfl) rfl rfl ?_
    refine d_off 20 17 rfl rfl rfl hg2 (by kernel_rfl) rfl rfl ?_
    refine d_p 21 rfl (p_pickt rfl rfl hg2 rfl) (by kernel_rfl) rfl rfl ?_
    refine d_q 22 [] rfl (q_call rfl fn_50 rfl (fun w1 h1 => c50 w1 _ _)) (by kernel_rfl) (by kernel_rfl) (by kernel_rfl) rfl ?_
    refine d_h 23 rfl (h_buildSlice (cs := [_, _]) rfl rfl sl_122 zr_27 rfl rfl rfl) (by kernel_rfl) (fun w h => h.ent aEt) rfl (fun b4 _ => ?_)
    refine d_base (fun w h => h.ent aEt) ?_
    refine d_q 24 [] rfl (q_call rfl fn_49 rfl (fun w1 h1 => f49 h1 aPk (by rfl) (by rfl) (by decide))) (by kernel_rfl) (by kernel_rfl) (by kernel_rfl) rfl ?_
    refine d_p 25 rfl (p_pure rfl) (by kernel_rfl) rfl rfl ?_
    refine d_nil (by kernel_rfl) (fun w h => by first | exact h | exact h.ent aEt) ?_
    refine s_seq ?_
    refine s_seq ?_
    refine s_weaken (L' := [(3, _), (5, _), (6, _), (7, _)]) aSx (fun _ h => h) ?_
    refine s_region ?_
    refine o_p (p_pure rfl) rfl ?_
    refine o_p (p_pure rfl) rfl ?_
    refine o_nil ?_
    refine s_cutI (α := Unit) [7, 35, 36, 37, 38, 39, 40] (fun _ => [(7, .int .i64 (e1E nx l i))]) (fun _ => HS w [r] [.mp r KS (ks), .blk b1 50 2 [.int .i64 (nth l i).id, .string (bs (nth l i).by_)]]) (fun _ => True) ?_ ?_
    · skip
      refine s_cond rfl (fun h5 => ?_) (fun h5 => ?_)
      · try simp only [decide_eq_true_eq, decide_eq_false_iff_not, Bool.not_eq_true', Bool.not_eq_false', Bool.and_eq_true, Bool.or_eq_true, Bool.and_eq_false_iff, Bool.or_eq_false_iff, Bool.not_true, Bool.not_false] at h5
        have he9 := e0_first (nx := nx) (l := l) (i := i) (b := decide (i = 0 ∨ (nth l (i - 1)).id < (nth l i).id)) rfl
        have hi9 : ((i : Int) = 0) ↔ i = 0 := by omega
        have hg9 := hg2
        (have hi0 : i = 0 := by (simp at hg9; exact hg9))
        have hb99 : decide (i = 0 ∨ (nth l (i - 1)).id < (nth l i).id) = (if i = 0 then true else decide ((nth l (i - 1)).id < (nth l i).id)) := by split <;> simp_all
        rw [hb99] at he9
        rw [if_pos hi0] at he9
        have hz9 : e0E nx l i = 0 := by rw [← he9]; exact h5
        refine s_region ?_
        refine o_p (p_fieldAddr rfl rfl fd_50_1 sz_9 rfl) rfl ?_
        refine o_q (q_load rfl rfl sz_9 aPk rfl) rfl ?_
        refine o_h (h_call rfl fn_78 rfl (fun w1 h1 => c78 w1 (nth l i).by_ (by omega))) rfl (fun gd _ => ?_)
        refine o_p (p_pure rfl) rfl ?_
        refine o_p (p_pure rfl) rfl ?_
        refine o_p (p_pure rfl) rfl ?_
        refine o_p (p_pure rfl) rfl ?_
        refine o_nil ?_
        exact s_joinI () trivial (by (try dsimp only); unfold e1E; rw [if_pos hz9]; exact aSx) (fun w h => h.ent aEt)
      · try simp only [decide_eq_true_eq, decide_eq_false_iff_not, Bool.not_eq_true', Bool.not_eq_false', Bool.and_eq_true, Bool.or_eq_true, Bool.and_eq_false_iff, Bool.or_eq_false_iff, Bool.not_true, Bool.not_false] at h5
        have he9 := e0_first (nx := nx) (l := l) (i := i) (b := decide (i = 0 ∨ (nth l (i - 1)).id < (nth l i).id)) rfl
        have hi9 : ((i : Int) = 0) ↔ i = 0 := by omega
        have hg9 := hg2
        (have hi0 : i = 0 := by (simp at hg9; exact hg9))
        have hb99 : decide (i = 0 ∨ (nth l (i - 1)).id < (nth l i).id) = (if i = 0 then true else decide ((nth l (i - 1)).id < (nth l i).id)) := by split <;> simp_all
        rw [hb99] at he9
        rw [if_pos hi0] at he9
        have hz9 : ¬ e0E nx l i = 0 := by rw [← he9]; exact h5
        refine s_skip ?_
        exact s_joinI () trivial (by (try dsimp only); unfold e1E; rw [if_neg hz9, ← he9]; exact aSx) (fun w h => h.ent aEt)
    · intro _ _
      refine s_seq ?_
      refine s_region ?_
      refine o_p (p_pure rfl) rfl ?_
      refine o_q (q_load_old rfl rfl sz_124 (hA5)) rfl ?_
      refine o_p (p_fieldAddr rfl rfl fd_50_1 sz_9 rfl) rfl ?_
      refine o_q (q_load rfl rfl sz_9 aPk rfl) rfl ?_
      refine o_q (q_lookup (K := KS) rfl rfl rfl Tryz.underlying124 zv_4 (key_str Tryz.underlying9) aPk) rfl ?_
      refine o_p (p_pure rfl) rfl ?_
      refine o_q (q_call rfl fn_50 rfl (fun w1 h1 => c50 w1 _ _)) rfl ?_
      refine o_h (h_buildSlice (cs := [_, _]) rfl rfl sl_122 zr_27 rfl rfl rfl) rfl (fun b6 _ => ?_)
      refine o_q (q_call rfl fn_49 rfl (fun w1 h1 => f49 h1 aPk (by rfl) (by rfl) (by decide))) rfl ?_
      refine o_p (p_pure rfl) rfl ?_
      refine o_nil ?_
      refine s_seq ?_
      refine s_region ?_
      refine o_q (q_load_old rfl rfl sz_124 (hA5)) rfl ?_
      refine o_p (p_fieldAddr rfl rfl fd_50_1 sz_9 rfl) rfl ?_
      refine o_q (q_load rfl rfl sz_9 aPk rfl) rfl ?_
      refine o_h0 (h_mapUpdate (K := KS) (.inl rfl) rfl rfl rfl Tryz.underlying124 (key_str Tryz.underlying9) aPt) (fun _ _ => ?_)
      refine o_nil ?_
      refine s_seq ?_
      refine s_region ?_
      refine o_p (p_pure rfl) rfl ?_
      refine o_p (p_pure rfl) rfl ?_
      refine o_nil ?_
      exact s_retv (rs := [.tmp 6]) rfl (.tmp rfl (.nil)) (fun w' h' => ⟨insK' ks (nth l i).by_, by rw [← itm_eq nx l i (hks _)]; rfl, fun y => by rw [mem_insK, by_take hi, hks], h'.ent aEt⟩)
  · intro hg7
    have hs8 := hg7; try simp only [decide_eq_true_eq, decide_eq_false_iff_not, Bool.not_eq_true', Bool.not_eq_false', Bool.and_eq_true, Bool.or_eq_true, Bool.and_eq_false_iff, Bool.or_eq_false_iff, Bool.not_true, Bool.not_false] at hs8
    refine d_pon 10 17 rfl rfl rfl hg7 (p_fieldAddr rfl rfl fd_24_1 sz_22 rfl) (by kernel_rfl) rfl rfl ?_
    refine d_qon 11 17 [] rfl rfl rfl hg7 (q_load_old rfl rfl sz_22 (hA2)) (by kernel_rfl) (by kernel_rfl) (by kernel_rfl) rfl ?_
    refine d_pon 12 17 rfl rfl rfl hg7 (p_pure rfl) (by kernel_rfl) rfl rfl ?_
    refine d_pon 13 17 rfl rfl rfl hg7 (p_pure rfl) (by kernel_rfl) rfl rfl ?_
    try (refine d_slot (i64w (by omega) (by omega)) ?_)
    refine d_pon 14 17 rfl rfl rfl hg7 (p_max2 rfl rfl rfl ) (by kernel_rfl) rfl rfl ?_
    refine d_slot (show _ = Value.int .i64 ((i - 1 : Nat) : Int) from by congr 1; split <;> omega) ?_
    refine d_pon 15 17 rfl rfl rfl hg7 (p_indexAddr rfl rfl rfl sl_22 (i - 1) (by omega) (by omega) (Rw.some hs (by omega))) (by kernel_rfl) rfl rfl ?_
    refine d_pon 16 17 rfl rfl rfl hg7 (p_fieldAddr rfl rfl fd_50_0 sz_3 rfl) (by kernel_rfl) rfl rfl ?_
    refine d_qon 17 17 [] rfl rfl rfl hg7 (q_load_old rfl rfl sz_3 ((hs.rdj (i := i - 1) 0 (by omega) rfl))) (by kernel_rfl) (by kernel_rfl) (by kernel_rfl) rfl ?_
    refine d_pon 18 17 rfl rfl rfl hg7 (p_fieldAddr rfl rfl fd_50_0 sz_3 rfl) (by kernel_rfl) rfl rfl ?_
    refine d_qon 19 17 [] rfl rfl rfl hg7 (q_load rfl rfl sz_3 aPk rfl) (by kernel_rfl) (by kernel_rfl) (by kernel_rfl) rfl ?_
    refine d_pon 20 17 rfl rfl rfl hg7 (p_pure rfl) (by kernel_rfl) rfl rfl ?_
    refine d_p 21 rfl (p_pickf rfl rfl hg7 rfl) (by kernel_rfl) rfl rfl ?_
    refine d_q 22 [] rfl (q_call rfl fn_50 rfl (fun w1 h1 => c50 w1 _ _)) (by kernel_rfl) (by kernel_rfl) (by kernel_rfl) rfl ?_
    refine d_h 23 rfl (h_buildSlice (cs := [_, _]) rfl rfl sl_122 zr_27 rfl rfl rfl) (by kernel_rfl) (fun w h => h.ent aEt) rfl (fun b9 _ => ?_)
    refine d_base (fun w h => h.ent aEt) ?_
    refine d_q 24 [] rfl (q_call rfl fn_49 rfl (fun w1 h1 => f49 h1 aPk (by rfl) (by rfl) (by decide))) (by kernel_rfl) (by kernel_rfl) (by kernel_rfl) rfl ?_
    refine d_p 25 rfl (p_pure rfl) (by kernel_rfl) rfl rfl ?_
    refine d_nil (by kernel_rfl) (fun w h => by first | exact h | exact h.ent aEt) ?_
    refine s_seq ?_
    refine s_seq ?_
    refine s_weaken (L' := [(3, _), (5, _), (6, _), (7, _)]) aSx (fun _ h => h) ?_
    refine s_region ?_
    refine o_p (p_pure rfl) rfl ?_
    refine o_p (p_pure rfl) rfl ?_
    refine o_nil ?_
    refine s_cutI (α := Unit) [7, 35, 36, 37, 38, 39, 40] (fun _ => [(7, .int .i64 (e1E nx l i))]) (fun _ => HS w [r] [.mp r KS (ks), .blk b1 50 2 [.int .i64 (nth l i).id, .string (bs (nth l i).by_)]]) (fun _ => True) ?_ ?_
    · skip
      refine s_cond rfl (fun h10 => ?_) (fun h10 => ?_)
      · try simp only [decide_eq_true_eq, decide_eq_false_iff_not, Bool.not_eq_true', Bool.not_eq_false', Bool.and_eq_true, Bool.or_eq_true, Bool.and_eq_false_iff, Bool.or_eq_false_iff, Bool.not_true, Bool.not_false] at h10
        have he9 := e0_first (nx := nx) (l := l) (i := i) (b := decide (i = 0 ∨ (nth l (i - 1)).id < (nth l i).id)) rfl
        have hi9 : ((i : Int) = 0) ↔ i = 0 := by omega
        have hg9 := hg7
        (have hi0 : ¬ i = 0 := by (simp at hg9; exact hg9))
        have hb99 : decide (i = 0 ∨ (nth l (i - 1)).id < (nth l i).id) = (if i = 0 then true else decide ((nth l (i - 1)).id < (nth l i).id)) := by split <;> simp_all
        rw [hb99] at he9
        rw [if_neg hi0] at he9
        have hz9 : e0E nx l i = 0 := by rw [← he9]; exact h10
        refine s_region ?_
        refine o_p (p_fieldAddr rfl rfl fd_50_1 sz_9 rfl) rfl ?_
        refine o_q (q_load rfl rfl sz_9 aPk rfl) rfl ?_
        refine o_h (h_call rfl fn_78 rfl (fun w1 h1 => c78 w1 (nth l i).by_ (by omega))) rfl (fun gd _ => ?_)
        refine o_p (p_pure rfl) rfl ?_
        refine o_p (p_pure rfl) rfl ?_
        refine o_p (p_pure rfl) rfl ?_
        refine o_p (p_pure rfl) rfl ?_
        refine o_nil ?_
        exact s_joinI () trivial (by (try dsimp only); unfold e1E; rw [if_pos hz9]; exact aSx) (fun w h => h.ent aEt)
      · try simp only [decide_eq_true_eq, decide_eq_false_iff_not, Bool.not_eq_true', Bool.not_eq_false', Bool.and_eq_true, Bool.or_eq_true, Bool.and_eq_false_iff, Bool.or_eq_false_iff, Bool.not_true, Bool.not_false] at h10
        have he9 := e0_first (nx := nx) (l := l) (i := i) (b := decide (i = 0 ∨ (nth l (i - 1)).id < (nth l i).id)) rfl
        have hi9 : ((i : Int) = 0) ↔ i = 0 := by omega
        have hg9 := hg7
        (have hi0 : ¬ i = 0 := by (simp at hg9; exact hg9))
        have hb99 : decide (i = 0 ∨ (nth l (i - 1)).id < (nth l i).id) = (if i = 0 then true else decide ((nth l (i - 1)).id < (nth l i).id)) := by split <;> simp_all
        rw [hb99] at he9
        rw [if_neg hi0] at he9
        have hz9 : ¬ e0E nx l i = 0 := by rw [← he9]; exact h10
        refine s_skip ?_
        exact s_joinI () trivial (by (try dsimp only); unfold e1E; rw [if_neg hz9, ← he9]; exact aSx) (fun w h => h.ent aEt)
    · intro _ _
      refine s_seq ?_
      refine s_region ?_
      refine o_p (p_pure rfl) rfl ?_
      refine o_q (q_load_old rfl rfl sz_124 (hA5)) rfl ?_
      refine o_p (p_fieldAddr rfl rfl fd_50_1 sz_9 rfl) rfl ?_
      refine o_q (q_load rfl rfl sz_9 aPk rfl) rfl ?_
      refine o_q (q_lookup (K := KS) rfl rfl rfl Tryz.underlying124 zv_4 (key_str Tryz.underlying9) aPk) rfl ?_
      refine o_p (p_pure rfl) rfl ?_
      refine o_q (q_call rfl fn_50 rfl (fun w1 h1 => c50 w1 _ _)) rfl ?_
      refine o_h (h_buildSlice (cs := [_, _]) rfl rfl sl_122 zr_27 rfl rfl rfl) rfl (fun b11 _ => ?_)
      refine o_q (q_call rfl fn_49 rfl (fun w1 h1 => f49 h1 aPk (by rfl) (by rfl) (by decide))) rfl ?_
      refine o_p (p_pure rfl) rfl ?_
      refine o_nil ?_
      refine s_seq ?_
      refine s_region ?_
      refine o_q (q_load_old rfl rfl sz_124 (hA5)) rfl ?_
      refine o_p (p_fieldAddr rfl rfl fd_50_1 sz_9 rfl) rfl ?_
      refine o_q (q_load rfl rfl sz_9 aPk rfl) rfl ?_
      refine o_h0 (h_mapUpdate (K := KS) (.inl rfl) rfl rfl rfl Tryz.underlying124 (key_str Tryz.underlying9) aPt) (fun _ _ => ?_)
      refine o_nil ?_
      refine s_seq ?_
      refine s_region ?_
      refine o_p (p_pure rfl) rfl ?_
      refine o_p (p_pure rfl) rfl ?_
      refine o_nil ?_
      exact s_retv (rs := [.tmp 6]) rfl (.tmp rfl (.nil)) (fun w' h' => ⟨insK' ks (nth l i).by_, by rw [← itm_eq nx l i (hks _)]; rfl, fun y => by rw [mem_insK, by_take hi, hks], h'.ent aEt⟩)

set_option maxRecDepth 20000 in
theorem d76 (w : World) (r bS bM : Nat) (nx : Int) (a : Option Addr) (cap : Nat) (l : List SItm) (hw : HS w [r] [.mp r KS ([])] w) (hA1 : Rd w [r] bS 0 (.int .i64 nx)) (hA2 : Rd w [r] bS 1 (.slice a l.length cap)) (hA5 : Rd w [r] bM 0 (.map (some r))) (hs : Rw SItm.vals 2 w [r] a l) (hm : l.length ≤ 100000) (hb : ∀ x ∈ l, x.by_.length ≤ 100000) (hnx : 0 ≤ nx ∧ nx ≤ 2147483647) : Calls Tryz.prog 76 #[.slice a l.length cap, .func (.func 77) #[] #[.pointer (some ⟨bS, 0, none⟩), .pointer (some ⟨bM, 0, none⟩)]] w fun en w' => ∃ g : List (List UInt8), en = .returned (.tuple #[.int .i64 (eachF (itmsE nx l) 0).1, .int .i64 (eachF (itmsE nx l) 0).2]) ∧ True ∧ HS w [r] [.mp r KS (g)] w' := by
  refine enter (args := [_, _]) Tryz.func76 Tryz.ntmps76 rfl rfl hw ?_
  refine s_seq ?_
  refine s_region ?_
  refine o_p (p_pure rfl) rfl ?_
  refine o_p (p_pure rfl) rfl ?_
  refine o_nil ?_
  refine s_seq ?_
  refine s_seq ?_
  refine s_region ?_
  refine o_p (p_pure rfl) rfl ?_
  refine o_p (p_len_slice rfl rfl Tryz.underlying22) rfl ?_
  refine o_p (p_pure rfl) rfl ?_
  refine o_nil ?_
  refine s_block ?_
  refine s_loopI (α := Nat × List (List UInt8)) [4, 5, 6, 7, 8, 11, 12, 13, 14, 15, 16, 17, 18, 19, 20, 21, 22, 23, 24] (fun x => [(11, .int .i64 (x.1 : Int))]) (fun x => HS w [r] [.mp r KS (x.2)]) (fun x => x.1 ≤ l.length ∧ (∀ y, y ∈ x.2 ↔ y ∈ (l.take x.1).map SItm.by_) ∧ ∀ j, j < x.1 → (itmsE nx l).getD j 0 = 0) (fun x => l.length - x.1) (0, []) ⟨Nat.zero_le _, by simp, fun j h => absurd h (Nat.not_lt_zero j)⟩ aSx (fun w h => h) (fun ⟨k, ks⟩ hx => ?_)
  dsimp only
  obtain ⟨hk1, hks, hk3⟩ := hx
  simp only [] at hk1 hks hk3
  refine s_seq ?_
  refine s_region ?_
  refine o_p (p_pure rfl) rfl ?_
  refine o_nil ?_
  refine s_seq ?_
  refine s_cond rfl (fun h1 => ?_) (fun h1 => ?_)
  · try simp only [decide_eq_true_eq, decide_eq_false_iff_not, Bool.not_eq_true', Bool.not_eq_false', Bool.and_eq_true, Bool.or_eq_true, Bool.and_eq_false_iff, Bool.or_eq_false_iff, Bool.not_true, Bool.not_false] at h1
    have hk : k < l.length := by omega
    have hkl : k < (itmsE nx l).length := by rw [itms_len]; exact hk
    refine s_skip ?_
    refine s_seq ?_
    refine s_block ?_
    refine s_seq ?_
    refine s_region ?_
    refine o_p (p_pure rfl) rfl ?_
    refine o_p (p_indexAddr rfl rfl rfl sl_22 (k) (by omega) (by omega) (Rw.some hs (by omega))) rfl ?_
    refine o_q (q_load_oldn _ rfl rfl sz_50 rfl (Rw.rd hs (by omega))) rfl ?_
    refine o_h (h_alloc rfl zr_50) rfl (fun b2 _ => ?_)
    refine o_p (p_pure rfl) rfl ?_
    refine o_h0 (h_store rfl rfl rfl sz_50 rfl aPt (by simp only [setMany_length, List.length_set, List.length_cons, List.length_nil, List.length_map]; omega) rfl) (fun _ _ => ?_)
    refine o_nil ?_
    refine s_seq ?_
    refine s_region ?_
    refine o_p (p_pure rfl) rfl ?_
    refine o_p (p_pure rfl) rfl ?_
    refine o_q (q_loadn rfl rfl sz_50 aPk rfl) rfl ?_
    refine o_h (h_callvF (Cs := [.mp r KS (ks)]) rfl rfl fn_77 rfl aPs (fun w1 hh hf => c77 w1 r bS bM k ks nx a cap l hf (hA1.later hh hA1.2.1) (hA2.later hh hA2.2.1) (hA5.later hh hA5.2.1) (hs.keep (hh.ent (Bs := [.mp r KS (ks)]) aEt)) hm hb hnx hk hks)) rfl (fun gz hgz => ?_)
    refine o_p (p_pure rfl) rfl ?_
    refine o_nil ?_
    refine s_seq ?_
    refine s_region ?_
    refine o_p (p_pure rfl) rfl ?_
    refine o_p (p_pure rfl) rfl ?_
    refine o_nil ?_
    refine s_cond rfl (fun h3 => ?_) (fun h3 => ?_)
    · try simp only [decide_eq_true_eq, decide_eq_false_iff_not, Bool.not_eq_true', Bool.not_eq_false', Bool.and_eq_true, Bool.or_eq_true, Bool.and_eq_false_iff, Bool.or_eq_false_iff, Bool.not_true, Bool.not_false] at h3
      have hz9 : ¬ itmE nx l k = 0 := h3
      refine s_seq ?_
      refine s_region ?_
      refine o_p (p_pure rfl) rfl ?_
      refine o_p (p_pure rfl) rfl ?_
      refine o_p (p_pure rfl) rfl ?_
      refine o_p (p_pure rfl) rfl ?_
      refine o_nil ?_
      exact s_retv (rs := [.tmp 4, .tmp 5]) rfl (.tmp rfl (.tmp rfl (.nil))) (fun w' h' => ⟨_, by rw [eachF_at hkl hk3 (by rw [itms_get hk]; exact hz9), itms_get hk]; rfl, trivial, h'.ent aEt⟩)
    · try simp only [decide_eq_true_eq, decide_eq_false_iff_not, Bool.not_eq_true', Bool.not_eq_false', Bool.and_eq_true, Bool.or_eq_true, Bool.and_eq_false_iff, Bool.or_eq_false_iff, Bool.not_true, Bool.not_false] at h3
      have hz9 : itmE nx l k = 0 := h3
      refine s_skip ?_
      refine s_blk ?_
      refine s_region ?_
      refine o_p (p_pure rfl) rfl ?_
      try (refine o_slot (i64w (by omega) (by omega)) ?_)
      refine o_p (p_pure rfl) rfl ?_
      refine o_nil ?_
      exact s_backI (k + 1, gz) (by (try simp only []); omega) ⟨by (try simp only []); omega, hgz, fun j hj => (Nat.lt_or_ge j k).elim (hk3 j) (fun h => by obtain rfl : j = k := (by (try simp only [] at hj); omega); rw [itms_get hk]; exact hz9)⟩ aSx (fun w h => h.ent aEt)
  · try simp only [decide_eq_true_eq, decide_eq_false_iff_not, Bool.not_eq_true', Bool.not_eq_false', Bool.and_eq_true, Bool.or_eq_true, Bool.and_eq_false_iff, Bool.or_eq_false_iff, Bool.not_true, Bool.not_false] at h1
    obtain rfl : k = l.length := by omega
    refine s_exit_to rfl ?_
    refine s_seq ?_
    refine s_region ?_
    refine o_p (p_pure rfl) rfl ?_
    refine o_p (p_pure rfl) rfl ?_
    refine o_nil ?_
    exact s_retv (rs := [.tmp 4, .tmp 5]) rfl (.tmp rfl (.tmp rfl (.nil))) (fun w' h' => ⟨_, by rw [eachF_all (by rw [itms_len]; exact hk3)]; rfl, trivial, h'.ent aEt⟩)

set_option maxRecDepth 20000 in
theorem c52 (w : World) (nx : Int) (a : Option Addr) (cap : Nat) (l : List SItm) (hs : Rw SItm.vals 2 w [] a l) (hm : l.length ≤ 100000) (hb : ∀ x ∈ l, x.by_.length ≤ 100000) : Calls Tryz.prog 52 #[.agg #[.int .i64 nx, .slice a l.length cap]] w fun en w' => en = .returned (.tuple #[.int .i64 (stoE nx l).1, .int .i64 (stoE nx l).2]) ∧ Below w.heap.size w w' := by
  refine enter (args := [_]) Tryz.func52 Tryz.ntmps52 rfl rfl (HS.refl w []) ?_
  refine s_seq ?_
  refine s_region ?_
  refine o_h (h_box rfl rfl) rfl (fun b1 _ => ?_)
  refine o_p (p_pure rfl) rfl ?_
  refine o_p (p_pure rfl) rfl ?_
  refine o_nil ?_
  refine s_seq ?_
  refine s_seq ?_
  refine s_draw [] mixed ?_
  refine d_p 0 rfl (p_fieldAddr rfl rfl fd_24_0 sz_3 rfl) (by kernel_rfl) rfl rfl ?_
  refine d_q 1 [] rfl (q_load rfl rfl sz_3 aPk rfl) (by kernel_rfl) (by kernel_rfl) (by kernel_rfl) rfl ?_
  refine d_q 2 [] rfl (q_call rfl fn_62 rfl (fun w1 h1 => c62 w1 _ _ _)) (by kernel_rfl) (by kernel_rfl) (by kernel_rfl) rfl ?_
  refine d_q 3 [] rfl (q_call rfl fn_50 rfl (fun w1 h1 => c50 w1 _ _)) (by kernel_rfl) (by kernel_rfl) (by kernel_rfl) rfl ?_
  refine d_p 4 rfl (p_fieldAddr rfl rfl fd_24_1 sz_22 rfl) (by kernel_rfl) rfl rfl ?_
  refine d_q 5 [] rfl (q_load rfl rfl sz_22 aPk rfl) (by kernel_rfl) (by kernel_rfl) (by kernel_rfl) rfl ?_
  refine d_p 6 rfl (p_len_slice rfl rfl Tryz.underlying22) (by kernel_rfl) rfl rfl ?_
  refine d_p 7 rfl (p_pure rfl) (by kernel_rfl) rfl rfl ?_
  refine d_q 8 [] rfl (q_call rfl fn_50 rfl (fun w1 h1 => c50 w1 _ _)) (by kernel_rfl) (by kernel_rfl) (by kernel_rfl) rfl ?_
  refine d_h 9 rfl (h_buildSlice (cs := [_, _]) rfl rfl sl_122 zr_27 rfl rfl rfl) (by kernel_rfl) (fun w h => h.ent aEt) rfl (fun b2 _ => ?_)
  refine d_base (fun w h => h.ent aEt) ?_
  refine d_q 10 [] rfl (q_call rfl fn_49 rfl (fun w1 h1 => f49 h1 aPk (by rfl) (by rfl) (by decide))) (by kernel_rfl) (by kernel_rfl) (by kernel_rfl) rfl ?_
  refine d_p 11 rfl (p_pure rfl) (by kernel_rfl) rfl rfl ?_
  refine d_nil (by kernel_rfl) (fun w h => by first | exact h | exact h.ent aEt) ?_
  refine s_seq ?_
  refine s_region ?_
  refine o_p (p_pure rfl) rfl ?_
  refine o_p (p_pure rfl) rfl ?_
  refine o_nil ?_
  refine s_cond rfl (fun h3 => ?_) (fun h3 => ?_)
  · try simp only [decide_eq_true_eq, decide_eq_false_iff_not, Bool.not_eq_true', Bool.not_eq_false', Bool.and_eq_true, Bool.or_eq_true, Bool.and_eq_false_iff, Bool.or_eq_false_iff, Bool.not_true, Bool.not_false] at h3
    have h0 : ¬ spreE nx l = 0 := by rw [← spre_first]; exact h3
    have hse : stoE nx l = (0, spreE nx l) := by rw [sto_pre, if_neg h0]
    refine s_seq ?_
    refine s_region ?_
    refine o_p (p_pure rfl) rfl ?_
    refine o_p (p_pure rfl) rfl ?_
    refine o_p (p_pure rfl) rfl ?_
    refine o_nil ?_
    exact s_retv (rs := [.tmp 2, .tmp 3]) rfl (.tmp rfl (.tmp rfl (.nil))) (fun w' h' => ⟨by rw [hse, ← spre_first]; rfl, h'.below⟩)
  · try simp only [decide_eq_true_eq, decide_eq_false_iff_not, Bool.not_eq_true', Bool.not_eq_false', Bool.and_eq_true, Bool.or_eq_true, Bool.and_eq_false_iff, Bool.or_eq_false_iff, Bool.not_true, Bool.not_false] at h3
    have h0 : spreE nx l = 0 := by rw [← spre_first]; exact h3
    have hnx : 0 ≤ nx ∧ nx ≤ 2147483647 := by unfold spreE at h0; split at h0; omega; omega
    refine s_skip ?_
    refine s_seq ?_
    refine s_region ?_
    refine o_h (h_makeMap rfl KS) rfl (fun b4 _ => ?_)
    refine o_h (h_alloc rfl zr_124) rfl (fun b5 _ => ?_)
    refine o_h0 (h_store rfl rfl rfl sz_124 rfl aPt (by simp only [setMany_length, List.length_set, List.length_cons, List.length_nil, List.length_map]; omega) rfl) (fun _ _ => ?_)
    refine o_nil ?_
    refine s_seq ?_
    refine s_seq ?_
    refine s_region ?_
    refine o_p (p_fieldAddr rfl rfl fd_24_1 sz_22 rfl) rfl ?_
    refine o_q (q_load rfl rfl sz_22 aPk rfl) rfl ?_
    refine o_p (p_pure rfl) rfl ?_
    refine o_h (h_callF (Cs := [.mp b4 KS ([])]) rfl fn_76 rfl aPs (fun w1 h1 hf => d76 w1 b4 b1 b5 nx a cap l hf ((h1.ent (Bs := [.blk b1 24 2 [.int .i64 nx, .slice a l.length cap], .mp b4 KS ([])]) aEt).rd_beside rfl) ((h1.ent (Bs := [.blk b1 24 2 [.int .i64 nx, .slice a l.length cap], .mp b4 KS ([])]) aEt).rd_beside rfl) ((h1.ent (Bs := [.blk b5 124 1 [.map (some b4)], .mp b4 KS ([])]) aEt).rd_beside rfl) (hs.keep (h1.ent (Bs := [.mp b4 KS ([])]) aEt)) hm hb hnx)) rfl (fun gz _ => ?_)
    refine o_p (p_pure rfl) rfl ?_
    refine o_p (p_pure rfl) rfl ?_
    refine o_p (p_pure rfl) rfl ?_
    refine o_p (p_pure rfl) rfl ?_
    refine o_p (p_pure rfl) rfl ?_
    refine o_nil ?_
    refine s_seq ?_
    refine s_region ?_
    refine o_p (p_pure rfl) rfl ?_
    refine o_p (p_pure rfl) rfl ?_
    refine o_nil ?_
    refine s_cond rfl (fun h6 => ?_) (fun h6 => ?_)
    · try simp only [decide_eq_true_eq, decide_eq_false_iff_not, Bool.not_eq_true', Bool.not_eq_false', Bool.and_eq_true, Bool.or_eq_true, Bool.and_eq_false_iff, Bool.or_eq_false_iff, Bool.not_true, Bool.not_false] at h6
      have h9 : ¬ (eachF (itmsE nx l) 0).2 = 0 := h6
      have hse : stoE nx l = eachF (itmsE nx l) 0 := by rw [sto_pre, if_pos h0, if_neg h9]
      refine s_seq ?_
      refine s_weaken (L' := [(1, _), (2, _), (3, _), (6, _), (7, _)]) aSx (fun _ h => h) ?_
      refine s_region ?_
      refine o_p (p_pure rfl) rfl ?_
      refine o_p (p_pure rfl) rfl ?_
      refine o_p (p_pure rfl) rfl ?_
      refine o_p (p_pure rfl) rfl ?_
      refine o_nil ?_
      exact s_retv (rs := [.tmp 2, .tmp 3]) rfl (.tmp rfl (.tmp rfl (.nil))) (fun w' h' => ⟨by rw [hse]; rfl, h'.below⟩)
    · try simp only [decide_eq_true_eq, decide_eq_false_iff_not, Bool.not_eq_true', Bool.not_eq_false', Bool.and_eq_true, Bool.or_eq_true, Bool.and_eq_false_iff, Bool.or_eq_false_iff, Bool.not_true, Bool.not_false] at h6
      have h9 : (eachF (itmsE nx l) 0).2 = 0 := h6
      have hse : stoE nx l = (0, cond (decide ((plsI l).2 ≤ 8192)) 0 16) := by rw [sto_pre, if_pos h0, if_pos h9]; by_cases hq : (plsI l).2 ≤ 8192 <;> simp [hq]
      refine s_skip ?_
      refine s_seq ?_
      refine s_weaken (L' := [(1, _), (2, _), (3, _)]) aSx (fun _ h => h) ?_
      refine s_region ?_
      refine o_p (p_fieldAddr rfl rfl fd_24_1 sz_22 rfl) rfl ?_
      refine o_q (q_load rfl rfl sz_22 aPk rfl) rfl ?_
      refine o_h (h_call rfl fn_45 rfl (fun w1 h1 => c45 w1 a cap l (hs.later h1) hm hb)) rfl (fun gp _ => ?_)
      refine o_p (p_pure rfl) rfl ?_
      refine o_p (p_pure rfl) rfl ?_
      refine o_p (p_pure rfl) rfl ?_
      refine o_p (p_pure rfl) rfl ?_
      refine o_p (p_pure rfl) rfl ?_
      refine o_nil ?_
      refine s_seq ?_
      refine s_region ?_
      refine o_p (p_pure rfl) rfl ?_
      refine o_p (p_pure rfl) rfl ?_
      refine o_q (q_call rfl fn_50 rfl (fun w1 h1 => c50 w1 _ _)) rfl ?_
      refine o_p (p_pure rfl) rfl ?_
      refine o_p (p_pure rfl) rfl ?_
      refine o_nil ?_
      exact s_retv (rs := [.tmp 2, .tmp 3]) rfl (.tmp rfl (.tmp rfl (.nil))) (fun w' h' => ⟨by rw [hse]; rfl, h'.below⟩)

set_option maxRecDepth 20000 in
theorem c25 (w : World) (nx : Int) (a : Option Addr) (cap : Nat) (l : List SItm) (hs : Rw SItm.vals 2 w [] a l) (hm : l.length ≤ 100000) (hb : ∀ x ∈ l, x.by_.length ≤ 100000) : Calls Tryz.prog 25 #[.agg #[.int .i64 nx, .slice a l.length cap]] w fun en w' => en = .returned (.int .i64 (stoE nx l).2) ∧ Below w.heap.size w w' := by
  refine enter (args := [_]) Tryz.func25 Tryz.ntmps25 rfl rfl (HS.refl w []) ?_
  refine s_seq ?_
  refine s_region ?_
  refine o_h (h_box rfl rfl) rfl (fun b1 _ => ?_)
  refine o_p (p_pure rfl) rfl ?_
  refine o_nil ?_
  refine s_seq ?_
  refine s_region ?_
  refine o_q (q_loadn rfl rfl sz_24 aPk rfl) rfl ?_
  refine o_q (q_call rfl fn_52 rfl (fun w1 h1 => c52 w1 nx a cap l (hs.later h1) hm hb)) rfl ?_
  refine o_p (p_pure rfl) rfl ?_
  refine o_p (p_pure rfl) rfl ?_
  refine o_p (p_pure rfl) rfl ?_
  refine o_p (p_pure rfl) rfl ?_
  refine o_p (p_pure rfl) rfl ?_
  refine o_nil ?_
  refine s_seq ?_
  refine s_region ?_
  refine o_p (p_pure rfl) rfl ?_
  refine o_p (p_pure rfl) rfl ?_
  refine o_nil ?_
  exact s_retv (rs := [.tmp 2]) rfl (.tmp rfl (.nil)) (fun w' h' => ⟨rfl, h'.below⟩)

end Go.Proofs

namespace Go.Proofs
open Go Go.RowKit Gx
set_option linter.unusedVariables false
set_option linter.unusedSimpArgs false
attribute [local irreducible] Go.Calls Gx.S Gx.O Gx.D Gx.OpP Gx.OpQ Gx.OpH

theorem fn_67 : isFn Tryz.prog 67 = true := by kernel_rfl
theorem fn_15 : isFn Tryz.prog 15 = true := by kernel_rfl
theorem fn_37 : isFn Tryz.prog 37 = true := by kernel_rfl


theorem itm_pre {nx : Int} {l : List SItm} {i : Nat} (h : ¬ e0E nx l i = 0) : itmE nx l i = e0E nx l i := by
  rw [← itm_eq nx l i (P := (nth l i).by_ ∈ (l.take i).map SItm.by_) (dP := inferInstance) Iff.rfl]
  simp only [firstV, e1E, if_neg h]
theorem itm_dec {nx : Int} {l : List SItm} {i : Nat} (h0 : e0E nx l i = 0) (h : ¬ decE (nth l i).by_ = 0) : itmE nx l i = decE (nth l i).by_ := by
  rw [← itm_eq nx l i (P := (nth l i).by_ ∈ (l.take i).map SItm.by_) (dP := inferInstance) Iff.rfl]
  simp only [firstV, e1E, if_pos h0, if_neg h]
theorem itm_dup {nx : Int} {l : List SItm} {i : Nat} (h0 : e0E nx l i = 0) (h1 : decE (nth l i).by_ = 0) (h : (nth l i).by_ ∈ (l.take i).map SItm.by_) : itmE nx l i = 23 := by
  rw [← itm_eq nx l i (P := (nth l i).by_ ∈ (l.take i).map SItm.by_) (dP := inferInstance) Iff.rfl]
  simp only [firstV, e1E, if_pos h0, h1, h]; simp
theorem itm_ok {nx : Int} {l : List SItm} {i : Nat} (h0 : e0E nx l i = 0) (h1 : decE (nth l i).by_ = 0) (h : ¬ (nth l i).by_ ∈ (l.take i).map SItm.by_) : itmE nx l i = 0 := by
  rw [← itm_eq nx l i (P := (nth l i).by_ ∈ (l.take i).map SItm.by_) (dP := inferInstance) Iff.rfl]
  simp only [firstV, e1E, if_pos h0, h1, h]; simp
theorem mem_by {l : List SItm} {i j : Nat} (hj : j < i) (hi : i ≤ l.length) : (nth l j).by_ ∈ (l.take i).map SItm.by_ := by
  refine List.mem_map.2 ⟨nth l j, ?_, rfl⟩
  refine List.mem_iff_getElem?.2 ⟨j, ?_⟩
  rw [List.getElem?_take, if_pos hj]
  exact nth_get (by omega)
theorem not_by {l : List SItm} {i : Nat} {y : List UInt8} (hi : i ≤ l.length) (h : ∀ j, j < i → (nth l j).by_ ≠ y) : ¬ y ∈ (l.take i).map SItm.by_ := fun hm => by
  obtain ⟨x, hx, e⟩ := List.mem_map.1 hm
  obtain ⟨j, hj⟩ := List.mem_iff_getElem?.1 hx
  rw [List.getElem?_take] at hj
  split at hj
  · rename_i h9
    exact h j h9 (by rw [nth_eq hj]; exact e)
  · cases hj

set_option maxRecDepth 20000 in
set_option maxHeartbeats 2000000 in
theorem c37 (w : World) (nx : Int) (a : Option Addr) (cap : Nat) (l : List SItm) (hs : Rw SItm.vals 2 w [] a l) (hm : l.length ≤ 100000) (hb : ∀ x ∈ l, x.by_.length ≤ 100000) : Calls Tryz.prog 37 #[.agg #[.int .i64 nx, .slice a l.length cap]] w fun en w' => en = .returned (.tuple #[.int .i64 (stoE nx l).1, .int .i64 (stoE nx l).2]) ∧ Below w.heap.size w w' := by
  refine enter (args := [_]) Tryz.func37 Tryz.ntmps37 rfl rfl (HS.refl w []) ?_
  refine s_seq ?_
  refine s_region ?_
  refine o_h (h_box rfl rfl) rfl (fun b1 _ => ?_)
  refine o_p (p_pure rfl) rfl ?_
  refine o_p (p_pure rfl) rfl ?_
  refine o_nil ?_
  refine s_seq ?_
  refine s_seq ?_
  refine s_region ?_
  refine o_p (p_fieldAddr rfl rfl fd_24_0 sz_3 rfl) rfl ?_
  refine o_q (q_load rfl rfl sz_3 aPk rfl) rfl ?_
  refine o_q (q_call rfl fn_16 rfl (fun w1 h1 => c16 w1 _ _ _)) rfl ?_
  refine o_p (p_pure rfl) rfl ?_
  refine o_nil ?_
  refine s_cond rfl (fun h2 => ?_) (fun h2 => ?_)
  · try simp only [decide_eq_true_eq, decide_eq_false_iff_not, Bool.not_eq_true', Bool.not_eq_false', Bool.and_eq_true, Bool.or_eq_true, Bool.and_eq_false_iff, Bool.or_eq_false_iff, Bool.not_true, Bool.not_false] at h2
    have hq9 : ¬ (256 ≤ nx ∧ nx ≤ 2147483647) := by have hq := h2; omega
    have hse : stoE nx l = (0, 2) := by unfold stoE; rw [if_neg hq9]
    refine s_seq ?_
    refine s_region ?_
    refine o_p (p_pure rfl) rfl ?_
    refine o_p (p_pure rfl) rfl ?_
    refine o_nil ?_
    exact s_retv (rs := [.tmp 2, .tmp 3]) rfl (.tmp rfl (.tmp rfl (.nil))) (fun w' h' => ⟨by rw [hse]; rfl, h'.below⟩)
  · try simp only [decide_eq_true_eq, decide_eq_false_iff_not, Bool.not_eq_true', Bool.not_eq_false', Bool.and_eq_true, Bool.or_eq_true, Bool.and_eq_false_iff, Bool.or_eq_false_iff, Bool.not_true, Bool.not_false] at h2
    have hq9 : 256 ≤ nx ∧ nx ≤ 2147483647 := by have hq := h2; omega
    refine s_skip ?_
    refine s_seq ?_
    refine s_seq ?_
    refine s_region ?_
    refine o_p (p_fieldAddr rfl rfl fd_24_1 sz_22 rfl) rfl ?_
    refine o_q (q_load rfl rfl sz_22 aPk rfl) rfl ?_
    refine o_p (p_len_slice rfl rfl Tryz.underlying22) rfl ?_
    refine o_p (p_pure rfl) rfl ?_
    refine o_nil ?_
    refine s_cond rfl (fun h3 => ?_) (fun h3 => ?_)
    · try simp only [decide_eq_true_eq, decide_eq_false_iff_not, Bool.not_eq_true', Bool.not_eq_false', Bool.and_eq_true, Bool.or_eq_true, Bool.and_eq_false_iff, Bool.or_eq_false_iff, Bool.not_true, Bool.not_false] at h3
      have hq8 : ¬ l.length ≤ 60 := by have hq := h3; omega
      have hse : stoE nx l = (0, 8) := by unfold stoE; rw [if_pos hq9, if_neg hq8]
      refine s_seq ?_
      refine s_region ?_
      refine o_p (p_pure rfl) rfl ?_
      refine o_p (p_pure rfl) rfl ?_
      refine o_nil ?_
      exact s_retv (rs := [.tmp 2, .tmp 3]) rfl (.tmp rfl (.tmp rfl (.nil))) (fun w' h' => ⟨by rw [hse]; rfl, h'.below⟩)
    · try simp only [decide_eq_true_eq, decide_eq_false_iff_not, Bool.not_eq_true', Bool.not_eq_false', Bool.and_eq_true, Bool.or_eq_true, Bool.and_eq_false_iff, Bool.or_eq_false_iff, Bool.not_true, Bool.not_false] at h3
      have hq8 : l.length ≤ 60 := by have hq := h3; omega
      have h0 : spreE nx l = 0 := by unfold spreE; rw [if_pos hq9, if_pos hq8]
      refine s_skip ?_
      refine s_seq ?_
      refine s_seq ?_
      refine s_region ?_
      refine o_p (p_pure rfl) rfl ?_
      refine o_nil ?_
      refine s_block ?_
      refine s_loopI (α := Nat) [2, 3, 4, 5, 6, 7, 8, 19, 20, 21, 22, 23, 24, 25, 26, 27, 28, 29, 30, 31, 32, 33, 34, 35, 36, 37, 38, 39, 40, 41, 42, 43, 44, 45, 46, 47, 48, 49, 50, 51, 52, 53, 54, 55, 56, 57, 58, 59, 60, 61, 62, 63, 64, 65, 66, 67, 68, 69, 70, 71, 72, 73, 74, 75, 76, 77, 78] (fun i => [(4, .int .i64 (i : Int))]) (fun _ => HS w [] [.blk b1 24 2 [.int .i64 nx, .slice a l.length cap]]) (fun i => i ≤ l.length ∧ ∀ j, j < i → (itmsE nx l).getD j 0 = 0) (fun i => l.length - i) 0 ⟨Nat.zero_le _, fun j h => absurd h (Nat.not_lt_zero j)⟩ aSx (fun w h => h.ent aEt) (fun i hii => ?_)
      obtain ⟨hi1, hi3⟩ := hii
      refine s_seq ?_
      refine s_seq ?_
      refine s_region ?_
      refine o_p (p_pure rfl) rfl ?_
      refine o_p (p_fieldAddr rfl rfl fd_24_1 sz_22 rfl) rfl ?_
      refine o_q (q_load rfl rfl sz_22 aPk rfl) rfl ?_
      refine o_p (p_len_slice rfl rfl Tryz.underlying22) rfl ?_
      refine o_p (p_pure rfl) rfl ?_
      refine o_nil ?_
      refine s_cond rfl (fun h4 => ?_) (fun h4 => ?_)
      · try simp only [decide_eq_true_eq, decide_eq_false_iff_not, Bool.not_eq_true', Bool.not_eq_false', Bool.and_eq_true, Bool.or_eq_true, Bool.and_eq_false_iff, Bool.or_eq_false_iff, Bool.not_true, Bool.not_false] at h4
        have hi : i < l.length := by omega
        have hbi : (nth l i).by_.length ≤ 100000 := hb _ (getD_mem hi)
        refine s_skip ?_
        refine s_seq ?_
        refine s_block ?_
        refine s_seq ?_
        refine s_region ?_
        refine o_p (p_fieldAddr rfl rfl fd_24_1 sz_22 rfl) rfl ?_
        refine o_q (q_load rfl rfl sz_22 aPk rfl) rfl ?_
        refine o_p (p_pure rfl) rfl ?_
        refine o_p (p_indexAddr rfl rfl rfl sl_22 (i) (by omega) (by omega) (Rw.some hs (by omega))) rfl ?_
        refine o_q (q_load_oldn _ rfl rfl sz_50 rfl (Rw.rd hs hi)) rfl ?_
        refine o_h (h_alloc rfl zr_50) rfl (fun b5 _ => ?_)
        refine o_h0 (h_store rfl rfl rfl sz_50 rfl aPt (by simp only [setMany_length, List.length_set, List.length_cons, List.length_nil, List.length_map]; omega) rfl) (fun _ _ => ?_)
        refine o_nil ?_
        refine s_seq ?_
        refine s_seq ?_
        refine s_region ?_
        refine o_p (p_fieldAddr rfl rfl fd_50_0 sz_3 rfl) rfl ?_
        refine o_q (q_load rfl rfl sz_3 aPk rfl) rfl ?_
        refine o_p (p_fieldAddr rfl rfl fd_24_0 sz_3 rfl) rfl ?_
        refine o_q (q_load rfl rfl sz_3 aPk rfl) rfl ?_
        refine o_p (p_pure rfl) rfl ?_
        try (refine o_slot (i64w (by omega) (by omega)) ?_)
        refine o_q (q_call rfl fn_16 rfl (fun w1 h1 => c16 w1 _ _ _)) rfl ?_
        refine o_p (p_pure rfl) rfl ?_
        refine o_nil ?_
        refine s_cond rfl (fun h6 => ?_) (fun h6 => ?_)
        · try simp only [decide_eq_true_eq, decide_eq_false_iff_not, Bool.not_eq_true', Bool.not_eq_false', Bool.and_eq_true, Bool.or_eq_true, Bool.and_eq_false_iff, Bool.or_eq_false_iff, Bool.not_true, Bool.not_false] at h6
          have hr9 : ¬ (256 ≤ (nth l i).id ∧ (nth l i).id ≤ nx - 1) := by have hq := h6; omega
          have he0 : e0E nx l i = 2 := by unfold e0E; rw [if_neg hr9]
          have hit := (itm_pre (nx := nx) (l := l) (i := i) (by rw [he0]; decide)).trans he0
          have hek := eachF_at (es := itmsE nx l) (k := i) (by rw [itms_len]; exact hi) hi3 (by rw [itms_get hi, hit]; first | decide | assumption)
          rw [itms_get hi, hit] at hek
          have hse : stoE nx l = ((i : Int), 2) := by rw [sto_pre, if_pos h0, if_neg (by rw [hek]; first | assumption | (dsimp only; decide))]; exact hek
          refine s_seq ?_
          refine s_region ?_
          refine o_p (p_pure rfl) rfl ?_
          refine o_p (p_pure rfl) rfl ?_
          refine o_p (p_pure rfl) rfl ?_
          refine o_nil ?_
          exact s_retv (rs := [.tmp 2, .tmp 3]) rfl (.tmp rfl (.tmp rfl (.nil))) (fun w' h' => ⟨by rw [hse]; rfl, h'.below⟩)
        · try simp only [decide_eq_true_eq, decide_eq_false_iff_not, Bool.not_eq_true', Bool.not_eq_false', Bool.and_eq_true, Bool.or_eq_true, Bool.and_eq_false_iff, Bool.or_eq_false_iff, Bool.not_true, Bool.not_false] at h6
          have hr9 : 256 ≤ (nth l i).id ∧ (nth l i).id ≤ nx - 1 := by have hq := h6; omega
          refine s_skip ?_
          refine s_seq ?_
          refine s_seq ?_
          refine s_draw [] mixed ?_
          refine d_p 0 rfl (p_pure rfl) (by kernel_rfl) rfl rfl ?_
          refine d_p 1 rfl (p_pure rfl) (by kernel_rfl) rfl rfl ?_
          refine d_p 2 rfl (p_pure rfl) (by kernel_rfl) rfl rfl ?_
          apply d_split 41
          · exact rfl
          · intro hg7
            have hs8 := hg7; try simp only [decide_eq_true_eq, decide_eq_false_iff_not, Bool.not_eq_true', Bool.not_eq_false', Bool.and_eq_true, Bool.or_eq_true, Bool.and_eq_false_iff, Bool.or_eq_false_iff, Bool.not_true, Bool.not_false] at hs8
            refine d_pon 3 41 rfl rfl rfl hg7 (p_fieldAddr rfl rfl fd_50_0 sz_3 rfl) (by kernel_rfl) rfl rfl ?_
            refine d_qon 4 41 [] rfl rfl rfl hg7 (q_load rfl rfl sz_3 aPk rfl) (by kernel_rfl) (by kernel_rfl) (by kernel_rfl) rfl ?_
            refine d_pon 5 41 rfl rfl rfl hg7 (p_fieldAddr rfl rfl fd_24_1 sz_22 rfl) (by kernel_rfl) rfl rfl ?_
            refine d_qon 6 41 [] rfl rfl rfl hg7 (q_load rfl rfl sz_22 aPk rfl) (by kernel_rfl) (by kernel_rfl) (by kernel_rfl) rfl ?_
            refine d_pon 7 41 rfl rfl rfl hg7 (p_pure rfl) (by kernel_rfl) rfl rfl ?_
            refine d_pon 8 41 rfl rfl rfl hg7 (p_pure rfl) (by kernel_rfl) rfl rfl ?_
            try (refine d_slot (i64w (by omega) (by omega)) ?_)
            refine d_pon 9 41 rfl rfl rfl hg7 (p_indexAddr rfl rfl rfl sl_22 (i - 1) (by omega) (by omega) (Rw.some hs (by omega))) (by kernel_rfl) rfl rfl ?_
            refine d_pon 10 41 rfl rfl rfl hg7 (p_fieldAddr rfl rfl fd_50_0 sz_3 rfl) (by kernel_rfl) rfl rfl ?_
            refine d_qon 11 41 [] rfl rfl rfl hg7 (q_load_old rfl rfl sz_3 ((hs.rdj (i := i - 1) 0 (by omega) rfl))) (by kernel_rfl) (by kernel_rfl) (by kernel_rfl) rfl ?_
            refine d_pon 12 41 rfl rfl rfl hg7 (p_pure rfl) (by kernel_rfl) rfl rfl ?_
            refine d_p 13 rfl (p_pickt rfl rfl hg7 rfl) (by kernel_rfl) rfl rfl ?_
            refine d_nil (by kernel_rfl) (fun w h => by first | exact h | exact h.ent aEt) ?_
            refine s_cond rfl (fun h9 => ?_) (fun h9 => ?_)
            · try simp only [decide_eq_true_eq, decide_eq_false_iff_not, Bool.not_eq_true', Bool.not_eq_false', Bool.and_eq_true, Bool.or_eq_true, Bool.and_eq_false_iff, Bool.or_eq_false_iff, Bool.not_true, Bool.not_false] at h9
              have ho9 : ¬ (i = 0 ∨ (nth l (i - 1)).id < (nth l i).id) := by first | (have hq := h9; simp at hq; done) | (have hq := h9; have hg := hg7; simp at hg; omega)
              have he0 : e0E nx l i = 9 := by unfold e0E; rw [if_pos hr9, if_neg ho9]
              have hit := (itm_pre (nx := nx) (l := l) (i := i) (by rw [he0]; decide)).trans he0
              have hek := eachF_at (es := itmsE nx l) (k := i) (by rw [itms_len]; exact hi) hi3 (by rw [itms_get hi, hit]; first | decide | assumption)
              rw [itms_get hi, hit] at hek
              have hse : stoE nx l = ((i : Int), 9) := by rw [sto_pre, if_pos h0, if_neg (by rw [hek]; first | assumption | (dsimp only; decide))]; exact hek
              refine s_seq ?_
              refine s_weaken (L' := [(0, _), (1, _), (4, _), (5, _), (11, _), (12, _), (13, _), (14, _), (15, _), (16, _), (17, _), (18, _)]) aSx (fun _ h => h) ?_
              refine s_region ?_
              refine o_p (p_pure rfl) rfl ?_
              refine o_p (p_pure rfl) rfl ?_
              refine o_p (p_pure rfl) rfl ?_
              refine o_nil ?_
              exact s_retv (rs := [.tmp 2, .tmp 3]) rfl (.tmp rfl (.tmp rfl (.nil))) (fun w' h' => ⟨by rw [hse]; rfl, h'.below⟩)
            · try simp only [decide_eq_true_eq, decide_eq_false_iff_not, Bool.not_eq_true', Bool.not_eq_false', Bool.and_eq_true, Bool.or_eq_true, Bool.and_eq_false_iff, Bool.or_eq_false_iff, Bool.not_true, Bool.not_false] at h9
              have ho9 : i = 0 ∨ (nth l (i - 1)).id < (nth l i).id := by first | (have hq := h9; have hg := hg7; simp at hg; omega) | (have hg := hg7; simp at hg; exact .inl (by omega))
              have he0 : e0E nx l i = 0 := by unfold e0E; rw [if_pos hr9, if_pos ho9]
              refine s_skip ?_
              refine s_seq ?_
              refine s_seq ?_
              refine s_weaken (L' := [(0, _), (1, _), (4, _), (5, _), (11, _), (12, _), (13, _), (14, _), (15, _), (16, _), (17, _), (18, _)]) aSx (fun _ h => h) ?_
              refine s_region ?_
              refine o_p (p_fieldAddr rfl rfl fd_50_1 sz_9 rfl) rfl ?_
              refine o_q (q_load rfl rfl sz_9 aPk rfl) rfl ?_
              refine o_h (h_call rfl fn_67 rfl (fun w1 h1 => c67 w1 (nth l i).by_ (by omega))) rfl (fun gd _ => ?_)
              refine o_p (p_pure rfl) rfl ?_
              refine o_p (p_pure rfl) rfl ?_
              refine o_p (p_pure rfl) rfl ?_
              refine o_h (h_alloc rfl zr_57) rfl (fun b10 _ => ?_)
              refine o_h0 (h_store rfl rfl rfl sz_57 rfl aPt (by simp only [setMany_length, List.length_set, List.length_cons, List.length_nil, List.length_map]; omega) rfl) (fun _ _ => ?_)
              refine o_p (p_pure rfl) rfl ?_
              refine o_nil ?_
              refine s_seq ?_
              refine s_region ?_
              refine o_p (p_pure rfl) rfl ?_
              refine o_p (p_pure rfl) rfl ?_
              refine o_nil ?_
              refine s_cond rfl (fun h11 => ?_) (fun h11 => ?_)
              · try simp only [decide_eq_true_eq, decide_eq_false_iff_not, Bool.not_eq_true', Bool.not_eq_false', Bool.and_eq_true, Bool.or_eq_true, Bool.and_eq_false_iff, Bool.or_eq_false_iff, Bool.not_true, Bool.not_false] at h11
                have hd9 : ¬ decE (nth l i).by_ = 0 := h11
                have hit := itm_dec he0 hd9
                have hek := eachF_at (es := itmsE nx l) (k := i) (by rw [itms_len]; exact hi) hi3 (by rw [itms_get hi, hit]; first | decide | assumption)
                rw [itms_get hi, hit] at hek
                have hse : stoE nx l = ((i : Int), decE (nth l i).by_) := by rw [sto_pre, if_pos h0, if_neg (by rw [hek]; first | assumption | (dsimp only; decide))]; exact hek
                refine s_seq ?_
                refine s_region ?_
                refine o_p (p_pure rfl) rfl ?_
                refine o_p (p_pure rfl) rfl ?_
                refine o_p (p_pure rfl) rfl ?_
                refine o_p (p_pure rfl) rfl ?_
                refine o_nil ?_
                exact s_retv (rs := [.tmp 2, .tmp 3]) rfl (.tmp rfl (.tmp rfl (.nil))) (fun w' h' => ⟨by rw [hse]; rfl, h'.below⟩)
              · try simp only [decide_eq_true_eq, decide_eq_false_iff_not, Bool.not_eq_true', Bool.not_eq_false', Bool.and_eq_true, Bool.or_eq_true, Bool.and_eq_false_iff, Bool.or_eq_false_iff, Bool.not_true, Bool.not_false] at h11
                have hd9 : decE (nth l i).by_ = 0 := h11
                refine s_skip ?_
                refine s_seq ?_
                refine s_region ?_
                refine o_p (p_pure rfl) rfl ?_
                refine o_nil ?_
                refine s_block ?_
                refine s_weaken (L' := [(0, _), (1, _), (4, _), (5, _), (8, _), (11, _), (12, _), (13, _), (14, _), (15, _), (16, _), (17, _), (18, _)]) aSx (fun _ h => h) ?_
                refine s_loopI (α := Nat) [2, 3, 8, 64, 65, 66, 67, 68, 69, 70, 71, 72, 73, 74, 75, 76, 77, 78] (fun j => [(8, .int .i64 (j : Int))]) (fun _ => HS w [] [.blk b5 50 2 [.int .i64 (nth l i).id, .string (bs (nth l i).by_)], .blk b1 24 2 [.int .i64 nx, .slice a l.length cap]]) (fun j => j ≤ i ∧ ∀ q, q < j → (nth l q).by_ ≠ (nth l i).by_) (fun j => i - j) 0 ⟨Nat.zero_le _, fun j h => absurd h (Nat.not_lt_zero j)⟩ aSx (fun w h => h.ent aEt) (fun j hjj => ?_)
                obtain ⟨hj1, hj2⟩ := hjj
                refine s_seq ?_
                refine s_seq ?_
                refine s_region ?_
                refine o_p (p_pure rfl) rfl ?_
                refine o_p (p_pure rfl) rfl ?_
                refine o_p (p_pure rfl) rfl ?_
                refine o_nil ?_
                refine s_cond rfl (fun h12 => ?_) (fun h12 => ?_)
                · try simp only [decide_eq_true_eq, decide_eq_false_iff_not, Bool.not_eq_true', Bool.not_eq_false', Bool.and_eq_true, Bool.or_eq_true, Bool.and_eq_false_iff, Bool.or_eq_false_iff, Bool.not_true, Bool.not_false] at h12
                  have hj : j < i := by omega
                  refine s_skip ?_
                  refine s_seq ?_
                  refine s_block ?_
                  refine s_seq ?_
                  refine s_draw [] mixed ?_
                  refine d_p 0 rfl (p_fieldAddr rfl rfl fd_24_1 sz_22 rfl) (by kernel_rfl) rfl rfl ?_
                  refine d_q 1 [] rfl (q_load rfl rfl sz_22 aPk rfl) (by kernel_rfl) (by kernel_rfl) (by kernel_rfl) rfl ?_
                  refine d_p 2 rfl (p_pure rfl) (by kernel_rfl) rfl rfl ?_
                  refine d_p 3 rfl (p_indexAddr rfl rfl rfl sl_22 (j) (by omega) (by omega) (Rw.some hs (by omega))) (by kernel_rfl) rfl rfl ?_
                  refine d_p 4 rfl (p_fieldAddr rfl rfl fd_50_1 sz_9 rfl) (by kernel_rfl) rfl rfl ?_
                  refine d_q 5 [] rfl (q_load_old rfl rfl sz_9 ((hs.rdj (i := j) 1 (by omega) rfl))) (by kernel_rfl) (by kernel_rfl) (by kernel_rfl) rfl ?_
                  refine d_p 6 rfl (p_fieldAddr rfl rfl fd_50_1 sz_9 rfl) (by kernel_rfl) rfl rfl ?_
                  refine d_q 7 [] rfl (q_load rfl rfl sz_9 aPk rfl) (by kernel_rfl) (by kernel_rfl) (by kernel_rfl) rfl ?_
                  refine d_p 8 rfl (p_pure rfl) (by kernel_rfl) rfl rfl ?_
                  refine d_nil (by kernel_rfl) (fun w h => by first | exact h | exact h.ent aEt) ?_
                  refine s_cond rfl (fun h13 => ?_) (fun h13 => ?_)
                  · try simp only [decide_eq_true_eq, decide_eq_false_iff_not, Bool.not_eq_true', Bool.not_eq_false', Bool.and_eq_true, Bool.or_eq_true, Bool.and_eq_false_iff, Bool.or_eq_false_iff, Bool.not_true, Bool.not_false] at h13
                    have hjx : (nth l j).by_ = (nth l i).by_ := h13
                    have hmb : (nth l i).by_ ∈ (l.take i).map SItm.by_ := by rw [← hjx]; exact mem_by hj (Nat.le_of_lt hi)
                    have hit := itm_dup he0 hd9 hmb
                    have hek := eachF_at (es := itmsE nx l) (k := i) (by rw [itms_len]; exact hi) hi3 (by rw [itms_get hi, hit]; first | decide | assumption)
                    rw [itms_get hi, hit] at hek
                    have hse : stoE nx l = ((i : Int), 23) := by rw [sto_pre, if_pos h0, if_neg (by rw [hek]; first | assumption | (dsimp only; decide))]; exact hek
                    refine s_seq ?_
                    refine s_region ?_
                    refine o_p (p_pure rfl) rfl ?_
                    refine o_p (p_pure rfl) rfl ?_
                    refine o_p (p_pure rfl) rfl ?_
                    refine o_nil ?_
                    exact s_retv (rs := [.tmp 2, .tmp 3]) rfl (.tmp rfl (.tmp rfl (.nil))) (fun w' h' => ⟨by rw [hse]; rfl, h'.below⟩)
                  · try simp only [decide_eq_true_eq, decide_eq_false_iff_not, Bool.not_eq_true', Bool.not_eq_false', Bool.and_eq_true, Bool.or_eq_true, Bool.and_eq_false_iff, Bool.or_eq_false_iff, Bool.not_true, Bool.not_false] at h13
                    have hjx : ¬ (nth l j).by_ = (nth l i).by_ := h13
                    refine s_skip ?_
                    refine s_blk ?_
                    refine s_region ?_
                    refine o_p (p_pure rfl) rfl ?_
                    refine o_p (p_pure rfl) rfl ?_
                    try (refine o_slot (i64w (by omega) (by omega)) ?_)
                    refine o_p (p_pure rfl) rfl ?_
                    refine o_nil ?_
                    exact s_backI (j + 1) (by omega) ⟨by omega, fun q hq => (Nat.lt_or_ge q j).elim (hj2 q) (fun h => by obtain rfl : q = j := (by omega); exact hjx)⟩ aSx (fun w h => h.ent aEt)
                · try simp only [decide_eq_true_eq, decide_eq_false_iff_not, Bool.not_eq_true', Bool.not_eq_false', Bool.and_eq_true, Bool.or_eq_true, Bool.and_eq_false_iff, Bool.or_eq_false_iff, Bool.not_true, Bool.not_false] at h12
                  have hij : i = j := by omega
                  have hnb := not_by (Nat.le_of_lt hi) (fun q hq => hj2 q (by omega))
                  have hit := itm_ok he0 hd9 hnb
                  refine s_exit_to rfl ?_
                  refine s_blk ?_
                  refine s_region ?_
                  refine o_p (p_pure rfl) rfl ?_
                  refine o_p (p_pure rfl) rfl ?_
                  try (refine o_slot (i64w (by omega) (by omega)) ?_)
                  refine o_p (p_pure rfl) rfl ?_
                  refine o_nil ?_
                  exact s_backI (i + 1) (by omega) ⟨by omega, fun q hq => (Nat.lt_or_ge q i).elim (hi3 q) (fun h => by obtain rfl : q = i := (by omega); rw [itms_get hi]; exact hit)⟩ aSx (fun w h => h.ent aEt)
          · intro hg14
            have hs15 := hg14; try simp only [decide_eq_true_eq, decide_eq_false_iff_not, Bool.not_eq_true', Bool.not_eq_false', Bool.and_eq_true, Bool.or_eq_true, Bool.and_eq_false_iff, Bool.or_eq_false_iff, Bool.not_true, Bool.not_false] at hs15
            refine d_off 3 41 rfl rfl rfl hg14 (by kernel_rfl) rfl rfl ?_
            refine d_off 4 41 rfl rfl rfl hg14 (by kernel_rfl) rfl rfl ?_
            refine d_off 5 41 rfl rfl rfl hg14 (by kernel_rfl) rfl rfl ?_
            refine d_off 6 41 rfl rfl rfl hg14 (by kernel_rfl) rfl rfl ?_
            refine d_off 7 41 rfl rfl rfl hg14 (by kernel_rfl) rfl rfl ?_
            refine d_off 8 41 rfl rfl rfl hg14 (by kernel_rfl) rfl rfl ?_
            refine d_off 9 41 rfl rfl rfl hg14 (by kernel_rfl) rfl rfl ?_
            refine d_off 10 41 rfl rfl rfl hg14 (by kernel_rfl) rfl rfl ?_
            refine d_off 11 41 rfl rfl rfl hg14 (by kernel_rfl) rfl rfl ?_
            refine d_off 12 41 rfl rfl rfl hg14 (by kernel_rfl) rfl rfl ?_
            refine d_p 13 rfl (p_pickf rfl rfl hg14 rfl) (by kernel_rfl) rfl rfl ?_
            refine d_nil (by kernel_rfl) (fun w h => by first | exact h | exact h.ent aEt) ?_
            refine s_cond rfl (fun h16 => ?_) (fun h16 => ?_)
            · try simp only [decide_eq_true_eq, decide_eq_false_iff_not, Bool.not_eq_true', Bool.not_eq_false', Bool.and_eq_true, Bool.or_eq_true, Bool.and_eq_false_iff, Bool.or_eq_false_iff, Bool.not_true, Bool.not_false] at h16
              have ho9 : ¬ (i = 0 ∨ (nth l (i - 1)).id < (nth l i).id) := by first | (have hq := h16; simp at hq; done) | (have hq := h16; have hg := hg14; simp at hg; omega)
              have he0 : e0E nx l i = 9 := by unfold e0E; rw [if_pos hr9, if_neg ho9]
              have hit := (itm_pre (nx := nx) (l := l) (i := i) (by rw [he0]; decide)).trans he0
              have hek := eachF_at (es := itmsE nx l) (k := i) (by rw [itms_len]; exact hi) hi3 (by rw [itms_get hi, hit]; first | decide | assumption)
              rw [itms_get hi, hit] at hek
              have hse : stoE nx l = ((i : Int), 9) := by rw [sto_pre, if_pos h0, if_neg (by rw [hek]; first | assumption | (dsimp only; decide))]; exact hek
              refine s_seq ?_
              refine s_weaken (L' := [(0, _), (1, _), (4, _), (5, _), (11, _), (12, _), (13, _), (14, _), (15, _), (16, _), (17, _), (18, _)]) aSx (fun _ h => h) ?_
              refine s_region ?_
              refine o_p (p_pure rfl) rfl ?_
              refine o_p (p_pure rfl) rfl ?_
              refine o_p (p_pure rfl) rfl ?_
              refine o_nil ?_
              exact s_retv (rs := [.tmp 2, .tmp 3]) rfl (.tmp rfl (.tmp rfl (.nil))) (fun w' h' => ⟨by rw [hse]; rfl, h'.below⟩)
            · try simp only [decide_eq_true_eq, decide_eq_false_iff_not, Bool.not_eq_true', Bool.not_eq_false', Bool.and_eq_true, Bool.or_eq_true, Bool.and_eq_false_iff, Bool.or_eq_false_iff, Bool.not_true, Bool.not_false] at h16
              have ho9 : i = 0 ∨ (nth l (i - 1)).id < (nth l i).id := by first | (have hq := h16; have hg := hg14; simp at hg; omega) | (have hg := hg14; simp at hg; exact .inl (by omega))
              have he0 : e0E nx l i = 0 := by unfold e0E; rw [if_pos hr9, if_pos ho9]
              refine s_skip ?_
              refine s_seq ?_
              refine s_seq ?_
              refine s_weaken (L' := [(0, _), (1, _), (4, _), (5, _), (11, _), (12, _), (13, _), (14, _), (15, _), (16, _), (17, _), (18, _)]) aSx (fun _ h => h) ?_
              refine s_region ?_
              refine o_p (p_fieldAddr rfl rfl fd_50_1 sz_9 rfl) rfl ?_
              refine o_q (q_load rfl rfl sz_9 aPk rfl) rfl ?_
              refine o_h (h_call rfl fn_67 rfl (fun w1 h1 => c67 w1 (nth l i).by_ (by omega))) rfl (fun gd _ => ?_)
              refine o_p (p_pure rfl) rfl ?_
              refine o_p (p_pure rfl) rfl ?_
              refine o_p (p_pure rfl) rfl ?_
              refine o_h (h_alloc rfl zr_57) rfl (fun b17 _ => ?_)
              refine o_h0 (h_store rfl rfl rfl sz_57 rfl aPt (by simp only [setMany_length, List.length_set, List.length_cons, List.length_nil, List.length_map]; omega) rfl) (fun _ _ => ?_)
              refine o_p (p_pure rfl) rfl ?_
              refine o_nil ?_
              refine s_seq ?_
              refine s_region ?_
              refine o_p (p_pure rfl) rfl ?_
              refine o_p (p_pure rfl) rfl ?_
              refine o_nil ?_
              refine s_cond rfl (fun h18 => ?_) (fun h18 => ?_)
              · try simp only [decide_eq_true_eq, decide_eq_false_iff_not, Bool.not_eq_true', Bool.not_eq_false', Bool.and_eq_true, Bool.or_eq_true, Bool.and_eq_false_iff, Bool.or_eq_false_iff, Bool.not_true, Bool.not_false] at h18
                have hd9 : ¬ decE (nth l i).by_ = 0 := h18
                have hit := itm_dec he0 hd9
                have hek := eachF_at (es := itmsE nx l) (k := i) (by rw [itms_len]; exact hi) hi3 (by rw [itms_get hi, hit]; first | decide | assumption)
                rw [itms_get hi, hit] at hek
                have hse : stoE nx l = ((i : Int), decE (nth l i).by_) := by rw [sto_pre, if_pos h0, if_neg (by rw [hek]; first | assumption | (dsimp only; decide))]; exact hek
                refine s_seq ?_
                refine s_region ?_
                refine o_p (p_pure rfl) rfl ?_
                refine o_p (p_pure rfl) rfl ?_
                refine o_p (p_pure rfl) rfl ?_
                refine o_p (p_pure rfl) rfl ?_
                refine o_nil ?_
                exact s_retv (rs := [.tmp 2, .tmp 3]) rfl (.tmp rfl (.tmp rfl (.nil))) (fun w' h' => ⟨by rw [hse]; rfl, h'.below⟩)
              · try simp only [decide_eq_true_eq, decide_eq_false_iff_not, Bool.not_eq_true', Bool.not_eq_false', Bool.and_eq_true, Bool.or_eq_true, Bool.and_eq_false_iff, Bool.or_eq_false_iff, Bool.not_true, Bool.not_false] at h18
                have hd9 : decE (nth l i).by_ = 0 := h18
                refine s_skip ?_
                refine s_seq ?_
                refine s_region ?_
                refine o_p (p_pure rfl) rfl ?_
                refine o_nil ?_
                refine s_block ?_
                refine s_weaken (L' := [(0, _), (1, _), (4, _), (5, _), (8, _), (11, _), (12, _), (13, _), (14, _), (15, _), (16, _), (17, _), (18, _)]) aSx (fun _ h => h) ?_
                refine s_loopI (α := Nat) [2, 3, 8, 64, 65, 66, 67, 68, 69, 70, 71, 72, 73, 74, 75, 76, 77, 78] (fun j => [(8, .int .i64 (j : Int))]) (fun _ => HS w [] [.blk b5 50 2 [.int .i64 (nth l i).id, .string (bs (nth l i).by_)], .blk b1 24 2 [.int .i64 nx, .slice a l.length cap]]) (fun j => j ≤ i ∧ ∀ q, q < j → (nth l q).by_ ≠ (nth l i).by_) (fun j => i - j) 0 ⟨Nat.zero_le _, fun j h => absurd h (Nat.not_lt_zero j)⟩ aSx (fun w h => h.ent aEt) (fun j hjj => ?_)
                obtain ⟨hj1, hj2⟩ := hjj
                refine s_seq ?_
                refine s_seq ?_
                refine s_region ?_
                refine o_p (p_pure rfl) rfl ?_
                refine o_p (p_pure rfl) rfl ?_
                refine o_p (p_pure rfl) rfl ?_
                refine o_nil ?_
                refine s_cond rfl (fun h19 => ?_) (fun h19 => ?_)
                · try simp only [decide_eq_true_eq, decide_eq_false_iff_not, Bool.not_eq_true', Bool.not_eq_false', Bool.and_eq_true, Bool.or_eq_true, Bool.and_eq_false_iff, Bool.or_eq_false_iff, Bool.not_true, Bool.not_false] at h19
                  have hj : j < i := by omega
                  refine s_skip ?_
                  refine s_seq ?_
                  refine s_block ?_
                  refine s_seq ?_
                  refine s_draw [] mixed ?_
                  refine d_p 0 rfl (p_fieldAddr rfl rfl fd_24_1 sz_22 rfl) (by kernel_rfl) rfl rfl ?_
                  refine d_q 1 [] rfl (q_load rfl rfl sz_22 aPk rfl) (by kernel_rfl) (by kernel_rfl) (by kernel_rfl) rfl ?_
                  refine d_p 2 rfl (p_pure rfl) (by kernel_rfl) rfl rfl ?_
                  refine d_p 3 rfl (p_indexAddr rfl rfl rfl sl_22 (j) (by omega) (by omega) (Rw.some hs (by omega))) (by kernel_rfl) rfl rfl ?_
                  refine d_p 4 rfl (p_fieldAddr rfl rfl fd_50_1 sz_9 rfl) (by kernel_rfl) rfl rfl ?_
                  refine d_q 5 [] rfl (q_load_old rfl rfl sz_9 ((hs.rdj (i := j) 1 (by omega) rfl))) (by kernel_rfl) (by kernel_rfl) (by kernel_rfl) rfl ?_
                  refine d_p 6 rfl (p_fieldAddr rfl rfl fd_50_1 sz_9 rfl) (by kernel_rfl) rfl rfl ?_
                  refine d_q 7 [] rfl (q_load rfl rfl sz_9 aPk rfl) (by kernel_rfl) (by kernel_rfl) (by kernel_rfl) rfl ?_
                  refine d_p 8 rfl (p_pure rfl) (by kernel_rfl) rfl rfl ?_
                  refine d_nil (by kernel_rfl) (fun w h => by first | exact h | exact h.ent aEt) ?_
                  refine s_cond rfl (fun h20 => ?_) (fun h20 => ?_)
                  · try simp only [decide_eq_true_eq, decide_eq_false_iff_not, Bool.not_eq_true', Bool.not_eq_false', Bool.and_eq_true, Bool.or_eq_true, Bool.and_eq_false_iff, Bool.or_eq_false_iff, Bool.not_true, Bool.not_false] at h20
                    have hjx : (nth l j).by_ = (nth l i).by_ := h20
                    have hmb : (nth l i).by_ ∈ (l.take i).map SItm.by_ := by rw [← hjx]; exact mem_by hj (Nat.le_of_lt hi)
                    have hit := itm_dup he0 hd9 hmb
                    have hek := eachF_at (es := itmsE nx l) (k := i) (by rw [itms_len]; exact hi) hi3 (by rw [itms_get hi, hit]; first | decide | assumption)
                    rw [itms_get hi, hit] at hek
                    have hse : stoE nx l = ((i : Int), 23) := by rw [sto_pre, if_pos h0, if_neg (by rw [hek]; first | assumption | (dsimp only; decide))]; exact hek
                    refine s_seq ?_
                    refine s_region ?_
                    refine o_p (p_pure rfl) rfl ?_
                    refine o_p (p_pure rfl) rfl ?_
                    refine o_p (p_pure rfl) rfl ?_
                    refine o_nil ?_
                    exact s_retv (rs := [.tmp 2, .tmp 3]) rfl (.tmp rfl (.tmp rfl (.nil))) (fun w' h' => ⟨by rw [hse]; rfl, h'.below⟩)
                  · try simp only [decide_eq_true_eq, decide_eq_false_iff_not, Bool.not_eq_true', Bool.not_eq_false', Bool.and_eq_true, Bool.or_eq_true, Bool.and_eq_false_iff, Bool.or_eq_false_iff, Bool.not_true, Bool.not_false] at h20
                    have hjx : ¬ (nth l j).by_ = (nth l i).by_ := h20
                    refine s_skip ?_
                    refine s_blk ?_
                    refine s_region ?_
                    refine o_p (p_pure rfl) rfl ?_
                    refine o_p (p_pure rfl) rfl ?_
                    try (refine o_slot (i64w (by omega) (by omega)) ?_)
                    refine o_p (p_pure rfl) rfl ?_
                    refine o_nil ?_
                    exact s_backI (j + 1) (by omega) ⟨by omega, fun q hq => (Nat.lt_or_ge q j).elim (hj2 q) (fun h => by obtain rfl : q = j := (by omega); exact hjx)⟩ aSx (fun w h => h.ent aEt)
                · try simp only [decide_eq_true_eq, decide_eq_false_iff_not, Bool.not_eq_true', Bool.not_eq_false', Bool.and_eq_true, Bool.or_eq_true, Bool.and_eq_false_iff, Bool.or_eq_false_iff, Bool.not_true, Bool.not_false] at h19
                  have hij : i = j := by omega
                  have hnb := not_by (Nat.le_of_lt hi) (fun q hq => hj2 q (by omega))
                  have hit := itm_ok he0 hd9 hnb
                  refine s_exit_to rfl ?_
                  refine s_blk ?_
                  refine s_region ?_
                  refine o_p (p_pure rfl) rfl ?_
                  refine o_p (p_pure rfl) rfl ?_
                  try (refine o_slot (i64w (by omega) (by omega)) ?_)
                  refine o_p (p_pure rfl) rfl ?_
                  refine o_nil ?_
                  exact s_backI (i + 1) (by omega) ⟨by omega, fun q hq => (Nat.lt_or_ge q i).elim (hi3 q) (fun h => by obtain rfl : q = i := (by omega); rw [itms_get hi]; exact hit)⟩ aSx (fun w h => h.ent aEt)
      · try simp only [decide_eq_true_eq, decide_eq_false_iff_not, Bool.not_eq_true', Bool.not_eq_false', Bool.and_eq_true, Bool.or_eq_true, Bool.and_eq_false_iff, Bool.or_eq_false_iff, Bool.not_true, Bool.not_false] at h4
        obtain rfl : i = l.length := by omega
        have hal := eachF_all (es := itmsE nx l) (by rw [itms_len]; exact hi3)
        refine s_exit_to rfl ?_
        refine s_seq ?_
        refine s_seq ?_
        refine s_region ?_
        refine o_q (q_loadn rfl rfl sz_24 aPk rfl) rfl ?_
        refine o_h (h_call rfl fn_15 rfl (fun w1 h1 => c15 w1 nx a cap l (hs.later h1) hm hb)) rfl (fun gp _ => ?_)
        refine o_p (p_pure rfl) rfl ?_
        refine o_p (p_pure rfl) rfl ?_
        refine o_p (p_pure rfl) rfl ?_
        refine o_p (p_pure rfl) rfl ?_
        refine o_p (p_pure rfl) rfl ?_
        refine o_nil ?_
        refine s_seq ?_
        refine s_region ?_
        refine o_p (p_pure rfl) rfl ?_
        refine o_p (p_pure rfl) rfl ?_
        refine o_nil ?_
        refine s_cond rfl (fun h21 => ?_) (fun h21 => ?_)
        · try simp only [decide_eq_true_eq, decide_eq_false_iff_not, Bool.not_eq_true', Bool.not_eq_false', Bool.and_eq_true, Bool.or_eq_true, Bool.and_eq_false_iff, Bool.or_eq_false_iff, Bool.not_true, Bool.not_false] at h21
          have hp9 : ¬ (plsI l).2 ≤ 8192 := by have hq := h21; omega
          have hse : stoE nx l = (0, 16) := by rw [sto_pre, if_pos h0, if_pos (by rw [hal]), if_neg hp9]
          refine s_seq ?_
          refine s_region ?_
          refine o_p (p_pure rfl) rfl ?_
          refine o_p (p_pure rfl) rfl ?_
          refine o_nil ?_
          exact s_retv (rs := [.tmp 2, .tmp 3]) rfl (.tmp rfl (.tmp rfl (.nil))) (fun w' h' => ⟨by rw [hse]; rfl, h'.below⟩)
        · try simp only [decide_eq_true_eq, decide_eq_false_iff_not, Bool.not_eq_true', Bool.not_eq_false', Bool.and_eq_true, Bool.or_eq_true, Bool.and_eq_false_iff, Bool.or_eq_false_iff, Bool.not_true, Bool.not_false] at h21
          have hp9 : (plsI l).2 ≤ 8192 := by have hq := h21; omega
          have hse : stoE nx l = (0, 0) := by rw [sto_pre, if_pos h0, if_pos (by rw [hal]), if_pos hp9]
          refine s_skip ?_
          refine s_seq ?_
          refine s_region ?_
          refine o_p (p_pure rfl) rfl ?_
          refine o_p (p_pure rfl) rfl ?_
          refine o_nil ?_
          exact s_retv (rs := [.tmp 2, .tmp 3]) rfl (.tmp rfl (.tmp rfl (.nil))) (fun w' h' => ⟨by rw [hse]; rfl, h'.below⟩)

set_option maxRecDepth 20000 in
theorem c13 (w : World) (nx : Int) (a : Option Addr) (cap : Nat) (l : List SItm) (hs : Rw SItm.vals 2 w [] a l) (hm : l.length ≤ 100000) (hb : ∀ x ∈ l, x.by_.length ≤ 100000) : Calls Tryz.prog 13 #[.agg #[.int .i64 nx, .slice a l.length cap]] w fun en w' => en = .returned (.int .i64 (stoE nx l).2) ∧ Below w.heap.size w w' := by
  refine enter (args := [_]) Tryz.func13 Tryz.ntmps13 rfl rfl (HS.refl w []) ?_
  refine s_seq ?_
  refine s_region ?_
  refine o_h (h_box rfl rfl) rfl (fun b1 _ => ?_)
  refine o_p (p_pure rfl) rfl ?_
  refine o_nil ?_
  refine s_seq ?_
  refine s_region ?_
  refine o_q (q_loadn rfl rfl sz_24 aPk rfl) rfl ?_
  refine o_q (q_call rfl fn_37 rfl (fun w1 h1 => c37 w1 nx a cap l (hs.later h1) hm hb)) rfl ?_
  refine o_p (p_pure rfl) rfl ?_
  refine o_p (p_pure rfl) rfl ?_
  refine o_p (p_pure rfl) rfl ?_
  refine o_p (p_pure rfl) rfl ?_
  refine o_p (p_pure rfl) rfl ?_
  refine o_nil ?_
  refine s_seq ?_
  refine s_region ?_
  refine o_p (p_pure rfl) rfl ?_
  refine o_p (p_pure rfl) rfl ?_
  refine o_nil ?_
  exact s_retv (rs := [.tmp 2]) rfl (.tmp rfl (.nil)) (fun w' h' => ⟨rfl, h'.below⟩)

end Go.Proofs

namespace Go.Proofs
open Go Go.RowKit Gx
set_option linter.unusedVariables false
set_option linter.unusedSimpArgs false
attribute [local irreducible] Go.Calls Gx.S Gx.O Gx.D Gx.OpP Gx.OpQ Gx.OpH

theorem fn_72 : isFn Tryz.prog 72 = true := by kernel_rfl
theorem fn_71 : isFn Tryz.prog 71 = true := by kernel_rfl
theorem fn_25 : isFn Tryz.prog 25 = true := by kernel_rfl
theorem fn_70 : isFn Tryz.prog 70 = true := by kernel_rfl
theorem zr_24 : tzero Tryz.prog 24 = some [.int .i64 0, .slice none 0 0] := by kernel_rfl
theorem fn_42 : isFn Tryz.prog 42 = true := by kernel_rfl
theorem pl_24 : tplaces Tryz.prog 24 = some [(0, 1), (1, 1)] := by kernel_rfl
theorem fn_43 : isFn Tryz.prog 43 = true := by kernel_rfl
theorem fn_44 : isFn Tryz.prog 44 = true := by kernel_rfl
theorem pl_50 : tplaces Tryz.prog 50 = some [(0, 1), (1, 1)] := by kernel_rfl


set_option maxRecDepth 20000 in
theorem c43 (w : World) (a : Option Addr) (cap : Nat) (l : List SItm) (hs : Rw SItm.vals 2 w [] a l) (hm : l.length ≤ 1000000) : Calls Tryz.prog 43 #[.slice a l.length cap] w fun en w' => ∃ g : Option Addr × Nat, en = .returned (.slice g.1 l.length g.2) ∧ True ∧ HS w [] [.own (.slice g.1 l.length g.2) 50 2 l.length (l.flatMap SItm.vals)] w' := by
  refine enter (args := [_]) Tryz.func43 Tryz.ntmps43 rfl rfl (HS.refl w []) ?_
  refine s_seq ?_
  refine s_region ?_
  refine o_p (p_pure rfl) rfl ?_
  refine o_nil ?_
  refine s_seq ?_
  refine s_seq ?_
  refine s_region ?_
  refine o_p (p_pure rfl) rfl ?_
  refine o_p (p_slice_nil_eql rfl rfl rfl Tryz.underlying22) rfl ?_
  refine o_nil ?_
  refine s_cond rfl (fun h1 => ?_) (fun h1 => ?_)
  · try simp only [decide_eq_true_eq, decide_eq_false_iff_not, Bool.not_eq_true', Bool.not_eq_false', Bool.and_eq_true, Bool.or_eq_true, Bool.and_eq_false_iff, Bool.or_eq_false_iff, Bool.not_true, Bool.not_false] at h1
    have ha0 : a = none := by cases a with | none => rfl | some b => simp at h1
    subst ha0
    have hl0 : l = [] := Rw.none hs
    refine s_seq ?_
    refine s_region ?_
    refine o_p (p_pure rfl) rfl ?_
    refine o_nil ?_
    exact s_retv (rs := [.tmp 2]) rfl (.tmp rfl (.nil)) (fun w' h' => ⟨(none, 0), by rw [hl0]; rfl, trivial, by rw [hl0]; exact (h'.own_nil 50 2).ent aEt⟩)
  · try simp only [decide_eq_true_eq, decide_eq_false_iff_not, Bool.not_eq_true', Bool.not_eq_false', Bool.and_eq_true, Bool.or_eq_true, Bool.and_eq_false_iff, Bool.or_eq_false_iff, Bool.not_true, Bool.not_false] at h1
    refine s_skip ?_
    refine s_seq ?_
    refine s_region ?_
    refine o_h (h_buildSlice0 rfl sl_22) rfl (fun b2 _ => ?_)
    refine o_p (p_pure rfl) rfl ?_
    refine o_h (h_appendS (l.flatMap SItm.vals) rfl rfl rfl sl_22 Tryz.underlying22 zr_50 rfl aPk (fun w h => Rw.src sv2 hs h) (flat_length sv2 l) (flat_one sv1 l) (by omega) (by simp only [maxLen]; omega)) rfl (fun b3 _ => ?_)
    refine o_p (p_pure rfl) rfl ?_
    refine o_nil ?_
    exact s_retv (rs := [.tmp 2]) rfl (.tmp rfl (.nil)) (fun w' h' => ⟨b3, by simp only [retV, Nat.zero_add], trivial, by have h2 := h'; simp only [Nat.zero_add, List.nil_append] at h2; exact h2.ent aEt⟩)

set_option maxRecDepth 20000 in
theorem c71 (w : World) (a : Option Addr) (cap : Nat) (l : List SItm) (q : Nat) (cv : Array Value) (bt : List Bool) (hs : Rw SItm.vals 2 w [] a l) (hm : l.length ≤ 1000000) (hq : isFn Tryz.prog q = true) (hb : bt.length = l.length) (hc : ∀ k w1, k < l.length → HS w [] [] w1 → Calls Tryz.prog q (#[] ++ [.agg (SItm.vals (nth l k)).toArray].toArray ++ cv) w1 fun en w2 => en = .returned (.bool (bt.getD k false)) ∧ Below w1.heap.size w1 w2) : Calls Tryz.prog 71 #[.slice a l.length cap, .func (.func q) #[] cv] w fun en w' => en = .returned (.int .i64 (ixI bt)) ∧ Below w.heap.size w w' := by
  refine enter (args := [_, _]) Tryz.func71 Tryz.ntmps71 rfl rfl (HS.refl w []) ?_
  refine s_seq ?_
  refine s_region ?_
  refine o_p (p_pure rfl) rfl ?_
  refine o_nil ?_
  refine s_seq ?_
  refine s_seq ?_
  refine s_region ?_
  refine o_p (p_pure rfl) rfl ?_
  refine o_p (p_len_slice rfl rfl Tryz.underlying22) rfl ?_
  refine o_p (p_pure rfl) rfl ?_
  refine o_nil ?_
  refine s_block ?_
  refine s_loopI (α := Nat) [4, 5, 8, 9, 10, 11, 12, 13, 14, 15, 16, 17, 18] (fun k => [(8, .int .i64 (k : Int))]) (fun _ => _) (fun k => k ≤ l.length ∧ ∀ i, i < k → bt.getD i false = false) (fun k => l.length - k) 0 ⟨by omega, fun i h => absurd h (Nat.not_lt_zero i)⟩ aSx (fun w h => h) (fun k hk => ?_)
  obtain ⟨hk1, hk2⟩ := hk
  refine s_seq ?_
  refine s_region ?_
  refine o_p (p_pure rfl) rfl ?_
  refine o_nil ?_
  refine s_seq ?_
  refine s_cond rfl (fun h1 => ?_) (fun h1 => ?_)
  · try simp only [decide_eq_true_eq, decide_eq_false_iff_not, Bool.not_eq_true', Bool.not_eq_false', Bool.and_eq_true, Bool.or_eq_true, Bool.and_eq_false_iff, Bool.or_eq_false_iff, Bool.not_true, Bool.not_false] at h1
    refine s_skip ?_
    refine s_seq ?_
    refine s_block ?_
    refine s_seq ?_
    refine s_region ?_
    refine o_p (p_pure rfl) rfl ?_
    refine o_p (p_pure rfl) rfl ?_
    refine o_nil ?_
    refine s_seq ?_
    refine s_region ?_
    refine o_p (p_pure rfl) rfl ?_
    refine o_p (p_pure rfl) rfl ?_
    refine o_p (p_pure rfl) rfl ?_
    refine o_p (p_indexAddr rfl rfl rfl sl_22 (k) (by omega) (by omega) (Rw.some hs (by omega))) rfl ?_
    refine o_q (q_load_oldn _ rfl rfl sz_50 rfl (Rw.rd hs (by omega))) rfl ?_
    refine o_q (q_callv rfl rfl hq rfl (fun w1 h1 => hc k w1 (by omega) (h1.ent aEt))) rfl ?_
    refine o_nil ?_
    refine s_cond rfl (fun h2 => ?_) (fun h2 => ?_)
    · try simp only [decide_eq_true_eq, decide_eq_false_iff_not, Bool.not_eq_true', Bool.not_eq_false', Bool.and_eq_true, Bool.or_eq_true, Bool.and_eq_false_iff, Bool.or_eq_false_iff, Bool.not_true, Bool.not_false] at h2
      refine s_seq ?_
      refine s_region ?_
      refine o_p (p_pure rfl) rfl ?_
      refine o_p (p_pure rfl) rfl ?_
      refine o_nil ?_
      exact s_retv (rs := [.tmp 4]) rfl (.tmp rfl (.nil)) (fun w' h' => ⟨by have e := ixB_eq (l := bt) (k := k) (by omega) hk2 (fun _ => by assumption); simp only [retV, ixI, e]; rw [if_pos (by omega)], h'.below⟩)
    · try simp only [decide_eq_true_eq, decide_eq_false_iff_not, Bool.not_eq_true', Bool.not_eq_false', Bool.and_eq_true, Bool.or_eq_true, Bool.and_eq_false_iff, Bool.or_eq_false_iff, Bool.not_true, Bool.not_false] at h2
      refine s_skip ?_
      refine s_blk ?_
      refine s_region ?_
      refine o_p (p_pure rfl) rfl ?_
      try (refine o_slot (i64w (by omega) (by omega)) ?_)
      refine o_p (p_pure rfl) rfl ?_
      refine o_nil ?_
      exact s_backI (k+1) (by omega) ⟨by omega, fun i hi => (Nat.lt_or_ge i k).elim (hk2 i) (fun h => by obtain rfl : i = k := (by omega); assumption)⟩ aSx (fun w h => h)
  · try simp only [decide_eq_true_eq, decide_eq_false_iff_not, Bool.not_eq_true', Bool.not_eq_false', Bool.and_eq_true, Bool.or_eq_true, Bool.and_eq_false_iff, Bool.or_eq_false_iff, Bool.not_true, Bool.not_false] at h1
    refine s_exit_to rfl ?_
    refine s_seq ?_
    refine s_region ?_
    refine o_p (p_pure rfl) rfl ?_
    refine o_nil ?_
    exact s_retv (rs := [.tmp 4]) rfl (.tmp rfl (.nil)) (fun w' h' => ⟨by have e := ixB_eq (l := bt) (k := k) (by omega) hk2 (fun h => by omega); simp only [retV, ixI, e]; rw [if_neg (by omega)], h'.below⟩)

set_option maxRecDepth 20000 in
theorem c72 (w : World) (bS : Nat) (x : SItm) (s : List UInt8) (hr : Rd w [] bS 0 (.string (bs s))) : Calls Tryz.prog 72 #[.agg #[.int .i64 x.id, .string (bs x.by_)], .pointer (some ⟨bS, 0, none⟩)] w fun en w' => en = .returned (.bool (decide (x.by_ = s))) ∧ Below w.heap.size w w' := by
  refine enter (args := [_, _]) Tryz.func72 Tryz.ntmps72 rfl rfl (HS.refl w []) ?_
  refine s_seq ?_
  refine s_region ?_
  refine o_h (h_box rfl rfl) rfl (fun b1 _ => ?_)
  refine o_p (p_pure rfl) rfl ?_
  refine o_nil ?_
  refine s_seq ?_
  refine s_region ?_
  refine o_p (p_fieldAddr rfl rfl fd_50_1 sz_9 rfl) rfl ?_
  refine o_q (q_load rfl rfl sz_9 aPk rfl) rfl ?_
  refine o_q (q_load_old rfl rfl sz_9 (hr)) rfl ?_
  refine o_p (p_pure rfl) rfl ?_
  refine o_p (p_pure rfl) rfl ?_
  refine o_nil ?_
  exact s_retv (rs := [.tmp 3]) rfl (.tmp rfl (.nil)) (fun w' h' => ⟨by rfl, h'.below⟩)

set_option maxRecDepth 20000 in
theorem c44 (w : World) (a : Option Addr) (cap : Nat) (l : List SItm) (s : List UInt8) (hs : Rw SItm.vals 2 w [] a l) (hm : l.length ≤ 1000000) : Calls Tryz.prog 44 #[.slice a l.length cap, .string (bs s)] w fun en w' => en = .returned (.int .i64 (ixI (byB l s))) ∧ Below w.heap.size w w' := by
  refine enter (args := [_, _]) Tryz.func44 Tryz.ntmps44 rfl rfl (HS.refl w []) ?_
  refine s_seq ?_
  refine s_region ?_
  refine o_h (h_box rfl rfl) rfl (fun b1 _ => ?_)
  refine o_p (p_pure rfl) rfl ?_
  refine o_nil ?_
  refine s_seq ?_
  refine s_region ?_
  refine o_p (p_pure rfl) rfl ?_
  refine o_p (p_pure rfl) rfl ?_
  refine o_q (q_call rfl fn_71 rfl (fun w1 h1 => c71 w1 a cap l 72 _ (byB l s) (hs.later h1) hm fn_72 (byB_len l s) (fun k w2 hk h2 => by have h9 := c72 w2 b1 (nth l k) s ((h1.rd_blk (i := 0) aPk rfl (by simp)).later h2 (by simp)); rw [byB_get hk]; exact h9))) rfl ?_
  refine o_p (p_pure rfl) rfl ?_
  refine o_nil ?_
  exact s_retv (rs := [.tmp 4]) rfl (.tmp rfl (.nil)) (fun w' h' => ⟨by rfl, h'.below⟩)

set_option maxRecDepth 20000 in
theorem c42 (w : World) (nx : Int) (a : Option Addr) (cap : Nat) (l : List SItm) (d : Dsc) (ea : Option Addr) (eac : Nat) (aa : Option Addr) (aac : Nat) (hs : Rw SItm.vals 2 w [] a l) (hm : l.length ≤ 100000) (hb : ∀ x ∈ l, x.by_.length ≤ 100000) (hse : Rw Ace.vals 4 w [] ea d.en) (hsa : Rw Ace.vals 4 w [] aa d.au) (hme : d.en.length ≤ 100000) (hma : d.au.length ≤ 100000) : Calls Tryz.prog 42 #[.agg #[.int .i64 nx, .slice a l.length cap], .agg #[.int .i64 d.ow, .int .i64 d.gr, .bool d.pr, .bool d.he, .slice ea d.en.length eac, .slice aa d.au.length aac]] w fun en w' => en = .returned (.tuple #[.string (bs (if addE nx l d = 0 then encD d else [])), .int .i64 (addE nx l d)]) ∧ Below w.heap.size w w' := by
  refine enter (args := [_, _]) Tryz.func42 Tryz.ntmps42 rfl rfl (HS.refl w []) ?_
  refine s_seq ?_
  refine s_region ?_
  refine o_h (h_box rfl rfl) rfl (fun b1 _ => ?_)
  refine o_h (h_box rfl rfl) rfl (fun b2 _ => ?_)
  refine o_p (p_pure rfl) rfl ?_
  refine o_p (p_pure rfl) rfl ?_
  refine o_nil ?_
  refine s_seq ?_
  refine s_seq ?_
  refine s_region ?_
  refine o_q (q_loadn rfl rfl sz_24 aPk rfl) rfl ?_
  refine o_q (q_call rfl fn_25 rfl (fun w1 h1 => c25 w1 nx a cap l (hs.later h1) hm hb)) rfl ?_
  refine o_p (p_pure rfl) rfl ?_
  refine o_nil ?_
  refine s_seq ?_
  refine s_region ?_
  refine o_p (p_pure rfl) rfl ?_
  refine o_p (p_pure rfl) rfl ?_
  refine o_nil ?_
  refine s_cond rfl (fun h3 => ?_) (fun h3 => ?_)
  · try simp only [decide_eq_true_eq, decide_eq_false_iff_not, Bool.not_eq_true', Bool.not_eq_false', Bool.and_eq_true, Bool.or_eq_true, Bool.and_eq_false_iff, Bool.or_eq_false_iff, Bool.not_true, Bool.not_false] at h3
    have h0 : ¬ (stoE nx l).2 = 0 := h3
    have he9 : addE nx l d = (stoE nx l).2 := by unfold addE; rw [if_neg h0]
    refine s_seq ?_
    refine s_region ?_
    refine o_p (p_pure rfl) rfl ?_
    refine o_p (p_pure rfl) rfl ?_
    refine o_p (p_pure rfl) rfl ?_
    refine o_nil ?_
    exact s_retv (rs := [.tmp 4, .tmp 5]) rfl (.tmp rfl (.tmp rfl (.nil))) (fun w' h' => ⟨by rw [he9, if_neg h0]; rfl, h'.below⟩)
  · try simp only [decide_eq_true_eq, decide_eq_false_iff_not, Bool.not_eq_true', Bool.not_eq_false', Bool.and_eq_true, Bool.or_eq_true, Bool.and_eq_false_iff, Bool.or_eq_false_iff, Bool.not_true, Bool.not_false] at h3
    have h0 : (stoE nx l).2 = 0 := h3
    have he9 : addE nx l d = (dscE d).2 := by unfold addE; rw [if_pos h0]
    refine s_skip ?_
    refine s_seq ?_
    refine s_region ?_
    refine o_q (q_loadn rfl rfl sz_57 aPk rfl) rfl ?_
    refine o_q (q_call rfl fn_70 rfl (fun w1 h1 => c70 w1 d ea eac aa aac (hse.later h1) (hsa.later h1) hme hma)) rfl ?_
    refine o_p (p_pure rfl) rfl ?_
    refine o_p (p_pure rfl) rfl ?_
    refine o_p (p_pure rfl) rfl ?_
    refine o_p (p_pure rfl) rfl ?_
    refine o_nil ?_
    exact s_retv (rs := [.tmp 4, .tmp 5]) rfl (.tmp rfl (.tmp rfl (.nil))) (fun w' h' => ⟨by rw [he9]; rfl, h'.below⟩)

set_option maxRecDepth 20000 in
set_option maxHeartbeats 1000000 in
theorem c19 (w : World) (nx : Int) (a : Option Addr) (cap : Nat) (l : List SItm) (d : Dsc) (ea : Option Addr) (eac : Nat) (aa : Option Addr) (aac : Nat) (hs : Rw SItm.vals 2 w [] a l) (hm : l.length ≤ 100000) (hb : ∀ x ∈ l, x.by_.length ≤ 100000) (hse : Rw Ace.vals 4 w [] ea d.en) (hsa : Rw Ace.vals 4 w [] aa d.au) (hme : d.en.length ≤ 100000) (hma : d.au.length ≤ 100000) : Calls Tryz.prog 19 #[.agg #[.int .i64 nx, .slice a l.length cap], .agg #[.int .i64 d.ow, .int .i64 d.gr, .bool d.pr, .bool d.he, .slice ea d.en.length eac, .slice aa d.au.length aac]] w fun en w' => ∃ g : Option Addr × Nat, en = .returned (.tuple #[.agg #[.int .i64 (addT nx l d).nx, .slice g.1 (addT nx l d).l.length g.2], .int .i64 (addT nx l d).id, .int .i64 (addT nx l d).e]) ∧ True ∧ HS w [] [.own (.slice g.1 (addT nx l d).l.length g.2) 50 2 (addT nx l d).l.length ((addT nx l d).l.flatMap SItm.vals)] w' := by
  have hkl := byK_le l (encD d)
  refine enter (args := [_, _]) Tryz.func19 Tryz.ntmps19 rfl rfl (HS.refl w []) ?_
  refine s_seq ?_
  refine s_region ?_
  refine o_h (h_box rfl rfl) rfl (fun b1 _ => ?_)
  refine o_h (h_box rfl rfl) rfl (fun b2 _ => ?_)
  refine o_h (h_alloc rfl zr_24) rfl (fun b3 _ => ?_)
  refine o_p (p_pure rfl) rfl ?_
  refine o_p (p_pure rfl) rfl ?_
  refine o_nil ?_
  refine s_seq ?_
  refine s_region ?_
  refine o_q (q_loadn rfl rfl sz_24 aPk rfl) rfl ?_
  refine o_q (q_loadn rfl rfl sz_57 aPk rfl) rfl ?_
  refine o_q (q_call rfl fn_42 rfl (fun w1 h1 => c42 w1 nx a cap l d ea eac aa aac (hs.later h1) hm hb (hse.later h1) (hsa.later h1) hme hma)) rfl ?_
  refine o_p (p_pure rfl) rfl ?_
  refine o_p (p_pure rfl) rfl ?_
  refine o_p (p_pure rfl) rfl ?_
  refine o_p (p_pure rfl) rfl ?_
  refine o_p (p_pure rfl) rfl ?_
  refine o_nil ?_
  refine s_seq ?_
  refine s_seq ?_
  refine s_region ?_
  refine o_p (p_pure rfl) rfl ?_
  refine o_p (p_pure rfl) rfl ?_
  refine o_nil ?_
  refine s_cond rfl (fun h4 => ?_) (fun h4 => ?_)
  · try simp only [decide_eq_true_eq, decide_eq_false_iff_not, Bool.not_eq_true', Bool.not_eq_false', Bool.and_eq_true, Bool.or_eq_true, Bool.and_eq_false_iff, Bool.or_eq_false_iff, Bool.not_true, Bool.not_false] at h4
    have h0 : ¬ addE nx l d = 0 := h4
    have hT : addT nx l d = ⟨0, [], 0, addE nx l d⟩ := by unfold addT; rw [if_neg h0]
    refine s_seq ?_
    refine s_region ?_
    refine o_p (p_build (cs := [_, _]) rfl rfl pl_24 zr_24 rfl) rfl ?_
    refine o_p (p_pure rfl) rfl ?_
    refine o_h0 (h_store rfl rfl rfl sz_24 rfl aPt (by simp only [setMany_length, List.length_set, List.length_cons, List.length_nil, List.length_map]; omega) rfl) (fun _ _ => ?_)
    refine o_p (p_pure rfl) rfl ?_
    refine o_p (p_pure rfl) rfl ?_
    refine o_nil ?_
    exact s_retv (rs := [.cell 4 24, .tmp 5, .tmp 6]) rfl (.cell rfl sz_24 aPk rfl (.tmp rfl (.tmp rfl (.nil)))) (fun w' h' => ⟨(none, 0), by rw [hT]; rfl, trivial, by rw [hT]; exact (h'.own_nil 50 2).ent aEt⟩)
  · try simp only [decide_eq_true_eq, decide_eq_false_iff_not, Bool.not_eq_true', Bool.not_eq_false', Bool.and_eq_true, Bool.or_eq_true, Bool.and_eq_false_iff, Bool.or_eq_false_iff, Bool.not_true, Bool.not_false] at h4
    have h0 : addE nx l d = 0 := h4
    obtain ⟨hst0, hds0⟩ := add_ok h0
    have hdl := encD_len d
    obtain ⟨hnx, hl60, hit9, hpl9⟩ := sto_ok hst0
    obtain ⟨_, ⟨hen16, hau16⟩, _, _⟩ := dsc_ok hds0
    rw [if_pos h0]
    refine s_skip ?_
    refine s_seq ?_
    refine s_region ?_
    refine o_p (p_fieldAddr rfl rfl fd_24_1 sz_22 rfl) rfl ?_
    refine o_q (q_load rfl rfl sz_22 aPk rfl) rfl ?_
    refine o_h (h_call rfl fn_43 rfl (fun w1 h1 => c43 w1 a cap l (hs.later h1) (by omega))) rfl (fun b5 _ => ?_)
    refine o_p (p_pure rfl) rfl ?_
    refine o_nil ?_
    refine s_seq ?_
    refine s_seq ?_
    refine s_region ?_
    refine o_p (p_pure rfl) rfl ?_
    refine o_p (p_pure rfl) rfl ?_
    refine o_q (q_call rfl fn_44 rfl (fun w1 h1 => c44 w1 b5.1 b5.2 l (encD d) (h1.rw_own sv2 aPk rfl) (by omega))) rfl ?_
    refine o_p (p_pure rfl) rfl ?_
    refine o_nil ?_
    refine s_seq ?_
    refine s_region ?_
    refine o_p (p_pure rfl) rfl ?_
    refine o_p (p_pure rfl) rfl ?_
    refine o_nil ?_
    refine s_cond rfl (fun h6 => ?_) (fun h6 => ?_)
    · try simp only [decide_eq_true_eq, decide_eq_false_iff_not, Bool.not_eq_true', Bool.not_eq_false', Bool.and_eq_true, Bool.or_eq_true, Bool.and_eq_false_iff, Bool.or_eq_false_iff, Bool.not_true, Bool.not_false] at h6
      have hk : (byK l (encD d)) < l.length := by have hq := h6; unfold ixI at hq; rw [byB_len] at hq; split at hq; assumption; omega
      have hix : ixI (byB l (encD d)) = (((byK l (encD d)) : Nat) : Int) := by unfold ixI; rw [byB_len, if_pos (show ixB (byB l (encD d)) < l.length from hk)]; rfl
      have hT : addT nx l d = ⟨nx, l, (nth l (byK l (encD d))).id, 0⟩ := by unfold addT addR; rw [if_pos h0, if_pos hk]
      refine s_fact (fun w h => Rw.some (h.rw_own sv2 aPk rfl) (by omega)) fun hsm => ?_
      refine s_seq ?_
      refine s_drawB [.own (.slice b5.1 l.length b5.2) 50 2 l.length (l.flatMap SItm.vals), .blk b1 24 2 [.int .i64 nx, .slice a l.length cap]] [] mixed ?_
      refine d_p 0 rfl (p_fieldAddr rfl rfl fd_24_0 sz_3 rfl) (by kernel_rfl) rfl rfl ?_
      refine d_q 1 [] rfl (q_load rfl rfl sz_3 aPk rfl) (by kernel_rfl) (by kernel_rfl) (by kernel_rfl) rfl ?_
      refine d_p 2 rfl (p_pure rfl) (by kernel_rfl) rfl rfl ?_
      refine d_p 3 rfl (p_build (cs := [_, _]) rfl rfl pl_24 zr_24 rfl) (by kernel_rfl) rfl rfl ?_
      refine d_p 4 rfl (p_pure rfl) (by kernel_rfl) rfl rfl ?_
      refine d_p 5 rfl (p_pure rfl) (by kernel_rfl) rfl rfl ?_
      refine d_p 6 rfl (p_indexAddr rfl rfl rfl sl_22 ((byK l (encD d))) (by omega) (by omega) hsm) (by kernel_rfl) rfl rfl ?_
      refine d_p 7 rfl (p_fieldAddr rfl rfl fd_50_0 sz_3 rfl) (by kernel_rfl) rfl rfl ?_
      refine d_q 8 [] rfl (q_load_at rfl rfl sz_3 (fun w h => (h.rw_own sv2 aPk rfl).rdj 0 hk rfl)) (by kernel_rfl) (by kernel_rfl) (by kernel_rfl) rfl ?_
      refine d_h0 9 rfl (h_store rfl rfl rfl sz_24 rfl aPt (by simp only [setMany_length, List.length_set, List.length_cons, List.length_nil, List.length_map]; omega) rfl) (by kernel_rfl) (fun w h => h.ent aEt) (fun _ _ => ?_)
      refine d_p 10 rfl (p_pure rfl) (by kernel_rfl) rfl rfl ?_
      refine d_p 11 rfl (p_pure rfl) (by kernel_rfl) rfl rfl ?_
      refine d_nil (by kernel_rfl) (fun w h => by first | exact h | exact h.ent aEt) ?_
      exact s_retv (rs := [.cell 4 24, .tmp 5, .tmp 6]) rfl (.cell rfl sz_24 aPk rfl (.tmp rfl (.tmp rfl (.nil)))) (fun w' h' => ⟨b5, by rw [hT]; rfl, trivial, by rw [hT]; exact h'.ent aEt⟩)
    · try simp only [decide_eq_true_eq, decide_eq_false_iff_not, Bool.not_eq_true', Bool.not_eq_false', Bool.and_eq_true, Bool.or_eq_true, Bool.and_eq_false_iff, Bool.or_eq_false_iff, Bool.not_true, Bool.not_false] at h6
      have hk : ¬ (byK l (encD d)) < l.length := by have hq := h6; unfold ixI at hq; rw [byB_len] at hq; split at hq; (exfalso; omega); assumption
      refine s_skip ?_
      refine s_seq ?_
      refine s_region ?_
      refine o_p (p_pure rfl) rfl ?_
      refine o_p (p_fieldAddr rfl rfl fd_24_0 sz_3 rfl) rfl ?_
      refine o_q (q_load rfl rfl sz_3 aPk rfl) rfl ?_
      refine o_p (p_pure rfl) rfl ?_
      refine o_p (p_build (cs := [_, _]) rfl rfl pl_50 zr_50 rfl) rfl ?_
      refine o_h (h_buildSlice (cs := [_, _]) rfl rfl sl_22 zr_50 rfl rfl rfl) rfl (fun b7 _ => ?_)
      refine o_h (h_appendS _ rfl rfl rfl sl_22 Tryz.underlying22 zr_50 rfl aPk (src_blk aPk) rfl (by intro u hu; simp only [List.mem_cons, List.mem_nil_iff, or_false] at hu; rcases hu with rfl | rfl <;> rfl) (by omega) (by simp only [maxLen]; omega)) rfl (fun b8 _ => ?_)
      refine o_slot (show _ = Value.slice b8.1 (l ++ [SItm.mk nx (encD d)]).length b8.2 from by rw [List.length_append]; rfl) ?_
      refine o_class (C' := HS w [] [.own (.slice b8.1 (l ++ [SItm.mk nx (encD d)]).length b8.2) 50 2 (l ++ [SItm.mk nx (encD d)]).length ((l ++ [SItm.mk nx (encD d)]).flatMap SItm.vals), .blk b1 24 2 [.int .i64 nx, .slice a l.length cap], .blk b3 24 2 [.int .i64 0, .slice none 0 0]]) (fun w h => by rw [flat_append, List.length_append]; exact h.ent aEt) ?_
      refine o_p (p_pure rfl) rfl ?_
      refine o_nil ?_
      refine s_seq ?_
      refine s_seq ?_
      refine s_weaken (L' := [(2, _), (4, _), (5, _), (6, _), (9, _)]) aSx (fun _ h => h) ?_
      refine s_region ?_
      refine o_p (p_pure rfl) rfl ?_
      refine o_h (h_call rfl fn_45 rfl (fun w1 h1 => c45 w1 b8.1 b8.2 (l ++ [SItm.mk nx (encD d)]) (h1.rw_own sv2 aPk rfl) (by rw [List.length_append]; simp only [List.length_cons, List.length_nil]; omega) (by intro x hx; rcases List.mem_append.1 hx with hx | hx; exact hb x hx; rw [List.mem_singleton.1 hx]; show (encD d).length ≤ _; omega))) rfl (fun gp _ => ?_)
      refine o_p (p_pure rfl) rfl ?_
      refine o_p (p_pure rfl) rfl ?_
      refine o_p (p_pure rfl) rfl ?_
      refine o_p (p_pure rfl) rfl ?_
      refine o_p (p_pure rfl) rfl ?_
      refine o_nil ?_
      refine s_seq ?_
      refine s_region ?_
      refine o_p (p_pure rfl) rfl ?_
      refine o_p (p_len_slice rfl rfl Tryz.underlying22) rfl ?_
      refine o_p (p_pure rfl) rfl ?_
      refine o_p (p_pure rfl) rfl ?_
      refine o_or 3 55 58 _ _ rfl
        (by
          intro hg9
          have hs10 := hg9; try simp only [decide_eq_true_eq, decide_eq_false_iff_not, Bool.not_eq_true', Bool.not_eq_false', Bool.and_eq_true, Bool.or_eq_true, Bool.and_eq_false_iff, Bool.or_eq_false_iff, Bool.not_true, Bool.not_false] at hs10
          refine o_on 55 _ rfl rfl hg9 ?_
          refine o_p (p_pure rfl) rfl ?_
          refine o_on 55 _ rfl rfl hg9 ?_
          refine o_p (p_pure rfl) rfl ?_
          refine o_p (p_pickf rfl rfl hg9 rfl) rfl ?_
          refine o_nil ?_
          exact s_joinN 3 58 _ rfl rfl rfl (fun w h => by first | exact h | exact h.ent aEt))
        (by
          intro hg11
          have hs12 := hg11; try simp only [decide_eq_true_eq, decide_eq_false_iff_not, Bool.not_eq_true', Bool.not_eq_false', Bool.and_eq_true, Bool.or_eq_true, Bool.and_eq_false_iff, Bool.or_eq_false_iff, Bool.not_true, Bool.not_false] at hs12
          refine o_off 55 _ rfl rfl hg11 rfl ?_
          refine o_off 55 _ rfl rfl hg11 rfl ?_
          refine o_p (p_pickt rfl rfl hg11 rfl) rfl ?_
          refine o_nil ?_
          exact s_joinN 3 58 _ rfl rfl rfl (fun w h => by first | exact h | exact h.ent aEt)) ?_
      refine o_p (p_pure rfl) rfl ?_
      refine o_or 4 59 63 _ _ rfl
        (by
          intro hg13
          have hs14 := hg13; try simp only [decide_eq_true_eq, decide_eq_false_iff_not, Bool.not_eq_true', Bool.not_eq_false', Bool.and_eq_true, Bool.or_eq_true, Bool.and_eq_false_iff, Bool.or_eq_false_iff, Bool.not_true, Bool.not_false] at hs14
          refine o_on 59 _ rfl rfl hg13 ?_
          refine o_p (p_fieldAddr rfl rfl fd_24_0 sz_3 rfl) rfl ?_
          refine o_on 59 _ rfl rfl hg13 ?_
          refine o_q (q_load rfl rfl sz_3 aPk rfl) rfl ?_
          refine o_on 59 _ rfl rfl hg13 ?_
          refine o_p (p_pure rfl) rfl ?_
          refine o_p (p_pickf rfl rfl hg13 rfl) rfl ?_
          refine o_nil ?_
          exact s_joinN 4 63 _ rfl rfl rfl (fun w h => by first | exact h | exact h.ent aEt))
        (by
          intro hg15
          have hs16 := hg15; try simp only [decide_eq_true_eq, decide_eq_false_iff_not, Bool.not_eq_true', Bool.not_eq_false', Bool.and_eq_true, Bool.or_eq_true, Bool.and_eq_false_iff, Bool.or_eq_false_iff, Bool.not_true, Bool.not_false] at hs16
          refine o_off 59 _ rfl rfl hg15 rfl ?_
          refine o_off 59 _ rfl rfl hg15 rfl ?_
          refine o_off 59 _ rfl rfl hg15 rfl ?_
          refine o_p (p_pickt rfl rfl hg15 rfl) rfl ?_
          refine o_nil ?_
          exact s_joinN 4 63 _ rfl rfl rfl (fun w h => by first | exact h | exact h.ent aEt)) ?_
      refine o_nil ?_
      refine s_cond rfl (fun h17 => ?_) (fun h17 => ?_)
      · try simp only [decide_eq_true_eq, decide_eq_false_iff_not, Bool.not_eq_true', Bool.not_eq_false', Bool.and_eq_true, Bool.or_eq_true, Bool.and_eq_false_iff, Bool.or_eq_false_iff, Bool.not_true, Bool.not_false] at h17
        have hfl : (l ++ [SItm.mk nx (encD d)]).length > 60 ∨ (plsI (l ++ [SItm.mk nx (encD d)])).2 > 8192 ∨ nx = 2147483647 := by have hq := h17; rw [List.length_append] at hq ⊢; simp only [List.length_cons, List.length_nil] at hq ⊢; omega
        have hT : addT nx l d = ⟨0, [], 0, 16⟩ := by unfold addT addR; rw [if_pos h0, if_neg hk, if_pos hfl]
        refine s_seq ?_
        refine s_region ?_
        refine o_p (p_build (cs := [_, _]) rfl rfl pl_24 zr_24 rfl) rfl ?_
        refine o_h0 (h_store rfl rfl rfl sz_24 rfl aPt (by simp only [setMany_length, List.length_set, List.length_cons, List.length_nil, List.length_map]; omega) rfl) (fun _ _ => ?_)
        refine o_p (p_pure rfl) rfl ?_
        refine o_p (p_pure rfl) rfl ?_
        refine o_nil ?_
        exact s_retv (rs := [.cell 4 24, .tmp 5, .tmp 6]) rfl (.cell rfl sz_24 aPk rfl (.tmp rfl (.tmp rfl (.nil)))) (fun w' h' => ⟨(none, 0), by rw [hT]; rfl, trivial, by rw [hT]; exact (h'.own_nil 50 2).ent aEt⟩)
      · try simp only [decide_eq_true_eq, decide_eq_false_iff_not, Bool.not_eq_true', Bool.not_eq_false', Bool.and_eq_true, Bool.or_eq_true, Bool.and_eq_false_iff, Bool.or_eq_false_iff, Bool.not_true, Bool.not_false] at h17
        have hfl : ¬ ((l ++ [SItm.mk nx (encD d)]).length > 60 ∨ (plsI (l ++ [SItm.mk nx (encD d)])).2 > 8192 ∨ nx = 2147483647) := by have hq := h17; rw [List.length_append] at hq ⊢; simp only [List.length_cons, List.length_nil] at hq ⊢; omega
        have hT : addT nx l d = ⟨nx + 1, (l ++ [SItm.mk nx (encD d)]), nx, 0⟩ := by unfold addT addR; rw [if_pos h0, if_neg hk, if_neg hfl]
        refine s_skip ?_
        refine s_seq ?_
        refine s_drawB [.blk b1 24 2 [.int .i64 nx, .slice a l.length cap]] [] mixed ?_
        refine d_p 0 rfl (p_fieldAddr rfl rfl fd_24_0 sz_3 rfl) (by kernel_rfl) rfl rfl ?_
        refine d_q 1 [] rfl (q_load rfl rfl sz_3 aPk rfl) (by kernel_rfl) (by kernel_rfl) (by kernel_rfl) rfl ?_
        refine d_p 2 rfl (p_pure rfl) (by kernel_rfl) rfl rfl ?_
        try (refine d_slot (i64w (by omega) (by omega)) ?_)
        refine d_p 3 rfl (p_pure rfl) (by kernel_rfl) rfl rfl ?_
        refine d_p 4 rfl (p_build (cs := [_, _]) rfl rfl pl_24 zr_24 rfl) (by kernel_rfl) rfl rfl ?_
        refine d_p 5 rfl (p_fieldAddr rfl rfl fd_24_0 sz_3 rfl) (by kernel_rfl) rfl rfl ?_
        refine d_q 6 [] rfl (q_load rfl rfl sz_3 aPk rfl) (by kernel_rfl) (by kernel_rfl) (by kernel_rfl) rfl ?_
        refine d_h0 7 rfl (h_store rfl rfl rfl sz_24 rfl aPt (by simp only [setMany_length, List.length_set, List.length_cons, List.length_nil, List.length_map]; omega) rfl) (by kernel_rfl) (fun w h => h.ent aEt) (fun _ _ => ?_)
        refine d_p 8 rfl (p_pure rfl) (by kernel_rfl) rfl rfl ?_
        refine d_p 9 rfl (p_pure rfl) (by kernel_rfl) rfl rfl ?_
        refine d_nil (by kernel_rfl) (fun w h => by first | exact h | exact h.ent aEt) ?_
        exact s_retv (rs := [.cell 4 24, .tmp 5, .tmp 6]) rfl (.cell rfl sz_24 aPk rfl (.tmp rfl (.tmp rfl (.nil)))) (fun w' h' => ⟨b8, by rw [hT]; rfl, trivial, by rw [hT]; exact h'.ent aEt⟩)

end Go.Proofs

namespace Go.Proofs
open Go Go.RowKit Gx
set_option linter.unusedVariables false
set_option linter.unusedSimpArgs false
attribute [local irreducible] Go.Calls Gx.S Gx.O Gx.D Gx.OpP Gx.OpQ Gx.OpH

theorem fn_74 : isFn Tryz.prog 74 = true := by kernel_rfl
theorem ki_104 : tki Tryz.prog 104 = some .u64 := by kernel_rfl
theorem fn_73 : isFn Tryz.prog 73 = true := by kernel_rfl


set_option maxRecDepth 20000 in
theorem c73 (w : World) (a : Option Addr) (cap : Nat) (l : List SItm) (q : Nat) (cv : Array Value) (cs : List Int) (n : Int) (hs : Rw SItm.vals 2 w [] a l) (hm : l.length ≤ 1000000) (hq : isFn Tryz.prog q = true) (hb : cs.length = l.length) (hc : ∀ k w1, k < l.length → HS w [] [] w1 → Calls Tryz.prog q (#[] ++ [.agg (SItm.vals (nth l k)).toArray, .int .i64 n].toArray ++ cv) w1 fun en w2 => en = .returned (.int .i64 (cs.getD k 0)) ∧ Below w1.heap.size w1 w2) : Calls Tryz.prog 73 #[.slice a l.length cap, .int .i64 n, .func (.func q) #[] cv] w fun en w' => en = .returned (.tuple #[.int .i64 (bsL cs : Int), .bool (bsF' cs)]) ∧ Below w.heap.size w w' := by
  refine enter (args := [_, _, _]) Tryz.func73 Tryz.ntmps73 rfl rfl (HS.refl w []) ?_
  refine s_seq ?_
  refine s_region ?_
  refine o_p (p_pure rfl) rfl ?_
  refine o_p (p_pure rfl) rfl ?_
  refine o_nil ?_
  refine s_seq ?_
  refine s_region ?_
  refine o_p (p_pure rfl) rfl ?_
  refine o_p (p_len_slice rfl rfl Tryz.underlying22) rfl ?_
  refine o_p (p_pure rfl) rfl ?_
  refine o_nil ?_
  refine s_seq ?_
  refine s_region ?_
  refine o_p (p_pure rfl) rfl ?_
  refine o_p (p_pure rfl) rfl ?_
  refine o_p (p_pure rfl) rfl ?_
  refine o_nil ?_
  refine s_seq ?_
  refine s_block ?_
  refine s_loopI (α := Nat × Nat × Nat) [9, 10, 11, 15, 16, 17, 18, 19, 20, 21, 22, 23, 24, 25, 26, 27, 28, 29, 30, 31, 32, 33, 34] (fun x => [(9, .int .i64 (x.2.1 : Int)), (10, .int .i64 (x.2.2 : Int))]) (fun _ => _) (fun x => x.2.1 ≤ x.2.2 ∧ x.2.2 ≤ l.length ∧ x.2.2 - x.2.1 ≤ x.1 ∧ bsC cs x.1 x.2.1 x.2.2 = bsL cs) (fun x => x.1) (l.length, 0, l.length) ⟨by simp, by simp, by simp, by rw [← hb]; rfl⟩ aSx (fun w h => h.ent aEt) (fun ⟨m, lo, hi⟩ hx => ?_)
  dsimp only
  obtain ⟨hx1, hx2, hx3, hx4⟩ := hx
  simp only [] at hx1 hx2 hx3 hx4
  refine s_seq ?_
  refine s_seq ?_
  refine s_region ?_
  refine o_p (p_pure rfl) rfl ?_
  refine o_p (p_pure rfl) rfl ?_
  refine o_p (p_pure rfl) rfl ?_
  refine o_nil ?_
  refine s_cond rfl (fun h1 => ?_) (fun h1 => ?_)
  · try simp only [decide_eq_true_eq, decide_eq_false_iff_not, Bool.not_eq_true', Bool.not_eq_false', Bool.and_eq_true, Bool.or_eq_true, Bool.and_eq_false_iff, Bool.or_eq_false_iff, Bool.not_true, Bool.not_false] at h1
    refine s_skip ?_
    refine s_block ?_
    refine s_seq ?_
    refine s_region ?_
    refine o_p (p_pure rfl) rfl ?_
    refine o_p (p_pure rfl) rfl ?_
    refine o_p (p_pure rfl) rfl ?_
    try (refine o_slot (i64w (by omega) (by omega)) ?_)
    refine o_p (p_conv_int rfl rfl ki_3 ki_104) rfl ?_
    rw [show IntKind.u64.wrap ((lo : Int) + (hi : Int)) = ((lo + hi : Nat) : Int) from u64w32 _ (by omega)]
    refine o_p (p_shr rfl rfl rfl (by decide) 1 rfl) rfl ?_
    refine o_p (p_conv_int rfl rfl ki_104 ki_3) rfl ?_
    try (refine o_slot (i64w (by omega) (by omega)) ?_)
    refine o_slot (show _ = Value.int .i64 (((lo + hi) / 2 : Nat) : Int) from by congr 1) ?_
    obtain ⟨q2, hq1, hq2⟩ := bsC_step (cs := cs) (show lo < hi by omega) hx3
    refine o_p (p_pure rfl) rfl ?_
    refine o_nil ?_
    refine s_seq ?_
    refine s_region ?_
    refine o_p (p_pure rfl) rfl ?_
    refine o_p (p_pure rfl) rfl ?_
    refine o_p (p_pure rfl) rfl ?_
    refine o_p (p_indexAddr rfl rfl rfl sl_22 ((lo + hi) / 2) (by omega) (by omega) (Rw.some hs (by omega))) rfl ?_
    refine o_q (q_load_oldn _ rfl rfl sz_50 rfl (Rw.rd hs (i := (lo + hi) / 2) (by omega))) rfl ?_
    refine o_p (p_pure rfl) rfl ?_
    refine o_q (q_callv rfl rfl hq rfl (fun w1 h1 => hc ((lo + hi) / 2) w1 (by omega) (h1.ent aEt))) rfl ?_
    refine o_p (p_pure rfl) rfl ?_
    refine o_nil ?_
    refine s_cond rfl (fun h2 => ?_) (fun h2 => ?_)
    · try simp only [decide_eq_true_eq, decide_eq_false_iff_not, Bool.not_eq_true', Bool.not_eq_false', Bool.and_eq_true, Bool.or_eq_true, Bool.and_eq_false_iff, Bool.or_eq_false_iff, Bool.not_true, Bool.not_false] at h2
      refine s_region ?_
      refine o_p (p_pure rfl) rfl ?_
      refine o_p (p_pure rfl) rfl ?_
      try (refine o_slot (i64w (by omega) (by omega)) ?_)
      refine o_p (p_pure rfl) rfl ?_
      refine o_nil ?_
      refine s_blk ?_
      exact s_backI (q2, (lo + hi) / 2 + 1, hi) (by (try simp only []); omega) ⟨by (try simp only []); omega, hx2, by (try simp only []); omega, by simp only []; rw [← hx4, hq2, if_pos h2]⟩ (by refine sl_c (congrArg (fun e => some (Value.int .i64 e)) (show (((lo + hi) / 2 : Nat) : Int) + 1 = (((lo + hi) / 2 + 1 : Nat) : Int) by omega)) ?_; repeat (first | exact sl_n | refine sl_c rfl ?_)) (fun w h => h.ent aEt)
    · try simp only [decide_eq_true_eq, decide_eq_false_iff_not, Bool.not_eq_true', Bool.not_eq_false', Bool.and_eq_true, Bool.or_eq_true, Bool.and_eq_false_iff, Bool.or_eq_false_iff, Bool.not_true, Bool.not_false] at h2
      refine s_region ?_
      refine o_p (p_pure rfl) rfl ?_
      refine o_p (p_pure rfl) rfl ?_
      refine o_nil ?_
      refine s_blk ?_
      exact s_backI (q2, lo, (lo + hi) / 2) (by (try simp only []); omega) ⟨by (try simp only []); omega, by (try simp only []); omega, by (try simp only []); omega, by simp only []; rw [← hx4, hq2, if_neg h2]⟩ aSx (fun w h => h.ent aEt)
  · try simp only [decide_eq_true_eq, decide_eq_false_iff_not, Bool.not_eq_true', Bool.not_eq_false', Bool.and_eq_true, Bool.or_eq_true, Bool.and_eq_false_iff, Bool.or_eq_false_iff, Bool.not_true, Bool.not_false] at h1
    refine s_exit_to rfl ?_
    refine s_seq ?_
    refine s_region ?_
    refine o_p (p_pure rfl) rfl ?_
    have hlo : bsL cs = lo := by rw [← hx4, bsC_end _ _ _ _ (by omega)]
    refine o_p (p_pure rfl) rfl ?_
    refine o_p (p_pure rfl) rfl ?_
    refine o_p (p_pure rfl) rfl ?_
    refine o_p (p_pure rfl) rfl ?_
    refine o_and 9 39 48 _ _ rfl
      (by
        intro hg3
        have hs4 := hg3; try simp only [decide_eq_true_eq, decide_eq_false_iff_not, Bool.not_eq_true', Bool.not_eq_false', Bool.and_eq_true, Bool.or_eq_true, Bool.and_eq_false_iff, Bool.or_eq_false_iff, Bool.not_true, Bool.not_false] at hs4
        refine o_on 39 _ rfl rfl hg3 ?_
        refine o_p (p_pure rfl) rfl ?_
        refine o_on 39 _ rfl rfl hg3 ?_
        refine o_p (p_pure rfl) rfl ?_
        refine o_on 39 _ rfl rfl hg3 ?_
        refine o_p (p_pure rfl) rfl ?_
        refine o_on 39 _ rfl rfl hg3 ?_
        refine o_p (p_indexAddr rfl rfl rfl sl_22 (lo) (by omega) (by omega) (Rw.some hs (by omega))) rfl ?_
        refine o_on 39 _ rfl rfl hg3 ?_
        refine o_q (q_load_oldn _ rfl rfl sz_50 rfl (Rw.rd hs (i := lo) (by omega))) rfl ?_
        refine o_on 39 _ rfl rfl hg3 ?_
        refine o_p (p_pure rfl) rfl ?_
        refine o_on 39 _ rfl rfl hg3 ?_
        refine o_q (q_callv rfl rfl hq rfl (fun w1 h1 => hc lo w1 (by omega) (h1.ent aEt))) rfl ?_
        refine o_on 39 _ rfl rfl hg3 ?_
        refine o_p (p_pure rfl) rfl ?_
        refine o_p (p_pickt rfl rfl hg3 rfl) rfl ?_
        refine o_nil ?_
        exact s_joinN 9 48 _ rfl rfl rfl (fun w h => by first | exact h | exact h.ent aEt))
      (by
        intro hg5
        have hs6 := hg5; try simp only [decide_eq_true_eq, decide_eq_false_iff_not, Bool.not_eq_true', Bool.not_eq_false', Bool.and_eq_true, Bool.or_eq_true, Bool.and_eq_false_iff, Bool.or_eq_false_iff, Bool.not_true, Bool.not_false] at hs6
        refine o_off 39 _ rfl rfl hg5 rfl ?_
        refine o_off 39 _ rfl rfl hg5 rfl ?_
        refine o_off 39 _ rfl rfl hg5 rfl ?_
        refine o_off 39 _ rfl rfl hg5 rfl ?_
        refine o_off 39 _ rfl rfl hg5 rfl ?_
        refine o_off 39 _ rfl rfl hg5 rfl ?_
        refine o_off 39 _ rfl rfl hg5 rfl ?_
        refine o_off 39 _ rfl rfl hg5 rfl ?_
        refine o_p (p_pickf rfl rfl hg5 rfl) rfl ?_
        refine o_nil ?_
        exact s_joinN 9 48 _ rfl rfl rfl (fun w h => by first | exact h | exact h.ent aEt)) ?_
    refine o_p (p_pure rfl) rfl ?_
    refine o_p (p_pure rfl) rfl ?_
    refine o_nil ?_
    exact s_retv (rs := [.tmp 6, .tmp 7]) rfl (.tmp rfl (.tmp rfl (.nil))) (fun w' h' => ⟨by simp only [retV, bsF', hlo]; first | (rw [hb]; simp; done) | (have : ¬ lo < cs.length := (by omega); simp [this]; done) | (have : lo < cs.length := (by omega); simp [this]; done) | (have : lo < cs.length := (by omega); have hl9 : lo < l.length := (by omega); simp only [this, hl9, decide_true, Bool.true_and, Bool.and_true]; rfl) | (have : lo < cs.length := (by omega); have hl9 : lo < l.length := (by omega); simp [this, hl9]), h'.below⟩)

set_option maxRecDepth 20000 in
theorem c74 (w : World) (x : SItm) (n : Int) (hn : 0 ≤ n ∧ n ≤ 9223372036854775807) (hx : 0 ≤ x.id ∧ x.id ≤ 9223372036854775807) : Calls Tryz.prog 74 #[.agg #[.int .i64 x.id, .string (bs x.by_)], .int .i64 n] w fun en w' => en = .returned (.int .i64 (x.id - n)) ∧ Below w.heap.size w w' := by
  refine enter (args := [_, _]) Tryz.func74 Tryz.ntmps74 rfl rfl (HS.refl w []) ?_
  refine s_seq ?_
  refine s_region ?_
  refine o_h (h_box rfl rfl) rfl (fun b1 _ => ?_)
  refine o_p (p_pure rfl) rfl ?_
  refine o_nil ?_
  refine s_seq ?_
  refine s_region ?_
  refine o_p (p_fieldAddr rfl rfl fd_50_0 sz_3 rfl) rfl ?_
  refine o_q (q_load rfl rfl sz_3 aPk rfl) rfl ?_
  refine o_p (p_pure rfl) rfl ?_
  refine o_p (p_pure rfl) rfl ?_
  try (refine o_slot (i64w (by omega) (by omega)) ?_)
  refine o_p (p_pure rfl) rfl ?_
  refine o_nil ?_
  exact s_retv (rs := [.tmp 4]) rfl (.tmp rfl (.nil)) (fun w' h' => ⟨by rfl, h'.below⟩)

set_option maxRecDepth 20000 in
theorem c48 (w : World) (a : Option Addr) (cap : Nat) (l : List SItm) (n : Int) (hs : Rw SItm.vals 2 w [] a l) (hm : l.length ≤ 1000000) (hn : 0 ≤ n ∧ n ≤ 9223372036854775807) (hx : ∀ k, k < l.length → 0 ≤ (nth l k).id ∧ (nth l k).id ≤ 9223372036854775807) : Calls Tryz.prog 48 #[.slice a l.length cap, .int .i64 n] w fun en w' => en = .returned (.tuple #[.int .i64 (bsL (idC l n) : Int), .bool (bsF' (idC l n))]) ∧ Below w.heap.size w w' := by
  refine enter (args := [_, _]) Tryz.func48 Tryz.ntmps48 rfl rfl (HS.refl w []) ?_
  refine s_seq ?_
  refine s_region ?_
  refine o_p (p_pure rfl) rfl ?_
  refine o_p (p_pure rfl) rfl ?_
  refine o_nil ?_
  refine s_seq ?_
  refine s_region ?_
  refine o_p (p_pure rfl) rfl ?_
  refine o_p (p_pure rfl) rfl ?_
  refine o_q (q_call rfl fn_73 rfl (fun w1 h1 => c73 w1 a cap l 74 #[] (idC l n) n (hs.later h1) hm fn_74 (idC_len l n) (fun k w2 hk h2 => by have h9 := c74 w2 (nth l k) n hn (hx k hk); rw [idC_get hk]; exact h9))) rfl ?_
  refine o_p (p_pure rfl) rfl ?_
  refine o_p (p_pure rfl) rfl ?_
  refine o_p (p_pure rfl) rfl ?_
  refine o_p (p_pure rfl) rfl ?_
  refine o_nil ?_
  exact s_retv (rs := [.tmp 4, .tmp 5]) rfl (.tmp rfl (.tmp rfl (.nil))) (fun w' h' => ⟨by rfl, h'.below⟩)

set_option maxRecDepth 20000 in
theorem c23 (w : World) (nx : Int) (a : Option Addr) (cap : Nat) (l : List SItm) (hs : Rw SItm.vals 2 w [] a l) (hm : l.length ≤ 100000) (hb : ∀ x ∈ l, x.by_.length ≤ 100000) : Calls Tryz.prog 23 #[.agg #[.int .i64 nx, .slice a l.length cap]] w fun en w' => ∃ g : Option Addr × Nat, en = .returned (.tuple #[.slice g.1 (if (stoE nx l).2 = 0 then plsI l else ([], 0)).1.length g.2, .int .i64 (if (stoE nx l).2 = 0 then plsI l else ([], 0)).2, .int .i64 (stoE nx l).2]) ∧ True ∧ HS w [] [.own (.slice g.1 (if (stoE nx l).2 = 0 then plsI l else ([], 0)).1.length g.2) 3 1 (if (stoE nx l).2 = 0 then plsI l else ([], 0)).1.length ((if (stoE nx l).2 = 0 then plsI l else ([], 0)).1.map nv)] w' := by
  refine enter (args := [_]) Tryz.func23 Tryz.ntmps23 rfl rfl (HS.refl w []) ?_
  refine s_seq ?_
  refine s_region ?_
  refine o_h (h_box rfl rfl) rfl (fun b1 _ => ?_)
  refine o_p (p_pure rfl) rfl ?_
  refine o_p (p_pure rfl) rfl ?_
  refine o_p (p_pure rfl) rfl ?_
  refine o_nil ?_
  refine s_seq ?_
  refine s_seq ?_
  refine s_region ?_
  refine o_q (q_loadn rfl rfl sz_24 aPk rfl) rfl ?_
  refine o_q (q_call rfl fn_25 rfl (fun w1 h1 => c25 w1 nx a cap l (hs.later h1) hm hb)) rfl ?_
  refine o_p (p_pure rfl) rfl ?_
  refine o_nil ?_
  refine s_seq ?_
  refine s_region ?_
  refine o_p (p_pure rfl) rfl ?_
  refine o_p (p_pure rfl) rfl ?_
  refine o_nil ?_
  refine s_cond rfl (fun h2 => ?_) (fun h2 => ?_)
  · try simp only [decide_eq_true_eq, decide_eq_false_iff_not, Bool.not_eq_true', Bool.not_eq_false', Bool.and_eq_true, Bool.or_eq_true, Bool.and_eq_false_iff, Bool.or_eq_false_iff, Bool.not_true, Bool.not_false] at h2
    have h0 : ¬ (stoE nx l).2 = 0 := h2
    refine s_seq ?_
    refine s_region ?_
    refine o_p (p_pure rfl) rfl ?_
    refine o_p (p_pure rfl) rfl ?_
    refine o_p (p_pure rfl) rfl ?_
    refine o_p (p_pure rfl) rfl ?_
    refine o_nil ?_
    exact s_retv (rs := [.tmp 2, .tmp 3, .tmp 4]) rfl (.tmp rfl (.tmp rfl (.tmp rfl (.nil)))) (fun w' h' => ⟨(none, 0), by rw [if_neg h0]; rfl, trivial, by rw [if_neg h0]; exact (h'.own_nil 3 1).ent aEt⟩)
  · try simp only [decide_eq_true_eq, decide_eq_false_iff_not, Bool.not_eq_true', Bool.not_eq_false', Bool.and_eq_true, Bool.or_eq_true, Bool.and_eq_false_iff, Bool.or_eq_false_iff, Bool.not_true, Bool.not_false] at h2
    have h0 : (stoE nx l).2 = 0 := h2
    refine s_skip ?_
    refine s_seq ?_
    refine s_region ?_
    refine o_p (p_fieldAddr rfl rfl fd_24_1 sz_22 rfl) rfl ?_
    refine o_q (q_load rfl rfl sz_22 aPk rfl) rfl ?_
    refine o_h (h_call rfl fn_45 rfl (fun w1 h1 => c45 w1 a cap l (hs.later h1) hm hb)) rfl (fun gp _ => ?_)
    refine o_p (p_pure rfl) rfl ?_
    refine o_p (p_pure rfl) rfl ?_
    refine o_p (p_pure rfl) rfl ?_
    refine o_p (p_pure rfl) rfl ?_
    refine o_p (p_pure rfl) rfl ?_
    refine o_nil ?_
    refine s_seq ?_
    refine s_region ?_
    refine o_p (p_pure rfl) rfl ?_
    refine o_p (p_pure rfl) rfl ?_
    refine o_p (p_pure rfl) rfl ?_
    refine o_p (p_pure rfl) rfl ?_
    refine o_p (p_pure rfl) rfl ?_
    refine o_nil ?_
    exact s_retv (rs := [.tmp 2, .tmp 3, .tmp 4]) rfl (.tmp rfl (.tmp rfl (.tmp rfl (.nil)))) (fun w' h' => ⟨gp, by rw [if_pos h0, h0, pls_len']; rfl, trivial, by rw [if_pos h0, pls_len']; exact h'.ent aEt⟩)

set_option maxRecDepth 20000 in
theorem c20 (w : World)  : Calls Tryz.prog 20 #[] w fun en w' => en = .returned (.agg #[.int .i64 256, .slice none 0 0]) ∧ Below w.heap.size w w' := by
  refine enter (args := []) Tryz.func20 Tryz.ntmps20 rfl rfl (HS.refl w []) ?_
  refine s_seq ?_
  refine s_region ?_
  refine o_h (h_alloc rfl zr_24) rfl (fun b1 _ => ?_)
  refine o_nil ?_
  refine s_seq ?_
  refine s_region ?_
  refine o_p (p_build (cs := [_, _]) rfl rfl pl_24 zr_24 rfl) rfl ?_
  refine o_h0 (h_store rfl rfl rfl sz_24 rfl aPt (by simp only [setMany_length, List.length_set, List.length_cons, List.length_nil, List.length_map]; omega) rfl) (fun _ _ => ?_)
  refine o_nil ?_
  exact s_retv (rs := [.cell 0 24]) rfl (.cell rfl sz_24 aPk rfl (.nil)) (fun w' h' => ⟨by rfl, h'.below⟩)

end Go.Proofs

namespace Go.Proofs
open Go Go.RowKit Gx
set_option linter.unusedVariables false
set_option linter.unusedSimpArgs false
attribute [local irreducible] Go.Calls Gx.S Gx.O Gx.D Gx.OpP Gx.OpQ Gx.OpH

theorem fn_47 : isFn Tryz.prog 47 = true := by kernel_rfl
theorem fn_75 : isFn Tryz.prog 75 = true := by kernel_rfl
theorem fn_48 : isFn Tryz.prog 48 = true := by kernel_rfl
theorem sz_31 : tsz Tryz.prog 31 = some (1, false) := by kernel_rfl
theorem fn_46 : isFn Tryz.prog 46 = true := by kernel_rfl
theorem fn_51 : isFn Tryz.prog 51 = true := by kernel_rfl


set_option maxRecDepth 20000 in
theorem c75 (w : World) (ua : Option Addr) (uc : Nat) (u : List Int) (n : Int) (hu : Vl w ua (u.map nv)) (hum : u.length ≤ 100000) : Calls Tryz.prog 75 #[.slice ua u.length uc, .int .i64 n] w fun en w' => en = .returned (.int .i64 (ixI (hasB u n))) ∧ Below w.heap.size w w' := by
  refine enter (args := [_, _]) Tryz.func75 Tryz.ntmps75 rfl rfl (HS.refl w []) ?_
  refine s_seq ?_
  refine s_region ?_
  refine o_p (p_pure rfl) rfl ?_
  refine o_nil ?_
  refine s_seq ?_
  refine s_seq ?_
  refine s_region ?_
  refine o_p (p_pure rfl) rfl ?_
  refine o_p (p_len_slice rfl rfl Tryz.underlying31) rfl ?_
  refine o_p (p_pure rfl) rfl ?_
  refine o_nil ?_
  refine s_block ?_
  refine s_loopI (α := Nat) [4, 5, 8, 9, 10, 11, 12, 13, 14, 15, 16, 17, 18] (fun k => [(8, .int .i64 (k : Int))]) (fun _ => _) (fun k => k ≤ u.length ∧ ∀ i, i < k → (hasB u n).getD i false = false) (fun k => u.length - k) 0 ⟨Nat.zero_le _, fun i h => absurd h (Nat.not_lt_zero i)⟩ aSx (fun w h => h) (fun k hkk => ?_)
  obtain ⟨hk1, hk2⟩ := hkk
  refine s_seq ?_
  refine s_region ?_
  refine o_p (p_pure rfl) rfl ?_
  refine o_nil ?_
  refine s_seq ?_
  refine s_cond rfl (fun h1 => ?_) (fun h1 => ?_)
  · try simp only [decide_eq_true_eq, decide_eq_false_iff_not, Bool.not_eq_true', Bool.not_eq_false', Bool.and_eq_true, Bool.or_eq_true, Bool.and_eq_false_iff, Bool.or_eq_false_iff, Bool.not_true, Bool.not_false] at h1
    have hk : k < u.length := by omega
    refine s_skip ?_
    refine s_seq ?_
    refine s_block ?_
    refine s_seq ?_
    refine s_region ?_
    refine o_p (p_pure rfl) rfl ?_
    refine o_p (p_pure rfl) rfl ?_
    refine o_nil ?_
    refine s_seq ?_
    refine s_region ?_
    refine o_p (p_pure rfl) rfl ?_
    refine o_p (p_pure rfl) rfl ?_
    refine o_p (p_pure rfl) rfl ?_
    refine o_p (p_indexAddr rfl rfl rfl sl_31 (k) (by omega) (by omega) (hu.some (by rw [List.length_map]; omega))) rfl ?_
    refine o_q (q_load_old rfl rfl sz_3 ((hu.rd (nv_get hk)))) rfl ?_
    refine o_p (p_pure rfl) rfl ?_
    refine o_nil ?_
    refine s_cond rfl (fun h2 => ?_) (fun h2 => ?_)
    · try simp only [decide_eq_true_eq, decide_eq_false_iff_not, Bool.not_eq_true', Bool.not_eq_false', Bool.and_eq_true, Bool.or_eq_true, Bool.and_eq_false_iff, Bool.or_eq_false_iff, Bool.not_true, Bool.not_false] at h2
      have hq9 : n = u.getD k 0 := h2
      have e := ixB_eq (l := hasB u n) (k := k) (by rw [hasB_len]; omega) hk2 (fun _ => by rw [hasB_get hk]; exact decide_eq_true hq9)
      refine s_seq ?_
      refine s_region ?_
      refine o_p (p_pure rfl) rfl ?_
      refine o_p (p_pure rfl) rfl ?_
      refine o_nil ?_
      exact s_retv (rs := [.tmp 4]) rfl (.tmp rfl (.nil)) (fun w' h' => ⟨by simp only [retV, ixI, e, hasB_len]; rw [if_pos hk], h'.below⟩)
    · try simp only [decide_eq_true_eq, decide_eq_false_iff_not, Bool.not_eq_true', Bool.not_eq_false', Bool.and_eq_true, Bool.or_eq_true, Bool.and_eq_false_iff, Bool.or_eq_false_iff, Bool.not_true, Bool.not_false] at h2
      have hq9 : ¬ n = u.getD k 0 := h2
      refine s_skip ?_
      refine s_blk ?_
      refine s_region ?_
      refine o_p (p_pure rfl) rfl ?_
      try (refine o_slot (i64w (by omega) (by omega)) ?_)
      refine o_p (p_pure rfl) rfl ?_
      refine o_nil ?_
      exact s_backI (k + 1) (by omega) ⟨by omega, fun i hi => (Nat.lt_or_ge i k).elim (hk2 i) (fun h => by obtain rfl : i = k := (by omega); rw [hasB_get hk]; exact decide_eq_false hq9)⟩ aSx (fun w h => h)
  · try simp only [decide_eq_true_eq, decide_eq_false_iff_not, Bool.not_eq_true', Bool.not_eq_false', Bool.and_eq_true, Bool.or_eq_true, Bool.and_eq_false_iff, Bool.or_eq_false_iff, Bool.not_true, Bool.not_false] at h1
    obtain rfl : k = u.length := by omega
    refine s_exit_to rfl ?_
    refine s_seq ?_
    refine s_region ?_
    refine o_p (p_pure rfl) rfl ?_
    refine o_nil ?_
    exact s_retv (rs := [.tmp 4]) rfl (.tmp rfl (.nil)) (fun w' h' => ⟨by have e := ixB_eq (l := hasB u n) (k := u.length) (by rw [hasB_len]; omega) hk2 (fun h => by rw [hasB_len] at h; omega); simp only [retV, ixI, e, hasB_len]; rw [if_neg (by omega)], h'.below⟩)

set_option maxRecDepth 20000 in
theorem c51 (w : World) (ua : Option Addr) (uc : Nat) (u : List Int) (n : Int) (hu : Vl w ua (u.map nv)) (hum : u.length ≤ 100000) : Calls Tryz.prog 51 #[.slice ua u.length uc, .int .i64 n] w fun en w' => en = .returned (.bool (decide (n ∈ u))) ∧ Below w.heap.size w w' := by
  refine enter (args := [_, _]) Tryz.func51 Tryz.ntmps51 rfl rfl (HS.refl w []) ?_
  refine s_seq ?_
  refine s_region ?_
  refine o_p (p_pure rfl) rfl ?_
  refine o_nil ?_
  refine s_seq ?_
  refine s_region ?_
  refine o_p (p_pure rfl) rfl ?_
  refine o_p (p_pure rfl) rfl ?_
  refine o_q (q_call rfl fn_75 rfl (fun w1 h1 => c75 w1 ua uc u _ (hu.later h1) hum)) rfl ?_
  refine o_p (p_pure rfl) rfl ?_
  refine o_p (p_pure rfl) rfl ?_
  refine o_nil ?_
  exact s_retv (rs := [.tmp 4]) rfl (.tmp rfl (.nil)) (fun w' h' => ⟨by rw [← hasB_any, ← ixI_any]; rfl, h'.below⟩)

set_option maxRecDepth 20000 in
theorem c46 (w : World) (ua : Option Addr) (uc : Nat) (u : List Int) (q : Nat) (cv : Array Value) (es : List Int) (hu : Vl w ua (u.map nv)) (hum : u.length ≤ 100000) (hq : isFn Tryz.prog q = true) (he : es.length = u.length) (hc : ∀ k w1, k < u.length → HS w [] [] w1 → Calls Tryz.prog q (#[] ++ [.int .i64 (k : Int), .int .i64 (u.getD k 0)].toArray ++ cv) w1 fun en w2 => en = .returned (.int .i64 (es.getD k 0)) ∧ Below w1.heap.size w1 w2) : Calls Tryz.prog 46 #[.slice ua u.length uc, .func (.func q) #[] cv] w fun en w' => en = .returned (.tuple #[.int .i64 (eachF es 0).1, .int .i64 (eachF es 0).2]) ∧ Below w.heap.size w w' := by
  refine enter (args := [_, _]) Tryz.func46 Tryz.ntmps46 rfl rfl (HS.refl w []) ?_
  refine s_seq ?_
  refine s_region ?_
  refine o_p (p_pure rfl) rfl ?_
  refine o_p (p_pure rfl) rfl ?_
  refine o_nil ?_
  refine s_seq ?_
  refine s_seq ?_
  refine s_region ?_
  refine o_p (p_pure rfl) rfl ?_
  refine o_p (p_len_slice rfl rfl Tryz.underlying31) rfl ?_
  refine o_p (p_pure rfl) rfl ?_
  refine o_nil ?_
  refine s_block ?_
  refine s_loopI (α := Nat) [4, 5, 6, 7, 8, 11, 12, 13, 14, 15, 16, 17, 18, 19, 20, 21, 22, 23, 24] (fun k => [(11, .int .i64 (k : Int))]) (fun _ => HS w [] []) (fun k => k ≤ u.length ∧ eachF es 0 = eachF (es.drop k) k) (fun k => u.length - k) 0 ⟨by omega, rfl⟩ aSx (fun w h => h.ent aEt) (fun k hkk => ?_)
  obtain ⟨hk1, hk2⟩ := hkk
  refine s_seq ?_
  refine s_region ?_
  refine o_p (p_pure rfl) rfl ?_
  refine o_nil ?_
  refine s_seq ?_
  refine s_cond rfl (fun h1 => ?_) (fun h1 => ?_)
  · try simp only [decide_eq_true_eq, decide_eq_false_iff_not, Bool.not_eq_true', Bool.not_eq_false', Bool.and_eq_true, Bool.or_eq_true, Bool.and_eq_false_iff, Bool.or_eq_false_iff, Bool.not_true, Bool.not_false] at h1
    have hk : k < u.length := by omega
    refine s_skip ?_
    refine s_seq ?_
    refine s_block ?_
    refine s_seq ?_
    refine s_region ?_
    refine o_p (p_pure rfl) rfl ?_
    refine o_p (p_indexAddr rfl rfl rfl sl_31 (k) (by omega) (by omega) (hu.some (by rw [List.length_map]; omega))) rfl ?_
    refine o_q (q_load_old rfl rfl sz_3 ((hu.rd (nv_get hk)))) rfl ?_
    refine o_p (p_pure rfl) rfl ?_
    refine o_p (p_pure rfl) rfl ?_
    refine o_nil ?_
    refine s_seq ?_
    refine s_region ?_
    refine o_p (p_pure rfl) rfl ?_
    refine o_p (p_pure rfl) rfl ?_
    refine o_p (p_pure rfl) rfl ?_
    refine o_q (q_callv rfl rfl hq rfl (fun w1 h1 => hc k w1 (by omega) (h1.ent aEt))) rfl ?_
    refine o_p (p_pure rfl) rfl ?_
    refine o_nil ?_
    refine s_seq ?_
    refine s_region ?_
    refine o_p (p_pure rfl) rfl ?_
    refine o_p (p_pure rfl) rfl ?_
    refine o_nil ?_
    refine s_cond rfl (fun h2 => ?_) (fun h2 => ?_)
    · try simp only [decide_eq_true_eq, decide_eq_false_iff_not, Bool.not_eq_true', Bool.not_eq_false', Bool.and_eq_true, Bool.or_eq_true, Bool.and_eq_false_iff, Bool.or_eq_false_iff, Bool.not_true, Bool.not_false] at h2
      refine s_seq ?_
      refine s_region ?_
      refine o_p (p_pure rfl) rfl ?_
      refine o_p (p_pure rfl) rfl ?_
      refine o_p (p_pure rfl) rfl ?_
      refine o_p (p_pure rfl) rfl ?_
      refine o_nil ?_
      exact s_retv (rs := [.tmp 4, .tmp 5]) rfl (.tmp rfl (.tmp rfl (.nil))) (fun w' h' => ⟨by simp only [retV]; rw [hk2, eachF_drop (by omega), if_neg (by assumption)], h'.below⟩)
    · try simp only [decide_eq_true_eq, decide_eq_false_iff_not, Bool.not_eq_true', Bool.not_eq_false', Bool.and_eq_true, Bool.or_eq_true, Bool.and_eq_false_iff, Bool.or_eq_false_iff, Bool.not_true, Bool.not_false] at h2
      refine s_skip ?_
      refine s_blk ?_
      refine s_region ?_
      refine o_p (p_pure rfl) rfl ?_
      try (refine o_slot (i64w (by omega) (by omega)) ?_)
      refine o_p (p_pure rfl) rfl ?_
      refine o_nil ?_
      exact s_backI (k+1) (by omega) ⟨by omega, by rw [hk2, eachF_drop (by omega), if_pos (by assumption)]⟩ aSx (fun w h => h.ent aEt)
  · try simp only [decide_eq_true_eq, decide_eq_false_iff_not, Bool.not_eq_true', Bool.not_eq_false', Bool.and_eq_true, Bool.or_eq_true, Bool.and_eq_false_iff, Bool.or_eq_false_iff, Bool.not_true, Bool.not_false] at h1
    refine s_exit_to rfl ?_
    refine s_seq ?_
    refine s_region ?_
    refine o_p (p_pure rfl) rfl ?_
    refine o_p (p_pure rfl) rfl ?_
    refine o_nil ?_
    exact s_retv (rs := [.tmp 4, .tmp 5]) rfl (.tmp rfl (.tmp rfl (.nil))) (fun w' h' => ⟨by simp only [retV]; rw [hk2, eachF_end (by omega)], h'.below⟩)

set_option maxRecDepth 20000 in
theorem c47 (w : World) (bS bU i : Nat) (a : Option Addr) (cap : Nat) (l : List SItm) (ua : Option Addr) (uc : Nat) (u : List Int) (hA1 : Rd w [] bS 1 (.slice a l.length cap)) (hA2 : Rd w [] bU 0 (.slice ua u.length uc)) (hs : Rw SItm.vals 2 w [] a l) (hm : l.length ≤ 100000) (hrg : ∀ k, k < l.length → 256 ≤ (nth l k).id ∧ (nth l k).id ≤ 2147483647) (hasc : ∀ j, j < l.length → ∀ i, i < j → (nth l i).id < (nth l j).id) (hu : Vl w ua (u.map nv)) (hum : u.length ≤ 100000) (hi : i < u.length) (hui : (u.getD i 0) ≤ 9223372036854775807) : Calls Tryz.prog 47 #[.int .i64 (i : Int), .int .i64 (u.getD i 0), .pointer (some ⟨bS, 0, none⟩), .pointer (some ⟨bU, 0, none⟩)] w fun en w' => en = .returned (.int .i64 (usedAt l u i)) ∧ Below w.heap.size w w' := by
  have hmx : 0 ≤ mx0 (u.getD i 0) ∧ mx0 (u.getD i 0) ≤ 9223372036854775807 := by unfold mx0; split <;> omega
  obtain ⟨hbf, hbl⟩ := bs_id (n := mx0 (u.getD i 0)) hasc
  rw [idK_mx (fun k hk => (hrg k hk).1)] at hbf
  refine enter (args := [_, _, _, _]) Tryz.func47 Tryz.ntmps47 rfl rfl (HS.refl w []) ?_
  refine s_seq ?_
  refine s_region ?_
  refine o_p (p_pure rfl) rfl ?_
  refine o_nil ?_
  refine s_seq ?_
  refine s_region ?_
  refine o_p (p_fieldAddr rfl rfl fd_24_1 sz_22 rfl) rfl ?_
  refine o_q (q_load_old rfl rfl sz_22 (hA1)) rfl ?_
  refine o_p (p_pure rfl) rfl ?_
  refine o_p (p_max2 rfl rfl rfl ) rfl ?_
  refine o_slot (show _ = Value.int .i64 (mx0 (u.getD i 0)) from by unfold mx0; first | rfl | (congr 1; split <;> split <;> omega) | congr 1) ?_
  refine o_q (q_call rfl fn_48 rfl (fun w1 h1 => c48 w1 a cap l (mx0 (u.getD i 0)) (hs.later h1) (by omega) (by omega) (fun k hk => by have := hrg k hk; omega))) rfl ?_
  refine o_p (p_pure rfl) rfl ?_
  refine o_p (p_pure rfl) rfl ?_
  rw [hbf]
  refine o_p (p_pure rfl) rfl ?_
  refine o_p (p_pure rfl) rfl ?_
  refine o_p (p_pure rfl) rfl ?_
  refine o_nil ?_
  refine s_seq ?_
  refine s_region ?_
  refine o_p (p_pure rfl) rfl ?_
  refine o_q (q_call rfl fn_50 rfl (fun w1 h1 => c50 w1 _ _)) rfl ?_
  refine o_p (p_pure rfl) rfl ?_
  refine o_p (p_pure rfl) rfl ?_
  refine o_p (p_pure rfl) rfl ?_
  refine o_or 9 21 30 _ _ rfl
    (by
      intro hg1
      have hs2 := hg1; try simp only [decide_eq_true_eq, decide_eq_false_iff_not, Bool.not_eq_true', Bool.not_eq_false', Bool.and_eq_true, Bool.or_eq_true, Bool.and_eq_false_iff, Bool.or_eq_false_iff, Bool.not_true, Bool.not_false] at hs2
      refine o_on 21 _ rfl rfl hg1 ?_
      refine o_q (q_load_old rfl rfl sz_31 (hA2)) rfl ?_
      refine o_on 21 _ rfl rfl hg1 ?_
      refine o_p (p_pure rfl) rfl ?_
      refine o_on 21 _ rfl rfl hg1 ?_
      refine o_p (p_pure rfl) rfl ?_
      try (refine o_slot (i64w (by omega) (by omega)) ?_)
      refine o_on 21 _ rfl rfl hg1 ?_
      refine o_p (p_max2 rfl rfl rfl ) rfl ?_
      refine o_slot (show _ = Value.int .i64 ((i - 1 : Nat) : Int) from by congr 1; split <;> omega) ?_
      refine o_on 21 _ rfl rfl hg1 ?_
      refine o_p (p_indexAddr rfl rfl rfl sl_31 (i - 1) (by omega) (by omega) (hu.some (by rw [List.length_map]; omega))) rfl ?_
      refine o_on 21 _ rfl rfl hg1 ?_
      refine o_q (q_load_old rfl rfl sz_3 ((hu.rd (nv_get (k := i - 1) (by omega))))) rfl ?_
      refine o_on 21 _ rfl rfl hg1 ?_
      refine o_p (p_pure rfl) rfl ?_
      refine o_on 21 _ rfl rfl hg1 ?_
      refine o_p (p_pure rfl) rfl ?_
      refine o_p (p_pickf rfl rfl hg1 rfl) rfl ?_
      refine o_nil ?_
      exact s_joinN 9 30 _ rfl rfl rfl (fun w h => by first | exact h | exact h.ent aEt))
    (by
      intro hg3
      have hs4 := hg3; try simp only [decide_eq_true_eq, decide_eq_false_iff_not, Bool.not_eq_true', Bool.not_eq_false', Bool.and_eq_true, Bool.or_eq_true, Bool.and_eq_false_iff, Bool.or_eq_false_iff, Bool.not_true, Bool.not_false] at hs4
      refine o_off 21 _ rfl rfl hg3 rfl ?_
      refine o_off 21 _ rfl rfl hg3 rfl ?_
      refine o_off 21 _ rfl rfl hg3 rfl ?_
      refine o_off 21 _ rfl rfl hg3 rfl ?_
      refine o_off 21 _ rfl rfl hg3 rfl ?_
      refine o_off 21 _ rfl rfl hg3 rfl ?_
      refine o_off 21 _ rfl rfl hg3 rfl ?_
      refine o_off 21 _ rfl rfl hg3 rfl ?_
      refine o_p (p_pickt rfl rfl hg3 rfl) rfl ?_
      refine o_nil ?_
      exact s_joinN 9 30 _ rfl rfl rfl (fun w h => by first | exact h | exact h.ent aEt)) ?_
  refine o_q (q_call rfl fn_50 rfl (fun w1 h1 => c50 w1 _ _)) rfl ?_
  refine o_h (h_buildSlice (cs := [_, _]) rfl rfl sl_122 zr_27 rfl rfl rfl) rfl (fun b5 _ => ?_)
  refine o_q (q_call rfl fn_49 rfl (fun w1 h1 => f49 h1 aPk (by rfl) (by rfl) (by decide))) rfl ?_
  refine o_p (p_pure rfl) rfl ?_
  refine o_nil ?_
  exact s_retv (rs := [.tmp 6]) rfl (.tmp rfl (.nil)) (fun w' h' => ⟨by unfold usedAt; simp only [retV, firstV, cond_eq_ite]; grind, h'.below⟩)

set_option maxRecDepth 20000 in
set_option maxHeartbeats 1000000 in
theorem c24 (w : World) (nx : Int) (a : Option Addr) (cap : Nat) (l : List SItm) (ua : Option Addr) (uc : Nat) (u : List Int) (hs : Rw SItm.vals 2 w [] a l) (hm : l.length ≤ 100000) (hb : ∀ x ∈ l, x.by_.length ≤ 100000) (hu : Vl w ua (u.map nv)) (hum : u.length ≤ 100000) (hui : ∀ x ∈ u, x ≤ 9223372036854775807) : Calls Tryz.prog 24 #[.agg #[.int .i64 nx, .slice a l.length cap], .slice ua u.length uc] w fun en w' => ∃ g : (Option Addr × Nat) × (Option Addr × Nat), en = .returned (.tuple #[.agg #[.int .i64 (colT nx l u).nx, .slice g.1.1 (colT nx l u).l.length g.1.2], .slice g.2.1 (colT nx l u).g.length g.2.2, .int .i64 (colE nx l u)]) ∧ True ∧ HS w [] [.own (.slice g.1.1 (colT nx l u).l.length g.1.2) 50 2 (colT nx l u).l.length ((colT nx l u).l.flatMap SItm.vals), .own (.slice g.2.1 (colT nx l u).g.length g.2.2) 3 1 (colT nx l u).g.length ((colT nx l u).g.map nv)] w' := by
  refine enter (args := [_, _]) Tryz.func24 Tryz.ntmps24 rfl rfl (HS.refl w []) ?_
  refine s_seq ?_
  refine s_region ?_
  refine o_h (h_box rfl rfl) rfl (fun b1 _ => ?_)
  refine o_h (h_box rfl rfl) rfl (fun b2 _ => ?_)
  refine o_h (h_alloc rfl zr_24) rfl (fun b3 _ => ?_)
  refine o_p (p_pure rfl) rfl ?_
  refine o_p (p_pure rfl) rfl ?_
  refine o_nil ?_
  refine s_seq ?_
  refine s_region ?_
  refine o_q (q_loadn rfl rfl sz_24 aPk rfl) rfl ?_
  refine o_q (q_call rfl fn_25 rfl (fun w1 h1 => c25 w1 nx a cap l (hs.later h1) hm hb)) rfl ?_
  refine o_p (p_pure rfl) rfl ?_
  refine o_nil ?_
  refine s_seq ?_
  refine s_seq ?_
  refine s_region ?_
  refine o_p (p_pure rfl) rfl ?_
  refine o_p (p_pure rfl) rfl ?_
  refine o_nil ?_
  refine s_cutI (α := Unit) [7, 16, 17, 18, 19, 20, 21] (fun _ => [(7, .int .i64 (colE nx l u))]) (fun _ => HS w [] [.blk b1 24 2 [.int .i64 nx, .slice a l.length cap], .blk b2 31 1 [.slice ua u.length uc], .blk b3 24 2 [.int .i64 0, .slice none 0 0]]) (fun _ => True) ?_ ?_
  · skip
    refine s_cond rfl (fun h4 => ?_) (fun h4 => ?_)
    · try simp only [decide_eq_true_eq, decide_eq_false_iff_not, Bool.not_eq_true', Bool.not_eq_false', Bool.and_eq_true, Bool.or_eq_true, Bool.and_eq_false_iff, Bool.or_eq_false_iff, Bool.not_true, Bool.not_false] at h4
      have h0 : (stoE nx l).2 = 0 := h4
      have hce : colE nx l u = usedE l u := by unfold colE; rw [if_pos h0]
      obtain ⟨hnx, hl60, hit9, hpl9⟩ := sto_ok h0
      refine s_region ?_
      refine o_q (q_load rfl rfl sz_31 aPk rfl) rfl ?_
      refine o_p (p_pure rfl) rfl ?_
      refine o_q (q_call rfl fn_46 rfl (fun w1 h1 => c46 w1 ua uc u 47 _ (usedEs l u) (hu.later h1) hum fn_47 (used_len l u) (fun k w2 hk h2 => by have h9 := c47 w2 b1 b2 k a cap l ua uc u ((h1.rd_blk (i := 1) aPk rfl (by simp)).later h2 (by simp)) ((h1.rd_blk (i := 0) aPk rfl (by simp)).later h2 (by simp)) ((hs.later h1).later h2) hm (fun q hq => by have := itm_rng (hit9 q hq); omega) (asc_of hit9) ((hu.later h1).later h2) hum hk (hui _ (getD_mem hk)); rw [used_get hk]; exact h9))) rfl ?_
      refine o_p (p_pure rfl) rfl ?_
      refine o_p (p_pure rfl) rfl ?_
      refine o_p (p_pure rfl) rfl ?_
      refine o_p (p_pure rfl) rfl ?_
      refine o_nil ?_
      exact s_joinI () trivial (by (try dsimp only); rw [hce]; exact aSx) (fun w h => h.ent aEt)
    · try simp only [decide_eq_true_eq, decide_eq_false_iff_not, Bool.not_eq_true', Bool.not_eq_false', Bool.and_eq_true, Bool.or_eq_true, Bool.and_eq_false_iff, Bool.or_eq_false_iff, Bool.not_true, Bool.not_false] at h4
      have h0 : ¬ (stoE nx l).2 = 0 := h4
      have hce : colE nx l u = (stoE nx l).2 := by unfold colE; rw [if_neg h0]
      refine s_skip ?_
      exact s_joinI () trivial (by (try dsimp only); rw [hce]; exact aSx) (fun w h => h.ent aEt)
  · intro _ _
    refine s_seq ?_
    refine s_seq ?_
    refine s_region ?_
    refine o_p (p_pure rfl) rfl ?_
    refine o_p (p_pure rfl) rfl ?_
    refine o_nil ?_
    refine s_cond rfl (fun h5 => ?_) (fun h5 => ?_)
    · try simp only [decide_eq_true_eq, decide_eq_false_iff_not, Bool.not_eq_true', Bool.not_eq_false', Bool.and_eq_true, Bool.or_eq_true, Bool.and_eq_false_iff, Bool.or_eq_false_iff, Bool.not_true, Bool.not_false] at h5
      have h1e : ¬ colE nx l u = 0 := h5
      have hT : colT nx l u = ⟨0, [], []⟩ := by unfold colT; rw [if_neg h1e]
      refine s_seq ?_
      refine s_region ?_
      refine o_p (p_build (cs := [_, _]) rfl rfl pl_24 zr_24 rfl) rfl ?_
      refine o_p (p_pure rfl) rfl ?_
      refine o_h0 (h_store rfl rfl rfl sz_24 rfl aPt (by simp only [setMany_length, List.length_set, List.length_cons, List.length_nil, List.length_map]; omega) rfl) (fun _ _ => ?_)
      refine o_p (p_pure rfl) rfl ?_
      refine o_p (p_pure rfl) rfl ?_
      refine o_nil ?_
      exact s_retv (rs := [.cell 4 24, .tmp 5, .tmp 6]) rfl (.cell rfl sz_24 aPk rfl (.tmp rfl (.tmp rfl (.nil)))) (fun w' h' => ⟨((none, 0), (none, 0)), by rw [hT]; rfl, trivial, by rw [hT]; exact ((h'.own_nil 50 2).own_nil 3 1).ent aEt⟩)
    · try simp only [decide_eq_true_eq, decide_eq_false_iff_not, Bool.not_eq_true', Bool.not_eq_false', Bool.and_eq_true, Bool.or_eq_true, Bool.and_eq_false_iff, Bool.or_eq_false_iff, Bool.not_true, Bool.not_false] at h5
      have h1e : colE nx l u = 0 := h5
      have hT : colT nx l u = ⟨nx, keptL u l, goneL u l⟩ := by unfold colT; rw [if_pos h1e]
      refine s_skip ?_
      refine s_seq ?_
      refine s_region ?_
      refine o_p (p_fieldAddr rfl rfl fd_24_0 sz_3 rfl) rfl ?_
      refine o_q (q_load rfl rfl sz_3 aPk rfl) rfl ?_
      refine o_p (p_build (cs := [_, _]) rfl rfl pl_24 zr_24 rfl) rfl ?_
      refine o_h (h_alloc rfl zr_24) rfl (fun b6 _ => ?_)
      refine o_h0 (h_store rfl rfl rfl sz_24 rfl aPt (by simp only [setMany_length, List.length_set, List.length_cons, List.length_nil, List.length_map]; omega) rfl) (fun _ _ => ?_)
      refine o_nil ?_
      refine s_seq ?_
      refine s_region ?_
      refine o_p (p_pure rfl) rfl ?_
      refine o_nil ?_
      refine s_seq ?_
      refine s_seq ?_
      refine s_region ?_
      refine o_p (p_fieldAddr rfl rfl fd_24_1 sz_22 rfl) rfl ?_
      refine o_q (q_load rfl rfl sz_22 aPk rfl) rfl ?_
      refine o_p (p_len_slice rfl rfl Tryz.underlying22) rfl ?_
      refine o_p (p_pure rfl) rfl ?_
      refine o_nil ?_
      refine s_block ?_
      refine s_weaken (L' := [(3, _), (4, _), (5, _), (6, _), (8, _), (9, _), (30, _), (31, _), (32, _)]) aSx (fun _ h => h) ?_
      refine s_loopI (α := Nat × (Option Addr × Nat) × (Option Addr × Nat)) [9, 11, 32, 33, 34, 35, 36, 37, 38, 39, 40, 41, 42, 43, 44, 45, 46, 47, 48, 49, 50, 51] (fun y => [(32, .int .i64 (y.1 : Int)), (9, .slice y.2.2.1 (goneL u (l.take y.1)).length y.2.2.2)]) (fun y => HS w [] [.blk b6 24 2 [.int .i64 nx, .slice y.2.1.1 (keptL u (l.take y.1)).length y.2.1.2], .own (.slice y.2.1.1 (keptL u (l.take y.1)).length y.2.1.2) 50 2 (keptL u (l.take y.1)).length ((keptL u (l.take y.1)).flatMap SItm.vals), .own (.slice y.2.2.1 (goneL u (l.take y.1)).length y.2.2.2) 3 1 (goneL u (l.take y.1)).length ((goneL u (l.take y.1)).map nv), .blk b1 24 2 [.int .i64 nx, .slice a l.length cap], .blk b2 31 1 [.slice ua u.length uc], .blk b3 24 2 [.int .i64 0, .slice none 0 0]]) (fun y => y.1 ≤ l.length) (fun y => l.length - y.1) (0, (none, 0), (none, 0)) (Nat.zero_le _) aSx (fun w h => ((h.own_nil 50 2).own_nil 3 1).ent aEt) (fun ⟨k, ga, gb9⟩ hk1 => ?_)
      dsimp only
      simp only [] at hk1
      refine s_seq ?_
      refine s_region ?_
      refine o_p (p_pure rfl) rfl ?_
      refine o_nil ?_
      refine s_seq ?_
      refine s_cond rfl (fun h7 => ?_) (fun h7 => ?_)
      · try simp only [decide_eq_true_eq, decide_eq_false_iff_not, Bool.not_eq_true', Bool.not_eq_false', Bool.and_eq_true, Bool.or_eq_true, Bool.and_eq_false_iff, Bool.or_eq_false_iff, Bool.not_true, Bool.not_false] at h7
        have hk : k < l.length := by omega
        have hks := kept_succ (u := u) hk
        have hgs := gone_succ (u := u) hk
        have hkl := kept_le u (l.take k)
        have hgl := gone_le u (l.take k)
        rw [List.length_take] at hkl hgl
        refine s_skip ?_
        refine s_seq ?_
        refine s_block ?_
        refine s_seq ?_
        refine s_region ?_
        refine o_p (p_indexAddr rfl rfl rfl sl_22 (k) (by omega) (by omega) (Rw.some hs (by omega))) rfl ?_
        refine o_q (q_load_oldn _ rfl rfl sz_50 rfl (Rw.rd hs hk)) rfl ?_
        refine o_h (h_alloc rfl zr_50) rfl (fun b8 _ => ?_)
        refine o_h0 (h_store rfl rfl rfl sz_50 rfl aPt (by simp only [setMany_length, List.length_set, List.length_cons, List.length_nil, List.length_map]; omega) rfl) (fun _ _ => ?_)
        refine o_nil ?_
        refine s_seq ?_
        refine s_region ?_
        refine o_q (q_load rfl rfl sz_31 aPk rfl) rfl ?_
        refine o_p (p_fieldAddr rfl rfl fd_50_0 sz_3 rfl) rfl ?_
        refine o_q (q_load rfl rfl sz_3 aPk rfl) rfl ?_
        refine o_q (q_call rfl fn_51 rfl (fun w1 h1 => c51 w1 ua uc u _ (hu.later h1) hum)) rfl ?_
        refine o_nil ?_
        refine s_cond rfl (fun h9 => ?_) (fun h9 => ?_)
        · try simp only [decide_eq_true_eq, decide_eq_false_iff_not, Bool.not_eq_true', Bool.not_eq_false', Bool.and_eq_true, Bool.or_eq_true, Bool.and_eq_false_iff, Bool.or_eq_false_iff, Bool.not_true, Bool.not_false] at h9
          have hmu : (nth l k).id ∈ u := h9
          rw [if_pos hmu] at hks hgs
          refine s_region ?_
          refine o_p (p_fieldAddr rfl rfl fd_24_1 sz_22 rfl) rfl ?_
          refine o_q (q_load rfl rfl sz_22 aPk rfl) rfl ?_
          refine o_q (q_loadn rfl rfl sz_50 aPk rfl) rfl ?_
          refine o_h (h_buildSlice (cs := [_, _]) rfl rfl sl_22 zr_50 rfl rfl rfl) rfl (fun b10 _ => ?_)
          refine o_h (h_appendS [_, _] rfl rfl rfl sl_22 Tryz.underlying22 zr_50 rfl aPk (src_blk aPk) rfl (sv1 (nth l k)) (by omega) (by simp only [maxLen]; omega)) rfl (fun b11 _ => ?_)
          refine o_p (p_fieldAddr rfl rfl fd_24_1 sz_22 rfl) rfl ?_
          refine o_h0 (h_store rfl rfl rfl sz_22 rfl aPt (by simp only [setMany_length, List.length_set, List.length_cons, List.length_nil, List.length_map]; omega) rfl) (fun _ _ => ?_)
          refine o_nil ?_
          refine s_blk ?_
          refine s_region ?_
          refine o_p (p_pure rfl) rfl ?_
          try (refine o_slot (i64w (by omega) (by omega)) ?_)
          refine o_p (p_pure rfl) rfl ?_
          refine o_nil ?_
          exact s_backI (k + 1, b11, gb9) (by (try simp only []); omega) (by (try simp only []); omega) (by dsimp only; rw [hgs]; exact aSx) (fun w h => by dsimp only; rw [hks, hgs, List.length_append, flat_append]; exact h.ent aEt)
        · try simp only [decide_eq_true_eq, decide_eq_false_iff_not, Bool.not_eq_true', Bool.not_eq_false', Bool.and_eq_true, Bool.or_eq_true, Bool.and_eq_false_iff, Bool.or_eq_false_iff, Bool.not_true, Bool.not_false] at h9
          have hmu : ¬ (nth l k).id ∈ u := h9
          rw [if_neg hmu] at hks hgs
          refine s_region ?_
          refine o_p (p_pure rfl) rfl ?_
          refine o_p (p_fieldAddr rfl rfl fd_50_0 sz_3 rfl) rfl ?_
          refine o_q (q_load rfl rfl sz_3 aPk rfl) rfl ?_
          refine o_h (h_buildSlice (cs := [_]) rfl rfl sl_31 zr_3 rfl rfl rfl) rfl (fun b12 _ => ?_)
          refine o_h (h_appendS [_] rfl rfl rfl sl_31 Tryz.underlying31 zr_3 rfl aPk (src_blk aPk) rfl (by intro u hu; simp only [List.mem_cons, List.mem_nil_iff, or_false] at hu; subst hu; rfl) (by omega) (by simp only [maxLen]; omega)) rfl (fun b13 _ => ?_)
          refine o_p (p_pure rfl) rfl ?_
          refine o_nil ?_
          refine s_blk ?_
          refine s_region ?_
          refine o_p (p_pure rfl) rfl ?_
          try (refine o_slot (i64w (by omega) (by omega)) ?_)
          refine o_p (p_pure rfl) rfl ?_
          refine o_nil ?_
          exact s_backI (k + 1, ga, b13) (by (try simp only []); omega) (by (try simp only []); omega) (by dsimp only; rw [hgs, List.length_append]; exact aSx) (fun w h => by dsimp only; rw [hks, hgs, List.length_append, List.map_append]; exact h.ent aEt)
      · try simp only [decide_eq_true_eq, decide_eq_false_iff_not, Bool.not_eq_true', Bool.not_eq_false', Bool.and_eq_true, Bool.or_eq_true, Bool.and_eq_false_iff, Bool.or_eq_false_iff, Bool.not_true, Bool.not_false] at h7
        obtain rfl : k = l.length := by omega
        rw [List.take_length]
        refine s_exit_to rfl ?_
        refine s_seq ?_
        refine s_region ?_
        refine o_q (q_loadn rfl rfl sz_24 aPk rfl) rfl ?_
        refine o_p (p_pure rfl) rfl ?_
        refine o_h0 (h_store rfl rfl rfl sz_24 rfl aPt (by simp only [setMany_length, List.length_set, List.length_cons, List.length_nil, List.length_map]; omega) rfl) (fun _ _ => ?_)
        refine o_p (p_pure rfl) rfl ?_
        refine o_p (p_pure rfl) rfl ?_
        refine o_nil ?_
        exact s_retv (rs := [.cell 4 24, .tmp 5, .tmp 6]) rfl (.cell rfl sz_24 aPk rfl (.tmp rfl (.tmp rfl (.nil)))) (fun w' h' => ⟨(ga, gb9), by rw [hT, h1e]; rfl, trivial, by rw [hT]; exact h'.ent aEt⟩)

end Go.Proofs

namespace Go.Proofs
open Go Go.RowKit Gx
set_option linter.unusedVariables false
set_option linter.unusedSimpArgs false
attribute [local irreducible] Go.Calls Gx.S Gx.O Gx.D Gx.OpP Gx.OpQ Gx.OpH

theorem eqk_50 : teqk Tryz.prog 50 = some [0, 1] := by kernel_rfl


set_option maxRecDepth 20000 in
theorem c8 (w : World) (nx : Int) (a : Option Addr) (cap : Nat) (l : List SItm) (hs : Rw SItm.vals 2 w [] a l) (hm : l.length ≤ 100000) (hb : ∀ x ∈ l, x.by_.length ≤ 100000) : Calls Tryz.prog 8 #[.agg #[.int .i64 nx, .slice a l.length cap]] w fun en w' => ∃ g : Option Addr × Nat, en = .returned (.agg #[.int .i64 nx, .slice g.1 l.length g.2]) ∧ True ∧ HS w [] [.own (.slice g.1 l.length g.2) 50 2 l.length (l.flatMap SItm.vals)] w' := by
  refine enter (args := [_]) Tryz.func8 Tryz.ntmps8 rfl rfl (HS.refl w []) ?_
  refine s_seq ?_
  refine s_region ?_
  refine o_h (h_box rfl rfl) rfl (fun b1 _ => ?_)
  refine o_h (h_alloc rfl zr_24) rfl (fun b2 _ => ?_)
  refine o_nil ?_
  refine s_seq ?_
  refine s_drawB [.blk b1 24 2 [.int .i64 nx, .slice a l.length cap]] [7] mixed ?_
  refine d_p 0 rfl (p_fieldAddr rfl rfl fd_24_0 sz_3 rfl) (by kernel_rfl) rfl rfl ?_
  refine d_q 1 [[]] rfl (q_load rfl rfl sz_3 aPk rfl) (by kernel_rfl) (by kernel_rfl) (by kernel_rfl) rfl ?_
  refine d_p 3 rfl (p_fieldAddr rfl rfl fd_24_1 sz_22 rfl) (by kernel_rfl) rfl rfl ?_
  refine d_q 4 [[]] rfl (q_load rfl rfl sz_22 aPk rfl) (by kernel_rfl) (by kernel_rfl) (by kernel_rfl) rfl ?_
  refine d_h 2 rfl (h_buildSlice0 rfl sl_22) (by kernel_rfl) (fun w h => h.ent aEt) rfl (fun b3 _ => ?_)
  refine d_h 5 rfl (h_appendS (l.flatMap SItm.vals) rfl rfl rfl sl_22 Tryz.underlying22 zr_50 rfl aPk (fun w h => Rw.src sv2 hs h) (flat_length sv2 l) (flat_one sv1 l) (by omega) (by simp only [maxLen]; omega)) (by kernel_rfl) (fun w h => h.ent aEt) rfl (fun b4 _ => ?_)
  refine d_p 6 rfl (p_build (cs := [_, _]) rfl rfl pl_24 zr_24 rfl) (by kernel_rfl) rfl rfl ?_
  refine d_h0 7 rfl (h_store rfl rfl rfl sz_24 rfl aPt (by simp only [setMany_length, List.length_set, List.length_cons, List.length_nil, List.length_map]; omega) rfl) (by kernel_rfl) (fun w h => h.ent aEt) (fun _ _ => ?_)
  refine d_turn [] (by kernel_rfl) ?_
  refine d_nil (by kernel_rfl) (fun w h => by first | exact h | exact h.ent aEt) ?_
  exact s_retv (rs := [.cell 2 24]) rfl (.cell rfl sz_24 aPk rfl (.nil)) (fun w' h' => ⟨b4, by simp only [retV, Nat.zero_add]; rfl, trivial, by have h2 := h'; simp only [Nat.zero_add, List.nil_append] at h2; exact h2.ent aEt⟩)

set_option maxRecDepth 20000 in
theorem c11 (w : World) (nx : Int) (a : Option Addr) (cap : Nat) (a2 : Option Addr) (cap2 : Nat) (l : List SItm) (hs : Rw SItm.vals 2 w [] a l) (hs2 : Rw SItm.vals 2 w [] a2 l) (hm : l.length ≤ 1000000) : Calls Tryz.prog 11 #[.agg #[.int .i64 nx, .slice a l.length cap], .agg #[.int .i64 nx, .slice a2 l.length cap2]] w fun en w' => en = .returned (.bool true) ∧ Below w.heap.size w w' := by
  refine enter (args := [_, _]) Tryz.func11 Tryz.ntmps11 rfl rfl (HS.refl w []) ?_
  refine s_seq ?_
  refine s_region ?_
  refine o_h (h_box rfl rfl) rfl (fun b1 _ => ?_)
  refine o_h (h_box rfl rfl) rfl (fun b2 _ => ?_)
  refine o_p (p_pure rfl) rfl ?_
  refine o_nil ?_
  refine s_seq ?_
  refine s_seq ?_
  refine s_region ?_
  refine o_p (p_fieldAddr rfl rfl fd_24_0 sz_3 rfl) rfl ?_
  refine o_q (q_load rfl rfl sz_3 aPk rfl) rfl ?_
  refine o_p (p_fieldAddr rfl rfl fd_24_0 sz_3 rfl) rfl ?_
  refine o_q (q_load rfl rfl sz_3 aPk rfl) rfl ?_
  refine o_p (p_pure rfl) rfl ?_
  refine o_p (p_pure rfl) rfl ?_
  refine o_or 8 11 19 _ _ rfl
    (by
      intro hg3
      have hs4 := hg3; try simp only [decide_eq_true_eq, decide_eq_false_iff_not, Bool.not_eq_true', Bool.not_eq_false', Bool.and_eq_true, Bool.or_eq_true, Bool.and_eq_false_iff, Bool.or_eq_false_iff, Bool.not_true, Bool.not_false] at hs4
      refine o_on 11 _ rfl rfl hg3 ?_
      refine o_p (p_fieldAddr rfl rfl fd_24_1 sz_22 rfl) rfl ?_
      refine o_on 11 _ rfl rfl hg3 ?_
      refine o_q (q_load rfl rfl sz_22 aPk rfl) rfl ?_
      refine o_on 11 _ rfl rfl hg3 ?_
      refine o_p (p_len_slice rfl rfl Tryz.underlying22) rfl ?_
      refine o_on 11 _ rfl rfl hg3 ?_
      refine o_p (p_fieldAddr rfl rfl fd_24_1 sz_22 rfl) rfl ?_
      refine o_on 11 _ rfl rfl hg3 ?_
      refine o_q (q_load rfl rfl sz_22 aPk rfl) rfl ?_
      refine o_on 11 _ rfl rfl hg3 ?_
      refine o_p (p_len_slice rfl rfl Tryz.underlying22) rfl ?_
      refine o_on 11 _ rfl rfl hg3 ?_
      refine o_p (p_pure rfl) rfl ?_
      refine o_p (p_pickf rfl rfl hg3 rfl) rfl ?_
      refine o_nil ?_
      exact s_joinN 8 19 _ rfl rfl rfl (fun w h => by first | exact h | exact h.ent aEt))
    (by
      intro hg5
      have hs6 := hg5; try simp only [decide_eq_true_eq, decide_eq_false_iff_not, Bool.not_eq_true', Bool.not_eq_false', Bool.and_eq_true, Bool.or_eq_true, Bool.and_eq_false_iff, Bool.or_eq_false_iff, Bool.not_true, Bool.not_false] at hs6
      refine o_off 11 _ rfl rfl hg5 rfl ?_
      refine o_off 11 _ rfl rfl hg5 rfl ?_
      refine o_off 11 _ rfl rfl hg5 rfl ?_
      refine o_off 11 _ rfl rfl hg5 rfl ?_
      refine o_off 11 _ rfl rfl hg5 rfl ?_
      refine o_off 11 _ rfl rfl hg5 rfl ?_
      refine o_off 11 _ rfl rfl hg5 rfl ?_
      refine o_p (p_pickt rfl rfl hg5 rfl) rfl ?_
      refine o_nil ?_
      exact s_joinN 8 19 _ rfl rfl rfl (fun w h => by first | exact h | exact h.ent aEt)) ?_
  refine o_nil ?_
  refine s_cond rfl (fun h7 => ?_) (fun h7 => ?_)
  · try simp only [decide_eq_true_eq, decide_eq_false_iff_not, Bool.not_eq_true', Bool.not_eq_false', Bool.and_eq_true, Bool.or_eq_true, Bool.and_eq_false_iff, Bool.or_eq_false_iff, Bool.not_true, Bool.not_false] at h7
    exfalso; first | omega | (simp at h7; done) | (have hq := h7; simp at hq; done) | (have hq := h7; omega)
  · try simp only [decide_eq_true_eq, decide_eq_false_iff_not, Bool.not_eq_true', Bool.not_eq_false', Bool.and_eq_true, Bool.or_eq_true, Bool.and_eq_false_iff, Bool.or_eq_false_iff, Bool.not_true, Bool.not_false] at h7
    refine s_skip ?_
    refine s_seq ?_
    refine s_seq ?_
    refine s_region ?_
    refine o_p (p_pure rfl) rfl ?_
    refine o_nil ?_
    refine s_block ?_
    refine s_loopI (α := Nat) [4, 5, 20, 21, 22, 23, 24, 25, 26, 27, 28, 29, 30, 31, 32, 33, 34, 35, 36, 37] (fun k => [(5, .int .i64 (k : Int))]) (fun _ => _) (fun k => k ≤ l.length) (fun k => l.length - k) 0 (Nat.zero_le _) aSx (fun w h => h) (fun k hk1 => ?_)
    refine s_seq ?_
    refine s_seq ?_
    refine s_region ?_
    refine o_p (p_pure rfl) rfl ?_
    refine o_p (p_fieldAddr rfl rfl fd_24_1 sz_22 rfl) rfl ?_
    refine o_q (q_load rfl rfl sz_22 aPk rfl) rfl ?_
    refine o_p (p_len_slice rfl rfl Tryz.underlying22) rfl ?_
    refine o_p (p_pure rfl) rfl ?_
    refine o_nil ?_
    refine s_cond rfl (fun h8 => ?_) (fun h8 => ?_)
    · try simp only [decide_eq_true_eq, decide_eq_false_iff_not, Bool.not_eq_true', Bool.not_eq_false', Bool.and_eq_true, Bool.or_eq_true, Bool.and_eq_false_iff, Bool.or_eq_false_iff, Bool.not_true, Bool.not_false] at h8
      have hk : k < l.length := by omega
      refine s_skip ?_
      refine s_seq ?_
      refine s_block ?_
      refine s_seq ?_
      refine s_draw [] mixed ?_
      refine d_p 0 rfl (p_fieldAddr rfl rfl fd_24_1 sz_22 rfl) (by kernel_rfl) rfl rfl ?_
      refine d_q 1 [] rfl (q_load rfl rfl sz_22 aPk rfl) (by kernel_rfl) (by kernel_rfl) (by kernel_rfl) rfl ?_
      refine d_p 2 rfl (p_pure rfl) (by kernel_rfl) rfl rfl ?_
      refine d_p 3 rfl (p_indexAddr rfl rfl rfl sl_22 (k) (by omega) (by omega) (Rw.some hs (by omega))) (by kernel_rfl) rfl rfl ?_
      refine d_q 4 [] rfl (q_load_oldn _ rfl rfl sz_50 rfl (Rw.rd hs hk)) (by kernel_rfl) (by kernel_rfl) (by kernel_rfl) rfl ?_
      refine d_p 5 rfl (p_fieldAddr rfl rfl fd_24_1 sz_22 rfl) (by kernel_rfl) rfl rfl ?_
      refine d_q 6 [] rfl (q_load rfl rfl sz_22 aPk rfl) (by kernel_rfl) (by kernel_rfl) (by kernel_rfl) rfl ?_
      refine d_p 7 rfl (p_pure rfl) (by kernel_rfl) rfl rfl ?_
      refine d_p 8 rfl (p_indexAddr rfl rfl rfl sl_22 (k) (by omega) (by omega) (Rw.some hs2 (by omega))) (by kernel_rfl) rfl rfl ?_
      refine d_q 9 [] rfl (q_load_oldn _ rfl rfl sz_50 rfl (Rw.rd hs2 hk)) (by kernel_rfl) (by kernel_rfl) (by kernel_rfl) rfl ?_
      refine d_p 10 rfl (p_neq_agg rfl rfl rfl eqk_50 (by rfl) (by rfl) (by rfl)) (by kernel_rfl) rfl rfl ?_
      refine d_nil (by kernel_rfl) (fun w h => by first | exact h | exact h.ent aEt) ?_
      refine s_cond rfl (fun h9 => ?_) (fun h9 => ?_)
      · try simp only [decide_eq_true_eq, decide_eq_false_iff_not, Bool.not_eq_true', Bool.not_eq_false', Bool.and_eq_true, Bool.or_eq_true, Bool.and_eq_false_iff, Bool.or_eq_false_iff, Bool.not_true, Bool.not_false] at h9
        exfalso; first | omega | (simp at h9; done) | (have hq := h9; simp at hq; done) | (have hq := h9; omega)
      · try simp only [decide_eq_true_eq, decide_eq_false_iff_not, Bool.not_eq_true', Bool.not_eq_false', Bool.and_eq_true, Bool.or_eq_true, Bool.and_eq_false_iff, Bool.or_eq_false_iff, Bool.not_true, Bool.not_false] at h9
        refine s_skip ?_
        refine s_blk ?_
        refine s_region ?_
        refine o_p (p_pure rfl) rfl ?_
        refine o_p (p_pure rfl) rfl ?_
        try (refine o_slot (i64w (by omega) (by omega)) ?_)
        refine o_p (p_pure rfl) rfl ?_
        refine o_nil ?_
        exact s_backI (k + 1) (by omega) (by omega) aSx (fun w h => h)
    · try simp only [decide_eq_true_eq, decide_eq_false_iff_not, Bool.not_eq_true', Bool.not_eq_false', Bool.and_eq_true, Bool.or_eq_true, Bool.and_eq_false_iff, Bool.or_eq_false_iff, Bool.not_true, Bool.not_false] at h8
      refine s_exit_to rfl ?_
      refine s_seq ?_
      refine s_region ?_
      refine o_p (p_pure rfl) rfl ?_
      refine o_nil ?_
      exact s_retv (rs := [.tmp 4]) rfl (.tmp rfl (.nil)) (fun w' h' => ⟨by rfl, h'.below⟩)

set_option maxRecDepth 20000 in
theorem c12 (w : World) (a : Option Addr) (cap : Nat) (a2 : Option Addr) (cap2 : Nat) (l : List Int) (hs : Vl w a (l.map nv)) (hs2 : Vl w a2 (l.map nv)) (hm : l.length ≤ 1000000) : Calls Tryz.prog 12 #[.slice a l.length cap, .slice a2 l.length cap2] w fun en w' => en = .returned (.bool true) ∧ Below w.heap.size w w' := by
  refine enter (args := [_, _]) Tryz.func12 Tryz.ntmps12 rfl rfl (HS.refl w []) ?_
  refine s_seq ?_
  refine s_region ?_
  refine o_p (p_pure rfl) rfl ?_
  refine o_nil ?_
  refine s_seq ?_
  refine s_seq ?_
  refine s_region ?_
  refine o_p (p_pure rfl) rfl ?_
  refine o_p (p_len_slice rfl rfl Tryz.underlying31) rfl ?_
  refine o_p (p_pure rfl) rfl ?_
  refine o_p (p_len_slice rfl rfl Tryz.underlying31) rfl ?_
  refine o_p (p_pure rfl) rfl ?_
  refine o_nil ?_
  refine s_cond rfl (fun h1 => ?_) (fun h1 => ?_)
  · try simp only [decide_eq_true_eq, decide_eq_false_iff_not, Bool.not_eq_true', Bool.not_eq_false', Bool.and_eq_true, Bool.or_eq_true, Bool.and_eq_false_iff, Bool.or_eq_false_iff, Bool.not_true, Bool.not_false] at h1
    exfalso; first | omega | (simp at h1; done) | (have hq := h1; simp at hq; done) | (have hq := h1; omega)
  · try simp only [decide_eq_true_eq, decide_eq_false_iff_not, Bool.not_eq_true', Bool.not_eq_false', Bool.and_eq_true, Bool.or_eq_true, Bool.and_eq_false_iff, Bool.or_eq_false_iff, Bool.not_true, Bool.not_false] at h1
    refine s_skip ?_
    refine s_seq ?_
    refine s_seq ?_
    refine s_region ?_
    refine o_p (p_pure rfl) rfl ?_
    refine o_nil ?_
    refine s_block ?_
    refine s_loopI (α := Nat) [4, 5, 11, 12, 13, 14, 15, 16, 17, 18, 19, 20, 21, 22, 23, 24, 25] (fun k => [(5, .int .i64 (k : Int))]) (fun _ => _) (fun k => k ≤ l.length) (fun k => l.length - k) 0 (Nat.zero_le _) aSx (fun w h => h) (fun k hk1 => ?_)
    refine s_seq ?_
    refine s_seq ?_
    refine s_region ?_
    refine o_p (p_pure rfl) rfl ?_
    refine o_p (p_pure rfl) rfl ?_
    refine o_p (p_len_slice rfl rfl Tryz.underlying31) rfl ?_
    refine o_p (p_pure rfl) rfl ?_
    refine o_nil ?_
    refine s_cond rfl (fun h2 => ?_) (fun h2 => ?_)
    · try simp only [decide_eq_true_eq, decide_eq_false_iff_not, Bool.not_eq_true', Bool.not_eq_false', Bool.and_eq_true, Bool.or_eq_true, Bool.and_eq_false_iff, Bool.or_eq_false_iff, Bool.not_true, Bool.not_false] at h2
      have hk : k < l.length := by omega
      refine s_skip ?_
      refine s_seq ?_
      refine s_block ?_
      refine s_seq ?_
      refine s_draw [] mixed ?_
      refine d_p 0 rfl (p_pure rfl) (by kernel_rfl) rfl rfl ?_
      refine d_p 1 rfl (p_pure rfl) (by kernel_rfl) rfl rfl ?_
      refine d_p 2 rfl (p_indexAddr rfl rfl rfl sl_31 (k) (by omega) (by omega) (hs.some (by rw [List.length_map]; omega))) (by kernel_rfl) rfl rfl ?_
      refine d_q 3 [] rfl (q_load_old rfl rfl sz_3 ((hs.rd (nv_get hk)))) (by kernel_rfl) (by kernel_rfl) (by kernel_rfl) rfl ?_
      refine d_p 4 rfl (p_pure rfl) (by kernel_rfl) rfl rfl ?_
      refine d_p 5 rfl (p_pure rfl) (by kernel_rfl) rfl rfl ?_
      refine d_p 6 rfl (p_indexAddr rfl rfl rfl sl_31 (k) (by omega) (by omega) (hs2.some (by rw [List.length_map]; omega))) (by kernel_rfl) rfl rfl ?_
      refine d_q 7 [] rfl (q_load_old rfl rfl sz_3 ((hs2.rd (nv_get hk)))) (by kernel_rfl) (by kernel_rfl) (by kernel_rfl) rfl ?_
      refine d_p 8 rfl (p_pure rfl) (by kernel_rfl) rfl rfl ?_
      refine d_nil (by kernel_rfl) (fun w h => by first | exact h | exact h.ent aEt) ?_
      refine s_cond rfl (fun h3 => ?_) (fun h3 => ?_)
      · try simp only [decide_eq_true_eq, decide_eq_false_iff_not, Bool.not_eq_true', Bool.not_eq_false', Bool.and_eq_true, Bool.or_eq_true, Bool.and_eq_false_iff, Bool.or_eq_false_iff, Bool.not_true, Bool.not_false] at h3
        exfalso; first | omega | (simp at h3; done) | (have hq := h3; simp at hq; done) | (have hq := h3; omega)
      · try simp only [decide_eq_true_eq, decide_eq_false_iff_not, Bool.not_eq_true', Bool.not_eq_false', Bool.and_eq_true, Bool.or_eq_true, Bool.and_eq_false_iff, Bool.or_eq_false_iff, Bool.not_true, Bool.not_false] at h3
        refine s_skip ?_
        refine s_blk ?_
        refine s_region ?_
        refine o_p (p_pure rfl) rfl ?_
        refine o_p (p_pure rfl) rfl ?_
        try (refine o_slot (i64w (by omega) (by omega)) ?_)
        refine o_p (p_pure rfl) rfl ?_
        refine o_nil ?_
        exact s_backI (k + 1) (by omega) (by omega) aSx (fun w h => h)
    · try simp only [decide_eq_true_eq, decide_eq_false_iff_not, Bool.not_eq_true', Bool.not_eq_false', Bool.and_eq_true, Bool.or_eq_true, Bool.and_eq_false_iff, Bool.or_eq_false_iff, Bool.not_true, Bool.not_false] at h2
      refine s_exit_to rfl ?_
      refine s_seq ?_
      refine s_region ?_
      refine o_p (p_pure rfl) rfl ?_
      refine o_nil ?_
      exact s_retv (rs := [.tmp 4]) rfl (.tmp rfl (.nil)) (fun w' h' => ⟨by rfl, h'.below⟩)

set_option maxRecDepth 20000 in
theorem c6 (w : World) (nx : Int) (a : Option Addr) (cap : Nat) (l : List SItm) (hs : Rw SItm.vals 2 w [] a l) (hm : l.length ≤ 9223372036854775807) (hb : ∀ x ∈ l, x.by_.length ≤ 9223372036854775807) : Calls Tryz.prog 6 #[.agg #[.int .i64 nx, .slice a l.length cap]] w fun en w' => en = .returned (.bool (fewS l)) ∧ Below w.heap.size w w' := by
  refine enter (args := [_]) Tryz.func6 Tryz.ntmps6 rfl rfl (HS.refl w []) ?_
  refine s_seq ?_
  refine s_region ?_
  refine o_h (h_box rfl rfl) rfl (fun b1 _ => ?_)
  refine o_p (p_pure rfl) rfl ?_
  refine o_nil ?_
  refine s_seq ?_
  refine s_seq ?_
  refine s_region ?_
  refine o_p (p_fieldAddr rfl rfl fd_24_1 sz_22 rfl) rfl ?_
  refine o_q (q_load rfl rfl sz_22 aPk rfl) rfl ?_
  refine o_p (p_len_slice rfl rfl Tryz.underlying22) rfl ?_
  refine o_p (p_pure rfl) rfl ?_
  refine o_p (p_pure rfl) rfl ?_
  refine o_and 5 8 13 _ _ rfl
    (by
      intro hg2
      have hs3 := hg2; try simp only [decide_eq_true_eq, decide_eq_false_iff_not, Bool.not_eq_true', Bool.not_eq_false', Bool.and_eq_true, Bool.or_eq_true, Bool.and_eq_false_iff, Bool.or_eq_false_iff, Bool.not_true, Bool.not_false] at hs3
      refine o_on 8 _ rfl rfl hg2 ?_
      refine o_p (p_fieldAddr rfl rfl fd_24_1 sz_22 rfl) rfl ?_
      refine o_on 8 _ rfl rfl hg2 ?_
      refine o_q (q_load rfl rfl sz_22 aPk rfl) rfl ?_
      refine o_on 8 _ rfl rfl hg2 ?_
      refine o_p (p_len_slice rfl rfl Tryz.underlying22) rfl ?_
      refine o_on 8 _ rfl rfl hg2 ?_
      refine o_p (p_pure rfl) rfl ?_
      refine o_p (p_pickt rfl rfl hg2 rfl) rfl ?_
      refine o_nil ?_
      exact s_joinN 5 13 _ rfl rfl rfl (fun w h => by first | exact h | exact h.ent aEt))
    (by
      intro hg4
      have hs5 := hg4; try simp only [decide_eq_true_eq, decide_eq_false_iff_not, Bool.not_eq_true', Bool.not_eq_false', Bool.and_eq_true, Bool.or_eq_true, Bool.and_eq_false_iff, Bool.or_eq_false_iff, Bool.not_true, Bool.not_false] at hs5
      refine o_off 8 _ rfl rfl hg4 rfl ?_
      refine o_off 8 _ rfl rfl hg4 rfl ?_
      refine o_off 8 _ rfl rfl hg4 rfl ?_
      refine o_off 8 _ rfl rfl hg4 rfl ?_
      refine o_p (p_pickf rfl rfl hg4 rfl) rfl ?_
      refine o_nil ?_
      exact s_joinN 5 13 _ rfl rfl rfl (fun w h => by first | exact h | exact h.ent aEt)) ?_
  refine o_p (p_pure rfl) rfl ?_
  refine o_or 5 14 19 _ _ rfl
    (by
      intro hg6
      have hs7 := hg6; try simp only [decide_eq_true_eq, decide_eq_false_iff_not, Bool.not_eq_true', Bool.not_eq_false', Bool.and_eq_true, Bool.or_eq_true, Bool.and_eq_false_iff, Bool.or_eq_false_iff, Bool.not_true, Bool.not_false] at hs7
      refine o_on 14 _ rfl rfl hg6 ?_
      refine o_p (p_fieldAddr rfl rfl fd_24_1 sz_22 rfl) rfl ?_
      refine o_on 14 _ rfl rfl hg6 ?_
      refine o_q (q_load rfl rfl sz_22 aPk rfl) rfl ?_
      refine o_on 14 _ rfl rfl hg6 ?_
      refine o_p (p_len_slice rfl rfl Tryz.underlying22) rfl ?_
      refine o_on 14 _ rfl rfl hg6 ?_
      refine o_p (p_pure rfl) rfl ?_
      refine o_p (p_pickf rfl rfl hg6 rfl) rfl ?_
      refine o_nil ?_
      exact s_joinN 5 19 _ rfl rfl rfl (fun w h => by first | exact h | exact h.ent aEt))
    (by
      intro hg8
      have hs9 := hg8; try simp only [decide_eq_true_eq, decide_eq_false_iff_not, Bool.not_eq_true', Bool.not_eq_false', Bool.and_eq_true, Bool.or_eq_true, Bool.and_eq_false_iff, Bool.or_eq_false_iff, Bool.not_true, Bool.not_false] at hs9
      refine o_off 14 _ rfl rfl hg8 rfl ?_
      refine o_off 14 _ rfl rfl hg8 rfl ?_
      refine o_off 14 _ rfl rfl hg8 rfl ?_
      refine o_off 14 _ rfl rfl hg8 rfl ?_
      refine o_p (p_pickt rfl rfl hg8 rfl) rfl ?_
      refine o_nil ?_
      exact s_joinN 5 19 _ rfl rfl rfl (fun w h => by first | exact h | exact h.ent aEt)) ?_
  refine o_nil ?_
  refine s_cond rfl (fun h10 => ?_) (fun h10 => ?_)
  · try simp only [decide_eq_true_eq, decide_eq_false_iff_not, Bool.not_eq_true', Bool.not_eq_false', Bool.and_eq_true, Bool.or_eq_true, Bool.and_eq_false_iff, Bool.or_eq_false_iff, Bool.not_true, Bool.not_false] at h10
    have h0 : cntS l.length = false := by have hq := h10; unfold cntS; simp only [Bool.not_eq_false', Bool.or_eq_true, Bool.and_eq_true, decide_eq_true_eq]; omega
    have hf : fewS l = false := by unfold fewS; rw [h0]; rfl
    refine s_seq ?_
    refine s_region ?_
    refine o_p (p_pure rfl) rfl ?_
    refine o_nil ?_
    exact s_retv (rs := [.tmp 2]) rfl (.tmp rfl (.nil)) (fun w' h' => ⟨by rw [hf]; rfl, h'.below⟩)
  · try simp only [decide_eq_true_eq, decide_eq_false_iff_not, Bool.not_eq_true', Bool.not_eq_false', Bool.and_eq_true, Bool.or_eq_true, Bool.and_eq_false_iff, Bool.or_eq_false_iff, Bool.not_true, Bool.not_false] at h10
    have h0 : cntS l.length = true := by have hq := h10; unfold cntS; simp only [Bool.not_eq_true', Bool.or_eq_false_iff, Bool.and_eq_false_iff, decide_eq_false_iff_not]; omega
    refine s_skip ?_
    refine s_seq ?_
    refine s_seq ?_
    refine s_region ?_
    refine o_p (p_pure rfl) rfl ?_
    refine o_nil ?_
    refine s_block ?_
    refine s_loopI (α := Nat) [2, 3, 20, 21, 22, 23, 24, 25, 26, 27, 28, 29, 30, 31, 32, 33, 34] (fun k => [(3, .int .i64 (k : Int))]) (fun _ => _) (fun k => k ≤ l.length ∧ (l.take k).all (fun x => decide (x.by_.length ≤ 300)) = true) (fun k => l.length - k) 0 ⟨Nat.zero_le _, rfl⟩ aSx (fun w h => h) (fun k hkk => ?_)
    obtain ⟨hk1, hk2⟩ := hkk
    refine s_seq ?_
    refine s_seq ?_
    refine s_region ?_
    refine o_p (p_pure rfl) rfl ?_
    refine o_p (p_fieldAddr rfl rfl fd_24_1 sz_22 rfl) rfl ?_
    refine o_q (q_load rfl rfl sz_22 aPk rfl) rfl ?_
    refine o_p (p_len_slice rfl rfl Tryz.underlying22) rfl ?_
    refine o_p (p_pure rfl) rfl ?_
    refine o_nil ?_
    refine s_cond rfl (fun h11 => ?_) (fun h11 => ?_)
    · try simp only [decide_eq_true_eq, decide_eq_false_iff_not, Bool.not_eq_true', Bool.not_eq_false', Bool.and_eq_true, Bool.or_eq_true, Bool.and_eq_false_iff, Bool.or_eq_false_iff, Bool.not_true, Bool.not_false] at h11
      have hk : k < l.length := by omega
      have hst := allS_succ (p := fun x => decide (x.by_.length ≤ 300)) hk
      have hgm : (nth l k).by_.length ≤ 9223372036854775807 := hb _ (getD_mem hk)
      refine s_skip ?_
      refine s_seq ?_
      refine s_block ?_
      refine s_seq ?_
      refine s_region ?_
      refine o_p (p_fieldAddr rfl rfl fd_24_1 sz_22 rfl) rfl ?_
      refine o_q (q_load rfl rfl sz_22 aPk rfl) rfl ?_
      refine o_p (p_pure rfl) rfl ?_
      refine o_p (p_indexAddr rfl rfl rfl sl_22 (k) (by omega) (by omega) (Rw.some hs (by omega))) rfl ?_
      refine o_p (p_fieldAddr rfl rfl fd_50_1 sz_9 rfl) rfl ?_
      refine o_q (q_load_old rfl rfl sz_9 ((hs.rdj 1 hk rfl))) rfl ?_
      refine o_p (p_len_str rfl rfl Tryz.underlying9) rfl ?_
      refine o_p (p_pure rfl) rfl ?_
      refine o_nil ?_
      refine s_cond rfl (fun h12 => ?_) (fun h12 => ?_)
      · try simp only [decide_eq_true_eq, decide_eq_false_iff_not, Bool.not_eq_true', Bool.not_eq_false', Bool.and_eq_true, Bool.or_eq_true, Bool.and_eq_false_iff, Bool.or_eq_false_iff, Bool.not_true, Bool.not_false] at h12
        have hbd : ¬ (nth l k).by_.length ≤ 300 := by have hq := h12; omega
        have hf : fewS l = false := by unfold fewS; rw [allS_no (p := fun x => decide (x.by_.length ≤ 300)) hk (decide_eq_false hbd), Bool.and_false]
        refine s_seq ?_
        refine s_region ?_
        refine o_p (p_pure rfl) rfl ?_
        refine o_nil ?_
        exact s_retv (rs := [.tmp 2]) rfl (.tmp rfl (.nil)) (fun w' h' => ⟨by rw [hf]; rfl, h'.below⟩)
      · try simp only [decide_eq_true_eq, decide_eq_false_iff_not, Bool.not_eq_true', Bool.not_eq_false', Bool.and_eq_true, Bool.or_eq_true, Bool.and_eq_false_iff, Bool.or_eq_false_iff, Bool.not_true, Bool.not_false] at h12
        have hbd : (nth l k).by_.length ≤ 300 := by have hq := h12; omega
        refine s_skip ?_
        refine s_blk ?_
        refine s_region ?_
        refine o_p (p_pure rfl) rfl ?_
        refine o_p (p_pure rfl) rfl ?_
        try (refine o_slot (i64w (by omega) (by omega)) ?_)
        refine o_p (p_pure rfl) rfl ?_
        refine o_nil ?_
        exact s_backI (k + 1) (by omega) ⟨by omega, by rw [hst, hk2, decide_eq_true hbd]; rfl⟩ aSx (fun w h => h)
    · try simp only [decide_eq_true_eq, decide_eq_false_iff_not, Bool.not_eq_true', Bool.not_eq_false', Bool.and_eq_true, Bool.or_eq_true, Bool.and_eq_false_iff, Bool.or_eq_false_iff, Bool.not_true, Bool.not_false] at h11
      obtain rfl : k = l.length := by omega
      rw [List.take_length] at hk2
      have hf : fewS l = true := by unfold fewS; rw [h0, hk2]; rfl
      refine s_exit_to rfl ?_
      refine s_seq ?_
      refine s_region ?_
      refine o_p (p_pure rfl) rfl ?_
      refine o_nil ?_
      exact s_retv (rs := [.tmp 2]) rfl (.tmp rfl (.nil)) (fun w' h' => ⟨by rw [hf]; rfl, h'.below⟩)

set_option maxRecDepth 20000 in
theorem c21 (w : World)  : Calls Tryz.prog 21 #[] w fun en w' => en = .returned (.agg #[.int .i64 10, .int .i64 10, .bool false, .bool false, .slice none 0 0, .slice none 0 0]) ∧ Below w.heap.size w w' := by
  refine enter (args := []) Tryz.func21 Tryz.ntmps21 rfl rfl (HS.refl w []) ?_
  refine s_seq ?_
  refine s_region ?_
  refine o_h (h_alloc rfl zr_57) rfl (fun b1 _ => ?_)
  refine o_nil ?_
  refine s_seq ?_
  refine s_region ?_
  refine o_p (p_build (cs := [_, _, _, _, _, _]) rfl rfl pl_57 zr_57 rfl) rfl ?_
  refine o_h0 (h_store rfl rfl rfl sz_57 rfl aPt (by simp only [setMany_length, List.length_set, List.length_cons, List.length_nil, List.length_map]; omega) rfl) (fun _ _ => ?_)
  refine o_nil ?_
  exact s_retv (rs := [.cell 0 57]) rfl (.cell rfl sz_57 aPk rfl (.nil)) (fun w' h' => ⟨by rfl, h'.below⟩)

set_option maxRecDepth 20000 in
theorem c22 (w : World)  : Calls Tryz.prog 22 #[] w fun en w' => ∃ g : Option Addr × Nat, en = .returned (.agg #[.int .i64 10, .int .i64 10, .bool false, .bool true, .slice g.1 1 g.2, .slice none 0 0]) ∧ True ∧ HS w [] [.own (.slice g.1 1 g.2) 85 4 1 [.int .i64 0, .int .i64 0, .int .i64 1, .int .i64 1]] w' := by
  refine enter (args := []) Tryz.func22 Tryz.ntmps22 rfl rfl (HS.refl w []) ?_
  refine s_seq ?_
  refine s_region ?_
  refine o_h (h_alloc rfl zr_57) rfl (fun b1 _ => ?_)
  refine o_nil ?_
  refine s_seq ?_
  refine s_region ?_
  refine o_p (p_build (cs := [_, _, _, _]) rfl rfl pl_85 zr_85 rfl) rfl ?_
  refine o_h (h_buildSlice (cs := [_, _, _, _]) rfl rfl sl_55 zr_85 rfl rfl rfl) rfl (fun b2 _ => ?_)
  refine o_p (p_build (cs := [_, _, _, _, _, _]) rfl rfl pl_57 zr_57 rfl) rfl ?_
  refine o_h0 (h_store rfl rfl rfl sz_57 rfl aPt (by simp only [setMany_length, List.length_set, List.length_cons, List.length_nil, List.length_map]; omega) rfl) (fun _ _ => ?_)
  refine o_nil ?_
  exact s_retv (rs := [.cell 0 57]) rfl (.cell rfl sz_57 aPk rfl (.nil)) (fun w' h' => ⟨(some ⟨b2, 0, none⟩, 1), rfl, trivial, (HS.own_shut (cap := 1) (n := 1) (sz := 4) (h'.ent (Bs := [.blk b2 85 4 [.int .i64 0, .int .i64 0, .int .i64 1, .int .i64 1]]) aEt) rfl (by omega) (by decide)).ent aEt⟩)

end Go.Proofs

/- From a reading of the arguments to what their values are; and back, for a law that answers true and writes to nothing old. -/
namespace Gx
open Go Go.RowKit Go.ChangeShapes Go.WideShapes Go.ChangeAt

section
variable {H : Type} {enc : TypeId × Value → H} {P : Program} {W : World}
/-- What is known of cells that read as a type's. -/
def okT (P : Program) (W : World) : Nat → TypeId → List Value → Prop
  | 0, _, _ => False
  | d + 1, t, cs => match P.underlying t with
    | some (.int k) => ∃ n, cs = [.int k n] ∧ (Lit.int k n).wf = true
    | some .string => ∃ l, cs = [.string (bs l)] ∧ l.length ≤ maxLen
    | some .bool => ∃ b, cs = [.bool b]
    | some (.slice e) => ∃ a n cap cell, cs = [.slice a n cap] ∧ n ≤ cap ∧ cap ≤ maxLen ∧ (0 < P.cellsOf e → Sl W [] a (P.cellsOf e) n cell) ∧ ∀ i, i < n → okT P W d e (cell i)
    | some (.struct fs) => cs.length = P.cellsOf t ∧ ∀ f ∈ fs.toList, okT P W d f.type ((cs.drop f.offset).take (P.cellsOf f.type))
    | some (.array n e) => cs.length = P.cellsOf t ∧ ∀ i, i < n → okT P W d e ((cs.drop (i * P.cellsOf e)).take (P.cellsOf e))
    | _ => True
theorem cells?_get {a : Addr} {n : Nat} {cs : List Value} (h : W.cells? 0 a n = some cs) : cs.length = n ∧ ∀ j v, cs[j]? = some v → W.cell? (a.add j) = some v := by
  unfold World.cells? at h
  rw [if_pos (Nat.zero_le _)] at h
  have hl : cs.length = n := by simpa using mapM_some_length h
  refine ⟨hl, fun j v hv => ?_⟩
  have hj : j < n := by rw [← hl]; exact (List.getElem?_eq_some_iff.1 hv).1
  have := mapM_some_get h j j (by simp [hj])
  rw [this, hv]
theorem okT_of_trod {sp : Nat → Bool} {held : Bool} : ∀ (d : Nat) (t : TypeId) (cs : List Value) (x : DataW H × List MemPlace), DataW.trod enc P W 0 sp held d t cs = some x → okT P W d t cs
  | 0, _, _, _, h => by simp [DataW.trod] at h
  | d + 1, t, cs, x, h => by
    rw [okT]
    split
    · rename_i k hu
      obtain ⟨n, rfl, _, hw⟩ := DataW.trod_int hu h
      exact ⟨n, rfl, hw⟩
    · rename_i hu
      obtain ⟨s, rfl, _, hs⟩ := DataW.trod_string hu h
      exact ⟨s.data.toList, rfl, hs⟩
    · rename_i hu
      obtain ⟨b, rfl, _⟩ := DataW.trod_bool hu h
      exact ⟨b, rfl⟩
    · rename_i e hu
      rcases DataW.trod_slice hu h with ⟨rfl, _⟩ | ⟨a, len, cap, elems, rest, n, hn, rfl, _, _, hl, hc, hel, hg, _⟩
      · exact ⟨none, 0, 0, fun _ => [], rfl, Nat.le_refl _, Nat.zero_le _, fun _ => ⟨fun h0 => absurd h0 (Nat.lt_irrefl _)⟩, fun i hi => absurd hi (Nat.not_lt_zero i)⟩
      · cases hn
        have hx : ∀ i, i < len → ∃ c y, W.cells? 0 (a.add (i * P.cellsOf e)) (P.cellsOf e) = some c ∧ DataW.trod enc P W 0 sp held d e c = some y := fun i hi => by
          have h1 := hg i hi
          have h2 : ∃ y, elems[i]? = some y := ⟨_, List.getElem?_eq_getElem (by omega)⟩
          obtain ⟨y, hy⟩ := h2
          rw [hy, Option.bind_eq_some_iff] at h1
          obtain ⟨c, e1, e2⟩ := h1
          exact ⟨c, y, e1, e2⟩
        have hcell : ∀ i, ∃ c, i < len → ∃ y, W.cells? 0 (a.add (i * P.cellsOf e)) (P.cellsOf e) = some c ∧ DataW.trod enc P W 0 sp held d e c = some y := fun i => by
          by_cases hi : i < len
          · obtain ⟨c, y, e1, e2⟩ := hx i hi; exact ⟨c, fun _ => ⟨y, e1, e2⟩⟩
          · exact ⟨[], fun h => absurd h hi⟩
        obtain ⟨cell, hcell⟩ := Classical.axiomOfChoice hcell
        refine ⟨some a, len, cap, cell, rfl, hl, hc, fun h0 => ⟨fun hpos => ?_⟩, fun i hi => ?_⟩
        · have hsp : a.spot = none := by
            obtain ⟨y, e1, _⟩ := hcell 0 hpos
            obtain ⟨e2, e3⟩ := cells?_get e1
            have hz : 0 < (cell 0).length := by omega
            have e4 := e3 0 _ (List.getElem?_eq_getElem hz)
            have e5 : (a.add (0 * P.cellsOf e)).add 0 = a := by simp [Addr.add]
            rw [e5] at e4
            unfold World.cell? at e4
            split at e4
            · split at e4
              · cases e4
              · rename_i hns
                cases hsx : a.spot with
                | none => rfl
                | some v => rw [hsx] at hns; simp at hns
            · cases e4
          obtain ⟨b, o, s⟩ := a
          simp only at hsp
          subst hsp
          refine ⟨b, o, rfl, fun i hi => ?_⟩
          obtain ⟨y, e1, _⟩ := hcell i hi
          obtain ⟨e2, e3⟩ := cells?_get e1
          refine ⟨e2, fun j v hv => ?_⟩
          have e4 := e3 j v hv
          have e5 : ((⟨b, o, none⟩ : Addr).add (i * P.cellsOf e)).add j = ⟨b, o + i * P.cellsOf e + j, none⟩ := by rw [addr_add, addr_add]
          rw [e5] at e4
          refine ⟨?_, by simp, e4⟩
          unfold World.cell? at e4
          split at e4
          · rename_i hh
            exact (Array.getElem?_eq_some_iff.1 hh).1
          · cases e4
        · obtain ⟨y, _, e2⟩ := hcell i hi
          exact okT_of_trod d e _ y e2
    · rename_i fs hu
      obtain ⟨xs, n, hn, _, hl, hxl, hg⟩ := DataW.trod_struct hu h
      cases hn
      refine ⟨hl, fun f hf => ?_⟩
      obtain ⟨i, hi, rfl⟩ := List.getElem_of_mem hf
      have hi' : i < fs.size := by simpa using hi
      have h1 := hg i fs[i] (by simp [hi'])
      rw [List.getElem?_eq_getElem (by omega)] at h1
      exact okT_of_trod d _ _ _ (by simpa using h1)
    · rename_i n e hu
      obtain ⟨xs, m, hm, _, hl, hxl, hg⟩ := DataW.trod_array hu h
      cases hm
      refine ⟨hl, fun i hi => ?_⟩
      have h1 := hg i hi
      rw [List.getElem?_eq_getElem (by omega)] at h1
      exact okT_of_trod d _ _ _ h1
    · trivial
/-! ## By shape -/
section
variable {d : Nat} {t : TypeId} {cs : List Value}
theorem okT_int {k : IntKind} (h : okT P W d t cs) (hu : P.underlying t = some (.int k)) : ∃ n, cs = [.int k n] ∧ (Lit.int k n).wf = true := by
  cases d with
  | zero => cases h
  | succ d => rw [okT, hu] at h; exact h
theorem okT_str (h : okT P W d t cs) (hu : P.underlying t = some .string) : ∃ l, cs = [.string (bs l)] ∧ l.length ≤ maxLen := by
  cases d with
  | zero => cases h
  | succ d => rw [okT, hu] at h; exact h
theorem okT_bool (h : okT P W d t cs) (hu : P.underlying t = some .bool) : ∃ b, cs = [.bool b] := by
  cases d with
  | zero => cases h
  | succ d => rw [okT, hu] at h; exact h
theorem okT_sl {e : TypeId} (h : okT P W d t cs) (hu : P.underlying t = some (.slice e)) (hc : 0 < P.cellsOf e) : ∃ d' a n cap cell, cs = [.slice a n cap] ∧ n ≤ cap ∧ cap ≤ maxLen ∧ Sl W [] a (P.cellsOf e) n cell ∧ ∀ i, i < n → okT P W d' e (cell i) := by
  cases d with
  | zero => cases h
  | succ d =>
    rw [okT, hu] at h
    obtain ⟨a, n, cap, cell, h1, h2, h3, h4, h5⟩ := h
    exact ⟨d, a, n, cap, cell, h1, h2, h3, h4 hc, h5⟩
theorem okT_st {fs : Array Field} (h : okT P W d t cs) (hu : P.underlying t = some (.struct fs)) : ∃ d', cs.length = P.cellsOf t ∧ ∀ f ∈ fs.toList, okT P W d' f.type ((cs.drop f.offset).take (P.cellsOf f.type)) := by
  cases d with
  | zero => cases h
  | succ d => rw [okT, hu] at h; exact ⟨d, h⟩
end
theorem okT_trod {sp : Nat → Bool} {held : Bool} {t : TypeId} {v : Value} {x : DataW H} {ps : List MemPlace} (h : DataW.Trod enc P W 0 sp held t v x ps) : ∃ d, okT P W d t v.cells.toList := by
  obtain ⟨d, h⟩ := h
  exact ⟨d, okT_of_trod d t _ _ h⟩
theorem agg_of {t : TypeId} {v : Value} {r : Reach} {b0 : Nat} (hval : Value.okWide P W r b0 t v) (ha : (match P.underlying t with | some (.struct _) | some (.array _ _) => true | _ => false) = true) : ∃ cs : List Value, v = .agg cs.toArray ∧ v.cells.toList = cs := by
  unfold Value.okWide at hval
  split at ha
  · rename_i hu; rw [hu] at hval; obtain ⟨cs, rfl, _⟩ := hval; exact ⟨cs.toList, rfl, rfl⟩
  · rename_i hu; rw [hu] at hval; obtain ⟨cs, rfl, _⟩ := hval; exact ⟨cs.toList, rfl, rfl⟩
  · cases ha
theorem wf_i64 {n : Int} (h : (Lit.int .i64 n).wf = true) : -9223372036854775808 ≤ n ∧ n ≤ 9223372036854775807 := by
  simpa [Lit.wf, IntKind.min, IntKind.max, IntKind.signed, IntKind.bits] using h
/-! ## A law that answers true and writes to nothing old -/
theorem trodAll_later (hl : laidOutB P = true) {W' : World} (hb : Below W.heap.size W W') : ∀ {ts : List TypeId} {vs : List Value} {ds : List (DataW H)} {ps : List MemPlace}, ts.all (fun t => P.readableRec t && decide (t < P.types.size)) = true →
    DataW.TrodAll enc P W 0 (fun _ => true) true ts vs ds ps → (∀ x ∈ ps, x.block < W.heap.size) → DataW.TrodAll enc P W' 0 (fun b => decide (b < W.heap.size)) true ts vs ds ps
  | [], [], [], _, _, h, _ => h
  | [], _ :: _, _, _, _, h, _ => (by cases h)
  | [], [], _ :: _, _, _, h, _ => (by cases h)
  | _ :: _, [], _, _, _, h, _ => (by cases h)
  | _ :: _, _ :: _, [], _, _, h, _ => (by cases h)
  | t :: ts, v :: vs, d :: ds, ps, hr, h, hlt => by
    obtain ⟨p, q, h1, h2, rfl⟩ := h
    simp only [List.all_cons, Bool.and_eq_true, decide_eq_true_eq] at hr
    exact ⟨p, q, Below.trod hl hr.1.1 hr.1.2 h1 hb (fun x hx => hlt x (List.mem_append_left _ hx)), trodAll_later hl hb hr.2 h2 (fun x hx => hlt x (List.mem_append_right _ hx)), rfl⟩
theorem post_true {f : Func} {s : ChangeSpec} {apart fresh handsOn : Bool} {W' : World} {args : Array Value} {ds gs : List (DataW H)} {before : List MemPlace} {tb : TypeId}
    (hl : laidOutB P = true) (hr : f.params.toList.all (fun t => P.readableRec t && decide (t < P.types.size)) = true) (hbool : f.resultTypes = #[tb]) (htb : P.underlying tb = some .bool) (hv : s.vars = [])
    (hs : s.fn H ds = { results := [.lit (.bool true)], args := ds }) (hW : DataW.Whole enc P f.params.toList s.vars apart W args.toList ds gs before) (hb : Below W.heap.size W W') :
    s.post enc P f apart fresh handsOn false W args (.bool true) W' := by
  have hW' := hW
  obtain ⟨p, q, hA, hV, rfl, hfz, hnd⟩ := hW
  rw [hv] at hV
  obtain ⟨rfl, rfl⟩ := trodVars_none hV
  have hlt : ∀ x ∈ p, x.block < W.heap.size := fun x hx => by simpa using hW'.lt x (by simpa using hx)
  refine ⟨ds, [], p ++ [], [], p, [], hW', ?_, ?_, ?_, hb.frame _, fun h => by cases h⟩
  · rw [List.append_nil, hs, hbool]
    exact trodAll_mk1 (shut_bool htb true)
  · rw [List.append_nil, hs]
    exact trodAll_later hl hb hr hA hlt
  · rw [List.append_nil, hs, hv]
    rfl
end
end Gx

/- Plain data of chapter 18: the bytes of a half and of a stream. Nothing of a program is named here. -/
namespace Gx
set_option linter.unusedSimpArgs false
set_option linter.unusedVariables false
open Go Go.RowKit
def nmB (u : List Int) : List UInt8 := u.flatMap le4
theorem nmB_len (u : List Int) : (nmB u).length = 4 * u.length := by
  unfold nmB
  induction u with
  | nil => rfl
  | cons x u ih => rw [List.flatMap_cons, List.length_append, ih, List.length_cons]; show 4 + _ = _; omega
theorem nmB_succ {u : List Int} {k : Nat} (h : k < u.length) : nmB (u.take (k + 1)) = nmB (u.take k) ++ le4 (u.getD k 0) := by
  unfold nmB
  rw [take_succ_getD (d := 0) h, List.flatMap_append]; simp
def signB : List UInt8 := [83, 68, 83, 72]
def hd0 (nx n : Int) : List UInt8 := signB ++ nmB [nx, n]
def headS (nx n : Int) : List UInt8 := hd0 nx n ++ nmB [sumS (hd0 nx n)]
def padN (m : Int) : Nat := (upT m - m).toNat
def ilen (x : SItm) : Int := 16 + (x.by_.length : Int)
def itmS (l : List SItm) (k : Nat) : List UInt8 := nmB [hashS (nth l k).by_, (nth l k).id, (plsI (l.take k)).2, ilen (nth l k)] ++ (nth l k).by_ ++ List.replicate (padN (ilen (nth l k))) 0
def halfK (nx : Int) (l : List SItm) (k : Nat) : List UInt8 := headS nx (plsI l).2 ++ (List.range k).flatMap (itmS l)
def halfS (nx : Int) (l : List SItm) : List UInt8 := halfK nx l l.length
theorem itmS_len (l : List SItm) (k : Nat) : ((itmS l k).length : Int) = upT (16 + ((nth l k).by_.length : Int)) := by
  unfold itmS padN ilen
  rw [List.length_append, List.length_append, nmB_len, List.length_replicate]
  unfold upT
  simp only [List.length_cons, List.length_nil]
  omega
theorem halfK_succ (nx : Int) (l : List SItm) (k : Nat) : halfK nx l (k + 1) = halfK nx l k ++ itmS l k := by
  unfold halfK
  rw [List.range_succ, List.flatMap_append, ← List.append_assoc]
  simp
theorem halfK_len (nx : Int) (l : List SItm) : ∀ k, k ≤ l.length → ((halfK nx l k).length : Int) = (plsI (l.take k)).2
  | 0, _ => rfl
  | k + 1, h => by
    rw [halfK_succ, List.length_append, pls_succ (by omega)]
    have h1 := halfK_len nx l k (by omega)
    have h2 := itmS_len l k
    simp only []
    omega
theorem halfS_len (nx : Int) (l : List SItm) : ((halfS nx l).length : Int) = (plsI l).2 := by
  have := halfK_len nx l l.length (Nat.le_refl _)
  rwa [List.take_length] at this
theorem pls_get' {l : List SItm} : ∀ n, n ≤ l.length → ∀ k, k < n → (plsI (l.take n)).1.getD k 0 = (plsI (l.take k)).2
  | 0, _, k, hk => absurd hk (Nat.not_lt_zero _)
  | n + 1, hn, k, hk => by
    rw [pls_succ (by omega)]
    have hl := pls_len n l (by omega)
    rcases Nat.lt_or_ge k n with h | h
    · rw [List.getD_eq_getElem?_getD, List.getElem?_append_left (by omega), ← List.getD_eq_getElem?_getD]
      exact pls_get' n (by omega) k h
    · obtain rfl : k = n := by omega
      rw [List.getD_eq_getElem?_getD, List.getElem?_append_right (by omega), hl]
      simp
theorem pls_get {l : List SItm} {k : Nat} (h : k < l.length) : (plsI l).1.getD k 0 = (plsI (l.take k)).2 := by
  have := pls_get' (l := l) l.length (Nat.le_refl _) k h
  rwa [List.take_length] at this
def streamS (nx : Int) (l : List SItm) : List UInt8 := halfS nx l ++ List.replicate (8192 - (halfS nx l).length) 0 ++ halfS nx l
/-- Bounds of a valid store's parts. -/
theorem pls_mono {l : List SItm} (hb : ∀ x ∈ l, x.by_.length ≤ 100000) : ∀ n, n ≤ l.length → ∀ k, k ≤ n → (plsI (l.take k)).2 ≤ (plsI (l.take n)).2
  | 0, _, k, hk => by obtain rfl : k = 0 := by omega
                      exact Int.le_refl _
  | n + 1, hn, k, hk => by
    rcases Nat.lt_or_ge k (n + 1) with h | h
    · have h1 := pls_mono hb n (by omega) k (by omega)
      rw [pls_succ (show n < l.length by omega)]
      unfold upT
      simp only []
      omega
    · obtain rfl : k = n + 1 := by omega
      exact Int.le_refl _
end Gx

/- Plain facts of chapter 18: the examples of 'awake'. Nothing of a program is named here. -/
namespace Gx
open Go Go.RowKit
def dA : Dsc := ⟨10, 10, false, false, [], []⟩
def dB : Dsc := ⟨10, 10, false, true, [⟨0, 0, 1, 1⟩], []⟩
def bA : List UInt8 := [1, 0, 0, 0, 10, 0, 0, 0, 10, 0, 0, 0]
def bB : List UInt8 := [1, 2, 1, 0, 10, 0, 0, 0, 10, 0, 0, 0, 0, 0, 1, 0, 1, 0, 0, 0]
def lA : List SItm := [⟨256, bA⟩]
def lB : List SItm := [⟨256, bA⟩, ⟨257, bB⟩]
theorem aw_1 : addT 256 [] dA = ⟨257, lA, 256, 0⟩ := by kernel_rfl
theorem aw_2 : addT 257 lA dB = ⟨258, lB, 257, 0⟩ := by kernel_rfl
theorem aw_3 : (stoE 258 lB).2 = 0 := by kernel_rfl
theorem aw_4 : plsI lB = ([16, 48], 96) := by kernel_rfl
theorem aw_5 : (stoE 257 lA).2 = 0 := by kernel_rfl
theorem aw_6 : colE 258 lB [257] = 0 := by kernel_rfl
theorem aw_7 : colT 258 lB [257] = ⟨258, [⟨257, bB⟩], [256]⟩ := by kernel_rfl
theorem aw_8 : (streamS 257 lA).length = 8240 := by
  have h := halfS_len 257 lA
  rw [show (plsI lA).2 = 48 by kernel_rfl] at h
  unfold streamS
  rw [List.length_append, List.length_append, List.length_replicate]
  omega
end Gx

/- Chapter 18, plain: what is encoded is decoded; a store with a descriptor added is valid. Nothing of a program is named here. -/
namespace Gx
set_option linter.unusedSimpArgs false
set_option linter.unusedVariables false
open Go Go.RowKit
theorem at1_0 (x : UInt8) (l : List UInt8) : at1 (x :: l) 0 = (x.toNat : Int) := rfl
theorem at1_s (x : UInt8) (l : List UInt8) (i : Nat) : at1 (x :: l) (i + 1) = at1 l i := rfl
/-! ## The store with an item more -/
end Gx

/- Plain data of chapter 18: what is read from a stream. Nothing of a program is named here. -/
namespace Gx
set_option linter.unusedSimpArgs false
set_option linter.unusedVariables false
open Go Go.RowKit
/-! ## Trimming zeros -/
def trimR (s : List UInt8) : List UInt8 := (s.reverse.dropWhile (· == 0)).reverse
def trimL (s : List UInt8) : List UInt8 := s.dropWhile (· == 0)
theorem last_split {s : List UInt8} (h : 0 < s.length) : s = s.take (s.length - 1) ++ [s.getD (s.length - 1) 0] := by
  have := take_succ_getD (l := s) (k := s.length - 1) (d := 0) (by omega)
  rw [show s.length - 1 + 1 = s.length by omega, List.take_length] at this
  exact this
theorem trimR_zero {s : List UInt8} (h : 0 < s.length) (hz : s.getD (s.length - 1) 0 = 0) : trimR s = trimR (s.take (s.length - 1)) := by
  have e := last_split h
  rw [hz] at e
  conv => lhs; rw [e]
  unfold trimR
  rw [List.reverse_append]
  simp
theorem trimR_stop {s : List UInt8} (h : 0 < s.length) (hz : ¬ s.getD (s.length - 1) 0 = 0) : trimR s = s := by
  have e := last_split h
  conv => lhs; rw [e]
  unfold trimR
  rw [List.reverse_append, List.reverse_cons, List.reverse_nil, List.nil_append, List.singleton_append, List.dropWhile_cons_of_neg (by simpa using hz), List.reverse_cons, List.reverse_reverse, ← e]
theorem trimL_zero {s : List UInt8} (h : 0 < s.length) (hz : s.getD 0 0 = 0) : trimL s = trimL (s.drop 1) := by
  cases s with
  | nil => simp at h
  | cons a s =>
    have : a = 0 := hz
    subst this
    rfl
theorem trimL_stop {s : List UInt8} (h : 0 < s.length) (hz : ¬ s.getD 0 0 = 0) : trimL s = s := by
  cases s with
  | nil => simp at h
  | cons a s =>
    have : ¬ a = 0 := hz
    unfold trimL
    rw [List.dropWhile_cons_of_neg (by simpa using this)]
def allZ (s : List UInt8) : Bool := s.all (· == 0)
theorem dw_nil {p : UInt8 → Bool} : ∀ {l : List UInt8}, l.dropWhile p = [] ↔ ∀ x ∈ l, p x = true
  | [] => by simp
  | a :: l => by
    rw [List.dropWhile_cons]
    split
    · rename_i h
      rw [dw_nil]
      constructor
      · intro h1 x hx
        rcases List.mem_cons.1 hx with rfl | hx
        · exact h
        · exact h1 x hx
      · exact fun h1 x hx => h1 x (List.mem_cons_of_mem _ hx)
    · rename_i h
      constructor
      · intro h1; cases h1
      · intro h1; exact absurd (h1 a (List.mem_cons_self ..)) h
theorem tw_mem {p : UInt8 → Bool} : ∀ {l : List UInt8} {x : UInt8}, x ∈ l.takeWhile p → p x = true
  | [], x, h => by cases h
  | a :: l, x, h => by
    rw [List.takeWhile_cons] at h
    split at h
    · rename_i h1
      rcases List.mem_cons.1 h with rfl | h
      · exact h1
      · exact tw_mem h
    · cases h
theorem trim_all (s : List UInt8) : trimL (trimR s) = [] ↔ allZ s = true := by
  unfold trimL trimR allZ
  constructor
  · intro h
    rw [dw_nil] at h
    rw [List.all_eq_true]
    intro x hx
    by_cases hz : (x == 0) = true
    · exact hz
    · have hm : x ∈ s.reverse.dropWhile (· == 0) ∨ (x == 0) = true := by
        have hx2 : x ∈ s.reverse := List.mem_reverse.2 hx
        rw [← List.takeWhile_append_dropWhile (p := (· == 0)) (l := s.reverse)] at hx2
        rcases List.mem_append.1 hx2 with h1 | h1
        · exact .inr (tw_mem (p := (· == 0)) h1)
        · exact .inl h1
      rcases hm with hm | hm
      · exact h x (List.mem_reverse.2 hm)
      · exact hm
  · intro h
    rw [List.all_eq_true] at h
    have h1 : s.reverse.dropWhile (· == 0) = [] := by
      rw [dw_nil]
      intro x hx
      exact h x (List.mem_reverse.1 hx)
    rw [h1]; rfl
/-! ## A half -/
def isHd (h : List UInt8) : Bool := decide (h.take 4 = signB) && decide (sumS (h.take 12) = at4 h 12)
structure ItR where
  x : SItm
  n : Int
  ok : Bool
deriving Inhabited
def shpI (h : List UInt8) (p : Nat) : Bool := decide ((p : Int) + 16 ≤ h.length) && (decide (at4 h (p + 8) = p) && (decide (16 ≤ at4 h (p + 12)) && decide ((p : Int) + upT (at4 h (p + 12)) ≤ h.length)))
def bodyI (h : List UInt8) (p : Nat) : List UInt8 := (h.drop (p + 16)).take ((at4 h (p + 12)).toNat - 16)
def padI (h : List UInt8) (p : Nat) : List UInt8 := (h.drop (p + (at4 h (p + 12)).toNat)).take (padN (at4 h (p + 12)))
def itA (h : List UInt8) (p : Nat) : ItR := if shpI h p then ⟨⟨at4 h (p + 4), bodyI h p⟩, at4 h (p + 12), allZ (padI h p) && decide (at4 h p = hashS (bodyI h p))⟩ else ⟨⟨0, []⟩, 0, false⟩
theorem shpI_ok {h : List UInt8} {p : Nat} (hs : shpI h p = true) : p + 16 ≤ h.length ∧ at4 h (p + 8) = p ∧ 16 ≤ at4 h (p + 12) ∧ (p : Int) + upT (at4 h (p + 12)) ≤ h.length := by
  unfold shpI at hs
  simp only [Bool.and_eq_true, decide_eq_true_eq] at hs
  exact ⟨by omega, hs.2.1, hs.2.2.1, hs.2.2.2⟩
theorem upT_le (n : Int) : n ≤ upT n ∧ upT n ≤ n + 15 := by unfold upT; omega
theorem itA_ok {h : List UInt8} {p : Nat} (ho : (itA h p).ok = true) : shpI h p = true := by
  unfold itA at ho
  split at ho
  · assumption
  · cases ho
theorem itA_n {h : List UInt8} {p : Nat} (ho : (itA h p).ok = true) : 16 ≤ (itA h p).n ∧ (p : Int) + upT (itA h p).n ≤ h.length ∧ (itA h p).x.by_.length ≤ h.length := by
  have hs := itA_ok ho
  obtain ⟨h1, h2, h3, h4⟩ := shpI_ok hs
  unfold itA
  rw [if_pos hs]
  refine ⟨h3, h4, ?_⟩
  show (bodyI h p).length ≤ _
  unfold bodyI
  rw [List.length_take, List.length_drop]
  omega
/-! ## The store of a stream -/
def strE (s : List UInt8) : Int := if (16 ≤ (s.length : Int) - 8192 ∧ (s.length : Int) - 8192 ≤ 8192) ∧ ((s.length : Int) - 8192) % 16 = 0 then 0 else 10
def h1S (s : List UInt8) : List UInt8 := s.take (s.length - 8192)
def h2S (s : List UInt8) : List UInt8 := s.drop 8192
def pickI (g h : List UInt8) (p : Nat) : ItR := if (itA g p).ok then itA g p else itA h p
def inL (g h : List UInt8) : Nat → Nat → List SItm → List Int → Option (List SItm × List Int)
  | 0, _, l, dm => some (l, dm)
  | f + 1, p, l, dm =>
    if p < g.length then
      if (itA g p).ok then inL g h f (p + (upT (itA g p).n).toNat) (l ++ [(itA g p).x]) dm
      else if (itA h p).ok then inL g h f (p + (upT (itA h p).n).toNat) (l ++ [(itA h p).x]) (dm ++ [(l.length : Int)])
      else none
    else some (l, dm)
structure InR where
  nx : Int
  l : List SItm
  dm : List Int
  e : Int
def inE (e : Int) : InR := ⟨0, [], [], e⟩
def inB (g h hd : List UInt8) (dm0 : List Int) : InR :=
  if at4 hd 8 = g.length then
    match inL g h g.length 16 [] dm0 with
    | none => inE 31
    | some (l, dm) => if (stoE (at4 hd 4) l).2 = 0 then ⟨at4 hd 4, l, dm, 0⟩ else inE (stoE (at4 hd 4) l).2
  else inE 3
def inS (s : List UInt8) : InR :=
  if strE s = 0 then
    if isHd (h1S s) then inB (h1S s) (h2S s) (h1S s) []
    else if isHd (h2S s) then inB (h1S s) (h2S s) (h2S s) [-1]
    else inE 31
  else inE (strE s)
theorem strE_ok {s : List UInt8} (h : strE s = 0) : 8208 ≤ s.length ∧ s.length ≤ 16384 ∧ ((s.length : Int) - 8192) % 16 = 0 := by
  unfold strE at h
  split at h
  · omega
  · simp at h
theorem h1S_len {s : List UInt8} (h : 8192 ≤ s.length) : (h1S s).length = s.length - 8192 := by unfold h1S; rw [List.length_take]; omega
theorem h2S_len (s : List UInt8) : (h2S s).length = s.length - 8192 := by unfold h2S; rw [List.length_drop]
theorem at1_take {s : List UInt8} {m i : Nat} (h : i < m) : at1 (s.take m) i = at1 s i := by
  unfold at1
  rw [List.getD_eq_getElem?_getD, List.getD_eq_getElem?_getD, List.getElem?_take, if_pos h]
theorem at2_take {s : List UInt8} {m i : Nat} (h : i + 1 < m) : at2 (s.take m) i = at2 s i := by unfold at2; rw [at1_take (by omega), at1_take h]
theorem at4_take {s : List UInt8} {m i : Nat} (h : i + 3 < m) : at4 (s.take m) i = at4 s i := by unfold at4; rw [at2_take (by omega), at2_take (by omega)]
section
variable {g h hd : List UInt8} {dm0 dm : List Int} {l : List SItm} {f p : Nat}
theorem inB_form (h8 : ¬ at4 hd 8 = g.length) : inB g h hd dm0 = inE 3 := by unfold inB; rw [if_neg h8]
theorem inB_none (h8 : at4 hd 8 = g.length) (hn : inL g h g.length 16 [] dm0 = none) : inB g h hd dm0 = inE 31 := by unfold inB; rw [if_pos h8, hn]
theorem inB_bad (h8 : at4 hd 8 = g.length) (hn : inL g h g.length 16 [] dm0 = some (l, dm)) (he : ¬ (stoE (at4 hd 4) l).2 = 0) : inB g h hd dm0 = inE (stoE (at4 hd 4) l).2 := by unfold inB; rw [if_pos h8, hn]; simp only []; rw [if_neg he]
theorem inB_ok (h8 : at4 hd 8 = g.length) (hn : inL g h g.length 16 [] dm0 = some (l, dm)) (he : (stoE (at4 hd 4) l).2 = 0) : inB g h hd dm0 = ⟨at4 hd 4, l, dm, 0⟩ := by unfold inB; rw [if_pos h8, hn]; simp only []; rw [if_pos he]
theorem inL_1 (hp : p < g.length) (ho : (itA g p).ok = true) : inL g h (f + 1) p l dm = inL g h f (p + (upT (itA g p).n).toNat) (l ++ [(itA g p).x]) dm := by rw [inL, if_pos hp, if_pos ho]
theorem inL_2 (hp : p < g.length) (ho : ¬ (itA g p).ok = true) (ho2 : (itA h p).ok = true) : inL g h (f + 1) p l dm = inL g h f (p + (upT (itA h p).n).toNat) (l ++ [(itA h p).x]) (dm ++ [(l.length : Int)]) := by rw [inL, if_pos hp, if_neg ho, if_pos ho2]
theorem inL_3 (hp : p < g.length) (ho : ¬ (itA g p).ok = true) (ho2 : ¬ (itA h p).ok = true) : inL g h (f + 1) p l dm = none := by rw [inL, if_pos hp, if_neg ho, if_neg ho2]
theorem inL_end (hp : ¬ p < g.length) : inL g h f p l dm = some (l, dm) := by
  cases f with
  | zero => rfl
  | succ f => rw [inL, if_neg hp]
theorem inS_1 {s : List UInt8} (h0 : strE s = 0) (h1 : isHd (h1S s) = true) : inS s = inB (h1S s) (h2S s) (h1S s) [] := by unfold inS; rw [if_pos h0, if_pos h1]
theorem inS_2 {s : List UInt8} (h0 : strE s = 0) (h1 : ¬ isHd (h1S s) = true) (h2 : isHd (h2S s) = true) : inS s = inB (h1S s) (h2S s) (h2S s) [-1] := by unfold inS; rw [if_pos h0, if_neg h1, if_pos h2]
theorem inS_3 {s : List UInt8} (h0 : strE s = 0) (h1 : ¬ isHd (h1S s) = true) (h2 : ¬ isHd (h2S s) = true) : inS s = inE 31 := by unfold inS; rw [if_pos h0, if_neg h1, if_neg h2]
theorem inS_0 {s : List UInt8} (h0 : ¬ strE s = 0) : inS s = inE (strE s) := by unfold inS; rw [if_neg h0]
/-- What is known of an item that was taken. -/
def Took (g h : List UInt8) (f p : Nat) (l : List SItm) (dm : List Int) (r : ItR) (dm' : List Int) : Prop :=
  inL g h (f + 1) p l dm = inL g h f (p + (upT r.n).toNat) (l ++ [r.x]) dm' ∧ 16 ≤ r.n ∧ (p : Int) + upT r.n ≤ g.length ∧ r.x.by_.length ≤ g.length ∧ dm'.length ≤ dm.length + 1
theorem took_1 (hp : p < g.length) (ho : (itA g p).ok = true) : Took g h f p l dm (itA g p) dm := by
  obtain ⟨h1, h2, h3⟩ := itA_n ho
  exact ⟨inL_1 hp ho, h1, h2, h3, Nat.le_succ _⟩
theorem took_2 (hp : p < g.length) (hl : h.length = g.length) (ho : ¬ (itA g p).ok = true) (ho2 : (itA h p).ok = true) : Took g h f p l dm (itA h p) (dm ++ [(l.length : Int)]) := by
  obtain ⟨h1, h2, h3⟩ := itA_n ho2
  exact ⟨inL_2 hp ho ho2, h1, by omega, by omega, by simp⟩
end
/-! ## The reference's look at a half that lies in a stream -/
structure SegOf (s hf : List UInt8) (a : Nat) : Prop where
  le : a + hf.length ≤ s.length
  eq : (s.drop a).take hf.length = hf
theorem SegOf.at4 {s hf : List UInt8} {a q : Nat} (h : SegOf s hf a) (hq : q + 4 ≤ hf.length) : at4 s (a + q) = Gx.at4 hf q := by
  conv => rhs; rw [← h.eq]
  rw [at4_take (by omega), at4_drop]
theorem SegOf.cut {s hf : List UInt8} {a i j : Nat} (h : SegOf s hf a) (hj : j ≤ hf.length) : (s.take (a + j)).drop (a + i) = (hf.take j).drop i := by
  conv => rhs; rw [← h.eq]
  rw [List.take_take, Nat.min_eq_left hj, List.take_drop, List.drop_drop, Nat.add_comm a j]
theorem seg_1 {s : List UInt8} (h : 8192 ≤ s.length) : SegOf s (h1S s) 0 := ⟨by rw [h1S_len h]; omega, by rw [h1S_len h]; rfl⟩
theorem seg_2 {s : List UInt8} (h : 8192 ≤ s.length) : SegOf s (h2S s) 8192 := ⟨by rw [h2S_len]; omega, by rw [h2S_len]; unfold h2S; rw [List.take_of_length_le (by rw [List.length_drop]; omega)]⟩
def itR (hf : List UInt8) (p : Nat) : ItR := if (itA hf p).ok then ⟨(itA hf p).x, upT (itA hf p).n, true⟩ else ⟨⟨0, []⟩, 0, false⟩
theorem itR_no {hf : List UInt8} {p : Nat} (h : shpI hf p = false) : itR hf p = ⟨⟨0, []⟩, 0, false⟩ := by
  unfold itR itA; rw [h]; rfl
theorem itR_shp {hf : List UInt8} {p : Nat} (h : shpI hf p = true) : itR hf p = if (allZ (padI hf p) && decide (at4 hf p = hashS (bodyI hf p))) = true then ⟨⟨at4 hf (p + 4), bodyI hf p⟩, upT (at4 hf (p + 12)), true⟩ else ⟨⟨0, []⟩, 0, false⟩ := by
  unfold itR itA; rw [if_pos h]
theorem allZ_succ {s : List UInt8} {k : Nat} (h : k < s.length) : allZ (s.take (k + 1)) = (allZ (s.take k) && (s.getD k 0 == 0)) := by
  unfold allZ
  rw [take_succ_getD (d := 0) h, List.all_append]; simp
theorem allZ_no {s : List UInt8} {k : Nat} (h : k < s.length) (h2 : ¬ s.getD k 0 = 0) : allZ s = false := by
  rw [← Bool.not_eq_true]
  intro h3
  exact h2 (by simpa using List.all_eq_true.1 h3 _ (getD_mem h))
theorem sum_step (n : Int) (c : UInt8) (h : 0 ≤ n ∧ n < 2147483648) : (n * 2 % 2147483648 + n / 1073741824 + (c.toNat : Int)) % 2147483648 = sStep n c := by
  unfold sStep
  rw [Int.mul_comm n 2]
theorem itR_okeq (hf : List UInt8) (p : Nat) : (itR hf p).ok = (itA hf p).ok := by
  unfold itR
  by_cases h : (itA hf p).ok = true
  · rw [if_pos h, h]
  · rw [if_neg h]; exact (Bool.eq_false_iff.2 h).symm
theorem itR_val {hf : List UInt8} {p : Nat} (h : (itR hf p).ok = true) : (itA hf p).ok = true ∧ itR hf p = ⟨(itA hf p).x, upT (itA hf p).n, true⟩ := by
  rw [itR_okeq] at h
  exact ⟨h, by unfold itR; rw [if_pos h]⟩
def TookR (g h : List UInt8) (f p : Nat) (l : List SItm) (dm : List Int) (z : ItR) (dm' : List Int) : Prop :=
  (z.ok = true → ∃ r, Took g h f p l dm r dm' ∧ z = ⟨r.x, upT r.n, true⟩) ∧ (z.ok = false → inL g h (f + 1) p l dm = none)
section
variable {g h : List UInt8} {f p : Nat} {l : List SItm} {dm : List Int}
theorem tookR_1 (hp : p < g.length) (ho : (itR g p).ok = true) : TookR g h f p l dm (itR g p) dm :=
  ⟨fun _ => ⟨_, took_1 hp (itR_val ho).1, (itR_val ho).2⟩, fun h9 => by rw [ho] at h9; cases h9⟩
theorem tookR_2 (hp : p < g.length) (hl : h.length = g.length) (ho : (itR g p).ok = false) : TookR g h f p l dm (itR h p) (dm ++ [(l.length : Int)]) := by
  rw [itR_okeq] at ho
  have ho' : ¬ (itA g p).ok = true := by rw [ho]; decide
  refine ⟨fun h9 => ⟨_, took_2 hp hl ho' (itR_val h9).1, (itR_val h9).2⟩, fun h9 => ?_⟩
  rw [itR_okeq] at h9
  exact inL_3 hp ho' (by rw [h9]; decide)
theorem tookR_no {z : ItR} {dm' : List Int} (ht : TookR g h f p l dm z dm') (hz : z.ok = false) : inL g h (f + 1) p l dm = none := ht.2 hz
theorem tookR_ok {z : ItR} {dm' : List Int} (ht : TookR g h f p l dm z dm') (hz : z.ok = true) : inL g h (f + 1) p l dm = inL g h f (p + z.n.toNat) (l ++ [z.x]) dm' ∧ 16 ≤ z.n ∧ (p : Int) + z.n ≤ g.length ∧ z.x.by_.length ≤ g.length ∧ dm'.length ≤ dm.length + 1 := by
  obtain ⟨r, ⟨h1, h2, h3, h4, h5⟩, rfl⟩ := ht.1 hz
  have := upT_le r.n
  exact ⟨h1, by show 16 ≤ upT r.n; omega, h3, h4, h5⟩
end
end Gx

/- Chapter 18, plain: what is written is read. Nothing of a program is named here. -/
namespace Gx
set_option linter.unusedSimpArgs false
set_option linter.unusedVariables false
open Go Go.RowKit
theorem at1_app (u v : List UInt8) (i : Nat) : at1 (u ++ v) (u.length + i) = at1 v i := by
  unfold at1
  rw [List.getD_eq_getElem?_getD, List.getD_eq_getElem?_getD, List.getElem?_append_right (by omega), show u.length + i - u.length = i by omega]
theorem at4_app (u v : List UInt8) (i : Nat) : at4 (u ++ v) (u.length + i) = at4 v i := by
  unfold at4 at2
  rw [show u.length + i + 1 = u.length + (i + 1) by omega, show u.length + i + 2 = u.length + (i + 2) by omega, show u.length + (i + 2) + 1 = u.length + (i + 2 + 1) by omega, at1_app, at1_app, at1_app, at1_app]
theorem at4_le4 {x : Int} (r : List UInt8) (h : 0 ≤ x ∧ x < 4294967296) : at4 (le4 x ++ r) 0 = x := by
  have e : le4 x ++ r = by8 x :: by8 (x / 256) :: by8 (x / 65536) :: by8 (x / 16777216) :: r := rfl
  rw [e]
  unfold at4 at2
  simp only [at1_s, at1_0, by8_toNat, Nat.zero_add, show (2 : Nat) = 0 + 1 + 1 from rfl, show (3 : Nat) = 0 + 1 + 1 + 1 from rfl]
  omega
theorem at4_u {u : List UInt8} {x : Int} (r : List UInt8) (h : 0 ≤ x ∧ x < 4294967296) : at4 (u ++ (le4 x ++ r)) u.length = x := by
  have := at4_app u (le4 x ++ r) 0
  rw [Nat.add_zero] at this
  rw [this, at4_le4 r h]
theorem pls_mod (l : List SItm) : ∀ k, k ≤ l.length → (plsI (l.take k)).2 % 16 = 0
  | 0, _ => rfl
  | k + 1, h => by
    rw [pls_succ (by omega)]
    have := pls_mod l k (by omega)
    unfold upT
    simp only []
    omega
theorem pls_mod' (l : List SItm) : (plsI l).2 % 16 = 0 := by
  have := pls_mod l l.length (Nat.le_refl _)
  rwa [List.take_length] at this
theorem range_split {n k : Nat} (h : k < n) : ∃ r, (List.range n) = List.range k ++ k :: r := by
  refine ⟨(List.range n).drop (k + 1), ?_⟩
  conv => lhs; rw [← List.take_append_drop k (List.range n)]
  rw [List.take_range, Nat.min_eq_left (by omega), List.drop_eq_getElem_cons (by simpa using h)]
  simp
theorem half_split (nx : Int) (l : List SItm) {k : Nat} (h : k < l.length) : ∃ r, halfS nx l = halfK nx l k ++ (itmS l k ++ r) := by
  obtain ⟨r, hr⟩ := range_split h
  refine ⟨r.flatMap (itmS l), ?_⟩
  unfold halfS halfK
  rw [hr, List.flatMap_append, List.flatMap_cons]
  simp only [List.append_assoc]
theorem allZ_rep (n : Nat) : allZ (List.replicate n 0) = true := by
  unfold allZ; rw [List.all_replicate]; simp
section
variable {nx : Int} {l : List SItm}
/-- What is read at the place of an item. -/
theorem itA_at (hst : (stoE nx l).2 = 0) {k : Nat} (hk : k < l.length) (hb : (nth l k).by_.length ≤ 100000) {p : Nat} (hp : (p : Int) = (plsI (l.take k)).2) (hpl : (plsI (l.take k)).2 + upT (ilen (nth l k)) ≤ (halfS nx l).length) (hp9 : (p : Int) ≤ 8192) : itA (halfS nx l) p = ⟨nth l k, ilen (nth l k), true⟩ := by
  obtain ⟨h1, h2, h3, h4⟩ := sto_ok hst
  obtain ⟨r, hr⟩ := half_split nx l hk
  have hlen := halfK_len nx l k (Nat.le_of_lt hk)
  have hpu : p = (halfK nx l k).length := by omega
  have hid := (itm_rng (h3 k hk)).1
  have hha := hashS_le (nth l k).by_
  have hu := upT_le (ilen (nth l k))
  have hil : ilen (nth l k) = 16 + ((nth l k).by_.length : Int) := rfl
  have hpad : upT (ilen (nth l k)) = ilen (nth l k) + ((padN (ilen (nth l k)) : Nat) : Int) := by unfold padN; omega
  obtain ⟨B, hB⟩ : ∃ B, halfS nx l = halfK nx l k ++ (le4 (hashS (nth l k).by_) ++ (le4 (nth l k).id ++ (le4 (plsI (l.take k)).2 ++ (le4 (ilen (nth l k)) ++ ((nth l k).by_ ++ (List.replicate (padN (ilen (nth l k))) 0 ++ B)))))) := ⟨r, by
    rw [hr]; unfold itmS nmB
    simp only [List.flatMap_cons, List.flatMap_nil, List.append_nil, List.append_assoc]⟩
  have a0 : at4 (halfS nx l) p = hashS (nth l k).by_ := by
    rw [hB, hpu]; exact at4_u _ (by omega)
  have a4 : at4 (halfS nx l) (p + 4) = (nth l k).id := by
    rw [hB, hpu, at4_app]
    exact at4_u (u := le4 _) _ (by omega)
  have a8 : at4 (halfS nx l) (p + 8) = p := by
    rw [hB, hpu, at4_app, ← List.append_assoc]
    rw [show (8 : Nat) = (le4 (hashS (nth l k).by_) ++ le4 (nth l k).id).length from rfl, at4_u _ (by omega)]
    omega
  have a12 : at4 (halfS nx l) (p + 12) = ilen (nth l k) := by
    rw [hB, hpu, at4_app, ← List.append_assoc, ← List.append_assoc]
    rw [show (12 : Nat) = (le4 (hashS (nth l k).by_) ++ le4 (nth l k).id ++ le4 (plsI (l.take k)).2).length from rfl, at4_u _ (by omega)]
  have hd16 : (halfS nx l).drop (p + 16) = (nth l k).by_ ++ (List.replicate (padN (ilen (nth l k))) 0 ++ B) := by
    rw [hB, hpu, ← List.drop_drop, List.drop_left' rfl]
    rfl
  have hbody : bodyI (halfS nx l) p = (nth l k).by_ := by
    unfold bodyI
    rw [a12, hd16, show (ilen (nth l k)).toNat - 16 = (nth l k).by_.length by omega, List.take_left' rfl]
  have hpadI : padI (halfS nx l) p = List.replicate (padN (ilen (nth l k))) 0 := by
    unfold padI
    rw [a12, show p + (ilen (nth l k)).toNat = p + 16 + (nth l k).by_.length by omega, ← List.drop_drop, hd16, List.drop_left' rfl, List.take_left' (by simp)]
  have hshp : shpI (halfS nx l) p = true := by
    unfold shpI
    rw [a8, a12, decide_eq_true (show (p : Int) + 16 ≤ _ from by omega), decide_eq_true (show (p : Int) = p from rfl), decide_eq_true (show (16 : Int) ≤ ilen (nth l k) from by omega), decide_eq_true (show (p : Int) + upT (ilen (nth l k)) ≤ _ from by omega)]
    rfl
  unfold itA
  rw [if_pos hshp, hbody, hpadI, a0, a4, a12, allZ_rep]
  simp
theorem half_head (hst : (stoE nx l).2 = 0) (hb : ∀ x ∈ l, x.by_.length ≤ 100000) : isHd (halfS nx l) = true ∧ at4 (halfS nx l) 4 = nx ∧ at4 (halfS nx l) 8 = (halfS nx l).length := by
  obtain ⟨h1, h2, h3, h4⟩ := sto_ok hst
  have hple := pls_le' hb
  have hsu := sumS_le (hd0 nx (plsI l).2)
  have hhl := halfS_len nx l
  obtain ⟨B, hB⟩ : ∃ B, halfS nx l = hd0 nx (plsI l).2 ++ (le4 (sumS (hd0 nx (plsI l).2)) ++ B) := ⟨(List.range l.length).flatMap (itmS l), by
    unfold halfS halfK headS nmB
    simp only [List.flatMap_cons, List.flatMap_nil, List.append_nil, List.append_assoc]⟩
  have t12 : (halfS nx l).take 12 = hd0 nx (plsI l).2 := by rw [hB, List.take_left' (show (hd0 nx (plsI l).2).length = 12 from rfl)]
  have t4 : (halfS nx l).take 4 = signB := by rw [hB]; rfl
  have a12 : at4 (halfS nx l) 12 = sumS (hd0 nx (plsI l).2) := by rw [hB]; exact at4_u (u := hd0 nx (plsI l).2) _ (by omega)
  obtain ⟨B2, hB2⟩ : ∃ B2, halfS nx l = signB ++ (le4 nx ++ (le4 (plsI l).2 ++ B2)) := ⟨_, by rw [hB]; unfold hd0 nmB; simp only [List.flatMap_cons, List.flatMap_nil, List.append_nil, List.append_assoc]; rfl⟩
  refine ⟨?_, ?_, ?_⟩
  · unfold isHd
    rw [t4, t12, a12]
    simp
  · rw [hB2]; exact at4_u (u := signB) _ (by omega)
  · have : at4 (halfS nx l) 8 = (plsI l).2 := by
      rw [hB2, ← List.append_assoc]
      exact at4_u (u := signB ++ le4 nx) _ (by omega)
    omega
theorem inL_back (hst : (stoE nx l).2 = 0) (hb : ∀ x ∈ l, x.by_.length ≤ 100000) (h : List UInt8) : ∀ (f k p : Nat), k ≤ l.length → (p : Int) = (plsI (l.take k)).2 → (halfS nx l).length - p ≤ f → inL (halfS nx l) h f p (l.take k) [] = some (l, [])
  | f, k, p, hk, hp, hf => by
    obtain ⟨h1, h2, h3, h4⟩ := sto_ok hst
    have hhl := halfS_len nx l
    have hm := pls_mono hb l.length (Nat.le_refl _) k hk
    rw [List.take_length] at hm
    rcases Nat.lt_or_ge k l.length with hkl | hkl
    · have hs := pls_succ hkl
      have hm2 := pls_mono hb l.length (Nat.le_refl _) (k + 1) (by omega)
      rw [List.take_length, hs] at hm2
      have hpk := pls_le hb k hk
      have hul := upT_le (ilen (nth l k))
      have hil : ilen (nth l k) = 16 + ((nth l k).by_.length : Int) := rfl
      simp only [] at hm2
      rw [← hil] at hm2
      have hA := itA_at hst hkl (hb _ (getD_mem hkl)) hp (by omega) (by omega)
      obtain ⟨f', rfl⟩ : ∃ f', f = f' + 1 := ⟨f - 1, by omega⟩
      rw [inL_1 (by omega) (by rw [hA]), hA]
      simp only []
      have e : l.take k ++ [nth l k] = l.take (k + 1) := (take_succ_getD (d := default) hkl).symm
      rw [e]
      refine inL_back hst hb h f' (k + 1) _ (by omega) ?_ (by omega)
      rw [hs]
      simp only []
      rw [← hil]
      omega
    · obtain rfl : k = l.length := by omega
      rw [List.take_length] at hp
      rw [inL_end (by omega), List.take_length]
termination_by f => f
/-- What is written is read. -/
theorem str_le (hst : (stoE nx l).2 = 0) : (streamS nx l).length = 8192 + (halfS nx l).length ∧ (halfS nx l).length ≤ 8192 := by
  obtain ⟨h1, h2, h3, h4⟩ := sto_ok hst
  have hhl := halfS_len nx l
  unfold streamS
  rw [List.length_append, List.length_append, List.length_replicate]
  omega
end
theorem inL_len {g h : List UInt8} : ∀ (f p : Nat) (l : List SItm) (dm : List Int) (l' : List SItm) (dm' : List Int), inL g h f p l dm = some (l', dm') → l'.length ≤ l.length + f ∧ dm'.length ≤ dm.length + f
  | 0, p, l, dm, l', dm', e => by
    injection e with e; injection e with e1 e2; subst e1 e2; exact ⟨Nat.le_refl _, Nat.le_refl _⟩
  | f + 1, p, l, dm, l', dm', e => by
    rw [inL] at e
    split at e
    · split at e
      · have := inL_len f _ _ _ _ _ e
        simp only [List.length_append, List.length_cons, List.length_nil] at this
        omega
      · split at e
        · have := inL_len f _ _ _ _ _ e
          simp only [List.length_append, List.length_cons, List.length_nil] at this
          omega
        · cases e
    · injection e with e; injection e with e1 e2; subst e1 e2; omega
theorem inB_len {g h hd : List UInt8} {dm0 : List Int} (h0 : dm0.length ≤ 1) : (inB g h hd dm0).l.length ≤ g.length ∧ (inB g h hd dm0).dm.length ≤ g.length + 1 := by
  unfold inB
  split
  · split
    · exact ⟨Nat.zero_le _, Nat.zero_le _⟩
    · rename_i l dm hI
      have := inL_len _ _ _ _ _ _ hI
      simp only [List.length_nil] at this
      split
      · show l.length ≤ _ ∧ dm.length ≤ _; omega
      · exact ⟨Nat.zero_le _, Nat.zero_le _⟩
  · exact ⟨Nat.zero_le _, Nat.zero_le _⟩
theorem inS_len (s : List UInt8) : (inS s).l.length ≤ s.length ∧ (inS s).dm.length ≤ s.length + 1 := by
  have hl : (h1S s).length ≤ s.length := by unfold h1S; rw [List.length_take]; omega
  unfold inS
  split
  · split
    · have := inB_len (g := h1S s) (h := h2S s) (hd := h1S s) (dm0 := []) (Nat.zero_le _); omega
    · split
      · have := inB_len (g := h1S s) (h := h2S s) (hd := h2S s) (dm0 := [-1]) (Nat.le_refl _); omega
      · exact ⟨Nat.zero_le _, Nat.zero_le _⟩
  · exact ⟨Nat.zero_le _, Nat.zero_le _⟩
end Gx

