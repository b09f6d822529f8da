/- Contracts of the program's functions, proved by walking them with the rules of the Gx texts; without conditions beyond those that each contract names. -/
import Derived.WalkKit
import Derived.Deep.Draws
import Derived.TacticsIn
import Derived.OrdersIn
import Derived.RangeFuncLeaves
import Derived.Lib.Strings
import Derived.Laws.BytesArg
import Derived.Laws.IdiomStrings
import Derived.Deep.Quiet
import Derived.Laws.StructEq
import Derived.ChangeKeysEq
import Derived.Laws.Externs
import Derived.Lib.Overlaps
import Derived.Carry
import Derived.Laws.Small
import Derived.Lib.Bytealg
import Derived.Test.YtbbbhjhafdnnaaaGreatDoorProg
import Derived.KernelRfl
import Derived.RangeFuncRecord
import Derived.ProofKit
import Derived.OpenShut
import Derived.Lib.Builder
import Derived.Lib.UnsafeStr
import Derived.Laws.Pointers
import Derived.LaidEqlPtr
import Derived.Shelf.Strings.Builder1
import Derived.Shelf.Strings.Builder2
import Derived.Shelf.Small.Utf8
import Derived.Shelf.Small.Strs
import Derived.Shelf.Strings.BuilderF
import Derived.Shelf.Strings.Search1
import Derived.Shelf.Strings.Prefix
import Derived.Shelf.Unicode.Decode
import Derived.Shelf.Strings.Runes
import Derived.Shelf.Strings.AsciiSet
import Derived.Shelf.Bits.Mul64
import Derived.Shelf.Strings.Repeat
import Derived.Shelf.Unicode.DecodeSlow
import Derived.Shelf.Unicode.DecodeAny
import Derived.Shelf.Unicode.DecodeLast
import Derived.Test.YtbbbhjhafdnnaaaGreatDoorTie
import Derived.Test.YtbbbhjhafdnnaaaGreatDoorCards
import Derived.SevenTiedAt
import Derived.LaidMore
import Derived.Lay
import Derived.Stop.Joined
import Derived.Test.YtbbbhjhafdnnaaaGreatDoorP3
namespace Go.Proofs
open Go Go.RowKit Gx
set_option linter.unusedVariables false
set_option linter.unusedSimpArgs false
attribute [local irreducible] Go.Calls Gx.S Gx.O Gx.D Gx.OpP Gx.OpQ Gx.OpH

theorem sl_41 : tsl Tryz.prog 41 = some (46, 2, 16) := by kernel_rfl
theorem fd_46_0 : tfd Tryz.prog 46 0 = some (0, 3) := by kernel_rfl
theorem fd_46_1 : tfd Tryz.prog 46 1 = some (1, 3) := by kernel_rfl
theorem fn_17 : isFn Tryz.prog 17 = true := by kernel_rfl


set_option maxRecDepth 20000 in
theorem c17 (w : World) (l : List UInt8) (p : Nat) (d : List UInt8) (hp : p + d.length ≤ l.length) (hl : l.length ≤ 1000000000) : Calls Tryz.prog 17 #[.string (bs l), .int .i64 (p : Int), .string (bs d)] w fun en w' => en = .returned (.string (bs (l.take p ++ d ++ l.drop (p + d.length)))) ∧ Below w.heap.size w w' := by
  refine enter (args := [_, _, _]) Tryz.func17 Tryz.ntmps17 rfl rfl (HS.refl w []) ?_
  refine s_seq ?_
  refine s_region ?_
  refine o_p (p_pure rfl) rfl ?_
  refine o_nil ?_
  refine s_seq ?_
  refine s_draw [] mixed ?_
  refine d_p 0 rfl (p_pure rfl) (by kernel_rfl) rfl rfl ?_
  refine d_p 1 rfl (p_pure rfl) (by kernel_rfl) rfl rfl ?_
  refine d_p 2 rfl (p_slice_str_to p rfl rfl rfl Tryz.underlying9 rfl (by omega)) (by kernel_rfl) rfl rfl ?_
  refine d_p 3 rfl (p_pure rfl) (by kernel_rfl) rfl rfl ?_
  refine d_p 4 rfl (p_str_add rfl rfl rfl (by (try simp only [List.length_append, List.length_cons, List.length_nil, List.length_replicate, List.length_take, List.length_drop]); omega)) (by kernel_rfl) rfl rfl ?_
  refine d_p 5 rfl (p_pure rfl) (by kernel_rfl) rfl rfl ?_
  refine d_p 6 rfl (p_pure rfl) (by kernel_rfl) rfl rfl ?_
  refine d_p 7 rfl (p_pure rfl) (by kernel_rfl) rfl rfl ?_
  refine d_p 8 rfl (p_len_str rfl rfl Tryz.underlying9) (by kernel_rfl) rfl rfl ?_
  refine d_p 9 rfl (p_pure rfl) (by kernel_rfl) rfl rfl ?_
  try (refine d_slot (i64w (by omega) (by omega)) ?_)
  refine d_p 10 rfl (p_slice_str_from (p + d.length) rfl rfl rfl Tryz.underlying9 (by omega) (by omega)) (by kernel_rfl) rfl rfl ?_
  refine d_p 11 rfl (p_str_add rfl rfl rfl (by (try simp only [List.length_append, List.length_cons, List.length_nil, List.length_replicate, List.length_take, List.length_drop]); omega)) (by kernel_rfl) rfl rfl ?_
  refine d_p 12 rfl (p_pure rfl) (by kernel_rfl) rfl rfl ?_
  refine d_nil (by kernel_rfl) (fun w h => by first | exact h | exact h.ent aEt) ?_
  exact s_retv (rs := [.tmp 6]) rfl (.tmp rfl (.nil)) (fun w' h' => ⟨by rfl, h'.below⟩)

attribute [local irreducible] Gx.inS Gx.streamS Gx.stoE

set_option maxRecDepth 20000 in
set_option maxHeartbeats 8000000 in
theorem c4 (w : World) (nx : Int) (a : Option Addr) (cap : Nat) (l : List SItm) (sc : Bool) (ba : Option Addr) (bc : Nat) (bl : List Byt) (hs : Rw SItm.vals 2 w [] a l) (hmM : l.length ≤ 9223372036854775807) (hbM : ∀ x ∈ l, x.by_.length ≤ 9223372036854775807) (hbl : Rw Byt.vals 2 w [] ba bl) : Calls Tryz.prog 4 #[.agg #[.int .i64 nx, .slice a l.length cap], .bool sc, .slice ba bl.length bc] w fun en w' => en = .returned (.bool true) ∧ Below w.heap.size w w' := by
  refine enter (args := [_, _, _]) Tryz.func4 Tryz.ntmps4 rfl rfl (HS.refl w []) ?_
  refine s_seq ?_
  refine s_region ?_
  refine o_h (h_box rfl rfl) rfl (fun b1 _ => ?_)
  refine o_p (p_pure rfl) rfl ?_
  refine o_nil ?_
  refine s_seq ?_
  refine s_seq ?_
  refine s_region ?_
  refine o_q (q_call rfl fn_5 rfl (fun w1 h1 => c5 w1)) rfl ?_
  refine o_p (p_pure rfl) rfl ?_
  refine o_nil ?_
  refine s_cond rfl (fun h2 => ?_) (fun h2 => ?_)
  · try simp only [decide_eq_true_eq, decide_eq_false_iff_not, Bool.not_eq_true', Bool.not_eq_false', Bool.and_eq_true, Bool.or_eq_true, Bool.and_eq_false_iff, Bool.or_eq_false_iff, Bool.not_true, Bool.not_false] at h2
    exfalso; first | omega | (simp at h2; done) | (simp_all; done)
  · try simp only [decide_eq_true_eq, decide_eq_false_iff_not, Bool.not_eq_true', Bool.not_eq_false', Bool.and_eq_true, Bool.or_eq_true, Bool.and_eq_false_iff, Bool.or_eq_false_iff, Bool.not_true, Bool.not_false] at h2
    refine s_skip ?_
    refine s_seq ?_
    refine s_seq ?_
    refine s_region ?_
    refine o_q (q_loadn rfl rfl sz_24 aPk rfl) rfl ?_
    refine o_q (q_call rfl fn_6 rfl (fun w1 h1 => c6 w1 nx a cap l (hs.later h1) hmM hbM)) rfl ?_
    refine o_p (p_pure rfl) rfl ?_
    refine o_p (p_pure rfl) rfl ?_
    refine o_or 4 28 32 _ _ rfl
      (by
        intro hg3
        have hs4 := hg3; try simp only [decide_eq_true_eq, decide_eq_false_iff_not, Bool.not_eq_true', Bool.not_eq_false', Bool.and_eq_true, Bool.or_eq_true, Bool.and_eq_false_iff, Bool.or_eq_false_iff, Bool.not_true, Bool.not_false] at hs4
        refine o_on 28 _ rfl rfl hg3 ?_
        refine o_q (q_loadn rfl rfl sz_24 aPk rfl) rfl ?_
        refine o_on 28 _ rfl rfl hg3 ?_
        refine o_q (q_call rfl fn_13 rfl (fun w1 h1 => by have hfw : fewS l = true := (by have hq := hg3; first | exact hq | (simp at hq; exact hq)); obtain ⟨hm62, hb300⟩ := fewS_ok hfw; exact c13 w1 nx a cap l (hs.later h1) (by omega) (fun x hx => by have := hb300 x hx; omega))) rfl ?_
        refine o_on 28 _ rfl rfl hg3 ?_
        refine o_p (p_pure rfl) rfl ?_
        refine o_p (p_pickf rfl rfl hg3 rfl) rfl ?_
        refine o_nil ?_
        exact s_joinN 4 32 _ rfl rfl rfl (fun w h => by first | exact h | exact h.ent aEt))
      (by
        intro hg5
        have hs6 := hg5; try simp only [decide_eq_true_eq, decide_eq_false_iff_not, Bool.not_eq_true', Bool.not_eq_false', Bool.and_eq_true, Bool.or_eq_true, Bool.and_eq_false_iff, Bool.or_eq_false_iff, Bool.not_true, Bool.not_false] at hs6
        refine o_off 28 _ rfl rfl hg5 rfl ?_
        refine o_off 28 _ rfl rfl hg5 rfl ?_
        refine o_off 28 _ rfl rfl hg5 rfl ?_
        refine o_p (p_pickt rfl rfl hg5 rfl) rfl ?_
        refine o_nil ?_
        exact s_joinN 4 32 _ rfl rfl rfl (fun w h => by first | exact h | exact h.ent aEt)) ?_
    refine o_p (p_pure rfl) rfl ?_
    refine o_or 4 33 37 _ _ rfl
      (by
        intro hg7
        have hs8 := hg7; try simp only [decide_eq_true_eq, decide_eq_false_iff_not, Bool.not_eq_true', Bool.not_eq_false', Bool.and_eq_true, Bool.or_eq_true, Bool.and_eq_false_iff, Bool.or_eq_false_iff, Bool.not_true, Bool.not_false] at hs8
        refine o_on 33 _ rfl rfl hg7 ?_
        refine o_p (p_pure rfl) rfl ?_
        refine o_on 33 _ rfl rfl hg7 ?_
        refine o_p (p_len_slice rfl rfl Tryz.underlying41) rfl ?_
        refine o_on 33 _ rfl rfl hg7 ?_
        refine o_p (p_pure rfl) rfl ?_
        refine o_p (p_pickf rfl rfl hg7 rfl) rfl ?_
        refine o_nil ?_
        exact s_joinN 4 37 _ rfl rfl rfl (fun w h => by first | exact h | exact h.ent aEt))
      (by
        intro hg9
        have hs10 := hg9; try simp only [decide_eq_true_eq, decide_eq_false_iff_not, Bool.not_eq_true', Bool.not_eq_false', Bool.and_eq_true, Bool.or_eq_true, Bool.and_eq_false_iff, Bool.or_eq_false_iff, Bool.not_true, Bool.not_false] at hs10
        refine o_off 33 _ rfl rfl hg9 rfl ?_
        refine o_off 33 _ rfl rfl hg9 rfl ?_
        refine o_off 33 _ rfl rfl hg9 rfl ?_
        refine o_p (p_pickt rfl rfl hg9 rfl) rfl ?_
        refine o_nil ?_
        exact s_joinN 4 37 _ rfl rfl rfl (fun w h => by first | exact h | exact h.ent aEt)) ?_
    refine o_nil ?_
    refine s_cond rfl (fun h11 => ?_) (fun h11 => ?_)
    · try simp only [decide_eq_true_eq, decide_eq_false_iff_not, Bool.not_eq_true', Bool.not_eq_false', Bool.and_eq_true, Bool.or_eq_true, Bool.and_eq_false_iff, Bool.or_eq_false_iff, Bool.not_true, Bool.not_false] at h11
      refine s_seq ?_
      refine s_region ?_
      refine o_p (p_pure rfl) rfl ?_
      refine o_nil ?_
      exact s_retv (rs := [.tmp 6]) rfl (.tmp rfl (.nil)) (fun w' h' => ⟨by rfl, h'.below⟩)
    · try simp only [decide_eq_true_eq, decide_eq_false_iff_not, Bool.not_eq_true', Bool.not_eq_false', Bool.and_eq_true, Bool.or_eq_true, Bool.and_eq_false_iff, Bool.or_eq_false_iff, Bool.not_true, Bool.not_false] at h11
      obtain ⟨hfw, h0, hbn⟩ : fewS l = true ∧ (stoE nx l).2 = 0 ∧ bl.length ≤ 12 := by have hq := h11; simp at hq; refine ⟨hq.1.1, hq.1.2, ?_⟩; omega
      obtain ⟨hm62, hb300⟩ := fewS_ok hfw
      have hm : l.length ≤ 100000 := by omega
      have hb : ∀ x ∈ l, x.by_.length ≤ 100000 := fun x hx => by have := hb300 x hx; omega
      obtain ⟨hsl, hsh⟩ := str_le h0
      have hhl := halfS_len nx l
      have hple := pls_le' hb
      obtain ⟨s1, s2, s3, s4⟩ := sto_ok h0
      refine s_skip ?_
      refine s_seq ?_
      refine s_region ?_
      refine o_q (q_loadn rfl rfl sz_24 aPk rfl) rfl ?_
      refine o_h (h_call rfl fn_8 rfl (fun w1 h1 => c8 w1 nx a cap l (hs.later h1) hm hb)) rfl (fun gS _ => ?_)
      refine o_q (q_call rfl fn_7 rfl (fun w1 h1 => by have h9 := c7 w1 nx gS.1 gS.2 l (HS.rw_own (a := gS.1) (l := l) sv2 h1 aPk rfl) hm hb; rw [if_pos h0, h0] at h9; exact h9)) rfl ?_
      refine o_p (p_pure rfl) rfl ?_
      refine o_p (p_pure rfl) rfl ?_
      refine o_p (p_pure rfl) rfl ?_
      refine o_p (p_pure rfl) rfl ?_
      refine o_p (p_pure rfl) rfl ?_
      refine o_nil ?_
      refine s_seq ?_
      refine s_region ?_
      refine o_q (q_loadn rfl rfl sz_24 aPk rfl) rfl ?_
      refine o_h (h_call rfl fn_15 rfl (fun w1 h1 => c15 w1 nx a cap l (hs.later h1) hm hb)) rfl (fun gP _ => ?_)
      refine o_p (p_pure rfl) rfl ?_
      refine o_p (p_pure rfl) rfl ?_
      refine o_p (p_pure rfl) rfl ?_
      refine o_p (p_pure rfl) rfl ?_
      refine o_p (p_pure rfl) rfl ?_
      refine o_nil ?_
      refine s_seq ?_
      refine s_seq ?_
      refine s_region ?_
      refine o_p (p_pure rfl) rfl ?_
      refine o_p (p_pure rfl) rfl ?_
      refine o_p (p_pure rfl) rfl ?_
      refine o_or 6 51 57 _ _ rfl
        (by
          intro hg12
          have hs13 := hg12; try simp only [decide_eq_true_eq, decide_eq_false_iff_not, Bool.not_eq_true', Bool.not_eq_false', Bool.and_eq_true, Bool.or_eq_true, Bool.and_eq_false_iff, Bool.or_eq_false_iff, Bool.not_true, Bool.not_false] at hs13
          refine o_on 51 _ rfl rfl hg12 ?_
          refine o_p (p_pure rfl) rfl ?_
          refine o_on 51 _ rfl rfl hg12 ?_
          refine o_p (p_len_str rfl rfl Tryz.underlying9) rfl ?_
          refine o_on 51 _ rfl rfl hg12 ?_
          refine o_p (p_pure rfl) rfl ?_
          refine o_on 51 _ rfl rfl hg12 ?_
          refine o_p (p_pure rfl) rfl ?_
          try (refine o_slot (i64w (by omega) (by omega)) ?_)
          refine o_on 51 _ rfl rfl hg12 ?_
          refine o_p (p_pure rfl) rfl ?_
          refine o_p (p_pickf rfl rfl hg12 rfl) rfl ?_
          refine o_nil ?_
          exact s_joinN 6 57 _ rfl rfl rfl (fun w h => by first | exact h | exact h.ent aEt))
        (by
          intro hg14
          have hs15 := hg14; try simp only [decide_eq_true_eq, decide_eq_false_iff_not, Bool.not_eq_true', Bool.not_eq_false', Bool.and_eq_true, Bool.or_eq_true, Bool.and_eq_false_iff, Bool.or_eq_false_iff, Bool.not_true, Bool.not_false] at hs15
          refine o_off 51 _ rfl rfl hg14 rfl ?_
          refine o_off 51 _ rfl rfl hg14 rfl ?_
          refine o_off 51 _ rfl rfl hg14 rfl ?_
          refine o_off 51 _ rfl rfl hg14 rfl ?_
          refine o_off 51 _ rfl rfl hg14 rfl ?_
          refine o_p (p_pickt rfl rfl hg14 rfl) rfl ?_
          refine o_nil ?_
          exact s_joinN 6 57 _ rfl rfl rfl (fun w h => by first | exact h | exact h.ent aEt)) ?_
      refine o_nil ?_
      refine s_cond rfl (fun h16 => ?_) (fun h16 => ?_)
      · try simp only [decide_eq_true_eq, decide_eq_false_iff_not, Bool.not_eq_true', Bool.not_eq_false', Bool.and_eq_true, Bool.or_eq_true, Bool.and_eq_false_iff, Bool.or_eq_false_iff, Bool.not_true, Bool.not_false] at h16
        exfalso; have hq := h16; simp at hq; omega
      · try simp only [decide_eq_true_eq, decide_eq_false_iff_not, Bool.not_eq_true', Bool.not_eq_false', Bool.and_eq_true, Bool.or_eq_true, Bool.and_eq_false_iff, Bool.or_eq_false_iff, Bool.not_true, Bool.not_false] at h16
        have hof : offS sc = 0 ∨ offS sc = 8192 := by cases sc; exact Or.inl rfl; exact Or.inr rfl
        refine s_skip ?_
        refine s_seq ?_
        refine s_weaken (L' := [(1, _), (2, _), (3, _), (6, _), (7, _), (9, _), (10, _)]) aSx (fun _ h => h) ?_
        refine s_region ?_
        refine o_p (p_pure rfl) rfl ?_
        refine o_p (p_pure rfl) rfl ?_
        refine o_nil ?_
        refine s_seq ?_
        refine s_seq ?_
        refine s_region ?_
        refine o_p (p_pure rfl) rfl ?_
        refine o_nil ?_
        refine s_block ?_
        refine s_loopI (α := Nat × List UInt8) [6, 11, 12, 13, 59, 60, 61, 62, 63, 64, 65, 66, 67, 68, 69, 70, 71, 72, 73, 74, 75, 76, 77, 78, 79, 80, 81, 82, 83, 84, 85, 86, 87, 88, 89, 90, 91, 92, 93, 94, 95, 96, 97, 98, 99] (fun x => [(12, .int .i64 (x.1 : Int)), (11, .string (bs x.2))]) (fun x => HS w [] [.own (.slice gP.1 l.length gP.2) 3 1 l.length ((plsI l).1.map nv), .blk b1 24 2 [.int .i64 nx, .slice a l.length cap]]) (fun x => x.1 ≤ bl.length ∧ AgrB (offS sc) (halfS nx l).length (streamS nx l) x.2) (fun x => bl.length - x.1) (0, (streamS nx l)) ⟨Nat.zero_le _, agr_refl _ _ _⟩ aSx (fun w h => h.ent aEt) (fun ⟨k, B⟩ hx => ?_)
        dsimp only
        obtain ⟨hk1, hAg⟩ := hx
        simp only [] at hk1 hAg
        have hBl0 := hAg.1
        refine s_seq ?_
        refine s_seq ?_
        refine s_region ?_
        refine o_p (p_pure rfl) rfl ?_
        refine o_p (p_pure rfl) rfl ?_
        refine o_p (p_len_slice rfl rfl Tryz.underlying41) rfl ?_
        refine o_p (p_pure rfl) rfl ?_
        refine o_nil ?_
        refine s_cond rfl (fun h17 => ?_) (fun h17 => ?_)
        · try simp only [decide_eq_true_eq, decide_eq_false_iff_not, Bool.not_eq_true', Bool.not_eq_false', Bool.and_eq_true, Bool.or_eq_true, Bool.and_eq_false_iff, Bool.or_eq_false_iff, Bool.not_true, Bool.not_false] at h17
          have hk : k < bl.length := by omega
          refine s_skip ?_
          refine s_seq ?_
          refine s_block ?_
          refine s_seq ?_
          refine s_seq ?_
          refine s_region ?_
          refine o_p (p_pure rfl) rfl ?_
          refine o_p (p_pure rfl) rfl ?_
          refine o_p (p_indexAddr rfl rfl rfl sl_41 (k) (by omega) (by omega) (Rw.some hbl (by omega))) rfl ?_
          refine o_p (p_fieldAddr rfl rfl fd_46_0 sz_3 rfl) rfl ?_
          refine o_q (q_load_old rfl rfl sz_3 ((hbl.rdj 0 hk rfl))) rfl ?_
          refine o_p (p_pure rfl) rfl ?_
          refine o_p (p_pure rfl) rfl ?_
          try (refine o_slot (i64w (by omega) (by omega)) ?_)
          refine o_q (q_call rfl fn_16 rfl (fun w1 h1 => c16 w1 (nth bl k).at_ 0 ((plsI l).2 - 1))) rfl ?_
          refine o_p (p_pure rfl) rfl ?_
          refine o_p (p_pure rfl) rfl ?_
          refine o_or 8 74 82 _ _ rfl
            (by
              intro hg18
              have hs19 := hg18; try simp only [decide_eq_true_eq, decide_eq_false_iff_not, Bool.not_eq_true', Bool.not_eq_false', Bool.and_eq_true, Bool.or_eq_true, Bool.and_eq_false_iff, Bool.or_eq_false_iff, Bool.not_true, Bool.not_false] at hs19
              refine o_on 74 _ rfl rfl hg18 ?_
              refine o_p (p_pure rfl) rfl ?_
              refine o_on 74 _ rfl rfl hg18 ?_
              refine o_p (p_pure rfl) rfl ?_
              refine o_on 74 _ rfl rfl hg18 ?_
              refine o_p (p_indexAddr rfl rfl rfl sl_41 (k) (by omega) (by omega) (Rw.some hbl (by omega))) rfl ?_
              refine o_on 74 _ rfl rfl hg18 ?_
              refine o_p (p_fieldAddr rfl rfl fd_46_1 sz_3 rfl) rfl ?_
              refine o_on 74 _ rfl rfl hg18 ?_
              refine o_q (q_load_old rfl rfl sz_3 ((hbl.rdj 1 hk rfl))) rfl ?_
              refine o_on 74 _ rfl rfl hg18 ?_
              refine o_q (q_call rfl fn_16 rfl (fun w1 h1 => c16 w1 (nth bl k).v 0 255)) rfl ?_
              refine o_on 74 _ rfl rfl hg18 ?_
              refine o_p (p_pure rfl) rfl ?_
              refine o_p (p_pickf rfl rfl hg18 rfl) rfl ?_
              refine o_nil ?_
              exact s_joinN 8 82 _ rfl rfl rfl (fun w h => by first | exact h | exact h.ent aEt))
            (by
              intro hg20
              have hs21 := hg20; try simp only [decide_eq_true_eq, decide_eq_false_iff_not, Bool.not_eq_true', Bool.not_eq_false', Bool.and_eq_true, Bool.or_eq_true, Bool.and_eq_false_iff, Bool.or_eq_false_iff, Bool.not_true, Bool.not_false] at hs21
              refine o_off 74 _ rfl rfl hg20 rfl ?_
              refine o_off 74 _ rfl rfl hg20 rfl ?_
              refine o_off 74 _ rfl rfl hg20 rfl ?_
              refine o_off 74 _ rfl rfl hg20 rfl ?_
              refine o_off 74 _ rfl rfl hg20 rfl ?_
              refine o_off 74 _ rfl rfl hg20 rfl ?_
              refine o_off 74 _ rfl rfl hg20 rfl ?_
              refine o_p (p_pickt rfl rfl hg20 rfl) rfl ?_
              refine o_nil ?_
              exact s_joinN 8 82 _ rfl rfl rfl (fun w h => by first | exact h | exact h.ent aEt)) ?_
          refine o_nil ?_
          refine s_cond rfl (fun h22 => ?_) (fun h22 => ?_)
          · try simp only [decide_eq_true_eq, decide_eq_false_iff_not, Bool.not_eq_true', Bool.not_eq_false', Bool.and_eq_true, Bool.or_eq_true, Bool.and_eq_false_iff, Bool.or_eq_false_iff, Bool.not_true, Bool.not_false] at h22
            refine s_seq ?_
            refine s_region ?_
            refine o_p (p_pure rfl) rfl ?_
            refine o_nil ?_
            exact s_retv (rs := [.tmp 6]) rfl (.tmp rfl (.nil)) (fun w' h' => ⟨by rfl, h'.below⟩)
          · try simp only [decide_eq_true_eq, decide_eq_false_iff_not, Bool.not_eq_true', Bool.not_eq_false', Bool.and_eq_true, Bool.or_eq_true, Bool.and_eq_false_iff, Bool.or_eq_false_iff, Bool.not_true, Bool.not_false] at h22
            obtain ⟨⟨hw1, hw2⟩, hw3, hw4⟩ : (0 ≤ (nth bl k).at_ ∧ (nth bl k).at_ ≤ (plsI l).2 - 1) ∧ 0 ≤ (nth bl k).v ∧ (nth bl k).v ≤ 255 := by have hq := h22; first | exact hq | (simp at hq; exact hq)
            refine s_skip ?_
            refine s_seq ?_
            refine s_region ?_
            refine o_p (p_pure rfl) rfl ?_
            refine o_p (p_pure rfl) rfl ?_
            refine o_p (p_indexAddr rfl rfl rfl sl_41 (k) (by omega) (by omega) (Rw.some hbl (by omega))) rfl ?_
            refine o_p (p_fieldAddr rfl rfl fd_46_0 sz_3 rfl) rfl ?_
            refine o_q (q_load_old rfl rfl sz_3 ((hbl.rdj 0 hk rfl))) rfl ?_
            refine o_p (p_pure rfl) rfl ?_
            refine o_nil ?_
            refine s_seq ?_
            refine s_seq ?_
            refine s_weaken (L' := [(1, _), (2, _), (3, _), (7, _), (9, _), (10, _), (11, _), (12, _), (13, _), (58, _)]) aSx (fun _ h => h) ?_
            refine s_region ?_
            refine o_p (p_pure rfl) rfl ?_
            refine o_nil ?_
            refine s_cutI (α := Nat) [13, 89, 90] (fun p => [(13, .int .i64 (p : Int))]) (fun p => HS w [] [.own (.slice gP.1 l.length gP.2) 3 1 l.length ((plsI l).1.map nv), .blk b1 24 2 [.int .i64 nx, .slice a l.length cap]]) (fun p => (p : Int) = offS sc + (nth bl k).at_) ?_ ?_
            · skip
              refine s_cond rfl (fun h23 => ?_) (fun h23 => ?_)
              · try simp only [decide_eq_true_eq, decide_eq_false_iff_not, Bool.not_eq_true', Bool.not_eq_false', Bool.and_eq_true, Bool.or_eq_true, Bool.and_eq_false_iff, Bool.or_eq_false_iff, Bool.not_true, Bool.not_false] at h23
                have hsc : sc = true := h23
                have hof2 : offS sc = 8192 := by rw [hsc]; rfl
                refine s_region ?_
                refine o_p (p_pure rfl) rfl ?_
                refine o_p (p_pure rfl) rfl ?_
                try (refine o_slot (i64w (by omega) (by omega)) ?_)
                refine o_p (p_pure rfl) rfl ?_
                refine o_nil ?_
                exact s_joinI ((nth bl k).at_.toNat + 8192) (by omega) (by rw [show (((nth bl k).at_.toNat + 8192 : Nat) : Int) = (nth bl k).at_ + 8192 from by omega]; exact aSx) (fun w h => h.ent aEt)
              · try simp only [decide_eq_true_eq, decide_eq_false_iff_not, Bool.not_eq_true', Bool.not_eq_false', Bool.and_eq_true, Bool.or_eq_true, Bool.and_eq_false_iff, Bool.or_eq_false_iff, Bool.not_true, Bool.not_false] at h23
                have hsc : sc = false := by have hq := h23; simpa using hq
                have hof2 : offS sc = 0 := by rw [hsc]; rfl
                refine s_skip ?_
                exact s_joinI ((nth bl k).at_.toNat) (by omega) (by rw [show (((nth bl k).at_.toNat : Nat) : Int) = (nth bl k).at_ from by omega]; exact aSx) (fun w h => h.ent aEt)
            · intro p hp
              refine s_region ?_
              refine o_p (p_pure rfl) rfl ?_
              refine o_p (p_pure rfl) rfl ?_
              refine o_p (p_pure rfl) rfl ?_
              refine o_p (p_pure rfl) rfl ?_
              refine o_p (p_indexAddr rfl rfl rfl sl_41 (k) (by omega) (by omega) (Rw.some hbl (by omega))) rfl ?_
              refine o_p (p_fieldAddr rfl rfl fd_46_1 sz_3 rfl) rfl ?_
              refine o_q (q_load_old rfl rfl sz_3 ((hbl.rdj 1 hk rfl))) rfl ?_
              refine o_q (q_call rfl fn_18 rfl (fun w1 h1 => c18 w1 (nth bl k).v 1 (by omega) (by omega))) rfl ?_
              refine o_q (q_call rfl fn_17 rfl (fun w1 h1 => c17 w1 B p (litB 1 (nth bl k).v) (by rw [litB_len]; omega) (by omega))) rfl ?_
              refine o_slot (show _ = Value.string (bs (pat1 B p (by8 (nth bl k).v))) from rfl) ?_
              refine o_p (p_pure rfl) rfl ?_
              refine o_nil ?_
              refine s_blk ?_
              refine s_region ?_
              refine o_p (p_pure rfl) rfl ?_
              refine o_p (p_pure rfl) rfl ?_
              try (refine o_slot (i64w (by omega) (by omega)) ?_)
              refine o_p (p_pure rfl) rfl ?_
              refine o_nil ?_
              exact s_backI (k + 1, pat1 B p (by8 (nth bl k).v)) (by (try simp only []); omega) ⟨by (try simp only []); omega, agr_pat hAg _ (by omega) (by omega) (by omega)⟩ aSx (fun w h => h.ent aEt)
        · try simp only [decide_eq_true_eq, decide_eq_false_iff_not, Bool.not_eq_true', Bool.not_eq_false', Bool.and_eq_true, Bool.or_eq_true, Bool.and_eq_false_iff, Bool.or_eq_false_iff, Bool.not_true, Bool.not_false] at h17
          obtain ⟨hil1, hil2⟩ := inS_len B
          have hBl := hAg.1
          refine s_exit_to rfl ?_
          refine s_seq ?_
          refine s_region ?_
          refine o_p (p_pure rfl) rfl ?_
          refine o_h (h_call rfl fn_9 rfl (fun w1 h1 => c9 w1 B (by omega))) rfl (fun gX _ => ?_)
          refine o_p (p_pure rfl) rfl ?_
          refine o_p (p_pure rfl) rfl ?_
          refine o_p (p_pure rfl) rfl ?_
          refine o_p (p_pure rfl) rfl ?_
          refine o_h (h_alloc rfl zr_24) rfl (fun b24 _ => ?_)
          refine o_h0 (h_store rfl rfl rfl sz_24 rfl aPt (by simp only [setMany_length, List.length_set, List.length_cons, List.length_nil, List.length_map]; omega) rfl) (fun _ _ => ?_)
          refine o_p (p_pure rfl) rfl ?_
          refine o_p (p_pure rfl) rfl ?_
          refine o_nil ?_
          refine s_seq ?_
          refine s_seq ?_
          refine s_region ?_
          refine o_p (p_pure rfl) rfl ?_
          refine o_p (p_pure rfl) rfl ?_
          refine o_nil ?_
          refine s_weaken (L' := [(1, _), (2, _), (3, _), (7, _), (9, _), (10, _), (11, _), (12, _), (14, _), (15, _), (16, _), (58, _), (107, _)]) aSx (fun _ h => h) ?_
          refine s_cutI (α := Unit) [6, 17, 18, 19, 108, 109, 110, 111, 112, 113, 114, 115, 116, 117, 118, 119, 120, 121, 122, 123, 124, 125, 126, 127, 128, 129, 130, 131, 132, 133, 134] (fun _ => []) (fun _ => HS w [] [.blk b24 24 2 [.int .i64 (inS B).nx, .slice gX.1.1 (inS B).l.length gX.1.2], .own (.slice gX.1.1 (inS B).l.length gX.1.2) 50 2 (inS B).l.length ((inS B).l.flatMap SItm.vals), .own (.slice gX.2.1 (inS B).dm.length gX.2.2) 3 1 (inS B).dm.length ((inS B).dm.map nv), .own (.slice gP.1 l.length gP.2) 3 1 l.length ((plsI l).1.map nv), .blk b1 24 2 [.int .i64 nx, .slice a l.length cap]]) (fun _ => (inS B).nx = nx ∧ (inS B).l = l ∧ (inS B).e = 0 ∧ (sc = true → (inS B).dm.length = 0)) ?_ ?_
          · skip
            refine s_cond rfl (fun h25 => ?_) (fun h25 => ?_)
            · try simp only [decide_eq_true_eq, decide_eq_false_iff_not, Bool.not_eq_true', Bool.not_eq_false', Bool.and_eq_true, Bool.or_eq_true, Bool.and_eq_false_iff, Bool.or_eq_false_iff, Bool.not_true, Bool.not_false] at h25
              have hsc : sc = false := by have hq := h25; simpa using hq
              refine s_seq ?_
              refine s_region ?_
              refine o_p (p_pure rfl) rfl ?_
              refine o_h (h_call rfl fn_10 rfl (fun w1 h1 => c10 w1 B (by omega))) rfl (fun gR _ => ?_)
              refine o_p (p_pure rfl) rfl ?_
              refine o_p (p_pure rfl) rfl ?_
              refine o_p (p_pure rfl) rfl ?_
              refine o_p (p_pure rfl) rfl ?_
              refine o_h (h_alloc rfl zr_24) rfl (fun b26 _ => ?_)
              refine o_h0 (h_store rfl rfl rfl sz_24 rfl aPt (by simp only [setMany_length, List.length_set, List.length_cons, List.length_nil, List.length_map]; omega) rfl) (fun _ _ => ?_)
              refine o_p (p_pure rfl) rfl ?_
              refine o_p (p_pure rfl) rfl ?_
              refine o_nil ?_
              refine s_seq ?_
              refine s_region ?_
              refine o_p (p_pure rfl) rfl ?_
              refine o_p (p_pure rfl) rfl ?_
              refine o_p (p_pure rfl) rfl ?_
              refine o_or 5 116 121 _ _ rfl
                (by
                  intro hg27
                  have hs28 := hg27; try simp only [decide_eq_true_eq, decide_eq_false_iff_not, Bool.not_eq_true', Bool.not_eq_false', Bool.and_eq_true, Bool.or_eq_true, Bool.and_eq_false_iff, Bool.or_eq_false_iff, Bool.not_true, Bool.not_false] at hs28
                  refine o_on 116 _ rfl rfl hg27 ?_
                  refine o_q (q_loadn rfl rfl sz_24 aPk rfl) rfl ?_
                  refine o_on 116 _ rfl rfl hg27 ?_
                  refine o_q (q_loadn rfl rfl sz_24 aPk rfl) rfl ?_
                  refine o_on 116 _ rfl rfl hg27 ?_
                  refine o_q (q_call rfl fn_11 rfl (fun w1 h1 => same_all w1 (inS B).nx nx gR.1.1 gR.1.2 a cap (inS B).l l (HS.rw_own (a := gR.1.1) (l := (inS B).l) sv2 h1 aPk rfl) (hs.later h1) (by omega) (by omega))) rfl ?_
                  refine o_on 116 _ rfl rfl hg27 ?_
                  refine o_p (p_pure rfl) rfl ?_
                  refine o_p (p_pickf rfl rfl hg27 rfl) rfl ?_
                  refine o_nil ?_
                  exact s_joinN 5 121 _ rfl rfl rfl (fun w h => by first | exact h | exact h.ent aEt))
                (by
                  intro hg29
                  have hs30 := hg29; try simp only [decide_eq_true_eq, decide_eq_false_iff_not, Bool.not_eq_true', Bool.not_eq_false', Bool.and_eq_true, Bool.or_eq_true, Bool.and_eq_false_iff, Bool.or_eq_false_iff, Bool.not_true, Bool.not_false] at hs30
                  refine o_off 116 _ rfl rfl hg29 rfl ?_
                  refine o_off 116 _ rfl rfl hg29 rfl ?_
                  refine o_off 116 _ rfl rfl hg29 rfl ?_
                  refine o_off 116 _ rfl rfl hg29 rfl ?_
                  refine o_p (p_pickt rfl rfl hg29 rfl) rfl ?_
                  refine o_nil ?_
                  exact s_joinN 5 121 _ rfl rfl rfl (fun w h => by first | exact h | exact h.ent aEt)) ?_
              refine o_nil ?_
              refine s_cond rfl (fun h31 => ?_) (fun h31 => ?_)
              · try simp only [decide_eq_true_eq, decide_eq_false_iff_not, Bool.not_eq_true', Bool.not_eq_false', Bool.and_eq_true, Bool.or_eq_true, Bool.and_eq_false_iff, Bool.or_eq_false_iff, Bool.not_true, Bool.not_false] at h31
                refine s_seq ?_
                refine s_region ?_
                refine o_p (p_pure rfl) rfl ?_
                refine o_p (p_pure rfl) rfl ?_
                refine o_p (p_pure rfl) rfl ?_
                refine o_p (p_pure rfl) rfl ?_
                refine o_and 4 125 129 _ _ rfl
                  (by
                    intro hg32
                    have hs33 := hg32; try simp only [decide_eq_true_eq, decide_eq_false_iff_not, Bool.not_eq_true', Bool.not_eq_false', Bool.and_eq_true, Bool.or_eq_true, Bool.and_eq_false_iff, Bool.or_eq_false_iff, Bool.not_true, Bool.not_false] at hs33
                    refine o_on 125 _ rfl rfl hg32 ?_
                    refine o_q (q_loadn rfl rfl sz_24 aPk rfl) rfl ?_
                    refine o_on 125 _ rfl rfl hg32 ?_
                    refine o_q (q_loadn rfl rfl sz_24 aPk rfl) rfl ?_
                    refine o_on 125 _ rfl rfl hg32 ?_
                    refine o_q (q_call rfl fn_11 rfl (fun w1 h1 => c11 w1 (inS B).nx gX.1.1 gX.1.2 gR.1.1 gR.1.2 (inS B).l (HS.rw_own (a := gX.1.1) (l := (inS B).l) sv2 h1 aPk rfl) (HS.rw_own (a := gR.1.1) (l := (inS B).l) sv2 h1 aPk rfl) (by omega))) rfl ?_
                    refine o_p (p_pickt rfl rfl hg32 rfl) rfl ?_
                    refine o_nil ?_
                    exact s_joinN 4 129 _ rfl rfl rfl (fun w h => by first | exact h | exact h.ent aEt))
                  (by
                    intro hg34
                    have hs35 := hg34; try simp only [decide_eq_true_eq, decide_eq_false_iff_not, Bool.not_eq_true', Bool.not_eq_false', Bool.and_eq_true, Bool.or_eq_true, Bool.and_eq_false_iff, Bool.or_eq_false_iff, Bool.not_true, Bool.not_false] at hs35
                    refine o_off 125 _ rfl rfl hg34 rfl ?_
                    refine o_off 125 _ rfl rfl hg34 rfl ?_
                    refine o_off 125 _ rfl rfl hg34 rfl ?_
                    refine o_p (p_pickf rfl rfl hg34 rfl) rfl ?_
                    refine o_nil ?_
                    exact s_joinN 4 129 _ rfl rfl rfl (fun w h => by first | exact h | exact h.ent aEt)) ?_
                refine o_p (p_pure rfl) rfl ?_
                refine o_and 4 130 134 _ _ rfl
                  (by
                    intro hg36
                    have hs37 := hg36; try simp only [decide_eq_true_eq, decide_eq_false_iff_not, Bool.not_eq_true', Bool.not_eq_false', Bool.and_eq_true, Bool.or_eq_true, Bool.and_eq_false_iff, Bool.or_eq_false_iff, Bool.not_true, Bool.not_false] at hs37
                    refine o_on 130 _ rfl rfl hg36 ?_
                    refine o_p (p_pure rfl) rfl ?_
                    refine o_on 130 _ rfl rfl hg36 ?_
                    refine o_p (p_pure rfl) rfl ?_
                    refine o_on 130 _ rfl rfl hg36 ?_
                    refine o_q (q_call rfl fn_12 rfl (fun w1 h1 => c12 w1 gX.2.1 gX.2.2 gR.2.1 gR.2.2 (inS B).dm (HS.vl_own (a := gX.2.1) (t := 3) (cs := (inS B).dm.map nv) h1 aPk) (HS.vl_own (a := gR.2.1) (t := 3) (cs := (inS B).dm.map nv) h1 aPk) (by omega))) rfl ?_
                    refine o_p (p_pickt rfl rfl hg36 rfl) rfl ?_
                    refine o_nil ?_
                    exact s_joinN 4 134 _ rfl rfl rfl (fun w h => by first | exact h | exact h.ent aEt))
                  (by
                    intro hg38
                    have hs39 := hg38; try simp only [decide_eq_true_eq, decide_eq_false_iff_not, Bool.not_eq_true', Bool.not_eq_false', Bool.and_eq_true, Bool.or_eq_true, Bool.and_eq_false_iff, Bool.or_eq_false_iff, Bool.not_true, Bool.not_false] at hs39
                    refine o_off 130 _ rfl rfl hg38 rfl ?_
                    refine o_off 130 _ rfl rfl hg38 rfl ?_
                    refine o_off 130 _ rfl rfl hg38 rfl ?_
                    refine o_p (p_pickf rfl rfl hg38 rfl) rfl ?_
                    refine o_nil ?_
                    exact s_joinN 4 134 _ rfl rfl rfl (fun w h => by first | exact h | exact h.ent aEt)) ?_
                refine o_p (p_pure rfl) rfl ?_
                refine o_nil ?_
                exact s_retv (rs := [.tmp 6]) rfl (.tmp rfl (.nil)) (fun w' h' => ⟨by simp [retV], h'.below⟩)
              · try simp only [decide_eq_true_eq, decide_eq_false_iff_not, Bool.not_eq_true', Bool.not_eq_false', Bool.and_eq_true, Bool.or_eq_true, Bool.and_eq_false_iff, Bool.or_eq_false_iff, Bool.not_true, Bool.not_false] at h31
                obtain ⟨hI3, hI1, hI2⟩ : (inS B).e = 0 ∧ (inS B).nx = nx ∧ (inS B).l = l := by have hq := h31; first | exact ⟨hq.1, hq.2.1, hq.2.2⟩ | (simp at hq; exact hq)
                refine s_skip ?_
                exact s_joinI () ⟨hI1, hI2, hI3, fun h9 => by rw [hsc] at h9; cases h9⟩ aSx (fun w h => h.ent aEt)
            · try simp only [decide_eq_true_eq, decide_eq_false_iff_not, Bool.not_eq_true', Bool.not_eq_false', Bool.and_eq_true, Bool.or_eq_true, Bool.and_eq_false_iff, Bool.or_eq_false_iff, Bool.not_true, Bool.not_false] at h25
              have hsc : sc = true := by have hq := h25; simpa using hq
              have hib := in_back2 h0 hb (by have h9 := hAg; rw [hsc] at h9; exact h9)
              refine s_skip ?_
              exact s_joinI () ⟨by rw [hib], by rw [hib], by rw [hib], fun _ => by rw [hib]; rfl⟩ aSx (fun w h => h.ent aEt)
          · intro _ hI
            obtain ⟨hI1, hI2, hI3, hI4⟩ := hI
            refine s_seq ?_
            refine s_seq ?_
            refine s_region ?_
            refine o_p (p_pure rfl) rfl ?_
            refine o_p (p_pure rfl) rfl ?_
            refine o_p (p_pure rfl) rfl ?_
            refine o_or 5 137 142 _ _ rfl
              (by
                intro hg40
                have hs41 := hg40; try simp only [decide_eq_true_eq, decide_eq_false_iff_not, Bool.not_eq_true', Bool.not_eq_false', Bool.and_eq_true, Bool.or_eq_true, Bool.and_eq_false_iff, Bool.or_eq_false_iff, Bool.not_true, Bool.not_false] at hs41
                refine o_on 137 _ rfl rfl hg40 ?_
                refine o_q (q_loadn rfl rfl sz_24 aPk rfl) rfl ?_
                refine o_on 137 _ rfl rfl hg40 ?_
                refine o_q (q_loadn rfl rfl sz_24 aPk rfl) rfl ?_
                refine o_on 137 _ rfl rfl hg40 ?_
                refine o_q (q_call rfl fn_11 rfl (fun w1 h1 => same_all w1 (inS B).nx nx gX.1.1 gX.1.2 a cap (inS B).l l (HS.rw_own (a := gX.1.1) (l := (inS B).l) sv2 h1 aPk rfl) (hs.later h1) (by omega) (by omega))) rfl ?_
                refine o_on 137 _ rfl rfl hg40 ?_
                refine o_p (p_pure rfl) rfl ?_
                refine o_p (p_pickf rfl rfl hg40 rfl) rfl ?_
                refine o_nil ?_
                exact s_joinN 5 142 _ rfl rfl rfl (fun w h => by first | exact h | exact h.ent aEt))
              (by
                intro hg42
                have hs43 := hg42; try simp only [decide_eq_true_eq, decide_eq_false_iff_not, Bool.not_eq_true', Bool.not_eq_false', Bool.and_eq_true, Bool.or_eq_true, Bool.and_eq_false_iff, Bool.or_eq_false_iff, Bool.not_true, Bool.not_false] at hs43
                refine o_off 137 _ rfl rfl hg42 rfl ?_
                refine o_off 137 _ rfl rfl hg42 rfl ?_
                refine o_off 137 _ rfl rfl hg42 rfl ?_
                refine o_off 137 _ rfl rfl hg42 rfl ?_
                refine o_p (p_pickt rfl rfl hg42 rfl) rfl ?_
                refine o_nil ?_
                exact s_joinN 5 142 _ rfl rfl rfl (fun w h => by first | exact h | exact h.ent aEt)) ?_
            refine o_p (p_pure rfl) rfl ?_
            refine o_or 7 143 150 _ _ rfl
              (by
                intro hg44
                have hs45 := hg44; try simp only [decide_eq_true_eq, decide_eq_false_iff_not, Bool.not_eq_true', Bool.not_eq_false', Bool.and_eq_true, Bool.or_eq_true, Bool.and_eq_false_iff, Bool.or_eq_false_iff, Bool.not_true, Bool.not_false] at hs45
                refine o_on 143 _ rfl rfl hg44 ?_
                refine o_p (p_pure rfl) rfl ?_
                refine o_on 143 _ rfl rfl hg44 ?_
                refine o_p (p_pure rfl) rfl ?_
                refine o_and 4 145 149 _ _ rfl
                  (by
                    intro hg46
                    have hs47 := hg46; try simp only [decide_eq_true_eq, decide_eq_false_iff_not, Bool.not_eq_true', Bool.not_eq_false', Bool.and_eq_true, Bool.or_eq_true, Bool.and_eq_false_iff, Bool.or_eq_false_iff, Bool.not_true, Bool.not_false] at hs47
                    refine o_on 145 _ rfl rfl hg46 ?_
                    refine o_p (p_pure rfl) rfl ?_
                    refine o_on 145 _ rfl rfl hg46 ?_
                    refine o_p (p_len_slice rfl rfl Tryz.underlying31) rfl ?_
                    refine o_on 145 _ rfl rfl hg46 ?_
                    refine o_p (p_pure rfl) rfl ?_
                    refine o_on 143 _ rfl rfl hg44 ?_
                    refine o_p (p_pickt rfl rfl hg46 rfl) rfl ?_
                    refine o_nil ?_
                    exact s_joinN 4 149 _ rfl rfl rfl (fun w h => by first | exact h | exact h.ent aEt))
                  (by
                    intro hg48
                    have hs49 := hg48; try simp only [decide_eq_true_eq, decide_eq_false_iff_not, Bool.not_eq_true', Bool.not_eq_false', Bool.and_eq_true, Bool.or_eq_true, Bool.and_eq_false_iff, Bool.or_eq_false_iff, Bool.not_true, Bool.not_false] at hs49
                    refine o_off 145 _ rfl rfl hg48 rfl ?_
                    refine o_off 145 _ rfl rfl hg48 rfl ?_
                    refine o_off 145 _ rfl rfl hg48 rfl ?_
                    refine o_on 143 _ rfl rfl hg44 ?_
                    refine o_p (p_pickf rfl rfl hg48 rfl) rfl ?_
                    refine o_nil ?_
                    exact s_joinN 4 149 _ rfl rfl rfl (fun w h => by first | exact h | exact h.ent aEt)) ?_
                refine o_p (p_pickf rfl rfl hg44 rfl) rfl ?_
                refine o_nil ?_
                exact s_joinN 4 150 _ rfl rfl rfl (fun w h => by first | exact h | exact h.ent aEt))
              (by
                intro hg50
                have hs51 := hg50; try simp only [decide_eq_true_eq, decide_eq_false_iff_not, Bool.not_eq_true', Bool.not_eq_false', Bool.and_eq_true, Bool.or_eq_true, Bool.and_eq_false_iff, Bool.or_eq_false_iff, Bool.not_true, Bool.not_false] at hs51
                refine o_off 143 _ rfl rfl hg50 rfl ?_
                refine o_off 143 _ rfl rfl hg50 rfl ?_
                refine o_off' 145 rfl rfl rfl ?_
                refine o_off' 145 rfl rfl rfl ?_
                refine o_off' 145 rfl rfl rfl ?_
                refine o_off 143 _ rfl rfl hg50 rfl ?_
                refine o_p (p_pickt rfl rfl hg50 rfl) rfl ?_
                refine o_nil ?_
                exact s_joinN 7 150 _ rfl rfl rfl (fun w h => by first | exact h | exact h.ent aEt)) ?_
            refine o_nil ?_
            refine s_cond rfl (fun h52 => ?_) (fun h52 => ?_)
            · try simp only [decide_eq_true_eq, decide_eq_false_iff_not, Bool.not_eq_true', Bool.not_eq_false', Bool.and_eq_true, Bool.or_eq_true, Bool.and_eq_false_iff, Bool.or_eq_false_iff, Bool.not_true, Bool.not_false] at h52
              exfalso; have hq := h52; simp [hI1, hI2, hI3] at hq; obtain ⟨hq1, hq2⟩ := hq; have hq3 := hI4 hq1; omega
            · try simp only [decide_eq_true_eq, decide_eq_false_iff_not, Bool.not_eq_true', Bool.not_eq_false', Bool.and_eq_true, Bool.or_eq_true, Bool.and_eq_false_iff, Bool.or_eq_false_iff, Bool.not_true, Bool.not_false] at h52
              have hiB : inS B = ⟨nx, l, (inS B).dm, 0⟩ := inR_ext hI1 hI2 hI3
              refine s_skip ?_
              refine s_seq ?_
              refine s_seq ?_
              refine s_region ?_
              refine o_p (p_pure rfl) rfl ?_
              refine o_nil ?_
              refine s_block ?_
              refine s_loopI (α := Nat) [6, 20, 21, 22, 151, 152, 153, 154, 155, 156, 157, 158, 159, 160, 161, 162, 163, 164, 165, 166, 167, 168, 169, 170, 171, 172, 173, 174, 175, 176, 177, 178, 179, 180, 181, 182, 183, 184, 185, 186, 187, 188, 189, 190, 191, 192, 193, 194, 195, 196, 197, 198, 199, 200, 201, 202, 203, 204] (fun i => [(20, .int .i64 (i : Int))]) (fun i => HS w [] [.blk b24 24 2 [.int .i64 (inS B).nx, .slice gX.1.1 (inS B).l.length gX.1.2], .own (.slice gX.1.1 (inS B).l.length gX.1.2) 50 2 (inS B).l.length ((inS B).l.flatMap SItm.vals), .own (.slice gX.2.1 (inS B).dm.length gX.2.2) 3 1 (inS B).dm.length ((inS B).dm.map nv), .own (.slice gP.1 l.length gP.2) 3 1 l.length ((plsI l).1.map nv), .blk b1 24 2 [.int .i64 nx, .slice a l.length cap]]) (fun i => i ≤ (inS B).dm.length) (fun i => (inS B).dm.length - i) 0 (Nat.zero_le _) aSx (fun w h => h.ent aEt) (fun i hi1 => ?_)
              refine s_seq ?_
              refine s_seq ?_
              refine s_region ?_
              refine o_p (p_pure rfl) rfl ?_
              refine o_p (p_pure rfl) rfl ?_
              refine o_p (p_len_slice rfl rfl Tryz.underlying31) rfl ?_
              refine o_p (p_pure rfl) rfl ?_
              refine o_nil ?_
              refine s_cond rfl (fun h53 => ?_) (fun h53 => ?_)
              · try simp only [decide_eq_true_eq, decide_eq_false_iff_not, Bool.not_eq_true', Bool.not_eq_false', Bool.and_eq_true, Bool.or_eq_true, Bool.and_eq_false_iff, Bool.or_eq_false_iff, Bool.not_true, Bool.not_false] at h53
                have hi : i < (inS B).dm.length := by omega
                have hdm := in_dam h0 hb hBl hiB (d := (inS B).dm.getD i 0) (getD_mem hi)
                have hdl : (inS B).dm.getD i 0 < l.length := by rcases hdm with ⟨h9, _⟩ | ⟨k9, h9, h10, _⟩ <;> omega
                refine s_fact (fun w h => Vl.some (HS.vl_own (a := gX.2.1) (t := 3) h aPk) (by rw [List.length_map]; omega)) fun hsmX => ?_
                refine s_skip ?_
                refine s_seq ?_
                refine s_block ?_
                refine s_seq ?_
                refine s_region ?_
                refine o_p (p_pure rfl) rfl ?_
                refine o_p (p_pure rfl) rfl ?_
                refine o_nil ?_
                refine s_seq ?_
                refine s_seq ?_
                refine s_region ?_
                refine o_p (p_pure rfl) rfl ?_
                refine o_p (p_pure rfl) rfl ?_
                refine o_p (p_indexAddr rfl rfl rfl sl_31 (i) (by omega) (by omega) hsmX) rfl ?_
                refine o_q (q_load_at rfl rfl sz_3 (fun w h => (HS.vl_own (a := gX.2.1) (t := 3) h aPk).rd (nv_get (k := i) (by omega)))) rfl ?_
                refine o_p (p_pure rfl) rfl ?_
                refine o_p (p_len_slice rfl rfl Tryz.underlying31) rfl ?_
                refine o_p (p_pure rfl) rfl ?_
                refine o_nil ?_
                refine s_cond rfl (fun h54 => ?_) (fun h54 => ?_)
                · try simp only [decide_eq_true_eq, decide_eq_false_iff_not, Bool.not_eq_true', Bool.not_eq_false', Bool.and_eq_true, Bool.or_eq_true, Bool.and_eq_false_iff, Bool.or_eq_false_iff, Bool.not_true, Bool.not_false] at h54
                  exfalso; have hq := h54; omega
                · try simp only [decide_eq_true_eq, decide_eq_false_iff_not, Bool.not_eq_true', Bool.not_eq_false', Bool.and_eq_true, Bool.or_eq_true, Bool.and_eq_false_iff, Bool.or_eq_false_iff, Bool.not_true, Bool.not_false] at h54
                  refine s_skip ?_
                  refine s_seq ?_
                  refine s_seq ?_
                  refine s_weaken (L' := [(1, _), (2, _), (3, _), (7, _), (9, _), (10, _), (11, _), (12, _), (14, _), (15, _), (16, _), (20, _), (21, _), (22, _), (58, _), (107, _), (135, _), (136, _), (137, _), (142, _), (143, _), (150, _)]) aSx (fun _ h => h) ?_
                  refine s_region ?_
                  refine o_p (p_pure rfl) rfl ?_
                  refine o_p (p_pure rfl) rfl ?_
                  refine o_p (p_indexAddr rfl rfl rfl sl_31 (i) (by omega) (by omega) hsmX) rfl ?_
                  refine o_q (q_load_at rfl rfl sz_3 (fun w h => (HS.vl_own (a := gX.2.1) (t := 3) h aPk).rd (nv_get (k := i) (by omega)))) rfl ?_
                  refine o_p (p_pure rfl) rfl ?_
                  refine o_nil ?_
                  refine s_cutI (α := Nat × Nat) [21, 22, 169, 170, 171, 172, 173, 174, 175, 176, 177, 178, 179, 180, 181, 182, 183, 184, 185, 186, 187, 188, 189] (fun z => [(21, .int .i64 (z.1 : Int)), (22, .int .i64 (z.2 : Int))]) (fun z => HS w [] [.blk b24 24 2 [.int .i64 (inS B).nx, .slice gX.1.1 (inS B).l.length gX.1.2], .own (.slice gX.1.1 (inS B).l.length gX.1.2) 50 2 (inS B).l.length ((inS B).l.flatMap SItm.vals), .own (.slice gX.2.1 (inS B).dm.length gX.2.2) 3 1 (inS B).dm.length ((inS B).dm.map nv), .own (.slice gP.1 l.length gP.2) 3 1 l.length ((plsI l).1.map nv), .blk b1 24 2 [.int .i64 nx, .slice a l.length cap]]) (fun z => z.1 ≤ z.2 ∧ z.1 ≤ B.length ∧ ¬ (B.take (min z.2 B.length)).drop z.1 = ((streamS nx l).take (min z.2 (streamS nx l).length)).drop z.1) ?_ ?_
                  · skip
                    refine s_cond rfl (fun h55 => ?_) (fun h55 => ?_)
                    · try simp only [decide_eq_true_eq, decide_eq_false_iff_not, Bool.not_eq_true', Bool.not_eq_false', Bool.and_eq_true, Bool.or_eq_true, Bool.and_eq_false_iff, Bool.or_eq_false_iff, Bool.not_true, Bool.not_false] at h55
                      have hd0 : 0 ≤ (inS B).dm.getD i 0 := by have hq := h55; omega
                      obtain ⟨kd, hkd0, hkd, hz⟩ : ∃ k : Nat, (inS B).dm.getD i 0 = (k : Int) ∧ k < l.length ∧ ∀ p e : Nat, (p : Int) = (plsI (l.take k)).2 → p + (16 + (nth l k).by_.length + 15) = e → ¬ (B.take (min e B.length)).drop p = ((streamS nx l).take (min e (streamS nx l).length)).drop p := by rcases hdm with ⟨h9, _⟩ | h9; omega; exact h9
                      have hpl5 := pls_len' l
                      refine s_fact (fun w h => Vl.some (HS.vl_own (a := gP.1) (t := 3) h aPk) (by rw [List.length_map]; omega)) fun hsmP => ?_
                      obtain ⟨pk, hpk⟩ : ∃ pk : Nat, (pk : Int) = (plsI (l.take kd)).2 := ⟨_, Int.toNat_of_nonneg (by have := pls_le hb kd (by omega); omega)⟩
                      have hpm := pls_mono hb l.length (Nat.le_refl _) kd (by omega)
                      rw [List.take_length] at hpm
                      have hbk : (nth l kd).by_.length ≤ 300 := hb300 _ (getD_mem (d := default) hkd)
                      have hzI : pk ≤ pk + (16 + (nth l kd).by_.length + 15) ∧ pk ≤ B.length ∧ ¬ (B.take (min (pk + (16 + (nth l kd).by_.length + 15)) B.length)).drop pk = ((streamS nx l).take (min (pk + (16 + (nth l kd).by_.length + 15)) (streamS nx l).length)).drop pk := ⟨by omega, by omega, hz pk _ hpk rfl⟩
                      refine s_seq ?_
                      refine s_region ?_
                      refine o_p (p_pure rfl) rfl ?_
                      refine o_p (p_pure rfl) rfl ?_
                      refine o_p (p_pure rfl) rfl ?_
                      refine o_p (p_indexAddr rfl rfl rfl sl_31 (i) (by omega) (by omega) hsmX) rfl ?_
                      refine o_q (q_load_at rfl rfl sz_3 (fun w h => (HS.vl_own (a := gX.2.1) (t := 3) h aPk).rd (nv_get (k := i) (by omega)))) rfl ?_
                      refine o_p (p_indexAddr rfl rfl rfl sl_31 (kd) (by omega) (by omega) hsmP) rfl ?_
                      refine o_q (q_load_at rfl rfl sz_3 (fun w h => (HS.vl_own (a := gP.1) (t := 3) h aPk).rd (nv_get (k := kd) (by omega)))) rfl ?_
                      refine o_slot (show _ = Value.int .i64 (pk : Int) from congrArg (Value.int .i64) (by rw [pls_get hkd, hpk])) ?_
                      refine o_p (p_pure rfl) rfl ?_
                      refine o_nil ?_
                      refine s_draw [] mixed ?_
                      refine d_p 0 rfl (p_pure rfl) (by kernel_rfl) rfl rfl ?_
                      refine d_p 1 rfl (p_pure rfl) (by kernel_rfl) rfl rfl ?_
                      try (refine d_slot (i64w (by omega) (by omega)) ?_)
                      refine d_p 2 rfl (p_fieldAddr rfl rfl fd_24_1 sz_22 rfl) (by kernel_rfl) rfl rfl ?_
                      refine d_q 3 [] rfl (q_load rfl rfl sz_22 aPk rfl) (by kernel_rfl) (by kernel_rfl) (by kernel_rfl) rfl ?_
                      refine d_p 4 rfl (p_pure rfl) (by kernel_rfl) rfl rfl ?_
                      refine d_p 5 rfl (p_pure rfl) (by kernel_rfl) rfl rfl ?_
                      refine d_p 6 rfl (p_indexAddr rfl rfl rfl sl_31 (i) (by omega) (by omega) hsmX) (by kernel_rfl) rfl rfl ?_
                      refine d_q 7 [] rfl (q_load_at rfl rfl sz_3 (fun w h => (HS.vl_own (a := gX.2.1) (t := 3) h aPk).rd (nv_get (k := i) (by omega)))) (by kernel_rfl) (by kernel_rfl) (by kernel_rfl) rfl ?_
                      refine d_p 8 rfl (p_indexAddr rfl rfl rfl sl_22 (kd) (by omega) (by omega) (Rw.some hs (by omega))) (by kernel_rfl) rfl rfl ?_
                      refine d_p 9 rfl (p_fieldAddr rfl rfl fd_50_1 sz_9 rfl) (by kernel_rfl) rfl rfl ?_
                      refine d_q 10 [] rfl (q_load_old rfl rfl sz_9 ((hs.rdj 1 hkd rfl))) (by kernel_rfl) (by kernel_rfl) (by kernel_rfl) rfl ?_
                      refine d_p 11 rfl (p_len_str rfl rfl Tryz.underlying9) (by kernel_rfl) rfl rfl ?_
                      refine d_p 12 rfl (p_pure rfl) (by kernel_rfl) rfl rfl ?_
                      try (refine d_slot (i64w (by omega) (by omega)) ?_)
                      refine d_p 13 rfl (p_pure rfl) (by kernel_rfl) rfl rfl ?_
                      try (refine d_slot (i64w (by omega) (by omega)) ?_)
                      refine d_p 14 rfl (p_pure rfl) (by kernel_rfl) rfl rfl ?_
                      refine d_nil (by kernel_rfl) (fun w h => by first | exact h | exact h.ent aEt) ?_
                      exact s_joinI (pk, pk + (16 + (nth l kd).by_.length + 15)) hzI (by dsimp only; rw [show ((pk + (16 + (nth l kd).by_.length + 15) : Nat) : Int) = (pk : Int) + 16 + ((nth l kd).by_.length : Int) + 15 from by omega]; exact aSx) (fun w h => h.ent aEt)
                    · try simp only [decide_eq_true_eq, decide_eq_false_iff_not, Bool.not_eq_true', Bool.not_eq_false', Bool.and_eq_true, Bool.or_eq_true, Bool.and_eq_false_iff, Bool.or_eq_false_iff, Bool.not_true, Bool.not_false] at h55
                      have hd0 : (inS B).dm.getD i 0 < 0 := by have hq := h55; omega
                      have hzH : 0 ≤ 16 ∧ 0 ≤ B.length ∧ ¬ (B.take (min 16 B.length)).drop 0 = ((streamS nx l).take (min 16 (streamS nx l).length)).drop 0 := by refine ⟨by omega, by omega, ?_⟩; rw [Nat.min_eq_left (by omega), Nat.min_eq_left (by omega), List.drop_zero, List.drop_zero]; rcases hdm with ⟨_, h9⟩ | ⟨k9, h9, _⟩; exact h9; omega
                      refine s_skip ?_
                      exact s_joinI (0, 16) hzH aSx (fun w h => h.ent aEt)
                  · intro z hz
                    obtain ⟨hz1, hz2, hz3⟩ := hz
                    refine s_seq ?_
                    refine s_draw [] mixed ?_
                    refine d_p 0 rfl (p_pure rfl) (by kernel_rfl) rfl rfl ?_
                    refine d_p 1 rfl (p_pure rfl) (by kernel_rfl) rfl rfl ?_
                    refine d_p 2 rfl (p_pure rfl) (by kernel_rfl) rfl rfl ?_
                    refine d_p 3 rfl (p_pure rfl) (by kernel_rfl) rfl rfl ?_
                    refine d_p 4 rfl (p_len_str rfl rfl Tryz.underlying9) (by kernel_rfl) rfl rfl ?_
                    refine d_p 5 rfl (p_min2 rfl rfl rfl ) (by kernel_rfl) rfl rfl ?_
                    refine d_p 6 rfl (p_slice_str _ _ z.1 (min z.2 B.length) rfl rfl Tryz.underlying9 ⟨_, _, rfl, rfl⟩ ⟨_, _, rfl, (by omega)⟩ (by omega) (by omega)) (by kernel_rfl) rfl rfl ?_
                    refine d_p 7 rfl (p_pure rfl) (by kernel_rfl) rfl rfl ?_
                    refine d_p 8 rfl (p_pure rfl) (by kernel_rfl) rfl rfl ?_
                    refine d_p 9 rfl (p_pure rfl) (by kernel_rfl) rfl rfl ?_
                    refine d_p 10 rfl (p_pure rfl) (by kernel_rfl) rfl rfl ?_
                    refine d_p 11 rfl (p_len_str rfl rfl Tryz.underlying9) (by kernel_rfl) rfl rfl ?_
                    refine d_p 12 rfl (p_min2 rfl rfl rfl ) (by kernel_rfl) rfl rfl ?_
                    refine d_p 13 rfl (p_slice_str _ _ z.1 (min z.2 (streamS nx l).length) rfl rfl Tryz.underlying9 ⟨_, _, rfl, rfl⟩ ⟨_, _, rfl, (by omega)⟩ (by omega) (by omega)) (by kernel_rfl) rfl rfl ?_
                    refine d_p 14 rfl (p_pure rfl) (by kernel_rfl) rfl rfl ?_
                    refine d_nil (by kernel_rfl) (fun w h => by first | exact h | exact h.ent aEt) ?_
                    refine s_cond rfl (fun h56 => ?_) (fun h56 => ?_)
                    · try simp only [decide_eq_true_eq, decide_eq_false_iff_not, Bool.not_eq_true', Bool.not_eq_false', Bool.and_eq_true, Bool.or_eq_true, Bool.and_eq_false_iff, Bool.or_eq_false_iff, Bool.not_true, Bool.not_false] at h56
                      exfalso; exact hz3 h56
                    · try simp only [decide_eq_true_eq, decide_eq_false_iff_not, Bool.not_eq_true', Bool.not_eq_false', Bool.and_eq_true, Bool.or_eq_true, Bool.and_eq_false_iff, Bool.or_eq_false_iff, Bool.not_true, Bool.not_false] at h56
                      refine s_skip ?_
                      refine s_blk ?_
                      refine s_weaken (L' := [(1, _), (2, _), (3, _), (7, _), (9, _), (10, _), (11, _), (12, _), (14, _), (15, _), (16, _), (20, _), (58, _), (107, _), (135, _), (136, _), (137, _), (142, _), (143, _), (150, _)]) aSx (fun _ h => h) ?_
                      refine s_region ?_
                      refine o_p (p_pure rfl) rfl ?_
                      refine o_p (p_pure rfl) rfl ?_
                      try (refine o_slot (i64w (by omega) (by omega)) ?_)
                      refine o_p (p_pure rfl) rfl ?_
                      refine o_nil ?_
                      exact s_backI (i + 1) (by omega) (by omega) aSx (fun w h => h.ent aEt)
              · try simp only [decide_eq_true_eq, decide_eq_false_iff_not, Bool.not_eq_true', Bool.not_eq_false', Bool.and_eq_true, Bool.or_eq_true, Bool.and_eq_false_iff, Bool.or_eq_false_iff, Bool.not_true, Bool.not_false] at h53
                refine s_exit_to rfl ?_
                refine s_seq ?_
                refine s_region ?_
                refine o_p (p_pure rfl) rfl ?_
                refine o_nil ?_
                exact s_retv (rs := [.tmp 6]) rfl (.tmp rfl (.nil)) (fun w' h' => ⟨by rfl, h'.below⟩)

end Go.Proofs

