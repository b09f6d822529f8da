/- Contracts of the program's functions, proved by walking them with the rules of the Gx texts; without conditions beyond those that each contract names. -/
import Derived.WalkKit
import Derived.Deep.Draws
import Derived.TacticsIn
import Derived.OrdersIn
import Derived.RangeFuncLeaves
import Derived.Lib.Strings
import Derived.Laws.BytesArg
import Derived.Laws.IdiomStrings
import Derived.Deep.Quiet
import Derived.Laws.StructEq
import Derived.ChangeKeysEq
import Derived.Laws.Externs
import Derived.Lib.Overlaps
import Derived.Carry
import Derived.Laws.Small
import Derived.Lib.Bytealg
import Derived.Test.YtbbbhjhafdnnaaaGreatProg
import Derived.KernelRfl
import Derived.RangeFuncRecord
import Derived.ProofKit
import Derived.OpenShut
import Derived.Lib.Builder
import Derived.Lib.UnsafeStr
import Derived.Laws.Pointers
import Derived.LaidEqlPtr
import Derived.Shelf.Strings.Builder1
import Derived.Shelf.Strings.Builder2
import Derived.Shelf.Strings.BuilderF
import Derived.Shelf.Strings.Prefix
import Derived.Shelf.Bits.Mul64
import Derived.Shelf.Strings.Repeat
import Derived.Test.YtbbbhjhafdnnaaaGreatP2
namespace Go.Proofs
open Go Go.RowKit Gx
set_option linter.unusedVariables false
set_option linter.unusedSimpArgs false
attribute [local irreducible] Go.Calls Gx.S Gx.O Gx.D Gx.OpP Gx.OpQ Gx.OpH

theorem fn_32 : isFn Tryz.prog 32 = true := by kernel_rfl
theorem eqk_77 : teqk Tryz.prog 77 = some [0, 1] := by kernel_rfl
theorem eqk_98 : teqk Tryz.prog 98 = some [0, 0, 0, 0] := by kernel_rfl
theorem fn_63 : isFn Tryz.prog 63 = true := by kernel_rfl


set_option maxRecDepth 20000 in
theorem c34 (w : World) (nx : Int) (a : Option Addr) (cap : Nat) (l : List SItm) (s : List UInt8) (hs : Rw SItm.vals 2 w [] a l) (hm : l.length ≤ 100000) (hb : ∀ x ∈ l, x.by_.length ≤ 100000) : Calls Tryz.prog 34 #[.agg #[.int .i64 nx, .slice a l.length cap], .string (bs s)] w fun en w' => en = .returned (.int .i64 (if byK l s < l.length then (nth l (byK l s)).id else 0)) ∧ Below w.heap.size w w' := by
  refine enter (args := [_, _]) Tryz.func34 Tryz.ntmps34 rfl rfl (HS.refl w []) ?_
  refine s_seq ?_
  refine s_region ?_
  refine o_h (h_box rfl rfl) rfl (fun b1 _ => ?_)
  refine o_p (p_pure rfl) rfl ?_
  refine o_nil ?_
  refine s_seq ?_
  refine s_seq ?_
  refine s_region ?_
  refine o_p (p_pure rfl) rfl ?_
  refine o_nil ?_
  refine s_block ?_
  refine s_loopI (α := Nat) [4, 5, 6, 7, 8, 9, 10, 11, 12, 13, 14, 15, 16, 17, 18, 19, 20, 21, 22, 23, 24, 25, 26] (fun k => [(5, .int .i64 (k : Int))]) (fun _ => HS w [] [.blk b1 24 2 [.int .i64 nx, .slice a l.length cap]]) (fun k => k ≤ l.length ∧ ∀ i, i < k → (nth l i).by_ ≠ s) (fun k => l.length - k) 0 ⟨Nat.zero_le _, fun i h => absurd h (Nat.not_lt_zero i)⟩ aSx (fun w h => h.ent aEt) (fun k hkk => ?_)
  obtain ⟨hk1, hk2⟩ := hkk
  refine s_seq ?_
  refine s_seq ?_
  refine s_region ?_
  refine o_p (p_pure rfl) rfl ?_
  refine o_p (p_fieldAddr rfl rfl fd_24_1 sz_22 rfl) rfl ?_
  refine o_q (q_load rfl rfl sz_22 aPk rfl) rfl ?_
  refine o_p (p_len_slice rfl rfl Tryz.underlying22) rfl ?_
  refine o_p (p_pure rfl) rfl ?_
  refine o_nil ?_
  refine s_cond rfl (fun h2 => ?_) (fun h2 => ?_)
  · try simp only [decide_eq_true_eq, decide_eq_false_iff_not, Bool.not_eq_true', Bool.not_eq_false', Bool.and_eq_true, Bool.or_eq_true, Bool.and_eq_false_iff, Bool.or_eq_false_iff, Bool.not_true, Bool.not_false] at h2
    have hk : k < l.length := by omega
    refine s_skip ?_
    refine s_seq ?_
    refine s_block ?_
    refine s_seq ?_
    refine s_region ?_
    refine o_p (p_fieldAddr rfl rfl fd_24_1 sz_22 rfl) rfl ?_
    refine o_q (q_load rfl rfl sz_22 aPk rfl) rfl ?_
    refine o_p (p_pure rfl) rfl ?_
    refine o_p (p_indexAddr rfl rfl rfl sl_22 (k) (by omega) (by omega) (Rw.some hs (by omega))) rfl ?_
    refine o_p (p_fieldAddr rfl rfl fd_77_1 sz_9 rfl) rfl ?_
    refine o_q (q_load_old rfl rfl sz_9 ((hs.rdj 1 hk rfl))) rfl ?_
    refine o_p (p_pure rfl) rfl ?_
    refine o_p (p_pure rfl) rfl ?_
    refine o_nil ?_
    refine s_cond rfl (fun h3 => ?_) (fun h3 => ?_)
    · try simp only [decide_eq_true_eq, decide_eq_false_iff_not, Bool.not_eq_true', Bool.not_eq_false', Bool.and_eq_true, Bool.or_eq_true, Bool.and_eq_false_iff, Bool.or_eq_false_iff, Bool.not_true, Bool.not_false] at h3
      have hq9 : (nth l k).by_ = s := h3
      have hK : byK l s = k := byK_eq (Nat.le_of_lt hk) hk2 (fun _ => hq9)
      refine s_seq ?_
      refine s_region ?_
      refine o_p (p_fieldAddr rfl rfl fd_24_1 sz_22 rfl) rfl ?_
      refine o_q (q_load rfl rfl sz_22 aPk rfl) rfl ?_
      refine o_p (p_pure rfl) rfl ?_
      refine o_p (p_indexAddr rfl rfl rfl sl_22 (k) (by omega) (by omega) (Rw.some hs (by omega))) rfl ?_
      refine o_p (p_fieldAddr rfl rfl fd_77_0 sz_3 rfl) rfl ?_
      refine o_q (q_load_old rfl rfl sz_3 ((hs.rdj 0 hk rfl))) rfl ?_
      refine o_p (p_pure rfl) rfl ?_
      refine o_nil ?_
      exact s_retv (rs := [.tmp 4]) rfl (.tmp rfl (.nil)) (fun w' h' => ⟨by rw [hK, if_pos hk]; rfl, h'.below⟩)
    · try simp only [decide_eq_true_eq, decide_eq_false_iff_not, Bool.not_eq_true', Bool.not_eq_false', Bool.and_eq_true, Bool.or_eq_true, Bool.and_eq_false_iff, Bool.or_eq_false_iff, Bool.not_true, Bool.not_false] at h3
      have hq9 : ¬ (nth l k).by_ = s := h3
      refine s_skip ?_
      refine s_blk ?_
      refine s_region ?_
      refine o_p (p_pure rfl) rfl ?_
      refine o_p (p_pure rfl) rfl ?_
      try (refine o_slot (i64w (by omega) (by omega)) ?_)
      refine o_p (p_pure rfl) rfl ?_
      refine o_nil ?_
      exact s_backI (k + 1) (by omega) ⟨by omega, fun i hi => (Nat.lt_or_ge i k).elim (hk2 i) (fun h => by obtain rfl : i = k := (by omega); exact hq9)⟩ aSx (fun w h => h.ent aEt)
  · try simp only [decide_eq_true_eq, decide_eq_false_iff_not, Bool.not_eq_true', Bool.not_eq_false', Bool.and_eq_true, Bool.or_eq_true, Bool.and_eq_false_iff, Bool.or_eq_false_iff, Bool.not_true, Bool.not_false] at h2
    obtain rfl : k = l.length := by omega
    have hK : byK l s = l.length := byK_eq (Nat.le_refl _) hk2 (fun h => absurd h (Nat.lt_irrefl _))
    refine s_exit_to rfl ?_
    refine s_seq ?_
    refine s_region ?_
    refine o_p (p_pure rfl) rfl ?_
    refine o_nil ?_
    exact s_retv (rs := [.tmp 4]) rfl (.tmp rfl (.nil)) (fun w' h' => ⟨by rw [hK, if_neg (Nat.lt_irrefl _)]; rfl, h'.below⟩)

set_option maxRecDepth 20000 in
theorem c32 (w : World) (nx : Int) (a : Option Addr) (cap : Nat) (l : List SItm) (n : Int) (hs : Rw SItm.vals 2 w [] a l) (hm : l.length ≤ 100000) (hb : ∀ x ∈ l, x.by_.length ≤ 100000) : Calls Tryz.prog 32 #[.agg #[.int .i64 nx, .slice a l.length cap], .int .i64 n] w fun en w' => en = .returned (.tuple #[.string (bs (if idK l n < l.length then (nth l (idK l n)).by_ else [])), .bool (decide (idK l n < l.length))]) ∧ Below w.heap.size w w' := by
  refine enter (args := [_, _]) Tryz.func32 Tryz.ntmps32 rfl rfl (HS.refl w []) ?_
  refine s_seq ?_
  refine s_region ?_
  refine o_h (h_box rfl rfl) rfl (fun b1 _ => ?_)
  refine o_p (p_pure rfl) rfl ?_
  refine o_p (p_pure rfl) rfl ?_
  refine o_nil ?_
  refine s_seq ?_
  refine s_seq ?_
  refine s_region ?_
  refine o_p (p_pure rfl) rfl ?_
  refine o_nil ?_
  refine s_block ?_
  refine s_loopI (α := Nat) [4, 5, 6, 7, 8, 9, 10, 11, 12, 13, 14, 15, 16, 17, 18, 19, 20, 21, 22, 23, 24, 25, 26, 27] (fun k => [(6, .int .i64 (k : Int))]) (fun _ => HS w [] [.blk b1 24 2 [.int .i64 nx, .slice a l.length cap]]) (fun k => k ≤ l.length ∧ ∀ i, i < k → (nth l i).id ≠ n) (fun k => l.length - k) 0 ⟨Nat.zero_le _, fun i h => absurd h (Nat.not_lt_zero i)⟩ aSx (fun w h => h.ent aEt) (fun k hkk => ?_)
  obtain ⟨hk1, hk2⟩ := hkk
  refine s_seq ?_
  refine s_seq ?_
  refine s_region ?_
  refine o_p (p_pure rfl) rfl ?_
  refine o_p (p_fieldAddr rfl rfl fd_24_1 sz_22 rfl) rfl ?_
  refine o_q (q_load rfl rfl sz_22 aPk rfl) rfl ?_
  refine o_p (p_len_slice rfl rfl Tryz.underlying22) rfl ?_
  refine o_p (p_pure rfl) rfl ?_
  refine o_nil ?_
  refine s_cond rfl (fun h2 => ?_) (fun h2 => ?_)
  · try simp only [decide_eq_true_eq, decide_eq_false_iff_not, Bool.not_eq_true', Bool.not_eq_false', Bool.and_eq_true, Bool.or_eq_true, Bool.and_eq_false_iff, Bool.or_eq_false_iff, Bool.not_true, Bool.not_false] at h2
    have hk : k < l.length := by omega
    refine s_skip ?_
    refine s_seq ?_
    refine s_block ?_
    refine s_seq ?_
    refine s_region ?_
    refine o_p (p_fieldAddr rfl rfl fd_24_1 sz_22 rfl) rfl ?_
    refine o_q (q_load rfl rfl sz_22 aPk rfl) rfl ?_
    refine o_p (p_pure rfl) rfl ?_
    refine o_p (p_indexAddr rfl rfl rfl sl_22 (k) (by omega) (by omega) (Rw.some hs (by omega))) rfl ?_
    refine o_p (p_fieldAddr rfl rfl fd_77_0 sz_3 rfl) rfl ?_
    refine o_q (q_load_old rfl rfl sz_3 ((hs.rdj 0 hk rfl))) rfl ?_
    refine o_p (p_pure rfl) rfl ?_
    refine o_p (p_pure rfl) rfl ?_
    refine o_nil ?_
    refine s_cond rfl (fun h3 => ?_) (fun h3 => ?_)
    · try simp only [decide_eq_true_eq, decide_eq_false_iff_not, Bool.not_eq_true', Bool.not_eq_false', Bool.and_eq_true, Bool.or_eq_true, Bool.and_eq_false_iff, Bool.or_eq_false_iff, Bool.not_true, Bool.not_false] at h3
      have hq9 : (nth l k).id = n := h3
      have hK : idK l n = k := idK_eq (Nat.le_of_lt hk) hk2 (fun _ => hq9)
      refine s_seq ?_
      refine s_region ?_
      refine o_p (p_fieldAddr rfl rfl fd_24_1 sz_22 rfl) rfl ?_
      refine o_q (q_load rfl rfl sz_22 aPk rfl) rfl ?_
      refine o_p (p_pure rfl) rfl ?_
      refine o_p (p_indexAddr rfl rfl rfl sl_22 (k) (by omega) (by omega) (Rw.some hs (by omega))) rfl ?_
      refine o_p (p_fieldAddr rfl rfl fd_77_1 sz_9 rfl) rfl ?_
      refine o_q (q_load_old rfl rfl sz_9 ((hs.rdj 1 hk rfl))) rfl ?_
      refine o_p (p_pure rfl) rfl ?_
      refine o_p (p_pure rfl) rfl ?_
      refine o_nil ?_
      exact s_retv (rs := [.tmp 4, .tmp 5]) rfl (.tmp rfl (.tmp rfl (.nil))) (fun w' h' => ⟨by rw [hK, if_pos hk, decide_eq_true hk]; rfl, h'.below⟩)
    · try simp only [decide_eq_true_eq, decide_eq_false_iff_not, Bool.not_eq_true', Bool.not_eq_false', Bool.and_eq_true, Bool.or_eq_true, Bool.and_eq_false_iff, Bool.or_eq_false_iff, Bool.not_true, Bool.not_false] at h3
      have hq9 : ¬ (nth l k).id = n := h3
      refine s_skip ?_
      refine s_blk ?_
      refine s_region ?_
      refine o_p (p_pure rfl) rfl ?_
      refine o_p (p_pure rfl) rfl ?_
      try (refine o_slot (i64w (by omega) (by omega)) ?_)
      refine o_p (p_pure rfl) rfl ?_
      refine o_nil ?_
      exact s_backI (k + 1) (by omega) ⟨by omega, fun i hi => (Nat.lt_or_ge i k).elim (hk2 i) (fun h => by obtain rfl : i = k := (by omega); exact hq9)⟩ aSx (fun w h => h.ent aEt)
  · try simp only [decide_eq_true_eq, decide_eq_false_iff_not, Bool.not_eq_true', Bool.not_eq_false', Bool.and_eq_true, Bool.or_eq_true, Bool.and_eq_false_iff, Bool.or_eq_false_iff, Bool.not_true, Bool.not_false] at h2
    obtain rfl : k = l.length := by omega
    have hK : idK l n = l.length := idK_eq (Nat.le_refl _) hk2 (fun h => absurd h (Nat.lt_irrefl _))
    refine s_exit_to rfl ?_
    refine s_seq ?_
    refine s_region ?_
    refine o_p (p_pure rfl) rfl ?_
    refine o_p (p_pure rfl) rfl ?_
    refine o_nil ?_
    exact s_retv (rs := [.tmp 4, .tmp 5]) rfl (.tmp rfl (.tmp rfl (.nil))) (fun w' h' => ⟨by rw [hK, if_neg (Nat.lt_irrefl _), decide_eq_false (Nat.lt_irrefl _)]; rfl, h'.below⟩)

set_option maxRecDepth 20000 in
theorem c9 (w : World) (nx : Int) (a : Option Addr) (cap : Nat) (l : List SItm) (hs : Rw SItm.vals 2 w [] a l) (hm : l.length ≤ 100000) (hb : ∀ x ∈ l, x.by_.length ≤ 100000) : Calls Tryz.prog 9 #[.agg #[.int .i64 nx, .slice a l.length cap]] w fun en w' => ∃ g : Option Addr × Nat, en = .returned (.agg #[.int .i64 nx, .slice g.1 l.length g.2]) ∧ True ∧ HS w [] [.own (.slice g.1 l.length g.2) 77 2 l.length (l.flatMap SItm.vals)] w' := by
  refine enter (args := [_]) Tryz.func9 Tryz.ntmps9 rfl rfl (HS.refl w []) ?_
  refine s_seq ?_
  refine s_region ?_
  refine o_h (h_box rfl rfl) rfl (fun b1 _ => ?_)
  refine o_h (h_alloc rfl zr_24) rfl (fun b2 _ => ?_)
  refine o_nil ?_
  refine s_seq ?_
  refine s_drawB [.blk b1 24 2 [.int .i64 nx, .slice a l.length cap]] [7] mixed ?_
  refine d_p 0 rfl (p_fieldAddr rfl rfl fd_24_0 sz_3 rfl) (by kernel_rfl) rfl rfl ?_
  refine d_q 1 [[]] rfl (q_load rfl rfl sz_3 aPk rfl) (by kernel_rfl) (by kernel_rfl) (by kernel_rfl) rfl ?_
  refine d_p 3 rfl (p_fieldAddr rfl rfl fd_24_1 sz_22 rfl) (by kernel_rfl) rfl rfl ?_
  refine d_q 4 [[]] rfl (q_load rfl rfl sz_22 aPk rfl) (by kernel_rfl) (by kernel_rfl) (by kernel_rfl) rfl ?_
  refine d_h 2 rfl (h_buildSlice0 rfl sl_22) (by kernel_rfl) (fun w h => h.ent aEt) rfl (fun b3 _ => ?_)
  refine d_h 5 rfl (h_appendS (l.flatMap SItm.vals) rfl rfl rfl sl_22 Tryz.underlying22 zr_77 rfl aPk (fun w h => Rw.src sv2 hs h) (flat_length sv2 l) (flat_one sv1 l) (by omega) (by simp only [maxLen]; omega)) (by kernel_rfl) (fun w h => h.ent aEt) rfl (fun b4 _ => ?_)
  refine d_p 6 rfl (p_build (cs := [_, _]) rfl rfl pl_24 zr_24 rfl) (by kernel_rfl) rfl rfl ?_
  refine d_h0 7 rfl (h_store rfl rfl rfl sz_24 rfl aPt (by simp only [setMany_length, List.length_set, List.length_cons, List.length_nil, List.length_map]; omega) rfl) (by kernel_rfl) (fun w h => h.ent aEt) (fun _ _ => ?_)
  refine d_turn [] (by kernel_rfl) ?_
  refine d_nil (by kernel_rfl) (fun w h => by first | exact h | exact h.ent aEt) ?_
  exact s_retv (rs := [.cell 2 24]) rfl (.cell rfl sz_24 aPk rfl (.nil)) (fun w' h' => ⟨b4, by simp only [retV, Nat.zero_add]; rfl, trivial, by have h2 := h'; simp only [Nat.zero_add, List.nil_append] at h2; exact h2.ent aEt⟩)

set_option maxRecDepth 20000 in
theorem c13 (w : World) (nx : Int) (a : Option Addr) (cap : Nat) (a2 : Option Addr) (cap2 : Nat) (l : List SItm) (hs : Rw SItm.vals 2 w [] a l) (hs2 : Rw SItm.vals 2 w [] a2 l) (hm : l.length ≤ 1000000) : Calls Tryz.prog 13 #[.agg #[.int .i64 nx, .slice a l.length cap], .agg #[.int .i64 nx, .slice a2 l.length cap2]] w fun en w' => en = .returned (.bool true) ∧ Below w.heap.size w w' := by
  refine enter (args := [_, _]) Tryz.func13 Tryz.ntmps13 rfl rfl (HS.refl w []) ?_
  refine s_seq ?_
  refine s_region ?_
  refine o_h (h_box rfl rfl) rfl (fun b1 _ => ?_)
  refine o_h (h_box rfl rfl) rfl (fun b2 _ => ?_)
  refine o_p (p_pure rfl) rfl ?_
  refine o_nil ?_
  refine s_seq ?_
  refine s_seq ?_
  refine s_region ?_
  refine o_p (p_fieldAddr rfl rfl fd_24_0 sz_3 rfl) rfl ?_
  refine o_q (q_load rfl rfl sz_3 aPk rfl) rfl ?_
  refine o_p (p_fieldAddr rfl rfl fd_24_0 sz_3 rfl) rfl ?_
  refine o_q (q_load rfl rfl sz_3 aPk rfl) rfl ?_
  refine o_p (p_pure rfl) rfl ?_
  refine o_p (p_pure rfl) rfl ?_
  refine o_or 8 11 19 _ _ rfl
    (by
      intro hg3
      have hs4 := hg3; try simp only [decide_eq_true_eq, decide_eq_false_iff_not, Bool.not_eq_true', Bool.not_eq_false', Bool.and_eq_true, Bool.or_eq_true, Bool.and_eq_false_iff, Bool.or_eq_false_iff, Bool.not_true, Bool.not_false] at hs4
      refine o_on 11 _ rfl rfl hg3 ?_
      refine o_p (p_fieldAddr rfl rfl fd_24_1 sz_22 rfl) rfl ?_
      refine o_on 11 _ rfl rfl hg3 ?_
      refine o_q (q_load rfl rfl sz_22 aPk rfl) rfl ?_
      refine o_on 11 _ rfl rfl hg3 ?_
      refine o_p (p_len_slice rfl rfl Tryz.underlying22) rfl ?_
      refine o_on 11 _ rfl rfl hg3 ?_
      refine o_p (p_fieldAddr rfl rfl fd_24_1 sz_22 rfl) rfl ?_
      refine o_on 11 _ rfl rfl hg3 ?_
      refine o_q (q_load rfl rfl sz_22 aPk rfl) rfl ?_
      refine o_on 11 _ rfl rfl hg3 ?_
      refine o_p (p_len_slice rfl rfl Tryz.underlying22) rfl ?_
      refine o_on 11 _ rfl rfl hg3 ?_
      refine o_p (p_pure rfl) rfl ?_
      refine o_p (p_pickf rfl rfl hg3 rfl) rfl ?_
      refine o_nil ?_
      exact s_joinN 8 19 _ rfl rfl rfl (fun w h => by first | exact h | exact h.ent aEt))
    (by
      intro hg5
      have hs6 := hg5; try simp only [decide_eq_true_eq, decide_eq_false_iff_not, Bool.not_eq_true', Bool.not_eq_false', Bool.and_eq_true, Bool.or_eq_true, Bool.and_eq_false_iff, Bool.or_eq_false_iff, Bool.not_true, Bool.not_false] at hs6
      refine o_off 11 _ rfl rfl hg5 rfl ?_
      refine o_off 11 _ rfl rfl hg5 rfl ?_
      refine o_off 11 _ rfl rfl hg5 rfl ?_
      refine o_off 11 _ rfl rfl hg5 rfl ?_
      refine o_off 11 _ rfl rfl hg5 rfl ?_
      refine o_off 11 _ rfl rfl hg5 rfl ?_
      refine o_off 11 _ rfl rfl hg5 rfl ?_
      refine o_p (p_pickt rfl rfl hg5 rfl) rfl ?_
      refine o_nil ?_
      exact s_joinN 8 19 _ rfl rfl rfl (fun w h => by first | exact h | exact h.ent aEt)) ?_
  refine o_nil ?_
  refine s_cond rfl (fun h7 => ?_) (fun h7 => ?_)
  · try simp only [decide_eq_true_eq, decide_eq_false_iff_not, Bool.not_eq_true', Bool.not_eq_false', Bool.and_eq_true, Bool.or_eq_true, Bool.and_eq_false_iff, Bool.or_eq_false_iff, Bool.not_true, Bool.not_false] at h7
    exfalso; first | omega | (simp at h7; done) | (have hq := h7; simp at hq; done) | (have hq := h7; omega)
  · try simp only [decide_eq_true_eq, decide_eq_false_iff_not, Bool.not_eq_true', Bool.not_eq_false', Bool.and_eq_true, Bool.or_eq_true, Bool.and_eq_false_iff, Bool.or_eq_false_iff, Bool.not_true, Bool.not_false] at h7
    refine s_skip ?_
    refine s_seq ?_
    refine s_seq ?_
    refine s_region ?_
    refine o_p (p_pure rfl) rfl ?_
    refine o_nil ?_
    refine s_block ?_
    refine s_loopI (α := Nat) [4, 5, 20, 21, 22, 23, 24, 25, 26, 27, 28, 29, 30, 31, 32, 33, 34, 35, 36, 37] (fun k => [(5, .int .i64 (k : Int))]) (fun _ => _) (fun k => k ≤ l.length) (fun k => l.length - k) 0 (Nat.zero_le _) aSx (fun w h => h) (fun k hk1 => ?_)
    refine s_seq ?_
    refine s_seq ?_
    refine s_region ?_
    refine o_p (p_pure rfl) rfl ?_
    refine o_p (p_fieldAddr rfl rfl fd_24_1 sz_22 rfl) rfl ?_
    refine o_q (q_load rfl rfl sz_22 aPk rfl) rfl ?_
    refine o_p (p_len_slice rfl rfl Tryz.underlying22) rfl ?_
    refine o_p (p_pure rfl) rfl ?_
    refine o_nil ?_
    refine s_cond rfl (fun h8 => ?_) (fun h8 => ?_)
    · try simp only [decide_eq_true_eq, decide_eq_false_iff_not, Bool.not_eq_true', Bool.not_eq_false', Bool.and_eq_true, Bool.or_eq_true, Bool.and_eq_false_iff, Bool.or_eq_false_iff, Bool.not_true, Bool.not_false] at h8
      have hk : k < l.length := by omega
      refine s_skip ?_
      refine s_seq ?_
      refine s_block ?_
      refine s_seq ?_
      refine s_draw [] mixed ?_
      refine d_p 0 rfl (p_fieldAddr rfl rfl fd_24_1 sz_22 rfl) (by kernel_rfl) rfl rfl ?_
      refine d_q 1 [] rfl (q_load rfl rfl sz_22 aPk rfl) (by kernel_rfl) (by kernel_rfl) (by kernel_rfl) rfl ?_
      refine d_p 2 rfl (p_pure rfl) (by kernel_rfl) rfl rfl ?_
      refine d_p 3 rfl (p_indexAddr rfl rfl rfl sl_22 (k) (by omega) (by omega) (Rw.some hs (by omega))) (by kernel_rfl) rfl rfl ?_
      refine d_q 4 [] rfl (q_load_oldn _ rfl rfl sz_77 rfl (Rw.rd hs hk)) (by kernel_rfl) (by kernel_rfl) (by kernel_rfl) rfl ?_
      refine d_p 5 rfl (p_fieldAddr rfl rfl fd_24_1 sz_22 rfl) (by kernel_rfl) rfl rfl ?_
      refine d_q 6 [] rfl (q_load rfl rfl sz_22 aPk rfl) (by kernel_rfl) (by kernel_rfl) (by kernel_rfl) rfl ?_
      refine d_p 7 rfl (p_pure rfl) (by kernel_rfl) rfl rfl ?_
      refine d_p 8 rfl (p_indexAddr rfl rfl rfl sl_22 (k) (by omega) (by omega) (Rw.some hs2 (by omega))) (by kernel_rfl) rfl rfl ?_
      refine d_q 9 [] rfl (q_load_oldn _ rfl rfl sz_77 rfl (Rw.rd hs2 hk)) (by kernel_rfl) (by kernel_rfl) (by kernel_rfl) rfl ?_
      refine d_p 10 rfl (p_neq_agg rfl rfl rfl eqk_77 (by rfl) (by rfl) (by rfl)) (by kernel_rfl) rfl rfl ?_
      refine d_nil (by kernel_rfl) (fun w h => by first | exact h | exact h.ent aEt) ?_
      refine s_cond rfl (fun h9 => ?_) (fun h9 => ?_)
      · try simp only [decide_eq_true_eq, decide_eq_false_iff_not, Bool.not_eq_true', Bool.not_eq_false', Bool.and_eq_true, Bool.or_eq_true, Bool.and_eq_false_iff, Bool.or_eq_false_iff, Bool.not_true, Bool.not_false] at h9
        exfalso; first | omega | (simp at h9; done) | (have hq := h9; simp at hq; done) | (have hq := h9; omega)
      · try simp only [decide_eq_true_eq, decide_eq_false_iff_not, Bool.not_eq_true', Bool.not_eq_false', Bool.and_eq_true, Bool.or_eq_true, Bool.and_eq_false_iff, Bool.or_eq_false_iff, Bool.not_true, Bool.not_false] at h9
        refine s_skip ?_
        refine s_blk ?_
        refine s_region ?_
        refine o_p (p_pure rfl) rfl ?_
        refine o_p (p_pure rfl) rfl ?_
        try (refine o_slot (i64w (by omega) (by omega)) ?_)
        refine o_p (p_pure rfl) rfl ?_
        refine o_nil ?_
        exact s_backI (k + 1) (by omega) (by omega) aSx (fun w h => h)
    · try simp only [decide_eq_true_eq, decide_eq_false_iff_not, Bool.not_eq_true', Bool.not_eq_false', Bool.and_eq_true, Bool.or_eq_true, Bool.and_eq_false_iff, Bool.or_eq_false_iff, Bool.not_true, Bool.not_false] at h8
      refine s_exit_to rfl ?_
      refine s_seq ?_
      refine s_region ?_
      refine o_p (p_pure rfl) rfl ?_
      refine o_nil ?_
      exact s_retv (rs := [.tmp 4]) rfl (.tmp rfl (.nil)) (fun w' h' => ⟨by rfl, h'.below⟩)

set_option maxRecDepth 20000 in
theorem c63 (w : World) (a : Option Addr) (cap : Nat) (a2 : Option Addr) (cap2 : Nat) (l : List Ace) (hs : Rw Ace.vals 4 w [] a l) (hs2 : Rw Ace.vals 4 w [] a2 l) (hm : l.length ≤ 1000000) : Calls Tryz.prog 63 #[.slice a l.length cap, .slice a2 l.length cap2] w fun en w' => en = .returned (.bool true) ∧ Below w.heap.size w w' := by
  refine enter (args := [_, _]) Tryz.func63 Tryz.ntmps63 rfl rfl (HS.refl w []) ?_
  refine s_seq ?_
  refine s_region ?_
  refine o_p (p_pure rfl) rfl ?_
  refine o_nil ?_
  refine s_seq ?_
  refine s_seq ?_
  refine s_region ?_
  refine o_p (p_pure rfl) rfl ?_
  refine o_p (p_len_slice rfl rfl Tryz.underlying40) rfl ?_
  refine o_p (p_pure rfl) rfl ?_
  refine o_p (p_len_slice rfl rfl Tryz.underlying40) rfl ?_
  refine o_p (p_pure rfl) rfl ?_
  refine o_nil ?_
  refine s_cond rfl (fun h1 => ?_) (fun h1 => ?_)
  · try simp only [decide_eq_true_eq, decide_eq_false_iff_not, Bool.not_eq_true', Bool.not_eq_false', Bool.and_eq_true, Bool.or_eq_true, Bool.and_eq_false_iff, Bool.or_eq_false_iff, Bool.not_true, Bool.not_false] at h1
    exfalso; first | omega | (simp at h1; done) | (have hq := h1; simp at hq; done) | (have hq := h1; omega)
  · try simp only [decide_eq_true_eq, decide_eq_false_iff_not, Bool.not_eq_true', Bool.not_eq_false', Bool.and_eq_true, Bool.or_eq_true, Bool.and_eq_false_iff, Bool.or_eq_false_iff, Bool.not_true, Bool.not_false] at h1
    refine s_skip ?_
    refine s_seq ?_
    refine s_seq ?_
    refine s_region ?_
    refine o_p (p_pure rfl) rfl ?_
    refine o_nil ?_
    refine s_block ?_
    refine s_loopI (α := Nat) [4, 5, 11, 12, 13, 14, 15, 16, 17, 18, 19, 20, 21, 22, 23, 24, 25] (fun k => [(5, .int .i64 (k : Int))]) (fun _ => _) (fun k => k ≤ l.length) (fun k => l.length - k) 0 (Nat.zero_le _) aSx (fun w h => h) (fun k hk1 => ?_)
    refine s_seq ?_
    refine s_seq ?_
    refine s_region ?_
    refine o_p (p_pure rfl) rfl ?_
    refine o_p (p_pure rfl) rfl ?_
    refine o_p (p_len_slice rfl rfl Tryz.underlying40) rfl ?_
    refine o_p (p_pure rfl) rfl ?_
    refine o_nil ?_
    refine s_cond rfl (fun h2 => ?_) (fun h2 => ?_)
    · try simp only [decide_eq_true_eq, decide_eq_false_iff_not, Bool.not_eq_true', Bool.not_eq_false', Bool.and_eq_true, Bool.or_eq_true, Bool.and_eq_false_iff, Bool.or_eq_false_iff, Bool.not_true, Bool.not_false] at h2
      have hk : k < l.length := by omega
      refine s_skip ?_
      refine s_seq ?_
      refine s_block ?_
      refine s_seq ?_
      refine s_draw [] mixed ?_
      refine d_p 0 rfl (p_pure rfl) (by kernel_rfl) rfl rfl ?_
      refine d_p 1 rfl (p_pure rfl) (by kernel_rfl) rfl rfl ?_
      refine d_p 2 rfl (p_indexAddr rfl rfl rfl sl_40 (k) (by omega) (by omega) (Rw.some hs (by omega))) (by kernel_rfl) rfl rfl ?_
      refine d_q 3 [] rfl (q_load_oldn _ rfl rfl sz_98 rfl (Rw.rd hs hk)) (by kernel_rfl) (by kernel_rfl) (by kernel_rfl) rfl ?_
      refine d_p 4 rfl (p_pure rfl) (by kernel_rfl) rfl rfl ?_
      refine d_p 5 rfl (p_pure rfl) (by kernel_rfl) rfl rfl ?_
      refine d_p 6 rfl (p_indexAddr rfl rfl rfl sl_40 (k) (by omega) (by omega) (Rw.some hs2 (by omega))) (by kernel_rfl) rfl rfl ?_
      refine d_q 7 [] rfl (q_load_oldn _ rfl rfl sz_98 rfl (Rw.rd hs2 hk)) (by kernel_rfl) (by kernel_rfl) (by kernel_rfl) rfl ?_
      refine d_p 8 rfl (p_neq_agg rfl rfl rfl eqk_98 (by rfl) (by rfl) (by rfl)) (by kernel_rfl) rfl rfl ?_
      refine d_nil (by kernel_rfl) (fun w h => by first | exact h | exact h.ent aEt) ?_
      refine s_cond rfl (fun h3 => ?_) (fun h3 => ?_)
      · try simp only [decide_eq_true_eq, decide_eq_false_iff_not, Bool.not_eq_true', Bool.not_eq_false', Bool.and_eq_true, Bool.or_eq_true, Bool.and_eq_false_iff, Bool.or_eq_false_iff, Bool.not_true, Bool.not_false] at h3
        exfalso; first | omega | (simp at h3; done) | (have hq := h3; simp at hq; done) | (have hq := h3; omega)
      · try simp only [decide_eq_true_eq, decide_eq_false_iff_not, Bool.not_eq_true', Bool.not_eq_false', Bool.and_eq_true, Bool.or_eq_true, Bool.and_eq_false_iff, Bool.or_eq_false_iff, Bool.not_true, Bool.not_false] at h3
        refine s_skip ?_
        refine s_blk ?_
        refine s_region ?_
        refine o_p (p_pure rfl) rfl ?_
        refine o_p (p_pure rfl) rfl ?_
        try (refine o_slot (i64w (by omega) (by omega)) ?_)
        refine o_p (p_pure rfl) rfl ?_
        refine o_nil ?_
        exact s_backI (k + 1) (by omega) (by omega) aSx (fun w h => h)
    · try simp only [decide_eq_true_eq, decide_eq_false_iff_not, Bool.not_eq_true', Bool.not_eq_false', Bool.and_eq_true, Bool.or_eq_true, Bool.and_eq_false_iff, Bool.or_eq_false_iff, Bool.not_true, Bool.not_false] at h2
      refine s_exit_to rfl ?_
      refine s_seq ?_
      refine s_region ?_
      refine o_p (p_pure rfl) rfl ?_
      refine o_nil ?_
      exact s_retv (rs := [.tmp 4]) rfl (.tmp rfl (.nil)) (fun w' h' => ⟨by rfl, h'.below⟩)

set_option maxRecDepth 20000 in
theorem c15 (w : World) (a : Option Addr) (cap : Nat) (a2 : Option Addr) (cap2 : Nat) (l : List Int) (hs : Vl w a (l.map nv)) (hs2 : Vl w a2 (l.map nv)) (hm : l.length ≤ 1000000) : Calls Tryz.prog 15 #[.slice a l.length cap, .slice a2 l.length cap2] w fun en w' => en = .returned (.bool true) ∧ Below w.heap.size w w' := by
  refine enter (args := [_, _]) Tryz.func15 Tryz.ntmps15 rfl rfl (HS.refl w []) ?_
  refine s_seq ?_
  refine s_region ?_
  refine o_p (p_pure rfl) rfl ?_
  refine o_nil ?_
  refine s_seq ?_
  refine s_seq ?_
  refine s_region ?_
  refine o_p (p_pure rfl) rfl ?_
  refine o_p (p_len_slice rfl rfl Tryz.underlying25) rfl ?_
  refine o_p (p_pure rfl) rfl ?_
  refine o_p (p_len_slice rfl rfl Tryz.underlying25) rfl ?_
  refine o_p (p_pure rfl) rfl ?_
  refine o_nil ?_
  refine s_cond rfl (fun h1 => ?_) (fun h1 => ?_)
  · try simp only [decide_eq_true_eq, decide_eq_false_iff_not, Bool.not_eq_true', Bool.not_eq_false', Bool.and_eq_true, Bool.or_eq_true, Bool.and_eq_false_iff, Bool.or_eq_false_iff, Bool.not_true, Bool.not_false] at h1
    exfalso; first | omega | (simp at h1; done) | (have hq := h1; simp at hq; done) | (have hq := h1; omega)
  · try simp only [decide_eq_true_eq, decide_eq_false_iff_not, Bool.not_eq_true', Bool.not_eq_false', Bool.and_eq_true, Bool.or_eq_true, Bool.and_eq_false_iff, Bool.or_eq_false_iff, Bool.not_true, Bool.not_false] at h1
    refine s_skip ?_
    refine s_seq ?_
    refine s_seq ?_
    refine s_region ?_
    refine o_p (p_pure rfl) rfl ?_
    refine o_nil ?_
    refine s_block ?_
    refine s_loopI (α := Nat) [4, 5, 11, 12, 13, 14, 15, 16, 17, 18, 19, 20, 21, 22, 23, 24, 25] (fun k => [(5, .int .i64 (k : Int))]) (fun _ => _) (fun k => k ≤ l.length) (fun k => l.length - k) 0 (Nat.zero_le _) aSx (fun w h => h) (fun k hk1 => ?_)
    refine s_seq ?_
    refine s_seq ?_
    refine s_region ?_
    refine o_p (p_pure rfl) rfl ?_
    refine o_p (p_pure rfl) rfl ?_
    refine o_p (p_len_slice rfl rfl Tryz.underlying25) rfl ?_
    refine o_p (p_pure rfl) rfl ?_
    refine o_nil ?_
    refine s_cond rfl (fun h2 => ?_) (fun h2 => ?_)
    · try simp only [decide_eq_true_eq, decide_eq_false_iff_not, Bool.not_eq_true', Bool.not_eq_false', Bool.and_eq_true, Bool.or_eq_true, Bool.and_eq_false_iff, Bool.or_eq_false_iff, Bool.not_true, Bool.not_false] at h2
      have hk : k < l.length := by omega
      refine s_skip ?_
      refine s_seq ?_
      refine s_block ?_
      refine s_seq ?_
      refine s_draw [] mixed ?_
      refine d_p 0 rfl (p_pure rfl) (by kernel_rfl) rfl rfl ?_
      refine d_p 1 rfl (p_pure rfl) (by kernel_rfl) rfl rfl ?_
      refine d_p 2 rfl (p_indexAddr rfl rfl rfl sl_25 (k) (by omega) (by omega) (hs.some (by rw [List.length_map]; omega))) (by kernel_rfl) rfl rfl ?_
      refine d_q 3 [] rfl (q_load_old rfl rfl sz_3 ((hs.rd (nv_get hk)))) (by kernel_rfl) (by kernel_rfl) (by kernel_rfl) rfl ?_
      refine d_p 4 rfl (p_pure rfl) (by kernel_rfl) rfl rfl ?_
      refine d_p 5 rfl (p_pure rfl) (by kernel_rfl) rfl rfl ?_
      refine d_p 6 rfl (p_indexAddr rfl rfl rfl sl_25 (k) (by omega) (by omega) (hs2.some (by rw [List.length_map]; omega))) (by kernel_rfl) rfl rfl ?_
      refine d_q 7 [] rfl (q_load_old rfl rfl sz_3 ((hs2.rd (nv_get hk)))) (by kernel_rfl) (by kernel_rfl) (by kernel_rfl) rfl ?_
      refine d_p 8 rfl (p_pure rfl) (by kernel_rfl) rfl rfl ?_
      refine d_nil (by kernel_rfl) (fun w h => by first | exact h | exact h.ent aEt) ?_
      refine s_cond rfl (fun h3 => ?_) (fun h3 => ?_)
      · try simp only [decide_eq_true_eq, decide_eq_false_iff_not, Bool.not_eq_true', Bool.not_eq_false', Bool.and_eq_true, Bool.or_eq_true, Bool.and_eq_false_iff, Bool.or_eq_false_iff, Bool.not_true, Bool.not_false] at h3
        exfalso; first | omega | (simp at h3; done) | (have hq := h3; simp at hq; done) | (have hq := h3; omega)
      · try simp only [decide_eq_true_eq, decide_eq_false_iff_not, Bool.not_eq_true', Bool.not_eq_false', Bool.and_eq_true, Bool.or_eq_true, Bool.and_eq_false_iff, Bool.or_eq_false_iff, Bool.not_true, Bool.not_false] at h3
        refine s_skip ?_
        refine s_blk ?_
        refine s_region ?_
        refine o_p (p_pure rfl) rfl ?_
        refine o_p (p_pure rfl) rfl ?_
        try (refine o_slot (i64w (by omega) (by omega)) ?_)
        refine o_p (p_pure rfl) rfl ?_
        refine o_nil ?_
        exact s_backI (k + 1) (by omega) (by omega) aSx (fun w h => h)
    · try simp only [decide_eq_true_eq, decide_eq_false_iff_not, Bool.not_eq_true', Bool.not_eq_false', Bool.and_eq_true, Bool.or_eq_true, Bool.and_eq_false_iff, Bool.or_eq_false_iff, Bool.not_true, Bool.not_false] at h2
      refine s_exit_to rfl ?_
      refine s_seq ?_
      refine s_region ?_
      refine o_p (p_pure rfl) rfl ?_
      refine o_nil ?_
      exact s_retv (rs := [.tmp 4]) rfl (.tmp rfl (.nil)) (fun w' h' => ⟨by rfl, h'.below⟩)

set_option maxRecDepth 20000 in
theorem c31 (w : World) (d : Dsc) (e1 : Option Addr) (ec1 : Nat) (u1 : Option Addr) (uc1 : Nat) (e2 : Option Addr) (ec2 : Nat) (u2 : Option Addr) (uc2 : Nat) (he1 : Rw Ace.vals 4 w [] e1 d.en) (hu1 : Rw Ace.vals 4 w [] u1 d.au) (he2 : Rw Ace.vals 4 w [] e2 d.en) (hu2 : Rw Ace.vals 4 w [] u2 d.au) (hme : d.en.length ≤ 1000000) (hma : d.au.length ≤ 1000000) : Calls Tryz.prog 31 #[.agg #[.int .i64 d.ow, .int .i64 d.gr, .bool d.pr, .bool d.he, .slice e1 d.en.length ec1, .slice u1 d.au.length uc1], .agg #[.int .i64 d.ow, .int .i64 d.gr, .bool d.pr, .bool d.he, .slice e2 d.en.length ec2, .slice u2 d.au.length uc2]] w fun en w' => en = .returned (.bool true) ∧ Below w.heap.size w w' := by
  refine enter (args := [_, _]) Tryz.func31 Tryz.ntmps31 rfl rfl (HS.refl w []) ?_
  refine s_seq ?_
  refine s_region ?_
  refine o_h (h_box rfl rfl) rfl (fun b1 _ => ?_)
  refine o_h (h_box rfl rfl) rfl (fun b2 _ => ?_)
  refine o_p (p_pure rfl) rfl ?_
  refine o_nil ?_
  refine s_seq ?_
  refine s_region ?_
  refine o_p (p_fieldAddr rfl rfl fd_42_0 sz_3 rfl) rfl ?_
  refine o_q (q_load rfl rfl sz_3 aPk rfl) rfl ?_
  refine o_p (p_fieldAddr rfl rfl fd_42_0 sz_3 rfl) rfl ?_
  refine o_q (q_load rfl rfl sz_3 aPk rfl) rfl ?_
  refine o_p (p_pure rfl) rfl ?_
  refine o_p (p_pure rfl) rfl ?_
  refine o_and 6 10 16 _ _ rfl
    (by
      intro hg3
      have hs4 := hg3; try simp only [decide_eq_true_eq, decide_eq_false_iff_not, Bool.not_eq_true', Bool.not_eq_false', Bool.and_eq_true, Bool.or_eq_true, Bool.and_eq_false_iff, Bool.or_eq_false_iff, Bool.not_true, Bool.not_false] at hs4
      refine o_on 10 _ rfl rfl hg3 ?_
      refine o_p (p_fieldAddr rfl rfl fd_42_1 sz_3 rfl) rfl ?_
      refine o_on 10 _ rfl rfl hg3 ?_
      refine o_q (q_load rfl rfl sz_3 aPk rfl) rfl ?_
      refine o_on 10 _ rfl rfl hg3 ?_
      refine o_p (p_fieldAddr rfl rfl fd_42_1 sz_3 rfl) rfl ?_
      refine o_on 10 _ rfl rfl hg3 ?_
      refine o_q (q_load rfl rfl sz_3 aPk rfl) rfl ?_
      refine o_on 10 _ rfl rfl hg3 ?_
      refine o_p (p_pure rfl) rfl ?_
      refine o_p (p_pickt rfl rfl hg3 rfl) rfl ?_
      refine o_nil ?_
      exact s_joinN 6 16 _ rfl rfl rfl (fun w h => by first | exact h | exact h.ent aEt))
    (by
      intro hg5
      have hs6 := hg5; try simp only [decide_eq_true_eq, decide_eq_false_iff_not, Bool.not_eq_true', Bool.not_eq_false', Bool.and_eq_true, Bool.or_eq_true, Bool.and_eq_false_iff, Bool.or_eq_false_iff, Bool.not_true, Bool.not_false] at hs6
      refine o_off 10 _ rfl rfl hg5 rfl ?_
      refine o_off 10 _ rfl rfl hg5 rfl ?_
      refine o_off 10 _ rfl rfl hg5 rfl ?_
      refine o_off 10 _ rfl rfl hg5 rfl ?_
      refine o_off 10 _ rfl rfl hg5 rfl ?_
      refine o_p (p_pickf rfl rfl hg5 rfl) rfl ?_
      refine o_nil ?_
      exact s_joinN 6 16 _ rfl rfl rfl (fun w h => by first | exact h | exact h.ent aEt)) ?_
  refine o_p (p_pure rfl) rfl ?_
  refine o_and 6 17 23 _ _ rfl
    (by
      intro hg7
      have hs8 := hg7; try simp only [decide_eq_true_eq, decide_eq_false_iff_not, Bool.not_eq_true', Bool.not_eq_false', Bool.and_eq_true, Bool.or_eq_true, Bool.and_eq_false_iff, Bool.or_eq_false_iff, Bool.not_true, Bool.not_false] at hs8
      refine o_on 17 _ rfl rfl hg7 ?_
      refine o_p (p_fieldAddr rfl rfl fd_42_2 sz_4 rfl) rfl ?_
      refine o_on 17 _ rfl rfl hg7 ?_
      refine o_q (q_load rfl rfl sz_4 aPk rfl) rfl ?_
      refine o_on 17 _ rfl rfl hg7 ?_
      refine o_p (p_fieldAddr rfl rfl fd_42_2 sz_4 rfl) rfl ?_
      refine o_on 17 _ rfl rfl hg7 ?_
      refine o_q (q_load rfl rfl sz_4 aPk rfl) rfl ?_
      refine o_on 17 _ rfl rfl hg7 ?_
      refine o_p (p_eql_bool rfl rfl rfl Tryz.underlying4) rfl ?_
      refine o_p (p_pickt rfl rfl hg7 rfl) rfl ?_
      refine o_nil ?_
      exact s_joinN 6 23 _ rfl rfl rfl (fun w h => by first | exact h | exact h.ent aEt))
    (by
      intro hg9
      have hs10 := hg9; try simp only [decide_eq_true_eq, decide_eq_false_iff_not, Bool.not_eq_true', Bool.not_eq_false', Bool.and_eq_true, Bool.or_eq_true, Bool.and_eq_false_iff, Bool.or_eq_false_iff, Bool.not_true, Bool.not_false] at hs10
      refine o_off 17 _ rfl rfl hg9 rfl ?_
      refine o_off 17 _ rfl rfl hg9 rfl ?_
      refine o_off 17 _ rfl rfl hg9 rfl ?_
      refine o_off 17 _ rfl rfl hg9 rfl ?_
      refine o_off 17 _ rfl rfl hg9 rfl ?_
      refine o_p (p_pickf rfl rfl hg9 rfl) rfl ?_
      refine o_nil ?_
      exact s_joinN 6 23 _ rfl rfl rfl (fun w h => by first | exact h | exact h.ent aEt)) ?_
  refine o_p (p_pure rfl) rfl ?_
  refine o_and 6 24 30 _ _ rfl
    (by
      intro hg11
      have hs12 := hg11; try simp only [decide_eq_true_eq, decide_eq_false_iff_not, Bool.not_eq_true', Bool.not_eq_false', Bool.and_eq_true, Bool.or_eq_true, Bool.and_eq_false_iff, Bool.or_eq_false_iff, Bool.not_true, Bool.not_false] at hs12
      refine o_on 24 _ rfl rfl hg11 ?_
      refine o_p (p_fieldAddr rfl rfl fd_42_3 sz_4 rfl) rfl ?_
      refine o_on 24 _ rfl rfl hg11 ?_
      refine o_q (q_load rfl rfl sz_4 aPk rfl) rfl ?_
      refine o_on 24 _ rfl rfl hg11 ?_
      refine o_p (p_fieldAddr rfl rfl fd_42_3 sz_4 rfl) rfl ?_
      refine o_on 24 _ rfl rfl hg11 ?_
      refine o_q (q_load rfl rfl sz_4 aPk rfl) rfl ?_
      refine o_on 24 _ rfl rfl hg11 ?_
      refine o_p (p_eql_bool rfl rfl rfl Tryz.underlying4) rfl ?_
      refine o_p (p_pickt rfl rfl hg11 rfl) rfl ?_
      refine o_nil ?_
      exact s_joinN 6 30 _ rfl rfl rfl (fun w h => by first | exact h | exact h.ent aEt))
    (by
      intro hg13
      have hs14 := hg13; try simp only [decide_eq_true_eq, decide_eq_false_iff_not, Bool.not_eq_true', Bool.not_eq_false', Bool.and_eq_true, Bool.or_eq_true, Bool.and_eq_false_iff, Bool.or_eq_false_iff, Bool.not_true, Bool.not_false] at hs14
      refine o_off 24 _ rfl rfl hg13 rfl ?_
      refine o_off 24 _ rfl rfl hg13 rfl ?_
      refine o_off 24 _ rfl rfl hg13 rfl ?_
      refine o_off 24 _ rfl rfl hg13 rfl ?_
      refine o_off 24 _ rfl rfl hg13 rfl ?_
      refine o_p (p_pickf rfl rfl hg13 rfl) rfl ?_
      refine o_nil ?_
      exact s_joinN 6 30 _ rfl rfl rfl (fun w h => by first | exact h | exact h.ent aEt)) ?_
  refine o_p (p_pure rfl) rfl ?_
  refine o_and 6 31 37 _ _ rfl
    (by
      intro hg15
      have hs16 := hg15; try simp only [decide_eq_true_eq, decide_eq_false_iff_not, Bool.not_eq_true', Bool.not_eq_false', Bool.and_eq_true, Bool.or_eq_true, Bool.and_eq_false_iff, Bool.or_eq_false_iff, Bool.not_true, Bool.not_false] at hs16
      refine o_on 31 _ rfl rfl hg15 ?_
      refine o_p (p_fieldAddr rfl rfl fd_42_4 sz_40 rfl) rfl ?_
      refine o_on 31 _ rfl rfl hg15 ?_
      refine o_q (q_load rfl rfl sz_40 aPk rfl) rfl ?_
      refine o_on 31 _ rfl rfl hg15 ?_
      refine o_p (p_fieldAddr rfl rfl fd_42_4 sz_40 rfl) rfl ?_
      refine o_on 31 _ rfl rfl hg15 ?_
      refine o_q (q_load rfl rfl sz_40 aPk rfl) rfl ?_
      refine o_on 31 _ rfl rfl hg15 ?_
      refine o_q (q_call rfl fn_63 rfl (fun w1 h1 => c63 w1 e1 ec1 e2 ec2 d.en (he1.later h1) (he2.later h1) hme)) rfl ?_
      refine o_p (p_pickt rfl rfl hg15 rfl) rfl ?_
      refine o_nil ?_
      exact s_joinN 6 37 _ rfl rfl rfl (fun w h => by first | exact h | exact h.ent aEt))
    (by
      intro hg17
      have hs18 := hg17; try simp only [decide_eq_true_eq, decide_eq_false_iff_not, Bool.not_eq_true', Bool.not_eq_false', Bool.and_eq_true, Bool.or_eq_true, Bool.and_eq_false_iff, Bool.or_eq_false_iff, Bool.not_true, Bool.not_false] at hs18
      refine o_off 31 _ rfl rfl hg17 rfl ?_
      refine o_off 31 _ rfl rfl hg17 rfl ?_
      refine o_off 31 _ rfl rfl hg17 rfl ?_
      refine o_off 31 _ rfl rfl hg17 rfl ?_
      refine o_off 31 _ rfl rfl hg17 rfl ?_
      refine o_p (p_pickf rfl rfl hg17 rfl) rfl ?_
      refine o_nil ?_
      exact s_joinN 6 37 _ rfl rfl rfl (fun w h => by first | exact h | exact h.ent aEt)) ?_
  refine o_p (p_pure rfl) rfl ?_
  refine o_and 6 38 44 _ _ rfl
    (by
      intro hg19
      have hs20 := hg19; try simp only [decide_eq_true_eq, decide_eq_false_iff_not, Bool.not_eq_true', Bool.not_eq_false', Bool.and_eq_true, Bool.or_eq_true, Bool.and_eq_false_iff, Bool.or_eq_false_iff, Bool.not_true, Bool.not_false] at hs20
      refine o_on 38 _ rfl rfl hg19 ?_
      refine o_p (p_fieldAddr rfl rfl fd_42_5 sz_40 rfl) rfl ?_
      refine o_on 38 _ rfl rfl hg19 ?_
      refine o_q (q_load rfl rfl sz_40 aPk rfl) rfl ?_
      refine o_on 38 _ rfl rfl hg19 ?_
      refine o_p (p_fieldAddr rfl rfl fd_42_5 sz_40 rfl) rfl ?_
      refine o_on 38 _ rfl rfl hg19 ?_
      refine o_q (q_load rfl rfl sz_40 aPk rfl) rfl ?_
      refine o_on 38 _ rfl rfl hg19 ?_
      refine o_q (q_call rfl fn_63 rfl (fun w1 h1 => c63 w1 u1 uc1 u2 uc2 d.au (hu1.later h1) (hu2.later h1) hma)) rfl ?_
      refine o_p (p_pickt rfl rfl hg19 rfl) rfl ?_
      refine o_nil ?_
      exact s_joinN 6 44 _ rfl rfl rfl (fun w h => by first | exact h | exact h.ent aEt))
    (by
      intro hg21
      have hs22 := hg21; try simp only [decide_eq_true_eq, decide_eq_false_iff_not, Bool.not_eq_true', Bool.not_eq_false', Bool.and_eq_true, Bool.or_eq_true, Bool.and_eq_false_iff, Bool.or_eq_false_iff, Bool.not_true, Bool.not_false] at hs22
      refine o_off 38 _ rfl rfl hg21 rfl ?_
      refine o_off 38 _ rfl rfl hg21 rfl ?_
      refine o_off 38 _ rfl rfl hg21 rfl ?_
      refine o_off 38 _ rfl rfl hg21 rfl ?_
      refine o_off 38 _ rfl rfl hg21 rfl ?_
      refine o_p (p_pickf rfl rfl hg21 rfl) rfl ?_
      refine o_nil ?_
      exact s_joinN 6 44 _ rfl rfl rfl (fun w h => by first | exact h | exact h.ent aEt)) ?_
  refine o_p (p_pure rfl) rfl ?_
  refine o_nil ?_
  exact s_retv (rs := [.tmp 4]) rfl (.tmp rfl (.nil)) (fun w' h' => ⟨by simp [retV], h'.below⟩)

set_option maxRecDepth 20000 in
theorem c18 (w : World) (d : Dsc) (ea : Option Addr) (eac : Nat) (aa : Option Addr) (aac : Nat) (hse : Rw Ace.vals 4 w [] ea d.en) (hsa : Rw Ace.vals 4 w [] aa d.au) (hme : d.en.length ≤ 100000) (hma : d.au.length ≤ 100000) : Calls Tryz.prog 18 #[.agg #[.int .i64 d.ow, .int .i64 d.gr, .bool d.pr, .bool d.he, .slice ea d.en.length eac, .slice aa d.au.length aac]] w fun en w' => ∃ g : (Option Addr × Nat) × (Option Addr × Nat), en = .returned (.agg #[.int .i64 d.ow, .int .i64 d.gr, .bool d.pr, .bool d.he, .slice g.1.1 d.en.length g.1.2, .slice g.2.1 d.au.length g.2.2]) ∧ True ∧ HS w [] [.own (.slice g.1.1 d.en.length g.1.2) 98 4 d.en.length (d.en.flatMap Ace.vals), .own (.slice g.2.1 d.au.length g.2.2) 98 4 d.au.length (d.au.flatMap Ace.vals)] w' := by
  refine enter (args := [_]) Tryz.func18 Tryz.ntmps18 rfl rfl (HS.refl w []) ?_
  refine s_seq ?_
  refine s_region ?_
  refine o_h (h_box rfl rfl) rfl (fun b1 _ => ?_)
  refine o_class (C' := HS w [] [.blk b1 42 6 [.int .i64 d.ow, .int .i64 d.gr, .bool d.pr, .bool d.he, .slice ea d.en.length eac, .slice aa d.au.length aac]]) (fun w h => h) ?_
  refine o_h (h_alloc rfl zr_42) rfl (fun b2 _ => ?_)
  refine o_nil ?_
  refine s_seq ?_
  refine s_draw [7, 9] mixed ?_
  refine d_p 0 rfl (p_fieldAddr rfl rfl fd_42_4 sz_40 rfl) (by kernel_rfl) rfl rfl ?_
  refine d_q 1 [[], []] rfl (q_load rfl rfl sz_40 aPk rfl) (by kernel_rfl) (by kernel_rfl) (by kernel_rfl) rfl ?_
  refine d_p 3 rfl (p_fieldAddr rfl rfl fd_42_5 sz_40 rfl) (by kernel_rfl) rfl rfl ?_
  refine d_q 4 [[], []] rfl (q_load rfl rfl sz_40 aPk rfl) (by kernel_rfl) (by kernel_rfl) (by kernel_rfl) rfl ?_
  refine d_h 2 rfl (h_call rfl fn_49 rfl (fun w1 h1 => c49 w1 ea eac d.en (hse.later h1) (by omega))) (by kernel_rfl) (fun w h => h.ent aEt) rfl (fun ge _ => ?_)
  refine d_base (fun w h => h.ent aEt) ?_
  refine d_p 6 rfl (p_fieldAddr rfl rfl fd_42_4 sz_40 rfl) (by kernel_rfl) rfl rfl ?_
  refine d_h 5 rfl (h_call rfl fn_49 rfl (fun w1 h1 => c49 w1 aa aac d.au (hsa.later h1) (by omega))) (by kernel_rfl) (fun w h => h.ent aEt) rfl (fun gu _ => ?_)
  refine d_base (fun w h => h.ent aEt) ?_
  refine d_h0 7 rfl (h_store rfl rfl rfl sz_40 rfl aPt (by simp only [setMany_length, List.length_set, List.length_cons, List.length_nil, List.length_map]; omega) rfl) (by kernel_rfl) (fun w h => h.ent aEt) (fun _ _ => ?_)
  refine d_turn [9] (by kernel_rfl) ?_
  refine d_p 8 rfl (p_fieldAddr rfl rfl fd_42_5 sz_40 rfl) (by kernel_rfl) rfl rfl ?_
  refine d_h0 9 rfl (h_store rfl rfl rfl sz_40 rfl aPt (by simp only [setMany_length, List.length_set, List.length_cons, List.length_nil, List.length_map]; omega) rfl) (by kernel_rfl) (fun w h => h.ent aEt) (fun _ _ => ?_)
  refine d_turn [] (by kernel_rfl) ?_
  refine d_nil (by kernel_rfl) (fun w h => by first | exact h | exact h.ent aEt) ?_
  refine s_seq ?_
  refine s_region ?_
  refine o_q (q_loadn rfl rfl sz_42 aPk rfl) rfl ?_
  refine o_h0 (h_store rfl rfl rfl sz_42 rfl aPt (by simp only [setMany_length, List.length_set, List.length_cons, List.length_nil, List.length_map]; omega) rfl) (fun _ _ => ?_)
  refine o_nil ?_
  exact s_retv (rs := [.cell 2 42]) rfl (.cell rfl sz_42 aPk rfl (.nil)) (fun w' h' => ⟨(ge, gu), rfl, trivial, h'.ent aEt⟩)

set_option maxRecDepth 20000 in
theorem c7 (w : World) (nx : Int) (a : Option Addr) (cap : Nat) (l : List SItm) (hs : Rw SItm.vals 2 w [] a l) (hm : l.length ≤ 9223372036854775807) (hb : ∀ x ∈ l, x.by_.length ≤ 9223372036854775807) : Calls Tryz.prog 7 #[.agg #[.int .i64 nx, .slice a l.length cap]] w fun en w' => en = .returned (.bool (fewS l)) ∧ Below w.heap.size w w' := by
  refine enter (args := [_]) Tryz.func7 Tryz.ntmps7 rfl rfl (HS.refl w []) ?_
  refine s_seq ?_
  refine s_region ?_
  refine o_h (h_box rfl rfl) rfl (fun b1 _ => ?_)
  refine o_p (p_pure rfl) rfl ?_
  refine o_nil ?_
  refine s_seq ?_
  refine s_seq ?_
  refine s_region ?_
  refine o_p (p_fieldAddr rfl rfl fd_24_1 sz_22 rfl) rfl ?_
  refine o_q (q_load rfl rfl sz_22 aPk rfl) rfl ?_
  refine o_p (p_len_slice rfl rfl Tryz.underlying22) rfl ?_
  refine o_p (p_pure rfl) rfl ?_
  refine o_p (p_pure rfl) rfl ?_
  refine o_and 5 8 13 _ _ rfl
    (by
      intro hg2
      have hs3 := hg2; try simp only [decide_eq_true_eq, decide_eq_false_iff_not, Bool.not_eq_true', Bool.not_eq_false', Bool.and_eq_true, Bool.or_eq_true, Bool.and_eq_false_iff, Bool.or_eq_false_iff, Bool.not_true, Bool.not_false] at hs3
      refine o_on 8 _ rfl rfl hg2 ?_
      refine o_p (p_fieldAddr rfl rfl fd_24_1 sz_22 rfl) rfl ?_
      refine o_on 8 _ rfl rfl hg2 ?_
      refine o_q (q_load rfl rfl sz_22 aPk rfl) rfl ?_
      refine o_on 8 _ rfl rfl hg2 ?_
      refine o_p (p_len_slice rfl rfl Tryz.underlying22) rfl ?_
      refine o_on 8 _ rfl rfl hg2 ?_
      refine o_p (p_pure rfl) rfl ?_
      refine o_p (p_pickt rfl rfl hg2 rfl) rfl ?_
      refine o_nil ?_
      exact s_joinN 5 13 _ rfl rfl rfl (fun w h => by first | exact h | exact h.ent aEt))
    (by
      intro hg4
      have hs5 := hg4; try simp only [decide_eq_true_eq, decide_eq_false_iff_not, Bool.not_eq_true', Bool.not_eq_false', Bool.and_eq_true, Bool.or_eq_true, Bool.and_eq_false_iff, Bool.or_eq_false_iff, Bool.not_true, Bool.not_false] at hs5
      refine o_off 8 _ rfl rfl hg4 rfl ?_
      refine o_off 8 _ rfl rfl hg4 rfl ?_
      refine o_off 8 _ rfl rfl hg4 rfl ?_
      refine o_off 8 _ rfl rfl hg4 rfl ?_
      refine o_p (p_pickf rfl rfl hg4 rfl) rfl ?_
      refine o_nil ?_
      exact s_joinN 5 13 _ rfl rfl rfl (fun w h => by first | exact h | exact h.ent aEt)) ?_
  refine o_p (p_pure rfl) rfl ?_
  refine o_or 5 14 19 _ _ rfl
    (by
      intro hg6
      have hs7 := hg6; try simp only [decide_eq_true_eq, decide_eq_false_iff_not, Bool.not_eq_true', Bool.not_eq_false', Bool.and_eq_true, Bool.or_eq_true, Bool.and_eq_false_iff, Bool.or_eq_false_iff, Bool.not_true, Bool.not_false] at hs7
      refine o_on 14 _ rfl rfl hg6 ?_
      refine o_p (p_fieldAddr rfl rfl fd_24_1 sz_22 rfl) rfl ?_
      refine o_on 14 _ rfl rfl hg6 ?_
      refine o_q (q_load rfl rfl sz_22 aPk rfl) rfl ?_
      refine o_on 14 _ rfl rfl hg6 ?_
      refine o_p (p_len_slice rfl rfl Tryz.underlying22) rfl ?_
      refine o_on 14 _ rfl rfl hg6 ?_
      refine o_p (p_pure rfl) rfl ?_
      refine o_p (p_pickf rfl rfl hg6 rfl) rfl ?_
      refine o_nil ?_
      exact s_joinN 5 19 _ rfl rfl rfl (fun w h => by first | exact h | exact h.ent aEt))
    (by
      intro hg8
      have hs9 := hg8; try simp only [decide_eq_true_eq, decide_eq_false_iff_not, Bool.not_eq_true', Bool.not_eq_false', Bool.and_eq_true, Bool.or_eq_true, Bool.and_eq_false_iff, Bool.or_eq_false_iff, Bool.not_true, Bool.not_false] at hs9
      refine o_off 14 _ rfl rfl hg8 rfl ?_
      refine o_off 14 _ rfl rfl hg8 rfl ?_
      refine o_off 14 _ rfl rfl hg8 rfl ?_
      refine o_off 14 _ rfl rfl hg8 rfl ?_
      refine o_p (p_pickt rfl rfl hg8 rfl) rfl ?_
      refine o_nil ?_
      exact s_joinN 5 19 _ rfl rfl rfl (fun w h => by first | exact h | exact h.ent aEt)) ?_
  refine o_nil ?_
  refine s_cond rfl (fun h10 => ?_) (fun h10 => ?_)
  · try simp only [decide_eq_true_eq, decide_eq_false_iff_not, Bool.not_eq_true', Bool.not_eq_false', Bool.and_eq_true, Bool.or_eq_true, Bool.and_eq_false_iff, Bool.or_eq_false_iff, Bool.not_true, Bool.not_false] at h10
    have h0 : cntS l.length = false := by have hq := h10; unfold cntS; simp only [Bool.not_eq_false', Bool.or_eq_true, Bool.and_eq_true, decide_eq_true_eq]; omega
    have hf : fewS l = false := by unfold fewS; rw [h0]; rfl
    refine s_seq ?_
    refine s_region ?_
    refine o_p (p_pure rfl) rfl ?_
    refine o_nil ?_
    exact s_retv (rs := [.tmp 2]) rfl (.tmp rfl (.nil)) (fun w' h' => ⟨by rw [hf]; rfl, h'.below⟩)
  · try simp only [decide_eq_true_eq, decide_eq_false_iff_not, Bool.not_eq_true', Bool.not_eq_false', Bool.and_eq_true, Bool.or_eq_true, Bool.and_eq_false_iff, Bool.or_eq_false_iff, Bool.not_true, Bool.not_false] at h10
    have h0 : cntS l.length = true := by have hq := h10; unfold cntS; simp only [Bool.not_eq_true', Bool.or_eq_false_iff, Bool.and_eq_false_iff, decide_eq_false_iff_not]; omega
    refine s_skip ?_
    refine s_seq ?_
    refine s_seq ?_
    refine s_region ?_
    refine o_p (p_pure rfl) rfl ?_
    refine o_nil ?_
    refine s_block ?_
    refine s_loopI (α := Nat) [2, 3, 20, 21, 22, 23, 24, 25, 26, 27, 28, 29, 30, 31, 32, 33, 34] (fun k => [(3, .int .i64 (k : Int))]) (fun _ => _) (fun k => k ≤ l.length ∧ (l.take k).all (fun x => decide (x.by_.length ≤ 300)) = true) (fun k => l.length - k) 0 ⟨Nat.zero_le _, rfl⟩ aSx (fun w h => h) (fun k hkk => ?_)
    obtain ⟨hk1, hk2⟩ := hkk
    refine s_seq ?_
    refine s_seq ?_
    refine s_region ?_
    refine o_p (p_pure rfl) rfl ?_
    refine o_p (p_fieldAddr rfl rfl fd_24_1 sz_22 rfl) rfl ?_
    refine o_q (q_load rfl rfl sz_22 aPk rfl) rfl ?_
    refine o_p (p_len_slice rfl rfl Tryz.underlying22) rfl ?_
    refine o_p (p_pure rfl) rfl ?_
    refine o_nil ?_
    refine s_cond rfl (fun h11 => ?_) (fun h11 => ?_)
    · try simp only [decide_eq_true_eq, decide_eq_false_iff_not, Bool.not_eq_true', Bool.not_eq_false', Bool.and_eq_true, Bool.or_eq_true, Bool.and_eq_false_iff, Bool.or_eq_false_iff, Bool.not_true, Bool.not_false] at h11
      have hk : k < l.length := by omega
      have hst := allS_succ (p := fun x => decide (x.by_.length ≤ 300)) hk
      have hgm : (nth l k).by_.length ≤ 9223372036854775807 := hb _ (getD_mem hk)
      refine s_skip ?_
      refine s_seq ?_
      refine s_block ?_
      refine s_seq ?_
      refine s_region ?_
      refine o_p (p_fieldAddr rfl rfl fd_24_1 sz_22 rfl) rfl ?_
      refine o_q (q_load rfl rfl sz_22 aPk rfl) rfl ?_
      refine o_p (p_pure rfl) rfl ?_
      refine o_p (p_indexAddr rfl rfl rfl sl_22 (k) (by omega) (by omega) (Rw.some hs (by omega))) rfl ?_
      refine o_p (p_fieldAddr rfl rfl fd_77_1 sz_9 rfl) rfl ?_
      refine o_q (q_load_old rfl rfl sz_9 ((hs.rdj 1 hk rfl))) rfl ?_
      refine o_p (p_len_str rfl rfl Tryz.underlying9) rfl ?_
      refine o_p (p_pure rfl) rfl ?_
      refine o_nil ?_
      refine s_cond rfl (fun h12 => ?_) (fun h12 => ?_)
      · try simp only [decide_eq_true_eq, decide_eq_false_iff_not, Bool.not_eq_true', Bool.not_eq_false', Bool.and_eq_true, Bool.or_eq_true, Bool.and_eq_false_iff, Bool.or_eq_false_iff, Bool.not_true, Bool.not_false] at h12
        have hbd : ¬ (nth l k).by_.length ≤ 300 := by have hq := h12; omega
        have hf : fewS l = false := by unfold fewS; rw [allS_no (p := fun x => decide (x.by_.length ≤ 300)) hk (decide_eq_false hbd), Bool.and_false]
        refine s_seq ?_
        refine s_region ?_
        refine o_p (p_pure rfl) rfl ?_
        refine o_nil ?_
        exact s_retv (rs := [.tmp 2]) rfl (.tmp rfl (.nil)) (fun w' h' => ⟨by rw [hf]; rfl, h'.below⟩)
      · try simp only [decide_eq_true_eq, decide_eq_false_iff_not, Bool.not_eq_true', Bool.not_eq_false', Bool.and_eq_true, Bool.or_eq_true, Bool.and_eq_false_iff, Bool.or_eq_false_iff, Bool.not_true, Bool.not_false] at h12
        have hbd : (nth l k).by_.length ≤ 300 := by have hq := h12; omega
        refine s_skip ?_
        refine s_blk ?_
        refine s_region ?_
        refine o_p (p_pure rfl) rfl ?_
        refine o_p (p_pure rfl) rfl ?_
        try (refine o_slot (i64w (by omega) (by omega)) ?_)
        refine o_p (p_pure rfl) rfl ?_
        refine o_nil ?_
        exact s_backI (k + 1) (by omega) ⟨by omega, by rw [hst, hk2, decide_eq_true hbd]; rfl⟩ aSx (fun w h => h)
    · try simp only [decide_eq_true_eq, decide_eq_false_iff_not, Bool.not_eq_true', Bool.not_eq_false', Bool.and_eq_true, Bool.or_eq_true, Bool.and_eq_false_iff, Bool.or_eq_false_iff, Bool.not_true, Bool.not_false] at h11
      obtain rfl : k = l.length := by omega
      rw [List.take_length] at hk2
      have hf : fewS l = true := by unfold fewS; rw [h0, hk2]; rfl
      refine s_exit_to rfl ?_
      refine s_seq ?_
      refine s_region ?_
      refine o_p (p_pure rfl) rfl ?_
      refine o_nil ?_
      exact s_retv (rs := [.tmp 2]) rfl (.tmp rfl (.nil)) (fun w' h' => ⟨by rw [hf]; rfl, h'.below⟩)

set_option maxRecDepth 20000 in
theorem c16 (w : World) (d : Dsc) (ea : Option Addr) (eac : Nat) (aa : Option Addr) (aac : Nat) : Calls Tryz.prog 16 #[.agg #[.int .i64 d.ow, .int .i64 d.gr, .bool d.pr, .bool d.he, .slice ea d.en.length eac, .slice aa d.au.length aac]] w fun en w' => en = .returned (.bool (fewD d)) ∧ Below w.heap.size w w' := by
  refine enter (args := [_]) Tryz.func16 Tryz.ntmps16 rfl rfl (HS.refl w []) ?_
  refine s_seq ?_
  refine s_region ?_
  refine o_h (h_box rfl rfl) rfl (fun b1 _ => ?_)
  refine o_p (p_pure rfl) rfl ?_
  refine o_nil ?_
  refine s_seq ?_
  refine s_region ?_
  refine o_p (p_fieldAddr rfl rfl fd_42_4 sz_40 rfl) rfl ?_
  refine o_q (q_load rfl rfl sz_40 aPk rfl) rfl ?_
  refine o_p (p_len_slice rfl rfl Tryz.underlying40) rfl ?_
  refine o_p (p_pure rfl) rfl ?_
  refine o_p (p_pure rfl) rfl ?_
  refine o_and 5 7 12 _ _ rfl
    (by
      intro hg2
      have hs3 := hg2; try simp only [decide_eq_true_eq, decide_eq_false_iff_not, Bool.not_eq_true', Bool.not_eq_false', Bool.and_eq_true, Bool.or_eq_true, Bool.and_eq_false_iff, Bool.or_eq_false_iff, Bool.not_true, Bool.not_false] at hs3
      refine o_on 7 _ rfl rfl hg2 ?_
      refine o_p (p_fieldAddr rfl rfl fd_42_5 sz_40 rfl) rfl ?_
      refine o_on 7 _ rfl rfl hg2 ?_
      refine o_q (q_load rfl rfl sz_40 aPk rfl) rfl ?_
      refine o_on 7 _ rfl rfl hg2 ?_
      refine o_p (p_len_slice rfl rfl Tryz.underlying40) rfl ?_
      refine o_on 7 _ rfl rfl hg2 ?_
      refine o_p (p_pure rfl) rfl ?_
      refine o_p (p_pickt rfl rfl hg2 rfl) rfl ?_
      refine o_nil ?_
      exact s_joinN 5 12 _ rfl rfl rfl (fun w h => by first | exact h | exact h.ent aEt))
    (by
      intro hg4
      have hs5 := hg4; try simp only [decide_eq_true_eq, decide_eq_false_iff_not, Bool.not_eq_true', Bool.not_eq_false', Bool.and_eq_true, Bool.or_eq_true, Bool.and_eq_false_iff, Bool.or_eq_false_iff, Bool.not_true, Bool.not_false] at hs5
      refine o_off 7 _ rfl rfl hg4 rfl ?_
      refine o_off 7 _ rfl rfl hg4 rfl ?_
      refine o_off 7 _ rfl rfl hg4 rfl ?_
      refine o_off 7 _ rfl rfl hg4 rfl ?_
      refine o_p (p_pickf rfl rfl hg4 rfl) rfl ?_
      refine o_nil ?_
      exact s_joinN 5 12 _ rfl rfl rfl (fun w h => by first | exact h | exact h.ent aEt)) ?_
  refine o_p (p_pure rfl) rfl ?_
  refine o_nil ?_
  exact s_retv (rs := [.tmp 2]) rfl (.tmp rfl (.nil)) (fun w' h' => ⟨by simp only [retV, fewD]; congr 2; rw [Bool.eq_iff_iff]; simp; omega, h'.below⟩)

set_option maxRecDepth 20000 in
theorem c36 (w : World)  : Calls Tryz.prog 36 #[] w fun en w' => en = .returned (.agg #[.int .i64 10, .int .i64 10, .bool false, .bool false, .slice none 0 0, .slice none 0 0]) ∧ Below w.heap.size w w' := by
  refine enter (args := []) Tryz.func36 Tryz.ntmps36 rfl rfl (HS.refl w []) ?_
  refine s_seq ?_
  refine s_region ?_
  refine o_h (h_alloc rfl zr_42) rfl (fun b1 _ => ?_)
  refine o_nil ?_
  refine s_seq ?_
  refine s_region ?_
  refine o_p (p_build (cs := [_, _, _, _, _, _]) rfl rfl pl_42 zr_42 rfl) rfl ?_
  refine o_h0 (h_store rfl rfl rfl sz_42 rfl aPt (by simp only [setMany_length, List.length_set, List.length_cons, List.length_nil, List.length_map]; omega) rfl) (fun _ _ => ?_)
  refine o_nil ?_
  exact s_retv (rs := [.cell 0 42]) rfl (.cell rfl sz_42 aPk rfl (.nil)) (fun w' h' => ⟨by rfl, h'.below⟩)

set_option maxRecDepth 20000 in
theorem c37 (w : World)  : Calls Tryz.prog 37 #[] w fun en w' => ∃ g : Option Addr × Nat, en = .returned (.agg #[.int .i64 10, .int .i64 10, .bool false, .bool true, .slice g.1 1 g.2, .slice none 0 0]) ∧ True ∧ HS w [] [.own (.slice g.1 1 g.2) 98 4 1 [.int .i64 0, .int .i64 0, .int .i64 1, .int .i64 1]] w' := by
  refine enter (args := []) Tryz.func37 Tryz.ntmps37 rfl rfl (HS.refl w []) ?_
  refine s_seq ?_
  refine s_region ?_
  refine o_h (h_alloc rfl zr_42) rfl (fun b1 _ => ?_)
  refine o_nil ?_
  refine s_seq ?_
  refine s_region ?_
  refine o_p (p_build (cs := [_, _, _, _]) rfl rfl pl_98 zr_98 rfl) rfl ?_
  refine o_h (h_buildSlice (cs := [_, _, _, _]) rfl rfl sl_40 zr_98 rfl rfl rfl) rfl (fun b2 _ => ?_)
  refine o_p (p_build (cs := [_, _, _, _, _, _]) rfl rfl pl_42 zr_42 rfl) rfl ?_
  refine o_h0 (h_store rfl rfl rfl sz_42 rfl aPt (by simp only [setMany_length, List.length_set, List.length_cons, List.length_nil, List.length_map]; omega) rfl) (fun _ _ => ?_)
  refine o_nil ?_
  exact s_retv (rs := [.cell 0 42]) rfl (.cell rfl sz_42 aPk rfl (.nil)) (fun w' h' => ⟨(some ⟨b2, 0, none⟩, 1), rfl, trivial, (HS.own_shut (cap := 1) (n := 1) (sz := 4) (h'.ent (Bs := [.blk b2 98 4 [.int .i64 0, .int .i64 0, .int .i64 1, .int .i64 1]]) aEt) rfl (by omega) (by decide)).ent aEt⟩)

end Go.Proofs

/- From a reading of the arguments to what their values are; and back, for a law that answers true and writes to nothing old. -/
namespace Gx
open Go Go.RowKit Go.ChangeShapes Go.WideShapes Go.ChangeAt

section
variable {H : Type} {enc : TypeId × Value → H} {P : Program} {W : World}
/-- What is known of cells that read as a type's. -/
def okT (P : Program) (W : World) : Nat → TypeId → List Value → Prop
  | 0, _, _ => False
  | d + 1, t, cs => match P.underlying t with
    | some (.int k) => ∃ n, cs = [.int k n] ∧ (Lit.int k n).wf = true
    | some .string => ∃ l, cs = [.string (bs l)] ∧ l.length ≤ maxLen
    | some .bool => ∃ b, cs = [.bool b]
    | some (.slice e) => ∃ a n cap cell, cs = [.slice a n cap] ∧ n ≤ cap ∧ cap ≤ maxLen ∧ (0 < P.cellsOf e → Sl W [] a (P.cellsOf e) n cell) ∧ ∀ i, i < n → okT P W d e (cell i)
    | some (.struct fs) => cs.length = P.cellsOf t ∧ ∀ f ∈ fs.toList, okT P W d f.type ((cs.drop f.offset).take (P.cellsOf f.type))
    | some (.array n e) => cs.length = P.cellsOf t ∧ ∀ i, i < n → okT P W d e ((cs.drop (i * P.cellsOf e)).take (P.cellsOf e))
    | _ => True
theorem cells?_get {a : Addr} {n : Nat} {cs : List Value} (h : W.cells? 0 a n = some cs) : cs.length = n ∧ ∀ j v, cs[j]? = some v → W.cell? (a.add j) = some v := by
  unfold World.cells? at h
  rw [if_pos (Nat.zero_le _)] at h
  have hl : cs.length = n := by simpa using mapM_some_length h
  refine ⟨hl, fun j v hv => ?_⟩
  have hj : j < n := by rw [← hl]; exact (List.getElem?_eq_some_iff.1 hv).1
  have := mapM_some_get h j j (by simp [hj])
  rw [this, hv]
theorem okT_of_trod {sp : Nat → Bool} {held : Bool} : ∀ (d : Nat) (t : TypeId) (cs : List Value) (x : DataW H × List MemPlace), DataW.trod enc P W 0 sp held d t cs = some x → okT P W d t cs
  | 0, _, _, _, h => by simp [DataW.trod] at h
  | d + 1, t, cs, x, h => by
    rw [okT]
    split
    · rename_i k hu
      obtain ⟨n, rfl, _, hw⟩ := DataW.trod_int hu h
      exact ⟨n, rfl, hw⟩
    · rename_i hu
      obtain ⟨s, rfl, _, hs⟩ := DataW.trod_string hu h
      exact ⟨s.data.toList, rfl, hs⟩
    · rename_i hu
      obtain ⟨b, rfl, _⟩ := DataW.trod_bool hu h
      exact ⟨b, rfl⟩
    · rename_i e hu
      rcases DataW.trod_slice hu h with ⟨rfl, _⟩ | ⟨a, len, cap, elems, rest, n, hn, rfl, _, _, hl, hc, hel, hg, _⟩
      · exact ⟨none, 0, 0, fun _ => [], rfl, Nat.le_refl _, Nat.zero_le _, fun _ => ⟨fun h0 => absurd h0 (Nat.lt_irrefl _)⟩, fun i hi => absurd hi (Nat.not_lt_zero i)⟩
      · cases hn
        have hx : ∀ i, i < len → ∃ c y, W.cells? 0 (a.add (i * P.cellsOf e)) (P.cellsOf e) = some c ∧ DataW.trod enc P W 0 sp held d e c = some y := fun i hi => by
          have h1 := hg i hi
          have h2 : ∃ y, elems[i]? = some y := ⟨_, List.getElem?_eq_getElem (by omega)⟩
          obtain ⟨y, hy⟩ := h2
          rw [hy, Option.bind_eq_some_iff] at h1
          obtain ⟨c, e1, e2⟩ := h1
          exact ⟨c, y, e1, e2⟩
        have hcell : ∀ i, ∃ c, i < len → ∃ y, W.cells? 0 (a.add (i * P.cellsOf e)) (P.cellsOf e) = some c ∧ DataW.trod enc P W 0 sp held d e c = some y := fun i => by
          by_cases hi : i < len
          · obtain ⟨c, y, e1, e2⟩ := hx i hi; exact ⟨c, fun _ => ⟨y, e1, e2⟩⟩
          · exact ⟨[], fun h => absurd h hi⟩
        obtain ⟨cell, hcell⟩ := Classical.axiomOfChoice hcell
        refine ⟨some a, len, cap, cell, rfl, hl, hc, fun h0 => ⟨fun hpos => ?_⟩, fun i hi => ?_⟩
        · have hsp : a.spot = none := by
            obtain ⟨y, e1, _⟩ := hcell 0 hpos
            obtain ⟨e2, e3⟩ := cells?_get e1
            have hz : 0 < (cell 0).length := by omega
            have e4 := e3 0 _ (List.getElem?_eq_getElem hz)
            have e5 : (a.add (0 * P.cellsOf e)).add 0 = a := by simp [Addr.add]
            rw [e5] at e4
            unfold World.cell? at e4
            split at e4
            · split at e4
              · cases e4
              · rename_i hns
                cases hsx : a.spot with
                | none => rfl
                | some v => rw [hsx] at hns; simp at hns
            · cases e4
          obtain ⟨b, o, s⟩ := a
          simp only at hsp
          subst hsp
          refine ⟨b, o, rfl, fun i hi => ?_⟩
          obtain ⟨y, e1, _⟩ := hcell i hi
          obtain ⟨e2, e3⟩ := cells?_get e1
          refine ⟨e2, fun j v hv => ?_⟩
          have e4 := e3 j v hv
          have e5 : ((⟨b, o, none⟩ : Addr).add (i * P.cellsOf e)).add j = ⟨b, o + i * P.cellsOf e + j, none⟩ := by rw [addr_add, addr_add]
          rw [e5] at e4
          refine ⟨?_, by simp, e4⟩
          unfold World.cell? at e4
          split at e4
          · rename_i hh
            exact (Array.getElem?_eq_some_iff.1 hh).1
          · cases e4
        · obtain ⟨y, _, e2⟩ := hcell i hi
          exact okT_of_trod d e _ y e2
    · rename_i fs hu
      obtain ⟨xs, n, hn, _, hl, hxl, hg⟩ := DataW.trod_struct hu h
      cases hn
      refine ⟨hl, fun f hf => ?_⟩
      obtain ⟨i, hi, rfl⟩ := List.getElem_of_mem hf
      have hi' : i < fs.size := by simpa using hi
      have h1 := hg i fs[i] (by simp [hi'])
      rw [List.getElem?_eq_getElem (by omega)] at h1
      exact okT_of_trod d _ _ _ (by simpa using h1)
    · rename_i n e hu
      obtain ⟨xs, m, hm, _, hl, hxl, hg⟩ := DataW.trod_array hu h
      cases hm
      refine ⟨hl, fun i hi => ?_⟩
      have h1 := hg i hi
      rw [List.getElem?_eq_getElem (by omega)] at h1
      exact okT_of_trod d _ _ _ h1
    · trivial
/-! ## By shape -/
section
variable {d : Nat} {t : TypeId} {cs : List Value}
theorem okT_int {k : IntKind} (h : okT P W d t cs) (hu : P.underlying t = some (.int k)) : ∃ n, cs = [.int k n] ∧ (Lit.int k n).wf = true := by
  cases d with
  | zero => cases h
  | succ d => rw [okT, hu] at h; exact h
theorem okT_str (h : okT P W d t cs) (hu : P.underlying t = some .string) : ∃ l, cs = [.string (bs l)] ∧ l.length ≤ maxLen := by
  cases d with
  | zero => cases h
  | succ d => rw [okT, hu] at h; exact h
theorem okT_bool (h : okT P W d t cs) (hu : P.underlying t = some .bool) : ∃ b, cs = [.bool b] := by
  cases d with
  | zero => cases h
  | succ d => rw [okT, hu] at h; exact h
theorem okT_sl {e : TypeId} (h : okT P W d t cs) (hu : P.underlying t = some (.slice e)) (hc : 0 < P.cellsOf e) : ∃ d' a n cap cell, cs = [.slice a n cap] ∧ n ≤ cap ∧ cap ≤ maxLen ∧ Sl W [] a (P.cellsOf e) n cell ∧ ∀ i, i < n → okT P W d' e (cell i) := by
  cases d with
  | zero => cases h
  | succ d =>
    rw [okT, hu] at h
    obtain ⟨a, n, cap, cell, h1, h2, h3, h4, h5⟩ := h
    exact ⟨d, a, n, cap, cell, h1, h2, h3, h4 hc, h5⟩
theorem okT_st {fs : Array Field} (h : okT P W d t cs) (hu : P.underlying t = some (.struct fs)) : ∃ d', cs.length = P.cellsOf t ∧ ∀ f ∈ fs.toList, okT P W d' f.type ((cs.drop f.offset).take (P.cellsOf f.type)) := by
  cases d with
  | zero => cases h
  | succ d => rw [okT, hu] at h; exact ⟨d, h⟩
end
theorem okT_trod {sp : Nat → Bool} {held : Bool} {t : TypeId} {v : Value} {x : DataW H} {ps : List MemPlace} (h : DataW.Trod enc P W 0 sp held t v x ps) : ∃ d, okT P W d t v.cells.toList := by
  obtain ⟨d, h⟩ := h
  exact ⟨d, okT_of_trod d t _ _ h⟩
theorem agg_of {t : TypeId} {v : Value} {r : Reach} {b0 : Nat} (hval : Value.okWide P W r b0 t v) (ha : (match P.underlying t with | some (.struct _) | some (.array _ _) => true | _ => false) = true) : ∃ cs : List Value, v = .agg cs.toArray ∧ v.cells.toList = cs := by
  unfold Value.okWide at hval
  split at ha
  · rename_i hu; rw [hu] at hval; obtain ⟨cs, rfl, _⟩ := hval; exact ⟨cs.toList, rfl, rfl⟩
  · rename_i hu; rw [hu] at hval; obtain ⟨cs, rfl, _⟩ := hval; exact ⟨cs.toList, rfl, rfl⟩
  · cases ha
theorem wf_i64 {n : Int} (h : (Lit.int .i64 n).wf = true) : -9223372036854775808 ≤ n ∧ n ≤ 9223372036854775807 := by
  simpa [Lit.wf, IntKind.min, IntKind.max, IntKind.signed, IntKind.bits] using h
/-! ## A law that answers true and writes to nothing old -/
theorem trodAll_later (hl : laidOutB P = true) {W' : World} (hb : Below W.heap.size W W') : ∀ {ts : List TypeId} {vs : List Value} {ds : List (DataW H)} {ps : List MemPlace}, ts.all (fun t => P.readableRec t && decide (t < P.types.size)) = true →
    DataW.TrodAll enc P W 0 (fun _ => true) true ts vs ds ps → (∀ x ∈ ps, x.block < W.heap.size) → DataW.TrodAll enc P W' 0 (fun b => decide (b < W.heap.size)) true ts vs ds ps
  | [], [], [], _, _, h, _ => h
  | [], _ :: _, _, _, _, h, _ => (by cases h)
  | [], [], _ :: _, _, _, h, _ => (by cases h)
  | _ :: _, [], _, _, _, h, _ => (by cases h)
  | _ :: _, _ :: _, [], _, _, h, _ => (by cases h)
  | t :: ts, v :: vs, d :: ds, ps, hr, h, hlt => by
    obtain ⟨p, q, h1, h2, rfl⟩ := h
    simp only [List.all_cons, Bool.and_eq_true, decide_eq_true_eq] at hr
    exact ⟨p, q, Below.trod hl hr.1.1 hr.1.2 h1 hb (fun x hx => hlt x (List.mem_append_left _ hx)), trodAll_later hl hb hr.2 h2 (fun x hx => hlt x (List.mem_append_right _ hx)), rfl⟩
theorem post_true {f : Func} {s : ChangeSpec} {apart fresh handsOn : Bool} {W' : World} {args : Array Value} {ds gs : List (DataW H)} {before : List MemPlace} {tb : TypeId}
    (hl : laidOutB P = true) (hr : f.params.toList.all (fun t => P.readableRec t && decide (t < P.types.size)) = true) (hbool : f.resultTypes = #[tb]) (htb : P.underlying tb = some .bool) (hv : s.vars = [])
    (hs : s.fn H ds = { results := [.lit (.bool true)], args := ds }) (hW : DataW.Whole enc P f.params.toList s.vars apart W args.toList ds gs before) (hb : Below W.heap.size W W') :
    s.post enc P f apart fresh handsOn false W args (.bool true) W' := by
  have hW' := hW
  obtain ⟨p, q, hA, hV, rfl, hfz, hnd⟩ := hW
  rw [hv] at hV
  obtain ⟨rfl, rfl⟩ := trodVars_none hV
  have hlt : ∀ x ∈ p, x.block < W.heap.size := fun x hx => by simpa using hW'.lt x (by simpa using hx)
  refine ⟨ds, [], p ++ [], [], p, [], hW', ?_, ?_, ?_, hb.frame _, fun h => by cases h⟩
  · rw [List.append_nil, hs, hbool]
    exact trodAll_mk1 (shut_bool htb true)
  · rw [List.append_nil, hs]
    exact trodAll_later hl hb hr hA hlt
  · rw [List.append_nil, hs, hv]
    rfl
end
end Gx

/- Chapter 18: arguments that read as stores, descriptors and numbers, as rows of plain data. -/
namespace Go.Proofs
open Go Go.RowKit Gx
set_option linter.unusedVariables false
set_option linter.unusedSimpArgs false
theorem rw_of {α : Type} [Inhabited α] {vals : α → List Value} {sz n : Nat} {W : World} {a : Option Addr} {cell : Nat → List Value} {Q : α → Prop} (hs : Sl W [] a sz n cell) (hr : ∀ i, i < n → ∃ x, cell i = vals x ∧ Q x) : ∃ l : List α, n = l.length ∧ Rw vals sz W [] a l ∧ (∀ x ∈ l, Q x) ∧ ∀ i, i < n → cell i = vals (nth l i) := by
  have hr2 : ∀ i, ∃ x, i < n → cell i = vals x ∧ Q x := fun i => by
    by_cases hi : i < n
    · obtain ⟨x, h⟩ := hr i hi
      exact ⟨x, fun _ => h⟩
    · exact ⟨default, fun h => absurd h hi⟩
  obtain ⟨f, hf⟩ := Classical.axiomOfChoice hr2
  have hg : ∀ i, i < n → nth ((List.range n).map f) i = f i := fun i hi => by
    simp only [nth, List.getD_eq_getElem?_getD, List.getElem?_map, List.getElem?_range hi, Option.map_some, Option.getD_some]
  refine ⟨(List.range n).map f, by simp, ⟨fun hn => ?_⟩, fun x hx => ?_, fun i hi => ?_⟩
  · rw [List.length_map, List.length_range] at hn
    obtain ⟨b, o, e, h2⟩ := hs.at_ hn
    refine ⟨b, o, e, fun i hi => ?_⟩
    rw [List.length_map, List.length_range] at hi
    have h3 := h2 i hi
    rw [(hf i hi).1] at h3
    rw [hg i hi]
    exact h3
  · obtain ⟨i, hi, rfl⟩ := List.mem_map.1 hx
    exact (hf i (List.mem_range.1 hi)).2
  · rw [hg i hi]
    exact (hf i hi).1
theorem zcells3 : Tryz.prog.cellsOf 3 = 1 := by kernel_rfl
theorem zcells9 : Tryz.prog.cellsOf 9 = 1 := by kernel_rfl
theorem zcells77 : Tryz.prog.cellsOf 77 = 2 := by kernel_rfl
theorem zcells98 : Tryz.prog.cellsOf 98 = 4 := by kernel_rfl
section
variable {W : World} {d : Nat}
theorem ln2 {cs : List Value} (h : cs.length = 2) : ∃ x0 x1, cs = [x0, x1] := by
  match cs, h with
  | [x0, x1], _ => exact ⟨x0, x1, rfl⟩
theorem ln4 {cs : List Value} (h : cs.length = 4) : ∃ x0 x1 x2 x3, cs = [x0, x1, x2, x3] := by
  match cs, h with
  | [x0, x1, x2, x3], _ => exact ⟨x0, x1, x2, x3, rfl⟩
theorem int_of {x : Value} (h : okT Tryz.prog W d 3 [x]) : ∃ n, x = .int .i64 n ∧ n ≤ 9223372036854775807 := by
  obtain ⟨n, e, g⟩ := okT_int h Tryz.underlying3
  cases e
  exact ⟨n, rfl, (wf_i64 g).2⟩
theorem str_of {x : Value} (h : okT Tryz.prog W d 9 [x]) : ∃ l : List UInt8, x = .string (bs l) ∧ l.length ≤ maxLen := by
  obtain ⟨l, e, g⟩ := okT_str h Tryz.underlying9
  cases e
  exact ⟨l, rfl, g⟩
theorem item_of {cs : List Value} (h : okT Tryz.prog W d 77 cs) : ∃ x : SItm, cs = x.vals ∧ x.by_.length ≤ maxLen := by
  obtain ⟨d2, l, o⟩ := okT_st h Tryz.underlying77
  rw [zcells77] at l
  obtain ⟨x0, x1, rfl⟩ := ln2 l
  simp only [List.mem_cons, List.mem_nil_iff, or_false, forall_eq_or_imp, forall_eq] at o
  rw [zcells3, zcells9] at o
  obtain ⟨n0, rfl, _⟩ := int_of (x := x0) o.1
  obtain ⟨s, rfl, hs⟩ := str_of (x := x1) o.2
  exact ⟨⟨n0, s⟩, rfl, hs⟩
theorem ace_of {cs : List Value} (h : okT Tryz.prog W d 98 cs) : ∃ x : Ace, cs = x.vals ∧ True := by
  obtain ⟨d2, l, o⟩ := okT_st h Tryz.underlying98
  rw [zcells98] at l
  obtain ⟨x0, x1, x2, x3, rfl⟩ := ln4 l
  simp only [List.mem_cons, List.mem_nil_iff, or_false, forall_eq_or_imp, forall_eq] at o
  rw [zcells3] at o
  obtain ⟨n0, rfl, _⟩ := int_of (x := x0) o.1
  obtain ⟨n1, rfl, _⟩ := int_of (x := x1) o.2.1
  obtain ⟨n2, rfl, _⟩ := int_of (x := x2) o.2.2.1
  obtain ⟨n3, rfl, _⟩ := int_of (x := x3) o.2.2.2
  exact ⟨⟨n0, n1, n2, n3⟩, rfl, trivial⟩
theorem items_of {n : Nat} {a : Option Addr} {cell : Nat → List Value} (sl : Sl W [] a 2 n cell) (rows : ∀ i, i < n → okT Tryz.prog W d 77 (cell i)) : ∃ l : List SItm, n = l.length ∧ Rw SItm.vals 2 W [] a l ∧ ∀ x ∈ l, x.by_.length ≤ maxLen := by
  obtain ⟨l, h1, h2, h3, _⟩ := rw_of (vals := SItm.vals) (Q := fun x => x.by_.length ≤ maxLen) sl fun i hi => item_of (rows i hi)
  exact ⟨l, h1, h2, h3⟩
theorem aces_of {n : Nat} {a : Option Addr} {cell : Nat → List Value} (sl : Sl W [] a 4 n cell) (rows : ∀ i, i < n → okT Tryz.prog W d 98 (cell i)) : ∃ l : List Ace, n = l.length ∧ Rw Ace.vals 4 W [] a l := by
  obtain ⟨l, h1, h2, _, _⟩ := rw_of (vals := Ace.vals) (Q := fun _ => True) sl fun i hi => ace_of (rows i hi)
  exact ⟨l, h1, h2⟩
end
end Go.Proofs

/- The engine's rules for a builder of strings that the call has made itself. Nothing of a program is named here. -/
namespace Gx
set_option linter.unusedSimpArgs false
set_option linter.unusedVariables false
open Go Go.RowKit
section
variable {P : Program} {o : Oper} {L : Slots} {w0 : World} {M : List Nat} {As As' : List HA}
def isPt (P : Program) (t te : TypeId) : Prop := P.underlying t = some (.pointer te) ∧ ∃ j, P.info? te = some j ∧ j.size ≠ 0
theorem isPt_of {t te : TypeId} {n : Nat} {b : Bool} (h : P.underlying t = some (.pointer te)) (h2 : tsz P te = some (n, b)) (hn : n ≠ 0) : isPt P t te := by
  refine ⟨h, ?_⟩
  unfold tsz at h2
  cases hi : P.info? te with
  | none => rw [hi] at h2; cases h2
  | some j =>
    refine ⟨j, rfl, fun h0 => hn ?_⟩
    rw [hi] at h2
    cases hd : P.underlying te with
    | none => rw [hd] at h2; cases h2
    | some d =>
      rw [hd] at h2
      injection h2 with h2
      injection h2 with h3 h4
      omega
theorem ptee {t te : TypeId} (h : P.underlying t = some (.pointer te)) : P.underlying t = some (.pointer (P.pointee t)) := by
  rw [h]; simp [Program.pointee, h]
theorem p_ptr_nil {t t' te : TypeId} {x y : Operand} {p : Option Addr} (ho : o.op = .binOp .eql t x y t') (hx : ev L x = some (.pointer p)) (hy : ev L y = some (.pointer none)) (ht : isPt P t te) : OpP P o L (.bool p.isNone) := by
  intro ρ w hρ
  have hg : (eqGuard .eql t x y (.pointer p) (.pointer none)).run P w = .ok () w := by unfold eqGuard; simp
  simp only [execOp, ho, hρ _ _ hx, hρ _ _ hy, Sem.run_bind, hg, run_eql_pointer_nil w t p (ptee ht.1), Result.andThen_ok, Sem.run_pure]
theorem p_ptr_neq_same {t t' te : TypeId} {x y : Operand} {a : Addr} (ho : o.op = .binOp .neq t x y t') (hx : ev L x = some (.pointer (some a))) (hy : ev L y = some (.pointer (some a))) (ht : isPt P t te) : OpP P o L (.bool false) := by
  intro ρ w hρ
  obtain ⟨h1, j, h2, _⟩ := ht
  have hg : (eqGuard .neq t x y (.pointer (some a)) (.pointer (some a))).run P w = .ok () w := by unfold eqGuard; simp
  simp only [execOp, ho, hρ _ _ hx, hρ _ _ hy, Sem.run_bind, hg, Lib.run_neq_ptr_same w a h1 h2, Result.andThen_ok, Sem.run_pure]
theorem q_to_unsafe {src dst te b tot : Nat} {bt : TypeId} {x : Operand} {cs : List Value} (ho : o.op = .convert src dst x) (hx : ev L x = some (.pointer (some ⟨b, 0, none⟩))) (hs : isPt P src te) (hd : P.underlying dst = some .unsafePointer) (hp : Pick As (.blk b bt tot cs) As') (h0 : 0 < tot) : OpQ P o L (HS w0 M As) (.pointer (some ⟨b, 0, none⟩)) := by
  intro ρ w hρ hw
  obtain ⟨h1, j, h2, h3⟩ := hs
  have := (hw.blk_get hp).shape
  simp only [execOp, ho, hρ _ _ hx, Sem.run_bind, Lib.run_to_unsafe w (⟨b, 0, none⟩ : Addr) h1 hd h2 h3 this h0, Result.andThen_ok, Sem.run_pure]
  exact ⟨rfl, Below.refl _ _⟩
theorem q_from_unsafe {src dst te b tot : Nat} {bt : TypeId} {x : Operand} {cs : List Value} (ho : o.op = .convert src dst x) (hx : ev L x = some (.pointer (some ⟨b, 0, none⟩))) (hs : P.underlying src = some .unsafePointer) (hd : isPt P dst te) (hp : Pick As (.blk b bt tot cs) As') (hl : liesAt P P.depth bt (tot / P.cellsOf bt) 0 te 1 = true) : OpQ P o L (HS w0 M As) (.pointer (some ⟨b, 0, none⟩)) := by
  intro ρ w hρ hw
  obtain ⟨h1, j, h2, h3⟩ := hd
  have := (hw.blk_get hp).shape
  simp only [execOp, ho, hρ _ _ hx, Sem.run_bind, Lib.run_from_unsafe w (⟨b, 0, none⟩ : Addr) hs h1 h2 this hl, Result.andThen_ok, Sem.run_pure]
  exact ⟨rfl, Below.refl _ _⟩
def isNE (P : Program) (f : FuncId) : Prop := ∃ fn, P.funcs[f]? = some fn ∧ (fn.name == "runtime.NumGoroutine") = false ∧ fn.body.isNone = true ∧ Extern.findNext fn = none ∧ Extern.find fn = some Extern.AbiNoEscape.same
theorem q_noEscape {f : FuncId} {x : Operand} {v : Value} {at' : Array TypeId} {C : World → Prop} (ho : o.op = .call { callee := .value (.func f), args := #[x], argTypes := at' }) (hx : ev L x = some v) (hf : isNE P f) : OpQ P o L C v := by
  intro ρ w hρ hw
  obtain ⟨fn, h1, h2, h3, h4, h5⟩ := hf
  have hcall := run_callFunc_extern h1 h2 h3 h4 h5 #[v] w
  rw [Lib.run_noEscape w v] at hcall
  have : (execOp ρ o).run P w = .ok (.value v) w := by
    unfold execOp
    simp only [ho, resolve, Sem.run_bind, hρ (.func f) _ rfl, Deferred.ofValue, Sem.run_pure, Result.andThen_ok, invoke, List.map_toArray, List.map_cons, List.map_nil, hρ _ _ hx, Array.empty_append, Array.append_empty, hcall]
  rw [this]
  exact ⟨rfl, Below.refl _ _⟩
theorem p_sliceData {x : Operand} {at' : Array TypeId} {a : Addr} {n cap : Nat} (ho : o.op = .call { callee := .builtin .unsafeSliceData, args := #[x], argTypes := at' }) (hx : ev L x = some (.slice (some a) n cap)) (hc : cap ≠ 0) : OpP P o L (.pointer (some a)) := by
  intro ρ w hρ
  simp only [execOp, ho, resolve, Sem.run_bind, Sem.run_pure, Result.andThen_ok, invoke, builtin, List.map_toArray, List.map_cons, List.map_nil, hρ _ _ hx, Lib.run_unsafeSliceData_row w at' o.type a n cap hc]
/-- The bytes of an own row as a string: the row is given up. -/
theorem h_unsafeString {pt it e g cap : Nat} {x y : Operand} {l : List UInt8} (ho : o.op = .call { callee := .builtin .unsafeString, args := #[x, y], argTypes := #[pt, it] }) (hx : ev L x = some (.pointer (some ⟨g, 0, none⟩))) (hy : ev L y = some (.int .i64 (l.length : Int))) (ht : P.underlying pt = some (.pointer e)) (hce : P.cellsOf e = 1) (h0 : l ≠ [])
    (hp : Pick As (.own (.slice (some ⟨g, 0, none⟩) l.length cap) e 1 l.length (l.map bv)) As') : OpH P o L (HS w0 M As) (fun _ : Unit => .string (bs l)) (fun _ => True) (fun _ => HS w0 M As') := by
  intro ρ w hρ hw
  have hl : 0 < l.length := by cases l with | nil => exact absurd rfl h0 | cons => simp
  obtain ⟨g', e1, _, h1, h2, h3, hb⟩ := hw.own_blk hl hp
  injection e1 with e1
  injection e1 with e1
  subst e1
  have hk := hb.head
  have hr := Lib.run_unsafeString_row (P := P) w pt it o.type e ht hce g (cap * 1) hk.shape l h0 (by omega) (by simp only [maxLen] at h2; omega) (fun j x hx => by
    rw [addr_add]
    show w.cell? ⟨g, 0 + j, none⟩ = _
    rw [Nat.zero_add]
    exact BlkOk.cell hk (by rw [List.getElem?_map, hx]; rfl))
  have hx' : (execOp ρ o).run P w = .ok (.value (.string (bs l))) (w.freeze ⟨g, 0, none⟩ l.length) := by
    simp only [execOp, ho, resolve, Sem.run_bind, Sem.run_pure, Result.andThen_ok, invoke, builtin, List.map_toArray, List.map_cons, List.map_nil, hρ _ _ hx, hρ _ _ hy, hr]
    rfl
  rw [hx']
  refine ⟨(), rfl, trivial, ?_⟩
  have hf : ∀ k, k ≠ g → (w.freeze ⟨g, 0, none⟩ l.length).heap[k]? = w.heap[k]? := fun k hne => by
    simp only [World.freeze]
    split
    · rfl
    · simp [Array.getElem?_modify, Ne.symm hne]
  have h9 : (w.freeze ⟨g, 0, none⟩ l.length).os = w.os ∧ (w.freeze ⟨g, 0, none⟩ l.length).tape = w.tape ∧ (w.freeze ⟨g, 0, none⟩ l.length).output = w.output ∧ (w.freeze ⟨g, 0, none⟩ l.length).heap.size = w.heap.size := by
    simp only [World.freeze]
    split <;> simp
  exact (hb.swap (B := ⟨[g], fun _ => True, fun _ _ _ h => h⟩) (w' := w.freeze ⟨g, 0, none⟩ l.length) (fun _ h => h) h9.1 h9.2.1 h9.2.2.1 h9.2.2.2 (fun k hkk => hf k (by simpa [HA.fp_blk] using hkk)) trivial).tail
theorem h_append_strS {t xt e by' n : Nat} {s x : Operand} {v : Value} {z xs : List Value} {l : List UInt8} (ho : o.op = .call { callee := .builtin .append, args := #[s, x], argTypes := #[t, xt] }) (hs : ev L s = some v) (hx : ev L x = some (.string (bs l))) (ht : tsl P t = some (e, 1, by')) (hxt : P.underlying xt = some .string) (hz : tzero P e = some z) (hzs : z.length = 1)
    (hp : Pick As (.own v e 1 n xs) As') (hroom : (n + l.length) * by' ≤ 140737488355328) (hmax : n + l.length ≤ maxLen) :
    OpH P o L (HS w0 M As) (fun g : Option Addr × Nat => .slice g.1 (n + l.length) g.2) (fun _ => True) (fun g => HS w0 M (.own (.slice g.1 (n + l.length) g.2) e 1 (n + l.length) (xs ++ l.map bv) :: As')) := by
  intro ρ w hρ hw
  refine (h_append_str ho hs hx ht hxt hz hzs hp hroom hmax ρ w hρ hw).mono fun u w' hh => ?_
  obtain ⟨v', rfl, _, h⟩ := hh
  obtain ⟨a', cap', rfl, _⟩ := h.head.form
  exact ⟨(a', cap'), rfl, trivial, h⟩
end
end Gx

/-
  DERIVED: THE SHELF's CONTRACTS AT THIS DUMP, IN PLAIN WORDS (tools/lay-plain.mjs out of 'TryzShelf.lean', which tools/lay-shelf.mjs wrote): THE SAME DECLARATIONS UNDER THE SAME NAMES: 'import', 'namespace', 'open', 'def', 'theorem' AND NOTHING ELSE: no command of the shelf's: FOR A HAND-IN. Each laying: the table of numbers ('.._ren') and one theorem, a field a fact of the dump's own or the kernel's comparison; each contract: ONE APPLICATION.
-/
namespace Go.Proofs
open Go.Shelf
def Tryz.lays170_ren : Go.Shelf.Ren := ⟨fun | 170 => 93 | n => n, fun | 70 => 129 | 3 => 3 | 0 => 0 | 72 => 131 | 37 => 112 | 5 => 5 | n => n, fun | n => n⟩
def Tryz.lays169_ren : Go.Shelf.Ren := ⟨fun | 169 => 89 | n => n, fun | 70 => 129 | 9 => 9 | 0 => 0 | 72 => 131 | 37 => 112 | 127 => 149 | 3 => 3 | 5 => 5 | n => n, fun | n => n⟩
def Tryz.lays241_ren : Go.Shelf.Ren := ⟨fun | 241 => 109 | 277 => 119 | n => n, fun | 70 => 129 | 3 => 3 | 0 => 0 | 72 => 131 | 37 => 112 | 5 => 5 | n => n, fun | n => n⟩
def Tryz.lays165_ren : Go.Shelf.Ren := ⟨fun | 165 => 92 | 240 => 104 | 241 => 109 | 276 => 117 | 277 => 119 | n => n, fun | 70 => 129 | 3 => 3 | 0 => 0 | 4 => 4 | 9 => 9 | 20 => 20 | 72 => 131 | 37 => 112 | 164 => 159 | 5 => 5 | n => n, fun | n => n⟩
def Tryz.lays206_ren : Go.Shelf.Ren := ⟨fun | 206 => 108 | n => n, fun | 9 => 9 | 4 => 4 | 3 => 3 | n => n, fun | n => n⟩
def Tryz.lays99_ren : Go.Shelf.Ren := ⟨fun | 99 => 91 | 206 => 108 | n => n, fun | 9 => 9 | 4 => 4 | 3 => 3 | n => n, fun | n => n⟩
def Tryz.lays264_ren : Go.Shelf.Ren := ⟨fun | 264 => 107 | n => n, fun | 53 => 152 | 46 => 137 | n => n, fun | n => n⟩
def Tryz.lays212_ren : Go.Shelf.Ren := ⟨fun | 212 => 90 | 263 => 106 | 264 => 107 | n => n, fun | 46 => 137 | 51 => 114 | 146 => 150 | 53 => 152 | 148 => 153 | n => n, fun | n => n⟩
def Tryz.lays105_ren : Go.Shelf.Ren := ⟨fun | 105 => 66 | 212 => 90 | 99 => 91 | 165 => 92 | 166 => 87 | 170 => 93 | 169 => 89 | 263 => 106 | 264 => 107 | 206 => 108 | 240 => 104 | 241 => 109 | 276 => 117 | 277 => 119 | n => n, fun | 9 => 9 | 3 => 3 | 4 => 4 | 20 => 20 | 0 => 0 | 46 => 137 | 109 => 138 | 5 => 5 | 72 => 131 | 76 => 134 | 51 => 114 | 146 => 150 | 53 => 152 | 148 => 153 | 70 => 129 | 37 => 112 | 75 => 133 | 127 => 149 | 164 => 159 | 80 => 136 | n => n, fun | n => n⟩
theorem Tryz.lays105 : Go.Proofs.Lays.n105 Tryz.prog Tryz.lays105_ren := {
  mixed := by kernel_rfl
  f99 := Tryz.func91.trans (congrArg some (by kernel_rfl))
  f105 := Tryz.func66.trans (congrArg some (by kernel_rfl))
  f165 := Tryz.func92.trans (congrArg some (by kernel_rfl))
  f166 := Tryz.func87.trans (congrArg some (by kernel_rfl))
  f169 := Tryz.func89.trans (congrArg some (by kernel_rfl))
  f170 := Tryz.func93.trans (congrArg some (by kernel_rfl))
  f206 := Tryz.func108.trans (congrArg some (by kernel_rfl))
  f212 := Tryz.func90.trans (congrArg some (by kernel_rfl))
  f240 := Tryz.func104.trans (congrArg some (by kernel_rfl))
  f241 := Tryz.func109.trans (congrArg some (by kernel_rfl))
  f263 := Tryz.func106.trans (congrArg some (by kernel_rfl))
  f264 := Tryz.func107.trans (congrArg some (by kernel_rfl))
  f276 := Tryz.func117.trans (congrArg some (by kernel_rfl))
  f277 := Tryz.func119.trans (congrArg some (by kernel_rfl))
  t0 := Tryz.underlying0
  a0 := Tryz.isAgg0
  z0 := Tryz.sizeOf0
  v0 := Tryz.zeroValue0
  t3 := Tryz.underlying3
  a3 := Tryz.isAgg3
  z3 := Tryz.sizeOf3
  v3 := Tryz.zeroValue3
  t4 := Tryz.underlying4
  a4 := Tryz.isAgg4
  z4 := Tryz.sizeOf4
  v4 := Tryz.zeroValue4
  t5 := Tryz.underlying5
  a5 := Tryz.isAgg5
  z5 := Tryz.sizeOf5
  v5 := Tryz.zeroValue5
  t9 := Tryz.underlying9
  a9 := Tryz.isAgg9
  z9 := Tryz.sizeOf9
  v9 := Tryz.zeroValue9
  t20 := Tryz.underlying20
  a20 := Tryz.isAgg20
  z20 := Tryz.sizeOf20
  v20 := Tryz.zeroValue20
  t37 := Tryz.underlying112
  a37 := Tryz.isAgg112
  z37 := Tryz.sizeOf112
  v37 := Tryz.zeroValue112
  t46 := Tryz.underlying137
  a46 := Tryz.isAgg137
  z46 := Tryz.sizeOf137
  v46 := Tryz.zeroValue137
  t51 := Tryz.underlying114
  a51 := Tryz.isAgg114
  z51 := Tryz.sizeOf114
  v51 := Tryz.zeroValue114
  t53 := Tryz.underlying152
  a53 := Tryz.isAgg152
  z53 := Tryz.sizeOf152
  v53 := Tryz.zeroValue152
  t70 := Tryz.underlying129
  a70 := Tryz.isAgg129
  z70 := Tryz.sizeOf129
  v70 := Tryz.zeroValue129
  t72 := Tryz.underlying131
  a72 := Tryz.isAgg131
  z72 := Tryz.sizeOf131
  v72 := Tryz.zeroValue131
  t75 := Tryz.underlying133
  a75 := Tryz.isAgg133
  z75 := Tryz.sizeOf133
  v75 := Tryz.zeroValue133
  t76 := Tryz.underlying134
  a76 := Tryz.isAgg134
  z76 := Tryz.sizeOf134
  v76 := Tryz.zeroValue134
  t109 := Tryz.underlying138
  a109 := Tryz.isAgg138
  z109 := Tryz.sizeOf138
  v109 := Tryz.zeroValue138
  t127 := Tryz.underlying149
  a127 := Tryz.isAgg149
  z127 := Tryz.sizeOf149
  v127 := Tryz.zeroValue149
  t146 := Tryz.underlying150
  a146 := Tryz.isAgg150
  z146 := Tryz.sizeOf150
  v146 := Tryz.zeroValue150
  t148 := Tryz.underlying153
  a148 := Tryz.isAgg153
  z148 := Tryz.sizeOf153
  v148 := Tryz.zeroValue153
  t164 := Tryz.underlying159
  a164 := Tryz.isAgg159
  z164 := Tryz.sizeOf159
  v164 := Tryz.zeroValue159 }
theorem Tryz.Builder_Extra_105 : Builder.Extra Tryz.prog Tryz.lays105_ren := {
  sizeBuilder := by kernel_rfl
  liesBuilder := by kernel_rfl
  t5 := Tryz.underlying5
  a5 := Tryz.isAgg5
  z5 := Tryz.sizeOf5
  v5 := Tryz.zeroValue5
  infoByte := by kernel_rfl
  cellsByte := by kernel_rfl
  sizeByte := by kernel_rfl
  neB5 := by decide }
open Go.RowKit Go.Lib in
/-- **strings.Repeat: count ≥ 0, the result within one allocation: count copies of s.** (LAID: no walk: one application.) -/
theorem Tryz.strings_Repeat (s : ByteArray) (c : Nat) (w : World) (hc : c ≤ 9223372036854775807) (hlen : s.size * c ≤ 140737488355328) :
    Calls Tryz.prog 66 #[.string s, .int .i64 c] w fun e w' => e = .returned (.string ⟨(Lib.repeatL s.data.toList c).toArray⟩) ∧ Below w.heap.size w w' := Any.strings_Repeat Tryz.lays105 Tryz.Builder_Extra_105 s c w hc hlen
end Go.Proofs

namespace Go.Proofs
open Go Go.RowKit Gx
set_option linter.unusedVariables false
set_option linter.unusedSimpArgs false
attribute [local irreducible] Go.Calls Gx.S Gx.O Gx.D Gx.OpP Gx.OpQ Gx.OpH

theorem fd_131_0 : tfd Tryz.prog 131 0 = some (0, 129) := by kernel_rfl
theorem sz_129 : tsz Tryz.prog 129 = some (1, false) := by kernel_rfl
theorem sz_131 : tsz Tryz.prog 131 = some (2, true) := by kernel_rfl
theorem ipt_129 : isPt Tryz.prog 129 131 := isPt_of Tryz.underlying129 sz_131 (by decide)
theorem ne_117 : isNE Tryz.prog 117 := ⟨_, Tryz.func117, rfl, rfl, by kernel_rfl, by kernel_rfl⟩
theorem fn_104 : isFn Tryz.prog 104 = true := by kernel_rfl
theorem fd_131_1 : tfd Tryz.prog 131 1 = some (1, 112) := by kernel_rfl


set_option maxRecDepth 20000 in
theorem c104a (w : World) (b : Nat) (v : Value) (hw : HS w (fps [.blk b 131 2 [.pointer none, v]]) [.blk b 131 2 [.pointer none, v]] w) : Calls Tryz.prog 104 #[.pointer (some ⟨b, 0, none⟩)] w fun en w' => ∃ g : Unit, en = .returned (.tuple #[]) ∧ True ∧ HS w (fps [.blk b 131 2 [.pointer none, v]]) [.blk b 131 2 [.pointer (some ⟨b, 0, none⟩), v]] w' := by
  refine enter (args := [_]) Tryz.func104 Tryz.ntmps104 rfl rfl hw ?_
  refine s_seq ?_
  refine s_region ?_
  refine o_p (p_pure rfl) rfl ?_
  refine o_p (p_pure rfl) rfl ?_
  refine o_p (p_fieldAddr rfl rfl fd_131_0 sz_129 rfl) rfl ?_
  refine o_q (q_load rfl rfl sz_129 aPk rfl) rfl ?_
  refine o_p (p_ptr_nil rfl rfl rfl ipt_129) rfl ?_
  refine o_nil ?_
  refine s_cond rfl (fun h1 => ?_) (fun h1 => ?_)
  · try simp only [decide_eq_true_eq, decide_eq_false_iff_not, Bool.not_eq_true', Bool.not_eq_false', Bool.and_eq_true, Bool.or_eq_true, Bool.and_eq_false_iff, Bool.or_eq_false_iff, Bool.not_true, Bool.not_false] at h1
    refine s_region ?_
    refine o_p (p_pure rfl) rfl ?_
    refine o_p (p_pure rfl) rfl ?_
    refine o_q (q_to_unsafe rfl rfl ipt_129 Tryz.underlying159 aPk (by decide)) rfl ?_
    refine o_q (q_noEscape rfl rfl ne_117) rfl ?_
    refine o_q (q_from_unsafe rfl rfl Tryz.underlying159 ipt_129 aPk (by kernel_rfl)) rfl ?_
    refine o_p (p_pure rfl) rfl ?_
    refine o_p (p_fieldAddr rfl rfl fd_131_0 sz_129 rfl) rfl ?_
    refine o_h0 (h_store rfl rfl rfl sz_129 rfl aPt (by simp only [setMany_length, List.length_set, List.length_cons, List.length_nil, List.length_map]; omega) rfl) (fun _ _ => ?_)
    refine o_nil ?_
    exact s_end0 rfl (fun w' h' => ⟨(), rfl, trivial, h'.ent aEt⟩)
  · try simp only [decide_eq_true_eq, decide_eq_false_iff_not, Bool.not_eq_true', Bool.not_eq_false', Bool.and_eq_true, Bool.or_eq_true, Bool.and_eq_false_iff, Bool.or_eq_false_iff, Bool.not_true, Bool.not_false] at h1
    exfalso; first | omega | (simp at h1; done) | (simp_all; done)

set_option maxRecDepth 20000 in
theorem c104b (w : World) (b : Nat) (v : Value) (hw : HS w (fps [.blk b 131 2 [.pointer (some ⟨b, 0, none⟩), v]]) [.blk b 131 2 [.pointer (some ⟨b, 0, none⟩), v]] w) : Calls Tryz.prog 104 #[.pointer (some ⟨b, 0, none⟩)] w fun en w' => ∃ g : Unit, en = .returned (.tuple #[]) ∧ True ∧ HS w (fps [.blk b 131 2 [.pointer (some ⟨b, 0, none⟩), v]]) [.blk b 131 2 [.pointer (some ⟨b, 0, none⟩), v]] w' := by
  refine enter (args := [_]) Tryz.func104 Tryz.ntmps104 rfl rfl hw ?_
  refine s_seq ?_
  refine s_region ?_
  refine o_p (p_pure rfl) rfl ?_
  refine o_p (p_pure rfl) rfl ?_
  refine o_p (p_fieldAddr rfl rfl fd_131_0 sz_129 rfl) rfl ?_
  refine o_q (q_load rfl rfl sz_129 aPk rfl) rfl ?_
  refine o_p (p_ptr_nil rfl rfl rfl ipt_129) rfl ?_
  refine o_nil ?_
  refine s_cond rfl (fun h1 => ?_) (fun h1 => ?_)
  · try simp only [decide_eq_true_eq, decide_eq_false_iff_not, Bool.not_eq_true', Bool.not_eq_false', Bool.and_eq_true, Bool.or_eq_true, Bool.and_eq_false_iff, Bool.or_eq_false_iff, Bool.not_true, Bool.not_false] at h1
    exfalso; first | omega | (simp at h1; done) | (simp_all; done)
  · try simp only [decide_eq_true_eq, decide_eq_false_iff_not, Bool.not_eq_true', Bool.not_eq_false', Bool.and_eq_true, Bool.or_eq_true, Bool.and_eq_false_iff, Bool.or_eq_false_iff, Bool.not_true, Bool.not_false] at h1
    refine s_seq ?_
    refine s_region ?_
    refine o_p (p_pure rfl) rfl ?_
    refine o_p (p_pure rfl) rfl ?_
    refine o_p (p_fieldAddr rfl rfl fd_131_0 sz_129 rfl) rfl ?_
    refine o_q (q_load rfl rfl sz_129 aPk rfl) rfl ?_
    refine o_p (p_pure rfl) rfl ?_
    refine o_p (p_ptr_neq_same rfl rfl rfl ipt_129) rfl ?_
    refine o_nil ?_
    refine s_cond rfl (fun h2 => ?_) (fun h2 => ?_)
    · try simp only [decide_eq_true_eq, decide_eq_false_iff_not, Bool.not_eq_true', Bool.not_eq_false', Bool.and_eq_true, Bool.or_eq_true, Bool.and_eq_false_iff, Bool.or_eq_false_iff, Bool.not_true, Bool.not_false] at h2
      exfalso; first | omega | (simp at h2; done) | (simp_all; done)
    · try simp only [decide_eq_true_eq, decide_eq_false_iff_not, Bool.not_eq_true', Bool.not_eq_false', Bool.and_eq_true, Bool.or_eq_true, Bool.and_eq_false_iff, Bool.or_eq_false_iff, Bool.not_true, Bool.not_false] at h2
      refine s_skip ?_
      exact s_end0 rfl (fun w' h' => ⟨(), rfl, trivial, h'.ent aEt⟩)

set_option maxRecDepth 20000 in
theorem c87a (w : World) (b : Nat) (a : Option Addr) (n cap : Nat) (xs : List Value) (s : List UInt8) (hw : HS w (fps [.blk b 131 2 [.pointer none, .slice a n cap], .own (.slice a n cap) 5 1 n xs]) [.blk b 131 2 [.pointer none, .slice a n cap], .own (.slice a n cap) 5 1 n xs] w) (hl : n + s.length ≤ 1000000000) : Calls Tryz.prog 87 #[.pointer (some ⟨b, 0, none⟩), .string (bs s)] w fun en w' => ∃ g : Option Addr × Nat, en = .returned (.tuple #[.int .i64 (s.length : Int), .nilIface]) ∧ True ∧ HS w (fps [.blk b 131 2 [.pointer none, .slice a n cap], .own (.slice a n cap) 5 1 n xs]) [.blk b 131 2 [.pointer (some ⟨b, 0, none⟩), .slice g.1 (n + s.length) g.2], .own (.slice g.1 (n + s.length) g.2) 5 1 (n + s.length) (xs ++ s.map bv)] w' := by
  refine enter (args := [_, _]) Tryz.func87 Tryz.ntmps87 rfl rfl hw ?_
  refine s_seq ?_
  refine s_region ?_
  refine o_p (p_pure rfl) rfl ?_
  refine o_p (p_pure rfl) rfl ?_
  refine o_nil ?_
  refine s_seq ?_
  refine s_region ?_
  refine o_p (p_pure rfl) rfl ?_
  refine o_h (h_callF (Cs := [.blk b 131 2 [.pointer none, .slice a n cap]]) rfl fn_104 rfl aPs (fun w1 h1 hf => c104a w1 b _ hf)) rfl (fun _ _ => ?_)
  refine o_nil ?_
  refine s_seq ?_
  refine s_region ?_
  refine o_p (p_pure rfl) rfl ?_
  refine o_p (p_pure rfl) rfl ?_
  refine o_p (p_pure rfl) rfl ?_
  refine o_p (p_fieldAddr rfl rfl fd_131_1 sz_112 rfl) rfl ?_
  refine o_q (q_load rfl rfl sz_112 aPk rfl) rfl ?_
  refine o_p (p_pure rfl) rfl ?_
  refine o_h (h_append_strS rfl rfl rfl sl_112 Tryz.underlying9 zr_5 rfl aPk (by omega) (by simp only [maxLen]; omega)) rfl (fun b1 _ => ?_)
  refine o_p (p_pure rfl) rfl ?_
  refine o_p (p_fieldAddr rfl rfl fd_131_1 sz_112 rfl) rfl ?_
  refine o_h0 (h_store rfl rfl rfl sz_112 rfl aPt (by simp only [setMany_length, List.length_set, List.length_cons, List.length_nil, List.length_map]; omega) rfl) (fun _ _ => ?_)
  refine o_nil ?_
  refine s_seq ?_
  refine s_region ?_
  refine o_p (p_pure rfl) rfl ?_
  refine o_p (p_len_str rfl rfl Tryz.underlying9) rfl ?_
  refine o_p (p_pure rfl) rfl ?_
  refine o_p (p_pure rfl) rfl ?_
  refine o_nil ?_
  exact s_retv (rs := [.tmp 4, .tmp 5]) rfl (.tmp rfl (.tmp rfl (.nil))) (fun w' h' => ⟨b1, rfl, trivial, h'.ent aEt⟩)

set_option maxRecDepth 20000 in
theorem c87b (w : World) (b : Nat) (a : Option Addr) (n cap : Nat) (xs : List Value) (s : List UInt8) (hw : HS w (fps [.blk b 131 2 [.pointer (some ⟨b, 0, none⟩), .slice a n cap], .own (.slice a n cap) 5 1 n xs]) [.blk b 131 2 [.pointer (some ⟨b, 0, none⟩), .slice a n cap], .own (.slice a n cap) 5 1 n xs] w) (hl : n + s.length ≤ 1000000000) : Calls Tryz.prog 87 #[.pointer (some ⟨b, 0, none⟩), .string (bs s)] w fun en w' => ∃ g : Option Addr × Nat, en = .returned (.tuple #[.int .i64 (s.length : Int), .nilIface]) ∧ True ∧ HS w (fps [.blk b 131 2 [.pointer (some ⟨b, 0, none⟩), .slice a n cap], .own (.slice a n cap) 5 1 n xs]) [.blk b 131 2 [.pointer (some ⟨b, 0, none⟩), .slice g.1 (n + s.length) g.2], .own (.slice g.1 (n + s.length) g.2) 5 1 (n + s.length) (xs ++ s.map bv)] w' := by
  refine enter (args := [_, _]) Tryz.func87 Tryz.ntmps87 rfl rfl hw ?_
  refine s_seq ?_
  refine s_region ?_
  refine o_p (p_pure rfl) rfl ?_
  refine o_p (p_pure rfl) rfl ?_
  refine o_nil ?_
  refine s_seq ?_
  refine s_region ?_
  refine o_p (p_pure rfl) rfl ?_
  refine o_h (h_callF (Cs := [.blk b 131 2 [.pointer (some ⟨b, 0, none⟩), .slice a n cap]]) rfl fn_104 rfl aPs (fun w1 h1 hf => c104b w1 b _ hf)) rfl (fun _ _ => ?_)
  refine o_nil ?_
  refine s_seq ?_
  refine s_region ?_
  refine o_p (p_pure rfl) rfl ?_
  refine o_p (p_pure rfl) rfl ?_
  refine o_p (p_pure rfl) rfl ?_
  refine o_p (p_fieldAddr rfl rfl fd_131_1 sz_112 rfl) rfl ?_
  refine o_q (q_load rfl rfl sz_112 aPk rfl) rfl ?_
  refine o_p (p_pure rfl) rfl ?_
  refine o_h (h_append_strS rfl rfl rfl sl_112 Tryz.underlying9 zr_5 rfl aPk (by omega) (by simp only [maxLen]; omega)) rfl (fun b1 _ => ?_)
  refine o_p (p_pure rfl) rfl ?_
  refine o_p (p_fieldAddr rfl rfl fd_131_1 sz_112 rfl) rfl ?_
  refine o_h0 (h_store rfl rfl rfl sz_112 rfl aPt (by simp only [setMany_length, List.length_set, List.length_cons, List.length_nil, List.length_map]; omega) rfl) (fun _ _ => ?_)
  refine o_nil ?_
  refine s_seq ?_
  refine s_region ?_
  refine o_p (p_pure rfl) rfl ?_
  refine o_p (p_len_str rfl rfl Tryz.underlying9) rfl ?_
  refine o_p (p_pure rfl) rfl ?_
  refine o_p (p_pure rfl) rfl ?_
  refine o_nil ?_
  exact s_retv (rs := [.tmp 4, .tmp 5]) rfl (.tmp rfl (.tmp rfl (.nil))) (fun w' h' => ⟨b1, rfl, trivial, h'.ent aEt⟩)

set_option maxRecDepth 20000 in
theorem d89 (w : World) (b q cap : Nat) (l : List UInt8) (hw : HS w (fps [.blk b 131 2 [.pointer (some ⟨b, 0, none⟩), .slice (some ⟨q, 0, none⟩) l.length cap], .own (.slice (some ⟨q, 0, none⟩) l.length cap) 5 1 l.length (l.map bv)]) [.blk b 131 2 [.pointer (some ⟨b, 0, none⟩), .slice (some ⟨q, 0, none⟩) l.length cap], .own (.slice (some ⟨q, 0, none⟩) l.length cap) 5 1 l.length (l.map bv)] w) (h0 : l ≠ []) (hcap : l.length ≤ cap) : Calls Tryz.prog 89 #[.pointer (some ⟨b, 0, none⟩)] w fun en w' => ∃ g : Unit, en = .returned (.string (bs l)) ∧ True ∧ HS w (fps [.blk b 131 2 [.pointer (some ⟨b, 0, none⟩), .slice (some ⟨q, 0, none⟩) l.length cap], .own (.slice (some ⟨q, 0, none⟩) l.length cap) 5 1 l.length (l.map bv)]) [] w' := by
  have hl0 : 0 < l.length := by cases l with | nil => exact absurd rfl h0 | cons => simp
  refine enter (args := [_]) Tryz.func89 Tryz.ntmps89 rfl rfl hw ?_
  refine s_seq ?_
  refine s_region ?_
  refine o_p (p_pure rfl) rfl ?_
  refine o_nil ?_
  refine s_seq ?_
  refine s_draw [10] mixed ?_
  refine d_p 0 rfl (p_pure rfl) (by kernel_rfl) rfl rfl ?_
  refine d_p 1 rfl (p_pure rfl) (by kernel_rfl) rfl rfl ?_
  refine d_p 2 rfl (p_fieldAddr rfl rfl fd_131_1 sz_112 rfl) (by kernel_rfl) rfl rfl ?_
  refine d_q 3 [[4]] rfl (q_load rfl rfl sz_112 aPk rfl) (by kernel_rfl) (by kernel_rfl) (by kernel_rfl) rfl ?_
  refine d_p 4 rfl (p_sliceData rfl rfl (by omega)) (by kernel_rfl) rfl rfl ?_
  refine d_p 5 rfl (p_pure rfl) (by kernel_rfl) rfl rfl ?_
  refine d_p 6 rfl (p_pure rfl) (by kernel_rfl) rfl rfl ?_
  refine d_p 7 rfl (p_fieldAddr rfl rfl fd_131_1 sz_112 rfl) (by kernel_rfl) rfl rfl ?_
  refine d_q 8 [[9]] rfl (q_load rfl rfl sz_112 aPk rfl) (by kernel_rfl) (by kernel_rfl) (by kernel_rfl) rfl ?_
  refine d_p 9 rfl (p_len_slice rfl rfl Tryz.underlying112) (by kernel_rfl) rfl rfl ?_
  refine d_h 10 rfl (h_unsafeString rfl rfl rfl Tryz.underlying149 (by kernel_rfl) h0 aPk) (by kernel_rfl) (fun w h => h.ent aEt) rfl (fun _ _ => ?_)
  refine d_turn [] (by kernel_rfl) ?_
  refine d_p 11 rfl (p_pure rfl) (by kernel_rfl) rfl rfl ?_
  refine d_nil (by kernel_rfl) (fun w h => by first | exact h | exact h.ent aEt) ?_
  exact s_retv (rs := [.tmp 2]) rfl (.tmp rfl (.nil)) (fun w' h' => ⟨(), rfl, trivial, h'.nil⟩)

theorem c89 (w : World) (b : Nat) (a : Option Addr) (cap : Nat) (l : List UInt8) (hw : HS w (fps [.blk b 131 2 [.pointer (some ⟨b, 0, none⟩), .slice a l.length cap], .own (.slice a l.length cap) 5 1 l.length (l.map bv)]) [.blk b 131 2 [.pointer (some ⟨b, 0, none⟩), .slice a l.length cap], .own (.slice a l.length cap) 5 1 l.length (l.map bv)] w) (h0 : l ≠ []) : Calls Tryz.prog 89 #[.pointer (some ⟨b, 0, none⟩)] w fun en w' => ∃ g : Unit, en = .returned (.string (bs l)) ∧ True ∧ HS w (fps [.blk b 131 2 [.pointer (some ⟨b, 0, none⟩), .slice a l.length cap], .own (.slice a l.length cap) 5 1 l.length (l.map bv)]) [] w' := by
  have hl : 0 < l.length := by cases l with | nil => exact absurd rfl h0 | cons => simp
  obtain ⟨q, rfl, _, h1, _, _, hb⟩ := HS.own_blk hl (As' := [.blk b 131 2 [.pointer (some ⟨b, 0, none⟩), .slice a l.length cap]]) aPk hw
  exact d89 w b q cap l hw h0 h1

theorem c66 (w : World) (c : Nat) (hc : c ≤ 100000) : Calls Tryz.prog 66 #[.string (bs [0]), .int .i64 (c : Int)] w fun en w' => en = .returned (.string (bs (List.replicate c 0))) ∧ Below w.heap.size w w' := by
  have h := Tryz.strings_Repeat (bs [0]) c w (by omega) (by simp; omega)
  have e : Lib.repeatL (bs [0]).data.toList c = List.replicate c 0 := by
    have := Lib.repeatL_replicate 0 1 c
    simpa using this
  rw [e] at h
  exact h

end Go.Proofs

/- Plain data of chapter 18: the bytes of a half and of a stream. Nothing of a program is named here. -/
namespace Gx
set_option linter.unusedSimpArgs false
set_option linter.unusedVariables false
open Go Go.RowKit
def nmB (u : List Int) : List UInt8 := u.flatMap le4
theorem nmB_len (u : List Int) : (nmB u).length = 4 * u.length := by
  unfold nmB
  induction u with
  | nil => rfl
  | cons x u ih => rw [List.flatMap_cons, List.length_append, ih, List.length_cons]; show 4 + _ = _; omega
theorem nmB_succ {u : List Int} {k : Nat} (h : k < u.length) : nmB (u.take (k + 1)) = nmB (u.take k) ++ le4 (u.getD k 0) := by
  unfold nmB
  rw [take_succ_getD (d := 0) h, List.flatMap_append]; simp
def signB : List UInt8 := [83, 68, 83, 72]
def hd0 (nx n : Int) : List UInt8 := signB ++ nmB [nx, n]
def headS (nx n : Int) : List UInt8 := hd0 nx n ++ nmB [sumS (hd0 nx n)]
def padN (m : Int) : Nat := (upT m - m).toNat
def ilen (x : SItm) : Int := 16 + (x.by_.length : Int)
def itmS (l : List SItm) (k : Nat) : List UInt8 := nmB [hashS (nth l k).by_, (nth l k).id, (plsI (l.take k)).2, ilen (nth l k)] ++ (nth l k).by_ ++ List.replicate (padN (ilen (nth l k))) 0
def halfK (nx : Int) (l : List SItm) (k : Nat) : List UInt8 := headS nx (plsI l).2 ++ (List.range k).flatMap (itmS l)
def halfS (nx : Int) (l : List SItm) : List UInt8 := halfK nx l l.length
theorem itmS_len (l : List SItm) (k : Nat) : ((itmS l k).length : Int) = upT (16 + ((nth l k).by_.length : Int)) := by
  unfold itmS padN ilen
  rw [List.length_append, List.length_append, nmB_len, List.length_replicate]
  unfold upT
  simp only [List.length_cons, List.length_nil]
  omega
theorem halfK_succ (nx : Int) (l : List SItm) (k : Nat) : halfK nx l (k + 1) = halfK nx l k ++ itmS l k := by
  unfold halfK
  rw [List.range_succ, List.flatMap_append, ← List.append_assoc]
  simp
theorem halfK_len (nx : Int) (l : List SItm) : ∀ k, k ≤ l.length → ((halfK nx l k).length : Int) = (plsI (l.take k)).2
  | 0, _ => rfl
  | k + 1, h => by
    rw [halfK_succ, List.length_append, pls_succ (by omega)]
    have h1 := halfK_len nx l k (by omega)
    have h2 := itmS_len l k
    simp only []
    omega
theorem halfS_len (nx : Int) (l : List SItm) : ((halfS nx l).length : Int) = (plsI l).2 := by
  have := halfK_len nx l l.length (Nat.le_refl _)
  rwa [List.take_length] at this
theorem pls_get' {l : List SItm} : ∀ n, n ≤ l.length → ∀ k, k < n → (plsI (l.take n)).1.getD k 0 = (plsI (l.take k)).2
  | 0, _, k, hk => absurd hk (Nat.not_lt_zero _)
  | n + 1, hn, k, hk => by
    rw [pls_succ (by omega)]
    have hl := pls_len n l (by omega)
    rcases Nat.lt_or_ge k n with h | h
    · rw [List.getD_eq_getElem?_getD, List.getElem?_append_left (by omega), ← List.getD_eq_getElem?_getD]
      exact pls_get' n (by omega) k h
    · obtain rfl : k = n := by omega
      rw [List.getD_eq_getElem?_getD, List.getElem?_append_right (by omega), hl]
      simp
theorem pls_get {l : List SItm} {k : Nat} (h : k < l.length) : (plsI l).1.getD k 0 = (plsI (l.take k)).2 := by
  have := pls_get' (l := l) l.length (Nat.le_refl _) k h
  rwa [List.take_length] at this
def streamS (nx : Int) (l : List SItm) : List UInt8 := halfS nx l ++ List.replicate (8192 - (halfS nx l).length) 0 ++ halfS nx l
/-- Bounds of a valid store's parts. -/
theorem pls_mono {l : List SItm} (hb : ∀ x ∈ l, x.by_.length ≤ 100000) : ∀ n, n ≤ l.length → ∀ k, k ≤ n → (plsI (l.take k)).2 ≤ (plsI (l.take n)).2
  | 0, _, k, hk => by obtain rfl : k = 0 := by omega
                      exact Int.le_refl _
  | n + 1, hn, k, hk => by
    rcases Nat.lt_or_ge k (n + 1) with h | h
    · have h1 := pls_mono hb n (by omega) k (by omega)
      rw [pls_succ (show n < l.length by omega)]
      unfold upT
      simp only []
      omega
    · obtain rfl : k = n + 1 := by omega
      exact Int.le_refl _
end Gx

namespace Go.Proofs
open Go Go.RowKit Gx
set_option linter.unusedVariables false
set_option linter.unusedSimpArgs false
attribute [local irreducible] Go.Calls Gx.S Gx.O Gx.D Gx.OpP Gx.OpQ Gx.OpH

theorem fn_103 : isFn Tryz.prog 103 = true := by kernel_rfl
theorem fn_86 : isFn Tryz.prog 86 = true := by kernel_rfl
theorem zr_131 : tzero Tryz.prog 131 = some [.pointer none, .slice none 0 0] := by kernel_rfl
theorem fn_88 : isFn Tryz.prog 88 = true := by kernel_rfl
theorem fn_87 : isFn Tryz.prog 87 = true := by kernel_rfl
theorem fn_66 : isFn Tryz.prog 66 = true := by kernel_rfl
theorem fn_89 : isFn Tryz.prog 89 = true := by kernel_rfl


set_option maxRecDepth 20000 in
theorem c86 (w : World) (ua : Option Addr) (uc : Nat) (u : List Int) (hu : Vl w ua (u.map nv)) (hum : u.length ≤ 1000) (hur : ∀ x ∈ u, 0 ≤ x ∧ x < 4294967296) : Calls Tryz.prog 86 #[.slice ua u.length uc] w fun en w' => en = .returned (.string (bs (nmB u))) ∧ Below w.heap.size w w' := by
  refine enter (args := [_]) Tryz.func86 Tryz.ntmps86 rfl rfl (HS.refl w []) ?_
  refine s_seq ?_
  refine s_region ?_
  refine o_p (p_pure rfl) rfl ?_
  refine o_nil ?_
  refine s_seq ?_
  refine s_region ?_
  refine o_p (p_pure rfl) rfl ?_
  refine o_nil ?_
  refine s_seq ?_
  refine s_seq ?_
  refine s_region ?_
  refine o_p (p_pure rfl) rfl ?_
  refine o_p (p_len_slice rfl rfl Tryz.underlying25) rfl ?_
  refine o_p (p_pure rfl) rfl ?_
  refine o_nil ?_
  refine s_block ?_
  refine s_loopI (α := Nat × Option Addr × Nat) [3, 5, 8, 9, 10, 11, 12, 13, 14, 15, 16] (fun y => [(8, .int .i64 (y.1 : Int)), (3, .slice y.2.1 (nmB (u.take y.1)).length y.2.2)]) (fun y => HS w [] [.own (.slice y.2.1 (nmB (u.take y.1)).length y.2.2) 5 1 ((nmB (u.take y.1)).length) (((nmB (u.take y.1))).map bv)]) (fun y => y.1 ≤ u.length) (fun y => u.length - y.1) (0, none, 0) (Nat.zero_le _) aSx (fun w h => (h.own_nil 5 1).ent aEt) (fun ⟨k, ga⟩ hk1 => ?_)
  dsimp only
  simp only [] at hk1
  refine s_seq ?_
  refine s_region ?_
  refine o_p (p_pure rfl) rfl ?_
  refine o_nil ?_
  refine s_seq ?_
  refine s_cond rfl (fun h1 => ?_) (fun h1 => ?_)
  · try simp only [decide_eq_true_eq, decide_eq_false_iff_not, Bool.not_eq_true', Bool.not_eq_false', Bool.and_eq_true, Bool.or_eq_true, Bool.and_eq_false_iff, Bool.or_eq_false_iff, Bool.not_true, Bool.not_false] at h1
    have hk : k < u.length := by omega
    have hst := nmB_succ hk
    have hnl := nmB_len (u.take k)
    rw [List.length_take] at hnl
    have hr9 := hur _ (getD_mem (d := 0) hk)
    refine s_skip ?_
    refine s_seq ?_
    refine s_block ?_
    refine s_seq ?_
    refine s_region ?_
    refine o_p (p_indexAddr rfl rfl rfl sl_25 (k) (by omega) (by omega) (hu.some (by rw [List.length_map]; omega))) rfl ?_
    refine o_q (q_load_old rfl rfl sz_3 ((hu.rd (nv_get hk)))) rfl ?_
    refine o_p (p_pure rfl) rfl ?_
    refine o_nil ?_
    refine s_region ?_
    refine o_p (p_pure rfl) rfl ?_
    refine o_p (p_pure rfl) rfl ?_
    refine o_p (p_conv_int rfl rfl ki_3 ki_114) rfl ?_
    refine o_slot (show _ = Value.int .u32 (u.getD k 0) from by rw [u32wM, Int.emod_eq_of_lt (by omega) (by omega)]) ?_
    refine o_h (h_callF (Cs := [.own (.slice ga.1 (nmB (u.take k)).length ga.2) 5 1 ((nmB (u.take k)).length) (((nmB (u.take k))).map bv)]) rfl fn_103 rfl aPs (fun w1 h1 hf => c103 w1 ga.1 ga.2 (nmB (u.take k)) (u.getD k 0) hf (by omega) (by omega))) rfl (fun gn _ => ?_)
    refine o_p (p_pure rfl) rfl ?_
    refine o_nil ?_
    refine s_blk ?_
    refine s_region ?_
    refine o_p (p_pure rfl) rfl ?_
    try (refine o_slot (i64w (by omega) (by omega)) ?_)
    refine o_p (p_pure rfl) rfl ?_
    refine o_nil ?_
    exact s_backI (k + 1, gn) (by (try simp only []); omega) (by (try simp only []); omega) (by dsimp only; rw [hst]; exact aSx) (fun w h => by dsimp only; rw [hst]; exact h.ent aEt)
  · try simp only [decide_eq_true_eq, decide_eq_false_iff_not, Bool.not_eq_true', Bool.not_eq_false', Bool.and_eq_true, Bool.or_eq_true, Bool.and_eq_false_iff, Bool.or_eq_false_iff, Bool.not_true, Bool.not_false] at h1
    obtain rfl : k = u.length := by omega
    rw [List.take_length]
    refine s_exit_to rfl ?_
    refine s_seq ?_
    refine s_region ?_
    refine o_p (p_pure rfl) rfl ?_
    refine o_q (q_string_own rfl rfl Tryz.underlying112 Tryz.underlying9 Tryz.underlying5 aPk (isU8_bv _)) rfl ?_
    refine o_p (p_pure rfl) rfl ?_
    refine o_nil ?_
    exact s_retv (rs := [.tmp 2]) rfl (.tmp rfl (.nil)) (fun w' h' => ⟨by rw [vByte_bv]; rfl, h'.below⟩)

set_option maxRecDepth 20000 in
set_option maxHeartbeats 2000000 in
theorem c65 (w : World) (nx : Int) (a : Option Addr) (cap : Nat) (l : List SItm) (hs : Rw SItm.vals 2 w [] a l) (hm : l.length ≤ 100000) (hb : ∀ x ∈ l, x.by_.length ≤ 100000) (hst0 : (stoE nx l).2 = 0) : Calls Tryz.prog 65 #[.agg #[.int .i64 nx, .slice a l.length cap]] w fun en w' => en = .returned (.string (bs (halfS nx l))) ∧ Below w.heap.size w w' := by
  obtain ⟨hnx, hl60, hit9, hpl9⟩ := sto_ok hst0
  have hple := pls_le' hb
  have hsu := sumS_le (hd0 nx (plsI l).2)
  have hhl := halfS_len nx l
  have hd0l : (hd0 nx (plsI l).2).length = 12 := rfl
  have hhsl : (headS nx (plsI l).2).length = 16 := rfl
  refine enter (args := [_]) Tryz.func65 Tryz.ntmps65 rfl rfl (HS.refl w []) ?_
  refine s_seq ?_
  refine s_region ?_
  refine o_h (h_box rfl rfl) rfl (fun b1 _ => ?_)
  refine o_p (p_pure rfl) rfl ?_
  refine o_nil ?_
  refine s_seq ?_
  refine s_region ?_
  refine o_p (p_fieldAddr rfl rfl fd_24_1 sz_22 rfl) rfl ?_
  refine o_q (q_load rfl rfl sz_22 aPk rfl) rfl ?_
  refine o_h (h_call rfl fn_54 rfl (fun w1 h1 => c54 w1 a cap l (hs.later h1) hm hb)) rfl (fun gp _ => ?_)
  refine o_p (p_pure rfl) rfl ?_
  refine o_p (p_pure rfl) rfl ?_
  refine o_p (p_pure rfl) rfl ?_
  refine o_p (p_pure rfl) rfl ?_
  refine o_p (p_pure rfl) rfl ?_
  refine o_nil ?_
  refine s_seq ?_
  refine s_region ?_
  refine o_p (p_fieldAddr rfl rfl fd_24_0 sz_3 rfl) rfl ?_
  refine o_q (q_load rfl rfl sz_3 aPk rfl) rfl ?_
  refine o_p (p_pure rfl) rfl ?_
  refine o_h (h_buildSlice (cs := [_, _]) rfl rfl sl_25 zr_3 rfl rfl rfl) rfl (fun b2 _ => ?_)
  refine o_q (q_call rfl fn_86 rfl (fun w1 h1 => c86 w1 _ _ [nx, (plsI l).2] (h1.vl_blk aPk) (by simp) (by intro x hx; simp only [List.mem_cons, List.mem_nil_iff, or_false] at hx; rcases hx with rfl | rfl <;> omega))) rfl ?_
  refine o_p (p_str_add rfl rfl rfl (by (try simp only [List.length_append, List.length_cons, List.length_nil, List.length_replicate, List.length_take, List.length_drop, nmB_len, List.length_cons]); omega)) rfl ?_
  refine o_slot (show _ = Value.string (bs (hd0 nx (plsI l).2)) from rfl) ?_
  refine o_p (p_pure rfl) rfl ?_
  refine o_nil ?_
  refine s_seq ?_
  refine s_region ?_
  refine o_h (h_alloc rfl zr_131) rfl (fun b3 _ => ?_)
  refine o_class (C' := HS w [] [.own (.slice none 0 0) 5 1 0 [], .blk b3 131 2 [.pointer none, .slice none 0 0], .own (.slice gp.1 l.length gp.2) 3 1 l.length ((plsI l).1.map nv), .blk b1 24 2 [.int .i64 nx, .slice a l.length cap]]) (fun w h => (h.own_nil 5 1).ent aEt) ?_
  refine o_nil ?_
  refine s_seq ?_
  refine s_region ?_
  refine o_p (p_pure rfl) rfl ?_
  refine o_p (p_pure rfl) rfl ?_
  refine o_q (q_call rfl fn_88 rfl (fun w1 h1 => c88 w1 (hd0 nx (plsI l).2) (by omega))) rfl ?_
  refine o_h (h_buildSlice (cs := [_]) rfl rfl sl_25 zr_3 rfl rfl rfl) rfl (fun b4 _ => ?_)
  refine o_q (q_call rfl fn_86 rfl (fun w1 h1 => c86 w1 _ _ [sumS (hd0 nx (plsI l).2)] (h1.vl_blk aPk) (by simp) (by intro x hx; simp only [List.mem_cons, List.mem_nil_iff, or_false] at hx; rcases hx with rfl <;> omega))) rfl ?_
  refine o_p (p_str_add rfl rfl rfl (by (try simp only [List.length_append, List.length_cons, List.length_nil, List.length_replicate, List.length_take, List.length_drop, nmB_len, List.length_cons]); omega)) rfl ?_
  refine o_slot (show _ = Value.string (bs (headS nx (plsI l).2)) from rfl) ?_
  refine o_h (h_callF (Cs := [.blk b3 131 2 [.pointer none, .slice none 0 0], .own (.slice none 0 0) 5 1 0 []]) rfl fn_87 rfl aPs (fun w1 h1 hf => c87a w1 b3 none 0 0 [] (headS nx (plsI l).2) hf (by omega))) rfl (fun g1 _ => ?_)
  refine o_nil ?_
  refine s_seq ?_
  refine s_seq ?_
  refine s_region ?_
  refine o_p (p_fieldAddr rfl rfl fd_24_1 sz_22 rfl) rfl ?_
  refine o_q (q_load rfl rfl sz_22 aPk rfl) rfl ?_
  refine o_p (p_len_slice rfl rfl Tryz.underlying22) rfl ?_
  refine o_p (p_pure rfl) rfl ?_
  refine o_nil ?_
  refine s_block ?_
  refine s_weaken (L' := [(2, _), (3, _), (6, _), (30, _), (31, _), (32, _)]) aSx (fun _ h => h) ?_
  refine s_loopI (α := Nat × Option Addr × Nat) [7, 8, 9, 32, 33, 34, 35, 36, 37, 38, 39, 40, 41, 42, 43, 44, 45, 46, 47, 48, 49, 50, 51, 52, 53, 54, 55, 56, 57, 58, 59, 60, 61, 62, 63] (fun y => [(32, .int .i64 (y.1 : Int))]) (fun y => HS w [] [.blk b3 131 2 [.pointer (some ⟨b3, 0, none⟩), .slice y.2.1 (halfK nx l y.1).length y.2.2], .own (.slice y.2.1 (halfK nx l y.1).length y.2.2) 5 1 (halfK nx l y.1).length ((halfK nx l y.1).map bv), .own (.slice gp.1 l.length gp.2) 3 1 l.length ((plsI l).1.map nv), .blk b1 24 2 [.int .i64 nx, .slice a l.length cap]]) (fun y => y.1 ≤ l.length) (fun y => l.length - y.1) (0, g1.1, g1.2) (Nat.zero_le _) aSx (fun w h => by dsimp only; rw [show (halfK nx l 0) = headS nx (plsI l).2 from List.append_nil _]; exact h.ent aEt) (fun ⟨k, ga⟩ hk1 => ?_)
  dsimp only
  simp only [] at hk1
  refine s_seq ?_
  refine s_region ?_
  refine o_p (p_pure rfl) rfl ?_
  refine o_nil ?_
  refine s_seq ?_
  refine s_cond rfl (fun h5 => ?_) (fun h5 => ?_)
  · try simp only [decide_eq_true_eq, decide_eq_false_iff_not, Bool.not_eq_true', Bool.not_eq_false', Bool.and_eq_true, Bool.or_eq_true, Bool.and_eq_false_iff, Bool.or_eq_false_iff, Bool.not_true, Bool.not_false] at h5
    have hk : k < l.length := by omega
    have hrg := (itm_rng (hit9 k hk)).1
    have hbk : (nth l k).by_.length ≤ 100000 := hb _ (getD_mem hk)
    have hpk := pls_le hb k (by omega)
    have hpm := pls_mono hb l.length (Nat.le_refl _) k (by omega)
    rw [List.take_length] at hpm
    have hhk := halfK_len nx l k (by omega)
    have hha := hashS_le (nth l k).by_
    have hup : upT (ilen (nth l k)) - ilen (nth l k) = ((padN (ilen (nth l k)) : Nat) : Int) ∧ padN (ilen (nth l k)) ≤ 16 := by unfold padN upT ilen; omega
    have hil : ilen (nth l k) = 16 + ((nth l k).by_.length : Int) := rfl
    have hpl5 := pls_len' l
    have hsc : halfK nx l (k + 1) = ((halfK nx l k) ++ (nmB [hashS (nth l k).by_, (nth l k).id, (plsI (l.take k)).2, ilen (nth l k)] ++ (nth l k).by_)) ++ (List.replicate (padN (ilen (nth l k))) (0 : UInt8)) := by rw [halfK_succ]; unfold itmS; rw [← List.append_assoc]
    refine s_fact (fun w h => Vl.some (HS.vl_own (a := gp.1) (t := 3) h aPk) (by rw [List.length_map]; omega)) fun hsm => ?_
    refine s_skip ?_
    refine s_seq ?_
    refine s_block ?_
    refine s_seq ?_
    refine s_region ?_
    refine o_p (p_pure rfl) rfl ?_
    refine o_p (p_indexAddr rfl rfl rfl sl_22 (k) (by omega) (by omega) (Rw.some hs (by omega))) rfl ?_
    refine o_q (q_load_oldn _ rfl rfl sz_77 rfl (Rw.rd hs hk)) rfl ?_
    refine o_h (h_alloc rfl zr_77) rfl (fun b6 _ => ?_)
    refine o_p (p_pure rfl) rfl ?_
    refine o_h0 (h_store rfl rfl rfl sz_77 rfl aPt (by simp only [setMany_length, List.length_set, List.length_cons, List.length_nil, List.length_map]; omega) rfl) (fun _ _ => ?_)
    refine o_nil ?_
    refine s_seq ?_
    refine s_region ?_
    refine o_p (p_fieldAddr rfl rfl fd_77_1 sz_9 rfl) rfl ?_
    refine o_q (q_load rfl rfl sz_9 aPk rfl) rfl ?_
    refine o_p (p_len_str rfl rfl Tryz.underlying9) rfl ?_
    refine o_p (p_pure rfl) rfl ?_
    try (refine o_slot (i64w (by omega) (by omega)) ?_)
    refine o_slot (show _ = Value.int .i64 (ilen (nth l k)) from rfl) ?_
    refine o_p (p_pure rfl) rfl ?_
    refine o_nil ?_
    refine s_seq ?_
    refine s_draw [15] mixed ?_
    refine d_p 0 rfl (p_fieldAddr rfl rfl fd_77_1 sz_9 rfl) (by kernel_rfl) rfl rfl ?_
    refine d_q 1 [[11, 2]] rfl (q_load rfl rfl sz_9 aPk rfl) (by kernel_rfl) (by kernel_rfl) (by kernel_rfl) rfl ?_
    refine d_q 2 [[11]] rfl (q_call rfl fn_48 rfl (fun w1 h1 => c48 w1 (nth l k).by_ (by omega))) (by kernel_rfl) (by kernel_rfl) (by kernel_rfl) rfl ?_
    refine d_p 3 rfl (p_fieldAddr rfl rfl fd_77_0 sz_3 rfl) (by kernel_rfl) rfl rfl ?_
    refine d_q 4 [[11, 10]] rfl (q_load rfl rfl sz_3 aPk rfl) (by kernel_rfl) (by kernel_rfl) (by kernel_rfl) rfl ?_
    refine d_p 5 rfl (p_pure rfl) (by kernel_rfl) rfl rfl ?_
    refine d_p 6 rfl (p_pure rfl) (by kernel_rfl) rfl rfl ?_
    refine d_p 7 rfl (p_indexAddr rfl rfl rfl sl_25 (k) (by omega) (by omega) hsm) (by kernel_rfl) rfl rfl ?_
    refine d_q 8 [[11, 10]] rfl (q_load_at rfl rfl sz_3 (fun w h => (HS.vl_own (a := gp.1) (t := 3) h aPk).rd (nv_get (k := k) (by omega)))) (by kernel_rfl) (by kernel_rfl) (by kernel_rfl) rfl ?_
    refine d_slot (show _ = Value.int .i64 (plsI (l.take k)).2 from by rw [pls_get hk]) ?_
    refine d_p 9 rfl (p_pure rfl) (by kernel_rfl) rfl rfl ?_
    refine d_p 12 rfl (p_fieldAddr rfl rfl fd_77_1 sz_9 rfl) (by kernel_rfl) rfl rfl ?_
    refine d_q 13 [[14]] rfl (q_load rfl rfl sz_9 aPk rfl) (by kernel_rfl) (by kernel_rfl) (by kernel_rfl) rfl ?_
    refine d_h 10 rfl (h_buildSlice (cs := [_, _, _, _]) rfl rfl sl_25 zr_3 rfl rfl rfl) (by kernel_rfl) (fun w h => h.ent aEt) rfl (fun b7 _ => ?_)
    refine d_base (fun w h => h.ent aEt) ?_
    refine d_q 11 [[]] rfl (q_call rfl fn_86 rfl (fun w1 h1 => c86 w1 _ _ [hashS (nth l k).by_, (nth l k).id, (plsI (l.take k)).2, ilen (nth l k)] (h1.vl_blk aPk) (by simp) (by intro x hx; simp only [List.mem_cons, List.mem_nil_iff, or_false] at hx; rcases hx with rfl | rfl | rfl | rfl <;> omega))) (by kernel_rfl) (by kernel_rfl) (by kernel_rfl) rfl ?_
    refine d_p 14 rfl (p_str_add rfl rfl rfl (by (try simp only [List.length_append, List.length_cons, List.length_nil, List.length_replicate, List.length_take, List.length_drop, nmB_len, List.length_cons]); omega)) (by kernel_rfl) rfl rfl ?_
    refine d_slot (show _ = Value.string (bs (nmB [hashS (nth l k).by_, (nth l k).id, (plsI (l.take k)).2, ilen (nth l k)] ++ (nth l k).by_)) from rfl) ?_
    refine d_h 15 rfl (h_callF (Cs := [.blk b3 131 2 [.pointer (some ⟨b3, 0, none⟩), .slice ga.1 (halfK nx l k).length ga.2], .own (.slice ga.1 (halfK nx l k).length ga.2) 5 1 (halfK nx l k).length ((halfK nx l k).map bv)]) rfl fn_87 rfl aPs (fun w1 h1 hf => c87b w1 b3 ga.1 (halfK nx l k).length ga.2 ((halfK nx l k).map bv) (nmB [hashS (nth l k).by_, (nth l k).id, (plsI (l.take k)).2, ilen (nth l k)] ++ (nth l k).by_) hf (by simp only [List.length_append, List.length_replicate, nmB_len, List.length_cons, List.length_nil]; omega))) (by kernel_rfl) (fun w h => h.ent aEt) rfl (fun g2 _ => ?_)
    refine d_turn [] (by kernel_rfl) ?_
    refine d_nil (by kernel_rfl) (fun w h => by first | exact h | exact h.ent aEt) ?_
    refine s_weaken (L' := [(2, _), (3, _), (6, _), (9, _), (30, _), (31, _), (32, _)]) aSx (fun _ h => h) ?_
    refine s_region ?_
    refine o_p (p_pure rfl) rfl ?_
    refine o_class (C' := HS w [] [.blk b3 131 2 [.pointer (some ⟨b3, 0, none⟩), .slice g2.1 ((halfK nx l k) ++ (nmB [hashS (nth l k).by_, (nth l k).id, (plsI (l.take k)).2, ilen (nth l k)] ++ (nth l k).by_)).length g2.2], .own (.slice g2.1 ((halfK nx l k) ++ (nmB [hashS (nth l k).by_, (nth l k).id, (plsI (l.take k)).2, ilen (nth l k)] ++ (nth l k).by_)).length g2.2) 5 1 ((halfK nx l k) ++ (nmB [hashS (nth l k).by_, (nth l k).id, (plsI (l.take k)).2, ilen (nth l k)] ++ (nth l k).by_)).length (((halfK nx l k) ++ (nmB [hashS (nth l k).by_, (nth l k).id, (plsI (l.take k)).2, ilen (nth l k)] ++ (nth l k).by_)).map bv), .blk b6 77 2 [.int .i64 (nth l k).id, .string (bs (nth l k).by_)], .own (.slice gp.1 l.length gp.2) 3 1 l.length ((plsI l).1.map nv), .blk b1 24 2 [.int .i64 nx, .slice a l.length cap]]) (fun w h => by rw [List.map_append (l₁ := (halfK nx l k)), @List.length_append _ (halfK nx l k) (nmB [hashS (nth l k).by_, (nth l k).id, (plsI (l.take k)).2, ilen (nth l k)] ++ (nth l k).by_)]; exact h.ent aEt) ?_
    refine o_q (q_call rfl fn_80 rfl (fun w1 h1 => c80 w1 (ilen (nth l k)) (by omega))) rfl ?_
    refine o_p (p_pure rfl) rfl ?_
    refine o_p (p_pure rfl) rfl ?_
    try (refine o_slot (i64w (by omega) (by omega)) ?_)
    refine o_slot (show _ = Value.int .i64 ((padN (ilen (nth l k)) : Nat) : Int) from by rw [hup.1]) ?_
    refine o_q (q_call rfl fn_66 rfl (fun w1 h1 => c66 w1 (padN (ilen (nth l k))) (by omega))) rfl ?_
    refine o_h (h_callF (Cs := [.blk b3 131 2 [.pointer (some ⟨b3, 0, none⟩), .slice g2.1 ((halfK nx l k) ++ (nmB [hashS (nth l k).by_, (nth l k).id, (plsI (l.take k)).2, ilen (nth l k)] ++ (nth l k).by_)).length g2.2], .own (.slice g2.1 ((halfK nx l k) ++ (nmB [hashS (nth l k).by_, (nth l k).id, (plsI (l.take k)).2, ilen (nth l k)] ++ (nth l k).by_)).length g2.2) 5 1 ((halfK nx l k) ++ (nmB [hashS (nth l k).by_, (nth l k).id, (plsI (l.take k)).2, ilen (nth l k)] ++ (nth l k).by_)).length (((halfK nx l k) ++ (nmB [hashS (nth l k).by_, (nth l k).id, (plsI (l.take k)).2, ilen (nth l k)] ++ (nth l k).by_)).map bv)]) rfl fn_87 rfl aPs (fun w1 h1 hf => c87b w1 b3 g2.1 ((halfK nx l k) ++ (nmB [hashS (nth l k).by_, (nth l k).id, (plsI (l.take k)).2, ilen (nth l k)] ++ (nth l k).by_)).length g2.2 (((halfK nx l k) ++ (nmB [hashS (nth l k).by_, (nth l k).id, (plsI (l.take k)).2, ilen (nth l k)] ++ (nth l k).by_)).map bv) (List.replicate (padN (ilen (nth l k))) (0 : UInt8)) hf (by simp only [List.length_append, List.length_replicate, nmB_len, List.length_cons, List.length_nil]; omega))) rfl (fun g3 _ => ?_)
    refine o_class (C' := HS w [] [.blk b3 131 2 [.pointer (some ⟨b3, 0, none⟩), .slice g3.1 (((halfK nx l k) ++ (nmB [hashS (nth l k).by_, (nth l k).id, (plsI (l.take k)).2, ilen (nth l k)] ++ (nth l k).by_)) ++ (List.replicate (padN (ilen (nth l k))) (0 : UInt8))).length g3.2], .own (.slice g3.1 (((halfK nx l k) ++ (nmB [hashS (nth l k).by_, (nth l k).id, (plsI (l.take k)).2, ilen (nth l k)] ++ (nth l k).by_)) ++ (List.replicate (padN (ilen (nth l k))) (0 : UInt8))).length g3.2) 5 1 (((halfK nx l k) ++ (nmB [hashS (nth l k).by_, (nth l k).id, (plsI (l.take k)).2, ilen (nth l k)] ++ (nth l k).by_)) ++ (List.replicate (padN (ilen (nth l k))) (0 : UInt8))).length ((((halfK nx l k) ++ (nmB [hashS (nth l k).by_, (nth l k).id, (plsI (l.take k)).2, ilen (nth l k)] ++ (nth l k).by_)) ++ (List.replicate (padN (ilen (nth l k))) (0 : UInt8))).map bv), .own (.slice gp.1 l.length gp.2) 3 1 l.length ((plsI l).1.map nv), .blk b1 24 2 [.int .i64 nx, .slice a l.length cap]]) (fun w h => by rw [List.map_append (l₁ := ((halfK nx l k) ++ (nmB [hashS (nth l k).by_, (nth l k).id, (plsI (l.take k)).2, ilen (nth l k)] ++ (nth l k).by_))), @List.length_append _ ((halfK nx l k) ++ (nmB [hashS (nth l k).by_, (nth l k).id, (plsI (l.take k)).2, ilen (nth l k)] ++ (nth l k).by_)) (List.replicate (padN (ilen (nth l k))) (0 : UInt8))]; exact h.ent aEt) ?_
    refine o_nil ?_
    refine s_blk ?_
    refine s_region ?_
    refine o_p (p_pure rfl) rfl ?_
    try (refine o_slot (i64w (by omega) (by omega)) ?_)
    refine o_p (p_pure rfl) rfl ?_
    refine o_nil ?_
    exact s_backI (k + 1, g3) (by (try simp only []); omega) (by (try simp only []); omega) aSx (fun w h => by dsimp only; rw [hsc]; exact h.ent aEt)
  · try simp only [decide_eq_true_eq, decide_eq_false_iff_not, Bool.not_eq_true', Bool.not_eq_false', Bool.and_eq_true, Bool.or_eq_true, Bool.and_eq_false_iff, Bool.or_eq_false_iff, Bool.not_true, Bool.not_false] at h5
    obtain rfl : k = l.length := by omega
    refine s_exit_to rfl ?_
    refine s_seq ?_
    refine s_region ?_
    refine o_h (h_callF (Cs := [.blk b3 131 2 [.pointer (some ⟨b3, 0, none⟩), .slice ga.1 (halfS nx l).length ga.2], .own (.slice ga.1 (halfS nx l).length ga.2) 5 1 (halfS nx l).length ((halfS nx l).map bv)]) rfl fn_89 rfl aPs (fun w1 h1 hf => c89 w1 b3 ga.1 ga.2 (halfS nx l) hf (by intro e9; rw [e9] at hhl; simp at hhl; omega))) rfl (fun _ _ => ?_)
    refine o_p (p_pure rfl) rfl ?_
    refine o_nil ?_
    exact s_retv (rs := [.tmp 2]) rfl (.tmp rfl (.nil)) (fun w' h' => ⟨by rfl, h'.below⟩)

end Go.Proofs

namespace Go.Proofs
open Go Go.RowKit Gx
set_option linter.unusedVariables false
set_option linter.unusedSimpArgs false
attribute [local irreducible] Go.Calls Gx.S Gx.O Gx.D Gx.OpP Gx.OpQ Gx.OpH

theorem fn_65 : isFn Tryz.prog 65 = true := by kernel_rfl
theorem fn_23 : isFn Tryz.prog 23 = true := by kernel_rfl
theorem fn_34 : isFn Tryz.prog 34 = true := by kernel_rfl
theorem fn_9 : isFn Tryz.prog 9 = true := by kernel_rfl


set_option maxRecDepth 20000 in
theorem c38 (w : World) (nx : Int) (a : Option Addr) (cap : Nat) (l : List SItm) (hs : Rw SItm.vals 2 w [] a l) (hm : l.length ≤ 100000) (hb : ∀ x ∈ l, x.by_.length ≤ 100000) : Calls Tryz.prog 38 #[.agg #[.int .i64 nx, .slice a l.length cap]] w fun en w' => en = .returned (.tuple #[.string (bs (if (stoE nx l).2 = 0 then streamS nx l else [])), .int .i64 (stoE nx l).2]) ∧ Below w.heap.size w w' := by
  refine enter (args := [_]) Tryz.func38 Tryz.ntmps38 rfl rfl (HS.refl w []) ?_
  refine s_seq ?_
  refine s_region ?_
  refine o_h (h_box rfl rfl) rfl (fun b1 _ => ?_)
  refine o_p (p_pure rfl) rfl ?_
  refine o_p (p_pure rfl) rfl ?_
  refine o_nil ?_
  refine s_seq ?_
  refine s_seq ?_
  refine s_region ?_
  refine o_q (q_loadn rfl rfl sz_24 aPk rfl) rfl ?_
  refine o_q (q_call rfl fn_39 rfl (fun w1 h1 => c39 w1 nx a cap l (hs.later h1) hm hb)) rfl ?_
  refine o_p (p_pure rfl) rfl ?_
  refine o_nil ?_
  refine s_seq ?_
  refine s_region ?_
  refine o_p (p_pure rfl) rfl ?_
  refine o_p (p_pure rfl) rfl ?_
  refine o_nil ?_
  refine s_cond rfl (fun h2 => ?_) (fun h2 => ?_)
  · try simp only [decide_eq_true_eq, decide_eq_false_iff_not, Bool.not_eq_true', Bool.not_eq_false', Bool.and_eq_true, Bool.or_eq_true, Bool.and_eq_false_iff, Bool.or_eq_false_iff, Bool.not_true, Bool.not_false] at h2
    have h0 : ¬ (stoE nx l).2 = 0 := h2
    refine s_seq ?_
    refine s_region ?_
    refine o_p (p_pure rfl) rfl ?_
    refine o_p (p_pure rfl) rfl ?_
    refine o_p (p_pure rfl) rfl ?_
    refine o_nil ?_
    exact s_retv (rs := [.tmp 2, .tmp 3]) rfl (.tmp rfl (.tmp rfl (.nil))) (fun w' h' => ⟨by rw [if_neg h0]; rfl, h'.below⟩)
  · try simp only [decide_eq_true_eq, decide_eq_false_iff_not, Bool.not_eq_true', Bool.not_eq_false', Bool.and_eq_true, Bool.or_eq_true, Bool.and_eq_false_iff, Bool.or_eq_false_iff, Bool.not_true, Bool.not_false] at h2
    have h0 : (stoE nx l).2 = 0 := h2
    obtain ⟨hnx, hl60, hit9, hpl9⟩ := sto_ok h0
    have hhl := halfS_len nx l
    refine s_skip ?_
    refine s_seq ?_
    refine s_region ?_
    refine o_q (q_loadn rfl rfl sz_24 aPk rfl) rfl ?_
    refine o_q (q_call rfl fn_65 rfl (fun w1 h1 => c65 w1 nx a cap l (hs.later h1) hm hb h0)) rfl ?_
    refine o_p (p_pure rfl) rfl ?_
    refine o_nil ?_
    refine s_seq ?_
    refine s_region ?_
    refine o_p (p_pure rfl) rfl ?_
    refine o_p (p_pure rfl) rfl ?_
    refine o_p (p_len_str rfl rfl Tryz.underlying9) rfl ?_
    refine o_p (p_pure rfl) rfl ?_
    try (refine o_slot (i64w (by omega) (by omega)) ?_)
    refine o_slot (show _ = Value.int .i64 ((8192 - (halfS nx l).length : Nat) : Int) from congrArg (Value.int .i64) (by omega)) ?_
    refine o_q (q_call rfl fn_66 rfl (fun w1 h1 => c66 w1 (8192 - (halfS nx l).length) (by omega))) rfl ?_
    refine o_p (p_str_add rfl rfl rfl (by (try simp only [List.length_append, List.length_cons, List.length_nil, List.length_replicate, List.length_take, List.length_drop, List.length_append, List.length_replicate]); omega)) rfl ?_
    refine o_p (p_pure rfl) rfl ?_
    refine o_p (p_str_add rfl rfl rfl (by (try simp only [List.length_append, List.length_cons, List.length_nil, List.length_replicate, List.length_take, List.length_drop, List.length_append, List.length_replicate]); omega)) rfl ?_
    refine o_slot (show _ = Value.string (bs (streamS nx l)) from by rw [streamS]) ?_
    refine o_p (p_pure rfl) rfl ?_
    refine o_p (p_pure rfl) rfl ?_
    refine o_nil ?_
    exact s_retv (rs := [.tmp 2, .tmp 3]) rfl (.tmp rfl (.tmp rfl (.nil))) (fun w' h' => ⟨by rw [if_pos h0, h0]; rfl, h'.below⟩)

set_option maxRecDepth 20000 in
set_option maxHeartbeats 1000000 in
theorem c35 (w : World) (nx : Int) (a : Option Addr) (cap : Nat) (l : List SItm) (d : Dsc) (ea : Option Addr) (eac : Nat) (aa : Option Addr) (aac : Nat) (hs : Rw SItm.vals 2 w [] a l) (hm : l.length ≤ 100000) (hb : ∀ x ∈ l, x.by_.length ≤ 100000) (hse : Rw Ace.vals 4 w [] ea d.en) (hsa : Rw Ace.vals 4 w [] aa d.au) (hme : d.en.length ≤ 100000) (hma : d.au.length ≤ 100000) (hst0 : (stoE nx l).2 = 0) (hok : (dscE d).2 = 0) : Calls Tryz.prog 35 #[.agg #[.int .i64 nx, .slice a l.length cap], .agg #[.int .i64 d.ow, .int .i64 d.gr, .bool d.pr, .bool d.he, .slice ea d.en.length eac, .slice aa d.au.length aac]] w fun en w' => ∃ g : Option Addr × Nat, en = .returned (.tuple #[.agg #[.int .i64 (addR nx l (encD d)).nx, .slice g.1 (addR nx l (encD d)).l.length g.2], .int .i64 (addR nx l (encD d)).id, .int .i64 (addR nx l (encD d)).e]) ∧ True ∧ HS w [] [.own (.slice g.1 (addR nx l (encD d)).l.length g.2) 77 2 (addR nx l (encD d)).l.length ((addR nx l (encD d)).l.flatMap SItm.vals)] w' := by
  have hkl := byK_le l (encD d)
  obtain ⟨hnx, hl60, hit9, hpl9⟩ := sto_ok hst0
  obtain ⟨_, ⟨hen16, hau16⟩, _, _⟩ := dsc_ok hok
  have hdl := encD_len d
  refine enter (args := [_, _]) Tryz.func35 Tryz.ntmps35 rfl rfl (HS.refl w []) ?_
  refine s_seq ?_
  refine s_region ?_
  refine o_h (h_box rfl rfl) rfl (fun b1 _ => ?_)
  refine o_h (h_box rfl rfl) rfl (fun b2 _ => ?_)
  refine o_h (h_alloc rfl zr_24) rfl (fun b3 _ => ?_)
  refine o_p (p_pure rfl) rfl ?_
  refine o_p (p_pure rfl) rfl ?_
  refine o_nil ?_
  refine s_seq ?_
  refine s_region ?_
  refine o_q (q_loadn rfl rfl sz_42 aPk rfl) rfl ?_
  refine o_q (q_call rfl fn_23 rfl (fun w1 h1 => c23 w1 d ea eac aa aac (hse.later h1) (hsa.later h1) hme hma hok)) rfl ?_
  refine o_p (p_pure rfl) rfl ?_
  refine o_nil ?_
  refine s_seq ?_
  refine s_seq ?_
  refine s_region ?_
  refine o_q (q_loadn rfl rfl sz_24 aPk rfl) rfl ?_
  refine o_p (p_pure rfl) rfl ?_
  refine o_q (q_call rfl fn_34 rfl (fun w1 h1 => c34 w1 nx a cap l (encD d) (hs.later h1) hm hb)) rfl ?_
  refine o_p (p_pure rfl) rfl ?_
  refine o_nil ?_
  refine s_seq ?_
  refine s_region ?_
  refine o_p (p_pure rfl) rfl ?_
  refine o_p (p_pure rfl) rfl ?_
  refine o_nil ?_
  refine s_cond rfl (fun h4 => ?_) (fun h4 => ?_)
  · try simp only [decide_eq_true_eq, decide_eq_false_iff_not, Bool.not_eq_true', Bool.not_eq_false', Bool.and_eq_true, Bool.or_eq_true, Bool.and_eq_false_iff, Bool.or_eq_false_iff, Bool.not_true, Bool.not_false] at h4
    have hk : (byK l (encD d)) < l.length := by rcases Nat.lt_or_ge (byK l (encD d)) l.length with h9 | h9; exact h9; (exfalso; have hq := h4; rw [if_neg (by omega)] at hq; exact hq rfl)
    have hT : addR nx l (encD d) = ⟨nx, l, (nth l (byK l (encD d))).id, 0⟩ := by unfold addR; rw [if_pos hk]
    refine s_seq ?_
    refine s_region ?_
    refine o_q (q_loadn rfl rfl sz_24 aPk rfl) rfl ?_
    refine o_h (h_call rfl fn_9 rfl (fun w1 h1 => c9 w1 nx a cap l (hs.later h1) hm hb)) rfl (fun gc _ => ?_)
    refine o_p (p_pure rfl) rfl ?_
    refine o_h0 (h_store rfl rfl rfl sz_24 rfl aPt (by simp only [setMany_length, List.length_set, List.length_cons, List.length_nil, List.length_map]; omega) rfl) (fun _ _ => ?_)
    refine o_p (p_pure rfl) rfl ?_
    refine o_p (p_pure rfl) rfl ?_
    refine o_nil ?_
    exact s_retv (rs := [.cell 4 24, .tmp 5, .tmp 6]) rfl (.cell rfl sz_24 aPk rfl (.tmp rfl (.tmp rfl (.nil)))) (fun w' h' => ⟨gc, by rw [hT, if_pos hk]; rfl, trivial, by rw [hT]; exact h'.ent aEt⟩)
  · try simp only [decide_eq_true_eq, decide_eq_false_iff_not, Bool.not_eq_true', Bool.not_eq_false', Bool.and_eq_true, Bool.or_eq_true, Bool.and_eq_false_iff, Bool.or_eq_false_iff, Bool.not_true, Bool.not_false] at h4
    have hk : ¬ (byK l (encD d)) < l.length := by intro h9; have hq := h4; rw [if_pos h9] at hq; have := (itm_rng (hit9 _ h9)).1; omega
    refine s_skip ?_
    refine s_seq ?_
    refine s_region ?_
    refine o_q (q_loadn rfl rfl sz_24 aPk rfl) rfl ?_
    refine o_h (h_call rfl fn_9 rfl (fun w1 h1 => c9 w1 nx a cap l (hs.later h1) hm hb)) rfl (fun gc _ => ?_)
    refine o_h (h_alloc rfl zr_24) rfl (fun b5 _ => ?_)
    refine o_h0 (h_store rfl rfl rfl sz_24 rfl aPt (by simp only [setMany_length, List.length_set, List.length_cons, List.length_nil, List.length_map]; omega) rfl) (fun _ _ => ?_)
    refine o_nil ?_
    refine s_seq ?_
    refine s_region ?_
    refine o_p (p_fieldAddr rfl rfl fd_24_1 sz_22 rfl) rfl ?_
    refine o_q (q_load rfl rfl sz_22 aPk rfl) rfl ?_
    refine o_p (p_fieldAddr rfl rfl fd_24_0 sz_3 rfl) rfl ?_
    refine o_q (q_load rfl rfl sz_3 aPk rfl) rfl ?_
    refine o_p (p_pure rfl) rfl ?_
    refine o_p (p_build (cs := [_, _]) rfl rfl pl_77 zr_77 rfl) rfl ?_
    refine o_h (h_buildSlice (cs := [_, _]) rfl rfl sl_22 zr_77 rfl rfl rfl) rfl (fun b6 _ => ?_)
    refine o_h (h_appendS _ rfl rfl rfl sl_22 Tryz.underlying22 zr_77 rfl aPk (src_blk aPk) rfl (by intro u hu; simp only [List.mem_cons, List.mem_nil_iff, or_false] at hu; rcases hu with rfl | rfl <;> rfl) (by omega) (by simp only [maxLen]; omega)) rfl (fun b7 _ => ?_)
    refine o_slot (show _ = Value.slice b7.1 (l ++ [SItm.mk nx (encD d)]).length b7.2 from by rw [List.length_append]; rfl) ?_
    refine o_class (C' := HS w [] [.own (.slice b7.1 (l ++ [SItm.mk nx (encD d)]).length b7.2) 77 2 (l ++ [SItm.mk nx (encD d)]).length ((l ++ [SItm.mk nx (encD d)]).flatMap SItm.vals), .blk b5 24 2 [.int .i64 nx, .slice gc.1 l.length gc.2], .blk b1 24 2 [.int .i64 nx, .slice a l.length cap], .blk b3 24 2 [.int .i64 0, .slice none 0 0]]) (fun w h => by rw [flat_append, List.length_append]; exact h.ent aEt) ?_
    refine o_p (p_fieldAddr rfl rfl fd_24_1 sz_22 rfl) rfl ?_
    refine o_h0 (h_store rfl rfl rfl sz_22 rfl aPt (by simp only [setMany_length, List.length_set, List.length_cons, List.length_nil, List.length_map]; omega) rfl) (fun _ _ => ?_)
    refine o_nil ?_
    refine s_seq ?_
    refine s_seq ?_
    refine s_region ?_
    refine o_q (q_loadn rfl rfl sz_24 aPk rfl) rfl ?_
    refine o_h (h_call rfl fn_25 rfl (fun w1 h1 => c25 w1 nx b7.1 b7.2 (l ++ [SItm.mk nx (encD d)]) (h1.rw_own sv2 aPk rfl) (by rw [List.length_append]; simp only [List.length_cons, List.length_nil]; omega) (by intro x hx; rcases List.mem_append.1 hx with hx | hx; exact hb x hx; rw [List.mem_singleton.1 hx]; show (encD d).length ≤ _; omega))) rfl (fun gp _ => ?_)
    refine o_p (p_pure rfl) rfl ?_
    refine o_p (p_pure rfl) rfl ?_
    refine o_p (p_pure rfl) rfl ?_
    refine o_p (p_pure rfl) rfl ?_
    refine o_p (p_pure rfl) rfl ?_
    refine o_nil ?_
    refine s_seq ?_
    refine s_weaken (L' := [(2, _), (4, _), (5, _), (6, _), (9, _), (11, _)]) aSx (fun _ h => h) ?_
    refine s_region ?_
    refine o_p (p_fieldAddr rfl rfl fd_24_1 sz_22 rfl) rfl ?_
    refine o_q (q_load rfl rfl sz_22 aPk rfl) rfl ?_
    refine o_p (p_len_slice rfl rfl Tryz.underlying22) rfl ?_
    refine o_p (p_pure rfl) rfl ?_
    refine o_p (p_pure rfl) rfl ?_
    refine o_or 3 42 45 _ _ rfl
      (by
        intro hg8
        have hs9 := hg8; try simp only [decide_eq_true_eq, decide_eq_false_iff_not, Bool.not_eq_true', Bool.not_eq_false', Bool.and_eq_true, Bool.or_eq_true, Bool.and_eq_false_iff, Bool.or_eq_false_iff, Bool.not_true, Bool.not_false] at hs9
        refine o_on 42 _ rfl rfl hg8 ?_
        refine o_p (p_pure rfl) rfl ?_
        refine o_on 42 _ rfl rfl hg8 ?_
        refine o_p (p_pure rfl) rfl ?_
        refine o_p (p_pickf rfl rfl hg8 rfl) rfl ?_
        refine o_nil ?_
        exact s_joinN 3 45 _ rfl rfl rfl (fun w h => by first | exact h | exact h.ent aEt))
      (by
        intro hg10
        have hs11 := hg10; try simp only [decide_eq_true_eq, decide_eq_false_iff_not, Bool.not_eq_true', Bool.not_eq_false', Bool.and_eq_true, Bool.or_eq_true, Bool.and_eq_false_iff, Bool.or_eq_false_iff, Bool.not_true, Bool.not_false] at hs11
        refine o_off 42 _ rfl rfl hg10 rfl ?_
        refine o_off 42 _ rfl rfl hg10 rfl ?_
        refine o_p (p_pickt rfl rfl hg10 rfl) rfl ?_
        refine o_nil ?_
        exact s_joinN 3 45 _ rfl rfl rfl (fun w h => by first | exact h | exact h.ent aEt)) ?_
    refine o_p (p_pure rfl) rfl ?_
    refine o_or 4 46 50 _ _ rfl
      (by
        intro hg12
        have hs13 := hg12; try simp only [decide_eq_true_eq, decide_eq_false_iff_not, Bool.not_eq_true', Bool.not_eq_false', Bool.and_eq_true, Bool.or_eq_true, Bool.and_eq_false_iff, Bool.or_eq_false_iff, Bool.not_true, Bool.not_false] at hs13
        refine o_on 46 _ rfl rfl hg12 ?_
        refine o_p (p_fieldAddr rfl rfl fd_24_0 sz_3 rfl) rfl ?_
        refine o_on 46 _ rfl rfl hg12 ?_
        refine o_q (q_load rfl rfl sz_3 aPk rfl) rfl ?_
        refine o_on 46 _ rfl rfl hg12 ?_
        refine o_p (p_pure rfl) rfl ?_
        refine o_p (p_pickf rfl rfl hg12 rfl) rfl ?_
        refine o_nil ?_
        exact s_joinN 4 50 _ rfl rfl rfl (fun w h => by first | exact h | exact h.ent aEt))
      (by
        intro hg14
        have hs15 := hg14; try simp only [decide_eq_true_eq, decide_eq_false_iff_not, Bool.not_eq_true', Bool.not_eq_false', Bool.and_eq_true, Bool.or_eq_true, Bool.and_eq_false_iff, Bool.or_eq_false_iff, Bool.not_true, Bool.not_false] at hs15
        refine o_off 46 _ rfl rfl hg14 rfl ?_
        refine o_off 46 _ rfl rfl hg14 rfl ?_
        refine o_off 46 _ rfl rfl hg14 rfl ?_
        refine o_p (p_pickt rfl rfl hg14 rfl) rfl ?_
        refine o_nil ?_
        exact s_joinN 4 50 _ rfl rfl rfl (fun w h => by first | exact h | exact h.ent aEt)) ?_
    refine o_nil ?_
    refine s_cond rfl (fun h16 => ?_) (fun h16 => ?_)
    · try simp only [decide_eq_true_eq, decide_eq_false_iff_not, Bool.not_eq_true', Bool.not_eq_false', Bool.and_eq_true, Bool.or_eq_true, Bool.and_eq_false_iff, Bool.or_eq_false_iff, Bool.not_true, Bool.not_false] at h16
      have hfl : (l ++ [SItm.mk nx (encD d)]).length > 60 ∨ (plsI (l ++ [SItm.mk nx (encD d)])).2 > 8192 ∨ nx = 2147483647 := by have hq := h16; rw [List.length_append] at hq ⊢; simp only [List.length_cons, List.length_nil] at hq ⊢; omega
      have hT : addR nx l (encD d) = ⟨0, [], 0, 16⟩ := by unfold addR; rw [if_neg hk, if_pos hfl]
      refine s_seq ?_
      refine s_region ?_
      refine o_p (p_build (cs := [_, _]) rfl rfl pl_24 zr_24 rfl) rfl ?_
      refine o_h0 (h_store rfl rfl rfl sz_24 rfl aPt (by simp only [setMany_length, List.length_set, List.length_cons, List.length_nil, List.length_map]; omega) rfl) (fun _ _ => ?_)
      refine o_p (p_pure rfl) rfl ?_
      refine o_p (p_pure rfl) rfl ?_
      refine o_nil ?_
      exact s_retv (rs := [.cell 4 24, .tmp 5, .tmp 6]) rfl (.cell rfl sz_24 aPk rfl (.tmp rfl (.tmp rfl (.nil)))) (fun w' h' => ⟨(none, 0), by rw [hT]; rfl, trivial, by rw [hT]; exact (h'.own_nil 77 2).ent aEt⟩)
    · try simp only [decide_eq_true_eq, decide_eq_false_iff_not, Bool.not_eq_true', Bool.not_eq_false', Bool.and_eq_true, Bool.or_eq_true, Bool.and_eq_false_iff, Bool.or_eq_false_iff, Bool.not_true, Bool.not_false] at h16
      have hfl : ¬ ((l ++ [SItm.mk nx (encD d)]).length > 60 ∨ (plsI (l ++ [SItm.mk nx (encD d)])).2 > 8192 ∨ nx = 2147483647) := by have hq := h16; rw [List.length_append] at hq ⊢; simp only [List.length_cons, List.length_nil] at hq ⊢; omega
      have hT : addR nx l (encD d) = ⟨nx + 1, (l ++ [SItm.mk nx (encD d)]), nx, 0⟩ := by unfold addR; rw [if_neg hk, if_neg hfl]
      refine s_skip ?_
      refine s_seq ?_
      refine s_region ?_
      refine o_p (p_fieldAddr rfl rfl fd_24_0 sz_3 rfl) rfl ?_
      refine o_q (q_load rfl rfl sz_3 aPk rfl) rfl ?_
      refine o_p (p_pure rfl) rfl ?_
      try (refine o_slot (i64w (by omega) (by omega)) ?_)
      refine o_p (p_fieldAddr rfl rfl fd_24_0 sz_3 rfl) rfl ?_
      refine o_h0 (h_store rfl rfl rfl sz_3 rfl aPt (by simp only [setMany_length, List.length_set, List.length_cons, List.length_nil, List.length_map]; omega) rfl) (fun _ _ => ?_)
      refine o_nil ?_
      refine s_seq ?_
      refine s_drawB [.blk b1 24 2 [.int .i64 nx, .slice a l.length cap], .blk b5 24 2 [.int .i64 (nx + 1), .slice b7.1 (l ++ [SItm.mk nx (encD d)]).length b7.2]] [] mixed ?_
      refine d_q 0 [] rfl (q_loadn rfl rfl sz_24 aPk rfl) (by kernel_rfl) (by kernel_rfl) (by kernel_rfl) rfl ?_
      refine d_p 1 rfl (p_fieldAddr rfl rfl fd_24_0 sz_3 rfl) (by kernel_rfl) rfl rfl ?_
      refine d_q 2 [] rfl (q_load rfl rfl sz_3 aPk rfl) (by kernel_rfl) (by kernel_rfl) (by kernel_rfl) rfl ?_
      refine d_h0 3 rfl (h_store rfl rfl rfl sz_24 rfl aPt (by simp only [setMany_length, List.length_set, List.length_cons, List.length_nil, List.length_map]; omega) rfl) (by kernel_rfl) (fun w h => h.ent aEt) (fun _ _ => ?_)
      refine d_p 4 rfl (p_pure rfl) (by kernel_rfl) rfl rfl ?_
      refine d_p 5 rfl (p_pure rfl) (by kernel_rfl) rfl rfl ?_
      refine d_nil (by kernel_rfl) (fun w h => by first | exact h | exact h.ent aEt) ?_
      exact s_retv (rs := [.cell 4 24, .tmp 5, .tmp 6]) rfl (.cell rfl sz_24 aPk rfl (.tmp rfl (.tmp rfl (.nil)))) (fun w' h' => ⟨b7, by rw [hT]; rfl, trivial, by rw [hT]; exact h'.ent aEt⟩)

end Go.Proofs

/- Plain facts of chapter 18: the examples of 'awake'. Nothing of a program is named here. -/
namespace Gx
open Go Go.RowKit
def dA : Dsc := ⟨10, 10, false, false, [], []⟩
def dB : Dsc := ⟨10, 10, false, true, [⟨0, 0, 1, 1⟩], []⟩
def bA : List UInt8 := [1, 0, 0, 0, 10, 0, 0, 0, 10, 0, 0, 0]
def bB : List UInt8 := [1, 2, 1, 0, 10, 0, 0, 0, 10, 0, 0, 0, 0, 0, 1, 0, 1, 0, 0, 0]
def lA : List SItm := [⟨256, bA⟩]
def lB : List SItm := [⟨256, bA⟩, ⟨257, bB⟩]
theorem aw_1 : addT 256 [] dA = ⟨257, lA, 256, 0⟩ := by kernel_rfl
theorem aw_2 : addT 257 lA dB = ⟨258, lB, 257, 0⟩ := by kernel_rfl
theorem aw_3 : (stoE 258 lB).2 = 0 := by kernel_rfl
theorem aw_4 : plsI lB = ([16, 48], 96) := by kernel_rfl
theorem aw_5 : (stoE 257 lA).2 = 0 := by kernel_rfl
theorem aw_6 : colE 258 lB [257] = 0 := by kernel_rfl
theorem aw_7 : colT 258 lB [257] = ⟨258, [⟨257, bB⟩], [256]⟩ := by kernel_rfl
theorem aw_8 : (streamS 257 lA).length = 8240 := by
  have h := halfS_len 257 lA
  rw [show (plsI lA).2 = 48 by kernel_rfl] at h
  unfold streamS
  rw [List.length_append, List.length_append, List.length_replicate]
  omega
end Gx

namespace Go.Proofs
open Go Go.RowKit Gx
set_option linter.unusedVariables false
set_option linter.unusedSimpArgs false
attribute [local irreducible] Go.Calls Gx.S Gx.O Gx.D Gx.OpP Gx.OpQ Gx.OpH

theorem fn_26 : isFn Tryz.prog 26 = true := by kernel_rfl
theorem fn_36 : isFn Tryz.prog 36 = true := by kernel_rfl
theorem fn_28 : isFn Tryz.prog 28 = true := by kernel_rfl
theorem fn_37 : isFn Tryz.prog 37 = true := by kernel_rfl
theorem fn_20 : isFn Tryz.prog 20 = true := by kernel_rfl
theorem fn_38 : isFn Tryz.prog 38 = true := by kernel_rfl
theorem fn_8 : isFn Tryz.prog 8 = true := by kernel_rfl
theorem fn_15 : isFn Tryz.prog 15 = true := by kernel_rfl


theorem rw_nil {α : Type} [Inhabited α] {vals : α → List Value} {sz : Nat} {w : World} : Rw vals sz w [] none ([] : List α) := ⟨fun h => absurd h (Nat.lt_irrefl 0)⟩

set_option maxRecDepth 20000 in
set_option maxHeartbeats 2000000 in
theorem c6 (w : World)  : Calls Tryz.prog 6 #[] w fun en w' => en = .returned (.bool true) ∧ Below w.heap.size w w' := by
  refine enter (args := []) Tryz.func6 Tryz.ntmps6 rfl rfl (HS.refl w []) ?_
  refine s_seq ?_
  refine s_region ?_
  refine o_p (p_pure rfl) rfl ?_
  refine o_nil ?_
  refine s_seq ?_
  refine s_region ?_
  refine o_q (q_call rfl fn_26 rfl (fun w1 h1 => c26 w1)) rfl ?_
  refine o_q (q_call rfl fn_36 rfl (fun w1 h1 => c36 w1)) rfl ?_
  refine o_h (h_call rfl fn_28 rfl (fun w1 h1 => by have h9 := c28 w1 256 none 0 [] dA none 0 none 0 rw_nil (by decide) (by intro x hx; cases hx) rw_nil rw_nil (by decide) (by decide); rw [aw_1] at h9; exact h9)) rfl (fun gA _ => ?_)
  refine o_p (p_pure rfl) rfl ?_
  refine o_p (p_pure rfl) rfl ?_
  refine o_p (p_pure rfl) rfl ?_
  refine o_p (p_pure rfl) rfl ?_
  refine o_h (h_alloc rfl zr_24) rfl (fun b1 _ => ?_)
  refine o_h0 (h_store rfl rfl rfl sz_24 rfl aPt (by simp only [setMany_length, List.length_set, List.length_cons, List.length_nil, List.length_map]; omega) rfl) (fun _ _ => ?_)
  refine o_p (p_pure rfl) rfl ?_
  refine o_p (p_pure rfl) rfl ?_
  refine o_nil ?_
  refine s_seq ?_
  refine s_cutI (α := Nat × Option Addr × Nat) [4, 5, 6, 22, 23, 24, 25, 26, 27, 28] (fun x => [(4, .pointer (some ⟨x.1, 0, none⟩)), (5, .int .i64 257), (6, .int .i64 0)]) (fun x => HS w [] [.blk x.1 24 2 [.int .i64 258, .slice x.2.1 2 x.2.2], .own (.slice x.2.1 lB.length x.2.2) 77 2 lB.length (lB.flatMap SItm.vals), .blk b1 24 2 [.int .i64 257, .slice gA.1 1 gA.2], .own (.slice gA.1 lA.length gA.2) 77 2 lA.length (lA.flatMap SItm.vals)]) (fun _ => True) ?_ ?_
  · skip
    refine s_draw [8] mixed ?_
    refine d_q 0 [[]] rfl (q_loadn rfl rfl sz_24 aPk rfl) (by kernel_rfl) (by kernel_rfl) (by kernel_rfl) rfl ?_
    refine d_two 1 7 rfl rfl  (h_call rfl fn_37 rfl (fun w1 h1 => c37 w1)) (h_alloc rfl zr_24) (by kernel_rfl) (fun w h => h.ent aEt) rfl rfl  (fun gO _ => ?_) (fun b2 _ => ?_)
    · skip
      refine d_base (fun w h => h.ent aEt) ?_
      refine d_two 2 7 rfl rfl  (h_call rfl fn_28 rfl (fun w1 h1 => by have h9 := c28 w1 257 gA.1 gA.2 lA dB gO.1 gO.2 none 0 (HS.rw_own (l := lA) sv2 h1 aPk rfl) (by decide) (by intro x hx; simp only [lA, lB, List.mem_cons, List.mem_nil_iff, or_false] at hx; subst hx <;> decide) (HS.rw_own (l := dB.en) av4 h1 aPk rfl) rw_nil (by decide) (by decide); rw [aw_2] at h9; exact h9)) (h_alloc rfl zr_24) (by kernel_rfl) (fun w h => h.ent aEt) rfl rfl  (fun gB _ => ?_) (fun b3 _ => ?_)
      · skip
        refine d_base (fun w h => h.ent aEt) ?_
        refine d_p 3 rfl (p_pure rfl) (by kernel_rfl) rfl rfl ?_
        refine d_p 4 rfl (p_pure rfl) (by kernel_rfl) rfl rfl ?_
        refine d_p 5 rfl (p_pure rfl) (by kernel_rfl) rfl rfl ?_
        refine d_p 6 rfl (p_pure rfl) (by kernel_rfl) rfl rfl ?_
        refine d_h 7 rfl (h_alloc rfl zr_24) (by kernel_rfl) (fun w h => h.ent aEt) rfl (fun b4 _ => ?_)
        refine d_base (fun w h => h.ent aEt) ?_
        refine d_h0 8 rfl (h_store rfl rfl rfl sz_24 rfl aPt (by simp only [setMany_length, List.length_set, List.length_cons, List.length_nil, List.length_map]; omega) rfl) (by kernel_rfl) (fun w h => h.ent aEt) (fun _ _ => ?_)
        refine d_turn [] (by kernel_rfl) ?_
        refine d_p 9 rfl (p_pure rfl) (by kernel_rfl) rfl rfl ?_
        refine d_p 10 rfl (p_pure rfl) (by kernel_rfl) rfl rfl ?_
        refine d_nil (by kernel_rfl) (fun w h => by first | exact h | exact h.ent aEt) ?_
        exact s_joinI (b4, gB) trivial aSx (fun w h => h.ent aEt)
      · skip
        refine d_base (fun w h => h.ent aEt) ?_
        refine d_h 2 rfl (h_call rfl fn_28 rfl (fun w1 h1 => by have h9 := c28 w1 257 gA.1 gA.2 lA dB gO.1 gO.2 none 0 (HS.rw_own (l := lA) sv2 h1 aPk rfl) (by decide) (by intro x hx; simp only [lA, lB, List.mem_cons, List.mem_nil_iff, or_false] at hx; subst hx <;> decide) (HS.rw_own (l := dB.en) av4 h1 aPk rfl) rw_nil (by decide) (by decide); rw [aw_2] at h9; exact h9)) (by kernel_rfl) (fun w h => h.ent aEt) rfl (fun gB _ => ?_)
        refine d_base (fun w h => h.ent aEt) ?_
        refine d_p 3 rfl (p_pure rfl) (by kernel_rfl) rfl rfl ?_
        refine d_p 4 rfl (p_pure rfl) (by kernel_rfl) rfl rfl ?_
        refine d_p 5 rfl (p_pure rfl) (by kernel_rfl) rfl rfl ?_
        refine d_p 6 rfl (p_pure rfl) (by kernel_rfl) rfl rfl ?_
        refine d_h0 8 rfl (h_store rfl rfl rfl sz_24 rfl aPt (by simp only [setMany_length, List.length_set, List.length_cons, List.length_nil, List.length_map]; omega) rfl) (by kernel_rfl) (fun w h => h.ent aEt) (fun _ _ => ?_)
        refine d_turn [] (by kernel_rfl) ?_
        refine d_p 9 rfl (p_pure rfl) (by kernel_rfl) rfl rfl ?_
        refine d_p 10 rfl (p_pure rfl) (by kernel_rfl) rfl rfl ?_
        refine d_nil (by kernel_rfl) (fun w h => by first | exact h | exact h.ent aEt) ?_
        exact s_joinI (b3, gB) trivial aSx (fun w h => h.ent aEt)
    · skip
      refine d_base (fun w h => h.ent aEt) ?_
      refine d_h 1 rfl (h_call rfl fn_37 rfl (fun w1 h1 => c37 w1)) (by kernel_rfl) (fun w h => h.ent aEt) rfl (fun gO _ => ?_)
      refine d_base (fun w h => h.ent aEt) ?_
      refine d_h 2 rfl (h_call rfl fn_28 rfl (fun w1 h1 => by have h9 := c28 w1 257 gA.1 gA.2 lA dB gO.1 gO.2 none 0 (HS.rw_own (l := lA) sv2 h1 aPk rfl) (by decide) (by intro x hx; simp only [lA, lB, List.mem_cons, List.mem_nil_iff, or_false] at hx; subst hx <;> decide) (HS.rw_own (l := dB.en) av4 h1 aPk rfl) rw_nil (by decide) (by decide); rw [aw_2] at h9; exact h9)) (by kernel_rfl) (fun w h => h.ent aEt) rfl (fun gB _ => ?_)
      refine d_base (fun w h => h.ent aEt) ?_
      refine d_p 3 rfl (p_pure rfl) (by kernel_rfl) rfl rfl ?_
      refine d_p 4 rfl (p_pure rfl) (by kernel_rfl) rfl rfl ?_
      refine d_p 5 rfl (p_pure rfl) (by kernel_rfl) rfl rfl ?_
      refine d_p 6 rfl (p_pure rfl) (by kernel_rfl) rfl rfl ?_
      refine d_h0 8 rfl (h_store rfl rfl rfl sz_24 rfl aPt (by simp only [setMany_length, List.length_set, List.length_cons, List.length_nil, List.length_map]; omega) rfl) (by kernel_rfl) (fun w h => h.ent aEt) (fun _ _ => ?_)
      refine d_turn [] (by kernel_rfl) ?_
      refine d_p 9 rfl (p_pure rfl) (by kernel_rfl) rfl rfl ?_
      refine d_p 10 rfl (p_pure rfl) (by kernel_rfl) rfl rfl ?_
      refine d_nil (by kernel_rfl) (fun w h => by first | exact h | exact h.ent aEt) ?_
      exact s_joinI (b2, gB) trivial aSx (fun w h => h.ent aEt)
  · intro x hx
    refine s_seq ?_
    refine s_region ?_
    refine o_q (q_loadn rfl rfl sz_24 aPk rfl) rfl ?_
    refine o_h (h_call rfl fn_20 rfl (fun w1 h1 => by have h9 := c20 w1 258 x.2.1 x.2.2 lB (HS.rw_own (l := lB) sv2 h1 aPk rfl) (by decide) (by intro x hx; simp only [lA, lB, List.mem_cons, List.mem_nil_iff, or_false] at hx; rcases hx with rfl | rfl <;> decide); rw [if_pos aw_3, aw_3, aw_4] at h9; exact h9)) rfl (fun gP _ => ?_)
    refine o_p (p_pure rfl) rfl ?_
    refine o_p (p_pure rfl) rfl ?_
    refine o_p (p_pure rfl) rfl ?_
    refine o_p (p_pure rfl) rfl ?_
    refine o_p (p_pure rfl) rfl ?_
    refine o_p (p_pure rfl) rfl ?_
    refine o_p (p_pure rfl) rfl ?_
    refine o_nil ?_
    refine s_seq ?_
    refine s_region ?_
    refine o_q (q_loadn rfl rfl sz_24 aPk rfl) rfl ?_
    refine o_q (q_call rfl fn_38 rfl (fun w1 h1 => by have h9 := c38 w1 257 gA.1 gA.2 lA (HS.rw_own (l := lA) sv2 h1 aPk rfl) (by decide) (by intro x hx; simp only [lA, lB, List.mem_cons, List.mem_nil_iff, or_false] at hx; subst hx <;> decide); rw [if_pos aw_5, aw_5] at h9; exact h9)) rfl ?_
    refine o_p (p_pure rfl) rfl ?_
    refine o_p (p_pure rfl) rfl ?_
    refine o_p (p_pure rfl) rfl ?_
    refine o_p (p_pure rfl) rfl ?_
    refine o_p (p_pure rfl) rfl ?_
    refine o_nil ?_
    refine s_seq ?_
    refine s_weaken (L' := [(0, _), (2, _), (3, _), (4, _), (5, _), (6, _), (7, _), (8, _), (9, _), (10, _), (11, _)]) aSx (fun _ h => h) ?_
    refine s_region ?_
    refine o_q (q_loadn rfl rfl sz_24 aPk rfl) rfl ?_
    refine o_h (h_buildSlice (cs := [_]) rfl rfl sl_25 zr_3 rfl rfl rfl) rfl (fun b5 _ => ?_)
    refine o_h (h_call rfl fn_8 rfl (fun w1 h1 => by have h9 := c8 w1 258 x.2.1 x.2.2 lB (some ⟨b5, 0, none⟩) 1 [257] (HS.rw_own (l := lB) sv2 h1 aPk rfl) (by decide) (by intro x hx; simp only [lA, lB, List.mem_cons, List.mem_nil_iff, or_false] at hx; rcases hx with rfl | rfl <;> decide) (h1.vl_blk aPk) (by decide) (by intro x hx; simp only [List.mem_cons, List.mem_nil_iff, or_false] at hx; subst hx; decide); rw [aw_6, aw_7] at h9; exact h9)) rfl (fun gC _ => ?_)
    refine o_p (p_pure rfl) rfl ?_
    refine o_p (p_pure rfl) rfl ?_
    refine o_p (p_pure rfl) rfl ?_
    refine o_p (p_pure rfl) rfl ?_
    refine o_h (h_alloc rfl zr_24) rfl (fun b6 _ => ?_)
    refine o_h0 (h_store rfl rfl rfl sz_24 rfl aPt (by simp only [setMany_length, List.length_set, List.length_cons, List.length_nil, List.length_map]; omega) rfl) (fun _ _ => ?_)
    refine o_p (p_pure rfl) rfl ?_
    refine o_p (p_pure rfl) rfl ?_
    refine o_nil ?_
    refine s_seq ?_
    refine s_region ?_
    refine o_p (p_pure rfl) rfl ?_
    refine o_p (p_pure rfl) rfl ?_
    refine o_p (p_pure rfl) rfl ?_
    refine o_and 3 49 52 _ _ rfl
      (by
        intro hg7
        have hs8 := hg7; try simp only [decide_eq_true_eq, decide_eq_false_iff_not, Bool.not_eq_true', Bool.not_eq_false', Bool.and_eq_true, Bool.or_eq_true, Bool.and_eq_false_iff, Bool.or_eq_false_iff, Bool.not_true, Bool.not_false] at hs8
        refine o_on 49 _ rfl rfl hg7 ?_
        refine o_p (p_pure rfl) rfl ?_
        refine o_on 49 _ rfl rfl hg7 ?_
        refine o_p (p_pure rfl) rfl ?_
        refine o_p (p_pickt rfl rfl hg7 rfl) rfl ?_
        refine o_nil ?_
        exact s_joinN 3 52 _ rfl rfl rfl (fun w h => by first | exact h | exact h.ent aEt))
      (by
        intro hg9
        have hs10 := hg9; try simp only [decide_eq_true_eq, decide_eq_false_iff_not, Bool.not_eq_true', Bool.not_eq_false', Bool.and_eq_true, Bool.or_eq_true, Bool.and_eq_false_iff, Bool.or_eq_false_iff, Bool.not_true, Bool.not_false] at hs10
        refine o_off 49 _ rfl rfl hg9 rfl ?_
        refine o_off 49 _ rfl rfl hg9 rfl ?_
        refine o_p (p_pickf rfl rfl hg9 rfl) rfl ?_
        refine o_nil ?_
        exact s_joinN 3 52 _ rfl rfl rfl (fun w h => by first | exact h | exact h.ent aEt)) ?_
    refine o_p (p_pure rfl) rfl ?_
    refine o_and 3 53 56 _ _ rfl
      (by
        intro hg11
        have hs12 := hg11; try simp only [decide_eq_true_eq, decide_eq_false_iff_not, Bool.not_eq_true', Bool.not_eq_false', Bool.and_eq_true, Bool.or_eq_true, Bool.and_eq_false_iff, Bool.or_eq_false_iff, Bool.not_true, Bool.not_false] at hs12
        refine o_on 53 _ rfl rfl hg11 ?_
        refine o_p (p_pure rfl) rfl ?_
        refine o_on 53 _ rfl rfl hg11 ?_
        refine o_p (p_pure rfl) rfl ?_
        refine o_p (p_pickt rfl rfl hg11 rfl) rfl ?_
        refine o_nil ?_
        exact s_joinN 3 56 _ rfl rfl rfl (fun w h => by first | exact h | exact h.ent aEt))
      (by
        intro hg13
        have hs14 := hg13; try simp only [decide_eq_true_eq, decide_eq_false_iff_not, Bool.not_eq_true', Bool.not_eq_false', Bool.and_eq_true, Bool.or_eq_true, Bool.and_eq_false_iff, Bool.or_eq_false_iff, Bool.not_true, Bool.not_false] at hs14
        refine o_off 53 _ rfl rfl hg13 rfl ?_
        refine o_off 53 _ rfl rfl hg13 rfl ?_
        refine o_p (p_pickf rfl rfl hg13 rfl) rfl ?_
        refine o_nil ?_
        exact s_joinN 3 56 _ rfl rfl rfl (fun w h => by first | exact h | exact h.ent aEt)) ?_
    refine o_p (p_pure rfl) rfl ?_
    refine o_and 3 57 60 _ _ rfl
      (by
        intro hg15
        have hs16 := hg15; try simp only [decide_eq_true_eq, decide_eq_false_iff_not, Bool.not_eq_true', Bool.not_eq_false', Bool.and_eq_true, Bool.or_eq_true, Bool.and_eq_false_iff, Bool.or_eq_false_iff, Bool.not_true, Bool.not_false] at hs16
        refine o_on 57 _ rfl rfl hg15 ?_
        refine o_p (p_pure rfl) rfl ?_
        refine o_on 57 _ rfl rfl hg15 ?_
        refine o_p (p_pure rfl) rfl ?_
        refine o_p (p_pickt rfl rfl hg15 rfl) rfl ?_
        refine o_nil ?_
        exact s_joinN 3 60 _ rfl rfl rfl (fun w h => by first | exact h | exact h.ent aEt))
      (by
        intro hg17
        have hs18 := hg17; try simp only [decide_eq_true_eq, decide_eq_false_iff_not, Bool.not_eq_true', Bool.not_eq_false', Bool.and_eq_true, Bool.or_eq_true, Bool.and_eq_false_iff, Bool.or_eq_false_iff, Bool.not_true, Bool.not_false] at hs18
        refine o_off 57 _ rfl rfl hg17 rfl ?_
        refine o_off 57 _ rfl rfl hg17 rfl ?_
        refine o_p (p_pickf rfl rfl hg17 rfl) rfl ?_
        refine o_nil ?_
        exact s_joinN 3 60 _ rfl rfl rfl (fun w h => by first | exact h | exact h.ent aEt)) ?_
    refine o_p (p_pure rfl) rfl ?_
    refine o_and 3 61 64 _ _ rfl
      (by
        intro hg19
        have hs20 := hg19; try simp only [decide_eq_true_eq, decide_eq_false_iff_not, Bool.not_eq_true', Bool.not_eq_false', Bool.and_eq_true, Bool.or_eq_true, Bool.and_eq_false_iff, Bool.or_eq_false_iff, Bool.not_true, Bool.not_false] at hs20
        refine o_on 61 _ rfl rfl hg19 ?_
        refine o_p (p_pure rfl) rfl ?_
        refine o_on 61 _ rfl rfl hg19 ?_
        refine o_p (p_pure rfl) rfl ?_
        refine o_p (p_pickt rfl rfl hg19 rfl) rfl ?_
        refine o_nil ?_
        exact s_joinN 3 64 _ rfl rfl rfl (fun w h => by first | exact h | exact h.ent aEt))
      (by
        intro hg21
        have hs22 := hg21; try simp only [decide_eq_true_eq, decide_eq_false_iff_not, Bool.not_eq_true', Bool.not_eq_false', Bool.and_eq_true, Bool.or_eq_true, Bool.and_eq_false_iff, Bool.or_eq_false_iff, Bool.not_true, Bool.not_false] at hs22
        refine o_off 61 _ rfl rfl hg21 rfl ?_
        refine o_off 61 _ rfl rfl hg21 rfl ?_
        refine o_p (p_pickf rfl rfl hg21 rfl) rfl ?_
        refine o_nil ?_
        exact s_joinN 3 64 _ rfl rfl rfl (fun w h => by first | exact h | exact h.ent aEt)) ?_
    refine o_p (p_pure rfl) rfl ?_
    refine o_and 4 65 69 _ _ rfl
      (by
        intro hg23
        have hs24 := hg23; try simp only [decide_eq_true_eq, decide_eq_false_iff_not, Bool.not_eq_true', Bool.not_eq_false', Bool.and_eq_true, Bool.or_eq_true, Bool.and_eq_false_iff, Bool.or_eq_false_iff, Bool.not_true, Bool.not_false] at hs24
        refine o_on 65 _ rfl rfl hg23 ?_
        refine o_p (p_pure rfl) rfl ?_
        refine o_on 65 _ rfl rfl hg23 ?_
        refine o_h (h_buildSlice (cs := [_, _]) rfl rfl sl_25 zr_3 rfl rfl rfl) rfl (fun b25 _ => ?_)
        refine o_on 65 _ rfl rfl hg23 ?_
        refine o_q (q_call rfl fn_15 rfl (fun w1 h1 => c15 w1 gP.1 gP.2 (some ⟨b25, 0, none⟩) 2 [16, 48] (HS.vl_own (cs := [.int .i64 16, .int .i64 48]) h1 aPk) (h1.vl_blk aPk) (by decide))) rfl ?_
        refine o_p (p_pickt rfl rfl hg23 rfl) rfl ?_
        refine o_nil ?_
        exact s_joinN 4 69 _ rfl rfl rfl (fun w h => by first | exact h | exact h.ent aEt))
      (by
        intro hg26
        have hs27 := hg26; try simp only [decide_eq_true_eq, decide_eq_false_iff_not, Bool.not_eq_true', Bool.not_eq_false', Bool.and_eq_true, Bool.or_eq_true, Bool.and_eq_false_iff, Bool.or_eq_false_iff, Bool.not_true, Bool.not_false] at hs27
        refine o_off 65 _ rfl rfl hg26 rfl ?_
        refine o_off 65 _ rfl rfl hg26 rfl ?_
        refine o_off 65 _ rfl rfl hg26 rfl ?_
        refine o_p (p_pickf rfl rfl hg26 rfl) rfl ?_
        refine o_nil ?_
        exact s_joinN 4 69 _ rfl rfl rfl (fun w h => by first | exact h | exact h.ent aEt)) ?_
    refine o_p (p_pure rfl) rfl ?_
    refine o_and 3 70 73 _ _ rfl
      (by
        intro hg28
        have hs29 := hg28; try simp only [decide_eq_true_eq, decide_eq_false_iff_not, Bool.not_eq_true', Bool.not_eq_false', Bool.and_eq_true, Bool.or_eq_true, Bool.and_eq_false_iff, Bool.or_eq_false_iff, Bool.not_true, Bool.not_false] at hs29
        refine o_on 70 _ rfl rfl hg28 ?_
        refine o_p (p_pure rfl) rfl ?_
        refine o_on 70 _ rfl rfl hg28 ?_
        refine o_p (p_pure rfl) rfl ?_
        refine o_p (p_pickt rfl rfl hg28 rfl) rfl ?_
        refine o_nil ?_
        exact s_joinN 3 73 _ rfl rfl rfl (fun w h => by first | exact h | exact h.ent aEt))
      (by
        intro hg30
        have hs31 := hg30; try simp only [decide_eq_true_eq, decide_eq_false_iff_not, Bool.not_eq_true', Bool.not_eq_false', Bool.and_eq_true, Bool.or_eq_true, Bool.and_eq_false_iff, Bool.or_eq_false_iff, Bool.not_true, Bool.not_false] at hs31
        refine o_off 70 _ rfl rfl hg30 rfl ?_
        refine o_off 70 _ rfl rfl hg30 rfl ?_
        refine o_p (p_pickf rfl rfl hg30 rfl) rfl ?_
        refine o_nil ?_
        exact s_joinN 3 73 _ rfl rfl rfl (fun w h => by first | exact h | exact h.ent aEt)) ?_
    refine o_p (p_pure rfl) rfl ?_
    refine o_and 3 74 77 _ _ rfl
      (by
        intro hg32
        have hs33 := hg32; try simp only [decide_eq_true_eq, decide_eq_false_iff_not, Bool.not_eq_true', Bool.not_eq_false', Bool.and_eq_true, Bool.or_eq_true, Bool.and_eq_false_iff, Bool.or_eq_false_iff, Bool.not_true, Bool.not_false] at hs33
        refine o_on 74 _ rfl rfl hg32 ?_
        refine o_p (p_pure rfl) rfl ?_
        refine o_on 74 _ rfl rfl hg32 ?_
        refine o_p (p_pure rfl) rfl ?_
        refine o_p (p_pickt rfl rfl hg32 rfl) rfl ?_
        refine o_nil ?_
        exact s_joinN 3 77 _ rfl rfl rfl (fun w h => by first | exact h | exact h.ent aEt))
      (by
        intro hg34
        have hs35 := hg34; try simp only [decide_eq_true_eq, decide_eq_false_iff_not, Bool.not_eq_true', Bool.not_eq_false', Bool.and_eq_true, Bool.or_eq_true, Bool.and_eq_false_iff, Bool.or_eq_false_iff, Bool.not_true, Bool.not_false] at hs35
        refine o_off 74 _ rfl rfl hg34 rfl ?_
        refine o_off 74 _ rfl rfl hg34 rfl ?_
        refine o_p (p_pickf rfl rfl hg34 rfl) rfl ?_
        refine o_nil ?_
        exact s_joinN 3 77 _ rfl rfl rfl (fun w h => by first | exact h | exact h.ent aEt)) ?_
    refine o_p (p_pure rfl) rfl ?_
    refine o_and 4 78 82 _ _ rfl
      (by
        intro hg36
        have hs37 := hg36; try simp only [decide_eq_true_eq, decide_eq_false_iff_not, Bool.not_eq_true', Bool.not_eq_false', Bool.and_eq_true, Bool.or_eq_true, Bool.and_eq_false_iff, Bool.or_eq_false_iff, Bool.not_true, Bool.not_false] at hs37
        refine o_on 78 _ rfl rfl hg36 ?_
        refine o_p (p_pure rfl) rfl ?_
        refine o_on 78 _ rfl rfl hg36 ?_
        refine o_p (p_len_str rfl rfl Tryz.underlying9) rfl ?_
        refine o_slot (show _ = Value.int .i64 8240 from by rw [aw_8]; rfl) ?_
        refine o_on 78 _ rfl rfl hg36 ?_
        refine o_p (p_pure rfl) rfl ?_
        refine o_p (p_pickt rfl rfl hg36 rfl) rfl ?_
        refine o_nil ?_
        exact s_joinN 4 82 _ rfl rfl rfl (fun w h => by first | exact h | exact h.ent aEt))
      (by
        intro hg38
        have hs39 := hg38; try simp only [decide_eq_true_eq, decide_eq_false_iff_not, Bool.not_eq_true', Bool.not_eq_false', Bool.and_eq_true, Bool.or_eq_true, Bool.and_eq_false_iff, Bool.or_eq_false_iff, Bool.not_true, Bool.not_false] at hs39
        refine o_off 78 _ rfl rfl hg38 rfl ?_
        refine o_off 78 _ rfl rfl hg38 rfl ?_
        refine o_off 78 _ rfl rfl hg38 rfl ?_
        refine o_p (p_pickf rfl rfl hg38 rfl) rfl ?_
        refine o_nil ?_
        exact s_joinN 4 82 _ rfl rfl rfl (fun w h => by first | exact h | exact h.ent aEt)) ?_
    refine o_p (p_pure rfl) rfl ?_
    refine o_and 3 83 86 _ _ rfl
      (by
        intro hg40
        have hs41 := hg40; try simp only [decide_eq_true_eq, decide_eq_false_iff_not, Bool.not_eq_true', Bool.not_eq_false', Bool.and_eq_true, Bool.or_eq_true, Bool.and_eq_false_iff, Bool.or_eq_false_iff, Bool.not_true, Bool.not_false] at hs41
        refine o_on 83 _ rfl rfl hg40 ?_
        refine o_p (p_pure rfl) rfl ?_
        refine o_on 83 _ rfl rfl hg40 ?_
        refine o_p (p_pure rfl) rfl ?_
        refine o_p (p_pickt rfl rfl hg40 rfl) rfl ?_
        refine o_nil ?_
        exact s_joinN 3 86 _ rfl rfl rfl (fun w h => by first | exact h | exact h.ent aEt))
      (by
        intro hg42
        have hs43 := hg42; try simp only [decide_eq_true_eq, decide_eq_false_iff_not, Bool.not_eq_true', Bool.not_eq_false', Bool.and_eq_true, Bool.or_eq_true, Bool.and_eq_false_iff, Bool.or_eq_false_iff, Bool.not_true, Bool.not_false] at hs43
        refine o_off 83 _ rfl rfl hg42 rfl ?_
        refine o_off 83 _ rfl rfl hg42 rfl ?_
        refine o_p (p_pickf rfl rfl hg42 rfl) rfl ?_
        refine o_nil ?_
        exact s_joinN 3 86 _ rfl rfl rfl (fun w h => by first | exact h | exact h.ent aEt)) ?_
    refine o_p (p_pure rfl) rfl ?_
    refine o_and 4 87 91 _ _ rfl
      (by
        intro hg44
        have hs45 := hg44; try simp only [decide_eq_true_eq, decide_eq_false_iff_not, Bool.not_eq_true', Bool.not_eq_false', Bool.and_eq_true, Bool.or_eq_true, Bool.and_eq_false_iff, Bool.or_eq_false_iff, Bool.not_true, Bool.not_false] at hs45
        refine o_on 87 _ rfl rfl hg44 ?_
        refine o_p (p_pure rfl) rfl ?_
        refine o_on 87 _ rfl rfl hg44 ?_
        refine o_h (h_buildSlice (cs := [_]) rfl rfl sl_25 zr_3 rfl rfl rfl) rfl (fun b46 _ => ?_)
        refine o_on 87 _ rfl rfl hg44 ?_
        refine o_q (q_call rfl fn_15 rfl (fun w1 h1 => c15 w1 gC.2.1 gC.2.2 (some ⟨b46, 0, none⟩) 1 [256] (HS.vl_own (cs := [.int .i64 256]) h1 aPk) (h1.vl_blk aPk) (by decide))) rfl ?_
        refine o_p (p_pickt rfl rfl hg44 rfl) rfl ?_
        refine o_nil ?_
        exact s_joinN 4 91 _ rfl rfl rfl (fun w h => by first | exact h | exact h.ent aEt))
      (by
        intro hg47
        have hs48 := hg47; try simp only [decide_eq_true_eq, decide_eq_false_iff_not, Bool.not_eq_true', Bool.not_eq_false', Bool.and_eq_true, Bool.or_eq_true, Bool.and_eq_false_iff, Bool.or_eq_false_iff, Bool.not_true, Bool.not_false] at hs48
        refine o_off 87 _ rfl rfl hg47 rfl ?_
        refine o_off 87 _ rfl rfl hg47 rfl ?_
        refine o_off 87 _ rfl rfl hg47 rfl ?_
        refine o_p (p_pickf rfl rfl hg47 rfl) rfl ?_
        refine o_nil ?_
        exact s_joinN 4 91 _ rfl rfl rfl (fun w h => by first | exact h | exact h.ent aEt)) ?_
    refine o_p (p_pure rfl) rfl ?_
    refine o_and 4 92 96 _ _ rfl
      (by
        intro hg49
        have hs50 := hg49; try simp only [decide_eq_true_eq, decide_eq_false_iff_not, Bool.not_eq_true', Bool.not_eq_false', Bool.and_eq_true, Bool.or_eq_true, Bool.and_eq_false_iff, Bool.or_eq_false_iff, Bool.not_true, Bool.not_false] at hs50
        refine o_on 92 _ rfl rfl hg49 ?_
        refine o_p (p_fieldAddr rfl rfl fd_24_0 sz_3 rfl) rfl ?_
        refine o_on 92 _ rfl rfl hg49 ?_
        refine o_q (q_load rfl rfl sz_3 aPk rfl) rfl ?_
        refine o_on 92 _ rfl rfl hg49 ?_
        refine o_p (p_pure rfl) rfl ?_
        refine o_p (p_pickt rfl rfl hg49 rfl) rfl ?_
        refine o_nil ?_
        exact s_joinN 4 96 _ rfl rfl rfl (fun w h => by first | exact h | exact h.ent aEt))
      (by
        intro hg51
        have hs52 := hg51; try simp only [decide_eq_true_eq, decide_eq_false_iff_not, Bool.not_eq_true', Bool.not_eq_false', Bool.and_eq_true, Bool.or_eq_true, Bool.and_eq_false_iff, Bool.or_eq_false_iff, Bool.not_true, Bool.not_false] at hs52
        refine o_off 92 _ rfl rfl hg51 rfl ?_
        refine o_off 92 _ rfl rfl hg51 rfl ?_
        refine o_off 92 _ rfl rfl hg51 rfl ?_
        refine o_p (p_pickf rfl rfl hg51 rfl) rfl ?_
        refine o_nil ?_
        exact s_joinN 4 96 _ rfl rfl rfl (fun w h => by first | exact h | exact h.ent aEt)) ?_
    refine o_p (p_pure rfl) rfl ?_
    refine o_nil ?_
    exact s_retv (rs := [.tmp 0]) rfl (.tmp rfl (.nil)) (fun w' h' => ⟨by rfl, h'.below⟩)

end Go.Proofs

namespace Go.Proofs
open Go Go.RowKit Gx
set_option linter.unusedVariables false
set_option linter.unusedSimpArgs false
attribute [local irreducible] Go.Calls Gx.S Gx.O Gx.D Gx.OpP Gx.OpQ Gx.OpH

theorem fn_6 : isFn Tryz.prog 6 = true := by kernel_rfl
theorem fn_7 : isFn Tryz.prog 7 = true := by kernel_rfl
theorem fn_11 : isFn Tryz.prog 11 = true := by kernel_rfl
theorem fn_13 : isFn Tryz.prog 13 = true := by kernel_rfl
end Go.Proofs

namespace Go.Proofs
open Go Go.RowKit Gx
set_option linter.unusedVariables false
set_option linter.unusedSimpArgs false
attribute [local irreducible] Go.Calls Gx.S Gx.O Gx.D Gx.OpP Gx.OpQ Gx.OpH

theorem fn_16 : isFn Tryz.prog 16 = true := by kernel_rfl
theorem fn_18 : isFn Tryz.prog 18 = true := by kernel_rfl
end Go.Proofs

/- Chapter 18, plain: what is encoded is decoded; a store with a descriptor added is valid. Nothing of a program is named here. -/
namespace Gx
set_option linter.unusedSimpArgs false
set_option linter.unusedVariables false
open Go Go.RowKit
theorem at1_0 (x : UInt8) (l : List UInt8) : at1 (x :: l) 0 = (x.toNat : Int) := rfl
theorem at1_s (x : UInt8) (l : List UInt8) (i : Nat) : at1 (x :: l) (i + 1) = at1 l i := rfl
theorem ace_back {a : Ace} (rest : List UInt8) (h : aceE a = 0) : aceOf (aceB a ++ rest) 0 = a := by
  obtain ⟨h1, h2, h3, h4⟩ := aceE_ok h
  have e : aceB a ++ rest = by8 a.kd :: by8 a.fl :: by8 a.ms :: by8 (a.ms / 256) :: by8 a.wh :: by8 (a.wh / 256) :: by8 (a.wh / 65536) :: by8 (a.wh / 16777216) :: rest := rfl
  rw [e]
  obtain ⟨kd, fl, ms, wh⟩ := a
  simp only [] at h1 h2 h3 h4
  unfold aceOf at4 at2
  simp only [at1_s, at1_0, by8_toNat, Nat.zero_add, show (2 : Nat) = 0 + 1 + 1 from rfl, show (3 : Nat) = 0 + 1 + 1 + 1 from rfl, show (4 : Nat) = 0 + 1 + 1 + 1 + 1 from rfl, show (5 : Nat) = 0 + 1 + 1 + 1 + 1 + 1 from rfl, show (6 : Nat) = 0 + 1 + 1 + 1 + 1 + 1 + 1 from rfl, show (7 : Nat) = 0 + 1 + 1 + 1 + 1 + 1 + 1 + 1 from rfl]
  congr 1 <;> omega
theorem flatB_drop : ∀ (l : List Ace) (i : Nat), (l.flatMap aceB).drop (8 * i) = (l.drop i).flatMap aceB
  | l, 0 => by simp
  | [], i + 1 => by simp
  | a :: l, i + 1 => by
    rw [List.flatMap_cons, List.drop_succ_cons, ← flatB_drop l i, show 8 * (i + 1) = 8 + 8 * i by omega, ← List.drop_drop]
    rfl
theorem encD_drop (d : Dsc) (i : Nat) : (encD d).drop (12 + 8 * i) = ((d.en ++ d.au).drop i).flatMap aceB := by
  rw [encD_eq, ← List.drop_drop]
  rw [show (headB d ++ (d.en ++ d.au).flatMap aceB).drop 12 = (d.en ++ d.au).flatMap aceB from rfl, flatB_drop]
theorem aceOf_drop (s : List UInt8) (k : Nat) : aceOf s k = aceOf (s.drop k) 0 := by
  unfold aceOf
  rw [at1_drop, at1_drop, at2_drop, at4_drop]
  rfl
theorem ace_enc {d : Dsc} {i : Nat} (h : i < (d.en ++ d.au).length) (hv : aceE (nth (d.en ++ d.au) i) = 0) : aceOf (encD d) (12 + 8 * i) = nth (d.en ++ d.au) i := by
  rw [aceOf_drop, encD_drop, List.drop_eq_getElem_cons h, List.flatMap_cons]
  have e : (d.en ++ d.au)[i] = nth (d.en ++ d.au) i := by
    have := nth_get h
    rw [List.getElem?_eq_getElem h] at this
    exact Option.some.inj this
  rw [e]
  exact ace_back _ hv
theorem nth_left' {α : Type} [Inhabited α] {l m : List α} {k : Nat} (h : k < l.length) : nth (l ++ m) k = nth l k := by
  unfold nth; rw [List.getD_eq_getElem?_getD, List.getElem?_append_left h, ← List.getD_eq_getElem?_getD]
theorem nth_right' {α : Type} [Inhabited α] {l m : List α} {k : Nat} : nth (l ++ m) (l.length + k) = nth m k := by
  unfold nth; rw [List.getD_eq_getElem?_getD, List.getElem?_append_right (by omega), ← List.getD_eq_getElem?_getD, show l.length + k - l.length = k by omega]
theorem enc_head (d : Dsc) : ∃ rest, encD d = 1 :: by8 (flagB d) :: by8 d.en.length :: by8 d.au.length :: by8 d.ow :: by8 (d.ow / 256) :: by8 (d.ow / 65536) :: by8 (d.ow / 16777216) :: by8 d.gr :: by8 (d.gr / 256) :: by8 (d.gr / 65536) :: by8 (d.gr / 16777216) :: rest := ⟨_, rfl⟩
theorem enc_dec {d : Dsc} (h : (dscE d).2 = 0) : shpE (encD d) = 0 ∧ rawD (encD d) = d := by
  obtain ⟨h1, ⟨h2, h3⟩, h4, h5⟩ := dsc_ok h
  obtain ⟨⟨o1, o2⟩, g1, g2⟩ := pairE_ok h1
  have hl := encD_len d
  obtain ⟨rest, hr⟩ := enc_head d
  have hf : 0 ≤ flagB d ∧ flagB d ≤ 3 := by unfold flagB; split <;> split <;> omega
  have a0 : at1 (encD d) 0 = 1 := by rw [hr]; rfl
  have a1 : at1 (encD d) 1 = flagB d := by rw [hr, at1_s, at1_0, by8_toNat]; omega
  have a2 : at1 (encD d) 2 = d.en.length := by rw [hr]; simp only [at1_s, at1_0, show (2 : Nat) = 0 + 1 + 1 from rfl, by8_toNat]; omega
  have a3 : at1 (encD d) 3 = d.au.length := by rw [hr]; simp only [at1_s, at1_0, show (3 : Nat) = 0 + 1 + 1 + 1 from rfl, by8_toNat]; omega
  have a4 : at4 (encD d) 4 = d.ow := by
    unfold at4 at2
    rw [hr]
    simp only [at1_s, at1_0, show (4 : Nat) = 0 + 1 + 1 + 1 + 1 from rfl, show (2 : Nat) = 0 + 1 + 1 from rfl, ← Nat.add_assoc, by8_toNat]
    omega
  have a8 : at4 (encD d) 8 = d.gr := by
    unfold at4 at2
    rw [hr]
    simp only [at1_s, at1_0, show (8 : Nat) = 0 + 1 + 1 + 1 + 1 + 1 + 1 + 1 + 1 from rfl, show (2 : Nat) = 0 + 1 + 1 from rfl, ← Nat.add_assoc, by8_toNat]
    omega
  have hv : ∀ i, i < (d.en ++ d.au).length → aceOf (encD d) (12 + 8 * i) = nth (d.en ++ d.au) i := fun i hi => ace_enc hi (aceAt_ok (h5 i hi))
  refine ⟨?_, ?_⟩
  · unfold shpE
    rw [a0, a1, a2, a3, if_neg (by omega), if_pos (by omega), if_pos (by omega), if_pos (by omega)]
  · have e1 : (List.range d.en.length).map (fun i => aceOf (encD d) (12 + 8 * i)) = d.en := by
      apply List.ext_getElem?
      intro i
      rw [List.getElem?_map]
      by_cases hi : i < d.en.length
      · rw [List.getElem?_range hi, Option.map_some, hv i (by rw [List.length_append]; omega), nth_left' hi, nth_get hi]
      · rw [List.getElem?_eq_none (by simp; omega), List.getElem?_eq_none (by omega)]; rfl
    have e2 : (List.range d.au.length).map (fun i => aceOf (encD d) (12 + 8 * (d.en.length + i))) = d.au := by
      apply List.ext_getElem?
      intro i
      rw [List.getElem?_map]
      by_cases hi : i < d.au.length
      · rw [List.getElem?_range hi, Option.map_some, hv (d.en.length + i) (by rw [List.length_append]; omega), nth_right', nth_get hi]
      · rw [List.getElem?_eq_none (by simp; omega), List.getElem?_eq_none (by omega)]; rfl
    unfold rawD
    rw [a1, a2, a3, a4, a8, Int.toNat_natCast, Int.toNat_natCast, e1, e2]
    obtain ⟨ow, gr, pr, he, en, au⟩ := d
    unfold flagB
    cases pr <;> cases he <;> rfl
theorem dec_enc {d : Dsc} (h : (dscE d).2 = 0) : decE (encD d) = 0 ∧ decD (encD d) = d := by
  obtain ⟨h1, h2⟩ := enc_dec h
  have := dec_good h1 (by rw [h2]; exact h)
  rwa [h2] at this
/-! ## The store with an item more -/
theorem e0_ok {nx : Int} {l : List SItm} {i : Nat} (h1 : 256 ≤ (nth l i).id ∧ (nth l i).id ≤ nx - 1) (h2 : i = 0 ∨ (nth l (i - 1)).id < (nth l i).id) : e0E nx l i = 0 := by
  unfold e0E; rw [if_pos h1, if_pos h2]
theorem itm_ok' {nx : Int} {l : List SItm} {i : Nat} (h0 : e0E nx l i = 0) (h1 : decE (nth l i).by_ = 0) (h : ¬ (nth l i).by_ ∈ (l.take i).map SItm.by_) : itmE nx l i = 0 := by
  rw [← itm_eq nx l i (P := (nth l i).by_ ∈ (l.take i).map SItm.by_) (dP := inferInstance) Iff.rfl]
  simp only [firstV, e1E, if_pos h0, h1, h]; simp
theorem sto_of {nx : Int} {l : List SItm} (h1 : 256 ≤ nx ∧ nx ≤ 2147483647) (h2 : l.length ≤ 60) (h3 : ∀ k, k < l.length → itmE nx l k = 0) (h4 : (plsI l).2 ≤ 8192) : stoE nx l = (0, 0) := by
  have h5 : (eachF (itmsE nx l) 0).2 = 0 := eachF_0.2 fun e he => by
    obtain ⟨i, hi, rfl⟩ := List.mem_map.1 he
    exact h3 i (List.mem_range.1 hi)
  unfold stoE
  rw [if_pos h1, if_pos h2, if_pos h5, if_pos h4]
theorem add_valid {nx : Int} {l : List SItm} {d : Dsc} (hs : (stoE nx l).2 = 0) (hd : (dscE d).2 = 0) (h : (addR nx l (encD d)).e = 0) : (stoE (addR nx l (encD d)).nx (addR nx l (encD d)).l).2 = 0 := by
  obtain ⟨h1, h2, h3, h4⟩ := sto_ok hs
  by_cases hk : byK l (encD d) < l.length
  · have e : addR nx l (encD d) = ⟨nx, l, (nth l (byK l (encD d))).id, 0⟩ := by unfold addR; rw [if_pos hk]
    rw [e]; exact hs
  · by_cases hf : (l ++ [SItm.mk nx (encD d)]).length > 60 ∨ (plsI (l ++ [SItm.mk nx (encD d)])).2 > 8192 ∨ nx = 2147483647
    · have e : addR nx l (encD d) = ⟨0, [], 0, 16⟩ := by unfold addR; rw [if_neg hk, if_pos hf]
      rw [e] at h; exact absurd h (by decide)
    · have e : addR nx l (encD d) = ⟨nx + 1, l ++ [SItm.mk nx (encD d)], nx, 0⟩ := by unfold addR; rw [if_neg hk, if_neg hf]
      rw [e]
      show (stoE (nx + 1) (l ++ [SItm.mk nx (encD d)])).2 = 0
      have hl : (l ++ [SItm.mk nx (encD d)]).length = l.length + 1 := by simp
      rw [sto_of (by omega) (by omega) (fun k hk2 => ?_) (by omega)]
      rw [hl] at hk2
      rcases Nat.lt_or_ge k l.length with hkl | hkl
      · have hi := h3 k hkl
        have hr := itm_rng hi
        have hi0 := itm_e0 hi
        have n1 : nth (l ++ [SItm.mk nx (encD d)]) k = nth l k := nth_left' hkl
        have n2 : nth (l ++ [SItm.mk nx (encD d)]) (k - 1) = nth l (k - 1) := nth_left' (by omega)
        refine itm_ok' (e0_ok (by rw [n1]; omega) (by rw [n1, n2]; exact hr.2)) (by rw [n1]; exact hi0.2.1) ?_
        rw [n1, List.take_append_of_le_length (by omega)]
        exact hi0.2.2
      · obtain rfl : k = l.length := by omega
        have n1 : nth (l ++ [SItm.mk nx (encD d)]) l.length = SItm.mk nx (encD d) := nth_eq (by simp)
        refine itm_ok' (e0_ok (by rw [n1]; show 256 ≤ nx ∧ nx ≤ nx + 1 - 1; omega) ?_) (by rw [n1]; exact (dec_enc hd).1) ?_
        · rcases Nat.eq_zero_or_pos l.length with h0 | h0
          · exact .inl h0
          · right
            rw [n1, nth_left' (show l.length - 1 < l.length by omega)]
            have := (itm_rng (h3 (l.length - 1) (by omega))).1
            show _ < nx
            omega
        · rw [n1, List.take_append_of_le_length (Nat.le_refl _), List.take_length]
          show ¬ encD d ∈ l.map SItm.by_
          intro hm
          obtain ⟨x, hx, e2⟩ := List.mem_map.1 hm
          obtain ⟨j, hj⟩ := List.mem_iff_getElem?.1 hx
          have hjl : j < l.length := by
            rcases Nat.lt_or_ge j l.length with h9 | h9
            · exact h9
            · rw [List.getElem?_eq_none h9] at hj; cases hj
          have hkl' := byK_le l (encD d)
          exact byK_no (l := l) (b := encD d) (i := j) (by omega) (by rw [nth_eq hj]; exact e2)
/-- What is added again. -/
theorem add_again {nx : Int} {l : List SItm} {b : List UInt8} (h : (addR nx l b).e = 0) : addR (addR nx l b).nx (addR nx l b).l b = ⟨(addR nx l b).nx, (addR nx l b).l, (addR nx l b).id, 0⟩ := by
  by_cases hk : byK l b < l.length
  · have e : addR nx l b = ⟨nx, l, (nth l (byK l b)).id, 0⟩ := by unfold addR; rw [if_pos hk]
    rw [e]
    exact e
  · by_cases hf : (l ++ [SItm.mk nx b]).length > 60 ∨ (plsI (l ++ [SItm.mk nx b])).2 > 8192 ∨ nx = 2147483647
    · have e : addR nx l b = ⟨0, [], 0, 16⟩ := by unfold addR; rw [if_neg hk, if_pos hf]
      rw [e] at h; exact absurd h (by decide)
    · have e : addR nx l b = ⟨nx + 1, l ++ [SItm.mk nx b], nx, 0⟩ := by unfold addR; rw [if_neg hk, if_neg hf]
      have hn : nth (l ++ [SItm.mk nx b]) l.length = SItm.mk nx b := nth_eq (by simp)
      have hk2 : byK (l ++ [SItm.mk nx b]) b = l.length := byK_eq (by simp) (fun i hi => by
        rw [nth_left' hi]
        exact byK_no (by have := byK_le l b; omega)) (fun _ => by rw [hn])
      rw [e]
      show addR (nx + 1) (l ++ [SItm.mk nx b]) b = _
      unfold addR
      rw [if_pos (by rw [hk2]; simp), hk2, hn]
theorem addR_len (nx : Int) (l : List SItm) (b : List UInt8) : (addR nx l b).l.length ≤ l.length + 1 := by
  unfold addR
  split
  · show l.length ≤ _; omega
  · split
    · show ([] : List SItm).length ≤ _; simp
    · show (l ++ [SItm.mk nx b]).length ≤ _; simp
theorem addR_mem {nx : Int} {l : List SItm} {b : List UInt8} {x : SItm} (h : x ∈ (addR nx l b).l) : x ∈ l ∨ x.by_ = b := by
  unfold addR at h
  split at h
  · exact .inl h
  · split at h
    · cases h
    · rcases List.mem_append.1 h with h | h
      · exact .inl h
      · rw [List.mem_singleton.1 h]; exact .inr rfl
theorem addT_eq {nx : Int} {l : List SItm} {d : Dsc} (hs : (stoE nx l).2 = 0) (hd : (dscE d).2 = 0) : addT nx l d = addR nx l (encD d) := by
  unfold addT
  rw [if_pos]
  unfold addE
  rw [if_pos hs, hd]
theorem add_two {nx : Int} {l : List SItm} {d : Dsc} (hs : (stoE nx l).2 = 0) (hd : (dscE d).2 = 0) (h : (addR nx l (encD d)).e = 0) : addT (addR nx l (encD d)).nx (addR nx l (encD d)).l d = ⟨(addR nx l (encD d)).nx, (addR nx l (encD d)).l, (addR nx l (encD d)).id, 0⟩ := by
  rw [addT_eq (add_valid hs hd h) hd, add_again h]
theorem dof_hit {nx n : Int} {l : List SItm} (hs : (stoE nx l).2 = 0) (hk : idK l n < l.length) : (dofT nx l n).1 = decD (nth l (idK l n)).by_ ∧ (dofT nx l n).2 = 0 := by
  obtain ⟨h1, h2, h3, h4⟩ := sto_ok hs
  have h5 := idK_hit hk
  have h6 := (itm_rng (h3 _ hk)).1
  have h7 := (itm_e0 (h3 _ hk)).2.1
  unfold dofT
  rw [if_pos hs, if_pos (by omega), if_pos hk]
  exact ⟨rfl, h7⟩
theorem dof_no {nx n : Int} {l : List SItm} (hs : (stoE nx l).2 = 0) (hk : ¬ idK l n < l.length) : (dofT nx l n).1 = noD ∧ (dofT nx l n).2 = 6 := by
  unfold dofT
  rw [if_pos hs, if_neg hk]
  by_cases h : 256 ≤ n ∧ n ≤ 2147483647
  · rw [if_pos h]; exact ⟨rfl, rfl⟩
  · rw [if_neg h]; exact ⟨rfl, rfl⟩
theorem dec_len (s : List UInt8) : (decD s).en.length ≤ 16 ∧ (decD s).au.length ≤ 16 := by
  unfold decD
  split
  · rename_i h
    unfold decE at h
    split at h
    · obtain ⟨_, h2, _, _⟩ := dsc_ok h
      exact h2
    · rename_i h9; exact absurd h h9
  · exact ⟨Nat.zero_le _, Nat.zero_le _⟩
end Gx

namespace Go.Proofs
open Go Go.RowKit Gx
set_option linter.unusedVariables false
set_option linter.unusedSimpArgs false
attribute [local irreducible] Go.Calls Gx.S Gx.O Gx.D Gx.OpP Gx.OpQ Gx.OpH

theorem fn_29 : isFn Tryz.prog 29 = true := by kernel_rfl
theorem fn_30 : isFn Tryz.prog 30 = true := by kernel_rfl
theorem fn_31 : isFn Tryz.prog 31 = true := by kernel_rfl
theorem fn_35 : isFn Tryz.prog 35 = true := by kernel_rfl


set_option maxRecDepth 20000 in
set_option maxHeartbeats 8000000 in
theorem c5 (w : World) (nx : Int) (a : Option Addr) (cap : Nat) (l : List SItm) (d : Dsc) (ea : Option Addr) (eac : Nat) (aa : Option Addr) (aac : Nat) (n : Int) (hs : Rw SItm.vals 2 w [] a l) (hmM : l.length ≤ 9223372036854775807) (hbM : ∀ x ∈ l, x.by_.length ≤ 9223372036854775807) (hse : Rw Ace.vals 4 w [] ea d.en) (hsa : Rw Ace.vals 4 w [] aa d.au) : Calls Tryz.prog 5 #[.agg #[.int .i64 nx, .slice a l.length cap], .agg #[.int .i64 d.ow, .int .i64 d.gr, .bool d.pr, .bool d.he, .slice ea d.en.length eac, .slice aa d.au.length aac], .int .i64 n] w fun en w' => en = .returned (.bool true) ∧ Below w.heap.size w w' := by
  refine enter (args := [_, _, _]) Tryz.func5 Tryz.ntmps5 rfl rfl (HS.refl w []) ?_
  refine s_seq ?_
  refine s_region ?_
  refine o_h (h_box rfl rfl) rfl (fun b1 _ => ?_)
  refine o_h (h_box rfl rfl) rfl (fun b2 _ => ?_)
  refine o_p (p_pure rfl) rfl ?_
  refine o_nil ?_
  refine s_seq ?_
  refine s_seq ?_
  refine s_region ?_
  refine o_q (q_call rfl fn_6 rfl (fun w1 h1 => c6 w1)) rfl ?_
  refine o_p (p_pure rfl) rfl ?_
  refine o_nil ?_
  refine s_cond rfl (fun h3 => ?_) (fun h3 => ?_)
  · try simp only [decide_eq_true_eq, decide_eq_false_iff_not, Bool.not_eq_true', Bool.not_eq_false', Bool.and_eq_true, Bool.or_eq_true, Bool.and_eq_false_iff, Bool.or_eq_false_iff, Bool.not_true, Bool.not_false] at h3
    exfalso; first | omega | (simp at h3; done) | (simp_all; done)
  · try simp only [decide_eq_true_eq, decide_eq_false_iff_not, Bool.not_eq_true', Bool.not_eq_false', Bool.and_eq_true, Bool.or_eq_true, Bool.and_eq_false_iff, Bool.or_eq_false_iff, Bool.not_true, Bool.not_false] at h3
    refine s_skip ?_
    refine s_seq ?_
    refine s_seq ?_
    refine s_region ?_
    refine o_q (q_loadn rfl rfl sz_24 aPk rfl) rfl ?_
    refine o_q (q_call rfl fn_7 rfl (fun w1 h1 => c7 w1 nx a cap l (hs.later h1) hmM hbM)) rfl ?_
    refine o_p (p_pure rfl) rfl ?_
    refine o_p (p_pure rfl) rfl ?_
    refine o_or 4 33 37 _ _ rfl
      (by
        intro hg4
        have hs5 := hg4; try simp only [decide_eq_true_eq, decide_eq_false_iff_not, Bool.not_eq_true', Bool.not_eq_false', Bool.and_eq_true, Bool.or_eq_true, Bool.and_eq_false_iff, Bool.or_eq_false_iff, Bool.not_true, Bool.not_false] at hs5
        refine o_on 33 _ rfl rfl hg4 ?_
        refine o_q (q_loadn rfl rfl sz_42 aPk rfl) rfl ?_
        refine o_on 33 _ rfl rfl hg4 ?_
        refine o_q (q_call rfl fn_16 rfl (fun w1 h1 => c16 w1 d ea eac aa aac)) rfl ?_
        refine o_on 33 _ rfl rfl hg4 ?_
        refine o_p (p_pure rfl) rfl ?_
        refine o_p (p_pickf rfl rfl hg4 rfl) rfl ?_
        refine o_nil ?_
        exact s_joinN 4 37 _ rfl rfl rfl (fun w h => by first | exact h | exact h.ent aEt))
      (by
        intro hg6
        have hs7 := hg6; try simp only [decide_eq_true_eq, decide_eq_false_iff_not, Bool.not_eq_true', Bool.not_eq_false', Bool.and_eq_true, Bool.or_eq_true, Bool.and_eq_false_iff, Bool.or_eq_false_iff, Bool.not_true, Bool.not_false] at hs7
        refine o_off 33 _ rfl rfl hg6 rfl ?_
        refine o_off 33 _ rfl rfl hg6 rfl ?_
        refine o_off 33 _ rfl rfl hg6 rfl ?_
        refine o_p (p_pickt rfl rfl hg6 rfl) rfl ?_
        refine o_nil ?_
        exact s_joinN 4 37 _ rfl rfl rfl (fun w h => by first | exact h | exact h.ent aEt)) ?_
    refine o_nil ?_
    refine s_cond rfl (fun h8 => ?_) (fun h8 => ?_)
    · try simp only [decide_eq_true_eq, decide_eq_false_iff_not, Bool.not_eq_true', Bool.not_eq_false', Bool.and_eq_true, Bool.or_eq_true, Bool.and_eq_false_iff, Bool.or_eq_false_iff, Bool.not_true, Bool.not_false] at h8
      refine s_seq ?_
      refine s_region ?_
      refine o_p (p_pure rfl) rfl ?_
      refine o_nil ?_
      exact s_retv (rs := [.tmp 6]) rfl (.tmp rfl (.nil)) (fun w' h' => ⟨by rfl, h'.below⟩)
    · try simp only [decide_eq_true_eq, decide_eq_false_iff_not, Bool.not_eq_true', Bool.not_eq_false', Bool.and_eq_true, Bool.or_eq_true, Bool.and_eq_false_iff, Bool.or_eq_false_iff, Bool.not_true, Bool.not_false] at h8
      have hfw : fewS l = true := by have hq := h8; first | exact hq.1 | (simp at hq; exact hq.1)
      obtain ⟨hm62, hb300⟩ := fewS_ok hfw
      have hm : l.length ≤ 100000 := by omega
      have hb : ∀ x ∈ l, x.by_.length ≤ 100000 := fun x hx => by have := hb300 x hx; omega
      have hq8 := h8
      have hfd : fewD d = true := by first | exact hq8.2 | (simp at hq8; exact hq8.2)
      obtain ⟨he20, ha20⟩ : d.en.length ≤ 20 ∧ d.au.length ≤ 20 := by unfold fewD at hfd; simpa using hfd
      have hme : d.en.length ≤ 100000 := by omega
      have hma : d.au.length ≤ 100000 := by omega
      refine s_skip ?_
      refine s_seq ?_
      refine s_cutI (α := Nat × Option Addr × Nat) [7, 8, 9, 38, 39, 40, 41, 42, 43, 44, 45, 46] (fun x => [(7, .pointer (some ⟨x.1, 0, none⟩)), (8, .int .i64 (addT nx l d).id), (9, .int .i64 (addT nx l d).e)]) (fun x => HS w [] [.blk x.1 24 2 [.int .i64 (addT nx l d).nx, .slice x.2.1 (addT nx l d).l.length x.2.2], .own (.slice x.2.1 (addT nx l d).l.length x.2.2) 77 2 (addT nx l d).l.length ((addT nx l d).l.flatMap SItm.vals), .blk b2 42 6 [.int .i64 d.ow, .int .i64 d.gr, .bool d.pr, .bool d.he, .slice ea d.en.length eac, .slice aa d.au.length aac], .blk b1 24 2 [.int .i64 nx, .slice a l.length cap]]) (fun _ => True) ?_ ?_
      · skip
        refine s_draw [10] mixed ?_
        refine d_q 0 [[]] rfl (q_loadn rfl rfl sz_24 aPk rfl) (by kernel_rfl) (by kernel_rfl) (by kernel_rfl) rfl ?_
        refine d_q 2 [[]] rfl (q_loadn rfl rfl sz_42 aPk rfl) (by kernel_rfl) (by kernel_rfl) (by kernel_rfl) rfl ?_
        refine d_two 1 9 rfl rfl  (h_call rfl fn_9 rfl (fun w1 h1 => c9 w1 nx a cap l (hs.later h1) hm hb)) (h_alloc rfl zr_24) (by kernel_rfl) (fun w h => h.ent aEt) rfl rfl  (fun gS _ => ?_) (fun b9 _ => ?_)
        · skip
          refine d_base (fun w h => h.ent aEt) ?_
          refine d_two 3 9 rfl rfl  (h_call rfl fn_18 rfl (fun w1 h1 => c18 w1 d ea eac aa aac (hse.later h1) (hsa.later h1) hme hma)) (h_alloc rfl zr_24) (by kernel_rfl) (fun w h => h.ent aEt) rfl rfl  (fun gD _ => ?_) (fun b10 _ => ?_)
          · skip
            refine d_base (fun w h => h.ent aEt) ?_
            refine d_two 4 9 rfl rfl  (h_call rfl fn_28 rfl (fun w1 h1 => c28 w1 nx gS.1 gS.2 l d gD.1.1 gD.1.2 gD.2.1 gD.2.2 (HS.rw_own (a := gS.1) (l := l) sv2 h1 aPk rfl) hm hb (HS.rw_own (a := gD.1.1) (l := d.en) av4 h1 aPk rfl) (HS.rw_own (a := gD.2.1) (l := d.au) av4 h1 aPk rfl) hme hma)) (h_alloc rfl zr_24) (by kernel_rfl) (fun w h => h.ent aEt) rfl rfl  (fun gA _ => ?_) (fun b11 _ => ?_)
            · skip
              refine d_base (fun w h => h.ent aEt) ?_
              refine d_p 5 rfl (p_pure rfl) (by kernel_rfl) rfl rfl ?_
              refine d_p 6 rfl (p_pure rfl) (by kernel_rfl) rfl rfl ?_
              refine d_p 7 rfl (p_pure rfl) (by kernel_rfl) rfl rfl ?_
              refine d_p 8 rfl (p_pure rfl) (by kernel_rfl) rfl rfl ?_
              refine d_h 9 rfl (h_alloc rfl zr_24) (by kernel_rfl) (fun w h => h.ent aEt) rfl (fun b12 _ => ?_)
              refine d_base (fun w h => h.ent aEt) ?_
              refine d_h0 10 rfl (h_store rfl rfl rfl sz_24 rfl aPt (by simp only [setMany_length, List.length_set, List.length_cons, List.length_nil, List.length_map]; omega) rfl) (by kernel_rfl) (fun w h => h.ent aEt) (fun _ _ => ?_)
              refine d_turn [] (by kernel_rfl) ?_
              refine d_p 11 rfl (p_pure rfl) (by kernel_rfl) rfl rfl ?_
              refine d_p 12 rfl (p_pure rfl) (by kernel_rfl) rfl rfl ?_
              refine d_nil (by kernel_rfl) (fun w h => by first | exact h | exact h.ent aEt) ?_
              exact s_joinI (b12, gA) trivial aSx (fun w h => h.ent aEt)
            · skip
              refine d_base (fun w h => h.ent aEt) ?_
              refine d_h 4 rfl (h_call rfl fn_28 rfl (fun w1 h1 => c28 w1 nx gS.1 gS.2 l d gD.1.1 gD.1.2 gD.2.1 gD.2.2 (HS.rw_own (a := gS.1) (l := l) sv2 h1 aPk rfl) hm hb (HS.rw_own (a := gD.1.1) (l := d.en) av4 h1 aPk rfl) (HS.rw_own (a := gD.2.1) (l := d.au) av4 h1 aPk rfl) hme hma)) (by kernel_rfl) (fun w h => h.ent aEt) rfl (fun gA _ => ?_)
              refine d_base (fun w h => h.ent aEt) ?_
              refine d_p 5 rfl (p_pure rfl) (by kernel_rfl) rfl rfl ?_
              refine d_p 6 rfl (p_pure rfl) (by kernel_rfl) rfl rfl ?_
              refine d_p 7 rfl (p_pure rfl) (by kernel_rfl) rfl rfl ?_
              refine d_p 8 rfl (p_pure rfl) (by kernel_rfl) rfl rfl ?_
              refine d_h0 10 rfl (h_store rfl rfl rfl sz_24 rfl aPt (by simp only [setMany_length, List.length_set, List.length_cons, List.length_nil, List.length_map]; omega) rfl) (by kernel_rfl) (fun w h => h.ent aEt) (fun _ _ => ?_)
              refine d_turn [] (by kernel_rfl) ?_
              refine d_p 11 rfl (p_pure rfl) (by kernel_rfl) rfl rfl ?_
              refine d_p 12 rfl (p_pure rfl) (by kernel_rfl) rfl rfl ?_
              refine d_nil (by kernel_rfl) (fun w h => by first | exact h | exact h.ent aEt) ?_
              exact s_joinI (b11, gA) trivial aSx (fun w h => h.ent aEt)
          · skip
            refine d_base (fun w h => h.ent aEt) ?_
            refine d_h 3 rfl (h_call rfl fn_18 rfl (fun w1 h1 => c18 w1 d ea eac aa aac (hse.later h1) (hsa.later h1) hme hma)) (by kernel_rfl) (fun w h => h.ent aEt) rfl (fun gD _ => ?_)
            refine d_base (fun w h => h.ent aEt) ?_
            refine d_h 4 rfl (h_call rfl fn_28 rfl (fun w1 h1 => c28 w1 nx gS.1 gS.2 l d gD.1.1 gD.1.2 gD.2.1 gD.2.2 (HS.rw_own (a := gS.1) (l := l) sv2 h1 aPk rfl) hm hb (HS.rw_own (a := gD.1.1) (l := d.en) av4 h1 aPk rfl) (HS.rw_own (a := gD.2.1) (l := d.au) av4 h1 aPk rfl) hme hma)) (by kernel_rfl) (fun w h => h.ent aEt) rfl (fun gA _ => ?_)
            refine d_base (fun w h => h.ent aEt) ?_
            refine d_p 5 rfl (p_pure rfl) (by kernel_rfl) rfl rfl ?_
            refine d_p 6 rfl (p_pure rfl) (by kernel_rfl) rfl rfl ?_
            refine d_p 7 rfl (p_pure rfl) (by kernel_rfl) rfl rfl ?_
            refine d_p 8 rfl (p_pure rfl) (by kernel_rfl) rfl rfl ?_
            refine d_h0 10 rfl (h_store rfl rfl rfl sz_24 rfl aPt (by simp only [setMany_length, List.length_set, List.length_cons, List.length_nil, List.length_map]; omega) rfl) (by kernel_rfl) (fun w h => h.ent aEt) (fun _ _ => ?_)
            refine d_turn [] (by kernel_rfl) ?_
            refine d_p 11 rfl (p_pure rfl) (by kernel_rfl) rfl rfl ?_
            refine d_p 12 rfl (p_pure rfl) (by kernel_rfl) rfl rfl ?_
            refine d_nil (by kernel_rfl) (fun w h => by first | exact h | exact h.ent aEt) ?_
            exact s_joinI (b10, gA) trivial aSx (fun w h => h.ent aEt)
        · skip
          refine d_base (fun w h => h.ent aEt) ?_
          refine d_h 1 rfl (h_call rfl fn_9 rfl (fun w1 h1 => c9 w1 nx a cap l (hs.later h1) hm hb)) (by kernel_rfl) (fun w h => h.ent aEt) rfl (fun gS _ => ?_)
          refine d_base (fun w h => h.ent aEt) ?_
          refine d_h 3 rfl (h_call rfl fn_18 rfl (fun w1 h1 => c18 w1 d ea eac aa aac (hse.later h1) (hsa.later h1) hme hma)) (by kernel_rfl) (fun w h => h.ent aEt) rfl (fun gD _ => ?_)
          refine d_base (fun w h => h.ent aEt) ?_
          refine d_h 4 rfl (h_call rfl fn_28 rfl (fun w1 h1 => c28 w1 nx gS.1 gS.2 l d gD.1.1 gD.1.2 gD.2.1 gD.2.2 (HS.rw_own (a := gS.1) (l := l) sv2 h1 aPk rfl) hm hb (HS.rw_own (a := gD.1.1) (l := d.en) av4 h1 aPk rfl) (HS.rw_own (a := gD.2.1) (l := d.au) av4 h1 aPk rfl) hme hma)) (by kernel_rfl) (fun w h => h.ent aEt) rfl (fun gA _ => ?_)
          refine d_base (fun w h => h.ent aEt) ?_
          refine d_p 5 rfl (p_pure rfl) (by kernel_rfl) rfl rfl ?_
          refine d_p 6 rfl (p_pure rfl) (by kernel_rfl) rfl rfl ?_
          refine d_p 7 rfl (p_pure rfl) (by kernel_rfl) rfl rfl ?_
          refine d_p 8 rfl (p_pure rfl) (by kernel_rfl) rfl rfl ?_
          refine d_h0 10 rfl (h_store rfl rfl rfl sz_24 rfl aPt (by simp only [setMany_length, List.length_set, List.length_cons, List.length_nil, List.length_map]; omega) rfl) (by kernel_rfl) (fun w h => h.ent aEt) (fun _ _ => ?_)
          refine d_turn [] (by kernel_rfl) ?_
          refine d_p 11 rfl (p_pure rfl) (by kernel_rfl) rfl rfl ?_
          refine d_p 12 rfl (p_pure rfl) (by kernel_rfl) rfl rfl ?_
          refine d_nil (by kernel_rfl) (fun w h => by first | exact h | exact h.ent aEt) ?_
          exact s_joinI (b9, gA) trivial aSx (fun w h => h.ent aEt)
      · intro x hx
        refine s_seq ?_
        refine s_draw [] mixed ?_
        refine d_q 0 [] rfl (q_loadn rfl rfl sz_24 aPk rfl) (by kernel_rfl) (by kernel_rfl) (by kernel_rfl) rfl ?_
        refine d_q 2 [] rfl (q_loadn rfl rfl sz_42 aPk rfl) (by kernel_rfl) (by kernel_rfl) (by kernel_rfl) rfl ?_
        refine d_h 1 rfl (h_call rfl fn_9 rfl (fun w1 h1 => c9 w1 nx a cap l (hs.later h1) hm hb)) (by kernel_rfl) (fun w h => h.ent aEt) rfl (fun gS1 _ => ?_)
        refine d_base (fun w h => h.ent aEt) ?_
        refine d_h 3 rfl (h_call rfl fn_18 rfl (fun w1 h1 => c18 w1 d ea eac aa aac (hse.later h1) (hsa.later h1) hme hma)) (by kernel_rfl) (fun w h => h.ent aEt) rfl (fun gD1 _ => ?_)
        refine d_base (fun w h => h.ent aEt) ?_
        refine d_q 4 [] rfl (q_call rfl fn_29 rfl (fun w1 h1 => c29 w1 nx gS1.1 gS1.2 l d gD1.1.1 gD1.1.2 gD1.2.1 gD1.2.2 (HS.rw_own (a := gS1.1) (l := l) sv2 h1 aPk rfl) hm hb (HS.rw_own (a := gD1.1.1) (l := d.en) av4 h1 aPk rfl) (HS.rw_own (a := gD1.2.1) (l := d.au) av4 h1 aPk rfl) hme hma)) (by kernel_rfl) (by kernel_rfl) (by kernel_rfl) rfl ?_
        refine d_p 5 rfl (p_pure rfl) (by kernel_rfl) rfl rfl ?_
        refine d_p 6 rfl (p_pure rfl) (by kernel_rfl) rfl rfl ?_
        refine d_p 7 rfl (p_pure rfl) (by kernel_rfl) rfl rfl ?_
        refine d_p 8 rfl (p_pure rfl) (by kernel_rfl) rfl rfl ?_
        refine d_p 9 rfl (p_pure rfl) (by kernel_rfl) rfl rfl ?_
        refine d_nil (by kernel_rfl) (fun w h => by first | exact h | exact h.ent aEt) ?_
        refine s_seq ?_
        refine s_region ?_
        refine o_q (q_loadn rfl rfl sz_24 aPk rfl) rfl ?_
        refine o_h (h_call rfl fn_9 rfl (fun w1 h1 => c9 w1 nx a cap l (hs.later h1) hm hb)) rfl (fun gS2 _ => ?_)
        refine o_p (p_pure rfl) rfl ?_
        refine o_h (h_call rfl fn_30 rfl (fun w1 h1 => c30 w1 nx gS2.1 gS2.2 l n (HS.rw_own (a := gS2.1) (l := l) sv2 h1 aPk rfl) hm hb)) rfl (fun gE _ => ?_)
        refine o_p (p_pure rfl) rfl ?_
        refine o_p (p_pure rfl) rfl ?_
        refine o_p (p_pure rfl) rfl ?_
        refine o_h (h_alloc rfl zr_42) rfl (fun b13 _ => ?_)
        refine o_h0 (h_store rfl rfl rfl sz_42 rfl aPt (by simp only [setMany_length, List.length_set, List.length_cons, List.length_nil, List.length_map]; omega) rfl) (fun _ _ => ?_)
        refine o_p (p_pure rfl) rfl ?_
        refine o_nil ?_
        refine s_seq ?_
        refine s_weaken (L' := [(2, _), (3, _), (4, _), (6, _), (7, _), (8, _), (9, _), (10, _), (11, _), (12, _), (13, _)]) aSx (fun _ h => h) ?_
        refine s_region ?_
        refine o_p (p_build (cs := [_, _]) rfl rfl pl_24 zr_24 rfl) rfl ?_
        refine o_h (h_alloc rfl zr_24) rfl (fun b14 _ => ?_)
        refine o_h0 (h_store rfl rfl rfl sz_24 rfl aPt (by simp only [setMany_length, List.length_set, List.length_cons, List.length_nil, List.length_map]; omega) rfl) (fun _ _ => ?_)
        refine o_nil ?_
        refine s_seq ?_
        refine s_seq ?_
        refine s_region ?_
        refine o_q (q_loadn rfl rfl sz_24 aPk rfl) rfl ?_
        refine o_q (q_call rfl fn_11 rfl (fun w1 h1 => c11 w1 nx a cap l (hs.later h1) hm hb)) rfl ?_
        refine o_p (p_pure rfl) rfl ?_
        refine o_nil ?_
        refine s_seq ?_
        refine s_region ?_
        refine o_p (p_pure rfl) rfl ?_
        refine o_p (p_pure rfl) rfl ?_
        refine o_nil ?_
        refine s_cond rfl (fun h15 => ?_) (fun h15 => ?_)
        · try simp only [decide_eq_true_eq, decide_eq_false_iff_not, Bool.not_eq_true', Bool.not_eq_false', Bool.and_eq_true, Bool.or_eq_true, Bool.and_eq_false_iff, Bool.or_eq_false_iff, Bool.not_true, Bool.not_false] at h15
          have hst0 : ¬ (stoE nx l).2 = 0 := h15
          have hT1 : addT nx l d = ⟨0, [], 0, (stoE nx l).2⟩ := by unfold addT addE; rw [if_neg hst0, if_neg hst0]
          have hT2 : idtT nx l d = (0, (stoE nx l).2) := by unfold idtT addE; rw [if_neg hst0, if_neg hst0]
          have hT3 : dofT nx l n = (noD, (stoE nx l).2) := by unfold dofT; rw [if_neg hst0]
          rw [hT1, hT2, hT3]
          refine s_seq ?_
          refine s_region ?_
          refine o_p (p_pure rfl) rfl ?_
          refine o_p (p_pure rfl) rfl ?_
          refine o_p (p_pure rfl) rfl ?_
          refine o_p (p_pure rfl) rfl ?_
          refine o_and 4 70 74 _ _ rfl
            (by
              intro hg16
              have hs17 := hg16; try simp only [decide_eq_true_eq, decide_eq_false_iff_not, Bool.not_eq_true', Bool.not_eq_false', Bool.and_eq_true, Bool.or_eq_true, Bool.and_eq_false_iff, Bool.or_eq_false_iff, Bool.not_true, Bool.not_false] at hs17
              refine o_on 70 _ rfl rfl hg16 ?_
              refine o_p (p_pure rfl) rfl ?_
              refine o_on 70 _ rfl rfl hg16 ?_
              refine o_p (p_pure rfl) rfl ?_
              refine o_on 70 _ rfl rfl hg16 ?_
              refine o_p (p_pure rfl) rfl ?_
              refine o_p (p_pickt rfl rfl hg16 rfl) rfl ?_
              refine o_nil ?_
              exact s_joinN 4 74 _ rfl rfl rfl (fun w h => by first | exact h | exact h.ent aEt))
            (by
              intro hg18
              have hs19 := hg18; try simp only [decide_eq_true_eq, decide_eq_false_iff_not, Bool.not_eq_true', Bool.not_eq_false', Bool.and_eq_true, Bool.or_eq_true, Bool.and_eq_false_iff, Bool.or_eq_false_iff, Bool.not_true, Bool.not_false] at hs19
              refine o_off 70 _ rfl rfl hg18 rfl ?_
              refine o_off 70 _ rfl rfl hg18 rfl ?_
              refine o_off 70 _ rfl rfl hg18 rfl ?_
              refine o_p (p_pickf rfl rfl hg18 rfl) rfl ?_
              refine o_nil ?_
              exact s_joinN 4 74 _ rfl rfl rfl (fun w h => by first | exact h | exact h.ent aEt)) ?_
          refine o_p (p_pure rfl) rfl ?_
          refine o_and 4 75 79 _ _ rfl
            (by
              intro hg20
              have hs21 := hg20; try simp only [decide_eq_true_eq, decide_eq_false_iff_not, Bool.not_eq_true', Bool.not_eq_false', Bool.and_eq_true, Bool.or_eq_true, Bool.and_eq_false_iff, Bool.or_eq_false_iff, Bool.not_true, Bool.not_false] at hs21
              refine o_on 75 _ rfl rfl hg20 ?_
              refine o_p (p_pure rfl) rfl ?_
              refine o_on 75 _ rfl rfl hg20 ?_
              refine o_p (p_pure rfl) rfl ?_
              refine o_on 75 _ rfl rfl hg20 ?_
              refine o_p (p_pure rfl) rfl ?_
              refine o_p (p_pickt rfl rfl hg20 rfl) rfl ?_
              refine o_nil ?_
              exact s_joinN 4 79 _ rfl rfl rfl (fun w h => by first | exact h | exact h.ent aEt))
            (by
              intro hg22
              have hs23 := hg22; try simp only [decide_eq_true_eq, decide_eq_false_iff_not, Bool.not_eq_true', Bool.not_eq_false', Bool.and_eq_true, Bool.or_eq_true, Bool.and_eq_false_iff, Bool.or_eq_false_iff, Bool.not_true, Bool.not_false] at hs23
              refine o_off 75 _ rfl rfl hg22 rfl ?_
              refine o_off 75 _ rfl rfl hg22 rfl ?_
              refine o_off 75 _ rfl rfl hg22 rfl ?_
              refine o_p (p_pickf rfl rfl hg22 rfl) rfl ?_
              refine o_nil ?_
              exact s_joinN 4 79 _ rfl rfl rfl (fun w h => by first | exact h | exact h.ent aEt)) ?_
          refine o_p (p_pure rfl) rfl ?_
          refine o_and 4 80 84 _ _ rfl
            (by
              intro hg24
              have hs25 := hg24; try simp only [decide_eq_true_eq, decide_eq_false_iff_not, Bool.not_eq_true', Bool.not_eq_false', Bool.and_eq_true, Bool.or_eq_true, Bool.and_eq_false_iff, Bool.or_eq_false_iff, Bool.not_true, Bool.not_false] at hs25
              refine o_on 80 _ rfl rfl hg24 ?_
              refine o_q (q_loadn rfl rfl sz_24 aPk rfl) rfl ?_
              refine o_on 80 _ rfl rfl hg24 ?_
              refine o_q (q_loadn rfl rfl sz_24 aPk rfl) rfl ?_
              refine o_on 80 _ rfl rfl hg24 ?_
              refine o_q (q_call rfl fn_13 rfl (fun w1 h1 => c13 w1 0 x.2.1 x.2.2 none 0 [] (HS.rw_own (a := x.2.1) (l := ([] : List SItm)) sv2 h1 aPk rfl) rw_nil (by decide))) rfl ?_
              refine o_p (p_pickt rfl rfl hg24 rfl) rfl ?_
              refine o_nil ?_
              exact s_joinN 4 84 _ rfl rfl rfl (fun w h => by first | exact h | exact h.ent aEt))
            (by
              intro hg26
              have hs27 := hg26; try simp only [decide_eq_true_eq, decide_eq_false_iff_not, Bool.not_eq_true', Bool.not_eq_false', Bool.and_eq_true, Bool.or_eq_true, Bool.and_eq_false_iff, Bool.or_eq_false_iff, Bool.not_true, Bool.not_false] at hs27
              refine o_off 80 _ rfl rfl hg26 rfl ?_
              refine o_off 80 _ rfl rfl hg26 rfl ?_
              refine o_off 80 _ rfl rfl hg26 rfl ?_
              refine o_p (p_pickf rfl rfl hg26 rfl) rfl ?_
              refine o_nil ?_
              exact s_joinN 4 84 _ rfl rfl rfl (fun w h => by first | exact h | exact h.ent aEt)) ?_
          refine o_p (p_pure rfl) rfl ?_
          refine o_and 3 85 88 _ _ rfl
            (by
              intro hg28
              have hs29 := hg28; try simp only [decide_eq_true_eq, decide_eq_false_iff_not, Bool.not_eq_true', Bool.not_eq_false', Bool.and_eq_true, Bool.or_eq_true, Bool.and_eq_false_iff, Bool.or_eq_false_iff, Bool.not_true, Bool.not_false] at hs29
              refine o_on 85 _ rfl rfl hg28 ?_
              refine o_p (p_pure rfl) rfl ?_
              refine o_on 85 _ rfl rfl hg28 ?_
              refine o_p (p_pure rfl) rfl ?_
              refine o_p (p_pickt rfl rfl hg28 rfl) rfl ?_
              refine o_nil ?_
              exact s_joinN 3 88 _ rfl rfl rfl (fun w h => by first | exact h | exact h.ent aEt))
            (by
              intro hg30
              have hs31 := hg30; try simp only [decide_eq_true_eq, decide_eq_false_iff_not, Bool.not_eq_true', Bool.not_eq_false', Bool.and_eq_true, Bool.or_eq_true, Bool.and_eq_false_iff, Bool.or_eq_false_iff, Bool.not_true, Bool.not_false] at hs31
              refine o_off 85 _ rfl rfl hg30 rfl ?_
              refine o_off 85 _ rfl rfl hg30 rfl ?_
              refine o_p (p_pickf rfl rfl hg30 rfl) rfl ?_
              refine o_nil ?_
              exact s_joinN 3 88 _ rfl rfl rfl (fun w h => by first | exact h | exact h.ent aEt)) ?_
          refine o_p (p_pure rfl) rfl ?_
          refine o_and 3 89 92 _ _ rfl
            (by
              intro hg32
              have hs33 := hg32; try simp only [decide_eq_true_eq, decide_eq_false_iff_not, Bool.not_eq_true', Bool.not_eq_false', Bool.and_eq_true, Bool.or_eq_true, Bool.and_eq_false_iff, Bool.or_eq_false_iff, Bool.not_true, Bool.not_false] at hs33
              refine o_on 89 _ rfl rfl hg32 ?_
              refine o_p (p_pure rfl) rfl ?_
              refine o_on 89 _ rfl rfl hg32 ?_
              refine o_p (p_pure rfl) rfl ?_
              refine o_p (p_pickt rfl rfl hg32 rfl) rfl ?_
              refine o_nil ?_
              exact s_joinN 3 92 _ rfl rfl rfl (fun w h => by first | exact h | exact h.ent aEt))
            (by
              intro hg34
              have hs35 := hg34; try simp only [decide_eq_true_eq, decide_eq_false_iff_not, Bool.not_eq_true', Bool.not_eq_false', Bool.and_eq_true, Bool.or_eq_true, Bool.and_eq_false_iff, Bool.or_eq_false_iff, Bool.not_true, Bool.not_false] at hs35
              refine o_off 89 _ rfl rfl hg34 rfl ?_
              refine o_off 89 _ rfl rfl hg34 rfl ?_
              refine o_p (p_pickf rfl rfl hg34 rfl) rfl ?_
              refine o_nil ?_
              exact s_joinN 3 92 _ rfl rfl rfl (fun w h => by first | exact h | exact h.ent aEt)) ?_
          refine o_p (p_pure rfl) rfl ?_
          refine o_and 4 93 97 _ _ rfl
            (by
              intro hg36
              have hs37 := hg36; try simp only [decide_eq_true_eq, decide_eq_false_iff_not, Bool.not_eq_true', Bool.not_eq_false', Bool.and_eq_true, Bool.or_eq_true, Bool.and_eq_false_iff, Bool.or_eq_false_iff, Bool.not_true, Bool.not_false] at hs37
              refine o_on 93 _ rfl rfl hg36 ?_
              refine o_q (q_loadn rfl rfl sz_42 aPk rfl) rfl ?_
              refine o_on 93 _ rfl rfl hg36 ?_
              refine o_p (p_build (cs := [_, _, _, _, _, _]) rfl rfl pl_42 zr_42 rfl) rfl ?_
              refine o_on 93 _ rfl rfl hg36 ?_
              refine o_q (q_call rfl fn_31 rfl (fun w1 h1 => c31 w1 noD gE.1.1 gE.1.2 gE.2.1 gE.2.2 none 0 none 0 (HS.rw_own (a := gE.1.1) (l := noD.en) av4 h1 aPk rfl) (HS.rw_own (a := gE.2.1) (l := noD.au) av4 h1 aPk rfl) rw_nil rw_nil (by decide) (by decide))) rfl ?_
              refine o_p (p_pickt rfl rfl hg36 rfl) rfl ?_
              refine o_nil ?_
              exact s_joinN 4 97 _ rfl rfl rfl (fun w h => by first | exact h | exact h.ent aEt))
            (by
              intro hg38
              have hs39 := hg38; try simp only [decide_eq_true_eq, decide_eq_false_iff_not, Bool.not_eq_true', Bool.not_eq_false', Bool.and_eq_true, Bool.or_eq_true, Bool.and_eq_false_iff, Bool.or_eq_false_iff, Bool.not_true, Bool.not_false] at hs39
              refine o_off 93 _ rfl rfl hg38 rfl ?_
              refine o_off 93 _ rfl rfl hg38 rfl ?_
              refine o_off 93 _ rfl rfl hg38 rfl ?_
              refine o_p (p_pickf rfl rfl hg38 rfl) rfl ?_
              refine o_nil ?_
              exact s_joinN 4 97 _ rfl rfl rfl (fun w h => by first | exact h | exact h.ent aEt)) ?_
          refine o_p (p_pure rfl) rfl ?_
          refine o_nil ?_
          exact s_retv (rs := [.tmp 6]) rfl (.tmp rfl (.nil)) (fun w' h' => ⟨by simp [retV], h'.below⟩)
        · try simp only [decide_eq_true_eq, decide_eq_false_iff_not, Bool.not_eq_true', Bool.not_eq_false', Bool.and_eq_true, Bool.or_eq_true, Bool.and_eq_false_iff, Bool.or_eq_false_iff, Bool.not_true, Bool.not_false] at h15
          have hst0 : (stoE nx l).2 = 0 := h15
          refine s_skip ?_
          refine s_seq ?_
          refine s_region ?_
          refine o_q (q_loadn rfl rfl sz_24 aPk rfl) rfl ?_
          refine o_p (p_pure rfl) rfl ?_
          refine o_q (q_call rfl fn_32 rfl (fun w1 h1 => c32 w1 nx a cap l n (hs.later h1) hm hb)) rfl ?_
          refine o_p (p_pure rfl) rfl ?_
          refine o_p (p_pure rfl) rfl ?_
          refine o_p (p_pure rfl) rfl ?_
          refine o_p (p_pure rfl) rfl ?_
          refine o_p (p_pure rfl) rfl ?_
          refine o_nil ?_
          refine s_seq ?_
          refine s_region ?_
          refine o_p (p_pure rfl) rfl ?_
          refine o_h (h_call rfl fn_33 rfl (fun w1 h1 => c33 w1 (if idK l n < l.length then (nth l (idK l n)).by_ else []) (by split; (have := hb _ (getD_mem (d := default) (by assumption)); unfold nth; omega); simp))) rfl (fun gF _ => ?_)
          refine o_p (p_pure rfl) rfl ?_
          refine o_p (p_pure rfl) rfl ?_
          refine o_p (p_pure rfl) rfl ?_
          refine o_h (h_alloc rfl zr_42) rfl (fun b40 _ => ?_)
          refine o_h0 (h_store rfl rfl rfl sz_42 rfl aPt (by simp only [setMany_length, List.length_set, List.length_cons, List.length_nil, List.length_map]; omega) rfl) (fun _ _ => ?_)
          refine o_p (p_pure rfl) rfl ?_
          refine o_nil ?_
          refine s_seq ?_
          refine s_seq ?_
          refine s_weaken (L' := [(3, _), (4, _), (6, _), (7, _), (8, _), (9, _), (10, _), (11, _), (12, _), (13, _), (14, _), (17, _), (18, _)]) aSx (fun _ h => h) ?_
          refine s_region ?_
          refine o_p (p_pure rfl) rfl ?_
          refine o_p (p_pure rfl) rfl ?_
          refine o_and 9 110 119 _ _ rfl
            (by
              intro hg41
              have hs42 := hg41; try simp only [decide_eq_true_eq, decide_eq_false_iff_not, Bool.not_eq_true', Bool.not_eq_false', Bool.and_eq_true, Bool.or_eq_true, Bool.and_eq_false_iff, Bool.or_eq_false_iff, Bool.not_true, Bool.not_false] at hs42
              refine o_on 110 _ rfl rfl hg41 ?_
              refine o_p (p_pure rfl) rfl ?_
              refine o_on 110 _ rfl rfl hg41 ?_
              refine o_p (p_pure rfl) rfl ?_
              refine o_on 110 _ rfl rfl hg41 ?_
              refine o_p (p_pure rfl) rfl ?_
              refine o_or 5 113 118 _ _ rfl
                (by
                  intro hg43
                  have hs44 := hg43; try simp only [decide_eq_true_eq, decide_eq_false_iff_not, Bool.not_eq_true', Bool.not_eq_false', Bool.and_eq_true, Bool.or_eq_true, Bool.and_eq_false_iff, Bool.or_eq_false_iff, Bool.not_true, Bool.not_false] at hs44
                  refine o_on 113 _ rfl rfl hg43 ?_
                  refine o_q (q_loadn rfl rfl sz_42 aPk rfl) rfl ?_
                  refine o_on 113 _ rfl rfl hg43 ?_
                  refine o_q (q_loadn rfl rfl sz_42 aPk rfl) rfl ?_
                  refine o_on 113 _ rfl rfl hg43 ?_
                  refine o_q (q_call rfl fn_31 rfl (fun w1 h1 => by have hk : idK l n < l.length := (by first | assumption | (simp_all; done)); have e1 : (dofT nx l n).1 = decD (if idK l n < l.length then (nth l (idK l n)).by_ else []) := (by rw [(dof_hit hst0 hk).1, if_pos hk]); have r1 := (HS.rw_own (a := gE.1.1) (l := (dofT nx l n).1.en) av4 h1 aPk rfl); have r2 := (HS.rw_own (a := gE.2.1) (l := (dofT nx l n).1.au) av4 h1 aPk rfl); rw [e1] at r1 r2 ⊢; exact c31 w1 (decD (if idK l n < l.length then (nth l (idK l n)).by_ else [])) gE.1.1 gE.1.2 gE.2.1 gE.2.2 gF.1.1 gF.1.2 gF.2.1 gF.2.2 r1 r2 (HS.rw_own (a := gF.1.1) (l := (decD (if idK l n < l.length then (nth l (idK l n)).by_ else [])).en) av4 h1 aPk rfl) (HS.rw_own (a := gF.2.1) (l := (decD (if idK l n < l.length then (nth l (idK l n)).by_ else [])).au) av4 h1 aPk rfl) (by have := dec_len (if idK l n < l.length then (nth l (idK l n)).by_ else []); omega) (by have := dec_len (if idK l n < l.length then (nth l (idK l n)).by_ else []); omega))) rfl ?_
                  refine o_on 113 _ rfl rfl hg43 ?_
                  refine o_p (p_pure rfl) rfl ?_
                  refine o_on 110 _ rfl rfl hg41 ?_
                  refine o_p (p_pickf rfl rfl hg43 rfl) rfl ?_
                  refine o_nil ?_
                  exact s_joinN 5 118 _ rfl rfl rfl (fun w h => by first | exact h | exact h.ent aEt))
                (by
                  intro hg45
                  have hs46 := hg45; try simp only [decide_eq_true_eq, decide_eq_false_iff_not, Bool.not_eq_true', Bool.not_eq_false', Bool.and_eq_true, Bool.or_eq_true, Bool.and_eq_false_iff, Bool.or_eq_false_iff, Bool.not_true, Bool.not_false] at hs46
                  refine o_off 113 _ rfl rfl hg45 rfl ?_
                  refine o_off 113 _ rfl rfl hg45 rfl ?_
                  refine o_off 113 _ rfl rfl hg45 rfl ?_
                  refine o_off 113 _ rfl rfl hg45 rfl ?_
                  refine o_on 110 _ rfl rfl hg41 ?_
                  refine o_p (p_pickt rfl rfl hg45 rfl) rfl ?_
                  refine o_nil ?_
                  exact s_joinN 5 118 _ rfl rfl rfl (fun w h => by first | exact h | exact h.ent aEt)) ?_
              refine o_p (p_pickt rfl rfl hg41 rfl) rfl ?_
              refine o_nil ?_
              exact s_joinN 5 119 _ rfl rfl rfl (fun w h => by first | exact h | exact h.ent aEt))
            (by
              intro hg47
              have hs48 := hg47; try simp only [decide_eq_true_eq, decide_eq_false_iff_not, Bool.not_eq_true', Bool.not_eq_false', Bool.and_eq_true, Bool.or_eq_true, Bool.and_eq_false_iff, Bool.or_eq_false_iff, Bool.not_true, Bool.not_false] at hs48
              refine o_off 110 _ rfl rfl hg47 rfl ?_
              refine o_off 110 _ rfl rfl hg47 rfl ?_
              refine o_off 110 _ rfl rfl hg47 rfl ?_
              refine o_off' 113 rfl rfl rfl ?_
              refine o_off' 113 rfl rfl rfl ?_
              refine o_off' 113 rfl rfl rfl ?_
              refine o_off' 113 rfl rfl rfl ?_
              refine o_off 110 _ rfl rfl hg47 rfl ?_
              refine o_p (p_pickf rfl rfl hg47 rfl) rfl ?_
              refine o_nil ?_
              exact s_joinN 9 119 _ rfl rfl rfl (fun w h => by first | exact h | exact h.ent aEt)) ?_
          refine o_p (p_pure rfl) rfl ?_
          refine o_or 13 120 133 _ _ rfl
            (by
              intro hg49
              have hs50 := hg49; try simp only [decide_eq_true_eq, decide_eq_false_iff_not, Bool.not_eq_true', Bool.not_eq_false', Bool.and_eq_true, Bool.or_eq_true, Bool.and_eq_false_iff, Bool.or_eq_false_iff, Bool.not_true, Bool.not_false] at hs50
              refine o_on 120 _ rfl rfl hg49 ?_
              refine o_p (p_pure rfl) rfl ?_
              refine o_on 120 _ rfl rfl hg49 ?_
              refine o_p (p_pure rfl) rfl ?_
              refine o_on 120 _ rfl rfl hg49 ?_
              refine o_p (p_pure rfl) rfl ?_
              refine o_and 9 123 132 _ _ rfl
                (by
                  intro hg51
                  have hs52 := hg51; try simp only [decide_eq_true_eq, decide_eq_false_iff_not, Bool.not_eq_true', Bool.not_eq_false', Bool.and_eq_true, Bool.or_eq_true, Bool.and_eq_false_iff, Bool.or_eq_false_iff, Bool.not_true, Bool.not_false] at hs52
                  refine o_on 123 _ rfl rfl hg51 ?_
                  refine o_p (p_pure rfl) rfl ?_
                  refine o_on 123 _ rfl rfl hg51 ?_
                  refine o_p (p_pure rfl) rfl ?_
                  refine o_on 123 _ rfl rfl hg51 ?_
                  refine o_p (p_pure rfl) rfl ?_
                  refine o_or 5 126 131 _ _ rfl
                    (by
                      intro hg53
                      have hs54 := hg53; try simp only [decide_eq_true_eq, decide_eq_false_iff_not, Bool.not_eq_true', Bool.not_eq_false', Bool.and_eq_true, Bool.or_eq_true, Bool.and_eq_false_iff, Bool.or_eq_false_iff, Bool.not_true, Bool.not_false] at hs54
                      refine o_on 126 _ rfl rfl hg53 ?_
                      refine o_q (q_loadn rfl rfl sz_42 aPk rfl) rfl ?_
                      refine o_on 126 _ rfl rfl hg53 ?_
                      refine o_p (p_build (cs := [_, _, _, _, _, _]) rfl rfl pl_42 zr_42 rfl) rfl ?_
                      refine o_on 126 _ rfl rfl hg53 ?_
                      refine o_q (q_call rfl fn_31 rfl (fun w1 h1 => by have hk : ¬ idK l n < l.length := (by first | assumption | (simp_all; done)); have e1 : (dofT nx l n).1 = noD := (dof_no hst0 hk).1; have r1 := (HS.rw_own (a := gE.1.1) (l := (dofT nx l n).1.en) av4 h1 aPk rfl); have r2 := (HS.rw_own (a := gE.2.1) (l := (dofT nx l n).1.au) av4 h1 aPk rfl); rw [e1] at r1 r2 ⊢; exact c31 w1 noD gE.1.1 gE.1.2 gE.2.1 gE.2.2 none 0 none 0 r1 r2 rw_nil rw_nil (by decide) (by decide))) rfl ?_
                      refine o_on 126 _ rfl rfl hg53 ?_
                      refine o_p (p_pure rfl) rfl ?_
                      refine o_on 123 _ rfl rfl hg51 ?_
                      refine o_p (p_pickf rfl rfl hg53 rfl) rfl ?_
                      refine o_nil ?_
                      exact s_joinN 5 131 _ rfl rfl rfl (fun w h => by first | exact h | exact h.ent aEt))
                    (by
                      intro hg55
                      have hs56 := hg55; try simp only [decide_eq_true_eq, decide_eq_false_iff_not, Bool.not_eq_true', Bool.not_eq_false', Bool.and_eq_true, Bool.or_eq_true, Bool.and_eq_false_iff, Bool.or_eq_false_iff, Bool.not_true, Bool.not_false] at hs56
                      refine o_off 126 _ rfl rfl hg55 rfl ?_
                      refine o_off 126 _ rfl rfl hg55 rfl ?_
                      refine o_off 126 _ rfl rfl hg55 rfl ?_
                      refine o_off 126 _ rfl rfl hg55 rfl ?_
                      refine o_on 123 _ rfl rfl hg51 ?_
                      refine o_p (p_pickt rfl rfl hg55 rfl) rfl ?_
                      refine o_nil ?_
                      exact s_joinN 5 131 _ rfl rfl rfl (fun w h => by first | exact h | exact h.ent aEt)) ?_
                  refine o_on 120 _ rfl rfl hg49 ?_
                  refine o_p (p_pickt rfl rfl hg51 rfl) rfl ?_
                  refine o_nil ?_
                  exact s_joinN 5 132 _ rfl rfl rfl (fun w h => by first | exact h | exact h.ent aEt))
                (by
                  intro hg57
                  have hs58 := hg57; try simp only [decide_eq_true_eq, decide_eq_false_iff_not, Bool.not_eq_true', Bool.not_eq_false', Bool.and_eq_true, Bool.or_eq_true, Bool.and_eq_false_iff, Bool.or_eq_false_iff, Bool.not_true, Bool.not_false] at hs58
                  refine o_off 123 _ rfl rfl hg57 rfl ?_
                  refine o_off 123 _ rfl rfl hg57 rfl ?_
                  refine o_off 123 _ rfl rfl hg57 rfl ?_
                  refine o_off' 126 rfl rfl rfl ?_
                  refine o_off' 126 rfl rfl rfl ?_
                  refine o_off' 126 rfl rfl rfl ?_
                  refine o_off' 126 rfl rfl rfl ?_
                  refine o_off 123 _ rfl rfl hg57 rfl ?_
                  refine o_on 120 _ rfl rfl hg49 ?_
                  refine o_p (p_pickf rfl rfl hg57 rfl) rfl ?_
                  refine o_nil ?_
                  exact s_joinN 9 132 _ rfl rfl rfl (fun w h => by first | exact h | exact h.ent aEt)) ?_
              refine o_p (p_pickf rfl rfl hg49 rfl) rfl ?_
              refine o_nil ?_
              exact s_joinN 5 133 _ rfl rfl rfl (fun w h => by first | exact h | exact h.ent aEt))
            (by
              intro hg59
              have hs60 := hg59; try simp only [decide_eq_true_eq, decide_eq_false_iff_not, Bool.not_eq_true', Bool.not_eq_false', Bool.and_eq_true, Bool.or_eq_true, Bool.and_eq_false_iff, Bool.or_eq_false_iff, Bool.not_true, Bool.not_false] at hs60
              refine o_off 120 _ rfl rfl hg59 rfl ?_
              refine o_off 120 _ rfl rfl hg59 rfl ?_
              refine o_off 120 _ rfl rfl hg59 rfl ?_
              refine o_off' 123 rfl rfl rfl ?_
              refine o_off' 123 rfl rfl rfl ?_
              refine o_off' 123 rfl rfl rfl ?_
              refine o_off' 126 rfl rfl rfl ?_
              refine o_off' 126 rfl rfl rfl ?_
              refine o_off' 126 rfl rfl rfl ?_
              refine o_off' 126 rfl rfl rfl ?_
              refine o_off' 123 rfl rfl rfl ?_
              refine o_off 120 _ rfl rfl hg59 rfl ?_
              refine o_p (p_pickt rfl rfl hg59 rfl) rfl ?_
              refine o_nil ?_
              exact s_joinN 13 133 _ rfl rfl rfl (fun w h => by first | exact h | exact h.ent aEt)) ?_
          refine o_nil ?_
          refine s_cond rfl (fun h61 => ?_) (fun h61 => ?_)
          · try simp only [decide_eq_true_eq, decide_eq_false_iff_not, Bool.not_eq_true', Bool.not_eq_false', Bool.and_eq_true, Bool.or_eq_true, Bool.and_eq_false_iff, Bool.or_eq_false_iff, Bool.not_true, Bool.not_false] at h61
            exfalso; have hq := h61; by_cases hk : idK l n < l.length; (have h9 := dof_hit hst0 hk; simp [hk, h9.2] at hq); (have h9 := dof_no hst0 hk; simp [hk, h9.2] at hq)
          · try simp only [decide_eq_true_eq, decide_eq_false_iff_not, Bool.not_eq_true', Bool.not_eq_false', Bool.and_eq_true, Bool.or_eq_true, Bool.and_eq_false_iff, Bool.or_eq_false_iff, Bool.not_true, Bool.not_false] at h61
            refine s_skip ?_
            refine s_seq ?_
            refine s_seq ?_
            refine s_region ?_
            refine o_q (q_loadn rfl rfl sz_42 aPk rfl) rfl ?_
            refine o_q (q_call rfl fn_21 rfl (fun w1 h1 => c21 w1 d ea eac aa aac (hse.later h1) (hsa.later h1) hme hma)) rfl ?_
            refine o_p (p_pure rfl) rfl ?_
            refine o_nil ?_
            refine s_seq ?_
            refine s_region ?_
            refine o_p (p_pure rfl) rfl ?_
            refine o_p (p_pure rfl) rfl ?_
            refine o_nil ?_
            refine s_cond rfl (fun h62 => ?_) (fun h62 => ?_)
            · try simp only [decide_eq_true_eq, decide_eq_false_iff_not, Bool.not_eq_true', Bool.not_eq_false', Bool.and_eq_true, Bool.or_eq_true, Bool.and_eq_false_iff, Bool.or_eq_false_iff, Bool.not_true, Bool.not_false] at h62
              have hd0 : ¬ (dscE d).2 = 0 := h62
              have hT1 : addT nx l d = ⟨0, [], 0, (dscE d).2⟩ := by unfold addT addE; rw [if_pos hst0, if_neg hd0]
              have hT2 : idtT nx l d = (0, (dscE d).2) := by unfold idtT addE; rw [if_pos hst0, if_neg hd0]
              rw [hT1, hT2]
              refine s_seq ?_
              refine s_region ?_
              refine o_p (p_pure rfl) rfl ?_
              refine o_p (p_pure rfl) rfl ?_
              refine o_p (p_pure rfl) rfl ?_
              refine o_p (p_pure rfl) rfl ?_
              refine o_and 4 141 145 _ _ rfl
                (by
                  intro hg63
                  have hs64 := hg63; try simp only [decide_eq_true_eq, decide_eq_false_iff_not, Bool.not_eq_true', Bool.not_eq_false', Bool.and_eq_true, Bool.or_eq_true, Bool.and_eq_false_iff, Bool.or_eq_false_iff, Bool.not_true, Bool.not_false] at hs64
                  refine o_on 141 _ rfl rfl hg63 ?_
                  refine o_p (p_pure rfl) rfl ?_
                  refine o_on 141 _ rfl rfl hg63 ?_
                  refine o_p (p_pure rfl) rfl ?_
                  refine o_on 141 _ rfl rfl hg63 ?_
                  refine o_p (p_pure rfl) rfl ?_
                  refine o_p (p_pickt rfl rfl hg63 rfl) rfl ?_
                  refine o_nil ?_
                  exact s_joinN 4 145 _ rfl rfl rfl (fun w h => by first | exact h | exact h.ent aEt))
                (by
                  intro hg65
                  have hs66 := hg65; try simp only [decide_eq_true_eq, decide_eq_false_iff_not, Bool.not_eq_true', Bool.not_eq_false', Bool.and_eq_true, Bool.or_eq_true, Bool.and_eq_false_iff, Bool.or_eq_false_iff, Bool.not_true, Bool.not_false] at hs66
                  refine o_off 141 _ rfl rfl hg65 rfl ?_
                  refine o_off 141 _ rfl rfl hg65 rfl ?_
                  refine o_off 141 _ rfl rfl hg65 rfl ?_
                  refine o_p (p_pickf rfl rfl hg65 rfl) rfl ?_
                  refine o_nil ?_
                  exact s_joinN 4 145 _ rfl rfl rfl (fun w h => by first | exact h | exact h.ent aEt)) ?_
              refine o_p (p_pure rfl) rfl ?_
              refine o_and 4 146 150 _ _ rfl
                (by
                  intro hg67
                  have hs68 := hg67; try simp only [decide_eq_true_eq, decide_eq_false_iff_not, Bool.not_eq_true', Bool.not_eq_false', Bool.and_eq_true, Bool.or_eq_true, Bool.and_eq_false_iff, Bool.or_eq_false_iff, Bool.not_true, Bool.not_false] at hs68
                  refine o_on 146 _ rfl rfl hg67 ?_
                  refine o_q (q_loadn rfl rfl sz_24 aPk rfl) rfl ?_
                  refine o_on 146 _ rfl rfl hg67 ?_
                  refine o_q (q_loadn rfl rfl sz_24 aPk rfl) rfl ?_
                  refine o_on 146 _ rfl rfl hg67 ?_
                  refine o_q (q_call rfl fn_13 rfl (fun w1 h1 => c13 w1 0 x.2.1 x.2.2 none 0 [] (HS.rw_own (a := x.2.1) (l := ([] : List SItm)) sv2 h1 aPk rfl) rw_nil (by decide))) rfl ?_
                  refine o_p (p_pickt rfl rfl hg67 rfl) rfl ?_
                  refine o_nil ?_
                  exact s_joinN 4 150 _ rfl rfl rfl (fun w h => by first | exact h | exact h.ent aEt))
                (by
                  intro hg69
                  have hs70 := hg69; try simp only [decide_eq_true_eq, decide_eq_false_iff_not, Bool.not_eq_true', Bool.not_eq_false', Bool.and_eq_true, Bool.or_eq_true, Bool.and_eq_false_iff, Bool.or_eq_false_iff, Bool.not_true, Bool.not_false] at hs70
                  refine o_off 146 _ rfl rfl hg69 rfl ?_
                  refine o_off 146 _ rfl rfl hg69 rfl ?_
                  refine o_off 146 _ rfl rfl hg69 rfl ?_
                  refine o_p (p_pickf rfl rfl hg69 rfl) rfl ?_
                  refine o_nil ?_
                  exact s_joinN 4 150 _ rfl rfl rfl (fun w h => by first | exact h | exact h.ent aEt)) ?_
              refine o_p (p_pure rfl) rfl ?_
              refine o_and 3 151 154 _ _ rfl
                (by
                  intro hg71
                  have hs72 := hg71; try simp only [decide_eq_true_eq, decide_eq_false_iff_not, Bool.not_eq_true', Bool.not_eq_false', Bool.and_eq_true, Bool.or_eq_true, Bool.and_eq_false_iff, Bool.or_eq_false_iff, Bool.not_true, Bool.not_false] at hs72
                  refine o_on 151 _ rfl rfl hg71 ?_
                  refine o_p (p_pure rfl) rfl ?_
                  refine o_on 151 _ rfl rfl hg71 ?_
                  refine o_p (p_pure rfl) rfl ?_
                  refine o_p (p_pickt rfl rfl hg71 rfl) rfl ?_
                  refine o_nil ?_
                  exact s_joinN 3 154 _ rfl rfl rfl (fun w h => by first | exact h | exact h.ent aEt))
                (by
                  intro hg73
                  have hs74 := hg73; try simp only [decide_eq_true_eq, decide_eq_false_iff_not, Bool.not_eq_true', Bool.not_eq_false', Bool.and_eq_true, Bool.or_eq_true, Bool.and_eq_false_iff, Bool.or_eq_false_iff, Bool.not_true, Bool.not_false] at hs74
                  refine o_off 151 _ rfl rfl hg73 rfl ?_
                  refine o_off 151 _ rfl rfl hg73 rfl ?_
                  refine o_p (p_pickf rfl rfl hg73 rfl) rfl ?_
                  refine o_nil ?_
                  exact s_joinN 3 154 _ rfl rfl rfl (fun w h => by first | exact h | exact h.ent aEt)) ?_
              refine o_p (p_pure rfl) rfl ?_
              refine o_and 3 155 158 _ _ rfl
                (by
                  intro hg75
                  have hs76 := hg75; try simp only [decide_eq_true_eq, decide_eq_false_iff_not, Bool.not_eq_true', Bool.not_eq_false', Bool.and_eq_true, Bool.or_eq_true, Bool.and_eq_false_iff, Bool.or_eq_false_iff, Bool.not_true, Bool.not_false] at hs76
                  refine o_on 155 _ rfl rfl hg75 ?_
                  refine o_p (p_pure rfl) rfl ?_
                  refine o_on 155 _ rfl rfl hg75 ?_
                  refine o_p (p_pure rfl) rfl ?_
                  refine o_p (p_pickt rfl rfl hg75 rfl) rfl ?_
                  refine o_nil ?_
                  exact s_joinN 3 158 _ rfl rfl rfl (fun w h => by first | exact h | exact h.ent aEt))
                (by
                  intro hg77
                  have hs78 := hg77; try simp only [decide_eq_true_eq, decide_eq_false_iff_not, Bool.not_eq_true', Bool.not_eq_false', Bool.and_eq_true, Bool.or_eq_true, Bool.and_eq_false_iff, Bool.or_eq_false_iff, Bool.not_true, Bool.not_false] at hs78
                  refine o_off 155 _ rfl rfl hg77 rfl ?_
                  refine o_off 155 _ rfl rfl hg77 rfl ?_
                  refine o_p (p_pickf rfl rfl hg77 rfl) rfl ?_
                  refine o_nil ?_
                  exact s_joinN 3 158 _ rfl rfl rfl (fun w h => by first | exact h | exact h.ent aEt)) ?_
              refine o_p (p_pure rfl) rfl ?_
              refine o_nil ?_
              exact s_retv (rs := [.tmp 6]) rfl (.tmp rfl (.nil)) (fun w' h' => ⟨by simp [retV], h'.below⟩)
            · try simp only [decide_eq_true_eq, decide_eq_false_iff_not, Bool.not_eq_true', Bool.not_eq_false', Bool.and_eq_true, Bool.or_eq_true, Bool.and_eq_false_iff, Bool.or_eq_false_iff, Bool.not_true, Bool.not_false] at h62
              have hd0 : (dscE d).2 = 0 := h62
              have hI1 : byK l (encD d) < l.length → idtT nx l d = ((nth l (byK l (encD d))).id, 0) ∧ (nth l (byK l (encD d))).id ≠ 0 := fun hk => ⟨by unfold idtT addE; rw [if_pos hst0, if_pos hd0, if_pos hk], by have := (itm_rng ((sto_ok hst0).2.2.1 _ hk)).1; omega⟩
              have hI2 : ¬ byK l (encD d) < l.length → idtT nx l d = (0, 6) := fun hk => by unfold idtT addE; rw [if_pos hst0, if_pos hd0, if_neg hk]
              have hal := addR_len nx l (encD d)
              have hel := encD_len d
              rw [addT_eq hst0 hd0]
              refine s_skip ?_
              refine s_seq ?_
              refine s_seq ?_
              refine s_draw [] mixed ?_
              refine d_q 0 [] rfl (q_loadn rfl rfl sz_24 aPk rfl) (by kernel_rfl) (by kernel_rfl) (by kernel_rfl) rfl ?_
              refine d_q 1 [] rfl (q_loadn rfl rfl sz_42 aPk rfl) (by kernel_rfl) (by kernel_rfl) (by kernel_rfl) rfl ?_
              refine d_q 2 [] rfl (q_call rfl fn_23 rfl (fun w1 h1 => c23 w1 d ea eac aa aac (hse.later h1) (hsa.later h1) hme hma hd0)) (by kernel_rfl) (by kernel_rfl) (by kernel_rfl) rfl ?_
              refine d_q 3 [] rfl (q_call rfl fn_34 rfl (fun w1 h1 => c34 w1 nx a cap l (encD d) (hs.later h1) hm hb)) (by kernel_rfl) (by kernel_rfl) (by kernel_rfl) rfl ?_
              refine d_p 4 rfl (p_pure rfl) (by kernel_rfl) rfl rfl ?_
              refine d_nil (by kernel_rfl) (fun w h => by first | exact h | exact h.ent aEt) ?_
              refine s_seq ?_
              refine s_region ?_
              refine o_p (p_pure rfl) rfl ?_
              refine o_p (p_pure rfl) rfl ?_
              refine o_p (p_pure rfl) rfl ?_
              refine o_and 8 165 173 _ _ rfl
                (by
                  intro hg79
                  have hs80 := hg79; try simp only [decide_eq_true_eq, decide_eq_false_iff_not, Bool.not_eq_true', Bool.not_eq_false', Bool.and_eq_true, Bool.or_eq_true, Bool.and_eq_false_iff, Bool.or_eq_false_iff, Bool.not_true, Bool.not_false] at hs80
                  refine o_on 165 _ rfl rfl hg79 ?_
                  refine o_p (p_pure rfl) rfl ?_
                  refine o_on 165 _ rfl rfl hg79 ?_
                  refine o_p (p_pure rfl) rfl ?_
                  refine o_on 165 _ rfl rfl hg79 ?_
                  refine o_p (p_pure rfl) rfl ?_
                  refine o_or 4 168 172 _ _ rfl
                    (by
                      intro hg81
                      have hs82 := hg81; try simp only [decide_eq_true_eq, decide_eq_false_iff_not, Bool.not_eq_true', Bool.not_eq_false', Bool.and_eq_true, Bool.or_eq_true, Bool.and_eq_false_iff, Bool.or_eq_false_iff, Bool.not_true, Bool.not_false] at hs82
                      refine o_on 168 _ rfl rfl hg81 ?_
                      refine o_p (p_pure rfl) rfl ?_
                      refine o_on 168 _ rfl rfl hg81 ?_
                      refine o_p (p_pure rfl) rfl ?_
                      refine o_on 168 _ rfl rfl hg81 ?_
                      refine o_p (p_pure rfl) rfl ?_
                      refine o_on 165 _ rfl rfl hg79 ?_
                      refine o_p (p_pickf rfl rfl hg81 rfl) rfl ?_
                      refine o_nil ?_
                      exact s_joinN 4 172 _ rfl rfl rfl (fun w h => by first | exact h | exact h.ent aEt))
                    (by
                      intro hg83
                      have hs84 := hg83; try simp only [decide_eq_true_eq, decide_eq_false_iff_not, Bool.not_eq_true', Bool.not_eq_false', Bool.and_eq_true, Bool.or_eq_true, Bool.and_eq_false_iff, Bool.or_eq_false_iff, Bool.not_true, Bool.not_false] at hs84
                      refine o_off 168 _ rfl rfl hg83 rfl ?_
                      refine o_off 168 _ rfl rfl hg83 rfl ?_
                      refine o_off 168 _ rfl rfl hg83 rfl ?_
                      refine o_on 165 _ rfl rfl hg79 ?_
                      refine o_p (p_pickt rfl rfl hg83 rfl) rfl ?_
                      refine o_nil ?_
                      exact s_joinN 4 172 _ rfl rfl rfl (fun w h => by first | exact h | exact h.ent aEt)) ?_
                  refine o_p (p_pickt rfl rfl hg79 rfl) rfl ?_
                  refine o_nil ?_
                  exact s_joinN 5 173 _ rfl rfl rfl (fun w h => by first | exact h | exact h.ent aEt))
                (by
                  intro hg85
                  have hs86 := hg85; try simp only [decide_eq_true_eq, decide_eq_false_iff_not, Bool.not_eq_true', Bool.not_eq_false', Bool.and_eq_true, Bool.or_eq_true, Bool.and_eq_false_iff, Bool.or_eq_false_iff, Bool.not_true, Bool.not_false] at hs86
                  refine o_off 165 _ rfl rfl hg85 rfl ?_
                  refine o_off 165 _ rfl rfl hg85 rfl ?_
                  refine o_off 165 _ rfl rfl hg85 rfl ?_
                  refine o_off' 168 rfl rfl rfl ?_
                  refine o_off' 168 rfl rfl rfl ?_
                  refine o_off' 168 rfl rfl rfl ?_
                  refine o_off 165 _ rfl rfl hg85 rfl ?_
                  refine o_p (p_pickf rfl rfl hg85 rfl) rfl ?_
                  refine o_nil ?_
                  exact s_joinN 8 173 _ rfl rfl rfl (fun w h => by first | exact h | exact h.ent aEt)) ?_
              refine o_p (p_pure rfl) rfl ?_
              refine o_or 11 174 185 _ _ rfl
                (by
                  intro hg87
                  have hs88 := hg87; try simp only [decide_eq_true_eq, decide_eq_false_iff_not, Bool.not_eq_true', Bool.not_eq_false', Bool.and_eq_true, Bool.or_eq_true, Bool.and_eq_false_iff, Bool.or_eq_false_iff, Bool.not_true, Bool.not_false] at hs88
                  refine o_on 174 _ rfl rfl hg87 ?_
                  refine o_p (p_pure rfl) rfl ?_
                  refine o_on 174 _ rfl rfl hg87 ?_
                  refine o_p (p_pure rfl) rfl ?_
                  refine o_on 174 _ rfl rfl hg87 ?_
                  refine o_p (p_pure rfl) rfl ?_
                  refine o_and 7 177 184 _ _ rfl
                    (by
                      intro hg89
                      have hs90 := hg89; try simp only [decide_eq_true_eq, decide_eq_false_iff_not, Bool.not_eq_true', Bool.not_eq_false', Bool.and_eq_true, Bool.or_eq_true, Bool.and_eq_false_iff, Bool.or_eq_false_iff, Bool.not_true, Bool.not_false] at hs90
                      refine o_on 177 _ rfl rfl hg89 ?_
                      refine o_p (p_pure rfl) rfl ?_
                      refine o_on 177 _ rfl rfl hg89 ?_
                      refine o_p (p_pure rfl) rfl ?_
                      refine o_on 177 _ rfl rfl hg89 ?_
                      refine o_p (p_pure rfl) rfl ?_
                      refine o_or 3 180 183 _ _ rfl
                        (by
                          intro hg91
                          have hs92 := hg91; try simp only [decide_eq_true_eq, decide_eq_false_iff_not, Bool.not_eq_true', Bool.not_eq_false', Bool.and_eq_true, Bool.or_eq_true, Bool.and_eq_false_iff, Bool.or_eq_false_iff, Bool.not_true, Bool.not_false] at hs92
                          refine o_on 180 _ rfl rfl hg91 ?_
                          refine o_p (p_pure rfl) rfl ?_
                          refine o_on 180 _ rfl rfl hg91 ?_
                          refine o_p (p_pure rfl) rfl ?_
                          refine o_on 177 _ rfl rfl hg89 ?_
                          refine o_p (p_pickf rfl rfl hg91 rfl) rfl ?_
                          refine o_nil ?_
                          exact s_joinN 3 183 _ rfl rfl rfl (fun w h => by first | exact h | exact h.ent aEt))
                        (by
                          intro hg93
                          have hs94 := hg93; try simp only [decide_eq_true_eq, decide_eq_false_iff_not, Bool.not_eq_true', Bool.not_eq_false', Bool.and_eq_true, Bool.or_eq_true, Bool.and_eq_false_iff, Bool.or_eq_false_iff, Bool.not_true, Bool.not_false] at hs94
                          refine o_off 180 _ rfl rfl hg93 rfl ?_
                          refine o_off 180 _ rfl rfl hg93 rfl ?_
                          refine o_on 177 _ rfl rfl hg89 ?_
                          refine o_p (p_pickt rfl rfl hg93 rfl) rfl ?_
                          refine o_nil ?_
                          exact s_joinN 3 183 _ rfl rfl rfl (fun w h => by first | exact h | exact h.ent aEt)) ?_
                      refine o_on 174 _ rfl rfl hg87 ?_
                      refine o_p (p_pickt rfl rfl hg89 rfl) rfl ?_
                      refine o_nil ?_
                      exact s_joinN 5 184 _ rfl rfl rfl (fun w h => by first | exact h | exact h.ent aEt))
                    (by
                      intro hg95
                      have hs96 := hg95; try simp only [decide_eq_true_eq, decide_eq_false_iff_not, Bool.not_eq_true', Bool.not_eq_false', Bool.and_eq_true, Bool.or_eq_true, Bool.and_eq_false_iff, Bool.or_eq_false_iff, Bool.not_true, Bool.not_false] at hs96
                      refine o_off 177 _ rfl rfl hg95 rfl ?_
                      refine o_off 177 _ rfl rfl hg95 rfl ?_
                      refine o_off 177 _ rfl rfl hg95 rfl ?_
                      refine o_off' 180 rfl rfl rfl ?_
                      refine o_off' 180 rfl rfl rfl ?_
                      refine o_off 177 _ rfl rfl hg95 rfl ?_
                      refine o_on 174 _ rfl rfl hg87 ?_
                      refine o_p (p_pickf rfl rfl hg95 rfl) rfl ?_
                      refine o_nil ?_
                      exact s_joinN 7 184 _ rfl rfl rfl (fun w h => by first | exact h | exact h.ent aEt)) ?_
                  refine o_p (p_pickf rfl rfl hg87 rfl) rfl ?_
                  refine o_nil ?_
                  exact s_joinN 5 185 _ rfl rfl rfl (fun w h => by first | exact h | exact h.ent aEt))
                (by
                  intro hg97
                  have hs98 := hg97; try simp only [decide_eq_true_eq, decide_eq_false_iff_not, Bool.not_eq_true', Bool.not_eq_false', Bool.and_eq_true, Bool.or_eq_true, Bool.and_eq_false_iff, Bool.or_eq_false_iff, Bool.not_true, Bool.not_false] at hs98
                  refine o_off 174 _ rfl rfl hg97 rfl ?_
                  refine o_off 174 _ rfl rfl hg97 rfl ?_
                  refine o_off 174 _ rfl rfl hg97 rfl ?_
                  refine o_off' 177 rfl rfl rfl ?_
                  refine o_off' 177 rfl rfl rfl ?_
                  refine o_off' 177 rfl rfl rfl ?_
                  refine o_off' 180 rfl rfl rfl ?_
                  refine o_off' 180 rfl rfl rfl ?_
                  refine o_off' 177 rfl rfl rfl ?_
                  refine o_off 174 _ rfl rfl hg97 rfl ?_
                  refine o_p (p_pickt rfl rfl hg97 rfl) rfl ?_
                  refine o_nil ?_
                  exact s_joinN 11 185 _ rfl rfl rfl (fun w h => by first | exact h | exact h.ent aEt)) ?_
              refine o_nil ?_
              refine s_cond rfl (fun h99 => ?_) (fun h99 => ?_)
              · try simp only [decide_eq_true_eq, decide_eq_false_iff_not, Bool.not_eq_true', Bool.not_eq_false', Bool.and_eq_true, Bool.or_eq_true, Bool.and_eq_false_iff, Bool.or_eq_false_iff, Bool.not_true, Bool.not_false] at h99
                exfalso; have hq := h99; by_cases hk : byK l (encD d) < l.length; (have h9 := hI1 hk; simp [hk, h9.1, h9.2] at hq); (have h9 := hI2 hk; simp [hk, h9] at hq)
              · try simp only [decide_eq_true_eq, decide_eq_false_iff_not, Bool.not_eq_true', Bool.not_eq_false', Bool.and_eq_true, Bool.or_eq_true, Bool.and_eq_false_iff, Bool.or_eq_false_iff, Bool.not_true, Bool.not_false] at h99
                refine s_skip ?_
                refine s_seq ?_
                refine s_weaken (L' := [(3, _), (4, _), (6, _), (7, _), (8, _), (9, _)]) aSx (fun _ h => h) ?_
                refine s_region ?_
                refine o_q (q_loadn rfl rfl sz_24 aPk rfl) rfl ?_
                refine o_q (q_loadn rfl rfl sz_42 aPk rfl) rfl ?_
                refine o_h (h_call rfl fn_35 rfl (fun w1 h1 => c35 w1 nx a cap l d ea eac aa aac (hs.later h1) hm hb (hse.later h1) (hsa.later h1) hme hma hst0 hd0)) rfl (fun gG _ => ?_)
                refine o_p (p_pure rfl) rfl ?_
                refine o_p (p_pure rfl) rfl ?_
                refine o_p (p_pure rfl) rfl ?_
                refine o_p (p_pure rfl) rfl ?_
                refine o_h (h_alloc rfl zr_24) rfl (fun b100 _ => ?_)
                refine o_h0 (h_store rfl rfl rfl sz_24 rfl aPt (by simp only [setMany_length, List.length_set, List.length_cons, List.length_nil, List.length_map]; omega) rfl) (fun _ _ => ?_)
                refine o_p (p_pure rfl) rfl ?_
                refine o_p (p_pure rfl) rfl ?_
                refine o_nil ?_
                refine s_seq ?_
                refine s_seq ?_
                refine s_region ?_
                refine o_p (p_pure rfl) rfl ?_
                refine o_p (p_pure rfl) rfl ?_
                refine o_p (p_pure rfl) rfl ?_
                refine o_p (p_pure rfl) rfl ?_
                refine o_or 4 196 200 _ _ rfl
                  (by
                    intro hg101
                    have hs102 := hg101; try simp only [decide_eq_true_eq, decide_eq_false_iff_not, Bool.not_eq_true', Bool.not_eq_false', Bool.and_eq_true, Bool.or_eq_true, Bool.and_eq_false_iff, Bool.or_eq_false_iff, Bool.not_true, Bool.not_false] at hs102
                    refine o_on 196 _ rfl rfl hg101 ?_
                    refine o_p (p_pure rfl) rfl ?_
                    refine o_on 196 _ rfl rfl hg101 ?_
                    refine o_p (p_pure rfl) rfl ?_
                    refine o_on 196 _ rfl rfl hg101 ?_
                    refine o_p (p_pure rfl) rfl ?_
                    refine o_p (p_pickf rfl rfl hg101 rfl) rfl ?_
                    refine o_nil ?_
                    exact s_joinN 4 200 _ rfl rfl rfl (fun w h => by first | exact h | exact h.ent aEt))
                  (by
                    intro hg103
                    have hs104 := hg103; try simp only [decide_eq_true_eq, decide_eq_false_iff_not, Bool.not_eq_true', Bool.not_eq_false', Bool.and_eq_true, Bool.or_eq_true, Bool.and_eq_false_iff, Bool.or_eq_false_iff, Bool.not_true, Bool.not_false] at hs104
                    refine o_off 196 _ rfl rfl hg103 rfl ?_
                    refine o_off 196 _ rfl rfl hg103 rfl ?_
                    refine o_off 196 _ rfl rfl hg103 rfl ?_
                    refine o_p (p_pickt rfl rfl hg103 rfl) rfl ?_
                    refine o_nil ?_
                    exact s_joinN 4 200 _ rfl rfl rfl (fun w h => by first | exact h | exact h.ent aEt)) ?_
                refine o_p (p_pure rfl) rfl ?_
                refine o_or 5 201 206 _ _ rfl
                  (by
                    intro hg105
                    have hs106 := hg105; try simp only [decide_eq_true_eq, decide_eq_false_iff_not, Bool.not_eq_true', Bool.not_eq_false', Bool.and_eq_true, Bool.or_eq_true, Bool.and_eq_false_iff, Bool.or_eq_false_iff, Bool.not_true, Bool.not_false] at hs106
                    refine o_on 201 _ rfl rfl hg105 ?_
                    refine o_q (q_loadn rfl rfl sz_24 aPk rfl) rfl ?_
                    refine o_on 201 _ rfl rfl hg105 ?_
                    refine o_q (q_loadn rfl rfl sz_24 aPk rfl) rfl ?_
                    refine o_on 201 _ rfl rfl hg105 ?_
                    refine o_q (q_call rfl fn_13 rfl (fun w1 h1 => c13 w1 (addR nx l (encD d)).nx x.2.1 x.2.2 gG.1 gG.2 (addR nx l (encD d)).l (HS.rw_own (a := x.2.1) (l := (addR nx l (encD d)).l) sv2 h1 aPk rfl) (HS.rw_own (a := gG.1) (l := (addR nx l (encD d)).l) sv2 h1 aPk rfl) (by omega))) rfl ?_
                    refine o_on 201 _ rfl rfl hg105 ?_
                    refine o_p (p_pure rfl) rfl ?_
                    refine o_p (p_pickf rfl rfl hg105 rfl) rfl ?_
                    refine o_nil ?_
                    exact s_joinN 5 206 _ rfl rfl rfl (fun w h => by first | exact h | exact h.ent aEt))
                  (by
                    intro hg107
                    have hs108 := hg107; try simp only [decide_eq_true_eq, decide_eq_false_iff_not, Bool.not_eq_true', Bool.not_eq_false', Bool.and_eq_true, Bool.or_eq_true, Bool.and_eq_false_iff, Bool.or_eq_false_iff, Bool.not_true, Bool.not_false] at hs108
                    refine o_off 201 _ rfl rfl hg107 rfl ?_
                    refine o_off 201 _ rfl rfl hg107 rfl ?_
                    refine o_off 201 _ rfl rfl hg107 rfl ?_
                    refine o_off 201 _ rfl rfl hg107 rfl ?_
                    refine o_p (p_pickt rfl rfl hg107 rfl) rfl ?_
                    refine o_nil ?_
                    exact s_joinN 5 206 _ rfl rfl rfl (fun w h => by first | exact h | exact h.ent aEt)) ?_
                refine o_nil ?_
                refine s_cond rfl (fun h109 => ?_) (fun h109 => ?_)
                · try simp only [decide_eq_true_eq, decide_eq_false_iff_not, Bool.not_eq_true', Bool.not_eq_false', Bool.and_eq_true, Bool.or_eq_true, Bool.and_eq_false_iff, Bool.or_eq_false_iff, Bool.not_true, Bool.not_false] at h109
                  exfalso; have hq := h109; simp at hq
                · try simp only [decide_eq_true_eq, decide_eq_false_iff_not, Bool.not_eq_true', Bool.not_eq_false', Bool.and_eq_true, Bool.or_eq_true, Bool.and_eq_false_iff, Bool.or_eq_false_iff, Bool.not_true, Bool.not_false] at h109
                  refine s_skip ?_
                  refine s_seq ?_
                  refine s_seq ?_
                  refine s_region ?_
                  refine o_p (p_pure rfl) rfl ?_
                  refine o_p (p_pure rfl) rfl ?_
                  refine o_nil ?_
                  refine s_cond rfl (fun h110 => ?_) (fun h110 => ?_)
                  · try simp only [decide_eq_true_eq, decide_eq_false_iff_not, Bool.not_eq_true', Bool.not_eq_false', Bool.and_eq_true, Bool.or_eq_true, Bool.and_eq_false_iff, Bool.or_eq_false_iff, Bool.not_true, Bool.not_false] at h110
                    refine s_seq ?_
                    refine s_region ?_
                    refine o_p (p_pure rfl) rfl ?_
                    refine o_nil ?_
                    exact s_retv (rs := [.tmp 6]) rfl (.tmp rfl (.nil)) (fun w' h' => ⟨by rfl, h'.below⟩)
                  · try simp only [decide_eq_true_eq, decide_eq_false_iff_not, Bool.not_eq_true', Bool.not_eq_false', Bool.and_eq_true, Bool.or_eq_true, Bool.and_eq_false_iff, Bool.or_eq_false_iff, Bool.not_true, Bool.not_false] at h110
                    have he0 : (addR nx l (encD d)).e = 0 := h110
                    refine s_skip ?_
                    refine s_seq ?_
                    refine s_weaken (L' := [(4, _), (6, _), (7, _), (8, _)]) aSx (fun _ h => h) ?_
                    refine s_cutI (α := Nat × Option Addr × Nat) [25, 26, 27, 209, 210, 211, 212, 213, 214, 215, 216, 217] (fun y => [(25, .pointer (some ⟨y.1, 0, none⟩)), (26, .int .i64 (addR nx l (encD d)).id), (27, .int .i64 0)]) (fun y => HS w [] [.blk y.1 24 2 [.int .i64 (addR nx l (encD d)).nx, .slice y.2.1 (addR nx l (encD d)).l.length y.2.2], .own (.slice y.2.1 (addR nx l (encD d)).l.length y.2.2) 77 2 (addR nx l (encD d)).l.length ((addR nx l (encD d)).l.flatMap SItm.vals), .blk x.1 24 2 [.int .i64 (addR nx l (encD d)).nx, .slice x.2.1 (addR nx l (encD d)).l.length x.2.2], .own (.slice x.2.1 (addR nx l (encD d)).l.length x.2.2) 77 2 (addR nx l (encD d)).l.length ((addR nx l (encD d)).l.flatMap SItm.vals)]) (fun _ => True) ?_ ?_
                    · skip
                      refine s_draw [10] mixed ?_
                      refine d_q 0 [[]] rfl (q_loadn rfl rfl sz_24 aPk rfl) (by kernel_rfl) (by kernel_rfl) (by kernel_rfl) rfl ?_
                      refine d_q 2 [[]] rfl (q_loadn rfl rfl sz_42 aPk rfl) (by kernel_rfl) (by kernel_rfl) (by kernel_rfl) rfl ?_
                      refine d_two 1 9 rfl rfl  (h_call rfl fn_9 rfl (fun w1 h1 => c9 w1 (addR nx l (encD d)).nx x.2.1 x.2.2 (addR nx l (encD d)).l (HS.rw_own (a := x.2.1) (l := (addR nx l (encD d)).l) sv2 h1 aPk rfl) (by omega) (fun x hx => by rcases addR_mem hx with h9 | h9; exact hb x h9; rw [h9]; omega))) (h_alloc rfl zr_24) (by kernel_rfl) (fun w h => h.ent aEt) rfl rfl  (fun gS3 _ => ?_) (fun b111 _ => ?_)
                      · skip
                        refine d_base (fun w h => h.ent aEt) ?_
                        refine d_two 3 9 rfl rfl  (h_call rfl fn_18 rfl (fun w1 h1 => c18 w1 d ea eac aa aac (hse.later h1) (hsa.later h1) hme hma)) (h_alloc rfl zr_24) (by kernel_rfl) (fun w h => h.ent aEt) rfl rfl  (fun gD2 _ => ?_) (fun b112 _ => ?_)
                        · skip
                          refine d_base (fun w h => h.ent aEt) ?_
                          refine d_two 4 9 rfl rfl  (h_call rfl fn_28 rfl (fun w1 h1 => by have h9 := c28 w1 (addR nx l (encD d)).nx gS3.1 gS3.2 (addR nx l (encD d)).l d gD2.1.1 gD2.1.2 gD2.2.1 gD2.2.2 (HS.rw_own (a := gS3.1) (l := (addR nx l (encD d)).l) sv2 h1 aPk rfl) (by omega) (fun x hx => by rcases addR_mem hx with h9 | h9; exact hb x h9; rw [h9]; omega) (HS.rw_own (a := gD2.1.1) (l := d.en) av4 h1 aPk rfl) (HS.rw_own (a := gD2.2.1) (l := d.au) av4 h1 aPk rfl) hme hma; rw [add_two hst0 hd0 he0] at h9; exact h9)) (h_alloc rfl zr_24) (by kernel_rfl) (fun w h => h.ent aEt) rfl rfl  (fun gB _ => ?_) (fun b113 _ => ?_)
                          · skip
                            refine d_base (fun w h => h.ent aEt) ?_
                            refine d_p 5 rfl (p_pure rfl) (by kernel_rfl) rfl rfl ?_
                            refine d_p 6 rfl (p_pure rfl) (by kernel_rfl) rfl rfl ?_
                            refine d_p 7 rfl (p_pure rfl) (by kernel_rfl) rfl rfl ?_
                            refine d_p 8 rfl (p_pure rfl) (by kernel_rfl) rfl rfl ?_
                            refine d_h 9 rfl (h_alloc rfl zr_24) (by kernel_rfl) (fun w h => h.ent aEt) rfl (fun b114 _ => ?_)
                            refine d_base (fun w h => h.ent aEt) ?_
                            refine d_h0 10 rfl (h_store rfl rfl rfl sz_24 rfl aPt (by simp only [setMany_length, List.length_set, List.length_cons, List.length_nil, List.length_map]; omega) rfl) (by kernel_rfl) (fun w h => h.ent aEt) (fun _ _ => ?_)
                            refine d_turn [] (by kernel_rfl) ?_
                            refine d_p 11 rfl (p_pure rfl) (by kernel_rfl) rfl rfl ?_
                            refine d_p 12 rfl (p_pure rfl) (by kernel_rfl) rfl rfl ?_
                            refine d_nil (by kernel_rfl) (fun w h => by first | exact h | exact h.ent aEt) ?_
                            exact s_joinI (b114, gB) trivial aSx (fun w h => h.ent aEt)
                          · skip
                            refine d_base (fun w h => h.ent aEt) ?_
                            refine d_h 4 rfl (h_call rfl fn_28 rfl (fun w1 h1 => by have h9 := c28 w1 (addR nx l (encD d)).nx gS3.1 gS3.2 (addR nx l (encD d)).l d gD2.1.1 gD2.1.2 gD2.2.1 gD2.2.2 (HS.rw_own (a := gS3.1) (l := (addR nx l (encD d)).l) sv2 h1 aPk rfl) (by omega) (fun x hx => by rcases addR_mem hx with h9 | h9; exact hb x h9; rw [h9]; omega) (HS.rw_own (a := gD2.1.1) (l := d.en) av4 h1 aPk rfl) (HS.rw_own (a := gD2.2.1) (l := d.au) av4 h1 aPk rfl) hme hma; rw [add_two hst0 hd0 he0] at h9; exact h9)) (by kernel_rfl) (fun w h => h.ent aEt) rfl (fun gB _ => ?_)
                            refine d_base (fun w h => h.ent aEt) ?_
                            refine d_p 5 rfl (p_pure rfl) (by kernel_rfl) rfl rfl ?_
                            refine d_p 6 rfl (p_pure rfl) (by kernel_rfl) rfl rfl ?_
                            refine d_p 7 rfl (p_pure rfl) (by kernel_rfl) rfl rfl ?_
                            refine d_p 8 rfl (p_pure rfl) (by kernel_rfl) rfl rfl ?_
                            refine d_h0 10 rfl (h_store rfl rfl rfl sz_24 rfl aPt (by simp only [setMany_length, List.length_set, List.length_cons, List.length_nil, List.length_map]; omega) rfl) (by kernel_rfl) (fun w h => h.ent aEt) (fun _ _ => ?_)
                            refine d_turn [] (by kernel_rfl) ?_
                            refine d_p 11 rfl (p_pure rfl) (by kernel_rfl) rfl rfl ?_
                            refine d_p 12 rfl (p_pure rfl) (by kernel_rfl) rfl rfl ?_
                            refine d_nil (by kernel_rfl) (fun w h => by first | exact h | exact h.ent aEt) ?_
                            exact s_joinI (b113, gB) trivial aSx (fun w h => h.ent aEt)
                        · skip
                          refine d_base (fun w h => h.ent aEt) ?_
                          refine d_h 3 rfl (h_call rfl fn_18 rfl (fun w1 h1 => c18 w1 d ea eac aa aac (hse.later h1) (hsa.later h1) hme hma)) (by kernel_rfl) (fun w h => h.ent aEt) rfl (fun gD2 _ => ?_)
                          refine d_base (fun w h => h.ent aEt) ?_
                          refine d_h 4 rfl (h_call rfl fn_28 rfl (fun w1 h1 => by have h9 := c28 w1 (addR nx l (encD d)).nx gS3.1 gS3.2 (addR nx l (encD d)).l d gD2.1.1 gD2.1.2 gD2.2.1 gD2.2.2 (HS.rw_own (a := gS3.1) (l := (addR nx l (encD d)).l) sv2 h1 aPk rfl) (by omega) (fun x hx => by rcases addR_mem hx with h9 | h9; exact hb x h9; rw [h9]; omega) (HS.rw_own (a := gD2.1.1) (l := d.en) av4 h1 aPk rfl) (HS.rw_own (a := gD2.2.1) (l := d.au) av4 h1 aPk rfl) hme hma; rw [add_two hst0 hd0 he0] at h9; exact h9)) (by kernel_rfl) (fun w h => h.ent aEt) rfl (fun gB _ => ?_)
                          refine d_base (fun w h => h.ent aEt) ?_
                          refine d_p 5 rfl (p_pure rfl) (by kernel_rfl) rfl rfl ?_
                          refine d_p 6 rfl (p_pure rfl) (by kernel_rfl) rfl rfl ?_
                          refine d_p 7 rfl (p_pure rfl) (by kernel_rfl) rfl rfl ?_
                          refine d_p 8 rfl (p_pure rfl) (by kernel_rfl) rfl rfl ?_
                          refine d_h0 10 rfl (h_store rfl rfl rfl sz_24 rfl aPt (by simp only [setMany_length, List.length_set, List.length_cons, List.length_nil, List.length_map]; omega) rfl) (by kernel_rfl) (fun w h => h.ent aEt) (fun _ _ => ?_)
                          refine d_turn [] (by kernel_rfl) ?_
                          refine d_p 11 rfl (p_pure rfl) (by kernel_rfl) rfl rfl ?_
                          refine d_p 12 rfl (p_pure rfl) (by kernel_rfl) rfl rfl ?_
                          refine d_nil (by kernel_rfl) (fun w h => by first | exact h | exact h.ent aEt) ?_
                          exact s_joinI (b112, gB) trivial aSx (fun w h => h.ent aEt)
                      · skip
                        refine d_base (fun w h => h.ent aEt) ?_
                        refine d_h 1 rfl (h_call rfl fn_9 rfl (fun w1 h1 => c9 w1 (addR nx l (encD d)).nx x.2.1 x.2.2 (addR nx l (encD d)).l (HS.rw_own (a := x.2.1) (l := (addR nx l (encD d)).l) sv2 h1 aPk rfl) (by omega) (fun x hx => by rcases addR_mem hx with h9 | h9; exact hb x h9; rw [h9]; omega))) (by kernel_rfl) (fun w h => h.ent aEt) rfl (fun gS3 _ => ?_)
                        refine d_base (fun w h => h.ent aEt) ?_
                        refine d_h 3 rfl (h_call rfl fn_18 rfl (fun w1 h1 => c18 w1 d ea eac aa aac (hse.later h1) (hsa.later h1) hme hma)) (by kernel_rfl) (fun w h => h.ent aEt) rfl (fun gD2 _ => ?_)
                        refine d_base (fun w h => h.ent aEt) ?_
                        refine d_h 4 rfl (h_call rfl fn_28 rfl (fun w1 h1 => by have h9 := c28 w1 (addR nx l (encD d)).nx gS3.1 gS3.2 (addR nx l (encD d)).l d gD2.1.1 gD2.1.2 gD2.2.1 gD2.2.2 (HS.rw_own (a := gS3.1) (l := (addR nx l (encD d)).l) sv2 h1 aPk rfl) (by omega) (fun x hx => by rcases addR_mem hx with h9 | h9; exact hb x h9; rw [h9]; omega) (HS.rw_own (a := gD2.1.1) (l := d.en) av4 h1 aPk rfl) (HS.rw_own (a := gD2.2.1) (l := d.au) av4 h1 aPk rfl) hme hma; rw [add_two hst0 hd0 he0] at h9; exact h9)) (by kernel_rfl) (fun w h => h.ent aEt) rfl (fun gB _ => ?_)
                        refine d_base (fun w h => h.ent aEt) ?_
                        refine d_p 5 rfl (p_pure rfl) (by kernel_rfl) rfl rfl ?_
                        refine d_p 6 rfl (p_pure rfl) (by kernel_rfl) rfl rfl ?_
                        refine d_p 7 rfl (p_pure rfl) (by kernel_rfl) rfl rfl ?_
                        refine d_p 8 rfl (p_pure rfl) (by kernel_rfl) rfl rfl ?_
                        refine d_h0 10 rfl (h_store rfl rfl rfl sz_24 rfl aPt (by simp only [setMany_length, List.length_set, List.length_cons, List.length_nil, List.length_map]; omega) rfl) (by kernel_rfl) (fun w h => h.ent aEt) (fun _ _ => ?_)
                        refine d_turn [] (by kernel_rfl) ?_
                        refine d_p 11 rfl (p_pure rfl) (by kernel_rfl) rfl rfl ?_
                        refine d_p 12 rfl (p_pure rfl) (by kernel_rfl) rfl rfl ?_
                        refine d_nil (by kernel_rfl) (fun w h => by first | exact h | exact h.ent aEt) ?_
                        exact s_joinI (b111, gB) trivial aSx (fun w h => h.ent aEt)
                    · intro y hy
                      refine s_seq ?_
                      refine s_region ?_
                      refine o_p (p_pure rfl) rfl ?_
                      refine o_p (p_pure rfl) rfl ?_
                      refine o_p (p_pure rfl) rfl ?_
                      refine o_and 4 220 224 _ _ rfl
                        (by
                          intro hg115
                          have hs116 := hg115; try simp only [decide_eq_true_eq, decide_eq_false_iff_not, Bool.not_eq_true', Bool.not_eq_false', Bool.and_eq_true, Bool.or_eq_true, Bool.and_eq_false_iff, Bool.or_eq_false_iff, Bool.not_true, Bool.not_false] at hs116
                          refine o_on 220 _ rfl rfl hg115 ?_
                          refine o_p (p_pure rfl) rfl ?_
                          refine o_on 220 _ rfl rfl hg115 ?_
                          refine o_p (p_pure rfl) rfl ?_
                          refine o_on 220 _ rfl rfl hg115 ?_
                          refine o_p (p_pure rfl) rfl ?_
                          refine o_p (p_pickt rfl rfl hg115 rfl) rfl ?_
                          refine o_nil ?_
                          exact s_joinN 4 224 _ rfl rfl rfl (fun w h => by first | exact h | exact h.ent aEt))
                        (by
                          intro hg117
                          have hs118 := hg117; try simp only [decide_eq_true_eq, decide_eq_false_iff_not, Bool.not_eq_true', Bool.not_eq_false', Bool.and_eq_true, Bool.or_eq_true, Bool.and_eq_false_iff, Bool.or_eq_false_iff, Bool.not_true, Bool.not_false] at hs118
                          refine o_off 220 _ rfl rfl hg117 rfl ?_
                          refine o_off 220 _ rfl rfl hg117 rfl ?_
                          refine o_off 220 _ rfl rfl hg117 rfl ?_
                          refine o_p (p_pickf rfl rfl hg117 rfl) rfl ?_
                          refine o_nil ?_
                          exact s_joinN 4 224 _ rfl rfl rfl (fun w h => by first | exact h | exact h.ent aEt)) ?_
                      refine o_p (p_pure rfl) rfl ?_
                      refine o_and 4 225 229 _ _ rfl
                        (by
                          intro hg119
                          have hs120 := hg119; try simp only [decide_eq_true_eq, decide_eq_false_iff_not, Bool.not_eq_true', Bool.not_eq_false', Bool.and_eq_true, Bool.or_eq_true, Bool.and_eq_false_iff, Bool.or_eq_false_iff, Bool.not_true, Bool.not_false] at hs120
                          refine o_on 225 _ rfl rfl hg119 ?_
                          refine o_q (q_loadn rfl rfl sz_24 aPk rfl) rfl ?_
                          refine o_on 225 _ rfl rfl hg119 ?_
                          refine o_q (q_loadn rfl rfl sz_24 aPk rfl) rfl ?_
                          refine o_on 225 _ rfl rfl hg119 ?_
                          refine o_q (q_call rfl fn_13 rfl (fun w1 h1 => c13 w1 (addR nx l (encD d)).nx y.2.1 y.2.2 x.2.1 x.2.2 (addR nx l (encD d)).l (HS.rw_own (a := y.2.1) (l := (addR nx l (encD d)).l) sv2 h1 aPk rfl) (HS.rw_own (a := x.2.1) (l := (addR nx l (encD d)).l) sv2 h1 aPk rfl) (by omega))) rfl ?_
                          refine o_p (p_pickt rfl rfl hg119 rfl) rfl ?_
                          refine o_nil ?_
                          exact s_joinN 4 229 _ rfl rfl rfl (fun w h => by first | exact h | exact h.ent aEt))
                        (by
                          intro hg121
                          have hs122 := hg121; try simp only [decide_eq_true_eq, decide_eq_false_iff_not, Bool.not_eq_true', Bool.not_eq_false', Bool.and_eq_true, Bool.or_eq_true, Bool.and_eq_false_iff, Bool.or_eq_false_iff, Bool.not_true, Bool.not_false] at hs122
                          refine o_off 225 _ rfl rfl hg121 rfl ?_
                          refine o_off 225 _ rfl rfl hg121 rfl ?_
                          refine o_off 225 _ rfl rfl hg121 rfl ?_
                          refine o_p (p_pickf rfl rfl hg121 rfl) rfl ?_
                          refine o_nil ?_
                          exact s_joinN 4 229 _ rfl rfl rfl (fun w h => by first | exact h | exact h.ent aEt)) ?_
                      refine o_p (p_pure rfl) rfl ?_
                      refine o_nil ?_
                      exact s_retv (rs := [.tmp 6]) rfl (.tmp rfl (.nil)) (fun w' h' => ⟨by simp [retV], h'.below⟩)

end Go.Proofs

