/- Contracts of the program's functions, proved by walking them with the rules of the Gx texts; without conditions beyond those that each contract names. -/
import Derived.WalkKit
import Derived.Deep.Draws
import Derived.TacticsIn
import Derived.OrdersIn
import Derived.RangeFuncLeaves
import Derived.Lib.Strings
import Derived.Laws.BytesArg
import Derived.Laws.IdiomStrings
import Derived.Deep.Quiet
import Derived.Laws.StructEq
import Derived.ChangeKeysEq
import Derived.Laws.Externs
import Derived.Lib.Overlaps
import Derived.Carry
import Derived.Laws.Small
import Derived.Lib.Bytealg
import Derived.Test.YtbbbhjhafdnnaaaGreatDoorProg
import Derived.KernelRfl
import Derived.RangeFuncRecord
import Derived.ProofKit
import Derived.OpenShut
import Derived.Lib.Builder
import Derived.Lib.UnsafeStr
import Derived.Laws.Pointers
import Derived.LaidEqlPtr
import Derived.Shelf.Strings.Builder1
import Derived.Shelf.Strings.Builder2
import Derived.Shelf.Small.Utf8
import Derived.Shelf.Small.Strs
import Derived.Shelf.Strings.BuilderF
import Derived.Shelf.Strings.Search1
import Derived.Shelf.Strings.Prefix
import Derived.Shelf.Unicode.Decode
import Derived.Shelf.Strings.Runes
import Derived.Shelf.Strings.AsciiSet
import Derived.Shelf.Bits.Mul64
import Derived.Shelf.Strings.Repeat
import Derived.Shelf.Unicode.DecodeSlow
import Derived.Shelf.Unicode.DecodeAny
import Derived.Shelf.Unicode.DecodeLast
import Derived.Test.YtbbbhjhafdnnaaaGreatDoorTie
import Derived.Test.YtbbbhjhafdnnaaaGreatDoorCards
import Derived.SevenTiedAt
import Derived.LaidMore
import Derived.Lay
import Derived.Stop.Joined
import Derived.Test.YtbbbhjhafdnnaaaGreatDoorP0
namespace Go.Proofs
open Go Go.RowKit Gx
set_option linter.unusedVariables false
set_option linter.unusedSimpArgs false
attribute [local irreducible] Go.Calls Gx.S Gx.O Gx.D Gx.OpP Gx.OpQ Gx.OpH

theorem sl_122 : tsl Tryz.prog 122 = some (27, 1, 8) := by kernel_rfl
theorem sz_27 : tsz Tryz.prog 27 = some (1, false) := by kernel_rfl
theorem fn_139 : isFn Tryz.prog 139 = true := by kernel_rfl
theorem fn_140 : isFn Tryz.prog 140 = true := by kernel_rfl
theorem fn_143 : isFn Tryz.prog 143 = true := by kernel_rfl
theorem fn_138 : isFn Tryz.prog 138 = true := by kernel_rfl
theorem fn_102 : isFn Tryz.prog 102 = true := by kernel_rfl
theorem fd_85_1 : tfd Tryz.prog 85 1 = some (1, 3) := by kernel_rfl
theorem sz_3 : tsz Tryz.prog 3 = some (1, false) := by kernel_rfl
theorem fd_85_2 : tfd Tryz.prog 85 2 = some (2, 3) := by kernel_rfl
theorem fd_85_3 : tfd Tryz.prog 85 3 = some (3, 3) := by kernel_rfl
theorem fd_85_0 : tfd Tryz.prog 85 0 = some (0, 3) := by kernel_rfl
theorem zr_27 : tzero Tryz.prog 27 = some [.int .i64 0] := by kernel_rfl
theorem fn_101 : isFn Tryz.prog 101 = true := by kernel_rfl
theorem fn_16 : isFn Tryz.prog 16 = true := by kernel_rfl
theorem fn_142 : isFn Tryz.prog 142 = true := by kernel_rfl
theorem fn_136 : isFn Tryz.prog 136 = true := by kernel_rfl
theorem fn_137 : isFn Tryz.prog 137 = true := by kernel_rfl


set_option maxRecDepth 20000 in
theorem c139 (w : World) (n lo hi : Int) : Calls Tryz.prog 139 #[.int .i64 n, .int .i64 lo, .int .i64 hi] w fun en w' => en = .returned (.bool (decide (lo ≤ n) && decide (n ≤ hi))) ∧ Below w.heap.size w w' := by
  refine enter (args := [_, _, _]) Tryz.func139 Tryz.ntmps139 rfl rfl (HS.refl w []) ?_
  refine s_seq ?_
  refine s_region ?_
  refine o_p (p_pure rfl) rfl ?_
  refine o_nil ?_
  refine s_seq ?_
  refine s_region ?_
  refine o_p (p_pure rfl) rfl ?_
  refine o_p (p_pure rfl) rfl ?_
  refine o_p (p_pure rfl) rfl ?_
  refine o_p (p_pure rfl) rfl ?_
  refine o_and 4 10 14 _ _ rfl
    (by
      intro hg1
      have hs2 := hg1; try simp only [decide_eq_true_eq, decide_eq_false_iff_not, Bool.not_eq_true', Bool.not_eq_false', Bool.and_eq_true, Bool.or_eq_true, Bool.and_eq_false_iff, Bool.or_eq_false_iff, Bool.not_true, Bool.not_false] at hs2
      refine o_on 10 _ rfl rfl hg1 ?_
      refine o_p (p_pure rfl) rfl ?_
      refine o_on 10 _ rfl rfl hg1 ?_
      refine o_p (p_pure rfl) rfl ?_
      refine o_on 10 _ rfl rfl hg1 ?_
      refine o_p (p_pure rfl) rfl ?_
      refine o_p (p_pickt rfl rfl hg1 rfl) rfl ?_
      refine o_nil ?_
      exact s_joinN 4 14 _ rfl rfl rfl (fun w h => by first | exact h | exact h.ent aEt))
    (by
      intro hg3
      have hs4 := hg3; try simp only [decide_eq_true_eq, decide_eq_false_iff_not, Bool.not_eq_true', Bool.not_eq_false', Bool.and_eq_true, Bool.or_eq_true, Bool.and_eq_false_iff, Bool.or_eq_false_iff, Bool.not_true, Bool.not_false] at hs4
      refine o_off 10 _ rfl rfl hg3 rfl ?_
      refine o_off 10 _ rfl rfl hg3 rfl ?_
      refine o_off 10 _ rfl rfl hg3 rfl ?_
      refine o_p (p_pickf rfl rfl hg3 rfl) rfl ?_
      refine o_nil ?_
      exact s_joinN 4 14 _ rfl rfl rfl (fun w h => by first | exact h | exact h.ent aEt)) ?_
  refine o_p (p_pure rfl) rfl ?_
  refine o_nil ?_
  exact s_retv (rs := [.tmp 6]) rfl (.tmp rfl (.nil)) (fun w' h' => ⟨rfl, h'.below⟩)

set_option maxRecDepth 20000 in
theorem c16 (w : World) (n lo hi : Int) : Calls Tryz.prog 16 #[.int .i64 n, .int .i64 lo, .int .i64 hi] w fun en w' => en = .returned (.bool (decide (lo ≤ n) && decide (n ≤ hi))) ∧ Below w.heap.size w w' := by
  refine enter (args := [_, _, _]) Tryz.func16 Tryz.ntmps16 rfl rfl (HS.refl w []) ?_
  refine s_seq ?_
  refine s_region ?_
  refine o_p (p_pure rfl) rfl ?_
  refine o_nil ?_
  refine s_seq ?_
  refine s_region ?_
  refine o_p (p_pure rfl) rfl ?_
  refine o_p (p_pure rfl) rfl ?_
  refine o_p (p_pure rfl) rfl ?_
  refine o_p (p_pure rfl) rfl ?_
  refine o_and 4 10 14 _ _ rfl
    (by
      intro hg1
      have hs2 := hg1; try simp only [decide_eq_true_eq, decide_eq_false_iff_not, Bool.not_eq_true', Bool.not_eq_false', Bool.and_eq_true, Bool.or_eq_true, Bool.and_eq_false_iff, Bool.or_eq_false_iff, Bool.not_true, Bool.not_false] at hs2
      refine o_on 10 _ rfl rfl hg1 ?_
      refine o_p (p_pure rfl) rfl ?_
      refine o_on 10 _ rfl rfl hg1 ?_
      refine o_p (p_pure rfl) rfl ?_
      refine o_on 10 _ rfl rfl hg1 ?_
      refine o_p (p_pure rfl) rfl ?_
      refine o_p (p_pickt rfl rfl hg1 rfl) rfl ?_
      refine o_nil ?_
      exact s_joinN 4 14 _ rfl rfl rfl (fun w h => by first | exact h | exact h.ent aEt))
    (by
      intro hg3
      have hs4 := hg3; try simp only [decide_eq_true_eq, decide_eq_false_iff_not, Bool.not_eq_true', Bool.not_eq_false', Bool.and_eq_true, Bool.or_eq_true, Bool.and_eq_false_iff, Bool.or_eq_false_iff, Bool.not_true, Bool.not_false] at hs4
      refine o_off 10 _ rfl rfl hg3 rfl ?_
      refine o_off 10 _ rfl rfl hg3 rfl ?_
      refine o_off 10 _ rfl rfl hg3 rfl ?_
      refine o_p (p_pickf rfl rfl hg3 rfl) rfl ?_
      refine o_nil ?_
      exact s_joinN 4 14 _ rfl rfl rfl (fun w h => by first | exact h | exact h.ent aEt)) ?_
  refine o_p (p_pure rfl) rfl ?_
  refine o_nil ?_
  exact s_retv (rs := [.tmp 6]) rfl (.tmp rfl (.nil)) (fun w' h' => ⟨rfl, h'.below⟩)

set_option maxRecDepth 20000 in
theorem c102 (w : World) (ok : Bool) (e : Int) : Calls Tryz.prog 102 #[.bool ok, .int .i64 e] w fun en w' => en = .returned (.int .i64 (cond ok 0 e)) ∧ Below w.heap.size w w' := by
  refine enter (args := [_, _]) Tryz.func102 Tryz.ntmps102 rfl rfl (HS.refl w []) ?_
  refine s_seq ?_
  refine s_region ?_
  refine o_p (p_pure rfl) rfl ?_
  refine o_nil ?_
  refine s_seq ?_
  refine s_seq ?_
  refine s_region ?_
  refine o_p (p_pure rfl) rfl ?_
  refine o_nil ?_
  refine s_cond rfl (fun h1 => ?_) (fun h1 => ?_)
  · try simp only [decide_eq_true_eq, decide_eq_false_iff_not, Bool.not_eq_true', Bool.not_eq_false', Bool.and_eq_true, Bool.or_eq_true, Bool.and_eq_false_iff, Bool.or_eq_false_iff, Bool.not_true, Bool.not_false] at h1
    refine s_seq ?_
    refine s_region ?_
    refine o_p (p_pure rfl) rfl ?_
    refine o_nil ?_
    exact s_retv (rs := [.tmp 4]) rfl (.tmp rfl (.nil)) (fun w' h' => ⟨by simp_all [retV], h'.below⟩)
  · try simp only [decide_eq_true_eq, decide_eq_false_iff_not, Bool.not_eq_true', Bool.not_eq_false', Bool.and_eq_true, Bool.or_eq_true, Bool.and_eq_false_iff, Bool.or_eq_false_iff, Bool.not_true, Bool.not_false] at h1
    refine s_skip ?_
    refine s_seq ?_
    refine s_region ?_
    refine o_p (p_pure rfl) rfl ?_
    refine o_p (p_pure rfl) rfl ?_
    refine o_nil ?_
    exact s_retv (rs := [.tmp 4]) rfl (.tmp rfl (.nil)) (fun w' h' => ⟨by simp_all [retV], h'.below⟩)

set_option maxRecDepth 20000 in
theorem c62 (w : World) (n lo hi : Int) : Calls Tryz.prog 62 #[.int .i64 n, .int .i64 lo, .int .i64 hi] w fun en w' => en = .returned (.bool (decide (lo ≤ n) && decide (n ≤ hi))) ∧ Below w.heap.size w w' := by
  refine enter (args := [_, _, _]) Tryz.func62 Tryz.ntmps62 rfl rfl (HS.refl w []) ?_
  refine s_seq ?_
  refine s_region ?_
  refine o_p (p_pure rfl) rfl ?_
  refine o_nil ?_
  refine s_seq ?_
  refine s_region ?_
  refine o_p (p_pure rfl) rfl ?_
  refine o_p (p_pure rfl) rfl ?_
  refine o_p (p_pure rfl) rfl ?_
  refine o_p (p_pure rfl) rfl ?_
  refine o_and 4 10 14 _ _ rfl
    (by
      intro hg1
      have hs2 := hg1; try simp only [decide_eq_true_eq, decide_eq_false_iff_not, Bool.not_eq_true', Bool.not_eq_false', Bool.and_eq_true, Bool.or_eq_true, Bool.and_eq_false_iff, Bool.or_eq_false_iff, Bool.not_true, Bool.not_false] at hs2
      refine o_on 10 _ rfl rfl hg1 ?_
      refine o_p (p_pure rfl) rfl ?_
      refine o_on 10 _ rfl rfl hg1 ?_
      refine o_p (p_pure rfl) rfl ?_
      refine o_on 10 _ rfl rfl hg1 ?_
      refine o_p (p_pure rfl) rfl ?_
      refine o_p (p_pickt rfl rfl hg1 rfl) rfl ?_
      refine o_nil ?_
      exact s_joinN 4 14 _ rfl rfl rfl (fun w h => by first | exact h | exact h.ent aEt))
    (by
      intro hg3
      have hs4 := hg3; try simp only [decide_eq_true_eq, decide_eq_false_iff_not, Bool.not_eq_true', Bool.not_eq_false', Bool.and_eq_true, Bool.or_eq_true, Bool.and_eq_false_iff, Bool.or_eq_false_iff, Bool.not_true, Bool.not_false] at hs4
      refine o_off 10 _ rfl rfl hg3 rfl ?_
      refine o_off 10 _ rfl rfl hg3 rfl ?_
      refine o_off 10 _ rfl rfl hg3 rfl ?_
      refine o_p (p_pickf rfl rfl hg3 rfl) rfl ?_
      refine o_nil ?_
      exact s_joinN 4 14 _ rfl rfl rfl (fun w h => by first | exact h | exact h.ent aEt)) ?_
  refine o_p (p_pure rfl) rfl ?_
  refine o_nil ?_
  exact s_retv (rs := [.tmp 6]) rfl (.tmp rfl (.nil)) (fun w' h' => ⟨rfl, h'.below⟩)

set_option maxRecDepth 20000 in
theorem c50 (w : World) (ok : Bool) (e : Int) : Calls Tryz.prog 50 #[.bool ok, .int .i64 e] w fun en w' => en = .returned (.int .i64 (cond ok 0 e)) ∧ Below w.heap.size w w' := by
  refine enter (args := [_, _]) Tryz.func50 Tryz.ntmps50 rfl rfl (HS.refl w []) ?_
  refine s_seq ?_
  refine s_region ?_
  refine o_p (p_pure rfl) rfl ?_
  refine o_nil ?_
  refine s_seq ?_
  refine s_seq ?_
  refine s_region ?_
  refine o_p (p_pure rfl) rfl ?_
  refine o_nil ?_
  refine s_cond rfl (fun h1 => ?_) (fun h1 => ?_)
  · try simp only [decide_eq_true_eq, decide_eq_false_iff_not, Bool.not_eq_true', Bool.not_eq_false', Bool.and_eq_true, Bool.or_eq_true, Bool.and_eq_false_iff, Bool.or_eq_false_iff, Bool.not_true, Bool.not_false] at h1
    refine s_seq ?_
    refine s_region ?_
    refine o_p (p_pure rfl) rfl ?_
    refine o_nil ?_
    exact s_retv (rs := [.tmp 4]) rfl (.tmp rfl (.nil)) (fun w' h' => ⟨by simp_all [retV], h'.below⟩)
  · try simp only [decide_eq_true_eq, decide_eq_false_iff_not, Bool.not_eq_true', Bool.not_eq_false', Bool.and_eq_true, Bool.or_eq_true, Bool.and_eq_false_iff, Bool.or_eq_false_iff, Bool.not_true, Bool.not_false] at h1
    refine s_skip ?_
    refine s_seq ?_
    refine s_region ?_
    refine o_p (p_pure rfl) rfl ?_
    refine o_p (p_pure rfl) rfl ?_
    refine o_nil ?_
    exact s_retv (rs := [.tmp 4]) rfl (.tmp rfl (.nil)) (fun w' h' => ⟨by simp_all [retV], h'.below⟩)

set_option maxRecDepth 20000 in
theorem c131 (w : World) (ok : Bool) (e : Int) : Calls Tryz.prog 131 #[.bool ok, .int .i64 e] w fun en w' => en = .returned (.int .i64 (cond ok 0 e)) ∧ Below w.heap.size w w' := by
  refine enter (args := [_, _]) Tryz.func131 Tryz.ntmps131 rfl rfl (HS.refl w []) ?_
  refine s_seq ?_
  refine s_region ?_
  refine o_p (p_pure rfl) rfl ?_
  refine o_nil ?_
  refine s_seq ?_
  refine s_seq ?_
  refine s_region ?_
  refine o_p (p_pure rfl) rfl ?_
  refine o_nil ?_
  refine s_cond rfl (fun h1 => ?_) (fun h1 => ?_)
  · try simp only [decide_eq_true_eq, decide_eq_false_iff_not, Bool.not_eq_true', Bool.not_eq_false', Bool.and_eq_true, Bool.or_eq_true, Bool.and_eq_false_iff, Bool.or_eq_false_iff, Bool.not_true, Bool.not_false] at h1
    refine s_seq ?_
    refine s_region ?_
    refine o_p (p_pure rfl) rfl ?_
    refine o_nil ?_
    exact s_retv (rs := [.tmp 4]) rfl (.tmp rfl (.nil)) (fun w' h' => ⟨by simp_all [retV], h'.below⟩)
  · try simp only [decide_eq_true_eq, decide_eq_false_iff_not, Bool.not_eq_true', Bool.not_eq_false', Bool.and_eq_true, Bool.or_eq_true, Bool.and_eq_false_iff, Bool.or_eq_false_iff, Bool.not_true, Bool.not_false] at h1
    refine s_skip ?_
    refine s_seq ?_
    refine s_region ?_
    refine o_p (p_pure rfl) rfl ?_
    refine o_p (p_pure rfl) rfl ?_
    refine o_nil ?_
    exact s_retv (rs := [.tmp 4]) rfl (.tmp rfl (.nil)) (fun w' h' => ⟨by simp_all [retV], h'.below⟩)

set_option maxRecDepth 20000 in
theorem c101 (w : World) (a : Option Addr) (cap : Nat) (es : List Int) (hs : Sl w [] a 1 es.length (fun i => [.int .i64 (es.getD i 0)])) (hm : es.length ≤ 1000) : Calls Tryz.prog 101 #[.slice a es.length cap] w fun en w' => en = .returned (.int .i64 (firstI es)) ∧ Below w.heap.size w w' := by
  refine enter (args := [_]) Tryz.func101 Tryz.ntmps101 rfl rfl (HS.refl w []) ?_
  refine s_seq ?_
  refine s_region ?_
  refine o_p (p_pure rfl) rfl ?_
  refine o_nil ?_
  refine s_seq ?_
  refine s_seq ?_
  refine s_region ?_
  refine o_p (p_pure rfl) rfl ?_
  refine o_p (p_len_slice rfl rfl Tryz.underlying122) rfl ?_
  refine o_p (p_pure rfl) rfl ?_
  refine o_nil ?_
  refine s_block ?_
  refine s_loopI (α := Nat) [2, 4, 7, 8, 9, 10, 11, 12, 13, 14] (fun k => [(7, .int .i64 (k : Int))]) (fun _ => _) (fun k => k ≤ es.length ∧ firstI es = firstI (es.drop k)) (fun k => es.length - k) 0 ⟨by omega, rfl⟩ aSx (fun w h => h) (fun k hk => ?_)
  obtain ⟨hk1, hk2⟩ := hk
  refine s_seq ?_
  refine s_region ?_
  refine o_p (p_pure rfl) rfl ?_
  refine o_nil ?_
  refine s_seq ?_
  refine s_cond rfl (fun h1 => ?_) (fun h1 => ?_)
  · try simp only [decide_eq_true_eq, decide_eq_false_iff_not, Bool.not_eq_true', Bool.not_eq_false', Bool.and_eq_true, Bool.or_eq_true, Bool.and_eq_false_iff, Bool.or_eq_false_iff, Bool.not_true, Bool.not_false] at h1
    refine s_skip ?_
    refine s_seq ?_
    refine s_block ?_
    refine s_seq ?_
    refine s_region ?_
    refine o_p (p_indexAddr rfl rfl rfl sl_122 _ rfl (by omega) (hs.some (by omega))) rfl ?_
    refine o_q (q_load_old rfl rfl sz_27 (hs.rd (i := k) (j := 0) (by omega) rfl)) rfl ?_
    refine o_p (p_pure rfl) rfl ?_
    refine o_nil ?_
    refine s_seq ?_
    refine s_region ?_
    refine o_p (p_pure rfl) rfl ?_
    refine o_p (p_pure rfl) rfl ?_
    refine o_nil ?_
    refine s_cond rfl (fun h2 => ?_) (fun h2 => ?_)
    · try simp only [decide_eq_true_eq, decide_eq_false_iff_not, Bool.not_eq_true', Bool.not_eq_false', Bool.and_eq_true, Bool.or_eq_true, Bool.and_eq_false_iff, Bool.or_eq_false_iff, Bool.not_true, Bool.not_false] at h2
      refine s_seq ?_
      refine s_region ?_
      refine o_p (p_pure rfl) rfl ?_
      refine o_p (p_pure rfl) rfl ?_
      refine o_nil ?_
      exact s_retv (rs := [.tmp 2]) rfl (.tmp rfl (.nil)) (fun w' h' => ⟨by simp only [retV]; rw [hk2, firstI_drop (by omega), if_neg (by assumption)], h'.below⟩)
    · try simp only [decide_eq_true_eq, decide_eq_false_iff_not, Bool.not_eq_true', Bool.not_eq_false', Bool.and_eq_true, Bool.or_eq_true, Bool.and_eq_false_iff, Bool.or_eq_false_iff, Bool.not_true, Bool.not_false] at h2
      refine s_skip ?_
      refine s_blk ?_
      refine s_region ?_
      refine o_p (p_pure rfl) rfl ?_
      try (refine o_slot (i64w (by omega) (by omega)) ?_)
      refine o_p (p_pure rfl) rfl ?_
      refine o_nil ?_
      exact s_backI (k+1) (by omega) ⟨by omega, by rw [hk2, firstI_drop (by omega), if_pos (by assumption)]⟩ aSx (fun w h => h)
  · try simp only [decide_eq_true_eq, decide_eq_false_iff_not, Bool.not_eq_true', Bool.not_eq_false', Bool.and_eq_true, Bool.or_eq_true, Bool.and_eq_false_iff, Bool.or_eq_false_iff, Bool.not_true, Bool.not_false] at h1
    refine s_exit_to rfl ?_
    refine s_seq ?_
    refine s_region ?_
    refine o_p (p_pure rfl) rfl ?_
    refine o_nil ?_
    exact s_retv (rs := [.tmp 2]) rfl (.tmp rfl (.nil)) (fun w' h' => ⟨by simp only [retV]; rw [hk2, firstI_end (by omega)], h'.below⟩)

theorem f101 {w0 w : World} {M : List Nat} {As As' : List HA} {b cap n : Nat} {t : TypeId} {tot : Nat} {cs : List Value} (h : HS w0 M As w) (hp : Pick As (.blk b t tot cs) As') (hc : cs.all isI64 = true) (hn : cs.length = n) (hl : n ≤ 1000) :
    Calls Tryz.prog 101 #[.slice (some ⟨b, 0, none⟩) n cap] w fun en w' => en = .returned (.int .i64 (firstV cs)) ∧ Below w.heap.size w w' := by
  subst hn
  have := c101 w (some ⟨b, 0, none⟩) cap (cs.map Go.RowKit.intOf) (by simpa using h.sl_ints hp hc) (by simpa using hl)
  rw [firstV_eq hc] at this
  simpa using this

set_option maxRecDepth 20000 in
theorem c49 (w : World) (a : Option Addr) (cap : Nat) (es : List Int) (hs : Sl w [] a 1 es.length (fun i => [.int .i64 (es.getD i 0)])) (hm : es.length ≤ 1000) : Calls Tryz.prog 49 #[.slice a es.length cap] w fun en w' => en = .returned (.int .i64 (firstI es)) ∧ Below w.heap.size w w' := by
  refine enter (args := [_]) Tryz.func49 Tryz.ntmps49 rfl rfl (HS.refl w []) ?_
  refine s_seq ?_
  refine s_region ?_
  refine o_p (p_pure rfl) rfl ?_
  refine o_nil ?_
  refine s_seq ?_
  refine s_seq ?_
  refine s_region ?_
  refine o_p (p_pure rfl) rfl ?_
  refine o_p (p_len_slice rfl rfl Tryz.underlying122) rfl ?_
  refine o_p (p_pure rfl) rfl ?_
  refine o_nil ?_
  refine s_block ?_
  refine s_loopI (α := Nat) [2, 4, 7, 8, 9, 10, 11, 12, 13, 14] (fun k => [(7, .int .i64 (k : Int))]) (fun _ => _) (fun k => k ≤ es.length ∧ firstI es = firstI (es.drop k)) (fun k => es.length - k) 0 ⟨by omega, rfl⟩ aSx (fun w h => h) (fun k hk => ?_)
  obtain ⟨hk1, hk2⟩ := hk
  refine s_seq ?_
  refine s_region ?_
  refine o_p (p_pure rfl) rfl ?_
  refine o_nil ?_
  refine s_seq ?_
  refine s_cond rfl (fun h1 => ?_) (fun h1 => ?_)
  · try simp only [decide_eq_true_eq, decide_eq_false_iff_not, Bool.not_eq_true', Bool.not_eq_false', Bool.and_eq_true, Bool.or_eq_true, Bool.and_eq_false_iff, Bool.or_eq_false_iff, Bool.not_true, Bool.not_false] at h1
    refine s_skip ?_
    refine s_seq ?_
    refine s_block ?_
    refine s_seq ?_
    refine s_region ?_
    refine o_p (p_indexAddr rfl rfl rfl sl_122 _ rfl (by omega) (hs.some (by omega))) rfl ?_
    refine o_q (q_load_old rfl rfl sz_27 (hs.rd (i := k) (j := 0) (by omega) rfl)) rfl ?_
    refine o_p (p_pure rfl) rfl ?_
    refine o_nil ?_
    refine s_seq ?_
    refine s_region ?_
    refine o_p (p_pure rfl) rfl ?_
    refine o_p (p_pure rfl) rfl ?_
    refine o_nil ?_
    refine s_cond rfl (fun h2 => ?_) (fun h2 => ?_)
    · try simp only [decide_eq_true_eq, decide_eq_false_iff_not, Bool.not_eq_true', Bool.not_eq_false', Bool.and_eq_true, Bool.or_eq_true, Bool.and_eq_false_iff, Bool.or_eq_false_iff, Bool.not_true, Bool.not_false] at h2
      refine s_seq ?_
      refine s_region ?_
      refine o_p (p_pure rfl) rfl ?_
      refine o_p (p_pure rfl) rfl ?_
      refine o_nil ?_
      exact s_retv (rs := [.tmp 2]) rfl (.tmp rfl (.nil)) (fun w' h' => ⟨by simp only [retV]; rw [hk2, firstI_drop (by omega), if_neg (by assumption)], h'.below⟩)
    · try simp only [decide_eq_true_eq, decide_eq_false_iff_not, Bool.not_eq_true', Bool.not_eq_false', Bool.and_eq_true, Bool.or_eq_true, Bool.and_eq_false_iff, Bool.or_eq_false_iff, Bool.not_true, Bool.not_false] at h2
      refine s_skip ?_
      refine s_blk ?_
      refine s_region ?_
      refine o_p (p_pure rfl) rfl ?_
      try (refine o_slot (i64w (by omega) (by omega)) ?_)
      refine o_p (p_pure rfl) rfl ?_
      refine o_nil ?_
      exact s_backI (k+1) (by omega) ⟨by omega, by rw [hk2, firstI_drop (by omega), if_pos (by assumption)]⟩ aSx (fun w h => h)
  · try simp only [decide_eq_true_eq, decide_eq_false_iff_not, Bool.not_eq_true', Bool.not_eq_false', Bool.and_eq_true, Bool.or_eq_true, Bool.and_eq_false_iff, Bool.or_eq_false_iff, Bool.not_true, Bool.not_false] at h1
    refine s_exit_to rfl ?_
    refine s_seq ?_
    refine s_region ?_
    refine o_p (p_pure rfl) rfl ?_
    refine o_nil ?_
    exact s_retv (rs := [.tmp 2]) rfl (.tmp rfl (.nil)) (fun w' h' => ⟨by simp only [retV]; rw [hk2, firstI_end (by omega)], h'.below⟩)

theorem f49 {w0 w : World} {M : List Nat} {As As' : List HA} {b cap n : Nat} {t : TypeId} {tot : Nat} {cs : List Value} (h : HS w0 M As w) (hp : Pick As (.blk b t tot cs) As') (hc : cs.all isI64 = true) (hn : cs.length = n) (hl : n ≤ 1000) :
    Calls Tryz.prog 49 #[.slice (some ⟨b, 0, none⟩) n cap] w fun en w' => en = .returned (.int .i64 (firstV cs)) ∧ Below w.heap.size w w' := by
  subst hn
  have := c49 w (some ⟨b, 0, none⟩) cap (cs.map Go.RowKit.intOf) (by simpa using h.sl_ints hp hc) (by simpa using hl)
  rw [firstV_eq hc] at this
  simpa using this

set_option maxRecDepth 20000 in
theorem c140 (w : World) (n : Int) : Calls Tryz.prog 140 #[.int .i64 n] w fun en w' => en = .returned (.bool (isWho n)) ∧ Below w.heap.size w w' := by
  refine enter (args := [_]) Tryz.func140 Tryz.ntmps140 rfl rfl (HS.refl w []) ?_
  refine s_seq ?_
  refine s_region ?_
  refine o_p (p_pure rfl) rfl ?_
  refine o_nil ?_
  refine s_seq ?_
  refine s_region ?_
  refine o_p (p_pure rfl) rfl ?_
  refine o_q (q_call rfl fn_139 rfl (fun w1 h1 => c139 w1 _ _ _)) rfl ?_
  refine o_p (p_pure rfl) rfl ?_
  refine o_or 3 5 8 _ _ rfl
    (by
      intro hg1
      have hs2 := hg1; try simp only [decide_eq_true_eq, decide_eq_false_iff_not, Bool.not_eq_true', Bool.not_eq_false', Bool.and_eq_true, Bool.or_eq_true, Bool.and_eq_false_iff, Bool.or_eq_false_iff, Bool.not_true, Bool.not_false] at hs2
      refine o_on 5 _ rfl rfl hg1 ?_
      refine o_p (p_pure rfl) rfl ?_
      refine o_on 5 _ rfl rfl hg1 ?_
      refine o_q (q_call rfl fn_139 rfl (fun w1 h1 => c139 w1 _ _ _)) rfl ?_
      refine o_p (p_pickf rfl rfl hg1 rfl) rfl ?_
      refine o_nil ?_
      exact s_joinN 3 8 _ rfl rfl rfl (fun w h => by first | exact h | exact h.ent aEt))
    (by
      intro hg3
      have hs4 := hg3; try simp only [decide_eq_true_eq, decide_eq_false_iff_not, Bool.not_eq_true', Bool.not_eq_false', Bool.and_eq_true, Bool.or_eq_true, Bool.and_eq_false_iff, Bool.or_eq_false_iff, Bool.not_true, Bool.not_false] at hs4
      refine o_off 5 _ rfl rfl hg3 rfl ?_
      refine o_off 5 _ rfl rfl hg3 rfl ?_
      refine o_p (p_pickt rfl rfl hg3 rfl) rfl ?_
      refine o_nil ?_
      exact s_joinN 3 8 _ rfl rfl rfl (fun w h => by first | exact h | exact h.ent aEt)) ?_
  refine o_p (p_pure rfl) rfl ?_
  refine o_nil ?_
  exact s_retv (rs := [.tmp 2]) rfl (.tmp rfl (.nil)) (fun w' h' => ⟨by rfl, h'.below⟩)

set_option maxRecDepth 20000 in
theorem c143 (w : World) (n : Int) : Calls Tryz.prog 143 #[.int .i64 n] w fun en w' => en = .returned (.bool ((decide (n = 2) || decide (n = 3)))) ∧ Below w.heap.size w w' := by
  refine enter (args := [_]) Tryz.func143 Tryz.ntmps143 rfl rfl (HS.refl w []) ?_
  refine s_seq ?_
  refine s_region ?_
  refine o_p (p_pure rfl) rfl ?_
  refine o_nil ?_
  refine s_seq ?_
  refine s_region ?_
  refine o_p (p_pure rfl) rfl ?_
  refine o_p (p_pure rfl) rfl ?_
  refine o_p (p_pure rfl) rfl ?_
  refine o_or 3 5 8 _ _ rfl
    (by
      intro hg1
      have hs2 := hg1; try simp only [decide_eq_true_eq, decide_eq_false_iff_not, Bool.not_eq_true', Bool.not_eq_false', Bool.and_eq_true, Bool.or_eq_true, Bool.and_eq_false_iff, Bool.or_eq_false_iff, Bool.not_true, Bool.not_false] at hs2
      refine o_on 5 _ rfl rfl hg1 ?_
      refine o_p (p_pure rfl) rfl ?_
      refine o_on 5 _ rfl rfl hg1 ?_
      refine o_p (p_pure rfl) rfl ?_
      refine o_p (p_pickf rfl rfl hg1 rfl) rfl ?_
      refine o_nil ?_
      exact s_joinN 3 8 _ rfl rfl rfl (fun w h => by first | exact h | exact h.ent aEt))
    (by
      intro hg3
      have hs4 := hg3; try simp only [decide_eq_true_eq, decide_eq_false_iff_not, Bool.not_eq_true', Bool.not_eq_false', Bool.and_eq_true, Bool.or_eq_true, Bool.and_eq_false_iff, Bool.or_eq_false_iff, Bool.not_true, Bool.not_false] at hs4
      refine o_off 5 _ rfl rfl hg3 rfl ?_
      refine o_off 5 _ rfl rfl hg3 rfl ?_
      refine o_p (p_pickt rfl rfl hg3 rfl) rfl ?_
      refine o_nil ?_
      exact s_joinN 3 8 _ rfl rfl rfl (fun w h => by first | exact h | exact h.ent aEt)) ?_
  refine o_p (p_pure rfl) rfl ?_
  refine o_nil ?_
  exact s_retv (rs := [.tmp 2]) rfl (.tmp rfl (.nil)) (fun w' h' => ⟨by rfl, h'.below⟩)

set_option maxRecDepth 20000 in
theorem c138 (w : World) (n : Int) : Calls Tryz.prog 138 #[.int .i64 n] w fun en w' => en = .returned (.bool (isHold n)) ∧ Below w.heap.size w w' := by
  refine enter (args := [_]) Tryz.func138 Tryz.ntmps138 rfl rfl (HS.refl w []) ?_
  refine s_seq ?_
  refine s_region ?_
  refine o_p (p_pure rfl) rfl ?_
  refine o_nil ?_
  refine s_seq ?_
  refine s_region ?_
  refine o_p (p_pure rfl) rfl ?_
  refine o_q (q_call rfl fn_140 rfl (fun w1 h1 => c140 w1 _)) rfl ?_
  refine o_p (p_pure rfl) rfl ?_
  refine o_and 4 5 9 _ _ rfl
    (by
      intro hg1
      have hs2 := hg1; try simp only [decide_eq_true_eq, decide_eq_false_iff_not, Bool.not_eq_true', Bool.not_eq_false', Bool.and_eq_true, Bool.or_eq_true, Bool.and_eq_false_iff, Bool.or_eq_false_iff, Bool.not_true, Bool.not_false] at hs2
      refine o_on 5 _ rfl rfl hg1 ?_
      refine o_p (p_pure rfl) rfl ?_
      refine o_on 5 _ rfl rfl hg1 ?_
      refine o_q (q_call rfl fn_143 rfl (fun w1 h1 => c143 w1 _)) rfl ?_
      refine o_on 5 _ rfl rfl hg1 ?_
      refine o_p (p_pure rfl) rfl ?_
      refine o_p (p_pickt rfl rfl hg1 rfl) rfl ?_
      refine o_nil ?_
      exact s_joinN 4 9 _ rfl rfl rfl (fun w h => by first | exact h | exact h.ent aEt))
    (by
      intro hg3
      have hs4 := hg3; try simp only [decide_eq_true_eq, decide_eq_false_iff_not, Bool.not_eq_true', Bool.not_eq_false', Bool.and_eq_true, Bool.or_eq_true, Bool.and_eq_false_iff, Bool.or_eq_false_iff, Bool.not_true, Bool.not_false] at hs4
      refine o_off 5 _ rfl rfl hg3 rfl ?_
      refine o_off 5 _ rfl rfl hg3 rfl ?_
      refine o_off 5 _ rfl rfl hg3 rfl ?_
      refine o_p (p_pickf rfl rfl hg3 rfl) rfl ?_
      refine o_nil ?_
      exact s_joinN 4 9 _ rfl rfl rfl (fun w h => by first | exact h | exact h.ent aEt)) ?_
  refine o_p (p_pure rfl) rfl ?_
  refine o_and 3 10 13 _ _ rfl
    (by
      intro hg5
      have hs6 := hg5; try simp only [decide_eq_true_eq, decide_eq_false_iff_not, Bool.not_eq_true', Bool.not_eq_false', Bool.and_eq_true, Bool.or_eq_true, Bool.and_eq_false_iff, Bool.or_eq_false_iff, Bool.not_true, Bool.not_false] at hs6
      refine o_on 10 _ rfl rfl hg5 ?_
      refine o_p (p_pure rfl) rfl ?_
      refine o_on 10 _ rfl rfl hg5 ?_
      refine o_p (p_pure rfl) rfl ?_
      refine o_p (p_pickt rfl rfl hg5 rfl) rfl ?_
      refine o_nil ?_
      exact s_joinN 3 13 _ rfl rfl rfl (fun w h => by first | exact h | exact h.ent aEt))
    (by
      intro hg7
      have hs8 := hg7; try simp only [decide_eq_true_eq, decide_eq_false_iff_not, Bool.not_eq_true', Bool.not_eq_false', Bool.and_eq_true, Bool.or_eq_true, Bool.and_eq_false_iff, Bool.or_eq_false_iff, Bool.not_true, Bool.not_false] at hs8
      refine o_off 10 _ rfl rfl hg7 rfl ?_
      refine o_off 10 _ rfl rfl hg7 rfl ?_
      refine o_p (p_pickf rfl rfl hg7 rfl) rfl ?_
      refine o_nil ?_
      exact s_joinN 3 13 _ rfl rfl rfl (fun w h => by first | exact h | exact h.ent aEt)) ?_
  refine o_p (p_pure rfl) rfl ?_
  refine o_nil ?_
  exact s_retv (rs := [.tmp 2]) rfl (.tmp rfl (.nil)) (fun w' h' => ⟨by rfl, h'.below⟩)

set_option maxRecDepth 20000 in
theorem c127 (w : World) (o p : Int) : Calls Tryz.prog 127 #[.int .i64 o, .int .i64 p] w fun en w' => en = .returned (.int .i64 (pairE o p)) ∧ Below w.heap.size w w' := by
  refine enter (args := [_, _]) Tryz.func127 Tryz.ntmps127 rfl rfl (HS.refl w []) ?_
  refine s_seq ?_
  refine s_region ?_
  refine o_p (p_pure rfl) rfl ?_
  refine o_nil ?_
  refine s_seq ?_
  refine s_region ?_
  refine o_p (p_pure rfl) rfl ?_
  refine o_q (q_call rfl fn_138 rfl (fun w1 h1 => c138 w1 _)) rfl ?_
  refine o_p (p_pure rfl) rfl ?_
  refine o_and 3 7 10 _ _ rfl
    (by
      intro hg1
      have hs2 := hg1; try simp only [decide_eq_true_eq, decide_eq_false_iff_not, Bool.not_eq_true', Bool.not_eq_false', Bool.and_eq_true, Bool.or_eq_true, Bool.and_eq_false_iff, Bool.or_eq_false_iff, Bool.not_true, Bool.not_false] at hs2
      refine o_on 7 _ rfl rfl hg1 ?_
      refine o_p (p_pure rfl) rfl ?_
      refine o_on 7 _ rfl rfl hg1 ?_
      refine o_q (q_call rfl fn_138 rfl (fun w1 h1 => c138 w1 _)) rfl ?_
      refine o_p (p_pickt rfl rfl hg1 rfl) rfl ?_
      refine o_nil ?_
      exact s_joinN 3 10 _ rfl rfl rfl (fun w h => by first | exact h | exact h.ent aEt))
    (by
      intro hg3
      have hs4 := hg3; try simp only [decide_eq_true_eq, decide_eq_false_iff_not, Bool.not_eq_true', Bool.not_eq_false', Bool.and_eq_true, Bool.or_eq_true, Bool.and_eq_false_iff, Bool.or_eq_false_iff, Bool.not_true, Bool.not_false] at hs4
      refine o_off 7 _ rfl rfl hg3 rfl ?_
      refine o_off 7 _ rfl rfl hg3 rfl ?_
      refine o_p (p_pickf rfl rfl hg3 rfl) rfl ?_
      refine o_nil ?_
      exact s_joinN 3 10 _ rfl rfl rfl (fun w h => by first | exact h | exact h.ent aEt)) ?_
  refine o_q (q_call rfl fn_102 rfl (fun w1 h1 => c102 w1 _ _)) rfl ?_
  refine o_p (p_pure rfl) rfl ?_
  refine o_nil ?_
  exact s_retv (rs := [.tmp 4]) rfl (.tmp rfl (.nil)) (fun w' h' => ⟨by simp only [retV, pairE, cond_eq_ite], h'.below⟩)

theorem firstW2 {a b : Int} : firstV [.int .i64 a, .int .i64 b] = if a = 0 then b else a := by
  simp only [firstV]
  grind

set_option maxRecDepth 20000 in
theorem c130 (w : World) (a : Ace) : Calls Tryz.prog 130 #[.agg #[.int .i64 a.kd, .int .i64 a.fl, .int .i64 a.ms, .int .i64 a.wh]] w fun en w' => en = .returned (.int .i64 (aceE a)) ∧ Below w.heap.size w w' := by
  refine enter (args := [_]) Tryz.func130 Tryz.ntmps130 rfl rfl (HS.refl w []) ?_
  refine s_seq ?_
  refine s_region ?_
  refine o_h (h_box rfl rfl) rfl (fun b1 _ => ?_)
  refine o_p (p_pure rfl) rfl ?_
  refine o_nil ?_
  refine s_seq ?_
  refine s_region ?_
  refine o_p (p_fieldAddr rfl rfl fd_85_1 sz_3 rfl) rfl ?_
  refine o_q (q_load rfl rfl sz_3 aPk rfl) rfl ?_
  refine o_q (q_call rfl fn_139 rfl (fun w1 h1 => c139 w1 _ _ _)) rfl ?_
  refine o_p (p_pure rfl) rfl ?_
  refine o_and 4 7 11 _ _ rfl
    (by
      intro hg2
      have hs3 := hg2; try simp only [decide_eq_true_eq, decide_eq_false_iff_not, Bool.not_eq_true', Bool.not_eq_false', Bool.and_eq_true, Bool.or_eq_true, Bool.and_eq_false_iff, Bool.or_eq_false_iff, Bool.not_true, Bool.not_false] at hs3
      refine o_on 7 _ rfl rfl hg2 ?_
      refine o_p (p_fieldAddr rfl rfl fd_85_2 sz_3 rfl) rfl ?_
      refine o_on 7 _ rfl rfl hg2 ?_
      refine o_q (q_load rfl rfl sz_3 aPk rfl) rfl ?_
      refine o_on 7 _ rfl rfl hg2 ?_
      refine o_q (q_call rfl fn_139 rfl (fun w1 h1 => c139 w1 _ _ _)) rfl ?_
      refine o_p (p_pickt rfl rfl hg2 rfl) rfl ?_
      refine o_nil ?_
      exact s_joinN 4 11 _ rfl rfl rfl (fun w h => by first | exact h | exact h.ent aEt))
    (by
      intro hg4
      have hs5 := hg4; try simp only [decide_eq_true_eq, decide_eq_false_iff_not, Bool.not_eq_true', Bool.not_eq_false', Bool.and_eq_true, Bool.or_eq_true, Bool.and_eq_false_iff, Bool.or_eq_false_iff, Bool.not_true, Bool.not_false] at hs5
      refine o_off 7 _ rfl rfl hg4 rfl ?_
      refine o_off 7 _ rfl rfl hg4 rfl ?_
      refine o_off 7 _ rfl rfl hg4 rfl ?_
      refine o_p (p_pickf rfl rfl hg4 rfl) rfl ?_
      refine o_nil ?_
      exact s_joinN 4 11 _ rfl rfl rfl (fun w h => by first | exact h | exact h.ent aEt)) ?_
  refine o_p (p_pure rfl) rfl ?_
  refine o_and 4 12 16 _ _ rfl
    (by
      intro hg6
      have hs7 := hg6; try simp only [decide_eq_true_eq, decide_eq_false_iff_not, Bool.not_eq_true', Bool.not_eq_false', Bool.and_eq_true, Bool.or_eq_true, Bool.and_eq_false_iff, Bool.or_eq_false_iff, Bool.not_true, Bool.not_false] at hs7
      refine o_on 12 _ rfl rfl hg6 ?_
      refine o_p (p_fieldAddr rfl rfl fd_85_3 sz_3 rfl) rfl ?_
      refine o_on 12 _ rfl rfl hg6 ?_
      refine o_q (q_load rfl rfl sz_3 aPk rfl) rfl ?_
      refine o_on 12 _ rfl rfl hg6 ?_
      refine o_q (q_call rfl fn_140 rfl (fun w1 h1 => c140 w1 _)) rfl ?_
      refine o_p (p_pickt rfl rfl hg6 rfl) rfl ?_
      refine o_nil ?_
      exact s_joinN 4 16 _ rfl rfl rfl (fun w h => by first | exact h | exact h.ent aEt))
    (by
      intro hg8
      have hs9 := hg8; try simp only [decide_eq_true_eq, decide_eq_false_iff_not, Bool.not_eq_true', Bool.not_eq_false', Bool.and_eq_true, Bool.or_eq_true, Bool.and_eq_false_iff, Bool.or_eq_false_iff, Bool.not_true, Bool.not_false] at hs9
      refine o_off 12 _ rfl rfl hg8 rfl ?_
      refine o_off 12 _ rfl rfl hg8 rfl ?_
      refine o_off 12 _ rfl rfl hg8 rfl ?_
      refine o_p (p_pickf rfl rfl hg8 rfl) rfl ?_
      refine o_nil ?_
      exact s_joinN 4 16 _ rfl rfl rfl (fun w h => by first | exact h | exact h.ent aEt)) ?_
  refine o_p (p_pure rfl) rfl ?_
  refine o_nil ?_
  refine s_seq ?_
  refine s_region ?_
  refine o_p (p_fieldAddr rfl rfl fd_85_0 sz_3 rfl) rfl ?_
  refine o_q (q_load rfl rfl sz_3 aPk rfl) rfl ?_
  refine o_q (q_call rfl fn_139 rfl (fun w1 h1 => c139 w1 _ _ _)) rfl ?_
  refine o_q (q_call rfl fn_102 rfl (fun w1 h1 => c102 w1 _ _)) rfl ?_
  refine o_p (p_pure rfl) rfl ?_
  refine o_q (q_call rfl fn_102 rfl (fun w1 h1 => c102 w1 _ _)) rfl ?_
  refine o_h (h_buildSlice (cs := [_, _]) rfl rfl sl_122 zr_27 rfl rfl rfl) rfl (fun b10 _ => ?_)
  refine o_q (q_call rfl fn_101 rfl (fun w1 h1 => f101 h1 aPk (by rfl) (by rfl) (by decide))) rfl ?_
  refine o_p (p_pure rfl) rfl ?_
  refine o_nil ?_
  exact s_retv (rs := [.tmp 2]) rfl (.tmp rfl (.nil)) (fun w' h' => ⟨by simp only [retV]; rw [firstW2]; unfold aceE; simp only [cond_eq_ite, Bool.and_eq_true, decide_eq_true_eq]; grind, h'.below⟩)

set_option maxRecDepth 20000 in
theorem c142 (w : World) (n : Int) : Calls Tryz.prog 142 #[.int .i64 n] w fun en w' => en = .returned (.bool (decide (10 ≤ n) && decide (n ≤ 999))) ∧ Below w.heap.size w w' := by
  refine enter (args := [_]) Tryz.func142 Tryz.ntmps142 rfl rfl (HS.refl w []) ?_
  refine s_seq ?_
  refine s_region ?_
  refine o_p (p_pure rfl) rfl ?_
  refine o_nil ?_
  refine s_seq ?_
  refine s_region ?_
  refine o_p (p_pure rfl) rfl ?_
  refine o_q (q_call rfl fn_16 rfl (fun w1 h1 => c16 w1 _ _ _)) rfl ?_
  refine o_p (p_pure rfl) rfl ?_
  refine o_nil ?_
  exact s_retv (rs := [.tmp 2]) rfl (.tmp rfl (.nil)) (fun w' h' => ⟨rfl, h'.below⟩)

set_option maxRecDepth 20000 in
theorem c137 (w : World) (n : Int) : Calls Tryz.prog 137 #[.int .i64 n] w fun en w' => en = .returned (.bool (isWho n)) ∧ Below w.heap.size w w' := by
  refine enter (args := [_]) Tryz.func137 Tryz.ntmps137 rfl rfl (HS.refl w []) ?_
  refine s_seq ?_
  refine s_region ?_
  refine o_p (p_pure rfl) rfl ?_
  refine o_nil ?_
  refine s_seq ?_
  refine s_region ?_
  refine o_p (p_pure rfl) rfl ?_
  refine o_q (q_call rfl fn_16 rfl (fun w1 h1 => c16 w1 _ _ _)) rfl ?_
  refine o_p (p_pure rfl) rfl ?_
  refine o_or 3 5 8 _ _ rfl
    (by
      intro hg1
      have hs2 := hg1; try simp only [decide_eq_true_eq, decide_eq_false_iff_not, Bool.not_eq_true', Bool.not_eq_false', Bool.and_eq_true, Bool.or_eq_true, Bool.and_eq_false_iff, Bool.or_eq_false_iff, Bool.not_true, Bool.not_false] at hs2
      refine o_on 5 _ rfl rfl hg1 ?_
      refine o_p (p_pure rfl) rfl ?_
      refine o_on 5 _ rfl rfl hg1 ?_
      refine o_q (q_call rfl fn_142 rfl (fun w1 h1 => c142 w1 _)) rfl ?_
      refine o_p (p_pickf rfl rfl hg1 rfl) rfl ?_
      refine o_nil ?_
      exact s_joinN 3 8 _ rfl rfl rfl (fun w h => by first | exact h | exact h.ent aEt))
    (by
      intro hg3
      have hs4 := hg3; try simp only [decide_eq_true_eq, decide_eq_false_iff_not, Bool.not_eq_true', Bool.not_eq_false', Bool.and_eq_true, Bool.or_eq_true, Bool.and_eq_false_iff, Bool.or_eq_false_iff, Bool.not_true, Bool.not_false] at hs4
      refine o_off 5 _ rfl rfl hg3 rfl ?_
      refine o_off 5 _ rfl rfl hg3 rfl ?_
      refine o_p (p_pickt rfl rfl hg3 rfl) rfl ?_
      refine o_nil ?_
      exact s_joinN 3 8 _ rfl rfl rfl (fun w h => by first | exact h | exact h.ent aEt)) ?_
  refine o_p (p_pure rfl) rfl ?_
  refine o_nil ?_
  exact s_retv (rs := [.tmp 2]) rfl (.tmp rfl (.nil)) (fun w' h' => ⟨by rfl, h'.below⟩)

set_option maxRecDepth 20000 in
theorem c136 (w : World) (n : Int) : Calls Tryz.prog 136 #[.int .i64 n] w fun en w' => en = .returned (.bool (isHold n)) ∧ Below w.heap.size w w' := by
  refine enter (args := [_]) Tryz.func136 Tryz.ntmps136 rfl rfl (HS.refl w []) ?_
  refine s_seq ?_
  refine s_region ?_
  refine o_p (p_pure rfl) rfl ?_
  refine o_nil ?_
  refine s_seq ?_
  refine s_region ?_
  refine o_p (p_pure rfl) rfl ?_
  refine o_q (q_call rfl fn_142 rfl (fun w1 h1 => c142 w1 _)) rfl ?_
  refine o_p (p_pure rfl) rfl ?_
  refine o_or 3 5 8 _ _ rfl
    (by
      intro hg1
      have hs2 := hg1; try simp only [decide_eq_true_eq, decide_eq_false_iff_not, Bool.not_eq_true', Bool.not_eq_false', Bool.and_eq_true, Bool.or_eq_true, Bool.and_eq_false_iff, Bool.or_eq_false_iff, Bool.not_true, Bool.not_false] at hs2
      refine o_on 5 _ rfl rfl hg1 ?_
      refine o_p (p_pure rfl) rfl ?_
      refine o_on 5 _ rfl rfl hg1 ?_
      refine o_p (p_pure rfl) rfl ?_
      refine o_p (p_pickf rfl rfl hg1 rfl) rfl ?_
      refine o_nil ?_
      exact s_joinN 3 8 _ rfl rfl rfl (fun w h => by first | exact h | exact h.ent aEt))
    (by
      intro hg3
      have hs4 := hg3; try simp only [decide_eq_true_eq, decide_eq_false_iff_not, Bool.not_eq_true', Bool.not_eq_false', Bool.and_eq_true, Bool.or_eq_true, Bool.and_eq_false_iff, Bool.or_eq_false_iff, Bool.not_true, Bool.not_false] at hs4
      refine o_off 5 _ rfl rfl hg3 rfl ?_
      refine o_off 5 _ rfl rfl hg3 rfl ?_
      refine o_p (p_pickt rfl rfl hg3 rfl) rfl ?_
      refine o_nil ?_
      exact s_joinN 3 8 _ rfl rfl rfl (fun w h => by first | exact h | exact h.ent aEt)) ?_
  refine o_p (p_pure rfl) rfl ?_
  refine o_or 3 9 12 _ _ rfl
    (by
      intro hg5
      have hs6 := hg5; try simp only [decide_eq_true_eq, decide_eq_false_iff_not, Bool.not_eq_true', Bool.not_eq_false', Bool.and_eq_true, Bool.or_eq_true, Bool.and_eq_false_iff, Bool.or_eq_false_iff, Bool.not_true, Bool.not_false] at hs6
      refine o_on 9 _ rfl rfl hg5 ?_
      refine o_p (p_pure rfl) rfl ?_
      refine o_on 9 _ rfl rfl hg5 ?_
      refine o_p (p_pure rfl) rfl ?_
      refine o_p (p_pickf rfl rfl hg5 rfl) rfl ?_
      refine o_nil ?_
      exact s_joinN 3 12 _ rfl rfl rfl (fun w h => by first | exact h | exact h.ent aEt))
    (by
      intro hg7
      have hs8 := hg7; try simp only [decide_eq_true_eq, decide_eq_false_iff_not, Bool.not_eq_true', Bool.not_eq_false', Bool.and_eq_true, Bool.or_eq_true, Bool.and_eq_false_iff, Bool.or_eq_false_iff, Bool.not_true, Bool.not_false] at hs8
      refine o_off 9 _ rfl rfl hg7 rfl ?_
      refine o_off 9 _ rfl rfl hg7 rfl ?_
      refine o_p (p_pickt rfl rfl hg7 rfl) rfl ?_
      refine o_nil ?_
      exact s_joinN 3 12 _ rfl rfl rfl (fun w h => by first | exact h | exact h.ent aEt)) ?_
  refine o_p (p_pure rfl) rfl ?_
  refine o_nil ?_
  exact s_retv (rs := [.tmp 2]) rfl (.tmp rfl (.nil)) (fun w' h' => ⟨by simp only [retV, isHold, isWho]; refine congrArg (fun b => Ending.returned (Value.bool b)) ?_; rw [Bool.eq_iff_iff]; simp; omega, h'.below⟩)

set_option maxRecDepth 20000 in
theorem c125 (w : World) (o p : Int) : Calls Tryz.prog 125 #[.int .i64 o, .int .i64 p] w fun en w' => en = .returned (.int .i64 (pairE o p)) ∧ Below w.heap.size w w' := by
  refine enter (args := [_, _]) Tryz.func125 Tryz.ntmps125 rfl rfl (HS.refl w []) ?_
  refine s_seq ?_
  refine s_region ?_
  refine o_p (p_pure rfl) rfl ?_
  refine o_nil ?_
  refine s_seq ?_
  refine s_seq ?_
  refine s_region ?_
  refine o_p (p_pure rfl) rfl ?_
  refine o_q (q_call rfl fn_136 rfl (fun w1 h1 => c136 w1 _)) rfl ?_
  refine o_p (p_pure rfl) rfl ?_
  refine o_p (p_pure rfl) rfl ?_
  refine o_or 4 8 12 _ _ rfl
    (by
      intro hg1
      have hs2 := hg1; try simp only [decide_eq_true_eq, decide_eq_false_iff_not, Bool.not_eq_true', Bool.not_eq_false', Bool.and_eq_true, Bool.or_eq_true, Bool.and_eq_false_iff, Bool.or_eq_false_iff, Bool.not_true, Bool.not_false] at hs2
      refine o_on 8 _ rfl rfl hg1 ?_
      refine o_p (p_pure rfl) rfl ?_
      refine o_on 8 _ rfl rfl hg1 ?_
      refine o_q (q_call rfl fn_136 rfl (fun w1 h1 => c136 w1 _)) rfl ?_
      refine o_on 8 _ rfl rfl hg1 ?_
      refine o_p (p_pure rfl) rfl ?_
      refine o_p (p_pickf rfl rfl hg1 rfl) rfl ?_
      refine o_nil ?_
      exact s_joinN 4 12 _ rfl rfl rfl (fun w h => by first | exact h | exact h.ent aEt))
    (by
      intro hg3
      have hs4 := hg3; try simp only [decide_eq_true_eq, decide_eq_false_iff_not, Bool.not_eq_true', Bool.not_eq_false', Bool.and_eq_true, Bool.or_eq_true, Bool.and_eq_false_iff, Bool.or_eq_false_iff, Bool.not_true, Bool.not_false] at hs4
      refine o_off 8 _ rfl rfl hg3 rfl ?_
      refine o_off 8 _ rfl rfl hg3 rfl ?_
      refine o_off 8 _ rfl rfl hg3 rfl ?_
      refine o_p (p_pickt rfl rfl hg3 rfl) rfl ?_
      refine o_nil ?_
      exact s_joinN 4 12 _ rfl rfl rfl (fun w h => by first | exact h | exact h.ent aEt)) ?_
  refine o_nil ?_
  refine s_cond rfl (fun h5 => ?_) (fun h5 => ?_)
  · try simp only [decide_eq_true_eq, decide_eq_false_iff_not, Bool.not_eq_true', Bool.not_eq_false', Bool.and_eq_true, Bool.or_eq_true, Bool.and_eq_false_iff, Bool.or_eq_false_iff, Bool.not_true, Bool.not_false] at h5
    have hz : pairE o p = 2 := by have hq := h5; unfold pairE; rw [if_neg (by simp; grind)]
    refine s_seq ?_
    refine s_region ?_
    refine o_p (p_pure rfl) rfl ?_
    refine o_nil ?_
    exact s_retv (rs := [.tmp 4]) rfl (.tmp rfl (.nil)) (fun w' h' => ⟨by rw [hz]; rfl, h'.below⟩)
  · try simp only [decide_eq_true_eq, decide_eq_false_iff_not, Bool.not_eq_true', Bool.not_eq_false', Bool.and_eq_true, Bool.or_eq_true, Bool.and_eq_false_iff, Bool.or_eq_false_iff, Bool.not_true, Bool.not_false] at h5
    have hz : pairE o p = 0 := by have hq := h5; unfold pairE; rw [if_pos (by simp; grind)]
    refine s_skip ?_
    refine s_seq ?_
    refine s_region ?_
    refine o_p (p_pure rfl) rfl ?_
    refine o_nil ?_
    exact s_retv (rs := [.tmp 4]) rfl (.tmp rfl (.nil)) (fun w' h' => ⟨by rw [hz]; rfl, h'.below⟩)

set_option maxRecDepth 20000 in
theorem c126 (w : World) (a : Ace) : Calls Tryz.prog 126 #[.agg #[.int .i64 a.kd, .int .i64 a.fl, .int .i64 a.ms, .int .i64 a.wh]] w fun en w' => en = .returned (.int .i64 (aceE a)) ∧ Below w.heap.size w w' := by
  refine enter (args := [_]) Tryz.func126 Tryz.ntmps126 rfl rfl (HS.refl w []) ?_
  refine s_seq ?_
  refine s_region ?_
  refine o_h (h_box rfl rfl) rfl (fun b1 _ => ?_)
  refine o_p (p_pure rfl) rfl ?_
  refine o_nil ?_
  refine s_seq ?_
  refine s_seq ?_
  refine s_region ?_
  refine o_p (p_fieldAddr rfl rfl fd_85_0 sz_3 rfl) rfl ?_
  refine o_q (q_load rfl rfl sz_3 aPk rfl) rfl ?_
  refine o_q (q_call rfl fn_16 rfl (fun w1 h1 => c16 w1 _ _ _)) rfl ?_
  refine o_p (p_pure rfl) rfl ?_
  refine o_nil ?_
  refine s_cond rfl (fun h2 => ?_) (fun h2 => ?_)
  · try simp only [decide_eq_true_eq, decide_eq_false_iff_not, Bool.not_eq_true', Bool.not_eq_false', Bool.and_eq_true, Bool.or_eq_true, Bool.and_eq_false_iff, Bool.or_eq_false_iff, Bool.not_true, Bool.not_false] at h2
    have hz : aceE a = 15 := by have hq := h2; unfold aceE; rw [if_neg (by omega)]
    refine s_seq ?_
    refine s_region ?_
    refine o_p (p_pure rfl) rfl ?_
    refine o_nil ?_
    exact s_retv (rs := [.tmp 2]) rfl (.tmp rfl (.nil)) (fun w' h' => ⟨by rw [hz]; rfl, h'.below⟩)
  · try simp only [decide_eq_true_eq, decide_eq_false_iff_not, Bool.not_eq_true', Bool.not_eq_false', Bool.and_eq_true, Bool.or_eq_true, Bool.and_eq_false_iff, Bool.or_eq_false_iff, Bool.not_true, Bool.not_false] at h2
    refine s_skip ?_
    refine s_seq ?_
    refine s_seq ?_
    refine s_region ?_
    refine o_p (p_fieldAddr rfl rfl fd_85_1 sz_3 rfl) rfl ?_
    refine o_q (q_load rfl rfl sz_3 aPk rfl) rfl ?_
    refine o_q (q_call rfl fn_16 rfl (fun w1 h1 => c16 w1 _ _ _)) rfl ?_
    refine o_p (p_pure rfl) rfl ?_
    refine o_p (p_pure rfl) rfl ?_
    refine o_or 5 11 16 _ _ rfl
      (by
        intro hg3
        have hs4 := hg3; try simp only [decide_eq_true_eq, decide_eq_false_iff_not, Bool.not_eq_true', Bool.not_eq_false', Bool.and_eq_true, Bool.or_eq_true, Bool.and_eq_false_iff, Bool.or_eq_false_iff, Bool.not_true, Bool.not_false] at hs4
        refine o_on 11 _ rfl rfl hg3 ?_
        refine o_p (p_fieldAddr rfl rfl fd_85_2 sz_3 rfl) rfl ?_
        refine o_on 11 _ rfl rfl hg3 ?_
        refine o_q (q_load rfl rfl sz_3 aPk rfl) rfl ?_
        refine o_on 11 _ rfl rfl hg3 ?_
        refine o_q (q_call rfl fn_16 rfl (fun w1 h1 => c16 w1 _ _ _)) rfl ?_
        refine o_on 11 _ rfl rfl hg3 ?_
        refine o_p (p_pure rfl) rfl ?_
        refine o_p (p_pickf rfl rfl hg3 rfl) rfl ?_
        refine o_nil ?_
        exact s_joinN 5 16 _ rfl rfl rfl (fun w h => by first | exact h | exact h.ent aEt))
      (by
        intro hg5
        have hs6 := hg5; try simp only [decide_eq_true_eq, decide_eq_false_iff_not, Bool.not_eq_true', Bool.not_eq_false', Bool.and_eq_true, Bool.or_eq_true, Bool.and_eq_false_iff, Bool.or_eq_false_iff, Bool.not_true, Bool.not_false] at hs6
        refine o_off 11 _ rfl rfl hg5 rfl ?_
        refine o_off 11 _ rfl rfl hg5 rfl ?_
        refine o_off 11 _ rfl rfl hg5 rfl ?_
        refine o_off 11 _ rfl rfl hg5 rfl ?_
        refine o_p (p_pickt rfl rfl hg5 rfl) rfl ?_
        refine o_nil ?_
        exact s_joinN 5 16 _ rfl rfl rfl (fun w h => by first | exact h | exact h.ent aEt)) ?_
    refine o_p (p_pure rfl) rfl ?_
    refine o_or 5 17 22 _ _ rfl
      (by
        intro hg7
        have hs8 := hg7; try simp only [decide_eq_true_eq, decide_eq_false_iff_not, Bool.not_eq_true', Bool.not_eq_false', Bool.and_eq_true, Bool.or_eq_true, Bool.and_eq_false_iff, Bool.or_eq_false_iff, Bool.not_true, Bool.not_false] at hs8
        refine o_on 17 _ rfl rfl hg7 ?_
        refine o_p (p_fieldAddr rfl rfl fd_85_3 sz_3 rfl) rfl ?_
        refine o_on 17 _ rfl rfl hg7 ?_
        refine o_q (q_load rfl rfl sz_3 aPk rfl) rfl ?_
        refine o_on 17 _ rfl rfl hg7 ?_
        refine o_q (q_call rfl fn_137 rfl (fun w1 h1 => c137 w1 _)) rfl ?_
        refine o_on 17 _ rfl rfl hg7 ?_
        refine o_p (p_pure rfl) rfl ?_
        refine o_p (p_pickf rfl rfl hg7 rfl) rfl ?_
        refine o_nil ?_
        exact s_joinN 5 22 _ rfl rfl rfl (fun w h => by first | exact h | exact h.ent aEt))
      (by
        intro hg9
        have hs10 := hg9; try simp only [decide_eq_true_eq, decide_eq_false_iff_not, Bool.not_eq_true', Bool.not_eq_false', Bool.and_eq_true, Bool.or_eq_true, Bool.and_eq_false_iff, Bool.or_eq_false_iff, Bool.not_true, Bool.not_false] at hs10
        refine o_off 17 _ rfl rfl hg9 rfl ?_
        refine o_off 17 _ rfl rfl hg9 rfl ?_
        refine o_off 17 _ rfl rfl hg9 rfl ?_
        refine o_off 17 _ rfl rfl hg9 rfl ?_
        refine o_p (p_pickt rfl rfl hg9 rfl) rfl ?_
        refine o_nil ?_
        exact s_joinN 5 22 _ rfl rfl rfl (fun w h => by first | exact h | exact h.ent aEt)) ?_
    refine o_nil ?_
    refine s_cond rfl (fun h11 => ?_) (fun h11 => ?_)
    · try simp only [decide_eq_true_eq, decide_eq_false_iff_not, Bool.not_eq_true', Bool.not_eq_false', Bool.and_eq_true, Bool.or_eq_true, Bool.and_eq_false_iff, Bool.or_eq_false_iff, Bool.not_true, Bool.not_false] at h11
      have hz : aceE a = 2 := by unfold aceE; rw [if_pos (by omega), if_neg (by simp; grind)]
      refine s_seq ?_
      refine s_region ?_
      refine o_p (p_pure rfl) rfl ?_
      refine o_nil ?_
      exact s_retv (rs := [.tmp 2]) rfl (.tmp rfl (.nil)) (fun w' h' => ⟨by rw [hz]; rfl, h'.below⟩)
    · try simp only [decide_eq_true_eq, decide_eq_false_iff_not, Bool.not_eq_true', Bool.not_eq_false', Bool.and_eq_true, Bool.or_eq_true, Bool.and_eq_false_iff, Bool.or_eq_false_iff, Bool.not_true, Bool.not_false] at h11
      have hz : aceE a = 0 := by unfold aceE; rw [if_pos (by omega), if_pos (by simp; grind)]
      refine s_skip ?_
      refine s_seq ?_
      refine s_region ?_
      refine o_p (p_pure rfl) rfl ?_
      refine o_nil ?_
      exact s_retv (rs := [.tmp 2]) rfl (.tmp rfl (.nil)) (fun w' h' => ⟨by rw [hz]; rfl, h'.below⟩)

end Go.Proofs

namespace Go.Proofs
open Go Go.RowKit Gx
set_option linter.unusedVariables false
set_option linter.unusedSimpArgs false
attribute [local irreducible] Go.Calls Gx.S Gx.O Gx.D Gx.OpP Gx.OpQ Gx.OpH

theorem sl_55 : tsl Tryz.prog 55 = some (85, 4, 32) := by kernel_rfl
theorem sz_85 : tsz Tryz.prog 85 = some (4, true) := by kernel_rfl
theorem zr_85 : tzero Tryz.prog 85 = some [.int .i64 0, .int .i64 0, .int .i64 0, .int .i64 0] := by kernel_rfl
theorem sl_22 : tsl Tryz.prog 22 = some (50, 2, 24) := by kernel_rfl
theorem sz_50 : tsz Tryz.prog 50 = some (2, true) := by kernel_rfl
theorem zr_50 : tzero Tryz.prog 50 = some [.int .i64 0, .string (bs [])] := by kernel_rfl
theorem fn_130 : isFn Tryz.prog 130 = true := by kernel_rfl
theorem fd_57_4 : tfd Tryz.prog 57 4 = some (4, 55) := by kernel_rfl
theorem sz_55 : tsz Tryz.prog 55 = some (1, false) := by kernel_rfl
theorem mixed : Tryz.prog.follows .mixedOrders = true := by kernel_rfl


set_option maxRecDepth 20000 in
theorem c128 (w : World) (a : Option Addr) (cap : Nat) (l : List Ace) (q : Nat) (cv : Array Value) (es : List Int) (hs : Rw Ace.vals 4 w [] a l) (hm : l.length ≤ 1000000) (hq : isFn Tryz.prog q = true) (he : es.length = l.length) (hc : ∀ k w1, k < l.length → (∀ j, j < k → es.getD j 0 = 0) → HS w [] [] w1 → Calls Tryz.prog q (#[] ++ [.int .i64 (k : Int), .agg (Ace.vals (nth l k)).toArray].toArray ++ cv) w1 fun en w2 => en = .returned (.int .i64 (es.getD k 0)) ∧ Below w1.heap.size w1 w2) : Calls Tryz.prog 128 #[.slice a l.length cap, .func (.func q) #[] cv] w fun en w' => en = .returned (.tuple #[.int .i64 (eachF es 0).1, .int .i64 (eachF es 0).2]) ∧ Below w.heap.size w w' := by
  refine enter (args := [_, _]) Tryz.func128 Tryz.ntmps128 rfl rfl (HS.refl w []) ?_
  refine s_seq ?_
  refine s_region ?_
  refine o_p (p_pure rfl) rfl ?_
  refine o_p (p_pure rfl) rfl ?_
  refine o_nil ?_
  refine s_seq ?_
  refine s_seq ?_
  refine s_region ?_
  refine o_p (p_pure rfl) rfl ?_
  refine o_p (p_len_slice rfl rfl Tryz.underlying55) rfl ?_
  refine o_p (p_pure rfl) rfl ?_
  refine o_nil ?_
  refine s_block ?_
  refine s_loopI (α := Nat) [4, 5, 6, 7, 8, 11, 12, 13, 14, 15, 16, 17, 18, 19, 20, 21, 22, 23, 24] (fun k => [(11, .int .i64 (k : Int))]) (fun _ => HS w [] []) (fun k => k ≤ l.length ∧ eachF es 0 = eachF (es.drop k) k ∧ ∀ j, j < k → es.getD j 0 = 0) (fun k => l.length - k) 0 ⟨by omega, rfl, fun i h => absurd h (Nat.not_lt_zero i)⟩ aSx (fun w h => h.ent aEt) (fun k hk => ?_)
  obtain ⟨hk1, hk2, hk3⟩ := hk
  refine s_seq ?_
  refine s_region ?_
  refine o_p (p_pure rfl) rfl ?_
  refine o_nil ?_
  refine s_seq ?_
  refine s_cond rfl (fun h1 => ?_) (fun h1 => ?_)
  · try simp only [decide_eq_true_eq, decide_eq_false_iff_not, Bool.not_eq_true', Bool.not_eq_false', Bool.and_eq_true, Bool.or_eq_true, Bool.and_eq_false_iff, Bool.or_eq_false_iff, Bool.not_true, Bool.not_false] at h1
    refine s_skip ?_
    refine s_seq ?_
    refine s_block ?_
    refine s_seq ?_
    refine s_region ?_
    refine o_p (p_pure rfl) rfl ?_
    refine o_p (p_indexAddr rfl rfl rfl sl_55 (k) (by omega) (by omega) (Rw.some hs (by omega))) rfl ?_
    refine o_q (q_load_oldn _ rfl rfl sz_85 rfl (Rw.rd hs (by omega))) rfl ?_
    refine o_h (h_alloc rfl zr_85) rfl (fun b2 _ => ?_)
    refine o_p (p_pure rfl) rfl ?_
    refine o_h0 (h_store rfl rfl rfl sz_85 rfl aPt (by simp only [setMany_length, List.length_set, List.length_cons, List.length_nil, List.length_map]; omega) rfl) (fun _ _ => ?_)
    refine o_nil ?_
    refine s_seq ?_
    refine s_region ?_
    refine o_p (p_pure rfl) rfl ?_
    refine o_p (p_pure rfl) rfl ?_
    refine o_q (q_loadn rfl rfl sz_85 aPk rfl) rfl ?_
    refine o_q (q_callv rfl rfl hq rfl (fun w1 h1 => hc k w1 (by omega) hk3 (h1.ent aEt))) rfl ?_
    refine o_p (p_pure rfl) rfl ?_
    refine o_nil ?_
    refine s_seq ?_
    refine s_region ?_
    refine o_p (p_pure rfl) rfl ?_
    refine o_p (p_pure rfl) rfl ?_
    refine o_nil ?_
    refine s_cond rfl (fun h3 => ?_) (fun h3 => ?_)
    · try simp only [decide_eq_true_eq, decide_eq_false_iff_not, Bool.not_eq_true', Bool.not_eq_false', Bool.and_eq_true, Bool.or_eq_true, Bool.and_eq_false_iff, Bool.or_eq_false_iff, Bool.not_true, Bool.not_false] at h3
      refine s_seq ?_
      refine s_region ?_
      refine o_p (p_pure rfl) rfl ?_
      refine o_p (p_pure rfl) rfl ?_
      refine o_p (p_pure rfl) rfl ?_
      refine o_p (p_pure rfl) rfl ?_
      refine o_nil ?_
      exact s_retv (rs := [.tmp 4, .tmp 5]) rfl (.tmp rfl (.tmp rfl (.nil))) (fun w' h' => ⟨by simp only [retV]; rw [hk2, eachF_drop (by omega), if_neg (by assumption)], h'.below⟩)
    · try simp only [decide_eq_true_eq, decide_eq_false_iff_not, Bool.not_eq_true', Bool.not_eq_false', Bool.and_eq_true, Bool.or_eq_true, Bool.and_eq_false_iff, Bool.or_eq_false_iff, Bool.not_true, Bool.not_false] at h3
      refine s_skip ?_
      refine s_blk ?_
      refine s_region ?_
      refine o_p (p_pure rfl) rfl ?_
      try (refine o_slot (i64w (by omega) (by omega)) ?_)
      refine o_p (p_pure rfl) rfl ?_
      refine o_nil ?_
      exact s_backI (k+1) (by omega) ⟨by omega, by rw [hk2, eachF_drop (by omega), if_pos (by assumption)], fun j hj => (Nat.lt_or_ge j k).elim (hk3 j) (fun h => by obtain rfl : j = k := (by omega); assumption)⟩ aSx (fun w h => h.ent aEt)
  · try simp only [decide_eq_true_eq, decide_eq_false_iff_not, Bool.not_eq_true', Bool.not_eq_false', Bool.and_eq_true, Bool.or_eq_true, Bool.and_eq_false_iff, Bool.or_eq_false_iff, Bool.not_true, Bool.not_false] at h1
    refine s_exit_to rfl ?_
    refine s_seq ?_
    refine s_region ?_
    refine o_p (p_pure rfl) rfl ?_
    refine o_p (p_pure rfl) rfl ?_
    refine o_nil ?_
    exact s_retv (rs := [.tmp 4, .tmp 5]) rfl (.tmp rfl (.tmp rfl (.nil))) (fun w' h' => ⟨by simp only [retV]; rw [hk2, eachF_end (by omega)], h'.below⟩)

set_option maxRecDepth 20000 in
theorem c129 (w : World) (b m i : Nat) (ea : Option Addr) (ec : Nat) (a : Ace) (hr : Rd w [] b 4 (.slice ea m ec)) : Calls Tryz.prog 129 #[.int .i64 (i : Int), .agg #[.int .i64 a.kd, .int .i64 a.fl, .int .i64 a.ms, .int .i64 a.wh], .pointer (some ⟨b, 0, none⟩)] w fun en w' => en = .returned (.int .i64 (aceAt m i a)) ∧ Below w.heap.size w w' := by
  have e1 : ((i : Int) ≥ (m : Int)) ↔ m ≤ i := by omega
  refine enter (args := [_, _, _]) Tryz.func129 Tryz.ntmps129 rfl rfl (HS.refl w []) ?_
  refine s_seq ?_
  refine s_region ?_
  refine o_h (h_box rfl rfl) rfl (fun b1 _ => ?_)
  refine o_p (p_pure rfl) rfl ?_
  refine o_nil ?_
  refine s_seq ?_
  refine s_draw [] mixed ?_
  refine d_q 0 [] rfl (q_loadn rfl rfl sz_85 aPk rfl) (by kernel_rfl) (by kernel_rfl) (by kernel_rfl) rfl ?_
  refine d_q 1 [] rfl (q_call rfl fn_130 rfl (fun w1 h1 => c130 w1 _)) (by kernel_rfl) (by kernel_rfl) (by kernel_rfl) rfl ?_
  refine d_p 2 rfl (p_fieldAddr rfl rfl fd_85_0 sz_3 rfl) (by kernel_rfl) rfl rfl ?_
  refine d_q 3 [] rfl (q_load rfl rfl sz_3 aPk rfl) (by kernel_rfl) (by kernel_rfl) (by kernel_rfl) rfl ?_
  refine d_p 4 rfl (p_pure rfl) (by kernel_rfl) rfl rfl ?_
  refine d_p 5 rfl (p_pure rfl) (by kernel_rfl) rfl rfl ?_
  refine d_p 6 rfl (p_fieldAddr rfl rfl fd_57_4 sz_55 rfl) (by kernel_rfl) rfl rfl ?_
  refine d_q 7 [] rfl (q_load_old rfl rfl sz_55 (hr)) (by kernel_rfl) (by kernel_rfl) (by kernel_rfl) rfl ?_
  refine d_p 8 rfl (p_len_slice rfl rfl Tryz.underlying55) (by kernel_rfl) rfl rfl ?_
  refine d_p 9 rfl (p_pure rfl) (by kernel_rfl) rfl rfl ?_
  refine d_p 10 rfl (p_eql_bool rfl rfl rfl Tryz.underlying4) (by kernel_rfl) rfl rfl ?_
  refine d_q 11 [] rfl (q_call rfl fn_102 rfl (fun w1 h1 => c102 w1 _ _)) (by kernel_rfl) (by kernel_rfl) (by kernel_rfl) rfl ?_
  refine d_h 12 rfl (h_buildSlice (cs := [_, _]) rfl rfl sl_122 zr_27 rfl rfl rfl) (by kernel_rfl) (fun w h => h.ent aEt) rfl (fun b2 _ => ?_)
  refine d_base (fun w h => h.ent aEt) ?_
  refine d_q 13 [] rfl (q_call rfl fn_101 rfl (fun w1 h1 => f101 h1 aPk (by rfl) (by rfl) (by decide))) (by kernel_rfl) (by kernel_rfl) (by kernel_rfl) rfl ?_
  refine d_p 14 rfl (p_pure rfl) (by kernel_rfl) rfl rfl ?_
  refine d_nil (by kernel_rfl) (fun w h => by first | exact h | exact h.ent aEt) ?_
  exact s_retv (rs := [.tmp 5]) rfl (.tmp rfl (.nil)) (fun w' h' => ⟨by simp only [retV, e1]; rw [firstW2]; unfold aceAt; simp only [cond_eq_ite, beq_iff_eq], h'.below⟩)

end Go.Proofs

/- Plain lemmas of chapter 18: bytes of numbers as slots, rows of slices, the descriptor's checks. Nothing of a program is named here. -/
namespace Gx
set_option linter.unusedSimpArgs false
set_option linter.unusedVariables false
open Go Go.RowKit
theorem u8wI (n : Int) : IntKind.u8.wrap n = n % 256 := by simp [IntKind.wrap, IntKind.signed, IntKind.bits]
theorem u16wM (n : Int) : IntKind.u16.wrap n = n % 65536 := by simp [IntKind.wrap, IntKind.signed, IntKind.bits]
theorem u32wM (n : Int) : IntKind.u32.wrap n = n % 4294967296 := by simp [IntKind.wrap, IntKind.signed, IntKind.bits]
theorem by8_toNat (n : Int) : ((by8 n).toNat : Int) = n % 256 := by
  unfold by8
  rw [UInt8.toNat_ofNat']
  omega
theorem u8_slot (n : Int) : Value.int .u8 (IntKind.u8.wrap n) = bv (by8 n) := by rw [u8wI, bv, by8_toNat]
theorem by8_eq {m n : Int} (h : m % 256 = n % 256) : by8 m = by8 n := by unfold by8; rw [h]
theorem le2_16 (n : Int) : le2 (n % 65536) = le2 n := by
  unfold le2
  rw [by8_eq (show n % 65536 % 256 = n % 256 by omega), by8_eq (show n % 65536 / 256 % 256 = n / 256 % 256 by omega)]
theorem le4_eq (n : Int) : le4 n = le2 n ++ [by8 (n / 65536), by8 (n / 16777216)] := rfl
theorem av4 (a : Ace) : (Ace.vals a).length = 4 := rfl
theorem av1 (a : Ace) : ∀ u ∈ Ace.vals a, u.oneCell' = true := fun u hu => by
  simp only [Ace.vals, List.mem_cons, List.mem_nil_iff, or_false] at hu
  rcases hu with rfl | rfl | rfl | rfl <;> rfl
/-- A row's value, and the row. -/
structure RowV (α : Type) where
  a : Option Addr
  c : Nat
  l : List α
instance {α : Type} : Inhabited (RowV α) := ⟨⟨none, 0, []⟩⟩
def RowV.v {α : Type} (r : RowV α) : Value := .slice r.a r.l.length r.c
theorem rv_get {α : Type} {rs : List (RowV α)} {k : Nat} (h : k < rs.length) : (rs.map RowV.v)[k]? = some (.slice (rs.getD k default).a (rs.getD k default).l.length (rs.getD k default).c) := by
  rw [List.getElem?_map, List.getElem?_eq_getElem h, List.getD_eq_getElem?_getD, List.getElem?_eq_getElem h]
  rfl
theorem rv_succ {α : Type} {rs : List (RowV α)} {k : Nat} (h : k < rs.length) : (rs.take (k + 1)).flatMap RowV.l = (rs.take k).flatMap RowV.l ++ (rs.getD k default).l := by
  rw [take_succ_getD (d := default) h, List.flatMap_append]
  simp
theorem rv_le {α : Type} (rs : List (RowV α)) (k : Nat) : ((rs.take k).flatMap RowV.l).length ≤ (rs.flatMap RowV.l).length := by
  conv => rhs; rw [← List.take_append_drop k rs, List.flatMap_append, List.length_append]
  omega
theorem aces_get {n : Nat} {l : List Ace} {k : Nat} (h : k < l.length) : (acesE n l).getD k 0 = aceAt n k (nth l k) := by
  unfold acesE
  rw [List.getD_eq_getElem?_getD, List.getElem?_map, List.getElem?_range h]
  rfl
theorem aces_len (n : Nat) (l : List Ace) : (acesE n l).length = l.length := by simp [acesE]
/-- Bytes of a number, the lowest first. -/
def litB : Nat → Int → List UInt8
  | 0, _ => []
  | k + 1, n => by8 n :: litB k (n / 256)
theorem litB_len : ∀ (k : Nat) (n : Int), (litB k n).length = k
  | 0, _ => rfl
  | k + 1, n => by rw [litB, List.length_cons, litB_len k]
def headB (d : Dsc) : List UInt8 := [1, by8 (flagB d), by8 d.en.length, by8 d.au.length] ++ le4 d.ow ++ le4 d.gr
theorem headB_len (d : Dsc) : (headB d).length = 12 := rfl
theorem encD_eq (d : Dsc) : encD d = headB d ++ (d.en ++ d.au).flatMap aceB := rfl
theorem aceB_len (a : Ace) : (aceB a).length = 8 := rfl
theorem flatB_len (l : List Ace) : (l.flatMap aceB).length = 8 * l.length := by
  induction l with
  | nil => rfl
  | cons a l ih => rw [List.flatMap_cons, List.length_append, ih, aceB_len, List.length_cons]; omega
theorem fm_succ {α β : Type} [Inhabited α] {f : α → List β} {l : List α} {k : Nat} (h : k < l.length) : (l.take (k + 1)).flatMap f = (l.take k).flatMap f ++ f (nth l k) := by
  rw [take_succ_getD (d := default) h, List.flatMap_append]
  simp [nth]
theorem isWho_le {n : Int} (h : isWho n = true) : 1 ≤ n ∧ n ≤ 999 := by
  unfold isWho at h; simp at h; omega
theorem pairE_ok {o g : Int} (h : pairE o g = 0) : (0 ≤ o ∧ o ≤ 999) ∧ 0 ≤ g ∧ g ≤ 999 := by
  unfold pairE isHold at h
  split at h
  · rename_i h2
    simp only [Bool.and_eq_true] at h2
    have h3 := isWho_le h2.1.1.1
    have h4 := isWho_le h2.2.1.1
    omega
  · simp at h
theorem aceE_ok {a : Ace} (h : aceE a = 0) : (0 ≤ a.kd ∧ a.kd ≤ 2) ∧ (0 ≤ a.fl ∧ a.fl ≤ 31) ∧ (1 ≤ a.ms ∧ a.ms ≤ 511) ∧ 1 ≤ a.wh ∧ a.wh ≤ 999 := by
  unfold aceE at h
  split at h
  · rename_i h1
    split at h
    · rename_i h2
      simp only [Bool.and_eq_true, decide_eq_true_eq] at h2
      exact ⟨h1, h2.1.1, h2.1.2, isWho_le h2.2⟩
    · simp at h
  · simp at h
theorem dsc_ok {d : Dsc} (h : (dscE d).2 = 0) : pairE d.ow d.gr = 0 ∧ (d.en.length ≤ 16 ∧ d.au.length ≤ 16) ∧ (d.he || decide (d.en.length = 0)) = true ∧ ∀ k, k < (d.en ++ d.au).length → aceAt d.en.length k (nth (d.en ++ d.au) k) = 0 := by
  unfold dscE at h
  split at h
  · rename_i h1
    split at h
    · rename_i h2
      split at h
      · rename_i h3
        refine ⟨h1, h2, h3, fun k hk => ?_⟩
        have h4 := eachF_0.1 h
        rw [← aces_get hk]
        exact h4 _ (getD_mem (by rw [aces_len]; exact hk))
      · simp at h
    · simp at h
  · rename_i h1; exact absurd h h1
theorem aceAt_ok {n k : Nat} {a : Ace} (h : aceAt n k a = 0) : aceE a = 0 := by
  unfold aceAt at h
  split at h
  · assumption
  · exact h
/-! ## Numbers out of bytes -/
theorem bits_or32 (a b : Nat) (ha : a < 4294967296) (hb : b < 4294967296) : bits .or .u32 (a : Int) (b : Int) = ((a ||| b : Nat) : Int) := by
  change IntKind.u32.wrap (((BitVec.ofInt 32 (a : Int)) ||| (BitVec.ofInt 32 (b : Int)) : BitVec 32).toNat : Int) = _
  rw [BitVec.toNat_or, ofInt_nat 32 a ha, ofInt_nat 32 b hb, u32wM]
  have : a ||| b < 4294967296 := Nat.or_lt_two_pow (n := 32) ha hb
  omega
theorem bits_or64 (a b : Nat) (ha : a < 9223372036854775808) (hb : b < 9223372036854775808) : bits .or .i64 (a : Int) (b : Int) = ((a ||| b : Nat) : Int) := by
  change IntKind.i64.wrap (((BitVec.ofInt 64 (a : Int)) ||| (BitVec.ofInt 64 (b : Int)) : BitVec 64).toNat : Int) = _
  rw [BitVec.toNat_or, ofInt_nat 64 a (by omega), ofInt_nat 64 b (by omega)]
  have : a ||| b < 9223372036854775808 := Nat.or_lt_two_pow (n := 63) ha hb
  exact IntWalk.i64_in _ ⟨by omega, by omega⟩
theorem bits_and64 (a b : Nat) (ha : a < 9223372036854775808) (hb : b < 9223372036854775808) : bits .and .i64 (a : Int) (b : Int) = ((a &&& b : Nat) : Int) := by
  change IntKind.i64.wrap (((BitVec.ofInt 64 (a : Int)) &&& (BitVec.ofInt 64 (b : Int)) : BitVec 64).toNat : Int) = _
  rw [BitVec.toNat_and, ofInt_nat 64 a (by omega), ofInt_nat 64 b (by omega)]
  have : a &&& b < 9223372036854775808 := Nat.and_lt_two_pow a (n := 63) hb
  exact IntWalk.i64_in _ ⟨by omega, by omega⟩
theorem or_add16 (a b : Nat) (h : a < 65536) : a ||| 65536 * b = a + 65536 * b := by
  have h := Nat.two_pow_add_eq_or_of_lt (i := 16) (b := a) (by omega) b
  have e256 : (2 : Nat) ^ 16 = 65536 := by decide
  rw [e256] at h
  rw [Nat.or_comm, ← h, Nat.add_comm]
theorem at1_le (s : List UInt8) (i : Nat) : 0 ≤ at1 s i ∧ at1 s i < 256 := by
  have := (s.getD i 0).toNat_lt
  unfold at1; omega
theorem at2_le (s : List UInt8) (i : Nat) : 0 ≤ at2 s i ∧ at2 s i < 65536 := by
  have := at1_le s i; have := at1_le s (i + 1)
  unfold at2; omega
theorem at4_le (s : List UInt8) (i : Nat) : 0 ≤ at4 s i ∧ at4 s i < 4294967296 := by
  have := at2_le s i; have := at2_le s (i + 2)
  unfold at4; omega
theorem at1_drop (s : List UInt8) (k i : Nat) : at1 (s.drop k) i = at1 s (k + i) := by
  unfold at1
  rw [List.getD_eq_getElem?_getD, List.getD_eq_getElem?_getD, List.getElem?_drop]
theorem at2_drop (s : List UInt8) (k i : Nat) : at2 (s.drop k) i = at2 s (k + i) := by unfold at2; rw [at1_drop, at1_drop, Nat.add_assoc]
theorem at4_drop (s : List UInt8) (k i : Nat) : at4 (s.drop k) i = at4 s (k + i) := by unfold at4; rw [at2_drop, at2_drop, Nat.add_assoc]
theorem g16_slot (s : List UInt8) (i : Nat) : Value.int .u16 (bits .or .u16 (IntKind.u16.wrap ((s.getD i 0).toNat : Int)) (IntKind.u16.wrap (IntKind.u16.wrap ((s.getD (i + 1) 0).toNat : Int) * 2 ^ 8))) = .int .u16 (at2 s i) := by
  have ha := (s.getD i 0).toNat_lt
  have hb := (s.getD (i + 1) 0).toNat_lt
  rw [w2_slot, wv, w2, UInt16.toNat_ofNat', Nat.mod_eq_of_lt (by omega)]
  unfold at2 at1
  congr 1
  omega
theorem g32_slot (X Y : Int) (hx : 0 ≤ X ∧ X < 65536) (hy : 0 ≤ Y ∧ Y < 65536) : Value.int .u32 (bits .or .u32 (IntKind.u32.wrap X) (IntKind.u32.wrap (IntKind.u32.wrap Y * 2 ^ 16))) = .int .u32 (X + Y * 65536) := by
  obtain ⟨a, rfl⟩ := Int.eq_ofNat_of_zero_le hx.1
  obtain ⟨b, rfl⟩ := Int.eq_ofNat_of_zero_le hy.1
  have e1 : IntKind.u32.wrap ((b : Nat) : Int) * 2 ^ 16 = ((65536 * b : Nat) : Int) := by
    rw [u32wM]; omega
  rw [e1, u32wM, u32wM, show (a : Int) % 4294967296 = (a : Nat) by omega, show ((65536 * b : Nat) : Int) % 4294967296 = ((65536 * b : Nat) : Int) by omega, bits_or32 _ _ (by omega) (by omega), or_add16 _ _ (by omega)]
  congr 1
  omega
/-! ## Sums -/
def sStep (n : Int) (c : UInt8) : Int := (2 * n % 2147483648 + n / 1073741824 + (c.toNat : Int)) % 2147483648
def sumS (s : List UInt8) : Int := s.foldl sStep 0
def hStep' (h : Int) (c : UInt8) : Int := (h * 31 + (c.toNat : Int)) % 1000003
theorem sStep_le (n : Int) (c : UInt8) : 0 ≤ sStep n c ∧ sStep n c < 2147483648 := by unfold sStep; omega
theorem hStep'_le (n : Int) (c : UInt8) : 0 ≤ hStep' n c ∧ hStep' n c < 2147483648 := by unfold hStep'; omega
theorem foldl_succ {α : Type} {f : α → UInt8 → α} {a : α} {s : List UInt8} {k : Nat} (h : k < s.length) : (s.take (k + 1)).foldl f a = f ((s.take k).foldl f a) (s.getD k 0) := by
  rw [take_succ_getD (d := 0) h, List.foldl_append]; rfl
theorem foldl_le {f : Int → UInt8 → Int} (hf : ∀ n c, 0 ≤ f n c ∧ f n c < 2147483648) : ∀ (s : List UInt8) (a : Int), 0 ≤ a ∧ a < 2147483648 → 0 ≤ s.foldl f a ∧ s.foldl f a < 2147483648
  | [], a, h => h
  | c :: s, a, _ => foldl_le hf s _ (hf a c)
theorem hashS_le (s : List UInt8) : 0 ≤ hashS s ∧ hashS s < 2147483648 := foldl_le hStep'_le s 17 (by omega)
theorem sumS_le (s : List UInt8) : 0 ≤ sumS s ∧ sumS s < 2147483648 := foldl_le sStep_le s 0 (by omega)
theorem rot31 (n : Nat) (h : n < 2147483648) : Value.int .i64 (bits .or .i64 (bits .and .i64 (IntKind.i64.wrap ((n : Int) * 2 ^ 1)) 2147483647) ((n : Int) / 2 ^ 30)) = .int .i64 ((2 * n % 2147483648 + n / 1073741824 : Nat) : Int) := by
  have e1 : IntKind.i64.wrap ((n : Int) * 2 ^ 1) = ((2 * n : Nat) : Int) := by
    rw [show (n : Int) * 2 ^ 1 = ((2 * n : Nat) : Int) by omega]; exact IntWalk.i64_in _ ⟨by omega, by omega⟩
  have e2 : (n : Int) / 2 ^ 30 = ((n / 1073741824 : Nat) : Int) := by rw [Int.natCast_ediv]; rfl
  rw [e1, e2, show (2147483647 : Int) = ((2147483647 : Nat) : Int) from rfl, bits_and64 _ _ (by omega) (by omega)]
  have e3 : 2 * n &&& 2147483647 = 2 * n % 2147483648 := Nat.and_two_pow_sub_one_eq_mod (2 * n) 31
  rw [e3, bits_or64 _ _ (by omega) (by omega)]
  have h4 := Nat.two_pow_add_eq_or_of_lt (i := 1) (b := n / 1073741824) (by omega) (2 * n % 2147483648 / 2)
  rw [show 2 ^ 1 * (2 * n % 2147483648 / 2) = 2 * n % 2147483648 by omega] at h4
  rw [h4]
theorem subA_add {a : Option Addr} {b o cap k : Nat} (ha : a = some ⟨b, o, none⟩) (h : k < cap) : subA a cap k 1 = some ⟨b, o + k, none⟩ := by
  subst ha
  unfold subA
  rw [if_neg (by omega)]
  simp [addr_add]
/-- A part of a row of single cells, from an index on. -/
theorem Vl.drop {w : World} {a : Option Addr} {vs : List Value} {cap k : Nat} (h : Vl w a vs) (hk : k < vs.length) (hc : k < cap) : Vl w (subA a cap k 1) (vs.drop k) := by
  obtain ⟨b, o, rfl, h2⟩ := h.at_ (by omega)
  refine ⟨fun hn => ⟨b, o + k, subA_add rfl hc, fun i hi => ?_⟩⟩
  rw [List.length_drop] at hi
  have h3 := h2 (k + i) (by omega)
  rw [List.getElem?_drop]
  refine ⟨h3.1, fun j v hv => ?_⟩
  have h4 := h3.2 j v hv
  rw [show o + k + i * 1 + j = o + (k + i) * 1 + j by omega]
  exact h4
/-! ## The descriptor with bytes -/
theorem at1_part (s : List UInt8) (k j i : Nat) (h : i < j) : at1 ((s.drop k).take j) i = at1 s (k + i) := by
  unfold at1
  rw [List.getD_eq_getElem?_getD, List.getD_eq_getElem?_getD, List.getElem?_take, if_pos h, List.getElem?_drop]
theorem ace_part (s : List UInt8) (k : Nat) : aceOf ((s.drop k).take 8) 0 = aceOf s k := by
  unfold aceOf at4 at2
  simp only [at1_part s k 8 _ (show 0 < 8 by omega), at1_part s k 8 _ (show 0 + 1 < 8 by omega), at1_part s k 8 _ (show 0 + 2 < 8 by omega), at1_part s k 8 _ (show 0 + 2 + 1 < 8 by omega), at1_part s k 8 _ (show 0 + 4 < 8 by omega), at1_part s k 8 _ (show 0 + 4 + 1 < 8 by omega), at1_part s k 8 _ (show 0 + 4 + 2 < 8 by omega), at1_part s k 8 _ (show 0 + 4 + 2 + 1 < 8 by omega)]
  rfl
theorem vl_part {w : World} {a : Option Addr} {vs : List Value} {b o k j : Nat} (h : Vl w a vs) (ha : a = some ⟨b, o, none⟩) (hk : k + j ≤ vs.length) : Vl w (some ⟨b, o + k, none⟩) ((vs.drop k).take j) := by
  subst ha
  refine ⟨fun hn => ⟨b, o + k, rfl, fun i hi => ?_⟩⟩
  rw [List.length_take, List.length_drop] at hi
  obtain ⟨b', o', e, h2⟩ := h.at_ (by omega)
  injection e with e
  injection e with e1 e2
  subst e1 e2
  have h3 := h2 (k + i) (by omega)
  rw [List.getElem?_take, if_pos (by omega), List.getElem?_drop]
  refine ⟨h3.1, fun j' v hv => ?_⟩
  have h4 := h3.2 j' v hv
  rw [show o + k + i * 1 + j' = o + (k + i) * 1 + j' by omega]
  exact h4
def enK (s : List UInt8) (k : Nat) : List Ace := (List.range (min k (at1 s 2).toNat)).map fun i => aceOf s (12 + 8 * i)
def auK (s : List UInt8) (k : Nat) : List Ace := (List.range (k - (at1 s 2).toNat)).map fun i => aceOf s (12 + 8 * ((at1 s 2).toNat + i))
theorem enK_zero (s : List UInt8) : enK s 0 = [] := by simp [enK]
theorem auK_zero (s : List UInt8) : auK s 0 = [] := by simp [auK]
theorem enK_len (s : List UInt8) (k : Nat) : (enK s k).length = min k (at1 s 2).toNat := by simp [enK]
theorem auK_len (s : List UInt8) (k : Nat) : (auK s k).length = k - (at1 s 2).toNat := by simp [auK]
theorem enK_succ {s : List UInt8} {k : Nat} (h : k < (at1 s 2).toNat) : enK s (k + 1) = enK s k ++ [aceOf s (12 + 8 * k)] := by
  unfold enK
  rw [Nat.min_eq_left (by omega), Nat.min_eq_left (by omega), List.range_succ, List.map_append]; rfl
theorem enK_same {s : List UInt8} {k : Nat} (h : (at1 s 2).toNat ≤ k) : enK s (k + 1) = enK s k := by
  unfold enK
  rw [Nat.min_eq_right (by omega), Nat.min_eq_right h]
theorem auK_same {s : List UInt8} {k : Nat} (h : k < (at1 s 2).toNat) : auK s (k + 1) = auK s k := by
  unfold auK
  rw [show k + 1 - (at1 s 2).toNat = 0 by omega, show k - (at1 s 2).toNat = 0 by omega]
theorem auK_succ {s : List UInt8} {k : Nat} (h : (at1 s 2).toNat ≤ k) : auK s (k + 1) = auK s k ++ [aceOf s (12 + 8 * k)] := by
  unfold auK
  rw [show k + 1 - (at1 s 2).toNat = k - (at1 s 2).toNat + 1 by omega, List.range_succ, List.map_append, List.map_cons, List.map_nil, show (at1 s 2).toNat + (k - (at1 s 2).toNat) = k by omega]
theorem enK_end (s : List UInt8) : enK s ((at1 s 2).toNat + (at1 s 3).toNat) = (rawD s).en := by
  unfold enK rawD
  rw [Nat.min_eq_right (by omega)]
theorem auK_end (s : List UInt8) : auK s ((at1 s 2).toNat + (at1 s 3).toNat) = (rawD s).au := by
  unfold auK rawD
  rw [show (at1 s 2).toNat + (at1 s 3).toNat - (at1 s 2).toNat = (at1 s 3).toNat by omega]
theorem shp_first {s : List UInt8} {mx : Int} {b c : Bool} (hl : ¬ s.length < 12) (hm : mx ≤ 16 ↔ (at1 s 2 ≤ 16 ∧ at1 s 3 ≤ 16)) (hc : c = decide ((s.length : Int) = 12 + (at1 s 2 + at1 s 3) * 8)) (hb : b = (decide (at1 s 0 = 1) && decide (at1 s 1 ≤ 3))) :
    firstV [.int .i64 (cond (decide (mx ≤ 16)) 0 8), .int .i64 (cond c 0 10), .int .i64 (cond b 0 3)] = shpE s := by
  subst hc hb
  unfold shpE
  rw [if_neg hl]
  simp only [firstV, cond_eq_ite, decide_eq_true_eq, Bool.and_eq_true, hm]
  grind
theorem dec_bad {s : List UInt8} (h : shpE s ≠ 0) : decE s = shpE s ∧ decD s = noD := by
  have : decE s = shpE s := by unfold decE; rw [if_neg h]
  exact ⟨this, by unfold decD; rw [if_neg (by rw [this]; exact h)]⟩
theorem dec_not {s : List UInt8} (h : shpE s = 0) (h2 : (dscE (rawD s)).2 ≠ 0) : decE s = (dscE (rawD s)).2 ∧ decD s = noD := by
  have : decE s = (dscE (rawD s)).2 := by unfold decE; rw [if_pos h]
  exact ⟨this, by unfold decD; rw [if_neg (by rw [this]; exact h2)]⟩
theorem dec_good {s : List UInt8} (h : shpE s = 0) (h2 : (dscE (rawD s)).2 = 0) : decE s = 0 ∧ decD s = rawD s := by
  have : decE s = 0 := by unfold decE; rw [if_pos h, h2]
  exact ⟨this, by unfold decD; rw [if_pos this]⟩
theorem shp_ok {s : List UInt8} (h : shpE s = 0) : 12 ≤ s.length ∧ (at1 s 2 ≤ 16 ∧ at1 s 3 ≤ 16) ∧ (s.length : Int) = 12 + (at1 s 2 + at1 s 3) * 8 ∧ at1 s 0 = 1 ∧ at1 s 1 ≤ 3 := by
  unfold shpE at h
  split at h
  · simp at h
  · split at h
    · split at h
      · split at h
        · rename_i h1 h2 h3 h4; exact ⟨by omega, h2, h3, h4⟩
        · simp at h
      · simp at h
    · simp at h
theorem bit0 {n : Int} (h : 0 ≤ n ∧ n ≤ 3) : decide (bits .and .u8 n 1 = 0) = !decide (n % 2 = 1) := by
  obtain ⟨m, rfl⟩ := Int.eq_ofNat_of_zero_le h.1
  have : ∀ m : Nat, m < 4 → decide (bits .and .u8 (m : Int) 1 = 0) = !decide ((m : Int) % 2 = 1) := by decide
  exact this m (by omega)
theorem bit1 {n : Int} (h : 0 ≤ n ∧ n ≤ 3) : decide (bits .and .u8 n 2 = 0) = !decide (n / 2 % 2 = 1) := by
  obtain ⟨m, rfl⟩ := Int.eq_ofNat_of_zero_le h.1
  have : ∀ m : Nat, m < 4 → decide (bits .and .u8 (m : Int) 2 = 0) = !decide ((m : Int) / 2 % 2 = 1) := by decide
  exact this m (by omega)
/-- The number of so many bytes at an index. -/
def litN (s : List UInt8) : Nat → Nat → Int
  | _, 0 => 0
  | a, k + 1 => at1 s a + 256 * litN s (a + 1) k
theorem litN_1 (s : List UInt8) (a : Nat) : litN s a 1 = at1 s a := by simp only [litN]; omega
theorem litN_2 (s : List UInt8) (a : Nat) : litN s a 2 = at2 s a := by simp only [litN, at2]; omega
theorem litN_4 (s : List UInt8) (a : Nat) : litN s a 4 = at4 s a := by simp only [litN, at4, at2, show a + 1 + 1 = a + 2 from rfl]; omega
theorem litN_le (s : List UInt8) : ∀ (k a : Nat), 0 ≤ litN s a k ∧ litN s a k < 256 ^ k
  | 0, a => by simp [litN]
  | k + 1, a => by
    have h1 := litN_le s k (a + 1)
    have h2 := at1_le s a
    rw [litN, Int.pow_succ]
    generalize (256 : Int) ^ k = p at *
    omega
theorem litN_6 (s : List UInt8) (a : Nat) {k : Nat} (h : k ≤ 6) : 0 ≤ litN s a k ∧ litN s a k < 281474976710656 := by
  have h1 := litN_le s k a
  have h2 : ∀ k ≤ 6, (256 : Int) ^ k ≤ 281474976710656 := by decide
  have := h2 k h
  omega
end Gx

namespace Go.Proofs
open Go Go.RowKit Gx
set_option linter.unusedVariables false
set_option linter.unusedSimpArgs false
attribute [local irreducible] Go.Calls Gx.S Gx.O Gx.D Gx.OpP Gx.OpQ Gx.OpH

theorem ki_137 : tki Tryz.prog 137 = some .u16 := by kernel_rfl
theorem ki_5 : tki Tryz.prog 5 = some .u8 := by kernel_rfl
theorem sl_79 : tsl Tryz.prog 79 = some (5, 1, 1) := by kernel_rfl
theorem zr_5 : tzero Tryz.prog 5 = some [.int .u8 0] := by kernel_rfl
theorem ki_110 : tki Tryz.prog 110 = some .u32 := by kernel_rfl
theorem fn_100 : isFn Tryz.prog 100 = true := by kernel_rfl
theorem fn_106 : isFn Tryz.prog 106 = true := by kernel_rfl
theorem ki_3 : tki Tryz.prog 3 = some .i64 := by kernel_rfl
theorem sl_164 : tsl Tryz.prog 164 = some (55, 1, 24) := by kernel_rfl
theorem fn_118 : isFn Tryz.prog 118 = true := by kernel_rfl


set_option maxRecDepth 20000 in
theorem c100 (w : World) (a : Option Addr) (cap : Nat) (l : List UInt8) (n : Int) (hw : HS w (fps [.own (.slice a l.length cap) 5 1 (l.length) ((l).map bv)]) [.own (.slice a l.length cap) 5 1 (l.length) ((l).map bv)] w) (hn : 0 ≤ n ∧ n < 65536) (hl : l.length ≤ 1000000) : Calls Tryz.prog 100 #[.slice a l.length cap, .int .u16 n] w fun en w' => ∃ g : Option Addr × Nat, en = .returned (.slice g.1 (l ++ le2 n).length g.2) ∧ True ∧ HS w (fps [.own (.slice a l.length cap) 5 1 (l.length) ((l).map bv)]) [.own (.slice g.1 (l ++ le2 n).length g.2) 5 1 ((l ++ le2 n).length) ((l ++ le2 n).map bv)] w' := by
  refine enter (args := [_, _]) Tryz.func100 Tryz.ntmps100 rfl rfl hw ?_
  refine s_seq ?_
  refine s_region ?_
  refine o_p (p_pure rfl) rfl ?_
  refine o_nil ?_
  refine s_seq ?_
  refine s_region ?_
  refine o_p (p_pure rfl) rfl ?_
  refine o_p (p_pure rfl) rfl ?_
  refine o_p (p_conv_int rfl rfl ki_137 ki_5) rfl ?_
  refine o_slot (u8_slot _) ?_
  refine o_p (p_pure rfl) rfl ?_
  refine o_p (p_shr rfl rfl rfl (by decide) 8 rfl) rfl ?_
  refine o_p (p_conv_int rfl rfl ki_137 ki_5) rfl ?_
  refine o_slot (show _ = bv (by8 (n / 256)) from u8_slot _) ?_
  refine o_h (h_buildSlice (cs := [_, _]) rfl rfl sl_79 zr_5 rfl rfl rfl) rfl (fun b1 _ => ?_)
  refine o_h (h_appendS _ rfl rfl rfl sl_79 Tryz.underlying79 zr_5 rfl aPk (src_blk aPk) rfl (by intro u hu; simp only [List.mem_cons, List.mem_nil_iff, or_false] at hu; rcases hu with rfl | rfl <;> rfl) (by omega) (by simp only [maxLen]; omega)) rfl (fun b2 _ => ?_)
  refine o_p (p_pure rfl) rfl ?_
  refine o_nil ?_
  exact s_retv (rs := [.tmp 4]) rfl (.tmp rfl (.nil)) (fun w' h' => ⟨b2, by rw [List.length_append]; rfl, trivial, by rw [List.length_append, List.map_append]; exact h'.ent aEt⟩)

set_option maxRecDepth 20000 in
theorem c98 (w : World) (a : Option Addr) (cap : Nat) (l : List UInt8) (n : Int) (hw : HS w (fps [.own (.slice a l.length cap) 5 1 (l.length) ((l).map bv)]) [.own (.slice a l.length cap) 5 1 (l.length) ((l).map bv)] w) (hn : 0 ≤ n ∧ n < 4294967296) (hl : l.length ≤ 1000000) : Calls Tryz.prog 98 #[.slice a l.length cap, .int .u32 n] w fun en w' => ∃ g : Option Addr × Nat, en = .returned (.slice g.1 (l ++ le4 n).length g.2) ∧ True ∧ HS w (fps [.own (.slice a l.length cap) 5 1 (l.length) ((l).map bv)]) [.own (.slice g.1 (l ++ le4 n).length g.2) 5 1 ((l ++ le4 n).length) ((l ++ le4 n).map bv)] w' := by
  have he9 : l ++ le4 n = (l ++ le2 (n % 65536)) ++ [by8 (n / 65536), by8 (n / 16777216)] := by rw [le2_16, le4_eq, List.append_assoc]
  have hl2 : (l ++ le2 (n % 65536)).length = l.length + 2 := by rw [List.length_append]; rfl
  refine enter (args := [_, _]) Tryz.func98 Tryz.ntmps98 rfl rfl hw ?_
  refine s_seq ?_
  refine s_region ?_
  refine o_p (p_pure rfl) rfl ?_
  refine o_nil ?_
  refine s_seq ?_
  refine s_region ?_
  refine o_p (p_pure rfl) rfl ?_
  refine o_p (p_pure rfl) rfl ?_
  refine o_p (p_conv_int rfl rfl ki_110 ki_137) rfl ?_
  refine o_slot (show _ = Value.int .u16 (n % 65536) from by rw [u16wM]) ?_
  refine o_h (h_callF (Cs := [.own (.slice a l.length cap) 5 1 (l.length) ((l).map bv)]) rfl fn_100 rfl aPs (fun w1 h1 hf => c100 w1 a cap l (n % 65536) hf (by omega) hl)) rfl (fun ga _ => ?_)
  refine o_p (p_pure rfl) rfl ?_
  refine o_p (p_shr rfl rfl rfl (by decide) 16 rfl) rfl ?_
  refine o_p (p_conv_int rfl rfl ki_110 ki_5) rfl ?_
  refine o_slot (show _ = bv (by8 (n / 65536)) from u8_slot _) ?_
  refine o_p (p_pure rfl) rfl ?_
  refine o_p (p_shr rfl rfl rfl (by decide) 24 rfl) rfl ?_
  refine o_p (p_conv_int rfl rfl ki_110 ki_5) rfl ?_
  refine o_slot (show _ = bv (by8 (n / 16777216)) from u8_slot _) ?_
  refine o_h (h_buildSlice (cs := [_, _]) rfl rfl sl_79 zr_5 rfl rfl rfl) rfl (fun b1 _ => ?_)
  refine o_h (h_appendS _ rfl rfl rfl sl_79 Tryz.underlying79 zr_5 rfl aPk (src_blk aPk) rfl (by intro u hu; simp only [List.mem_cons, List.mem_nil_iff, or_false] at hu; rcases hu with rfl | rfl <;> rfl) (by omega) (by simp only [maxLen]; omega)) rfl (fun b2 _ => ?_)
  refine o_p (p_pure rfl) rfl ?_
  refine o_nil ?_
  exact s_retv (rs := [.tmp 4]) rfl (.tmp rfl (.nil)) (fun w' h' => ⟨b2, by rw [he9, @List.length_append _ (l ++ le2 (n % 65536)) _]; rfl, trivial, by rw [he9, List.map_append (l₁ := l ++ le2 (n % 65536)), @List.length_append _ (l ++ le2 (n % 65536)) _]; exact h'.ent aEt⟩)

set_option maxRecDepth 20000 in
theorem c106 (w : World) (a : Option Addr) (cap : Nat) (l : List UInt8) (n : Int) (hw : HS w (fps [.own (.slice a l.length cap) 5 1 (l.length) ((l).map bv)]) [.own (.slice a l.length cap) 5 1 (l.length) ((l).map bv)] w) (hn : 0 ≤ n ∧ n < 65536) (hl : l.length ≤ 1000000) : Calls Tryz.prog 106 #[.slice a l.length cap, .int .u16 n] w fun en w' => ∃ g : Option Addr × Nat, en = .returned (.slice g.1 (l ++ le2 n).length g.2) ∧ True ∧ HS w (fps [.own (.slice a l.length cap) 5 1 (l.length) ((l).map bv)]) [.own (.slice g.1 (l ++ le2 n).length g.2) 5 1 ((l ++ le2 n).length) ((l ++ le2 n).map bv)] w' := by
  refine enter (args := [_, _]) Tryz.func106 Tryz.ntmps106 rfl rfl hw ?_
  refine s_seq ?_
  refine s_region ?_
  refine o_p (p_pure rfl) rfl ?_
  refine o_nil ?_
  refine s_seq ?_
  refine s_region ?_
  refine o_p (p_pure rfl) rfl ?_
  refine o_p (p_pure rfl) rfl ?_
  refine o_p (p_conv_int rfl rfl ki_137 ki_5) rfl ?_
  refine o_slot (u8_slot _) ?_
  refine o_p (p_pure rfl) rfl ?_
  refine o_p (p_shr rfl rfl rfl (by decide) 8 rfl) rfl ?_
  refine o_p (p_conv_int rfl rfl ki_137 ki_5) rfl ?_
  refine o_slot (show _ = bv (by8 (n / 256)) from u8_slot _) ?_
  refine o_h (h_buildSlice (cs := [_, _]) rfl rfl sl_79 zr_5 rfl rfl rfl) rfl (fun b1 _ => ?_)
  refine o_h (h_appendS _ rfl rfl rfl sl_79 Tryz.underlying79 zr_5 rfl aPk (src_blk aPk) rfl (by intro u hu; simp only [List.mem_cons, List.mem_nil_iff, or_false] at hu; rcases hu with rfl | rfl <;> rfl) (by omega) (by simp only [maxLen]; omega)) rfl (fun b2 _ => ?_)
  refine o_p (p_pure rfl) rfl ?_
  refine o_nil ?_
  exact s_retv (rs := [.tmp 4]) rfl (.tmp rfl (.nil)) (fun w' h' => ⟨b2, by rw [List.length_append]; rfl, trivial, by rw [List.length_append, List.map_append]; exact h'.ent aEt⟩)

set_option maxRecDepth 20000 in
theorem c79 (w : World) (a : Option Addr) (cap : Nat) (l : List UInt8) (n : Int) (hw : HS w (fps [.own (.slice a l.length cap) 5 1 (l.length) ((l).map bv)]) [.own (.slice a l.length cap) 5 1 (l.length) ((l).map bv)] w) (hn : 0 ≤ n ∧ n < 4294967296) (hl : l.length ≤ 1000000) : Calls Tryz.prog 79 #[.slice a l.length cap, .int .u32 n] w fun en w' => ∃ g : Option Addr × Nat, en = .returned (.slice g.1 (l ++ le4 n).length g.2) ∧ True ∧ HS w (fps [.own (.slice a l.length cap) 5 1 (l.length) ((l).map bv)]) [.own (.slice g.1 (l ++ le4 n).length g.2) 5 1 ((l ++ le4 n).length) ((l ++ le4 n).map bv)] w' := by
  have he9 : l ++ le4 n = (l ++ le2 (n % 65536)) ++ [by8 (n / 65536), by8 (n / 16777216)] := by rw [le2_16, le4_eq, List.append_assoc]
  have hl2 : (l ++ le2 (n % 65536)).length = l.length + 2 := by rw [List.length_append]; rfl
  refine enter (args := [_, _]) Tryz.func79 Tryz.ntmps79 rfl rfl hw ?_
  refine s_seq ?_
  refine s_region ?_
  refine o_p (p_pure rfl) rfl ?_
  refine o_nil ?_
  refine s_seq ?_
  refine s_region ?_
  refine o_p (p_pure rfl) rfl ?_
  refine o_p (p_pure rfl) rfl ?_
  refine o_p (p_conv_int rfl rfl ki_110 ki_137) rfl ?_
  refine o_slot (show _ = Value.int .u16 (n % 65536) from by rw [u16wM]) ?_
  refine o_h (h_callF (Cs := [.own (.slice a l.length cap) 5 1 (l.length) ((l).map bv)]) rfl fn_106 rfl aPs (fun w1 h1 hf => c106 w1 a cap l (n % 65536) hf (by omega) hl)) rfl (fun ga _ => ?_)
  refine o_p (p_pure rfl) rfl ?_
  refine o_p (p_shr rfl rfl rfl (by decide) 16 rfl) rfl ?_
  refine o_p (p_conv_int rfl rfl ki_110 ki_5) rfl ?_
  refine o_slot (show _ = bv (by8 (n / 65536)) from u8_slot _) ?_
  refine o_p (p_pure rfl) rfl ?_
  refine o_p (p_shr rfl rfl rfl (by decide) 24 rfl) rfl ?_
  refine o_p (p_conv_int rfl rfl ki_110 ki_5) rfl ?_
  refine o_slot (show _ = bv (by8 (n / 16777216)) from u8_slot _) ?_
  refine o_h (h_buildSlice (cs := [_, _]) rfl rfl sl_79 zr_5 rfl rfl rfl) rfl (fun b1 _ => ?_)
  refine o_h (h_appendS _ rfl rfl rfl sl_79 Tryz.underlying79 zr_5 rfl aPk (src_blk aPk) rfl (by intro u hu; simp only [List.mem_cons, List.mem_nil_iff, or_false] at hu; rcases hu with rfl | rfl <;> rfl) (by omega) (by simp only [maxLen]; omega)) rfl (fun b2 _ => ?_)
  refine o_p (p_pure rfl) rfl ?_
  refine o_nil ?_
  exact s_retv (rs := [.tmp 4]) rfl (.tmp rfl (.nil)) (fun w' h' => ⟨b2, by rw [he9, @List.length_append _ (l ++ le2 (n % 65536)) _]; rfl, trivial, by rw [he9, List.map_append (l₁ := l ++ le2 (n % 65536)), @List.length_append _ (l ++ le2 (n % 65536)) _]; exact h'.ent aEt⟩)

set_option maxRecDepth 20000 in
theorem c118 (w : World) (n : Nat) (hn : n ≤ 1000000) : Calls Tryz.prog 118 #[.slice none 0 0, .int .i64 (n : Int)] w fun en w' => ∃ g : Option Addr × Nat, en = .returned (.slice g.1 0 g.2) ∧ True ∧ HS w [] [.own (.slice g.1 0 g.2) 85 4 0 []] w' := by
  refine enter (args := [_, _]) Tryz.func118 Tryz.ntmps118 rfl rfl (HS.refl w []) ?_
  refine s_seq ?_
  refine s_region ?_
  refine o_p (p_pure rfl) rfl ?_
  refine o_nil ?_
  refine s_seq ?_
  refine s_seq ?_
  refine s_region ?_
  refine o_p (p_pure rfl) rfl ?_
  refine o_p (p_pure rfl) rfl ?_
  refine o_nil ?_
  refine s_cond rfl (fun h1 => ?_) (fun h1 => ?_)
  · try simp only [decide_eq_true_eq, decide_eq_false_iff_not, Bool.not_eq_true', Bool.not_eq_false', Bool.and_eq_true, Bool.or_eq_true, Bool.and_eq_false_iff, Bool.or_eq_false_iff, Bool.not_true, Bool.not_false] at h1
    exfalso; first | omega | (simp at h1; done) | (simp_all; done)
  · try simp only [decide_eq_true_eq, decide_eq_false_iff_not, Bool.not_eq_true', Bool.not_eq_false', Bool.and_eq_true, Bool.or_eq_true, Bool.and_eq_false_iff, Bool.or_eq_false_iff, Bool.not_true, Bool.not_false] at h1
    refine s_skip ?_
    refine s_seq ?_
    refine s_seq ?_
    refine s_region ?_
    refine o_p (p_pure rfl) rfl ?_
    refine o_p (p_pure rfl) rfl ?_
    refine o_p (p_cap rfl rfl Tryz.underlying55) rfl ?_
    refine o_p (p_pure rfl) rfl ?_
    refine o_p (p_len_slice rfl rfl Tryz.underlying55) rfl ?_
    refine o_p (p_pure rfl) rfl ?_
    try (refine o_slot (i64w (by omega) (by omega)) ?_)
    refine o_p (p_pure rfl) rfl ?_
    try (refine o_slot (i64w (by omega) (by omega)) ?_)
    refine o_slot (show _ = Value.int .i64 (n : Int) from by first | rfl | (congr 1; omega)) ?_
    refine o_p (p_pure rfl) rfl ?_
    refine o_nil ?_
    refine s_seq ?_
    refine s_region ?_
    refine o_p (p_pure rfl) rfl ?_
    refine o_p (p_pure rfl) rfl ?_
    refine o_nil ?_
    refine s_cond rfl (fun h2 => ?_) (fun h2 => ?_)
    · try simp only [decide_eq_true_eq, decide_eq_false_iff_not, Bool.not_eq_true', Bool.not_eq_false', Bool.and_eq_true, Bool.or_eq_true, Bool.and_eq_false_iff, Bool.or_eq_false_iff, Bool.not_true, Bool.not_false] at h2
      refine s_region ?_
      refine o_p (p_pure rfl) rfl ?_
      refine o_p (p_pure rfl) rfl ?_
      refine o_p (p_cap rfl rfl Tryz.underlying55) rfl ?_
      refine o_p (p_slice _ _ 0 0 rfl rfl sl_55 rfl ⟨_, _, rfl, rfl⟩ (by omega) (by omega)) rfl ?_
      refine o_slot (show _ = Value.slice none 0 0 from rfl) ?_
      refine o_p (p_pure rfl) rfl ?_
      refine o_h (h_append_zeros (m := n) (olds := []) rfl rfl rfl sl_55 ki_3 zr_85 rfl (by decide) (by omega) (by omega) (fun w h hne => absurd rfl hne) rfl (by omega) (by simp only [maxLen]; omega)) rfl (fun ⟨b3, c4⟩ ⟨h5, k6⟩ => ?_)
      refine o_p (p_pure rfl) rfl ?_
      refine o_p (p_len_slice rfl rfl Tryz.underlying55) rfl ?_
      refine o_p (p_slice _ _ 0 0 rfl rfl sl_55 rfl ⟨_, _, rfl, rfl⟩ (by omega) (by omega)) rfl ?_
      refine o_slot (show _ = Value.slice (some ⟨b3, 0, none⟩) 0 c4 from by rw [subA_zero] <;> rfl) ?_
      refine o_p (p_pure rfl) rfl ?_
      refine o_nil ?_
      refine s_seq ?_
      refine s_region ?_
      refine o_p (p_pure rfl) rfl ?_
      refine o_p (p_pure rfl) rfl ?_
      refine o_nil ?_
      exact s_retv (rs := [.tmp 4]) rfl (.tmp rfl (.nil)) (fun w' h' => by first | exact ⟨(some ⟨b3, 0, none⟩, c4), rfl, trivial, (HS.to_own (n := 0) (xs := []) (ds := zrow [.int .i64 0, .int .i64 0, .int .i64 0, .int .i64 0] (n * 4)) aPk h' rfl rfl (by omega) (by omega)).ent aEt⟩ | exact ⟨(none, 0), rfl, trivial, (h'.own_nil 85 4).ent aEt⟩)
    · try simp only [decide_eq_true_eq, decide_eq_false_iff_not, Bool.not_eq_true', Bool.not_eq_false', Bool.and_eq_true, Bool.or_eq_true, Bool.and_eq_false_iff, Bool.or_eq_false_iff, Bool.not_true, Bool.not_false] at h2
      refine s_skip ?_
      refine s_seq ?_
      refine s_region ?_
      refine o_p (p_pure rfl) rfl ?_
      refine o_p (p_pure rfl) rfl ?_
      refine o_nil ?_
      exact s_retv (rs := [.tmp 4]) rfl (.tmp rfl (.nil)) (fun w' h' => by first | exact ⟨(some ⟨b3, 0, none⟩, c4), rfl, trivial, (HS.to_own (n := 0) (xs := []) (ds := zrow [.int .i64 0, .int .i64 0, .int .i64 0, .int .i64 0] (n * 4)) aPk h' rfl rfl (by omega) (by omega)).ent aEt⟩ | exact ⟨(none, 0), rfl, trivial, (h'.own_nil 85 4).ent aEt⟩)

set_option maxRecDepth 20000 in
theorem c99 (w : World) (a : Option Addr) (cap : Nat) (rs : List (RowV Ace)) (hs : Vl w a (rs.map RowV.v)) (hr : ∀ r ∈ rs, Rw Ace.vals 4 w [] r.a r.l) (hm : (rs.flatMap RowV.l).length ≤ 1000000) (hn : rs.length ≤ 1000) : Calls Tryz.prog 99 #[.slice a rs.length cap] w fun en w' => ∃ g : Option Addr × Nat, en = .returned (.slice g.1 (rs.flatMap RowV.l).length g.2) ∧ True ∧ HS w [] [.own (.slice g.1 (rs.flatMap RowV.l).length g.2) 85 4 (rs.flatMap RowV.l).length ((rs.flatMap RowV.l).flatMap Ace.vals)] w' := by
  refine enter (args := [_]) Tryz.func99 Tryz.ntmps99 rfl rfl (HS.refl w []) ?_
  refine s_seq ?_
  refine s_region ?_
  refine o_p (p_pure rfl) rfl ?_
  refine o_nil ?_
  refine s_seq ?_
  refine s_region ?_
  refine o_p (p_pure rfl) rfl ?_
  refine o_nil ?_
  refine s_seq ?_
  refine s_seq ?_
  refine s_region ?_
  refine o_p (p_pure rfl) rfl ?_
  refine o_p (p_len_slice rfl rfl Tryz.underlying164) rfl ?_
  refine o_p (p_pure rfl) rfl ?_
  refine o_nil ?_
  refine s_block ?_
  refine s_loopI (α := Nat) [3, 5, 11, 12, 13, 14, 15, 16, 17, 18, 19, 20, 21, 22] (fun k => [(11, .int .i64 (k : Int)), (3, .int .i64 ((((rs.take k).flatMap RowV.l).length : Nat) : Int))]) (fun _ => HS w [] []) (fun k => k ≤ rs.length) (fun k => rs.length - k) 0 (Nat.zero_le _) aSx (fun w h => h.ent aEt) (fun k hk1 => ?_)
  refine s_seq ?_
  refine s_region ?_
  refine o_p (p_pure rfl) rfl ?_
  refine o_nil ?_
  refine s_seq ?_
  refine s_cond rfl (fun h1 => ?_) (fun h1 => ?_)
  · try simp only [decide_eq_true_eq, decide_eq_false_iff_not, Bool.not_eq_true', Bool.not_eq_false', Bool.and_eq_true, Bool.or_eq_true, Bool.and_eq_false_iff, Bool.or_eq_false_iff, Bool.not_true, Bool.not_false] at h1
    have hk : k < rs.length := by omega
    have hst := congrArg List.length (rv_succ hk)
    rw [List.length_append] at hst
    have hle := rv_le rs (k + 1)
    refine s_skip ?_
    refine s_seq ?_
    refine s_block ?_
    refine s_seq ?_
    refine s_region ?_
    refine o_p (p_indexAddr rfl rfl rfl sl_164 (k) (by omega) (by omega) (hs.some (by rw [List.length_map]; omega))) rfl ?_
    refine o_q (q_load_old rfl rfl sz_55 ((hs.rd (rv_get hk)))) rfl ?_
    refine o_p (p_pure rfl) rfl ?_
    refine o_nil ?_
    refine s_seq ?_
    refine s_region ?_
    refine o_p (p_pure rfl) rfl ?_
    refine o_p (p_pure rfl) rfl ?_
    refine o_p (p_len_slice rfl rfl Tryz.underlying55) rfl ?_
    refine o_p (p_pure rfl) rfl ?_
    try (refine o_slot (i64w (by omega) (by omega)) ?_)
    refine o_slot (show _ = Value.int .i64 ((((rs.take k).flatMap RowV.l).length + (rs.getD k default).l.length : Nat) : Int) from by congr 1) ?_
    refine o_p (p_pure rfl) rfl ?_
    refine o_nil ?_
    refine s_seq ?_
    refine s_region ?_
    refine o_p (p_pure rfl) rfl ?_
    refine o_p (p_pure rfl) rfl ?_
    refine o_nil ?_
    refine s_cond rfl (fun h2 => ?_) (fun h2 => ?_)
    · try simp only [decide_eq_true_eq, decide_eq_false_iff_not, Bool.not_eq_true', Bool.not_eq_false', Bool.and_eq_true, Bool.or_eq_true, Bool.and_eq_false_iff, Bool.or_eq_false_iff, Bool.not_true, Bool.not_false] at h2
      exfalso; first | omega | (simp at h2; done) | (simp_all; done)
    · try simp only [decide_eq_true_eq, decide_eq_false_iff_not, Bool.not_eq_true', Bool.not_eq_false', Bool.and_eq_true, Bool.or_eq_true, Bool.and_eq_false_iff, Bool.or_eq_false_iff, Bool.not_true, Bool.not_false] at h2
      refine s_skip ?_
      refine s_blk ?_
      refine s_region ?_
      refine o_p (p_pure rfl) rfl ?_
      try (refine o_slot (i64w (by omega) (by omega)) ?_)
      refine o_p (p_pure rfl) rfl ?_
      refine o_nil ?_
      exact s_backI (k + 1) (by omega) (by omega) (by rw [hst]; exact aSx) (fun w h => h.ent aEt)
  · try simp only [decide_eq_true_eq, decide_eq_false_iff_not, Bool.not_eq_true', Bool.not_eq_false', Bool.and_eq_true, Bool.or_eq_true, Bool.and_eq_false_iff, Bool.or_eq_false_iff, Bool.not_true, Bool.not_false] at h1
    obtain rfl : k = rs.length := by omega
    rw [List.take_length]
    refine s_exit_to rfl ?_
    refine s_seq ?_
    refine s_region ?_
    refine o_p (p_pure rfl) rfl ?_
    refine o_h (h_call rfl fn_118 rfl (fun w1 h1 => c118 w1 (rs.flatMap RowV.l).length hm)) rfl (fun gg _ => ?_)
    refine o_p (p_pure rfl) rfl ?_
    refine o_nil ?_
    refine s_seq ?_
    refine s_seq ?_
    refine s_region ?_
    refine o_p (p_pure rfl) rfl ?_
    refine o_p (p_len_slice rfl rfl Tryz.underlying164) rfl ?_
    refine o_p (p_pure rfl) rfl ?_
    refine o_nil ?_
    refine s_block ?_
    refine s_loopI (α := Nat × Option Addr × Nat) [6, 8, 27, 28, 29, 30, 31, 32, 33, 34] (fun x => [(27, .int .i64 (x.1 : Int)), (6, .slice x.2.1 ((rs.take x.1).flatMap RowV.l).length x.2.2)]) (fun x => HS w [] [.own (.slice x.2.1 ((rs.take x.1).flatMap RowV.l).length x.2.2) 85 4 ((rs.take x.1).flatMap RowV.l).length (((rs.take x.1).flatMap RowV.l).flatMap Ace.vals)]) (fun x => x.1 ≤ rs.length) (fun x => rs.length - x.1) (0, gg.1, gg.2) (Nat.zero_le _) aSx (fun w h => h.ent aEt) (fun ⟨k, ga, gc⟩ hk1 => ?_)
    dsimp only
    simp only [] at hk1
    refine s_seq ?_
    refine s_region ?_
    refine o_p (p_pure rfl) rfl ?_
    refine o_nil ?_
    refine s_seq ?_
    refine s_cond rfl (fun h3 => ?_) (fun h3 => ?_)
    · try simp only [decide_eq_true_eq, decide_eq_false_iff_not, Bool.not_eq_true', Bool.not_eq_false', Bool.and_eq_true, Bool.or_eq_true, Bool.and_eq_false_iff, Bool.or_eq_false_iff, Bool.not_true, Bool.not_false] at h3
      have hk : k < rs.length := by omega
      have hst := rv_succ hk
      have hle := rv_le rs (k + 1)
      rw [hst, List.length_append] at hle
      have hmem : rs.getD k default ∈ rs := getD_mem hk
      refine s_skip ?_
      refine s_seq ?_
      refine s_block ?_
      refine s_seq ?_
      refine s_region ?_
      refine o_p (p_indexAddr rfl rfl rfl sl_164 (k) (by omega) (by omega) (hs.some (by rw [List.length_map]; omega))) rfl ?_
      refine o_q (q_load_old rfl rfl sz_55 ((hs.rd (rv_get hk)))) rfl ?_
      refine o_p (p_pure rfl) rfl ?_
      refine o_nil ?_
      refine s_region ?_
      refine o_p (p_pure rfl) rfl ?_
      refine o_p (p_pure rfl) rfl ?_
      refine o_h (h_appendS ((rs.getD k default).l.flatMap Ace.vals) rfl rfl rfl sl_55 Tryz.underlying55 zr_85 rfl aPk (fun w h => Rw.src av4 (hr _ hmem) h) (flat_length av4 _) (flat_one av1 _) (by omega) (by simp only [maxLen]; omega)) rfl (fun b4 _ => ?_)
      refine o_p (p_pure rfl) rfl ?_
      refine o_nil ?_
      refine s_blk ?_
      refine s_region ?_
      refine o_p (p_pure rfl) rfl ?_
      try (refine o_slot (i64w (by omega) (by omega)) ?_)
      refine o_p (p_pure rfl) rfl ?_
      refine o_nil ?_
      exact s_backI (k + 1, b4.1, b4.2) (by (try simp only []); omega) (by (try simp only []); omega) (by dsimp only; rw [hst, List.length_append]; exact aSx) (fun w h => by dsimp only; rw [hst, List.length_append, flat_append]; exact h.ent aEt)
    · try simp only [decide_eq_true_eq, decide_eq_false_iff_not, Bool.not_eq_true', Bool.not_eq_false', Bool.and_eq_true, Bool.or_eq_true, Bool.and_eq_false_iff, Bool.or_eq_false_iff, Bool.not_true, Bool.not_false] at h3
      obtain rfl : k = rs.length := by omega
      rw [List.take_length]
      refine s_exit_to rfl ?_
      refine s_seq ?_
      refine s_region ?_
      refine o_p (p_pure rfl) rfl ?_
      refine o_p (p_pure rfl) rfl ?_
      refine o_nil ?_
      exact s_retv (rs := [.tmp 2]) rfl (.tmp rfl (.nil)) (fun w' h' => ⟨(ga, gc), rfl, trivial, h'.ent aEt⟩)

end Go.Proofs

namespace Go.Proofs
open Go Go.RowKit Gx
set_option linter.unusedVariables false
set_option linter.unusedSimpArgs false
attribute [local irreducible] Go.Calls Gx.S Gx.O Gx.D Gx.OpP Gx.OpQ Gx.OpH

theorem fn_129 : isFn Tryz.prog 129 = true := by kernel_rfl
theorem fd_57_0 : tfd Tryz.prog 57 0 = some (0, 3) := by kernel_rfl
theorem fd_57_1 : tfd Tryz.prog 57 1 = some (1, 3) := by kernel_rfl
theorem fn_127 : isFn Tryz.prog 127 = true := by kernel_rfl
theorem fd_57_5 : tfd Tryz.prog 57 5 = some (5, 55) := by kernel_rfl
theorem fd_57_3 : tfd Tryz.prog 57 3 = some (3, 4) := by kernel_rfl
theorem sz_4 : tsz Tryz.prog 4 = some (1, false) := by kernel_rfl
theorem zr_55 : tzero Tryz.prog 55 = some [.slice none 0 0] := by kernel_rfl
theorem fn_99 : isFn Tryz.prog 99 = true := by kernel_rfl
theorem fn_128 : isFn Tryz.prog 128 = true := by kernel_rfl
theorem sz_57 : tsz Tryz.prog 57 = some (6, true) := by kernel_rfl
theorem fn_117 : isFn Tryz.prog 117 = true := by kernel_rfl
theorem fn_125 : isFn Tryz.prog 125 = true := by kernel_rfl
theorem pl_85 : tplaces Tryz.prog 85 = some [(0, 1), (1, 1), (2, 1), (3, 1)] := by kernel_rfl
theorem fn_126 : isFn Tryz.prog 126 = true := by kernel_rfl
theorem fn_116 : isFn Tryz.prog 116 = true := by kernel_rfl


/-- The error of a descriptor before its entries. -/
def preE (d : Dsc) : Int := if pairE d.ow d.gr = 0 then if d.en.length ≤ 16 ∧ d.au.length ≤ 16 then if d.he || decide (d.en.length = 0) then 0 else 3 else 8 else pairE d.ow d.gr
theorem dsc_first (d : Dsc) {mx : Int} {b : Bool} (hm : mx ≤ 16 ↔ ((d.en.length : Int) ≤ 16 ∧ (d.au.length : Int) ≤ 16)) (hb : b = (d.he || decide (d.en.length = 0))) : firstV [.int .i64 (pairE d.ow d.gr), .int .i64 (cond (decide (mx ≤ 16)) 0 8), .int .i64 (cond b 0 3)] = preE d := by
  subst hb
  unfold preE
  simp only [firstV, cond_eq_ite, decide_eq_true_eq, hm]
  have : ((d.en.length : Int) ≤ 16 ∧ (d.au.length : Int) ≤ 16) ↔ (d.en.length ≤ 16 ∧ d.au.length ≤ 16) := by omega
  simp only [this]
  grind
theorem dsc_pre (d : Dsc) : dscE d = if preE d = 0 then eachF (acesE d.en.length (d.en ++ d.au)) 0 else (0, preE d) := by
  unfold dscE preE
  split
  · split
    · split
      · simp
      · simp
    · simp
  · rename_i h; simp [h]
theorem cat2 (w : World) {b t tot : Nat} {w0 : World} {M : List Nat} {As As' : List HA} (ea aa : Option Addr) (ec ac : Nat) (l m : List Ace) (hw : HS w0 M As w) (hp : Pick As (.blk b t tot [.slice ea l.length ec, .slice aa m.length ac]) As') (hl : Rw Ace.vals 4 w [] ea l) (hm : Rw Ace.vals 4 w [] aa m) (h1 : l.length ≤ 100000) (h2 : m.length ≤ 100000) :
    Calls Tryz.prog 99 #[.slice (some ⟨b, 0, none⟩) 2 2] w fun en w' => ∃ g : Option Addr × Nat, en = .returned (.slice g.1 (l ++ m).length g.2) ∧ True ∧ HS w [] [.own (.slice g.1 (l ++ m).length g.2) 85 4 (l ++ m).length ((l ++ m).flatMap Ace.vals)] w' := by
  have h9 := c99 w (some ⟨b, 0, none⟩) 2 [⟨ea, ec, l⟩, ⟨aa, ac, m⟩] (hw.vl_blk hp) (by intro r hr; simp only [List.mem_cons, List.mem_nil_iff, or_false] at hr; rcases hr with rfl | rfl; exact hl; exact hm) (by simp; omega) (by simp)
  rw [show ([⟨ea, ec, l⟩, ⟨aa, ac, m⟩] : List (RowV Ace)).flatMap RowV.l = l ++ m from by simp] at h9
  exact h9

set_option maxRecDepth 20000 in
theorem c117 (w : World) (d : Dsc) (ea : Option Addr) (eac : Nat) (aa : Option Addr) (aac : Nat) (hse : Rw Ace.vals 4 w [] ea d.en) (hsa : Rw Ace.vals 4 w [] aa d.au) (hme : d.en.length ≤ 100000) (hma : d.au.length ≤ 100000) : Calls Tryz.prog 117 #[.agg #[.int .i64 d.ow, .int .i64 d.gr, .bool d.pr, .bool d.he, .slice ea d.en.length eac, .slice aa d.au.length aac]] w fun en w' => en = .returned (.tuple #[.int .i64 (dscE d).1, .int .i64 (dscE d).2]) ∧ Below w.heap.size w w' := by
  refine enter (args := [_]) Tryz.func117 Tryz.ntmps117 rfl rfl (HS.refl w []) ?_
  refine s_seq ?_
  refine s_region ?_
  refine o_h (h_box rfl rfl) rfl (fun b1 _ => ?_)
  refine o_p (p_pure rfl) rfl ?_
  refine o_p (p_pure rfl) rfl ?_
  refine o_nil ?_
  refine s_seq ?_
  refine s_draw [] mixed ?_
  refine d_p 0 rfl (p_fieldAddr rfl rfl fd_57_0 sz_3 rfl) (by kernel_rfl) rfl rfl ?_
  refine d_q 1 [] rfl (q_load rfl rfl sz_3 aPk rfl) (by kernel_rfl) (by kernel_rfl) (by kernel_rfl) rfl ?_
  refine d_p 2 rfl (p_fieldAddr rfl rfl fd_57_1 sz_3 rfl) (by kernel_rfl) rfl rfl ?_
  refine d_q 3 [] rfl (q_load rfl rfl sz_3 aPk rfl) (by kernel_rfl) (by kernel_rfl) (by kernel_rfl) rfl ?_
  refine d_q 4 [] rfl (q_call rfl fn_127 rfl (fun w1 h1 => c127 w1 _ _)) (by kernel_rfl) (by kernel_rfl) (by kernel_rfl) rfl ?_
  refine d_p 5 rfl (p_fieldAddr rfl rfl fd_57_4 sz_55 rfl) (by kernel_rfl) rfl rfl ?_
  refine d_q 6 [] rfl (q_load rfl rfl sz_55 aPk rfl) (by kernel_rfl) (by kernel_rfl) (by kernel_rfl) rfl ?_
  refine d_p 7 rfl (p_len_slice rfl rfl Tryz.underlying55) (by kernel_rfl) rfl rfl ?_
  refine d_p 8 rfl (p_fieldAddr rfl rfl fd_57_5 sz_55 rfl) (by kernel_rfl) rfl rfl ?_
  refine d_q 9 [] rfl (q_load rfl rfl sz_55 aPk rfl) (by kernel_rfl) (by kernel_rfl) (by kernel_rfl) rfl ?_
  refine d_p 10 rfl (p_len_slice rfl rfl Tryz.underlying55) (by kernel_rfl) rfl rfl ?_
  refine d_p 11 rfl (p_max2 rfl rfl rfl ) (by kernel_rfl) rfl rfl ?_
  refine d_p 12 rfl (p_pure rfl) (by kernel_rfl) rfl rfl ?_
  refine d_q 13 [] rfl (q_call rfl fn_102 rfl (fun w1 h1 => c102 w1 _ _)) (by kernel_rfl) (by kernel_rfl) (by kernel_rfl) rfl ?_
  refine d_p 14 rfl (p_fieldAddr rfl rfl fd_57_3 sz_4 rfl) (by kernel_rfl) rfl rfl ?_
  refine d_q 15 [] rfl (q_load rfl rfl sz_4 aPk rfl) (by kernel_rfl) (by kernel_rfl) (by kernel_rfl) rfl ?_
  refine d_p 16 rfl (p_pure rfl) (by kernel_rfl) rfl rfl ?_
  apply d_split 21
  · exact rfl
  · intro hg2
    have hs3 := hg2; try simp only [decide_eq_true_eq, decide_eq_false_iff_not, Bool.not_eq_true', Bool.not_eq_false', Bool.and_eq_true, Bool.or_eq_true, Bool.and_eq_false_iff, Bool.or_eq_false_iff, Bool.not_true, Bool.not_false] at hs3
    refine d_off 17 21 rfl rfl rfl hg2 (by kernel_rfl) rfl rfl ?_
    refine d_off 18 21 rfl rfl rfl hg2 (by kernel_rfl) rfl rfl ?_
    refine d_off 19 21 rfl rfl rfl hg2 (by kernel_rfl) rfl rfl ?_
    refine d_off 20 21 rfl rfl rfl hg2 (by kernel_rfl) rfl rfl ?_
    refine d_p 21 rfl (p_pickt rfl rfl hg2 rfl) (by kernel_rfl) rfl rfl ?_
    refine d_q 22 [] rfl (q_call rfl fn_102 rfl (fun w1 h1 => c102 w1 _ _)) (by kernel_rfl) (by kernel_rfl) (by kernel_rfl) rfl ?_
    refine d_h 23 rfl (h_buildSlice (cs := [_, _, _]) rfl rfl sl_122 zr_27 rfl rfl rfl) (by kernel_rfl) (fun w h => h.ent aEt) rfl (fun b4 _ => ?_)
    refine d_base (fun w h => h.ent aEt) ?_
    refine d_q 24 [] rfl (q_call rfl fn_101 rfl (fun w1 h1 => f101 h1 aPk (by rfl) (by rfl) (by decide))) (by kernel_rfl) (by kernel_rfl) (by kernel_rfl) rfl ?_
    refine d_p 25 rfl (p_pure rfl) (by kernel_rfl) rfl rfl ?_
    refine d_nil (by kernel_rfl) (fun w h => by first | exact h | exact h.ent aEt) ?_
    refine s_seq ?_
    refine s_seq ?_
    refine s_weaken (L' := [(1, _), (2, _), (3, _), (4, _)]) aSx (fun _ h => h) ?_
    refine s_region ?_
    refine o_p (p_pure rfl) rfl ?_
    refine o_p (p_pure rfl) rfl ?_
    refine o_nil ?_
    refine s_cond rfl (fun h5 => ?_) (fun h5 => ?_)
    · try simp only [decide_eq_true_eq, decide_eq_false_iff_not, Bool.not_eq_true', Bool.not_eq_false', Bool.and_eq_true, Bool.or_eq_true, Bool.and_eq_false_iff, Bool.or_eq_false_iff, Bool.not_true, Bool.not_false] at h5
      have hp9 := dsc_first d (mx := if (d.au.length : Int) > d.en.length then (d.au.length : Int) else d.en.length) (b := d.he || decide ((d.en.length : Int) = 0)) (by split <;> omega) (by congr 1; exact decide_eq_decide.2 (by omega))
      rw [show d.he = _ from hg2] at hp9
      have h0 : ¬ preE d = 0 := by rw [← hp9]; exact h5
      have hse9 : dscE d = (0, preE d) := by rw [dsc_pre, if_neg h0]
      refine s_seq ?_
      refine s_region ?_
      refine o_p (p_pure rfl) rfl ?_
      refine o_p (p_pure rfl) rfl ?_
      refine o_p (p_pure rfl) rfl ?_
      refine o_nil ?_
      exact s_retv (rs := [.tmp 2, .tmp 3]) rfl (.tmp rfl (.tmp rfl (.nil))) (fun w' h' => ⟨by rw [hse9, ← hp9]; rfl, h'.below⟩)
    · try simp only [decide_eq_true_eq, decide_eq_false_iff_not, Bool.not_eq_true', Bool.not_eq_false', Bool.and_eq_true, Bool.or_eq_true, Bool.and_eq_false_iff, Bool.or_eq_false_iff, Bool.not_true, Bool.not_false] at h5
      have hp9 := dsc_first d (mx := if (d.au.length : Int) > d.en.length then (d.au.length : Int) else d.en.length) (b := d.he || decide ((d.en.length : Int) = 0)) (by split <;> omega) (by congr 1; exact decide_eq_decide.2 (by omega))
      rw [show d.he = _ from hg2] at hp9
      have h0 : preE d = 0 := by rw [← hp9]; exact h5
      have hse9 : dscE d = eachF (acesE d.en.length (d.en ++ d.au)) 0 := by rw [dsc_pre, if_pos h0]
      refine s_skip ?_
      refine s_seq ?_
      refine s_region ?_
      refine o_p (p_fieldAddr rfl rfl fd_57_4 sz_55 rfl) rfl ?_
      refine o_q (q_load rfl rfl sz_55 aPk rfl) rfl ?_
      refine o_p (p_fieldAddr rfl rfl fd_57_5 sz_55 rfl) rfl ?_
      refine o_q (q_load rfl rfl sz_55 aPk rfl) rfl ?_
      refine o_h (h_buildSlice (cs := [_, _]) rfl rfl sl_164 zr_55 rfl rfl rfl) rfl (fun b6 _ => ?_)
      refine o_h (h_call rfl fn_99 rfl (fun w1 h1 => cat2 w1 ea aa eac aac d.en d.au h1 aPk (hse.later h1) (hsa.later h1) hme hma)) rfl (fun gl _ => ?_)
      refine o_p (p_pure rfl) rfl ?_
      refine o_q (q_call rfl fn_128 rfl (fun w1 h1 => c128 w1 gl.1 gl.2 (d.en ++ d.au) 129 _ (acesE d.en.length (d.en ++ d.au)) (h1.rw_own av4 aPk rfl) (by simp; omega) fn_129 (aces_len _ _) (fun k w2 hk _ h2 => by have h9 := c129 w2 b1 d.en.length k ea eac (nth (d.en ++ d.au) k) ((h1.rd_blk (i := 4) aPk rfl (by simp)).later h2 (by simp)); rw [aces_get hk]; exact h9))) rfl ?_
      refine o_p (p_pure rfl) rfl ?_
      refine o_p (p_pure rfl) rfl ?_
      refine o_p (p_pure rfl) rfl ?_
      refine o_p (p_pure rfl) rfl ?_
      refine o_nil ?_
      exact s_retv (rs := [.tmp 2, .tmp 3]) rfl (.tmp rfl (.tmp rfl (.nil))) (fun w' h' => ⟨by rw [hse9]; rfl, h'.below⟩)
  · intro hg7
    have hs8 := hg7; try simp only [decide_eq_true_eq, decide_eq_false_iff_not, Bool.not_eq_true', Bool.not_eq_false', Bool.and_eq_true, Bool.or_eq_true, Bool.and_eq_false_iff, Bool.or_eq_false_iff, Bool.not_true, Bool.not_false] at hs8
    refine d_pon 17 21 rfl rfl rfl hg7 (p_fieldAddr rfl rfl fd_57_4 sz_55 rfl) (by kernel_rfl) rfl rfl ?_
    refine d_qon 18 21 [] rfl rfl rfl hg7 (q_load rfl rfl sz_55 aPk rfl) (by kernel_rfl) (by kernel_rfl) (by kernel_rfl) rfl ?_
    refine d_pon 19 21 rfl rfl rfl hg7 (p_len_slice rfl rfl Tryz.underlying55) (by kernel_rfl) rfl rfl ?_
    refine d_pon 20 21 rfl rfl rfl hg7 (p_pure rfl) (by kernel_rfl) rfl rfl ?_
    refine d_p 21 rfl (p_pickf rfl rfl hg7 rfl) (by kernel_rfl) rfl rfl ?_
    refine d_q 22 [] rfl (q_call rfl fn_102 rfl (fun w1 h1 => c102 w1 _ _)) (by kernel_rfl) (by kernel_rfl) (by kernel_rfl) rfl ?_
    refine d_h 23 rfl (h_buildSlice (cs := [_, _, _]) rfl rfl sl_122 zr_27 rfl rfl rfl) (by kernel_rfl) (fun w h => h.ent aEt) rfl (fun b9 _ => ?_)
    refine d_base (fun w h => h.ent aEt) ?_
    refine d_q 24 [] rfl (q_call rfl fn_101 rfl (fun w1 h1 => f101 h1 aPk (by rfl) (by rfl) (by decide))) (by kernel_rfl) (by kernel_rfl) (by kernel_rfl) rfl ?_
    refine d_p 25 rfl (p_pure rfl) (by kernel_rfl) rfl rfl ?_
    refine d_nil (by kernel_rfl) (fun w h => by first | exact h | exact h.ent aEt) ?_
    refine s_seq ?_
    refine s_seq ?_
    refine s_weaken (L' := [(1, _), (2, _), (3, _), (4, _)]) aSx (fun _ h => h) ?_
    refine s_region ?_
    refine o_p (p_pure rfl) rfl ?_
    refine o_p (p_pure rfl) rfl ?_
    refine o_nil ?_
    refine s_cond rfl (fun h10 => ?_) (fun h10 => ?_)
    · try simp only [decide_eq_true_eq, decide_eq_false_iff_not, Bool.not_eq_true', Bool.not_eq_false', Bool.and_eq_true, Bool.or_eq_true, Bool.and_eq_false_iff, Bool.or_eq_false_iff, Bool.not_true, Bool.not_false] at h10
      have hp9 := dsc_first d (mx := if (d.au.length : Int) > d.en.length then (d.au.length : Int) else d.en.length) (b := d.he || decide ((d.en.length : Int) = 0)) (by split <;> omega) (by congr 1; exact decide_eq_decide.2 (by omega))
      rw [show d.he = _ from hg7] at hp9
      have h0 : ¬ preE d = 0 := by rw [← hp9]; exact h10
      have hse9 : dscE d = (0, preE d) := by rw [dsc_pre, if_neg h0]
      refine s_seq ?_
      refine s_region ?_
      refine o_p (p_pure rfl) rfl ?_
      refine o_p (p_pure rfl) rfl ?_
      refine o_p (p_pure rfl) rfl ?_
      refine o_nil ?_
      exact s_retv (rs := [.tmp 2, .tmp 3]) rfl (.tmp rfl (.tmp rfl (.nil))) (fun w' h' => ⟨by rw [hse9, ← hp9]; rfl, h'.below⟩)
    · try simp only [decide_eq_true_eq, decide_eq_false_iff_not, Bool.not_eq_true', Bool.not_eq_false', Bool.and_eq_true, Bool.or_eq_true, Bool.and_eq_false_iff, Bool.or_eq_false_iff, Bool.not_true, Bool.not_false] at h10
      have hp9 := dsc_first d (mx := if (d.au.length : Int) > d.en.length then (d.au.length : Int) else d.en.length) (b := d.he || decide ((d.en.length : Int) = 0)) (by split <;> omega) (by congr 1; exact decide_eq_decide.2 (by omega))
      rw [show d.he = _ from hg7] at hp9
      have h0 : preE d = 0 := by rw [← hp9]; exact h10
      have hse9 : dscE d = eachF (acesE d.en.length (d.en ++ d.au)) 0 := by rw [dsc_pre, if_pos h0]
      refine s_skip ?_
      refine s_seq ?_
      refine s_region ?_
      refine o_p (p_fieldAddr rfl rfl fd_57_4 sz_55 rfl) rfl ?_
      refine o_q (q_load rfl rfl sz_55 aPk rfl) rfl ?_
      refine o_p (p_fieldAddr rfl rfl fd_57_5 sz_55 rfl) rfl ?_
      refine o_q (q_load rfl rfl sz_55 aPk rfl) rfl ?_
      refine o_h (h_buildSlice (cs := [_, _]) rfl rfl sl_164 zr_55 rfl rfl rfl) rfl (fun b11 _ => ?_)
      refine o_h (h_call rfl fn_99 rfl (fun w1 h1 => cat2 w1 ea aa eac aac d.en d.au h1 aPk (hse.later h1) (hsa.later h1) hme hma)) rfl (fun gl _ => ?_)
      refine o_p (p_pure rfl) rfl ?_
      refine o_q (q_call rfl fn_128 rfl (fun w1 h1 => c128 w1 gl.1 gl.2 (d.en ++ d.au) 129 _ (acesE d.en.length (d.en ++ d.au)) (h1.rw_own av4 aPk rfl) (by simp; omega) fn_129 (aces_len _ _) (fun k w2 hk _ h2 => by have h9 := c129 w2 b1 d.en.length k ea eac (nth (d.en ++ d.au) k) ((h1.rd_blk (i := 4) aPk rfl (by simp)).later h2 (by simp)); rw [aces_get hk]; exact h9))) rfl ?_
      refine o_p (p_pure rfl) rfl ?_
      refine o_p (p_pure rfl) rfl ?_
      refine o_p (p_pure rfl) rfl ?_
      refine o_p (p_pure rfl) rfl ?_
      refine o_nil ?_
      exact s_retv (rs := [.tmp 2, .tmp 3]) rfl (.tmp rfl (.tmp rfl (.nil))) (fun w' h' => ⟨by rw [hse9]; rfl, h'.below⟩)

set_option maxRecDepth 20000 in
theorem c97 (w : World) (d : Dsc) (ea : Option Addr) (eac : Nat) (aa : Option Addr) (aac : Nat) (hse : Rw Ace.vals 4 w [] ea d.en) (hsa : Rw Ace.vals 4 w [] aa d.au) (hme : d.en.length ≤ 100000) (hma : d.au.length ≤ 100000) : Calls Tryz.prog 97 #[.agg #[.int .i64 d.ow, .int .i64 d.gr, .bool d.pr, .bool d.he, .slice ea d.en.length eac, .slice aa d.au.length aac]] w fun en w' => en = .returned (.int .i64 (dscE d).2) ∧ Below w.heap.size w w' := by
  refine enter (args := [_]) Tryz.func97 Tryz.ntmps97 rfl rfl (HS.refl w []) ?_
  refine s_seq ?_
  refine s_region ?_
  refine o_h (h_box rfl rfl) rfl (fun b1 _ => ?_)
  refine o_p (p_pure rfl) rfl ?_
  refine o_nil ?_
  refine s_seq ?_
  refine s_region ?_
  refine o_q (q_loadn rfl rfl sz_57 aPk rfl) rfl ?_
  refine o_q (q_call rfl fn_117 rfl (fun w1 h1 => c117 w1 d ea eac aa aac (hse.later h1) (hsa.later h1) hme hma)) rfl ?_
  refine o_p (p_pure rfl) rfl ?_
  refine o_p (p_pure rfl) rfl ?_
  refine o_p (p_pure rfl) rfl ?_
  refine o_p (p_pure rfl) rfl ?_
  refine o_p (p_pure rfl) rfl ?_
  refine o_nil ?_
  refine s_seq ?_
  refine s_region ?_
  refine o_p (p_pure rfl) rfl ?_
  refine o_p (p_pure rfl) rfl ?_
  refine o_nil ?_
  exact s_retv (rs := [.tmp 2]) rfl (.tmp rfl (.nil)) (fun w' h' => ⟨rfl, h'.below⟩)

theorem eachF_at {es : List Int} {k : Nat} (hk : k < es.length) (h : ∀ j, j < k → es.getD j 0 = 0) (h2 : es.getD k 0 ≠ 0) : eachF es 0 = ((k : Int), es.getD k 0) := by
  have key : ∀ i, i ≤ k → eachF es 0 = eachF (es.drop i) i := by
    intro i
    induction i with
    | zero => intro _; rfl
    | succ i ih =>
      intro hi
      rw [ih (by omega), eachF_drop (by omega), if_pos (h i (by omega))]
  rw [key k (Nat.le_refl _), eachF_drop hk, if_neg h2]
theorem eachF_all {es : List Int} (h : ∀ j, j < es.length → es.getD j 0 = 0) : eachF es 0 = (0, 0) := by
  have key : ∀ i, i ≤ es.length → eachF es 0 = eachF (es.drop i) i := by
    intro i
    induction i with
    | zero => intro _; rfl
    | succ i ih =>
      intro hi
      rw [ih (by omega), eachF_drop (by omega), if_pos (h i (by omega))]
  rw [key _ (Nat.le_refl _), List.drop_length]
  rfl
theorem nth_left {α : Type} [Inhabited α] {l m : List α} {k : Nat} (h : k < l.length) : nth (l ++ m) k = nth l k := by
  unfold nth; rw [List.getD_eq_getElem?_getD, List.getElem?_append_left h, ← List.getD_eq_getElem?_getD]
theorem nth_right {α : Type} [Inhabited α] {l m : List α} {k : Nat} (h : l.length ≤ k) : nth (l ++ m) k = nth m (k - l.length) := by
  unfold nth; rw [List.getD_eq_getElem?_getD, List.getElem?_append_right h, ← List.getD_eq_getElem?_getD]

set_option maxRecDepth 20000 in
theorem c116 (w : World) (d : Dsc) (ea : Option Addr) (eac : Nat) (aa : Option Addr) (aac : Nat) (hse : Rw Ace.vals 4 w [] ea d.en) (hsa : Rw Ace.vals 4 w [] aa d.au) (hme : d.en.length ≤ 100000) (hma : d.au.length ≤ 100000) : Calls Tryz.prog 116 #[.agg #[.int .i64 d.ow, .int .i64 d.gr, .bool d.pr, .bool d.he, .slice ea d.en.length eac, .slice aa d.au.length aac]] w fun en w' => en = .returned (.tuple #[.int .i64 (dscE d).1, .int .i64 (dscE d).2]) ∧ Below w.heap.size w w' := by
  refine enter (args := [_]) Tryz.func116 Tryz.ntmps116 rfl rfl (HS.refl w []) ?_
  refine s_seq ?_
  refine s_region ?_
  refine o_h (h_box rfl rfl) rfl (fun b1 _ => ?_)
  refine o_p (p_pure rfl) rfl ?_
  refine o_p (p_pure rfl) rfl ?_
  refine o_nil ?_
  refine s_seq ?_
  refine s_seq ?_
  refine s_region ?_
  refine o_p (p_fieldAddr rfl rfl fd_57_0 sz_3 rfl) rfl ?_
  refine o_q (q_load rfl rfl sz_3 aPk rfl) rfl ?_
  refine o_p (p_fieldAddr rfl rfl fd_57_1 sz_3 rfl) rfl ?_
  refine o_q (q_load rfl rfl sz_3 aPk rfl) rfl ?_
  refine o_q (q_call rfl fn_125 rfl (fun w1 h1 => c125 w1 _ _)) rfl ?_
  refine o_p (p_pure rfl) rfl ?_
  refine o_nil ?_
  refine s_seq ?_
  refine s_region ?_
  refine o_p (p_pure rfl) rfl ?_
  refine o_p (p_pure rfl) rfl ?_
  refine o_nil ?_
  refine s_cond rfl (fun h2 => ?_) (fun h2 => ?_)
  · try simp only [decide_eq_true_eq, decide_eq_false_iff_not, Bool.not_eq_true', Bool.not_eq_false', Bool.and_eq_true, Bool.or_eq_true, Bool.and_eq_false_iff, Bool.or_eq_false_iff, Bool.not_true, Bool.not_false] at h2
    have h0 : ¬ pairE d.ow d.gr = 0 := h2
    have h9 : dscE d = (0, pairE d.ow d.gr) := by unfold dscE; rw [if_neg h0]
    refine s_seq ?_
    refine s_region ?_
    refine o_p (p_pure rfl) rfl ?_
    refine o_p (p_pure rfl) rfl ?_
    refine o_p (p_pure rfl) rfl ?_
    refine o_nil ?_
    exact s_retv (rs := [.tmp 2, .tmp 3]) rfl (.tmp rfl (.tmp rfl (.nil))) (fun w' h' => ⟨by rw [h9]; rfl, h'.below⟩)
  · try simp only [decide_eq_true_eq, decide_eq_false_iff_not, Bool.not_eq_true', Bool.not_eq_false', Bool.and_eq_true, Bool.or_eq_true, Bool.and_eq_false_iff, Bool.or_eq_false_iff, Bool.not_true, Bool.not_false] at h2
    have h0 : pairE d.ow d.gr = 0 := h2
    refine s_skip ?_
    refine s_seq ?_
    refine s_seq ?_
    refine s_region ?_
    refine o_p (p_fieldAddr rfl rfl fd_57_4 sz_55 rfl) rfl ?_
    refine o_q (q_load rfl rfl sz_55 aPk rfl) rfl ?_
    refine o_p (p_len_slice rfl rfl Tryz.underlying55) rfl ?_
    refine o_p (p_pure rfl) rfl ?_
    refine o_p (p_pure rfl) rfl ?_
    refine o_or 5 21 26 _ _ rfl
      (by
        intro hg3
        have hs4 := hg3; try simp only [decide_eq_true_eq, decide_eq_false_iff_not, Bool.not_eq_true', Bool.not_eq_false', Bool.and_eq_true, Bool.or_eq_true, Bool.and_eq_false_iff, Bool.or_eq_false_iff, Bool.not_true, Bool.not_false] at hs4
        refine o_on 21 _ rfl rfl hg3 ?_
        refine o_p (p_fieldAddr rfl rfl fd_57_5 sz_55 rfl) rfl ?_
        refine o_on 21 _ rfl rfl hg3 ?_
        refine o_q (q_load rfl rfl sz_55 aPk rfl) rfl ?_
        refine o_on 21 _ rfl rfl hg3 ?_
        refine o_p (p_len_slice rfl rfl Tryz.underlying55) rfl ?_
        refine o_on 21 _ rfl rfl hg3 ?_
        refine o_p (p_pure rfl) rfl ?_
        refine o_p (p_pickf rfl rfl hg3 rfl) rfl ?_
        refine o_nil ?_
        exact s_joinN 5 26 _ rfl rfl rfl (fun w h => by first | exact h | exact h.ent aEt))
      (by
        intro hg5
        have hs6 := hg5; try simp only [decide_eq_true_eq, decide_eq_false_iff_not, Bool.not_eq_true', Bool.not_eq_false', Bool.and_eq_true, Bool.or_eq_true, Bool.and_eq_false_iff, Bool.or_eq_false_iff, Bool.not_true, Bool.not_false] at hs6
        refine o_off 21 _ rfl rfl hg5 rfl ?_
        refine o_off 21 _ rfl rfl hg5 rfl ?_
        refine o_off 21 _ rfl rfl hg5 rfl ?_
        refine o_off 21 _ rfl rfl hg5 rfl ?_
        refine o_p (p_pickt rfl rfl hg5 rfl) rfl ?_
        refine o_nil ?_
        exact s_joinN 5 26 _ rfl rfl rfl (fun w h => by first | exact h | exact h.ent aEt)) ?_
    refine o_nil ?_
    refine s_cond rfl (fun h7 => ?_) (fun h7 => ?_)
    · try simp only [decide_eq_true_eq, decide_eq_false_iff_not, Bool.not_eq_true', Bool.not_eq_false', Bool.and_eq_true, Bool.or_eq_true, Bool.and_eq_false_iff, Bool.or_eq_false_iff, Bool.not_true, Bool.not_false] at h7
      have h1 : ¬ (d.en.length ≤ 16 ∧ d.au.length ≤ 16) := by have hq := h7; omega
      have h9 : dscE d = (0, 8) := by unfold dscE; rw [if_pos h0, if_neg h1]
      refine s_seq ?_
      refine s_region ?_
      refine o_p (p_pure rfl) rfl ?_
      refine o_p (p_pure rfl) rfl ?_
      refine o_nil ?_
      exact s_retv (rs := [.tmp 2, .tmp 3]) rfl (.tmp rfl (.tmp rfl (.nil))) (fun w' h' => ⟨by rw [h9]; rfl, h'.below⟩)
    · try simp only [decide_eq_true_eq, decide_eq_false_iff_not, Bool.not_eq_true', Bool.not_eq_false', Bool.and_eq_true, Bool.or_eq_true, Bool.and_eq_false_iff, Bool.or_eq_false_iff, Bool.not_true, Bool.not_false] at h7
      have h1 : d.en.length ≤ 16 ∧ d.au.length ≤ 16 := by have hq := h7; omega
      refine s_skip ?_
      refine s_seq ?_
      refine s_seq ?_
      refine s_region ?_
      refine o_p (p_fieldAddr rfl rfl fd_57_4 sz_55 rfl) rfl ?_
      refine o_q (q_load rfl rfl sz_55 aPk rfl) rfl ?_
      refine o_p (p_len_slice rfl rfl Tryz.underlying55) rfl ?_
      refine o_p (p_pure rfl) rfl ?_
      refine o_p (p_pure rfl) rfl ?_
      refine o_and 4 31 35 _ _ rfl
        (by
          intro hg8
          have hs9 := hg8; try simp only [decide_eq_true_eq, decide_eq_false_iff_not, Bool.not_eq_true', Bool.not_eq_false', Bool.and_eq_true, Bool.or_eq_true, Bool.and_eq_false_iff, Bool.or_eq_false_iff, Bool.not_true, Bool.not_false] at hs9
          refine o_on 31 _ rfl rfl hg8 ?_
          refine o_p (p_fieldAddr rfl rfl fd_57_3 sz_4 rfl) rfl ?_
          refine o_on 31 _ rfl rfl hg8 ?_
          refine o_q (q_load rfl rfl sz_4 aPk rfl) rfl ?_
          refine o_on 31 _ rfl rfl hg8 ?_
          refine o_p (p_pure rfl) rfl ?_
          refine o_p (p_pickt rfl rfl hg8 rfl) rfl ?_
          refine o_nil ?_
          exact s_joinN 4 35 _ rfl rfl rfl (fun w h => by first | exact h | exact h.ent aEt))
        (by
          intro hg10
          have hs11 := hg10; try simp only [decide_eq_true_eq, decide_eq_false_iff_not, Bool.not_eq_true', Bool.not_eq_false', Bool.and_eq_true, Bool.or_eq_true, Bool.and_eq_false_iff, Bool.or_eq_false_iff, Bool.not_true, Bool.not_false] at hs11
          refine o_off 31 _ rfl rfl hg10 rfl ?_
          refine o_off 31 _ rfl rfl hg10 rfl ?_
          refine o_off 31 _ rfl rfl hg10 rfl ?_
          refine o_p (p_pickf rfl rfl hg10 rfl) rfl ?_
          refine o_nil ?_
          exact s_joinN 4 35 _ rfl rfl rfl (fun w h => by first | exact h | exact h.ent aEt)) ?_
      refine o_nil ?_
      refine s_cond rfl (fun h12 => ?_) (fun h12 => ?_)
      · try simp only [decide_eq_true_eq, decide_eq_false_iff_not, Bool.not_eq_true', Bool.not_eq_false', Bool.and_eq_true, Bool.or_eq_true, Bool.and_eq_false_iff, Bool.or_eq_false_iff, Bool.not_true, Bool.not_false] at h12
        have h2 : ¬ (d.he || decide (d.en.length = 0)) = true := by have hq := h12; simp; exact ⟨hq.2, by have := hq.1; intro h; rw [h] at this; simp at this⟩
        have h9 : dscE d = (0, 3) := by unfold dscE; rw [if_pos h0, if_pos h1, if_neg h2]
        refine s_seq ?_
        refine s_region ?_
        refine o_p (p_pure rfl) rfl ?_
        refine o_p (p_pure rfl) rfl ?_
        refine o_nil ?_
        exact s_retv (rs := [.tmp 2, .tmp 3]) rfl (.tmp rfl (.tmp rfl (.nil))) (fun w' h' => ⟨by rw [h9]; rfl, h'.below⟩)
      · try simp only [decide_eq_true_eq, decide_eq_false_iff_not, Bool.not_eq_true', Bool.not_eq_false', Bool.and_eq_true, Bool.or_eq_true, Bool.and_eq_false_iff, Bool.or_eq_false_iff, Bool.not_true, Bool.not_false] at h12
        have h2 : (d.he || decide (d.en.length = 0)) = true := by have hq := h12; rcases hq with hq | hq <;> simp at hq ⊢ <;> first | exact .inl hq | exact .inr (by omega) | exact .inr hq
        have h9 : dscE d = eachF (acesE d.en.length (d.en ++ d.au)) 0 := by unfold dscE; rw [if_pos h0, if_pos h1, if_pos h2]
        refine s_skip ?_
        refine s_seq ?_
        refine s_seq ?_
        refine s_region ?_
        refine o_p (p_pure rfl) rfl ?_
        refine o_nil ?_
        refine s_block ?_
        refine s_weaken (L' := [(1, _), (2, _), (3, _), (5, _)]) aSx (fun _ h => h) ?_
        refine s_loopI (α := Nat) [2, 3, 5, 6, 7, 8, 36, 37, 38, 39, 40, 41, 42, 43, 44, 45, 46, 47, 48, 49, 50, 51, 52, 53, 54, 55, 56, 57, 58, 59, 60, 61, 62, 63, 64, 65, 66, 67, 68, 69, 70, 71, 72, 73, 74, 75, 76, 77, 78, 79] (fun k => [(5, .int .i64 (k : Int))]) (fun _ => HS w [] [.blk b1 57 6 [.int .i64 d.ow, .int .i64 d.gr, .bool d.pr, .bool d.he, .slice ea d.en.length eac, .slice aa d.au.length aac]]) (fun k => k ≤ (d.en ++ d.au).length ∧ ∀ j, j < k → (acesE d.en.length (d.en ++ d.au)).getD j 0 = 0) (fun k => (d.en ++ d.au).length - k) 0 ⟨Nat.zero_le _, fun j h => absurd h (Nat.not_lt_zero j)⟩ aSx (fun w h => h.ent aEt) (fun k hk1 => ?_)
        obtain ⟨hk1, hk2⟩ := hk1
        rw [List.length_append] at hk1
        refine s_seq ?_
        refine s_seq ?_
        refine s_region ?_
        refine o_p (p_pure rfl) rfl ?_
        refine o_p (p_fieldAddr rfl rfl fd_57_4 sz_55 rfl) rfl ?_
        refine o_q (q_load rfl rfl sz_55 aPk rfl) rfl ?_
        refine o_p (p_len_slice rfl rfl Tryz.underlying55) rfl ?_
        refine o_p (p_fieldAddr rfl rfl fd_57_5 sz_55 rfl) rfl ?_
        refine o_q (q_load rfl rfl sz_55 aPk rfl) rfl ?_
        refine o_p (p_len_slice rfl rfl Tryz.underlying55) rfl ?_
        refine o_p (p_pure rfl) rfl ?_
        try (refine o_slot (i64w (by omega) (by omega)) ?_)
        refine o_p (p_pure rfl) rfl ?_
        refine o_nil ?_
        refine s_cond rfl (fun h13 => ?_) (fun h13 => ?_)
        · try simp only [decide_eq_true_eq, decide_eq_false_iff_not, Bool.not_eq_true', Bool.not_eq_false', Bool.and_eq_true, Bool.or_eq_true, Bool.and_eq_false_iff, Bool.or_eq_false_iff, Bool.not_true, Bool.not_false] at h13
          have hk : k < (d.en ++ d.au).length := by rw [List.length_append]; omega
          refine s_skip ?_
          refine s_seq ?_
          refine s_block ?_
          refine s_seq ?_
          refine s_region ?_
          refine o_p (p_pure rfl) rfl ?_
          refine o_p (p_fieldAddr rfl rfl fd_57_4 sz_55 rfl) rfl ?_
          refine o_q (q_load rfl rfl sz_55 aPk rfl) rfl ?_
          refine o_p (p_len_slice rfl rfl Tryz.underlying55) rfl ?_
          refine o_p (p_pure rfl) rfl ?_
          refine o_p (p_pure rfl) rfl ?_
          refine o_nil ?_
          refine s_seq ?_
          refine s_region ?_
          refine o_p (p_build (cs := [_, _, _, _]) rfl rfl pl_85 zr_85 rfl) rfl ?_
          refine o_h (h_alloc rfl zr_85) rfl (fun b14 _ => ?_)
          refine o_h0 (h_store rfl rfl rfl sz_85 rfl aPt (by simp only [setMany_length, List.length_set, List.length_cons, List.length_nil, List.length_map]; omega) rfl) (fun _ _ => ?_)
          refine o_nil ?_
          refine s_seq ?_
          refine s_seq ?_
          refine s_region ?_
          refine o_p (p_pure rfl) rfl ?_
          refine o_nil ?_
          refine s_weaken (L' := [(1, _), (5, _), (6, _), (7, _), (53, _)]) aSx (fun _ h => h) ?_
          refine s_cutI (α := Unit) [54, 55, 56, 57, 58, 59, 60, 61, 62, 63, 64, 65, 66, 67] (fun _ => []) (fun _ => HS w [] [.blk b14 85 4 (Ace.vals (nth (d.en ++ d.au) k)), .blk b1 57 6 [.int .i64 d.ow, .int .i64 d.gr, .bool d.pr, .bool d.he, .slice ea d.en.length eac, .slice aa d.au.length aac]]) (fun _ => True) ?_ ?_
          · skip
            refine s_cond rfl (fun h15 => ?_) (fun h15 => ?_)
            · try simp only [decide_eq_true_eq, decide_eq_false_iff_not, Bool.not_eq_true', Bool.not_eq_false', Bool.and_eq_true, Bool.or_eq_true, Bool.and_eq_false_iff, Bool.or_eq_false_iff, Bool.not_true, Bool.not_false] at h15
              have ha4 : d.en.length ≤ k := by have hq := h15; omega
              have hn4 : nth (d.en ++ d.au) k = nth d.au (k - d.en.length) := nth_right ha4
              refine s_region ?_
              refine o_p (p_fieldAddr rfl rfl fd_57_5 sz_55 rfl) rfl ?_
              refine o_q (q_load rfl rfl sz_55 aPk rfl) rfl ?_
              refine o_p (p_pure rfl) rfl ?_
              refine o_p (p_fieldAddr rfl rfl fd_57_4 sz_55 rfl) rfl ?_
              refine o_q (q_load rfl rfl sz_55 aPk rfl) rfl ?_
              refine o_p (p_len_slice rfl rfl Tryz.underlying55) rfl ?_
              refine o_p (p_pure rfl) rfl ?_
              try (refine o_slot (i64w (by omega) (by omega)) ?_)
              refine o_p (p_indexAddr rfl rfl rfl sl_55 (k - d.en.length) (by omega) (by omega) (Rw.some hsa (by omega))) rfl ?_
              refine o_q (q_load_oldn _ rfl rfl sz_85 rfl (Rw.rd hsa (i := k - d.en.length) (by omega))) rfl ?_
              refine o_h0 (h_store rfl rfl rfl sz_85 rfl aPt (by simp only [setMany_length, List.length_set, List.length_cons, List.length_nil, List.length_map]; omega) rfl) (fun _ _ => ?_)
              refine o_nil ?_
              exact s_joinI () trivial aSx (fun w h => by rw [hn4]; exact h.ent aEt)
            · try simp only [decide_eq_true_eq, decide_eq_false_iff_not, Bool.not_eq_true', Bool.not_eq_false', Bool.and_eq_true, Bool.or_eq_true, Bool.and_eq_false_iff, Bool.or_eq_false_iff, Bool.not_true, Bool.not_false] at h15
              have ha4 : k < d.en.length := by have hq := h15; omega
              have hn4 : nth (d.en ++ d.au) k = nth d.en k := nth_left ha4
              refine s_region ?_
              refine o_p (p_fieldAddr rfl rfl fd_57_4 sz_55 rfl) rfl ?_
              refine o_q (q_load rfl rfl sz_55 aPk rfl) rfl ?_
              refine o_p (p_pure rfl) rfl ?_
              refine o_p (p_indexAddr rfl rfl rfl sl_55 (k) (by omega) (by omega) (Rw.some hse (by omega))) rfl ?_
              refine o_q (q_load_oldn _ rfl rfl sz_85 rfl (Rw.rd hse (i := k) (by omega))) rfl ?_
              refine o_h0 (h_store rfl rfl rfl sz_85 rfl aPt (by simp only [setMany_length, List.length_set, List.length_cons, List.length_nil, List.length_map]; omega) rfl) (fun _ _ => ?_)
              refine o_nil ?_
              exact s_joinI () trivial aSx (fun w h => by rw [hn4]; exact h.ent aEt)
          · intro _ _
            refine s_seq ?_
            refine s_seq ?_
            refine s_region ?_
            refine o_q (q_loadn rfl rfl sz_85 aPk rfl) rfl ?_
            refine o_q (q_call rfl fn_126 rfl (fun w1 h1 => c126 w1 _)) rfl ?_
            refine o_p (p_pure rfl) rfl ?_
            refine o_nil ?_
            refine s_seq ?_
            refine s_region ?_
            refine o_p (p_pure rfl) rfl ?_
            refine o_p (p_pure rfl) rfl ?_
            refine o_nil ?_
            refine s_cond rfl (fun h16 => ?_) (fun h16 => ?_)
            · try simp only [decide_eq_true_eq, decide_eq_false_iff_not, Bool.not_eq_true', Bool.not_eq_false', Bool.and_eq_true, Bool.or_eq_true, Bool.and_eq_false_iff, Bool.or_eq_false_iff, Bool.not_true, Bool.not_false] at h16
              have ha5 : ¬ aceE (nth (d.en ++ d.au) k) = 0 := h16
              have he5 := eachF_at (es := (acesE d.en.length (d.en ++ d.au))) (by rw [aces_len]; exact hk) hk2 (by rw [aces_get hk, aceAt, if_neg ha5]; exact ha5)
              rw [aces_get hk, aceAt, if_neg ha5] at he5
              refine s_seq ?_
              refine s_region ?_
              refine o_p (p_pure rfl) rfl ?_
              refine o_p (p_pure rfl) rfl ?_
              refine o_p (p_pure rfl) rfl ?_
              refine o_p (p_pure rfl) rfl ?_
              refine o_nil ?_
              exact s_retv (rs := [.tmp 2, .tmp 3]) rfl (.tmp rfl (.tmp rfl (.nil))) (fun w' h' => ⟨by rw [h9, he5]; rfl, h'.below⟩)
            · try simp only [decide_eq_true_eq, decide_eq_false_iff_not, Bool.not_eq_true', Bool.not_eq_false', Bool.and_eq_true, Bool.or_eq_true, Bool.and_eq_false_iff, Bool.or_eq_false_iff, Bool.not_true, Bool.not_false] at h16
              have ha5 : aceE (nth (d.en ++ d.au) k) = 0 := h16
              refine s_skip ?_
              refine s_seq ?_
              refine s_region ?_
              refine o_p (p_fieldAddr rfl rfl fd_85_0 sz_3 rfl) rfl ?_
              refine o_q (q_load rfl rfl sz_3 aPk rfl) rfl ?_
              refine o_p (p_pure rfl) rfl ?_
              refine o_p (p_pure rfl) rfl ?_
              refine o_p (p_neq_bool rfl rfl rfl Tryz.underlying4) rfl ?_
              refine o_nil ?_
              refine s_cond rfl (fun h17 => ?_) (fun h17 => ?_)
              · try simp only [decide_eq_true_eq, decide_eq_false_iff_not, Bool.not_eq_true', Bool.not_eq_false', Bool.and_eq_true, Bool.or_eq_true, Bool.and_eq_false_iff, Bool.or_eq_false_iff, Bool.not_true, Bool.not_false] at h17
                have ha6 : ¬ (decide ((nth (d.en ++ d.au) k).kd = 2) = decide (d.en.length ≤ k)) := by have hq := beq_eq_false_iff_ne.1 h17; intro h; exact hq (by rw [h]; exact decide_eq_decide.2 (by omega))
                have he5 := eachF_at (es := (acesE d.en.length (d.en ++ d.au))) (by rw [aces_len]; exact hk) hk2 (by rw [aces_get hk, aceAt, if_pos ha5, if_neg ha6]; decide)
                rw [aces_get hk, aceAt, if_pos ha5, if_neg ha6] at he5
                refine s_seq ?_
                refine s_region ?_
                refine o_p (p_pure rfl) rfl ?_
                refine o_p (p_pure rfl) rfl ?_
                refine o_p (p_pure rfl) rfl ?_
                refine o_nil ?_
                exact s_retv (rs := [.tmp 2, .tmp 3]) rfl (.tmp rfl (.tmp rfl (.nil))) (fun w' h' => ⟨by rw [h9, he5]; rfl, h'.below⟩)
              · try simp only [decide_eq_true_eq, decide_eq_false_iff_not, Bool.not_eq_true', Bool.not_eq_false', Bool.and_eq_true, Bool.or_eq_true, Bool.and_eq_false_iff, Bool.or_eq_false_iff, Bool.not_true, Bool.not_false] at h17
                have ha6 : decide ((nth (d.en ++ d.au) k).kd = 2) = decide (d.en.length ≤ k) := by have hq := eq_of_beq h17; rw [hq]; exact decide_eq_decide.2 (by omega)
                refine s_skip ?_
                refine s_blk ?_
                refine s_region ?_
                refine o_p (p_pure rfl) rfl ?_
                refine o_p (p_pure rfl) rfl ?_
                try (refine o_slot (i64w (by omega) (by omega)) ?_)
                refine o_p (p_pure rfl) rfl ?_
                refine o_nil ?_
                exact s_backI (k + 1) (by omega) ⟨by omega, fun j hj => (Nat.lt_or_ge j k).elim (hk2 j) (fun h => by obtain rfl : j = k := (by omega); rw [aces_get hk, aceAt, if_pos ha5, if_pos ha6])⟩ aSx (fun w h => h.ent aEt)
        · try simp only [decide_eq_true_eq, decide_eq_false_iff_not, Bool.not_eq_true', Bool.not_eq_false', Bool.and_eq_true, Bool.or_eq_true, Bool.and_eq_false_iff, Bool.or_eq_false_iff, Bool.not_true, Bool.not_false] at h13
          obtain rfl : k = (d.en ++ d.au).length := by rw [List.length_append]; omega
          refine s_exit_to rfl ?_
          refine s_seq ?_
          refine s_region ?_
          refine o_p (p_pure rfl) rfl ?_
          refine o_p (p_pure rfl) rfl ?_
          refine o_nil ?_
          exact s_retv (rs := [.tmp 2, .tmp 3]) rfl (.tmp rfl (.tmp rfl (.nil))) (fun w' h' => ⟨by rw [h9, eachF_all (by rw [aces_len]; exact hk2)]; rfl, h'.below⟩)

set_option maxRecDepth 20000 in
theorem c95 (w : World) (d : Dsc) (ea : Option Addr) (eac : Nat) (aa : Option Addr) (aac : Nat) (hse : Rw Ace.vals 4 w [] ea d.en) (hsa : Rw Ace.vals 4 w [] aa d.au) (hme : d.en.length ≤ 100000) (hma : d.au.length ≤ 100000) : Calls Tryz.prog 95 #[.agg #[.int .i64 d.ow, .int .i64 d.gr, .bool d.pr, .bool d.he, .slice ea d.en.length eac, .slice aa d.au.length aac]] w fun en w' => en = .returned (.int .i64 (dscE d).2) ∧ Below w.heap.size w w' := by
  refine enter (args := [_]) Tryz.func95 Tryz.ntmps95 rfl rfl (HS.refl w []) ?_
  refine s_seq ?_
  refine s_region ?_
  refine o_h (h_box rfl rfl) rfl (fun b1 _ => ?_)
  refine o_p (p_pure rfl) rfl ?_
  refine o_nil ?_
  refine s_seq ?_
  refine s_region ?_
  refine o_q (q_loadn rfl rfl sz_57 aPk rfl) rfl ?_
  refine o_q (q_call rfl fn_116 rfl (fun w1 h1 => c116 w1 d ea eac aa aac (hse.later h1) (hsa.later h1) hme hma)) rfl ?_
  refine o_p (p_pure rfl) rfl ?_
  refine o_p (p_pure rfl) rfl ?_
  refine o_p (p_pure rfl) rfl ?_
  refine o_p (p_pure rfl) rfl ?_
  refine o_p (p_pure rfl) rfl ?_
  refine o_nil ?_
  refine s_seq ?_
  refine s_region ?_
  refine o_p (p_pure rfl) rfl ?_
  refine o_p (p_pure rfl) rfl ?_
  refine o_nil ?_
  exact s_retv (rs := [.tmp 2]) rfl (.tmp rfl (.nil)) (fun w' h' => ⟨rfl, h'.below⟩)

end Go.Proofs

namespace Go.Proofs
open Go Go.RowKit Gx
set_option linter.unusedVariables false
set_option linter.unusedSimpArgs false
attribute [local irreducible] Go.Calls Gx.S Gx.O Gx.D Gx.OpP Gx.OpQ Gx.OpH



set_option maxRecDepth 20000 in
theorem c18 (w : World) (n : Int) (c : Nat) (hn : 0 ≤ n ∧ n ≤ 9223372036854775807) (hc : c ≤ 1000) : Calls Tryz.prog 18 #[.int .i64 n, .int .i64 (c : Int)] w fun en w' => en = .returned (.string (bs (litB c n))) ∧ Below w.heap.size w w' := by
  refine enter (args := [_, _]) Tryz.func18 Tryz.ntmps18 rfl rfl (HS.refl w []) ?_
  refine s_seq ?_
  refine s_region ?_
  refine o_p (p_pure rfl) rfl ?_
  refine o_nil ?_
  refine s_seq ?_
  refine s_region ?_
  refine o_p (p_pure rfl) rfl ?_
  refine o_nil ?_
  refine s_seq ?_
  refine s_seq ?_
  refine s_region ?_
  refine o_p (p_pure rfl) rfl ?_
  refine o_nil ?_
  refine s_block ?_
  refine s_loopI (α := Nat × Int × List UInt8 × Option Addr × Nat) [0, 5, 6, 7, 8, 9, 10, 11, 12, 13, 14, 15, 16, 17, 18, 19] (fun x => [(6, .int .i64 (x.1 : Int)), (0, .int .i64 x.2.1), (5, .slice x.2.2.2.1 x.2.2.1.length x.2.2.2.2)]) (fun x => HS w [] [.own (.slice x.2.2.2.1 x.2.2.1.length x.2.2.2.2) 5 1 (x.2.2.1.length) ((x.2.2.1).map bv)]) (fun x => x.1 ≤ c ∧ x.2.2.1.length = x.1 ∧ (0 ≤ x.2.1 ∧ x.2.1 ≤ 9223372036854775807) ∧ litB c n = x.2.2.1 ++ litB (c - x.1) x.2.1) (fun x => c - x.1) (0, n, [], none, 0) ⟨Nat.zero_le _, rfl, hn, rfl⟩ aSx (fun w h => (h.own_nil 5 1).ent aEt) (fun ⟨k, m, p, ga, gc⟩ hx => ?_)
  dsimp only
  obtain ⟨hk1, hpl, hm, hst⟩ := hx
  simp only [] at hk1 hpl hm hst
  refine s_seq ?_
  refine s_seq ?_
  refine s_region ?_
  refine o_p (p_pure rfl) rfl ?_
  refine o_p (p_pure rfl) rfl ?_
  refine o_p (p_pure rfl) rfl ?_
  refine o_nil ?_
  refine s_cond rfl (fun h1 => ?_) (fun h1 => ?_)
  · try simp only [decide_eq_true_eq, decide_eq_false_iff_not, Bool.not_eq_true', Bool.not_eq_false', Bool.and_eq_true, Bool.or_eq_true, Bool.and_eq_false_iff, Bool.or_eq_false_iff, Bool.not_true, Bool.not_false] at h1
    have hk : k < c := by omega
    refine s_skip ?_
    refine s_seq ?_
    refine s_block ?_
    refine s_seq ?_
    refine s_region ?_
    refine o_p (p_pure rfl) rfl ?_
    refine o_p (p_pure rfl) rfl ?_
    refine o_p (p_rem_nn rfl rfl rfl (by omega) (by omega)) rfl ?_
    refine o_p (p_conv_int rfl rfl ki_3 ki_5) rfl ?_
    refine o_slot (show _ = bv (by8 m) from (u8_slot _).trans (by rw [by8_eq (show m % 256 % 256 = m % 256 by omega)])) ?_
    refine o_h (h_buildSlice (cs := [_]) rfl rfl sl_79 zr_5 rfl rfl rfl) rfl (fun b2 _ => ?_)
    refine o_h (h_appendS _ rfl rfl rfl sl_79 Tryz.underlying79 zr_5 rfl aPk (src_blk aPk) rfl (by intro u hu; simp only [List.mem_cons, List.mem_nil_iff, or_false] at hu; subst hu; rfl) (by omega) (by simp only [maxLen]; omega)) rfl (fun b3 _ => ?_)
    refine o_p (p_pure rfl) rfl ?_
    refine o_nil ?_
    refine s_region ?_
    refine o_p (p_pure rfl) rfl ?_
    refine o_p (p_quo_nn rfl rfl rfl (by omega) (by omega) (by omega)) rfl ?_
    refine o_p (p_pure rfl) rfl ?_
    refine o_nil ?_
    refine s_blk ?_
    refine s_region ?_
    refine o_p (p_pure rfl) rfl ?_
    refine o_p (p_pure rfl) rfl ?_
    try (refine o_slot (i64w (by omega) (by omega)) ?_)
    refine o_p (p_pure rfl) rfl ?_
    refine o_nil ?_
    exact s_backI (k + 1, m / 256, p ++ [by8 m], b3.1, b3.2) (by (try simp only []); omega) ⟨by (try simp only []); omega, by simp [hpl], by (try simp only []); omega, by simp only []; rw [hst, show c - k = (c - (k + 1)) + 1 by omega, litB, List.append_assoc]; rfl⟩ (by dsimp only; rw [List.length_append]; exact aSx) (fun w h => by dsimp only; rw [List.length_append, List.map_append]; exact h.ent aEt)
  · try simp only [decide_eq_true_eq, decide_eq_false_iff_not, Bool.not_eq_true', Bool.not_eq_false', Bool.and_eq_true, Bool.or_eq_true, Bool.and_eq_false_iff, Bool.or_eq_false_iff, Bool.not_true, Bool.not_false] at h1
    obtain rfl : k = c := by omega
    rw [Nat.sub_self, litB, List.append_nil] at hst
    refine s_exit_to rfl ?_
    refine s_seq ?_
    refine s_region ?_
    refine o_p (p_pure rfl) rfl ?_
    refine o_q (q_string_own rfl rfl Tryz.underlying79 Tryz.underlying9 Tryz.underlying5 aPk (isU8_bv _)) rfl ?_
    refine o_p (p_pure rfl) rfl ?_
    refine o_nil ?_
    exact s_retv (rs := [.tmp 4]) rfl (.tmp rfl (.nil)) (fun w' h' => ⟨by rw [vByte_bv, hst]; rfl, h'.below⟩)

end Go.Proofs

namespace Go.Proofs
open Go Go.RowKit Gx
set_option linter.unusedVariables false
set_option linter.unusedSimpArgs false
attribute [local irreducible] Go.Calls Gx.S Gx.O Gx.D Gx.OpP Gx.OpQ Gx.OpH

theorem fn_110 : isFn Tryz.prog 110 = true := by kernel_rfl
theorem fn_109 : isFn Tryz.prog 109 = true := by kernel_rfl
theorem sz_5 : tsz Tryz.prog 5 = some (1, false) := by kernel_rfl
theorem fn_119 : isFn Tryz.prog 119 = true := by kernel_rfl
theorem fn_103 : isFn Tryz.prog 103 = true := by kernel_rfl
theorem fn_131 : isFn Tryz.prog 131 = true := by kernel_rfl
theorem fn_121 : isFn Tryz.prog 121 = true := by kernel_rfl
theorem fn_108 : isFn Tryz.prog 108 = true := by kernel_rfl
theorem fn_82 : isFn Tryz.prog 82 = true := by kernel_rfl
theorem fn_81 : isFn Tryz.prog 81 = true := by kernel_rfl


set_option maxRecDepth 20000 in
theorem c119 (w : World) (a : Option Addr) (m cap : Nat) (x : List UInt8) (hs : Vl w a (x.map bv)) (hm : x.length = m) (h2 : 2 ≤ m) (hc : m ≤ cap) (hc9 : cap ≤ 9223372036854775807) : Calls Tryz.prog 119 #[.slice a m cap] w fun en w' => en = .returned (.int .u16 (at2 x 0)) ∧ Below w.heap.size w w' := by
  refine enter (args := [_]) Tryz.func119 Tryz.ntmps119 rfl rfl (HS.refl w []) ?_
  refine s_seq ?_
  refine s_region ?_
  refine o_p (p_pure rfl) rfl ?_
  refine o_nil ?_
  refine s_seq ?_
  refine s_draw [] mixed ?_
  refine d_p 0 rfl (p_pure rfl) (by kernel_rfl) rfl rfl ?_
  refine d_p 1 rfl (p_indexAddr rfl rfl rfl sl_79 0 rfl (by omega) (hs.some (by rw [List.length_map]; omega))) (by kernel_rfl) rfl rfl ?_
  refine d_q 2 [] rfl (q_load_old rfl rfl sz_5 ((hs.rd (i := 0) (bv_get (l := x) (k := 0) (by omega))))) (by kernel_rfl) (by kernel_rfl) (by kernel_rfl) rfl ?_
  refine d_p 3 rfl (p_conv_int rfl rfl ki_5 ki_137) (by kernel_rfl) rfl rfl ?_
  refine d_p 4 rfl (p_pure rfl) (by kernel_rfl) rfl rfl ?_
  refine d_p 5 rfl (p_indexAddr rfl rfl rfl sl_79 1 rfl (by omega) (hs.some (by rw [List.length_map]; omega))) (by kernel_rfl) rfl rfl ?_
  refine d_q 6 [] rfl (q_load_old rfl rfl sz_5 ((hs.rd (i := 1) (bv_get (l := x) (k := 1) (by omega))))) (by kernel_rfl) (by kernel_rfl) (by kernel_rfl) rfl ?_
  refine d_p 7 rfl (p_conv_int rfl rfl ki_5 ki_137) (by kernel_rfl) rfl rfl ?_
  refine d_p 8 rfl (p_shl rfl rfl rfl (by decide) 8 rfl) (by kernel_rfl) rfl rfl ?_
  refine d_p 9 rfl (p_pure rfl) (by kernel_rfl) rfl rfl ?_
  refine d_p 10 rfl (p_pure rfl) (by kernel_rfl) rfl rfl ?_
  refine d_nil (by kernel_rfl) (fun w h => by first | exact h | exact h.ent aEt) ?_
  exact s_retv (rs := [.tmp 2]) rfl (.tmp rfl (.nil)) (fun w' h' => ⟨by rw [← g16_slot]; rfl, h'.below⟩)

set_option maxRecDepth 20000 in
theorem c103 (w : World) (a : Option Addr) (m cap : Nat) (x : List UInt8) (hs : Vl w a (x.map bv)) (hm : x.length = m) (h2 : 4 ≤ m) (hc : m ≤ cap) (hc9 : cap ≤ 9223372036854775807) : Calls Tryz.prog 103 #[.slice a m cap] w fun en w' => en = .returned (.int .u32 (at4 x 0)) ∧ Below w.heap.size w w' := by
  have hx2 := at2_le x 0
  have hx3 := at2_le x 2
  refine enter (args := [_]) Tryz.func103 Tryz.ntmps103 rfl rfl (HS.refl w []) ?_
  refine s_seq ?_
  refine s_region ?_
  refine o_p (p_pure rfl) rfl ?_
  refine o_nil ?_
  refine s_seq ?_
  refine s_draw [] mixed ?_
  refine d_p 0 rfl (p_pure rfl) (by kernel_rfl) rfl rfl ?_
  refine d_q 1 [] rfl (q_call rfl fn_119 rfl (fun w1 h1 => c119 w1 a m cap x (hs.later h1) hm (by omega) hc hc9)) (by kernel_rfl) (by kernel_rfl) (by kernel_rfl) rfl ?_
  refine d_p 2 rfl (p_conv_int rfl rfl ki_137 ki_110) (by kernel_rfl) rfl rfl ?_
  refine d_p 3 rfl (p_pure rfl) (by kernel_rfl) rfl rfl ?_
  refine d_p 4 rfl (p_slice _ _ 2 m rfl rfl sl_79 ⟨_, _, rfl, rfl⟩ rfl (by omega) (by omega)) (by kernel_rfl) rfl rfl ?_
  refine d_q 5 [] rfl (q_call rfl fn_119 rfl (fun w1 h1 => c119 w1 (subA a cap 2 1) (m - 2) (cap - 2) (x.drop 2) (by rw [List.map_drop]; exact (hs.later h1).drop (by rw [List.length_map]; omega) (by omega)) (by rw [List.length_drop]; omega) (by omega) (by omega) (by omega))) (by kernel_rfl) (by kernel_rfl) (by kernel_rfl) rfl ?_
  refine d_p 6 rfl (p_conv_int rfl rfl ki_137 ki_110) (by kernel_rfl) rfl rfl ?_
  refine d_p 7 rfl (p_shl rfl rfl rfl (by decide) 16 rfl) (by kernel_rfl) rfl rfl ?_
  refine d_p 8 rfl (p_pure rfl) (by kernel_rfl) rfl rfl ?_
  refine d_p 9 rfl (p_pure rfl) (by kernel_rfl) rfl rfl ?_
  refine d_nil (by kernel_rfl) (fun w h => by first | exact h | exact h.ent aEt) ?_
  exact s_retv (rs := [.tmp 2]) rfl (.tmp rfl (.nil)) (fun w' h' => ⟨by have h9 := g32_slot (at2 x 0) (at2 (x.drop 2) 0) (at2_le _ _) (at2_le _ _); rw [at2_drop] at h9 ⊢; exact (congrArg Ending.returned h9), h'.below⟩)

set_option maxRecDepth 20000 in
theorem c105 (w : World) (a : Option Addr) (m cap : Nat) (x : List UInt8) (hs : Vl w a (x.map bv)) (hm : x.length = m) (h2 : 8 ≤ m) (hc : m ≤ cap) (hc9 : cap ≤ 9223372036854775807) : Calls Tryz.prog 105 #[.slice a m cap] w fun en w' => en = .returned (.agg #[.int .i64 (aceOf x 0).kd, .int .i64 (aceOf x 0).fl, .int .i64 (aceOf x 0).ms, .int .i64 (aceOf x 0).wh]) ∧ Below w.heap.size w w' := by
  have hx2 := at2_le x 2
  have hx4 := at4_le x 4
  have hb0 := (x.getD 0 0).toNat_lt
  have hb1 := (x.getD 1 0).toNat_lt
  refine enter (args := [_]) Tryz.func105 Tryz.ntmps105 rfl rfl (HS.refl w []) ?_
  refine s_seq ?_
  refine s_region ?_
  refine o_h (h_alloc rfl zr_85) rfl (fun b1 _ => ?_)
  refine o_nil ?_
  refine s_seq ?_
  refine s_draw [17] mixed ?_
  refine d_p 0 rfl (p_pure rfl) (by kernel_rfl) rfl rfl ?_
  refine d_p 1 rfl (p_indexAddr rfl rfl rfl sl_79 0 rfl (by omega) (hs.some (by rw [List.length_map]; omega))) (by kernel_rfl) rfl rfl ?_
  refine d_q 2 [[]] rfl (q_load_old rfl rfl sz_5 ((hs.rd (i := 0) (bv_get (l := x) (k := 0) (by omega))))) (by kernel_rfl) (by kernel_rfl) (by kernel_rfl) rfl ?_
  refine d_p 3 rfl (p_conv_int rfl rfl ki_5 ki_3) (by kernel_rfl) rfl rfl ?_
  refine d_slot (show _ = Value.int .i64 (at1 x 0) from i64w (by omega) (by omega)) ?_
  refine d_p 4 rfl (p_pure rfl) (by kernel_rfl) rfl rfl ?_
  refine d_p 5 rfl (p_indexAddr rfl rfl rfl sl_79 1 rfl (by omega) (hs.some (by rw [List.length_map]; omega))) (by kernel_rfl) rfl rfl ?_
  refine d_q 6 [[]] rfl (q_load_old rfl rfl sz_5 ((hs.rd (i := 1) (bv_get (l := x) (k := 1) (by omega))))) (by kernel_rfl) (by kernel_rfl) (by kernel_rfl) rfl ?_
  refine d_p 7 rfl (p_conv_int rfl rfl ki_5 ki_3) (by kernel_rfl) rfl rfl ?_
  refine d_slot (show _ = Value.int .i64 (at1 x 1) from i64w (by omega) (by omega)) ?_
  refine d_p 8 rfl (p_pure rfl) (by kernel_rfl) rfl rfl ?_
  refine d_p 9 rfl (p_slice _ _ 2 m rfl rfl sl_79 ⟨_, _, rfl, rfl⟩ rfl (by omega) (by omega)) (by kernel_rfl) rfl rfl ?_
  refine d_q 10 [[]] rfl (q_call rfl fn_119 rfl (fun w1 h1 => c119 w1 (subA a cap 2 1) (m - 2) (cap - 2) (x.drop 2) (by rw [List.map_drop]; exact (hs.later h1).drop (by rw [List.length_map]; omega) (by omega)) (by rw [List.length_drop]; omega) (by omega) (by omega) (by omega))) (by kernel_rfl) (by kernel_rfl) (by kernel_rfl) rfl ?_
  refine d_p 11 rfl (p_conv_int rfl rfl ki_137 ki_3) (by kernel_rfl) rfl rfl ?_
  refine d_slot (show _ = Value.int .i64 (at2 x 2) from by rw [at2_drop, Nat.add_zero]; exact i64w (by omega) (by omega)) ?_
  refine d_p 12 rfl (p_pure rfl) (by kernel_rfl) rfl rfl ?_
  refine d_p 13 rfl (p_slice _ _ 4 m rfl rfl sl_79 ⟨_, _, rfl, rfl⟩ rfl (by omega) (by omega)) (by kernel_rfl) rfl rfl ?_
  refine d_q 14 [[]] rfl (q_call rfl fn_103 rfl (fun w1 h1 => c103 w1 (subA a cap 4 1) (m - 4) (cap - 4) (x.drop 4) (by rw [List.map_drop]; exact (hs.later h1).drop (by rw [List.length_map]; omega) (by omega)) (by rw [List.length_drop]; omega) (by omega) (by omega) (by omega))) (by kernel_rfl) (by kernel_rfl) (by kernel_rfl) rfl ?_
  refine d_p 15 rfl (p_conv_int rfl rfl ki_110 ki_3) (by kernel_rfl) rfl rfl ?_
  refine d_slot (show _ = Value.int .i64 (at4 x 4) from by rw [at4_drop, Nat.add_zero]; exact i64w (by omega) (by omega)) ?_
  refine d_p 16 rfl (p_build (cs := [_, _, _, _]) rfl rfl pl_85 zr_85 rfl) (by kernel_rfl) rfl rfl ?_
  refine d_h0 17 rfl (h_store rfl rfl rfl sz_85 rfl aPt (by simp only [setMany_length, List.length_set, List.length_cons, List.length_nil, List.length_map]; omega) rfl) (by kernel_rfl) (fun w h => h.ent aEt) (fun _ _ => ?_)
  refine d_turn [] (by kernel_rfl) ?_
  refine d_nil (by kernel_rfl) (fun w h => by first | exact h | exact h.ent aEt) ?_
  exact s_retv (rs := [.cell 2 85]) rfl (.cell rfl sz_85 aPk rfl (.nil)) (fun w' h' => ⟨by rfl, h'.below⟩)

set_option maxRecDepth 20000 in
theorem c121 (w : World) (s : List UInt8) (hm : s.length ≤ 200000) : Calls Tryz.prog 121 #[.string (bs s)] w fun en w' => en = .returned (.int .i64 0) ∧ Below w.heap.size w w' := by
  refine enter (args := [_]) Tryz.func121 Tryz.ntmps121 rfl rfl (HS.refl w []) ?_
  refine s_seq ?_
  refine s_region ?_
  refine o_p (p_pure rfl) rfl ?_
  refine o_nil ?_
  refine s_seq ?_
  refine s_region ?_
  refine o_p (p_pure rfl) rfl ?_
  refine o_p (p_len_str rfl rfl Tryz.underlying9) rfl ?_
  refine o_p (p_pure rfl) rfl ?_
  refine o_q (q_call rfl fn_131 rfl (fun w1 h1 => c131 w1 _ _)) rfl ?_
  refine o_p (p_pure rfl) rfl ?_
  refine o_nil ?_
  exact s_retv (rs := [.tmp 2]) rfl (.tmp rfl (.nil)) (fun w' h' => ⟨by rw [show decide ((s.length : Int) ≤ 200000) = true from decide_eq_true (by omega)]; rfl, h'.below⟩)

set_option maxRecDepth 20000 in
theorem c108 (w : World) (s : List UInt8) (n0 : Int) (q : Nat) (cv : Array Value) (st : Int → UInt8 → Int) (hm : s.length ≤ 200000) (hn : 0 ≤ n0 ∧ n0 < 2147483648) (hst : ∀ n c, 0 ≤ st n c ∧ st n c < 2147483648) (hq : isFn Tryz.prog q = true) (hc : ∀ n c w1, 0 ≤ n ∧ n < 2147483648 → Calls Tryz.prog q (#[] ++ [.int .i64 n, .int .i64 ((c : UInt8).toNat : Int)].toArray ++ cv) w1 fun en w2 => en = .returned (.int .i64 (st n c)) ∧ Below w1.heap.size w1 w2) : Calls Tryz.prog 108 #[.string (bs s), .int .i64 n0, .func (.func q) #[] cv] w fun en w' => en = .returned (.tuple #[.int .i64 (s.foldl st n0), .int .i64 0]) ∧ Below w.heap.size w w' := by
  refine enter (args := [_, _, _]) Tryz.func108 Tryz.ntmps108 rfl rfl (HS.refl w []) ?_
  refine s_seq ?_
  refine s_region ?_
  refine o_p (p_pure rfl) rfl ?_
  refine o_p (p_pure rfl) rfl ?_
  refine o_nil ?_
  refine s_seq ?_
  refine s_seq ?_
  refine s_region ?_
  refine o_p (p_pure rfl) rfl ?_
  refine o_q (q_call rfl fn_121 rfl (fun w1 h1 => c121 w1 s hm)) rfl ?_
  refine o_p (p_pure rfl) rfl ?_
  refine o_nil ?_
  refine s_seq ?_
  refine s_region ?_
  refine o_p (p_pure rfl) rfl ?_
  refine o_p (p_pure rfl) rfl ?_
  refine o_nil ?_
  refine s_cond rfl (fun h1 => ?_) (fun h1 => ?_)
  · try simp only [decide_eq_true_eq, decide_eq_false_iff_not, Bool.not_eq_true', Bool.not_eq_false', Bool.and_eq_true, Bool.or_eq_true, Bool.and_eq_false_iff, Bool.or_eq_false_iff, Bool.not_true, Bool.not_false] at h1
    exfalso; first | omega | (simp at h1; done) | (simp_all; done)
  · try simp only [decide_eq_true_eq, decide_eq_false_iff_not, Bool.not_eq_true', Bool.not_eq_false', Bool.and_eq_true, Bool.or_eq_true, Bool.and_eq_false_iff, Bool.or_eq_false_iff, Bool.not_true, Bool.not_false] at h1
    refine s_skip ?_
    refine s_seq ?_
    refine s_seq ?_
    refine s_region ?_
    refine o_p (p_pure rfl) rfl ?_
    refine o_h (h_bytes rfl rfl Tryz.underlying9 Tryz.underlying79 Tryz.underlying5 rfl (by simp only [maxLen]; omega)) rfl (fun ⟨b2, c3⟩ ⟨h4, k5⟩ => ?_)
    refine o_p (p_len_slice rfl rfl Tryz.underlying79) rfl ?_
    refine o_p (p_pure rfl) rfl ?_
    refine o_nil ?_
    refine s_block ?_
    refine s_loopI (α := Nat) [1, 10, 19, 20, 21, 22, 23, 24, 25, 26, 27, 28] (fun k => [(19, .int .i64 (k : Int)), (1, .int .i64 ((s.take k).foldl st n0))]) (fun _ => _) (fun k => k ≤ s.length) (fun k => s.length - k) 0 (Nat.zero_le _) aSx (fun w h => h) (fun k hk1 => ?_)
    refine s_seq ?_
    refine s_region ?_
    refine o_p (p_pure rfl) rfl ?_
    refine o_nil ?_
    refine s_seq ?_
    refine s_cond rfl (fun h6 => ?_) (fun h6 => ?_)
    · try simp only [decide_eq_true_eq, decide_eq_false_iff_not, Bool.not_eq_true', Bool.not_eq_false', Bool.and_eq_true, Bool.or_eq_true, Bool.and_eq_false_iff, Bool.or_eq_false_iff, Bool.not_true, Bool.not_false] at h6
      have hk : k < s.length := by omega
      have hs9 := foldl_succ (f := st) (a := n0) hk
      have hle := foldl_le hst (s.take k) n0 hn
      have hb9 := (s.getD k 0).toNat_lt
      refine s_skip ?_
      refine s_seq ?_
      refine s_block ?_
      refine s_seq ?_
      refine s_region ?_
      refine o_p (p_indexAddr rfl rfl rfl sl_79 (k) (by omega) (by omega) rfl) rfl ?_
      refine o_q (q_load_at rfl rfl sz_5 (fun w h => by rw [Nat.zero_add]; exact h.rd_blk (Mc := []) aPk (by rw [Nat.mul_one]; exact bv_get hk) (by simp))) rfl ?_
      refine o_p (p_pure rfl) rfl ?_
      refine o_nil ?_
      refine s_region ?_
      refine o_p (p_pure rfl) rfl ?_
      refine o_p (p_pure rfl) rfl ?_
      refine o_p (p_pure rfl) rfl ?_
      refine o_p (p_conv_int rfl rfl ki_5 ki_3) rfl ?_
      try (refine o_slot (i64w (by omega) (by omega)) ?_)
      refine o_q (q_callv rfl rfl hq rfl (fun w1 h1 => hc ((s.take k).foldl st n0) (s.getD k 0) w1 hle)) rfl ?_
      refine o_p (p_pure rfl) rfl ?_
      refine o_nil ?_
      refine s_blk ?_
      refine s_region ?_
      refine o_p (p_pure rfl) rfl ?_
      try (refine o_slot (i64w (by omega) (by omega)) ?_)
      refine o_p (p_pure rfl) rfl ?_
      refine o_nil ?_
      exact s_backI (k + 1) (by omega) (by omega) (by rw [hs9]; exact aSx) (fun w h => h)
    · try simp only [decide_eq_true_eq, decide_eq_false_iff_not, Bool.not_eq_true', Bool.not_eq_false', Bool.and_eq_true, Bool.or_eq_true, Bool.and_eq_false_iff, Bool.or_eq_false_iff, Bool.not_true, Bool.not_false] at h6
      obtain rfl : k = s.length := by omega
      rw [List.take_length]
      refine s_exit_to rfl ?_
      refine s_seq ?_
      refine s_region ?_
      refine o_p (p_pure rfl) rfl ?_
      refine o_p (p_pure rfl) rfl ?_
      refine o_p (p_pure rfl) rfl ?_
      refine o_nil ?_
      exact s_retv (rs := [.tmp 6, .tmp 7]) rfl (.tmp rfl (.tmp rfl (.nil))) (fun w' h' => ⟨by rfl, h'.below⟩)

set_option maxRecDepth 20000 in
theorem c110 (w : World) (n : Int) (c : UInt8) (hn : 0 ≤ n ∧ n < 2147483648) : Calls Tryz.prog 110 #[.int .i64 n, .int .i64 (c.toNat : Int)] w fun en w' => en = .returned (.int .i64 (hStep' n c)) ∧ Below w.heap.size w w' := by
  have hb := c.toNat_lt
  refine enter (args := [_, _]) Tryz.func110 Tryz.ntmps110 rfl rfl (HS.refl w []) ?_
  refine s_seq ?_
  refine s_region ?_
  refine o_p (p_pure rfl) rfl ?_
  refine o_nil ?_
  refine s_seq ?_
  refine s_region ?_
  refine o_p (p_pure rfl) rfl ?_
  refine o_p (p_pure rfl) rfl ?_
  try (refine o_slot (i64w (by omega) (by omega)) ?_)
  refine o_p (p_pure rfl) rfl ?_
  refine o_p (p_pure rfl) rfl ?_
  try (refine o_slot (i64w (by omega) (by omega)) ?_)
  refine o_p (p_rem_nn rfl rfl rfl (by omega) (by omega)) rfl ?_
  refine o_p (p_pure rfl) rfl ?_
  refine o_nil ?_
  exact s_retv (rs := [.tmp 4]) rfl (.tmp rfl (.nil)) (fun w' h' => ⟨by rfl, h'.below⟩)

set_option maxRecDepth 20000 in
theorem c109 (w : World) (n : Int) (c : UInt8) (hn : 0 ≤ n ∧ n < 2147483648) : Calls Tryz.prog 109 #[.int .i64 n, .int .i64 (c.toNat : Int)] w fun en w' => en = .returned (.int .i64 (sStep n c)) ∧ Below w.heap.size w w' := by
  have hb := c.toNat_lt
  obtain ⟨m, rfl⟩ := Int.eq_ofNat_of_zero_le hn.1
  refine enter (args := [_, _]) Tryz.func109 Tryz.ntmps109 rfl rfl (HS.refl w []) ?_
  refine s_seq ?_
  refine s_region ?_
  refine o_p (p_pure rfl) rfl ?_
  refine o_nil ?_
  refine s_seq ?_
  refine s_region ?_
  refine o_p (p_pure rfl) rfl ?_
  refine o_p (p_shl rfl rfl rfl (by decide) 1 rfl) rfl ?_
  refine o_p (p_pure rfl) rfl ?_
  refine o_p (p_pure rfl) rfl ?_
  refine o_p (p_shr rfl rfl rfl (by decide) 30 rfl) rfl ?_
  refine o_p (p_pure rfl) rfl ?_
  refine o_slot (show _ = Value.int .i64 ((2 * m % 2147483648 + m / 1073741824 : Nat) : Int) from rot31 m (by omega)) ?_
  refine o_p (p_pure rfl) rfl ?_
  refine o_nil ?_
  refine s_seq ?_
  refine s_region ?_
  refine o_p (p_pure rfl) rfl ?_
  refine o_p (p_pure rfl) rfl ?_
  refine o_p (p_pure rfl) rfl ?_
  refine o_slot (i64w (by omega) (by omega)) ?_
  refine o_p (p_rem_nn rfl rfl rfl (by omega) (by omega)) rfl ?_
  refine o_p (p_pure rfl) rfl ?_
  refine o_nil ?_
  exact s_retv (rs := [.tmp 4]) rfl (.tmp rfl (.nil)) (fun w' h' => ⟨by unfold sStep; rw [show (2 * (m : Int) % 2147483648 + (m : Int) / 1073741824) = ((2 * m % 2147483648 + m / 1073741824 : Nat) : Int) by omega]; rfl, h'.below⟩)

set_option maxRecDepth 20000 in
theorem c82 (w : World) (s : List UInt8) (hm : s.length ≤ 200000) : Calls Tryz.prog 82 #[.string (bs s)] w fun en w' => en = .returned (.tuple #[.int .i64 (hashS s), .int .i64 0]) ∧ Below w.heap.size w w' := by
  refine enter (args := [_]) Tryz.func82 Tryz.ntmps82 rfl rfl (HS.refl w []) ?_
  refine s_seq ?_
  refine s_region ?_
  refine o_p (p_pure rfl) rfl ?_
  refine o_p (p_pure rfl) rfl ?_
  refine o_nil ?_
  refine s_seq ?_
  refine s_region ?_
  refine o_p (p_pure rfl) rfl ?_
  refine o_q (q_call rfl fn_108 rfl (fun w1 h1 => c108 w1 s 17 110 #[] hStep' hm (by omega) hStep'_le fn_110 (fun n c w2 hn => c110 w2 n c hn))) rfl ?_
  refine o_p (p_pure rfl) rfl ?_
  refine o_p (p_pure rfl) rfl ?_
  refine o_p (p_pure rfl) rfl ?_
  refine o_p (p_pure rfl) rfl ?_
  refine o_nil ?_
  exact s_retv (rs := [.tmp 2, .tmp 3]) rfl (.tmp rfl (.tmp rfl (.nil))) (fun w' h' => ⟨by rfl, h'.below⟩)

set_option maxRecDepth 20000 in
theorem c56 (w : World) (s : List UInt8) (hm : s.length ≤ 200000) : Calls Tryz.prog 56 #[.string (bs s)] w fun en w' => en = .returned (.int .i64 (hashS s)) ∧ Below w.heap.size w w' := by
  refine enter (args := [_]) Tryz.func56 Tryz.ntmps56 rfl rfl (HS.refl w []) ?_
  refine s_seq ?_
  refine s_region ?_
  refine o_p (p_pure rfl) rfl ?_
  refine o_nil ?_
  refine s_seq ?_
  refine s_region ?_
  refine o_p (p_pure rfl) rfl ?_
  refine o_q (q_call rfl fn_82 rfl (fun w1 h1 => c82 w1 s hm)) rfl ?_
  refine o_p (p_pure rfl) rfl ?_
  refine o_p (p_pure rfl) rfl ?_
  refine o_p (p_pure rfl) rfl ?_
  refine o_p (p_pure rfl) rfl ?_
  refine o_p (p_pure rfl) rfl ?_
  refine o_nil ?_
  refine s_seq ?_
  refine s_region ?_
  refine o_p (p_pure rfl) rfl ?_
  refine o_p (p_pure rfl) rfl ?_
  refine o_nil ?_
  exact s_retv (rs := [.tmp 2]) rfl (.tmp rfl (.nil)) (fun w' h' => ⟨by rfl, h'.below⟩)

set_option maxRecDepth 20000 in
theorem c81 (w : World) (s : List UInt8) (hm : s.length ≤ 200000) : Calls Tryz.prog 81 #[.string (bs s)] w fun en w' => en = .returned (.tuple #[.int .i64 (sumS s), .int .i64 0]) ∧ Below w.heap.size w w' := by
  refine enter (args := [_]) Tryz.func81 Tryz.ntmps81 rfl rfl (HS.refl w []) ?_
  refine s_seq ?_
  refine s_region ?_
  refine o_p (p_pure rfl) rfl ?_
  refine o_p (p_pure rfl) rfl ?_
  refine o_nil ?_
  refine s_seq ?_
  refine s_region ?_
  refine o_p (p_pure rfl) rfl ?_
  refine o_q (q_call rfl fn_108 rfl (fun w1 h1 => c108 w1 s 0 109 #[] sStep hm (by omega) sStep_le fn_109 (fun n c w2 hn => c109 w2 n c hn))) rfl ?_
  refine o_p (p_pure rfl) rfl ?_
  refine o_p (p_pure rfl) rfl ?_
  refine o_p (p_pure rfl) rfl ?_
  refine o_p (p_pure rfl) rfl ?_
  refine o_nil ?_
  exact s_retv (rs := [.tmp 2, .tmp 3]) rfl (.tmp rfl (.tmp rfl (.nil))) (fun w' h' => ⟨by rfl, h'.below⟩)

set_option maxRecDepth 20000 in
theorem c55 (w : World) (s : List UInt8) (hm : s.length ≤ 200000) : Calls Tryz.prog 55 #[.string (bs s)] w fun en w' => en = .returned (.int .i64 (sumS s)) ∧ Below w.heap.size w w' := by
  refine enter (args := [_]) Tryz.func55 Tryz.ntmps55 rfl rfl (HS.refl w []) ?_
  refine s_seq ?_
  refine s_region ?_
  refine o_p (p_pure rfl) rfl ?_
  refine o_nil ?_
  refine s_seq ?_
  refine s_region ?_
  refine o_p (p_pure rfl) rfl ?_
  refine o_q (q_call rfl fn_81 rfl (fun w1 h1 => c81 w1 s hm)) rfl ?_
  refine o_p (p_pure rfl) rfl ?_
  refine o_p (p_pure rfl) rfl ?_
  refine o_p (p_pure rfl) rfl ?_
  refine o_p (p_pure rfl) rfl ?_
  refine o_p (p_pure rfl) rfl ?_
  refine o_nil ?_
  refine s_seq ?_
  refine s_region ?_
  refine o_p (p_pure rfl) rfl ?_
  refine o_p (p_pure rfl) rfl ?_
  refine o_nil ?_
  exact s_retv (rs := [.tmp 2]) rfl (.tmp rfl (.nil)) (fun w' h' => ⟨by rfl, h'.below⟩)

set_option maxRecDepth 20000 in
theorem c39 (w : World) (s : List UInt8) (hm : s.length ≤ 1000000000) : Calls Tryz.prog 39 #[.string (bs s)] w fun en w' => en = .returned (.int .i64 (hashS s)) ∧ Below w.heap.size w w' := by
  refine enter (args := [_]) Tryz.func39 Tryz.ntmps39 rfl rfl (HS.refl w []) ?_
  refine s_seq ?_
  refine s_region ?_
  refine o_p (p_pure rfl) rfl ?_
  refine o_nil ?_
  refine s_seq ?_
  refine s_region ?_
  refine o_p (p_pure rfl) rfl ?_
  refine o_nil ?_
  refine s_seq ?_
  refine s_seq ?_
  refine s_region ?_
  refine o_p (p_pure rfl) rfl ?_
  refine o_nil ?_
  refine s_block ?_
  refine s_loopI (α := Nat) [3, 4, 5, 6, 7, 8, 9, 10, 11, 12, 13, 14, 15, 16, 17, 18] (fun k => [(4, .int .i64 (k : Int)), (3, .int .i64 ((s.take k).foldl hStep' 17))]) (fun _ => _) (fun k => k ≤ s.length) (fun k => s.length - k) 0 (Nat.zero_le _) aSx (fun w h => h) (fun k hk1 => ?_)
  refine s_seq ?_
  refine s_seq ?_
  refine s_region ?_
  refine o_p (p_pure rfl) rfl ?_
  refine o_p (p_pure rfl) rfl ?_
  refine o_p (p_len_str rfl rfl Tryz.underlying9) rfl ?_
  refine o_p (p_pure rfl) rfl ?_
  refine o_nil ?_
  refine s_cond rfl (fun h1 => ?_) (fun h1 => ?_)
  · try simp only [decide_eq_true_eq, decide_eq_false_iff_not, Bool.not_eq_true', Bool.not_eq_false', Bool.and_eq_true, Bool.or_eq_true, Bool.and_eq_false_iff, Bool.or_eq_false_iff, Bool.not_true, Bool.not_false] at h1
    have hk : k < s.length := by omega
    have hs9 := foldl_succ (f := hStep') (a := (17 : Int)) hk
    have hle := foldl_le hStep'_le (s.take k) 17 (by omega)
    have hb9 := (s.getD k 0).toNat_lt
    refine s_skip ?_
    refine s_seq ?_
    refine s_block ?_
    refine s_region ?_
    refine o_p (p_pure rfl) rfl ?_
    refine o_p (p_pure rfl) rfl ?_
    try (refine o_slot (i64w (by omega) (by omega)) ?_)
    refine o_p (p_pure rfl) rfl ?_
    refine o_p (p_pure rfl) rfl ?_
    refine o_p (p_index_str rfl rfl rfl Tryz.underlying9 (k) (by omega) (by omega)) rfl ?_
    refine o_p (p_conv_int rfl rfl ki_5 ki_3) rfl ?_
    try (refine o_slot (i64w (by omega) (by omega)) ?_)
    refine o_p (p_pure rfl) rfl ?_
    try (refine o_slot (i64w (by omega) (by omega)) ?_)
    refine o_p (p_rem_nn rfl rfl rfl (by omega) (by omega)) rfl ?_
    refine o_p (p_pure rfl) rfl ?_
    refine o_nil ?_
    refine s_blk ?_
    refine s_region ?_
    refine o_p (p_pure rfl) rfl ?_
    refine o_p (p_pure rfl) rfl ?_
    try (refine o_slot (i64w (by omega) (by omega)) ?_)
    refine o_p (p_pure rfl) rfl ?_
    refine o_nil ?_
    exact s_backI (k + 1) (by omega) (by omega) (by rw [hs9]; exact aSx) (fun w h => h)
  · try simp only [decide_eq_true_eq, decide_eq_false_iff_not, Bool.not_eq_true', Bool.not_eq_false', Bool.and_eq_true, Bool.or_eq_true, Bool.and_eq_false_iff, Bool.or_eq_false_iff, Bool.not_true, Bool.not_false] at h1
    obtain rfl : k = s.length := by omega
    rw [List.take_length]
    refine s_exit_to rfl ?_
    refine s_seq ?_
    refine s_region ?_
    refine o_p (p_pure rfl) rfl ?_
    refine o_p (p_pure rfl) rfl ?_
    refine o_nil ?_
    exact s_retv (rs := [.tmp 2]) rfl (.tmp rfl (.nil)) (fun w' h' => ⟨by rfl, h'.below⟩)

end Go.Proofs

namespace Go.Proofs
open Go Go.RowKit Gx
set_option linter.unusedVariables false
set_option linter.unusedSimpArgs false
attribute [local irreducible] Go.Calls Gx.S Gx.O Gx.D Gx.OpP Gx.OpQ Gx.OpH

theorem fn_97 : isFn Tryz.prog 97 = true := by kernel_rfl
theorem fd_57_2 : tfd Tryz.prog 57 2 = some (2, 4) := by kernel_rfl
theorem fn_98 : isFn Tryz.prog 98 = true := by kernel_rfl


def h4B (d : Dsc) : List UInt8 := [1, by8 (flagB d), by8 d.en.length, by8 d.au.length]
theorem headB_eq (d : Dsc) : headB d = h4B d ++ le4 d.ow ++ le4 d.gr := rfl
theorem st_succ (h x : List UInt8) (a : Ace) : h ++ (x ++ aceB a) = h ++ x ++ [by8 a.kd, by8 a.fl] ++ le2 a.ms ++ le4 a.wh := by
  simp only [aceB, List.append_assoc, List.cons_append, List.nil_append]

set_option maxRecDepth 20000 in
set_option maxHeartbeats 1000000 in
theorem c70 (w : World) (d : Dsc) (ea : Option Addr) (eac : Nat) (aa : Option Addr) (aac : Nat) (hse : Rw Ace.vals 4 w [] ea d.en) (hsa : Rw Ace.vals 4 w [] aa d.au) (hme : d.en.length ≤ 100000) (hma : d.au.length ≤ 100000) : Calls Tryz.prog 70 #[.agg #[.int .i64 d.ow, .int .i64 d.gr, .bool d.pr, .bool d.he, .slice ea d.en.length eac, .slice aa d.au.length aac]] w fun en w' => en = .returned (.tuple #[.string (bs (if (dscE d).2 = 0 then encD d else [])), .int .i64 (dscE d).2]) ∧ Below w.heap.size w w' := by
  refine enter (args := [_]) Tryz.func70 Tryz.ntmps70 rfl rfl (HS.refl w []) ?_
  refine s_seq ?_
  refine s_region ?_
  refine o_h (h_box rfl rfl) rfl (fun b1 _ => ?_)
  refine o_p (p_pure rfl) rfl ?_
  refine o_p (p_pure rfl) rfl ?_
  refine o_nil ?_
  refine s_seq ?_
  refine s_seq ?_
  refine s_region ?_
  refine o_q (q_loadn rfl rfl sz_57 aPk rfl) rfl ?_
  refine o_q (q_call rfl fn_97 rfl (fun w1 h1 => c97 w1 d ea eac aa aac (hse.later h1) (hsa.later h1) hme hma)) rfl ?_
  refine o_p (p_pure rfl) rfl ?_
  refine o_nil ?_
  refine s_seq ?_
  refine s_region ?_
  refine o_p (p_pure rfl) rfl ?_
  refine o_p (p_pure rfl) rfl ?_
  refine o_nil ?_
  refine s_cond rfl (fun h2 => ?_) (fun h2 => ?_)
  · try simp only [decide_eq_true_eq, decide_eq_false_iff_not, Bool.not_eq_true', Bool.not_eq_false', Bool.and_eq_true, Bool.or_eq_true, Bool.and_eq_false_iff, Bool.or_eq_false_iff, Bool.not_true, Bool.not_false] at h2
    have h0 : ¬ (dscE d).2 = 0 := h2
    refine s_seq ?_
    refine s_region ?_
    refine o_p (p_pure rfl) rfl ?_
    refine o_p (p_pure rfl) rfl ?_
    refine o_p (p_pure rfl) rfl ?_
    refine o_nil ?_
    exact s_retv (rs := [.tmp 2, .tmp 3]) rfl (.tmp rfl (.tmp rfl (.nil))) (fun w' h' => ⟨by rw [if_neg h0]; rfl, h'.below⟩)
  · try simp only [decide_eq_true_eq, decide_eq_false_iff_not, Bool.not_eq_true', Bool.not_eq_false', Bool.and_eq_true, Bool.or_eq_true, Bool.and_eq_false_iff, Bool.or_eq_false_iff, Bool.not_true, Bool.not_false] at h2
    have h0 : (dscE d).2 = 0 := h2
    obtain ⟨hok1, hok2, hok3, hok4⟩ := dsc_ok h0
    have hokp := pairE_ok hok1
    have hll : (d.en ++ d.au).length ≤ 32 := by rw [List.length_append]; omega
    refine s_skip ?_
    refine s_seq ?_
    refine s_region ?_
    refine o_p (p_pure rfl) rfl ?_
    refine o_nil ?_
    refine s_seq ?_
    refine s_seq ?_
    refine s_region ?_
    refine o_p (p_fieldAddr rfl rfl fd_57_2 sz_4 rfl) rfl ?_
    refine o_q (q_load rfl rfl sz_4 aPk rfl) rfl ?_
    refine o_nil ?_
    refine s_cutI (α := Unit) [5, 16, 17] (fun _ => [(5, .int .i64 (if d.pr then 1 else 0))]) (fun _ => HS w [] [.blk b1 57 6 [.int .i64 d.ow, .int .i64 d.gr, .bool d.pr, .bool d.he, .slice ea d.en.length eac, .slice aa d.au.length aac]]) (fun _ => True) ?_ ?_
    · skip
      refine s_cond rfl (fun h3 => ?_) (fun h3 => ?_)
      · try simp only [decide_eq_true_eq, decide_eq_false_iff_not, Bool.not_eq_true', Bool.not_eq_false', Bool.and_eq_true, Bool.or_eq_true, Bool.and_eq_false_iff, Bool.or_eq_false_iff, Bool.not_true, Bool.not_false] at h3
        have hp9 : d.pr = true := h3
        refine s_region ?_
        refine o_p (p_pure rfl) rfl ?_
        refine o_p (p_pure rfl) rfl ?_
        refine o_p (p_pure rfl) rfl ?_
        refine o_nil ?_
        exact s_joinI () trivial (by (try dsimp only); rw [hp9]; exact aSx) (fun w h => h.ent aEt)
      · try simp only [decide_eq_true_eq, decide_eq_false_iff_not, Bool.not_eq_true', Bool.not_eq_false', Bool.and_eq_true, Bool.or_eq_true, Bool.and_eq_false_iff, Bool.or_eq_false_iff, Bool.not_true, Bool.not_false] at h3
        have hp9 : d.pr = false := by simpa using h3
        refine s_skip ?_
        exact s_joinI () trivial (by (try dsimp only); rw [hp9]; exact aSx) (fun w h => h.ent aEt)
    · intro _ _
      refine s_seq ?_
      refine s_seq ?_
      refine s_region ?_
      refine o_p (p_fieldAddr rfl rfl fd_57_3 sz_4 rfl) rfl ?_
      refine o_q (q_load rfl rfl sz_4 aPk rfl) rfl ?_
      refine o_nil ?_
      refine s_cutI (α := Unit) [5, 20, 21] (fun _ => [(5, .int .i64 (flagB d))]) (fun _ => HS w [] [.blk b1 57 6 [.int .i64 d.ow, .int .i64 d.gr, .bool d.pr, .bool d.he, .slice ea d.en.length eac, .slice aa d.au.length aac]]) (fun _ => True) ?_ ?_
      · skip
        refine s_cond rfl (fun h4 => ?_) (fun h4 => ?_)
        · try simp only [decide_eq_true_eq, decide_eq_false_iff_not, Bool.not_eq_true', Bool.not_eq_false', Bool.and_eq_true, Bool.or_eq_true, Bool.and_eq_false_iff, Bool.or_eq_false_iff, Bool.not_true, Bool.not_false] at h4
          have hh9 : d.he = true := h4
          refine s_region ?_
          refine o_p (p_pure rfl) rfl ?_
          refine o_p (p_pure rfl) rfl ?_
          refine o_p (p_pure rfl) rfl ?_
          refine o_nil ?_
          exact s_joinI () trivial (by unfold flagB; rw [hh9]; cases d.pr <;> exact aSx) (fun w h => h.ent aEt)
        · try simp only [decide_eq_true_eq, decide_eq_false_iff_not, Bool.not_eq_true', Bool.not_eq_false', Bool.and_eq_true, Bool.or_eq_true, Bool.and_eq_false_iff, Bool.or_eq_false_iff, Bool.not_true, Bool.not_false] at h4
          have hh9 : d.he = false := by simpa using h4
          refine s_skip ?_
          exact s_joinI () trivial (by unfold flagB; rw [hh9]; cases d.pr <;> exact aSx) (fun w h => h.ent aEt)
      · intro _ _
        refine s_seq ?_
        refine s_region ?_
        refine o_p (p_pure rfl) rfl ?_
        refine o_p (p_conv_int rfl rfl ki_3 ki_5) rfl ?_
        refine o_slot (u8_slot _) ?_
        refine o_p (p_fieldAddr rfl rfl fd_57_4 sz_55 rfl) rfl ?_
        refine o_q (q_load rfl rfl sz_55 aPk rfl) rfl ?_
        refine o_p (p_len_slice rfl rfl Tryz.underlying55) rfl ?_
        refine o_p (p_conv_int rfl rfl ki_3 ki_5) rfl ?_
        refine o_slot (u8_slot _) ?_
        refine o_p (p_fieldAddr rfl rfl fd_57_5 sz_55 rfl) rfl ?_
        refine o_q (q_load rfl rfl sz_55 aPk rfl) rfl ?_
        refine o_p (p_len_slice rfl rfl Tryz.underlying55) rfl ?_
        refine o_p (p_conv_int rfl rfl ki_3 ki_5) rfl ?_
        refine o_slot (u8_slot _) ?_
        refine o_h (h_buildSlice (cs := [_, _, _, _]) rfl rfl sl_79 zr_5 rfl rfl rfl) rfl (fun b5 _ => ?_)
        refine o_class (C' := HS w [] [.own (.slice (some ⟨b5, 0, none⟩) 4 4) 5 1 (4) ((h4B d).map bv), .blk b1 57 6 [.int .i64 d.ow, .int .i64 d.gr, .bool d.pr, .bool d.he, .slice ea d.en.length eac, .slice aa d.au.length aac]]) (fun w h => HS.own_shut (cap := 4) (n := 4) (sz := 1) (h.ent aEt) rfl (by omega) (by decide)) ?_
        refine o_p (p_pure rfl) rfl ?_
        refine o_nil ?_
        refine s_seq ?_
        refine s_region ?_
        refine o_p (p_pure rfl) rfl ?_
        refine o_p (p_fieldAddr rfl rfl fd_57_0 sz_3 rfl) rfl ?_
        refine o_q (q_load rfl rfl sz_3 aPk rfl) rfl ?_
        refine o_p (p_conv_int rfl rfl ki_3 ki_110) rfl ?_
        refine o_slot (show _ = Value.int .u32 d.ow from by rw [u32wM, Int.emod_eq_of_lt (by omega) (by omega)]) ?_
        refine o_h (h_callF (Cs := [.own (.slice (some ⟨b5, 0, none⟩) (h4B d).length 4) 5 1 ((h4B d).length) ((h4B d).map bv)]) rfl fn_98 rfl aPs (fun w1 h1 hf => c98 w1 (some ⟨b5, 0, none⟩) 4 (h4B d) d.ow hf (by omega) (by simp only [List.length_append, h4B, List.length_cons, List.length_nil, le4, le2]; omega))) rfl (fun g8 _ => ?_)
        refine o_p (p_pure rfl) rfl ?_
        refine o_nil ?_
        refine s_seq ?_
        refine s_weaken (L' := [(1, _), (2, _), (3, _), (6, _)]) aSx (fun _ h => h) ?_
        refine s_region ?_
        refine o_p (p_pure rfl) rfl ?_
        refine o_p (p_fieldAddr rfl rfl fd_57_1 sz_3 rfl) rfl ?_
        refine o_q (q_load rfl rfl sz_3 aPk rfl) rfl ?_
        refine o_p (p_conv_int rfl rfl ki_3 ki_110) rfl ?_
        refine o_slot (show _ = Value.int .u32 d.gr from by rw [u32wM, Int.emod_eq_of_lt (by omega) (by omega)]) ?_
        refine o_h (h_callF (Cs := [.own (.slice g8.1 (h4B d ++ le4 d.ow).length g8.2) 5 1 ((h4B d ++ le4 d.ow).length) ((h4B d ++ le4 d.ow).map bv)]) rfl fn_98 rfl aPs (fun w1 h1 hf => c98 w1 g8.1 g8.2 (h4B d ++ le4 d.ow) d.gr hf (by omega) (by simp only [List.length_append, h4B, List.length_cons, List.length_nil, le4, le2]; omega))) rfl (fun g12 _ => ?_)
        refine o_p (p_pure rfl) rfl ?_
        refine o_nil ?_
        refine s_seq ?_
        refine s_seq ?_
        refine s_region ?_
        refine o_p (p_fieldAddr rfl rfl fd_57_4 sz_55 rfl) rfl ?_
        refine o_q (q_load rfl rfl sz_55 aPk rfl) rfl ?_
        refine o_p (p_fieldAddr rfl rfl fd_57_5 sz_55 rfl) rfl ?_
        refine o_q (q_load rfl rfl sz_55 aPk rfl) rfl ?_
        refine o_h (h_buildSlice (cs := [_, _]) rfl rfl sl_164 zr_55 rfl rfl rfl) rfl (fun b6 _ => ?_)
        refine o_h (h_call rfl fn_99 rfl (fun w1 h1 => cat2 w1 ea aa eac aac d.en d.au h1 aPk (hse.later h1) (hsa.later h1) (by omega) (by omega))) rfl (fun gw _ => ?_)
        refine o_p (p_len_slice rfl rfl Tryz.underlying55) rfl ?_
        refine o_p (p_pure rfl) rfl ?_
        refine o_nil ?_
        refine s_block ?_
        refine s_weaken (L' := [(2, _), (3, _), (6, _), (48, _), (49, _), (50, _)]) aSx (fun _ h => h) ?_
        refine s_loopI (α := Nat × Option Addr × Nat) [6, 8, 50, 51, 52, 53, 54, 55, 56, 57, 58, 59, 60, 61, 62, 63, 64, 65, 66, 67, 68, 69, 70, 71, 72, 73] (fun x => [(50, .int .i64 (x.1 : Int)), (6, .slice x.2.1 (headB d ++ ((d.en ++ d.au).take x.1).flatMap aceB).length x.2.2)]) (fun x => HS w [] [.own (.slice x.2.1 ((headB d ++ ((d.en ++ d.au).take x.1).flatMap aceB)).length x.2.2) 5 1 (((headB d ++ ((d.en ++ d.au).take x.1).flatMap aceB)).length) (((headB d ++ ((d.en ++ d.au).take x.1).flatMap aceB)).map bv), .own (.slice gw.1 (d.en ++ d.au).length gw.2) 85 4 (d.en ++ d.au).length ((d.en ++ d.au).flatMap Ace.vals), .blk b1 57 6 [.int .i64 d.ow, .int .i64 d.gr, .bool d.pr, .bool d.he, .slice ea d.en.length eac, .slice aa d.au.length aac]]) (fun x => x.1 ≤ (d.en ++ d.au).length) (fun x => (d.en ++ d.au).length - x.1) (0, g12.1, g12.2) (Nat.zero_le _) (by rw [List.take_zero, List.flatMap_nil, List.append_nil]; exact aSx) (fun w h => by dsimp only; rw [List.take_zero, List.flatMap_nil, List.append_nil, headB_eq]; exact h.ent aEt) (fun ⟨k, ga, gc⟩ hk1 => ?_)
        dsimp only
        simp only [] at hk1
        refine s_seq ?_
        refine s_region ?_
        refine o_p (p_pure rfl) rfl ?_
        refine o_nil ?_
        refine s_seq ?_
        refine s_cond rfl (fun h7 => ?_) (fun h7 => ?_)
        · try simp only [decide_eq_true_eq, decide_eq_false_iff_not, Bool.not_eq_true', Bool.not_eq_false', Bool.and_eq_true, Bool.or_eq_true, Bool.and_eq_false_iff, Bool.or_eq_false_iff, Bool.not_true, Bool.not_false] at h7
          have hk : k < (d.en ++ d.au).length := by omega
          have hae := aceE_ok (aceAt_ok (hok4 k hk))
          have hst : (headB d ++ ((d.en ++ d.au).take (k + 1)).flatMap aceB) = _ := (congrArg (headB d ++ ·) (fm_succ (f := aceB) hk)).trans (st_succ _ _ _)
          have hln := flatB_len ((d.en ++ d.au).take k)
          have hhl := headB_len d
          rw [List.length_take] at hln
          refine s_fact (fun w h => Rw.some (h.rw_own av4 aPk rfl) (by omega)) fun hsm => ?_
          refine s_skip ?_
          refine s_seq ?_
          refine s_block ?_
          refine s_seq ?_
          refine s_region ?_
          refine o_p (p_indexAddr rfl rfl rfl sl_55 (k) (by omega) (by omega) hsm) rfl ?_
          refine o_q (q_load_atn _ rfl rfl sz_85 rfl (fun w h => Rw.rd (h.rw_own av4 aPk rfl) hk)) rfl ?_
          refine o_h (h_alloc rfl zr_85) rfl (fun b8 _ => ?_)
          refine o_h0 (h_store rfl rfl rfl sz_85 rfl aPt (by simp only [setMany_length, List.length_set, List.length_cons, List.length_nil, List.length_map]; omega) rfl) (fun _ _ => ?_)
          refine o_nil ?_
          refine s_seq ?_
          refine s_region ?_
          refine o_p (p_pure rfl) rfl ?_
          refine o_p (p_fieldAddr rfl rfl fd_85_0 sz_3 rfl) rfl ?_
          refine o_q (q_load rfl rfl sz_3 aPk rfl) rfl ?_
          refine o_p (p_conv_int rfl rfl ki_3 ki_5) rfl ?_
          refine o_slot (u8_slot _) ?_
          refine o_p (p_fieldAddr rfl rfl fd_85_1 sz_3 rfl) rfl ?_
          refine o_q (q_load rfl rfl sz_3 aPk rfl) rfl ?_
          refine o_p (p_conv_int rfl rfl ki_3 ki_5) rfl ?_
          refine o_slot (u8_slot _) ?_
          refine o_h (h_buildSlice (cs := [_, _]) rfl rfl sl_79 zr_5 rfl rfl rfl) rfl (fun b9 _ => ?_)
          refine o_h (h_appendS _ rfl rfl rfl sl_79 Tryz.underlying79 zr_5 rfl aPk (src_blk aPk) rfl (by intro u hu; simp only [List.mem_cons, List.mem_nil_iff, or_false] at hu; rcases hu with rfl | rfl <;> rfl) (by simp only [List.length_append]; omega) (by simp only [maxLen, List.length_append]; omega)) rfl (fun b10 _ => ?_)
          refine o_slot (show _ = Value.slice b10.1 ((headB d ++ ((d.en ++ d.au).take k).flatMap aceB) ++ [by8 (nth (d.en ++ d.au) k).kd, by8 (nth (d.en ++ d.au) k).fl]).length b10.2 from by rw [@List.length_append _ (headB d ++ ((d.en ++ d.au).take k).flatMap aceB) _]; rfl) ?_
          refine o_class (C' := HS w [] [.own (.slice b10.1 ((headB d ++ ((d.en ++ d.au).take k).flatMap aceB) ++ [by8 (nth (d.en ++ d.au) k).kd, by8 (nth (d.en ++ d.au) k).fl]).length b10.2) 5 1 (((headB d ++ ((d.en ++ d.au).take k).flatMap aceB) ++ [by8 (nth (d.en ++ d.au) k).kd, by8 (nth (d.en ++ d.au) k).fl]).length) (((headB d ++ ((d.en ++ d.au).take k).flatMap aceB) ++ [by8 (nth (d.en ++ d.au) k).kd, by8 (nth (d.en ++ d.au) k).fl]).map bv), .blk b8 85 4 (Ace.vals (nth (d.en ++ d.au) k)), .own (.slice gw.1 (d.en ++ d.au).length gw.2) 85 4 (d.en ++ d.au).length ((d.en ++ d.au).flatMap Ace.vals), .blk b1 57 6 [.int .i64 d.ow, .int .i64 d.gr, .bool d.pr, .bool d.he, .slice ea d.en.length eac, .slice aa d.au.length aac]]) (fun w h => by rw [List.map_append (l₁ := (headB d ++ ((d.en ++ d.au).take k).flatMap aceB)), @List.length_append _ (headB d ++ ((d.en ++ d.au).take k).flatMap aceB) _]; exact h.ent aEt) ?_
          refine o_p (p_pure rfl) rfl ?_
          refine o_nil ?_
          refine s_seq ?_
          refine s_region ?_
          refine o_p (p_pure rfl) rfl ?_
          refine o_p (p_fieldAddr rfl rfl fd_85_2 sz_3 rfl) rfl ?_
          refine o_q (q_load rfl rfl sz_3 aPk rfl) rfl ?_
          refine o_p (p_conv_int rfl rfl ki_3 ki_137) rfl ?_
          refine o_slot (show _ = Value.int .u16 (nth (d.en ++ d.au) k).ms from by rw [u16wM, Int.emod_eq_of_lt (by omega) (by omega)]) ?_
          refine o_h (h_callF (Cs := [.own (.slice b10.1 ((headB d ++ ((d.en ++ d.au).take k).flatMap aceB) ++ [by8 (nth (d.en ++ d.au) k).kd, by8 (nth (d.en ++ d.au) k).fl]).length b10.2) 5 1 (((headB d ++ ((d.en ++ d.au).take k).flatMap aceB) ++ [by8 (nth (d.en ++ d.au) k).kd, by8 (nth (d.en ++ d.au) k).fl]).length) (((headB d ++ ((d.en ++ d.au).take k).flatMap aceB) ++ [by8 (nth (d.en ++ d.au) k).kd, by8 (nth (d.en ++ d.au) k).fl]).map bv)]) rfl fn_100 rfl aPs (fun w1 h1 hf => c100 w1 b10.1 b10.2 ((headB d ++ ((d.en ++ d.au).take k).flatMap aceB) ++ [by8 (nth (d.en ++ d.au) k).kd, by8 (nth (d.en ++ d.au) k).fl]) (nth (d.en ++ d.au) k).ms hf (by omega) (by simp only [List.length_append, h4B, List.length_cons, List.length_nil, le4, le2]; omega))) rfl (fun g16 _ => ?_)
          refine o_p (p_pure rfl) rfl ?_
          refine o_nil ?_
          refine s_region ?_
          refine o_p (p_pure rfl) rfl ?_
          refine o_p (p_fieldAddr rfl rfl fd_85_3 sz_3 rfl) rfl ?_
          refine o_q (q_load rfl rfl sz_3 aPk rfl) rfl ?_
          refine o_p (p_conv_int rfl rfl ki_3 ki_110) rfl ?_
          refine o_slot (show _ = Value.int .u32 (nth (d.en ++ d.au) k).wh from by rw [u32wM, Int.emod_eq_of_lt (by omega) (by omega)]) ?_
          refine o_h (h_callF (Cs := [.own (.slice g16.1 ((headB d ++ ((d.en ++ d.au).take k).flatMap aceB) ++ [by8 (nth (d.en ++ d.au) k).kd, by8 (nth (d.en ++ d.au) k).fl] ++ le2 (nth (d.en ++ d.au) k).ms).length g16.2) 5 1 (((headB d ++ ((d.en ++ d.au).take k).flatMap aceB) ++ [by8 (nth (d.en ++ d.au) k).kd, by8 (nth (d.en ++ d.au) k).fl] ++ le2 (nth (d.en ++ d.au) k).ms).length) (((headB d ++ ((d.en ++ d.au).take k).flatMap aceB) ++ [by8 (nth (d.en ++ d.au) k).kd, by8 (nth (d.en ++ d.au) k).fl] ++ le2 (nth (d.en ++ d.au) k).ms).map bv)]) rfl fn_98 rfl aPs (fun w1 h1 hf => c98 w1 g16.1 g16.2 ((headB d ++ ((d.en ++ d.au).take k).flatMap aceB) ++ [by8 (nth (d.en ++ d.au) k).kd, by8 (nth (d.en ++ d.au) k).fl] ++ le2 (nth (d.en ++ d.au) k).ms) (nth (d.en ++ d.au) k).wh hf (by omega) (by simp only [List.length_append, h4B, List.length_cons, List.length_nil, le4, le2]; omega))) rfl (fun g32 _ => ?_)
          refine o_p (p_pure rfl) rfl ?_
          refine o_nil ?_
          refine s_blk ?_
          refine s_region ?_
          refine o_p (p_pure rfl) rfl ?_
          try (refine o_slot (i64w (by omega) (by omega)) ?_)
          refine o_p (p_pure rfl) rfl ?_
          refine o_nil ?_
          exact s_backI (k + 1, g32.1, g32.2) (by (try simp only []); omega) (by (try simp only []); omega) (by dsimp only; rw [hst]; exact aSx) (fun w h => by dsimp only; rw [hst]; exact h.ent aEt)
        · try simp only [decide_eq_true_eq, decide_eq_false_iff_not, Bool.not_eq_true', Bool.not_eq_false', Bool.and_eq_true, Bool.or_eq_true, Bool.and_eq_false_iff, Bool.or_eq_false_iff, Bool.not_true, Bool.not_false] at h7
          obtain rfl : k = (d.en ++ d.au).length := by omega
          rw [List.take_length, ← encD_eq]
          refine s_exit_to rfl ?_
          refine s_seq ?_
          refine s_region ?_
          refine o_p (p_pure rfl) rfl ?_
          refine o_q (q_string_own rfl rfl Tryz.underlying79 Tryz.underlying9 Tryz.underlying5 aPk (isU8_bv _)) rfl ?_
          refine o_p (p_pure rfl) rfl ?_
          refine o_p (p_pure rfl) rfl ?_
          refine o_nil ?_
          exact s_retv (rs := [.tmp 2, .tmp 3]) rfl (.tmp rfl (.tmp rfl (.nil))) (fun w' h' => ⟨by rw [if_pos h0, h0, vByte_bv]; rfl, h'.below⟩)

end Go.Proofs

/- The engine's rules for ranges over functions: the statement, a round, the call of yield. Nothing of a program is named here. -/
namespace Gx
open Go Go.RowKit
set_option linter.unusedVariables false
/-- An object that is no block of cells. -/
def HA.obj (b : Nat) (o : Obj) : HA := ⟨[b], fun w => w.heap[b]? = some o, fun w w' h hk => (h b (List.mem_singleton.2 rfl)).trans hk⟩
section
variable {w0 w : World} {M : List Nat} {As As' : List HA}
theorem HS.allocObj (h : HS w0 M As w) (o : Obj) : HS w0 M (.obj w.heap.size o :: As) (w.alloc o) := h.alloc o _ rfl (World.alloc_heap_new w o)
theorem HS.obj_get {b : Nat} {o : Obj} (h : HS w0 M As w) (hp : Pick As (.obj b o) As') : w.heap[b]? = some o := h.ok _ hp.mem
theorem HS.putObj {b : Nat} {o : Obj} (h : HS w0 M As w) (hp : Pick As (.obj b o) As') (o' : Obj) : HS w0 M (.obj b o' :: As') (w.putObj b o') := by
  have h1 := h.pick hp
  have hb : w.heap[b]? = some o := h1.head
  have hlt : b < w.heap.size := (Array.getElem?_eq_some_iff.1 hb).1
  refine h1.swap (fun _ hx => hx) rfl rfl rfl (by simp [World.putObj]) (fun c hc => World.putObj_heap_other (fun e => hc (by subst e; exact List.mem_singleton.2 rfl))) (World.putObj_heap_same hlt)
end
/-- The call of yield asks for a round, which ends so. -/
def YieldTo (P : Program) (l : Nat) (args : Array Value) (w : World) (R : Ending → World → Prop) : Prop :=
  ∃ f tmps assign body, (Instr.yield l args).run P w = .ok (.round l f tmps assign body) w ∧ RoundIn Fence.wide 0 P l f tmps assign body w R
section
variable {P : Program} {o : Oper} {L : Slots}
theorem h_yield {C : World → Prop} {G : Type} {V : G → Value} {F : G → Prop} {C' : G → World → Prop} {x : Operand} {args : Array Operand} {vs : List Value} {ts : Array TypeId} {l : Nat} (ho : o.op = .call { callee := .value x, args := args, argTypes := ts }) (hx : ev L x = some (.func (.yield l) #[] #[]))
    (ha : evs L args.toList = some vs) (hy : ∀ w, C w → YieldTo P l vs.toArray w fun e w' => ∃ g, e = .returned (V g) ∧ F g ∧ C' g w') : OpH P o L C V F C' := by
  intro ρ w hρ hw
  obtain ⟨f, tmps, assign, body, hr, hR⟩ := hy w hw
  have e1 : args.map ρ = vs.toArray := by rw [← evs_map hρ ha, ← List.map_toArray]
  unfold execOp
  simp only [ho, resolve, Sem.run_bind, hρ _ _ hx, Deferred.ofValue, e1, Sem.run_pure, Result.andThen_ok, invoke, Array.empty_append, hr]
  exact RoundIn.mono hR fun e w' ⟨g, he, hf, hc⟩ => ⟨V g, he, g, rfl, hf, hc⟩
end
/-! ## A round -/
def rdy (fid : FuncId) (tmps : Array Value) (ps : Array Tmp) (assign body : Code) (D : Nat) : Loop := { state := .ready, pending := none, fn := fid, tmps := tmps, params := ps, assign := assign, body := body, defers := D }
theorem y_round {P : Program} {fn : Func} {n l D : Nat} {fid : FuncId} {tmps : Array Value} {ps : Array Tmp} {assign body : Code} {args : Array Value} {L0 L1 : Slots} {w0 W : World} {M : List Nat} {As As1 : List HA} {Rr : Ending → World → Prop}
    (hC : HS w0 M (.obj l (.loop (rdy fid tmps ps assign body D)) :: As) W) (hps : args.size = ps.size) (hf : FR n [] L0 { tmps := (ps.zip args).foldl (fun t (p, v) => t.setIfInBounds p v) tmps, defers := [] })
    (h1 : S { P := P, fn := fn, n := n, R := fun _ _ => False, rd := some l } [.c assign, .join (At n [] (fun _ : Unit => L1) (fun _ => HS w0 M (.obj l (.loop (rdy fid tmps ps assign body D)) :: As1)))] L0 (HS w0 M (.obj l (.loop (rdy fid tmps ps assign body D)) :: As)))
    (h2 : S { P := P, fn := fn, n := n, R := Rr, rd := some l } [.c body] L1 (HS w0 M (.obj l (.loop { rdy fid tmps ps assign body D with state := .busy }) :: As1))) : YieldTo P l args W Rr := by
  refine ⟨fid, _, assign, body, run_yield (hC.obj_get .here) hps, roundIn_of_wpIn trivial ?_⟩
  refine wpIn_mono (h1 _ W hf hC) fun e a w he => ?_
  cases e with
  | normal =>
    obtain ⟨_, hfr, hc⟩ := he
    exact ⟨_, run_beginRound (hc.obj_get .here) rfl, h2 _ _ hfr (hc.putObj .here _)⟩
  | ret => obtain ⟨v, w', _, hx⟩ := he; exact hx
  | exit id => obtain ⟨v, w', _, hx⟩ := he; exact hx
  | goto t => obtain ⟨v, w', _, hx⟩ := he; exact hx
  | panic ch => exact he
  | outgrown => exact he
/-- The frame of a round with one parameter. -/
theorem FR.round1 {n : Nat} {L : Slots} {a : Act} (h : FR n [] L a) (d : Nat) (v : Value) (hd : Nat.blt d n = true) : FR n [] ((d, v) :: L) { tmps := ((#[d] : Array Tmp).zip #[v]).foldl (fun t (p, v) => t.setIfInBounds p v) a.tmps, defers := [] } := by
  have h1 := h.put d v hd
  have e : ((#[d] : Array Tmp).zip #[v]).foldl (fun t (p, v) => t.setIfInBounds p v) a.tmps = a.tmps.setIfInBounds d v := by simp
  rw [e]
  exact ⟨rfl, h1.size, h1.slot⟩
section
variable {X : Ctx} {k : List KI} {L : Slots} {w0 : World} {M : List Nat} {As As' : List HA}
/-- The end of a round: go on. -/
theorem s_end_round {C : World → Prop} {l : Nat} (hrd : X.rd = some l) (h : ∀ w, C w → ∃ r, w.heap[l]? = some (.loop r) ∧ X.R (.returned (.bool true)) (w.putObj l (.loop { r with state := .ready, pending := none }))) : S X [] L C := by
  intro a w ha hw
  show (match X.rd with | none => bodyPostM X.F 0 X.P X.fn X.R .normal a w | some l => roundPost X.P l X.R .normal a w)
  rw [hrd]
  obtain ⟨r, h1, h2⟩ := h w hw
  exact ⟨_, _, run_endRound none h1, h2⟩
theorem s_end_rd {l D : Nat} {fid : FuncId} {tmps : Array Value} {ps : Array Tmp} {assign body : Code} (hrd : X.rd = some l) (hp : Pick As (.obj l (.loop { rdy fid tmps ps assign body D with state := .busy })) As') (h : ∀ w, HS w0 M (.obj l (.loop (rdy fid tmps ps assign body D)) :: As') w → X.R (.returned (.bool true)) w) : S X [] L (HS w0 M As) :=
  s_end_round hrd fun w hw => ⟨_, hw.obj_get hp, h _ (hw.putObj hp _)⟩
theorem post_df (d : List Nat) : ∀ k, post { X with df := d } k = post X k
  | [] => by funext e a w; rfl
  | Sum.inl c :: k => by funext e a w; cases e <;> simp only [post, post_df d k]
  | Sum.inr (Sum.inl id) :: k => by funext e a w; cases e <;> simp only [post, post_df d k]
  | Sum.inr (Sum.inr J) :: k => by funext e a w; cases e <;> simp only [post, post_df d k]
/-- The statement; the bodies of its rounds never leave it. -/
theorem s_range {g : Operand} {ps : Array Tmp} {assign body : Code} {gf : FuncId} {lb : Array Value} {G : Type} {Bs : G → List HA} (hrd : X.rd = none) (hdf : X.df = []) (hg : ev L g = some (.func (.func gf) #[] lb)) (hfn : isFn X.P gf = true)
    (hit : ∀ (fid : FuncId) (D l : Nat) (a : Act) (w1 : World) (ob : Obj), ob = .loop (rdy fid a.tmps ps assign body D) → FR X.n [] L a → HS w0 M (.obj l ob :: .obj D (.deferred (some [])) :: As) w1 →
      Calls X.P gf (#[.func (.yield l) #[] #[]] ++ lb) w1 fun e w2 => (∃ v, e = .returned v) ∧ ∃ x, HS w0 M (.obj l ob :: .obj D (.deferred (some [])) :: Bs x) w2)
    (next : ∀ D x, S { X with df := [D] } k L (HS w0 M (.obj D (.deferred (some [])) :: Bs x))) : S X (.c (.rangeFunc g ps assign body) :: k) L (HS w0 M As) := by
  intro a w ha hw
  have ha0 : FR X.n [] L a := by rw [← hdf]; exact ha
  refine wpIn_rangeFunc (F := X.F) (n := 0) fun fid _ => ?_
  have hro : X.F.round = none := hrd
  rw [hro]
  have hw1 := (hw.allocObj (.deferred (some []))).allocObj (.loop (rdy fid a.tmps ps assign body w.heap.size))
  rw [World.size_alloc] at hw1
  have hen := run_enterLoop_outer (P := X.P) (w := w) fid a.tmps ps assign body
  obtain ⟨W1, hW1⟩ : ∃ W1, (w.alloc (.deferred (some []))).alloc (.loop (rdy fid a.tmps ps assign body w.heap.size)) = W1 := ⟨_, rfl⟩
  rw [hW1] at hw1
  rw [show (Loop.mk .ready none fid a.tmps ps assign body w.heap.size) = rdy fid a.tmps ps assign body w.heap.size from rfl, hW1] at hen
  refine ⟨w.heap.size + 1, [{ target := .collected w.heap.size, args := #[] }], W1, { target := .fn (.func gf) lb, args := #[.func (.yield (w.heap.size + 1)) #[] #[]] }, W1, gf,
    #[.func (.yield (w.heap.size + 1)) #[] #[]] ++ lb, W1, hen, ?_, fun _ _ => trivial, ?_, fun h => (by cases h), ?_⟩
  · simp only [resolve, ha.evl hg]
    simp [go_sem]
  · simp [invoke, go_sem, callFunc_run hfn]
  · refine CallsIn.mono (X.callsIn (hit fid _ _ a _ _ rfl ha0 hw1)) fun e w2 he => ?_
    obtain ⟨⟨v, rfl⟩, x, hx⟩ := he
    refine ⟨none, _, run_endLoop (hx.obj_get .here) (by simp [rdy]), ?_⟩
    have h3 := next w.heap.size x { a with defers := [{ target := .collected w.heap.size, args := #[] }] ++ a.defers } _ ⟨by show _ ++ a.defers = _; rw [ha0.defers]; rfl, ha0.size, ha0.slot⟩ (hx.putObj .here (.loop { rdy fid a.tmps ps assign body w.heap.size with state := .exhausted })).tail
    rw [post_df] at h3
    exact h3
/-- Results behind a range over a function. -/
theorem s_retm {D : Nat} {rs : List ResultVar} {vs : List Value} (hr : X.fn.results = rs.toArray) (hp : Pick As (.obj D (.deferred (some []))) As') (hv : RV X.P L As' rs vs) (h : ∀ w, HS w0 M As' w → X.R (.returned (retV vs)) w) (hrd : X.rd = none := by rfl) (hdf : X.df = [D] := by rfl) : S X (.c .ret :: k) L (HS w0 M As) := by
  refine s_ret (se_ret_pop fun a w ha hw => ?_)
  show (match X.rd with | none => bodyPostM X.F 0 X.P X.fn X.R .ret a w | some l => roundPost X.P l X.R .ret a w)
  rw [hrd]
  show LeavesInM X.F 0 X.P X.fn a.tmps X.R a.defers .returning w
  rw [ha.defers, hdf]
  have h1 := (hw.putObj hp (.deferred none)).tail
  refine ⟨by simp, .inl ⟨D, _, rfl, run_takeDeferred (hw.obj_get hp), retV vs, ?_, h _ h1⟩⟩
  have hm := hv.run ha h1
  rw [results_eq hr, Array.mapM_eq_mapM_toList]
  simp only [Sem.run_bind, Sem.run_map, hm, Result.andThen_ok, Sem.run_pure]
  match vs with
  | [] => rfl
  | [v] => rfl
  | u :: v :: vs => simp [retV]
end
end Gx

namespace Go.Proofs
open Go Go.RowKit Gx
set_option linter.unusedVariables false
set_option linter.unusedSimpArgs false
attribute [local irreducible] Go.Calls Gx.S Gx.O Gx.D Gx.OpP Gx.OpQ Gx.OpH

theorem sz_79 : tsz Tryz.prog 79 = some (1, false) := by kernel_rfl


set_option maxRecDepth 20000 in
theorem c120 (w : World) {G : Type} (w0 : World) (M : List Nat) (Cs : Nat → G → List HA) (g0 : G) (l b1 b2 K : Nat) (a : Option Addr) (m cap : Nat) (hm : m = 8 * K) (hmc : m ≤ cap) (hcap : cap ≤ 9223372036854775807) (hw : HS w0 M (Cs 0 g0) w) (hr : ∀ k g w, HS w0 M (Cs k g) w → Rd w [] b1 0 (.slice a m cap) ∧ Rd w [] b2 0 (.int .i64 8)) (hy : ∀ k g w, k < K → HS w0 M (Cs k g) w → YieldTo Tryz.prog l #[.slice (subA a (8 * k + 8) (8 * k) 1) 8 8] w fun e w' => ∃ g', e = .returned (.bool true) ∧ True ∧ HS w0 M (Cs (k + 1) g') w') : Calls Tryz.prog 120 #[.func (.yield l) #[] #[], .pointer (some ⟨b1, 0, none⟩), .pointer (some ⟨b2, 0, none⟩)] w fun en w' => (∃ v, en = .returned v) ∧ ∃ x : G, HS w0 M (Cs K x) w' := by
  refine enter (args := [_, _, _]) Tryz.func120 Tryz.ntmps120 rfl rfl hw ?_
  refine s_seq ?_
  refine s_region ?_
  refine o_p (p_pure rfl) rfl ?_
  refine o_nil ?_
  refine s_block ?_
  refine s_loopI (α := Nat × G) [4, 5, 6, 7, 8, 9, 10, 11, 12, 13, 14, 15, 16, 17, 18, 19, 20, 21, 22, 23, 24, 25, 26, 27, 28, 29, 30] (fun x => [(4, .int .i64 ((8 * x.1 : Nat) : Int))]) (fun x => HS w0 M (Cs x.1 x.2)) (fun x => x.1 ≤ K) (fun x => K - x.1) (0, g0) (Nat.zero_le _) aSx (fun w h => h) (fun ⟨k, gg⟩ hk1 => ?_)
  dsimp only
  simp only [] at hk1
  refine s_seq ?_
  refine s_seq ?_
  refine s_region ?_
  refine o_p (p_pure rfl) rfl ?_
  refine o_q (q_load_at rfl rfl sz_79 (fun w h => (hr _ _ w h).1)) rfl ?_
  refine o_p (p_len_slice rfl rfl Tryz.underlying79) rfl ?_
  refine o_p (p_pure rfl) rfl ?_
  refine o_nil ?_
  refine s_cond rfl (fun h1 => ?_) (fun h1 => ?_)
  · try simp only [decide_eq_true_eq, decide_eq_false_iff_not, Bool.not_eq_true', Bool.not_eq_false', Bool.and_eq_true, Bool.or_eq_true, Bool.and_eq_false_iff, Bool.or_eq_false_iff, Bool.not_true, Bool.not_false] at h1
    have hk : k < K := by omega
    refine s_skip ?_
    refine s_seq ?_
    refine s_block ?_
    refine s_seq ?_
    refine s_draw [] mixed ?_
    refine d_q 0 [] rfl (q_load_at rfl rfl sz_3 (fun w h => (hr _ _ w h).2)) (by kernel_rfl) (by kernel_rfl) (by kernel_rfl) rfl ?_
    refine d_q 1 [] rfl (q_load_at rfl rfl sz_79 (fun w h => (hr _ _ w h).1)) (by kernel_rfl) (by kernel_rfl) (by kernel_rfl) rfl ?_
    refine d_p 2 rfl (p_pure rfl) (by kernel_rfl) rfl rfl ?_
    refine d_p 3 rfl (p_slice _ _ (8 * k) m rfl rfl sl_79 ⟨_, _, rfl, rfl⟩ rfl (by omega) (by omega)) (by kernel_rfl) rfl rfl ?_
    refine d_p 4 rfl (p_len_slice rfl rfl Tryz.underlying79) (by kernel_rfl) rfl rfl ?_
    refine d_p 5 rfl (p_min2 rfl rfl rfl ) (by kernel_rfl) rfl rfl ?_
    refine d_slot (show _ = Value.int .i64 8 from by congr 1; split <;> omega) ?_
    refine d_p 6 rfl (p_pure rfl) (by kernel_rfl) rfl rfl ?_
    refine d_nil (by kernel_rfl) (fun w h => by first | exact h | exact h.ent aEt) ?_
    refine s_seq ?_
    refine s_region ?_
    refine o_p (p_pure rfl) rfl ?_
    refine o_q (q_load_at rfl rfl sz_79 (fun w h => (hr _ _ w h).1)) rfl ?_
    refine o_p (p_pure rfl) rfl ?_
    refine o_p (p_pure rfl) rfl ?_
    refine o_p (p_pure rfl) rfl ?_
    refine o_p (p_pure rfl) rfl ?_
    try (refine o_slot (i64w (by omega) (by omega)) ?_)
    refine o_p (p_pure rfl) rfl ?_
    refine o_p (p_pure rfl) rfl ?_
    refine o_p (p_pure rfl) rfl ?_
    try (refine o_slot (i64w (by omega) (by omega)) ?_)
    refine o_p (p_slice3 (8 * k) (8 * k + 8) (8 * k + 8) rfl rfl rfl rfl rfl sl_79 rfl (by omega) (by omega) (by omega) (by omega) (by omega)) rfl ?_
    refine o_slot (show _ = Value.slice (subA a (8 * k + 8) (8 * k) 1) 8 8 from by congr 1 <;> omega) ?_
    refine o_h (h_yield rfl rfl rfl (fun w1 h1 => hy k gg w1 hk h1)) rfl (fun gy _ => ?_)
    refine o_p (p_pure rfl) rfl ?_
    refine o_nil ?_
    refine s_cond rfl (fun h2 => ?_) (fun h2 => ?_)
    · try simp only [decide_eq_true_eq, decide_eq_false_iff_not, Bool.not_eq_true', Bool.not_eq_false', Bool.and_eq_true, Bool.or_eq_true, Bool.and_eq_false_iff, Bool.or_eq_false_iff, Bool.not_true, Bool.not_false] at h2
      exfalso; first | omega | (simp at h2; done) | (simp_all; done)
    · try simp only [decide_eq_true_eq, decide_eq_false_iff_not, Bool.not_eq_true', Bool.not_eq_false', Bool.and_eq_true, Bool.or_eq_true, Bool.and_eq_false_iff, Bool.or_eq_false_iff, Bool.not_true, Bool.not_false] at h2
      refine s_skip ?_
      refine s_blk ?_
      refine s_region ?_
      refine o_p (p_pure rfl) rfl ?_
      refine o_q (q_load_at rfl rfl sz_3 (fun w h => (hr _ _ w h).2)) rfl ?_
      refine o_p (p_pure rfl) rfl ?_
      try (refine o_slot (i64w (by omega) (by omega)) ?_)
      refine o_p (p_pure rfl) rfl ?_
      refine o_nil ?_
      exact s_backI (k + 1, gy) (by (try simp only []); omega) (by (try simp only []); omega) aSx (fun w h => h)
  · try simp only [decide_eq_true_eq, decide_eq_false_iff_not, Bool.not_eq_true', Bool.not_eq_false', Bool.and_eq_true, Bool.or_eq_true, Bool.and_eq_false_iff, Bool.or_eq_false_iff, Bool.not_true, Bool.not_false] at h1
    obtain rfl : k = K := by omega
    refine s_exit_to rfl ?_
    exact s_end0 rfl (fun w' h' => ⟨⟨_, rfl⟩, gg, h'⟩)

end Go.Proofs

namespace Go.Proofs
open Go Go.RowKit Gx
set_option linter.unusedVariables false
set_option linter.unusedSimpArgs false
attribute [local irreducible] Go.Calls Gx.S Gx.O Gx.D Gx.OpP Gx.OpQ Gx.OpH

theorem zr_57 : tzero Tryz.prog 57 = some [.int .i64 0, .int .i64 0, .bool false, .bool false, .slice none 0 0, .slice none 0 0] := by kernel_rfl
theorem pl_57 : tplaces Tryz.prog 57 = some [(0, 1), (1, 1), (2, 1), (3, 1), (4, 1), (5, 1)] := by kernel_rfl
theorem zr_3 : tzero Tryz.prog 3 = some [.int .i64 0] := by kernel_rfl
theorem fn_104 : isFn Tryz.prog 104 = true := by kernel_rfl
theorem fn_120 : isFn Tryz.prog 120 = true := by kernel_rfl
theorem fn_105 : isFn Tryz.prog 105 = true := by kernel_rfl


set_option maxRecDepth 20000 in
theorem c104 (w : World) (a : Option Addr) (m cap : Nat) : Calls Tryz.prog 104 #[.slice a m cap, .int .i64 8] w fun en w' => ∃ g : Nat × Nat, en = .returned (.func (.func 120) #[] #[.pointer (some ⟨g.1, 0, none⟩), .pointer (some ⟨g.2, 0, none⟩)]) ∧ True ∧ HS w [] [.blk g.1 79 1 [.slice a m cap], .blk g.2 3 1 [.int .i64 8]] w' := by
  refine enter (args := [_, _]) Tryz.func104 Tryz.ntmps104 rfl rfl (HS.refl w []) ?_
  refine s_seq ?_
  refine s_region ?_
  refine o_h (h_box rfl rfl) rfl (fun b1 _ => ?_)
  refine o_h (h_box rfl rfl) rfl (fun b2 _ => ?_)
  refine o_p (p_pure rfl) rfl ?_
  refine o_nil ?_
  refine s_seq ?_
  refine s_seq ?_
  refine s_region ?_
  refine o_q (q_load rfl rfl sz_3 aPk rfl) rfl ?_
  refine o_p (p_pure rfl) rfl ?_
  refine o_nil ?_
  refine s_cond rfl (fun h3 => ?_) (fun h3 => ?_)
  · try simp only [decide_eq_true_eq, decide_eq_false_iff_not, Bool.not_eq_true', Bool.not_eq_false', Bool.and_eq_true, Bool.or_eq_true, Bool.and_eq_false_iff, Bool.or_eq_false_iff, Bool.not_true, Bool.not_false] at h3
    exfalso; first | omega | (simp at h3; done) | (simp_all; done)
  · try simp only [decide_eq_true_eq, decide_eq_false_iff_not, Bool.not_eq_true', Bool.not_eq_false', Bool.and_eq_true, Bool.or_eq_true, Bool.and_eq_false_iff, Bool.or_eq_false_iff, Bool.not_true, Bool.not_false] at h3
    refine s_skip ?_
    refine s_seq ?_
    refine s_region ?_
    refine o_p (p_pure rfl) rfl ?_
    refine o_p (p_pure rfl) rfl ?_
    refine o_nil ?_
    exact s_retv (rs := [.tmp 4]) rfl (.tmp rfl (.nil)) (fun w' h' => ⟨(b1, b2), rfl, trivial, h'.ent aEt⟩)

set_option maxRecDepth 20000 in
set_option maxHeartbeats 4000000 in
theorem c78 (w : World) (s : List UInt8) (hm : s.length ≤ 1000000) : Calls Tryz.prog 78 #[.string (bs s)] w fun en w' => ∃ g : (Option Addr × Nat) × (Option Addr × Nat), en = .returned (.tuple #[.agg #[.int .i64 (decD s).ow, .int .i64 (decD s).gr, .bool (decD s).pr, .bool (decD s).he, .slice g.1.1 (decD s).en.length g.1.2, .slice g.2.1 (decD s).au.length g.2.2], .int .i64 (decE s)]) ∧ True ∧ HS w [] [.own (.slice g.1.1 (decD s).en.length g.1.2) 85 4 (decD s).en.length ((decD s).en.flatMap Ace.vals), .own (.slice g.2.1 (decD s).au.length g.2.2) 85 4 (decD s).au.length ((decD s).au.flatMap Ace.vals)] w' := by
  have hc2 := (s.getD 2 0).toNat_lt
  have hc3 := (s.getD 3 0).toNat_lt
  have hb0 := at1_le s 0
  have hb1 := at1_le s 1
  have hb2 := at1_le s 2
  have hb3 := at1_le s 3
  have hx4 := at4_le s 4
  have hx8 := at4_le s 8
  refine enter (args := [_]) Tryz.func78 Tryz.ntmps78 rfl rfl (HS.refl w []) ?_
  refine s_seq ?_
  refine s_region ?_
  refine o_h (h_alloc rfl zr_57) rfl (fun b1 _ => ?_)
  refine o_p (p_pure rfl) rfl ?_
  refine o_nil ?_
  refine s_seq ?_
  refine s_region ?_
  refine o_p (p_pure rfl) rfl ?_
  refine o_h (h_bytes rfl rfl Tryz.underlying9 Tryz.underlying79 Tryz.underlying5 rfl (by simp only [maxLen]; omega)) rfl (fun ⟨b2, c3⟩ ⟨h4, k5⟩ => ?_)
  refine o_p (p_pure rfl) rfl ?_
  refine o_nil ?_
  refine s_seq ?_
  refine s_seq ?_
  refine s_region ?_
  refine o_p (p_pure rfl) rfl ?_
  refine o_p (p_len_slice rfl rfl Tryz.underlying79) rfl ?_
  refine o_p (p_pure rfl) rfl ?_
  refine o_nil ?_
  refine s_cond rfl (fun h6 => ?_) (fun h6 => ?_)
  · try simp only [decide_eq_true_eq, decide_eq_false_iff_not, Bool.not_eq_true', Bool.not_eq_false', Bool.and_eq_true, Bool.or_eq_true, Bool.and_eq_false_iff, Bool.or_eq_false_iff, Bool.not_true, Bool.not_false] at h6
    have hl12 : s.length < 12 := by omega
    have hz9 : shpE s = 10 := by unfold shpE; rw [if_pos hl12]
    obtain ⟨hE9, hD9⟩ := dec_bad (s := s) (by rw [hz9]; decide)
    refine s_seq ?_
    refine s_region ?_
    refine o_p (p_build (cs := [_, _, _, _, _, _]) rfl rfl pl_57 zr_57 rfl) rfl ?_
    refine o_h0 (h_store rfl rfl rfl sz_57 rfl aPt (by simp only [setMany_length, List.length_set, List.length_cons, List.length_nil, List.length_map]; omega) rfl) (fun _ _ => ?_)
    refine o_p (p_pure rfl) rfl ?_
    refine o_nil ?_
    exact s_retv (rs := [.cell 2 57, .tmp 3]) rfl (.cell rfl sz_57 aPk rfl (.tmp rfl (.nil))) (fun w' h' => ⟨((none, 0), (none, 0)), by rw [hE9, hD9, hz9]; rfl, trivial, by rw [hD9]; exact ((h'.own_nil 85 4).own_nil 85 4).ent aEt⟩)
  · try simp only [decide_eq_true_eq, decide_eq_false_iff_not, Bool.not_eq_true', Bool.not_eq_false', Bool.and_eq_true, Bool.or_eq_true, Bool.and_eq_false_iff, Bool.or_eq_false_iff, Bool.not_true, Bool.not_false] at h6
    have hl12 : ¬ s.length < 12 := by omega
    refine s_skip ?_
    refine s_seq ?_
    refine s_drawB [.blk b2 5 c3 (s.map bv)] [] mixed ?_
    refine d_p 0 rfl (p_pure rfl) (by kernel_rfl) rfl rfl ?_
    refine d_p 1 rfl (p_indexAddr rfl rfl rfl sl_79 (2) (by omega) (by omega) rfl) (by kernel_rfl) rfl rfl ?_
    refine d_q 2 [] rfl (q_load_at rfl rfl sz_5 (fun w h => h.rd_blk (Mc := []) (b := b2) (i := 2) aPk (bv_get (l := s) (k := 2) (by omega)) (by simp))) (by kernel_rfl) (by kernel_rfl) (by kernel_rfl) rfl ?_
    refine d_p 3 rfl (p_conv_int rfl rfl ki_5 ki_3) (by kernel_rfl) rfl rfl ?_
    try (refine d_slot (i64w (by omega) (by omega)) ?_)
    refine d_slot (show _ = Value.int .i64 (at1 s 2) from rfl) ?_
    refine d_p 4 rfl (p_pure rfl) (by kernel_rfl) rfl rfl ?_
    refine d_p 5 rfl (p_indexAddr rfl rfl rfl sl_79 (3) (by omega) (by omega) rfl) (by kernel_rfl) rfl rfl ?_
    refine d_q 6 [] rfl (q_load_at rfl rfl sz_5 (fun w h => h.rd_blk (Mc := []) (b := b2) (i := 3) aPk (bv_get (l := s) (k := 3) (by omega)) (by simp))) (by kernel_rfl) (by kernel_rfl) (by kernel_rfl) rfl ?_
    refine d_p 7 rfl (p_conv_int rfl rfl ki_5 ki_3) (by kernel_rfl) rfl rfl ?_
    try (refine d_slot (i64w (by omega) (by omega)) ?_)
    refine d_slot (show _ = Value.int .i64 (at1 s 3) from rfl) ?_
    refine d_h 8 rfl (h_alloc rfl zr_3) (by kernel_rfl) (fun w h => h.ent aEt) rfl (fun b7 _ => ?_)
    refine d_h0 9 rfl (h_store rfl rfl rfl sz_3 rfl aPt (by simp only [setMany_length, List.length_set, List.length_cons, List.length_nil, List.length_map]; omega) rfl) (by kernel_rfl) (fun w h => h.ent aEt) (fun _ _ => ?_)
    refine d_p 10 rfl (p_pure rfl) (by kernel_rfl) rfl rfl ?_
    refine d_nil (by kernel_rfl) (fun w h => by first | exact h | exact h.ent aEt) ?_
    refine s_seq ?_
    refine s_draw [] mixed ?_
    refine d_q 0 [] rfl (q_load rfl rfl sz_3 aPk rfl) (by kernel_rfl) (by kernel_rfl) (by kernel_rfl) rfl ?_
    refine d_p 1 rfl (p_pure rfl) (by kernel_rfl) rfl rfl ?_
    refine d_p 2 rfl (p_max2 rfl rfl rfl ) (by kernel_rfl) rfl rfl ?_
    refine d_p 3 rfl (p_pure rfl) (by kernel_rfl) rfl rfl ?_
    refine d_q 4 [] rfl (q_call rfl fn_102 rfl (fun w1 h1 => c102 w1 _ _)) (by kernel_rfl) (by kernel_rfl) (by kernel_rfl) rfl ?_
    refine d_p 5 rfl (p_pure rfl) (by kernel_rfl) rfl rfl ?_
    refine d_p 6 rfl (p_len_slice rfl rfl Tryz.underlying79) (by kernel_rfl) rfl rfl ?_
    refine d_q 7 [] rfl (q_load rfl rfl sz_3 aPk rfl) (by kernel_rfl) (by kernel_rfl) (by kernel_rfl) rfl ?_
    refine d_p 8 rfl (p_pure rfl) (by kernel_rfl) rfl rfl ?_
    refine d_p 9 rfl (p_pure rfl) (by kernel_rfl) rfl rfl ?_
    try (refine d_slot (i64w (by omega) (by omega)) ?_)
    refine d_p 10 rfl (p_pure rfl) (by kernel_rfl) rfl rfl ?_
    try (refine d_slot (i64w (by omega) (by omega)) ?_)
    refine d_p 11 rfl (p_pure rfl) (by kernel_rfl) rfl rfl ?_
    try (refine d_slot (i64w (by omega) (by omega)) ?_)
    refine d_p 12 rfl (p_pure rfl) (by kernel_rfl) rfl rfl ?_
    refine d_q 13 [] rfl (q_call rfl fn_102 rfl (fun w1 h1 => c102 w1 _ _)) (by kernel_rfl) (by kernel_rfl) (by kernel_rfl) rfl ?_
    refine d_p 14 rfl (p_pure rfl) (by kernel_rfl) rfl rfl ?_
    refine d_p 15 rfl (p_indexAddr rfl rfl rfl sl_79 (0) (by omega) (by omega) rfl) (by kernel_rfl) rfl rfl ?_
    refine d_q 16 [] rfl (q_load_at rfl rfl sz_5 (fun w h => h.rd_blk (Mc := []) (b := b2) (i := 0) aPk (bv_get (l := s) (k := 0) (by omega)) (by simp))) (by kernel_rfl) (by kernel_rfl) (by kernel_rfl) rfl ?_
    refine d_p 17 rfl (p_pure rfl) (by kernel_rfl) rfl rfl ?_
    refine d_p 18 rfl (p_pure rfl) (by kernel_rfl) rfl rfl ?_
    apply d_split 43
    · exact rfl
    · intro hg8
      have hs9 := hg8; try simp only [decide_eq_true_eq, decide_eq_false_iff_not, Bool.not_eq_true', Bool.not_eq_false', Bool.and_eq_true, Bool.or_eq_true, Bool.and_eq_false_iff, Bool.or_eq_false_iff, Bool.not_true, Bool.not_false] at hs9
      refine d_pon 19 43 rfl rfl rfl hg8 (p_pure rfl) (by kernel_rfl) rfl rfl ?_
      refine d_pon 20 43 rfl rfl rfl hg8 (p_indexAddr rfl rfl rfl sl_79 (1) (by omega) (by omega) rfl) (by kernel_rfl) rfl rfl ?_
      refine d_qon 21 43 [] rfl rfl rfl hg8 (q_load_at rfl rfl sz_5 (fun w h => h.rd_blk (Mc := []) (b := b2) (i := 1) aPk (bv_get (l := s) (k := 1) (by omega)) (by simp))) (by kernel_rfl) (by kernel_rfl) (by kernel_rfl) rfl ?_
      refine d_pon 22 43 rfl rfl rfl hg8 (p_pure rfl) (by kernel_rfl) rfl rfl ?_
      refine d_p 23 rfl (p_pickt rfl rfl hg8 rfl) (by kernel_rfl) rfl rfl ?_
      refine d_q 24 [] rfl (q_call rfl fn_102 rfl (fun w1 h1 => c102 w1 _ _)) (by kernel_rfl) (by kernel_rfl) (by kernel_rfl) rfl ?_
      refine d_h 25 rfl (h_buildSlice (cs := [_, _, _]) rfl rfl sl_122 zr_27 rfl rfl rfl) (by kernel_rfl) (fun w h => h.ent aEt) rfl (fun b10 _ => ?_)
      refine d_base (fun w h => h.ent aEt) ?_
      refine d_q 26 [] rfl (q_call rfl fn_101 rfl (fun w1 h1 => f101 h1 aPk (by rfl) (by rfl) (by decide))) (by kernel_rfl) (by kernel_rfl) (by kernel_rfl) rfl ?_
      refine d_p 27 rfl (p_pure rfl) (by kernel_rfl) rfl rfl ?_
      refine d_nil (by kernel_rfl) (fun w h => by first | exact h | exact h.ent aEt) ?_
      refine s_seq ?_
      refine s_seq ?_
      refine s_weaken (L' := [(2, _), (3, _), (4, _), (5, _), (7, _)]) aSx (fun _ h => h) ?_
      refine s_region ?_
      refine o_p (p_pure rfl) rfl ?_
      refine o_p (p_pure rfl) rfl ?_
      refine o_nil ?_
      refine s_cond rfl (fun h11 => ?_) (fun h11 => ?_)
      · try simp only [decide_eq_true_eq, decide_eq_false_iff_not, Bool.not_eq_true', Bool.not_eq_false', Bool.and_eq_true, Bool.or_eq_true, Bool.and_eq_false_iff, Bool.or_eq_false_iff, Bool.not_true, Bool.not_false] at h11
        have hp9 := shp_first (s := s) (mx := (if at1 s 3 > at1 s 2 then at1 s 3 else at1 s 2)) (c := decide ((s.length : Int) = 12 + (at1 s 2 + at1 s 3) * 8)) (b := decide (at1 s 0 = 1) && decide (at1 s 1 ≤ 3)) hl12 (by split <;> omega) rfl rfl
        rw [show decide (at1 s 0 = 1) = _ from hg8] at hp9
        have hz9 : ¬ shpE s = 0 := by rw [← hp9]; exact h11
        obtain ⟨hE9, hD9⟩ := dec_bad hz9
        refine s_seq ?_
        refine s_region ?_
        refine o_p (p_build (cs := [_, _, _, _, _, _]) rfl rfl pl_57 zr_57 rfl) rfl ?_
        refine o_p (p_pure rfl) rfl ?_
        refine o_h0 (h_store rfl rfl rfl sz_57 rfl aPt (by simp only [setMany_length, List.length_set, List.length_cons, List.length_nil, List.length_map]; omega) rfl) (fun _ _ => ?_)
        refine o_p (p_pure rfl) rfl ?_
        refine o_nil ?_
        exact s_retv (rs := [.cell 2 57, .tmp 3]) rfl (.cell rfl sz_57 aPk rfl (.tmp rfl (.nil))) (fun w' h' => ⟨((none, 0), (none, 0)), by rw [hE9, hD9, ← hp9]; rfl, trivial, by rw [hD9]; exact ((h'.own_nil 85 4).own_nil 85 4).ent aEt⟩)
      · try simp only [decide_eq_true_eq, decide_eq_false_iff_not, Bool.not_eq_true', Bool.not_eq_false', Bool.and_eq_true, Bool.or_eq_true, Bool.and_eq_false_iff, Bool.or_eq_false_iff, Bool.not_true, Bool.not_false] at h11
        have hp9 := shp_first (s := s) (mx := (if at1 s 3 > at1 s 2 then at1 s 3 else at1 s 2)) (c := decide ((s.length : Int) = 12 + (at1 s 2 + at1 s 3) * 8)) (b := decide (at1 s 0 = 1) && decide (at1 s 1 ≤ 3)) hl12 (by split <;> omega) rfl rfl
        rw [show decide (at1 s 0 = 1) = _ from hg8] at hp9
        have hz9 : shpE s = 0 := by rw [← hp9]; exact h11
        obtain ⟨hs1, ⟨hs2, hs3⟩, hs4, hs5, hs6⟩ := shp_ok hz9
        have hraw := @rawD
        refine s_skip ?_
        refine s_seq ?_
        refine s_draw [12] mixed ?_
        refine d_p 0 rfl (p_pure rfl) (by kernel_rfl) rfl rfl ?_
        refine d_p 1 rfl (p_indexAddr rfl rfl rfl sl_79 (1) (by omega) (by omega) rfl) (by kernel_rfl) rfl rfl ?_
        refine d_q 2 [[]] rfl (q_load_at rfl rfl sz_5 (fun w h => h.rd_blk (Mc := []) (b := b2) (i := 1) aPk (bv_get (l := s) (k := 1) (by omega)) (by simp))) (by kernel_rfl) (by kernel_rfl) (by kernel_rfl) rfl ?_
        refine d_p 3 rfl (p_pure rfl) (by kernel_rfl) rfl rfl ?_
        refine d_p 4 rfl (p_pure rfl) (by kernel_rfl) rfl rfl ?_
        refine d_slot (show _ = Value.bool (rawD s).pr from by rw [show Gx.bits .and .u8 ((s.getD 1 0).toNat : Int) 1 = Gx.bits .and .u8 (at1 s 1) 1 from rfl, bit0 (by omega), Bool.not_not]; rfl) ?_
        refine d_p 5 rfl (p_pure rfl) (by kernel_rfl) rfl rfl ?_
        refine d_p 6 rfl (p_indexAddr rfl rfl rfl sl_79 (1) (by omega) (by omega) rfl) (by kernel_rfl) rfl rfl ?_
        refine d_q 7 [[]] rfl (q_load_at rfl rfl sz_5 (fun w h => h.rd_blk (Mc := []) (b := b2) (i := 1) aPk (bv_get (l := s) (k := 1) (by omega)) (by simp))) (by kernel_rfl) (by kernel_rfl) (by kernel_rfl) rfl ?_
        refine d_p 8 rfl (p_pure rfl) (by kernel_rfl) rfl rfl ?_
        refine d_p 9 rfl (p_pure rfl) (by kernel_rfl) rfl rfl ?_
        refine d_slot (show _ = Value.bool (rawD s).he from by rw [show Gx.bits .and .u8 ((s.getD 1 0).toNat : Int) 2 = Gx.bits .and .u8 (at1 s 1) 2 from rfl, bit1 (by omega), Bool.not_not]; rfl) ?_
        refine d_p 10 rfl (p_build (cs := [_, _, _, _, _, _]) rfl rfl pl_57 zr_57 rfl) (by kernel_rfl) rfl rfl ?_
        refine d_h 11 rfl (h_alloc rfl zr_57) (by kernel_rfl) (fun w h => h.ent aEt) rfl (fun b12 _ => ?_)
        refine d_base (fun w h => h.ent aEt) ?_
        refine d_h0 12 rfl (h_store rfl rfl rfl sz_57 rfl aPt (by simp only [setMany_length, List.length_set, List.length_cons, List.length_nil, List.length_map]; omega) rfl) (by kernel_rfl) (fun w h => h.ent aEt) (fun _ _ => ?_)
        refine d_turn [] (by kernel_rfl) ?_
        refine d_nil (by kernel_rfl) (fun w h => by first | exact h | exact h.ent aEt) ?_
        refine s_seq ?_
        refine s_draw [9, 11] mixed ?_
        refine d_p 0 rfl (p_pure rfl) (by kernel_rfl) rfl rfl ?_
        refine d_p 1 rfl (p_slice _ _ 4 s.length rfl rfl sl_79 ⟨_, _, rfl, rfl⟩ rfl (by omega) (by omega)) (by kernel_rfl) rfl rfl ?_
        refine d_q 2 [[], []] rfl (q_call rfl fn_103 rfl (fun w1 h1 => by have h9 := c103 w1 (subA (some ⟨b2, 0, none⟩) c3 4 1) (s.length - 4) (c3 - 4) (s.drop 4) (by rw [List.map_drop]; exact (h1.vl_blk aPk).drop (by rw [List.length_map]; omega) (by omega)) (by rw [List.length_drop]) (by omega) (by omega) (by have hq9 : c3 ≤ maxLen := (by assumption); simp only [maxLen] at hq9; omega); rw [at4_drop, Nat.add_zero] at h9; exact h9)) (by kernel_rfl) (by kernel_rfl) (by kernel_rfl) rfl ?_
        refine d_p 3 rfl (p_conv_int rfl rfl ki_110 ki_3) (by kernel_rfl) rfl rfl ?_
        try (refine d_slot (i64w (by omega) (by omega)) ?_)
        try (refine d_slot (i64w (by omega) (by omega)) ?_)
        refine d_p 4 rfl (p_pure rfl) (by kernel_rfl) rfl rfl ?_
        refine d_p 5 rfl (p_slice _ _ 8 s.length rfl rfl sl_79 ⟨_, _, rfl, rfl⟩ rfl (by omega) (by omega)) (by kernel_rfl) rfl rfl ?_
        refine d_q 6 [[], []] rfl (q_call rfl fn_103 rfl (fun w1 h1 => by have h9 := c103 w1 (subA (some ⟨b2, 0, none⟩) c3 8 1) (s.length - 8) (c3 - 8) (s.drop 8) (by rw [List.map_drop]; exact (h1.vl_blk aPk).drop (by rw [List.length_map]; omega) (by omega)) (by rw [List.length_drop]) (by omega) (by omega) (by have hq9 : c3 ≤ maxLen := (by assumption); simp only [maxLen] at hq9; omega); rw [at4_drop, Nat.add_zero] at h9; exact h9)) (by kernel_rfl) (by kernel_rfl) (by kernel_rfl) rfl ?_
        refine d_p 7 rfl (p_conv_int rfl rfl ki_110 ki_3) (by kernel_rfl) rfl rfl ?_
        try (refine d_slot (i64w (by omega) (by omega)) ?_)
        try (refine d_slot (i64w (by omega) (by omega)) ?_)
        refine d_p 8 rfl (p_fieldAddr rfl rfl fd_57_0 sz_3 rfl) (by kernel_rfl) rfl rfl ?_
        refine d_h0 9 rfl (h_store rfl rfl rfl sz_3 rfl aPt (by simp only [setMany_length, List.length_set, List.length_cons, List.length_nil, List.length_map]; omega) rfl) (by kernel_rfl) (fun w h => h.ent aEt) (fun _ _ => ?_)
        refine d_turn [11] (by kernel_rfl) ?_
        refine d_p 10 rfl (p_fieldAddr rfl rfl fd_57_1 sz_3 rfl) (by kernel_rfl) rfl rfl ?_
        refine d_h0 11 rfl (h_store rfl rfl rfl sz_3 rfl aPt (by simp only [setMany_length, List.length_set, List.length_cons, List.length_nil, List.length_map]; omega) rfl) (by kernel_rfl) (fun w h => h.ent aEt) (fun _ _ => ?_)
        refine d_turn [] (by kernel_rfl) ?_
        refine d_nil (by kernel_rfl) (fun w h => by first | exact h | exact h.ent aEt) ?_
        refine s_seq ?_
        refine s_seq ?_
        refine s_region ?_
        refine o_p (p_pure rfl) rfl ?_
        refine o_p (p_slice _ _ 12 s.length rfl rfl sl_79 ⟨_, _, rfl, rfl⟩ rfl (by omega) (by omega)) rfl ?_
        refine o_h (h_call rfl fn_104 rfl (fun w1 h1 => c104 w1 _ _ _)) rfl (fun gc _ => ?_)
        refine o_nil ?_
        refine s_block ?_
        refine s_range (G := (Option Addr × Nat) × (Option Addr × Nat)) (Bs := fun g => [.blk b12 57 6 [.int .i64 (rawD s).ow, .int .i64 (rawD s).gr, .bool (rawD s).pr, .bool (rawD s).he, .slice g.1.1 (rawD s).en.length g.1.2, .slice g.2.1 (rawD s).au.length g.2.2], .own (.slice g.1.1 (rawD s).en.length g.1.2) 85 4 (rawD s).en.length ((rawD s).en.flatMap Ace.vals), .own (.slice g.2.1 (rawD s).au.length g.2.2) 85 4 (rawD s).au.length ((rawD s).au.flatMap Ace.vals), .blk b7 3 1 [.int .i64 (at1 s 2)], .blk b2 5 c3 (s.map bv), .blk b1 57 6 [.int .i64 0, .int .i64 0, .bool false, .bool false, .slice none 0 0, .slice none 0 0], .blk gc.1 79 1 [.slice (subA (some ⟨b2, 0, none⟩) c3 12 1) (s.length - 12) (c3 - 12)], .blk gc.2 3 1 [.int .i64 8]]) rfl rfl rfl fn_120 (fun fid D l a9 w1 ob hob ha9 hw1 => ?_) (fun D x => ?_)
        · skip
          refine (c120 w1 w [] (fun (k : Nat) (g : (Option Addr × Nat) × (Option Addr × Nat)) => .obj l ob :: .obj D (.deferred (some [])) :: [.blk b12 57 6 [.int .i64 (rawD s).ow, .int .i64 (rawD s).gr, .bool (rawD s).pr, .bool (rawD s).he, .slice g.1.1 (enK s k).length g.1.2, .slice g.2.1 (auK s k).length g.2.2], .own (.slice g.1.1 (enK s k).length g.1.2) 85 4 (enK s k).length ((enK s k).flatMap Ace.vals), .own (.slice g.2.1 (auK s k).length g.2.2) 85 4 (auK s k).length ((auK s k).flatMap Ace.vals), .blk b7 3 1 [.int .i64 (at1 s 2)], .blk b2 5 c3 (s.map bv), .blk b1 57 6 [.int .i64 0, .int .i64 0, .bool false, .bool false, .slice none 0 0, .slice none 0 0], .blk gc.1 79 1 [.slice (subA (some ⟨b2, 0, none⟩) c3 12 1) (s.length - 12) (c3 - 12)], .blk gc.2 3 1 [.int .i64 8]]) ((none, 0), (none, 0)) l gc.1 gc.2 ((at1 s 2).toNat + (at1 s 3).toNat) (subA (some ⟨b2, 0, none⟩) c3 12 1) (s.length - 12) (c3 - 12) (by omega) (by omega) (by have hq9 : c3 ≤ maxLen := (by assumption); simp only [maxLen] at hq9; omega) ?_ ?_ (fun k g w2 hk h2 => ?_)).mono fun e w2 hx => ?_
          · show HS w [] (_ :: _) w1; rw [enK_zero, auK_zero]; exact ((hw1.own_nil 85 4).own_nil 85 4).ent aEt
          · exact fun k g w2 h2 => ⟨h2.rd_blk (i := 0) aPk rfl (by simp), h2.rd_blk (i := 0) aPk rfl (by simp)⟩
          rotate_left
          · obtain ⟨hx1, x, hx2⟩ := hx
            refine ⟨hx1, x, ?_⟩
            rw [← enK_end, ← auK_end]
            exact hx2
          subst hob
          have hel := enK_len s k
          have hal := auK_len s k
          rw [subA_add (b := b2) (o := 0 + 12) (k := 8 * k) (cap := 8 * k + 8) (subA_add rfl (by omega)) (by omega), show 0 + 12 + 8 * k = 0 + (12 + 8 * k) from by omega]
          refine y_round (fn := Tryz.f78) (As1 := .obj D (.deferred (some [])) :: [.blk b12 57 6 [.int .i64 (rawD s).ow, .int .i64 (rawD s).gr, .bool (rawD s).pr, .bool (rawD s).he, .slice g.1.1 (enK s k).length g.1.2, .slice g.2.1 (auK s k).length g.2.2], .own (.slice g.1.1 (enK s k).length g.1.2) 85 4 (enK s k).length ((enK s k).flatMap Ace.vals), .own (.slice g.2.1 (auK s k).length g.2.2) 85 4 (auK s k).length ((auK s k).flatMap Ace.vals), .blk b7 3 1 [.int .i64 (at1 s 2)], .blk b2 5 c3 (s.map bv), .blk b1 57 6 [.int .i64 0, .int .i64 0, .bool false, .bool false, .slice none 0 0, .slice none 0 0], .blk gc.1 79 1 [.slice (subA (some ⟨b2, 0, none⟩) c3 12 1) (s.length - 12) (c3 - 12)], .blk gc.2 3 1 [.int .i64 8]]) (L1 := [(9, .slice (some ⟨b2, 0 + (12 + 8 * k), none⟩) 8 8), (8, .pointer (some ⟨b12, 0, none⟩)), (5, .pointer (some ⟨b7, 0, none⟩))]) h2 rfl (FR.round1 ha9 80 _ rfl) ?_ ?_
          · skip
            refine s_region ?_
            refine o_p (p_pure rfl) rfl ?_
            refine o_nil ?_
            exact s_join () aSx (fun w h => h.ent aEt)
          · skip
            refine s_block ?_
            refine s_seq ?_
            refine s_region ?_
            refine o_p (p_fieldAddr rfl rfl fd_57_4 sz_55 rfl) rfl ?_
            refine o_q (q_load rfl rfl sz_55 aPk rfl) rfl ?_
            refine o_p (p_len_slice rfl rfl Tryz.underlying55) rfl ?_
            refine o_q (q_load rfl rfl sz_3 aPk rfl) rfl ?_
            refine o_p (p_pure rfl) rfl ?_
            refine o_nil ?_
            refine s_cond rfl (fun h13 => ?_) (fun h13 => ?_)
            · try simp only [decide_eq_true_eq, decide_eq_false_iff_not, Bool.not_eq_true', Bool.not_eq_false', Bool.and_eq_true, Bool.or_eq_true, Bool.and_eq_false_iff, Bool.or_eq_false_iff, Bool.not_true, Bool.not_false] at h13
              have hke : k < (at1 s 2).toNat := by have hq := h13; omega
              have hen := enK_succ hke
              have hau := auK_same hke
              refine s_draw [5, 7] mixed ?_
              refine d_p 0 rfl (p_fieldAddr rfl rfl fd_57_4 sz_55 rfl) (by kernel_rfl) rfl rfl ?_
              refine d_q 1 [[], []] rfl (q_load rfl rfl sz_55 aPk rfl) (by kernel_rfl) (by kernel_rfl) (by kernel_rfl) rfl ?_
              refine d_p 2 rfl (p_pure rfl) (by kernel_rfl) rfl rfl ?_
              refine d_q 3 [[], []] rfl (q_call rfl fn_105 rfl (fun w1 h1 => by have h9 := c105 w1 (some ⟨b2, 0 + (12 + 8 * k), none⟩) 8 8 ((s.drop (12 + 8 * k)).take 8) (by rw [List.map_take, List.map_drop]; exact vl_part (h1.vl_blk aPk) rfl (by rw [List.length_map]; omega)) (by rw [List.length_take, List.length_drop]; omega) (by omega) (by omega) (by omega); rw [ace_part] at h9; exact h9)) (by kernel_rfl) (by kernel_rfl) (by kernel_rfl) rfl ?_
              refine d_h 4 rfl (h_buildSlice (cs := [_, _, _, _]) rfl rfl sl_55 zr_85 rfl rfl rfl) (by kernel_rfl) (fun w h => h.ent aEt) rfl (fun b14 _ => ?_)
              refine d_base (fun w h => h.ent aEt) ?_
              refine d_h 5 rfl (h_appendS [_, _, _, _] rfl rfl rfl sl_55 Tryz.underlying55 zr_85 rfl aPk (src_blk aPk) rfl (av1 _) (by omega) (by simp only [maxLen]; omega)) (by kernel_rfl) (fun w h => h.ent aEt) rfl (fun b15 _ => ?_)
              refine d_turn [7] (by kernel_rfl) ?_
              refine d_p 6 rfl (p_fieldAddr rfl rfl fd_57_4 sz_55 rfl) (by kernel_rfl) rfl rfl ?_
              refine d_h0 7 rfl (h_store rfl rfl rfl sz_55 rfl aPt (by simp only [setMany_length, List.length_set, List.length_cons, List.length_nil, List.length_map]; omega) rfl) (by kernel_rfl) (fun w h => h.ent aEt) (fun _ _ => ?_)
              refine d_turn [] (by kernel_rfl) ?_
              refine d_nil (by kernel_rfl) (fun w h => by first | exact h | exact h.ent aEt) ?_
              refine s_blk ?_
              exact s_end_rd rfl aPk (fun w h => ⟨(b15, g.2), rfl, trivial, by dsimp only; rw [hen, hau, List.length_append, flat_append]; exact h.ent aEt⟩)
            · try simp only [decide_eq_true_eq, decide_eq_false_iff_not, Bool.not_eq_true', Bool.not_eq_false', Bool.and_eq_true, Bool.or_eq_true, Bool.and_eq_false_iff, Bool.or_eq_false_iff, Bool.not_true, Bool.not_false] at h13
              have hke : (at1 s 2).toNat ≤ k := by have hq := h13; omega
              have hen := enK_same hke
              have hau := auK_succ hke
              refine s_draw [5, 7] mixed ?_
              refine d_p 0 rfl (p_fieldAddr rfl rfl fd_57_5 sz_55 rfl) (by kernel_rfl) rfl rfl ?_
              refine d_q 1 [[], []] rfl (q_load rfl rfl sz_55 aPk rfl) (by kernel_rfl) (by kernel_rfl) (by kernel_rfl) rfl ?_
              refine d_p 2 rfl (p_pure rfl) (by kernel_rfl) rfl rfl ?_
              refine d_q 3 [[], []] rfl (q_call rfl fn_105 rfl (fun w1 h1 => by have h9 := c105 w1 (some ⟨b2, 0 + (12 + 8 * k), none⟩) 8 8 ((s.drop (12 + 8 * k)).take 8) (by rw [List.map_take, List.map_drop]; exact vl_part (h1.vl_blk aPk) rfl (by rw [List.length_map]; omega)) (by rw [List.length_take, List.length_drop]; omega) (by omega) (by omega) (by omega); rw [ace_part] at h9; exact h9)) (by kernel_rfl) (by kernel_rfl) (by kernel_rfl) rfl ?_
              refine d_h 4 rfl (h_buildSlice (cs := [_, _, _, _]) rfl rfl sl_55 zr_85 rfl rfl rfl) (by kernel_rfl) (fun w h => h.ent aEt) rfl (fun b16 _ => ?_)
              refine d_base (fun w h => h.ent aEt) ?_
              refine d_h 5 rfl (h_appendS [_, _, _, _] rfl rfl rfl sl_55 Tryz.underlying55 zr_85 rfl aPk (src_blk aPk) rfl (av1 _) (by omega) (by simp only [maxLen]; omega)) (by kernel_rfl) (fun w h => h.ent aEt) rfl (fun b17 _ => ?_)
              refine d_turn [7] (by kernel_rfl) ?_
              refine d_p 6 rfl (p_fieldAddr rfl rfl fd_57_5 sz_55 rfl) (by kernel_rfl) rfl rfl ?_
              refine d_h0 7 rfl (h_store rfl rfl rfl sz_55 rfl aPt (by simp only [setMany_length, List.length_set, List.length_cons, List.length_nil, List.length_map]; omega) rfl) (by kernel_rfl) (fun w h => h.ent aEt) (fun _ _ => ?_)
              refine d_turn [] (by kernel_rfl) ?_
              refine d_nil (by kernel_rfl) (fun w h => by first | exact h | exact h.ent aEt) ?_
              refine s_blk ?_
              exact s_end_rd rfl aPk (fun w h => ⟨(g.1, b17), rfl, trivial, by dsimp only; rw [hen, hau, List.length_append, flat_append]; exact h.ent aEt⟩)
        · skip
          refine s_blk ?_
          refine s_seq ?_
          refine s_seq ?_
          refine s_weaken (L' := [(2, _), (3, _), (8, _)]) aSx (fun _ h => h) ?_
          refine s_region ?_
          refine o_q (q_loadn rfl rfl sz_57 aPk rfl) rfl ?_
          refine o_q (q_call rfl fn_97 rfl (fun w1 h1 => c97 w1 (rawD s) x.1.1 x.1.2 x.2.1 x.2.2 (h1.rw_own av4 aPk rfl) (h1.rw_own av4 aPk rfl) (by rw [← enK_end, enK_len]; omega) (by rw [← auK_end, auK_len]; omega))) rfl ?_
          refine o_p (p_pure rfl) rfl ?_
          refine o_nil ?_
          refine s_seq ?_
          refine s_region ?_
          refine o_p (p_pure rfl) rfl ?_
          refine o_p (p_pure rfl) rfl ?_
          refine o_nil ?_
          refine s_cond rfl (fun h18 => ?_) (fun h18 => ?_)
          · try simp only [decide_eq_true_eq, decide_eq_false_iff_not, Bool.not_eq_true', Bool.not_eq_false', Bool.and_eq_true, Bool.or_eq_true, Bool.and_eq_false_iff, Bool.or_eq_false_iff, Bool.not_true, Bool.not_false] at h18
            have hn9 : ¬ (dscE (rawD s)).2 = 0 := h18
            obtain ⟨hE9, hD9⟩ := dec_not hz9 hn9
            refine s_seq ?_
            refine s_region ?_
            refine o_p (p_build (cs := [_, _, _, _, _, _]) rfl rfl pl_57 zr_57 rfl) rfl ?_
            refine o_p (p_pure rfl) rfl ?_
            refine o_h0 (h_store rfl rfl rfl sz_57 rfl aPt (by simp only [setMany_length, List.length_set, List.length_cons, List.length_nil, List.length_map]; omega) rfl) (fun _ _ => ?_)
            refine o_p (p_pure rfl) rfl ?_
            refine o_nil ?_
            exact s_retm (rs := [.cell 2 57, .tmp 3]) rfl aPk (.cell rfl sz_57 aPk rfl (.tmp rfl (.nil))) (fun w' h' => ⟨((none, 0), (none, 0)), by rw [hE9, hD9]; rfl, trivial, by rw [hD9]; exact ((h'.own_nil 85 4).own_nil 85 4).ent aEt⟩)
          · try simp only [decide_eq_true_eq, decide_eq_false_iff_not, Bool.not_eq_true', Bool.not_eq_false', Bool.and_eq_true, Bool.or_eq_true, Bool.and_eq_false_iff, Bool.or_eq_false_iff, Bool.not_true, Bool.not_false] at h18
            have hn9 : (dscE (rawD s)).2 = 0 := h18
            obtain ⟨hE9, hD9⟩ := dec_good hz9 hn9
            refine s_skip ?_
            refine s_seq ?_
            refine s_region ?_
            refine o_q (q_loadn rfl rfl sz_57 aPk rfl) rfl ?_
            refine o_h0 (h_store rfl rfl rfl sz_57 rfl aPt (by simp only [setMany_length, List.length_set, List.length_cons, List.length_nil, List.length_map]; omega) rfl) (fun _ _ => ?_)
            refine o_p (p_pure rfl) rfl ?_
            refine o_nil ?_
            exact s_retm (rs := [.cell 2 57, .tmp 3]) rfl aPk (.cell rfl sz_57 aPk rfl (.tmp rfl (.nil))) (fun w' h' => ⟨x, by rw [hE9, hD9]; rfl, trivial, by rw [hD9]; exact h'.ent aEt⟩)
    · intro hg19
      have hs20 := hg19; try simp only [decide_eq_true_eq, decide_eq_false_iff_not, Bool.not_eq_true', Bool.not_eq_false', Bool.and_eq_true, Bool.or_eq_true, Bool.and_eq_false_iff, Bool.or_eq_false_iff, Bool.not_true, Bool.not_false] at hs20
      refine d_off 19 43 rfl rfl rfl hg19 (by kernel_rfl) rfl rfl ?_
      refine d_off 20 43 rfl rfl rfl hg19 (by kernel_rfl) rfl rfl ?_
      refine d_off 21 43 rfl rfl rfl hg19 (by kernel_rfl) rfl rfl ?_
      refine d_off 22 43 rfl rfl rfl hg19 (by kernel_rfl) rfl rfl ?_
      refine d_p 23 rfl (p_pickf rfl rfl hg19 rfl) (by kernel_rfl) rfl rfl ?_
      refine d_q 24 [] rfl (q_call rfl fn_102 rfl (fun w1 h1 => c102 w1 _ _)) (by kernel_rfl) (by kernel_rfl) (by kernel_rfl) rfl ?_
      refine d_h 25 rfl (h_buildSlice (cs := [_, _, _]) rfl rfl sl_122 zr_27 rfl rfl rfl) (by kernel_rfl) (fun w h => h.ent aEt) rfl (fun b21 _ => ?_)
      refine d_base (fun w h => h.ent aEt) ?_
      refine d_q 26 [] rfl (q_call rfl fn_101 rfl (fun w1 h1 => f101 h1 aPk (by rfl) (by rfl) (by decide))) (by kernel_rfl) (by kernel_rfl) (by kernel_rfl) rfl ?_
      refine d_p 27 rfl (p_pure rfl) (by kernel_rfl) rfl rfl ?_
      refine d_nil (by kernel_rfl) (fun w h => by first | exact h | exact h.ent aEt) ?_
      refine s_seq ?_
      refine s_seq ?_
      refine s_weaken (L' := [(2, _), (3, _), (4, _), (5, _), (7, _)]) aSx (fun _ h => h) ?_
      refine s_region ?_
      refine o_p (p_pure rfl) rfl ?_
      refine o_p (p_pure rfl) rfl ?_
      refine o_nil ?_
      refine s_cond rfl (fun h22 => ?_) (fun h22 => ?_)
      · try simp only [decide_eq_true_eq, decide_eq_false_iff_not, Bool.not_eq_true', Bool.not_eq_false', Bool.and_eq_true, Bool.or_eq_true, Bool.and_eq_false_iff, Bool.or_eq_false_iff, Bool.not_true, Bool.not_false] at h22
        have hp9 := shp_first (s := s) (mx := (if at1 s 3 > at1 s 2 then at1 s 3 else at1 s 2)) (c := decide ((s.length : Int) = 12 + (at1 s 2 + at1 s 3) * 8)) (b := decide (at1 s 0 = 1) && decide (at1 s 1 ≤ 3)) hl12 (by split <;> omega) rfl rfl
        rw [show decide (at1 s 0 = 1) = _ from hg19] at hp9
        have hz9 : ¬ shpE s = 0 := by rw [← hp9]; exact h22
        obtain ⟨hE9, hD9⟩ := dec_bad hz9
        refine s_seq ?_
        refine s_region ?_
        refine o_p (p_build (cs := [_, _, _, _, _, _]) rfl rfl pl_57 zr_57 rfl) rfl ?_
        refine o_p (p_pure rfl) rfl ?_
        refine o_h0 (h_store rfl rfl rfl sz_57 rfl aPt (by simp only [setMany_length, List.length_set, List.length_cons, List.length_nil, List.length_map]; omega) rfl) (fun _ _ => ?_)
        refine o_p (p_pure rfl) rfl ?_
        refine o_nil ?_
        exact s_retv (rs := [.cell 2 57, .tmp 3]) rfl (.cell rfl sz_57 aPk rfl (.tmp rfl (.nil))) (fun w' h' => ⟨((none, 0), (none, 0)), by rw [hE9, hD9, ← hp9]; rfl, trivial, by rw [hD9]; exact ((h'.own_nil 85 4).own_nil 85 4).ent aEt⟩)
      · try simp only [decide_eq_true_eq, decide_eq_false_iff_not, Bool.not_eq_true', Bool.not_eq_false', Bool.and_eq_true, Bool.or_eq_true, Bool.and_eq_false_iff, Bool.or_eq_false_iff, Bool.not_true, Bool.not_false] at h22
        have hp9 := shp_first (s := s) (mx := (if at1 s 3 > at1 s 2 then at1 s 3 else at1 s 2)) (c := decide ((s.length : Int) = 12 + (at1 s 2 + at1 s 3) * 8)) (b := decide (at1 s 0 = 1) && decide (at1 s 1 ≤ 3)) hl12 (by split <;> omega) rfl rfl
        rw [show decide (at1 s 0 = 1) = _ from hg19] at hp9
        have hz9 : shpE s = 0 := by rw [← hp9]; exact h22
        obtain ⟨hs1, ⟨hs2, hs3⟩, hs4, hs5, hs6⟩ := shp_ok hz9
        have hraw := @rawD
        refine s_skip ?_
        refine s_seq ?_
        refine s_draw [12] mixed ?_
        refine d_p 0 rfl (p_pure rfl) (by kernel_rfl) rfl rfl ?_
        refine d_p 1 rfl (p_indexAddr rfl rfl rfl sl_79 (1) (by omega) (by omega) rfl) (by kernel_rfl) rfl rfl ?_
        refine d_q 2 [[]] rfl (q_load_at rfl rfl sz_5 (fun w h => h.rd_blk (Mc := []) (b := b2) (i := 1) aPk (bv_get (l := s) (k := 1) (by omega)) (by simp))) (by kernel_rfl) (by kernel_rfl) (by kernel_rfl) rfl ?_
        refine d_p 3 rfl (p_pure rfl) (by kernel_rfl) rfl rfl ?_
        refine d_p 4 rfl (p_pure rfl) (by kernel_rfl) rfl rfl ?_
        refine d_slot (show _ = Value.bool (rawD s).pr from by rw [show Gx.bits .and .u8 ((s.getD 1 0).toNat : Int) 1 = Gx.bits .and .u8 (at1 s 1) 1 from rfl, bit0 (by omega), Bool.not_not]; rfl) ?_
        refine d_p 5 rfl (p_pure rfl) (by kernel_rfl) rfl rfl ?_
        refine d_p 6 rfl (p_indexAddr rfl rfl rfl sl_79 (1) (by omega) (by omega) rfl) (by kernel_rfl) rfl rfl ?_
        refine d_q 7 [[]] rfl (q_load_at rfl rfl sz_5 (fun w h => h.rd_blk (Mc := []) (b := b2) (i := 1) aPk (bv_get (l := s) (k := 1) (by omega)) (by simp))) (by kernel_rfl) (by kernel_rfl) (by kernel_rfl) rfl ?_
        refine d_p 8 rfl (p_pure rfl) (by kernel_rfl) rfl rfl ?_
        refine d_p 9 rfl (p_pure rfl) (by kernel_rfl) rfl rfl ?_
        refine d_slot (show _ = Value.bool (rawD s).he from by rw [show Gx.bits .and .u8 ((s.getD 1 0).toNat : Int) 2 = Gx.bits .and .u8 (at1 s 1) 2 from rfl, bit1 (by omega), Bool.not_not]; rfl) ?_
        refine d_p 10 rfl (p_build (cs := [_, _, _, _, _, _]) rfl rfl pl_57 zr_57 rfl) (by kernel_rfl) rfl rfl ?_
        refine d_h 11 rfl (h_alloc rfl zr_57) (by kernel_rfl) (fun w h => h.ent aEt) rfl (fun b23 _ => ?_)
        refine d_base (fun w h => h.ent aEt) ?_
        refine d_h0 12 rfl (h_store rfl rfl rfl sz_57 rfl aPt (by simp only [setMany_length, List.length_set, List.length_cons, List.length_nil, List.length_map]; omega) rfl) (by kernel_rfl) (fun w h => h.ent aEt) (fun _ _ => ?_)
        refine d_turn [] (by kernel_rfl) ?_
        refine d_nil (by kernel_rfl) (fun w h => by first | exact h | exact h.ent aEt) ?_
        refine s_seq ?_
        refine s_draw [9, 11] mixed ?_
        refine d_p 0 rfl (p_pure rfl) (by kernel_rfl) rfl rfl ?_
        refine d_p 1 rfl (p_slice _ _ 4 s.length rfl rfl sl_79 ⟨_, _, rfl, rfl⟩ rfl (by omega) (by omega)) (by kernel_rfl) rfl rfl ?_
        refine d_q 2 [[], []] rfl (q_call rfl fn_103 rfl (fun w1 h1 => by have h9 := c103 w1 (subA (some ⟨b2, 0, none⟩) c3 4 1) (s.length - 4) (c3 - 4) (s.drop 4) (by rw [List.map_drop]; exact (h1.vl_blk aPk).drop (by rw [List.length_map]; omega) (by omega)) (by rw [List.length_drop]) (by omega) (by omega) (by have hq9 : c3 ≤ maxLen := (by assumption); simp only [maxLen] at hq9; omega); rw [at4_drop, Nat.add_zero] at h9; exact h9)) (by kernel_rfl) (by kernel_rfl) (by kernel_rfl) rfl ?_
        refine d_p 3 rfl (p_conv_int rfl rfl ki_110 ki_3) (by kernel_rfl) rfl rfl ?_
        try (refine d_slot (i64w (by omega) (by omega)) ?_)
        try (refine d_slot (i64w (by omega) (by omega)) ?_)
        refine d_p 4 rfl (p_pure rfl) (by kernel_rfl) rfl rfl ?_
        refine d_p 5 rfl (p_slice _ _ 8 s.length rfl rfl sl_79 ⟨_, _, rfl, rfl⟩ rfl (by omega) (by omega)) (by kernel_rfl) rfl rfl ?_
        refine d_q 6 [[], []] rfl (q_call rfl fn_103 rfl (fun w1 h1 => by have h9 := c103 w1 (subA (some ⟨b2, 0, none⟩) c3 8 1) (s.length - 8) (c3 - 8) (s.drop 8) (by rw [List.map_drop]; exact (h1.vl_blk aPk).drop (by rw [List.length_map]; omega) (by omega)) (by rw [List.length_drop]) (by omega) (by omega) (by have hq9 : c3 ≤ maxLen := (by assumption); simp only [maxLen] at hq9; omega); rw [at4_drop, Nat.add_zero] at h9; exact h9)) (by kernel_rfl) (by kernel_rfl) (by kernel_rfl) rfl ?_
        refine d_p 7 rfl (p_conv_int rfl rfl ki_110 ki_3) (by kernel_rfl) rfl rfl ?_
        try (refine d_slot (i64w (by omega) (by omega)) ?_)
        try (refine d_slot (i64w (by omega) (by omega)) ?_)
        refine d_p 8 rfl (p_fieldAddr rfl rfl fd_57_0 sz_3 rfl) (by kernel_rfl) rfl rfl ?_
        refine d_h0 9 rfl (h_store rfl rfl rfl sz_3 rfl aPt (by simp only [setMany_length, List.length_set, List.length_cons, List.length_nil, List.length_map]; omega) rfl) (by kernel_rfl) (fun w h => h.ent aEt) (fun _ _ => ?_)
        refine d_turn [11] (by kernel_rfl) ?_
        refine d_p 10 rfl (p_fieldAddr rfl rfl fd_57_1 sz_3 rfl) (by kernel_rfl) rfl rfl ?_
        refine d_h0 11 rfl (h_store rfl rfl rfl sz_3 rfl aPt (by simp only [setMany_length, List.length_set, List.length_cons, List.length_nil, List.length_map]; omega) rfl) (by kernel_rfl) (fun w h => h.ent aEt) (fun _ _ => ?_)
        refine d_turn [] (by kernel_rfl) ?_
        refine d_nil (by kernel_rfl) (fun w h => by first | exact h | exact h.ent aEt) ?_
        refine s_seq ?_
        refine s_seq ?_
        refine s_region ?_
        refine o_p (p_pure rfl) rfl ?_
        refine o_p (p_slice _ _ 12 s.length rfl rfl sl_79 ⟨_, _, rfl, rfl⟩ rfl (by omega) (by omega)) rfl ?_
        refine o_h (h_call rfl fn_104 rfl (fun w1 h1 => c104 w1 _ _ _)) rfl (fun gc _ => ?_)
        refine o_nil ?_
        refine s_block ?_
        refine s_range (G := (Option Addr × Nat) × (Option Addr × Nat)) (Bs := fun g => [.blk b23 57 6 [.int .i64 (rawD s).ow, .int .i64 (rawD s).gr, .bool (rawD s).pr, .bool (rawD s).he, .slice g.1.1 (rawD s).en.length g.1.2, .slice g.2.1 (rawD s).au.length g.2.2], .own (.slice g.1.1 (rawD s).en.length g.1.2) 85 4 (rawD s).en.length ((rawD s).en.flatMap Ace.vals), .own (.slice g.2.1 (rawD s).au.length g.2.2) 85 4 (rawD s).au.length ((rawD s).au.flatMap Ace.vals), .blk b7 3 1 [.int .i64 (at1 s 2)], .blk b2 5 c3 (s.map bv), .blk b1 57 6 [.int .i64 0, .int .i64 0, .bool false, .bool false, .slice none 0 0, .slice none 0 0], .blk gc.1 79 1 [.slice (subA (some ⟨b2, 0, none⟩) c3 12 1) (s.length - 12) (c3 - 12)], .blk gc.2 3 1 [.int .i64 8]]) rfl rfl rfl fn_120 (fun fid D l a9 w1 ob hob ha9 hw1 => ?_) (fun D x => ?_)
        · skip
          refine (c120 w1 w [] (fun (k : Nat) (g : (Option Addr × Nat) × (Option Addr × Nat)) => .obj l ob :: .obj D (.deferred (some [])) :: [.blk b23 57 6 [.int .i64 (rawD s).ow, .int .i64 (rawD s).gr, .bool (rawD s).pr, .bool (rawD s).he, .slice g.1.1 (enK s k).length g.1.2, .slice g.2.1 (auK s k).length g.2.2], .own (.slice g.1.1 (enK s k).length g.1.2) 85 4 (enK s k).length ((enK s k).flatMap Ace.vals), .own (.slice g.2.1 (auK s k).length g.2.2) 85 4 (auK s k).length ((auK s k).flatMap Ace.vals), .blk b7 3 1 [.int .i64 (at1 s 2)], .blk b2 5 c3 (s.map bv), .blk b1 57 6 [.int .i64 0, .int .i64 0, .bool false, .bool false, .slice none 0 0, .slice none 0 0], .blk gc.1 79 1 [.slice (subA (some ⟨b2, 0, none⟩) c3 12 1) (s.length - 12) (c3 - 12)], .blk gc.2 3 1 [.int .i64 8]]) ((none, 0), (none, 0)) l gc.1 gc.2 ((at1 s 2).toNat + (at1 s 3).toNat) (subA (some ⟨b2, 0, none⟩) c3 12 1) (s.length - 12) (c3 - 12) (by omega) (by omega) (by have hq9 : c3 ≤ maxLen := (by assumption); simp only [maxLen] at hq9; omega) ?_ ?_ (fun k g w2 hk h2 => ?_)).mono fun e w2 hx => ?_
          · show HS w [] (_ :: _) w1; rw [enK_zero, auK_zero]; exact ((hw1.own_nil 85 4).own_nil 85 4).ent aEt
          · exact fun k g w2 h2 => ⟨h2.rd_blk (i := 0) aPk rfl (by simp), h2.rd_blk (i := 0) aPk rfl (by simp)⟩
          rotate_left
          · obtain ⟨hx1, x, hx2⟩ := hx
            refine ⟨hx1, x, ?_⟩
            rw [← enK_end, ← auK_end]
            exact hx2
          subst hob
          have hel := enK_len s k
          have hal := auK_len s k
          rw [subA_add (b := b2) (o := 0 + 12) (k := 8 * k) (cap := 8 * k + 8) (subA_add rfl (by omega)) (by omega), show 0 + 12 + 8 * k = 0 + (12 + 8 * k) from by omega]
          refine y_round (fn := Tryz.f78) (As1 := .obj D (.deferred (some [])) :: [.blk b23 57 6 [.int .i64 (rawD s).ow, .int .i64 (rawD s).gr, .bool (rawD s).pr, .bool (rawD s).he, .slice g.1.1 (enK s k).length g.1.2, .slice g.2.1 (auK s k).length g.2.2], .own (.slice g.1.1 (enK s k).length g.1.2) 85 4 (enK s k).length ((enK s k).flatMap Ace.vals), .own (.slice g.2.1 (auK s k).length g.2.2) 85 4 (auK s k).length ((auK s k).flatMap Ace.vals), .blk b7 3 1 [.int .i64 (at1 s 2)], .blk b2 5 c3 (s.map bv), .blk b1 57 6 [.int .i64 0, .int .i64 0, .bool false, .bool false, .slice none 0 0, .slice none 0 0], .blk gc.1 79 1 [.slice (subA (some ⟨b2, 0, none⟩) c3 12 1) (s.length - 12) (c3 - 12)], .blk gc.2 3 1 [.int .i64 8]]) (L1 := [(9, .slice (some ⟨b2, 0 + (12 + 8 * k), none⟩) 8 8), (8, .pointer (some ⟨b23, 0, none⟩)), (5, .pointer (some ⟨b7, 0, none⟩))]) h2 rfl (FR.round1 ha9 80 _ rfl) ?_ ?_
          · skip
            refine s_region ?_
            refine o_p (p_pure rfl) rfl ?_
            refine o_nil ?_
            exact s_join () aSx (fun w h => h.ent aEt)
          · skip
            refine s_block ?_
            refine s_seq ?_
            refine s_region ?_
            refine o_p (p_fieldAddr rfl rfl fd_57_4 sz_55 rfl) rfl ?_
            refine o_q (q_load rfl rfl sz_55 aPk rfl) rfl ?_
            refine o_p (p_len_slice rfl rfl Tryz.underlying55) rfl ?_
            refine o_q (q_load rfl rfl sz_3 aPk rfl) rfl ?_
            refine o_p (p_pure rfl) rfl ?_
            refine o_nil ?_
            refine s_cond rfl (fun h24 => ?_) (fun h24 => ?_)
            · try simp only [decide_eq_true_eq, decide_eq_false_iff_not, Bool.not_eq_true', Bool.not_eq_false', Bool.and_eq_true, Bool.or_eq_true, Bool.and_eq_false_iff, Bool.or_eq_false_iff, Bool.not_true, Bool.not_false] at h24
              have hke : k < (at1 s 2).toNat := by have hq := h24; omega
              have hen := enK_succ hke
              have hau := auK_same hke
              refine s_draw [5, 7] mixed ?_
              refine d_p 0 rfl (p_fieldAddr rfl rfl fd_57_4 sz_55 rfl) (by kernel_rfl) rfl rfl ?_
              refine d_q 1 [[], []] rfl (q_load rfl rfl sz_55 aPk rfl) (by kernel_rfl) (by kernel_rfl) (by kernel_rfl) rfl ?_
              refine d_p 2 rfl (p_pure rfl) (by kernel_rfl) rfl rfl ?_
              refine d_q 3 [[], []] rfl (q_call rfl fn_105 rfl (fun w1 h1 => by have h9 := c105 w1 (some ⟨b2, 0 + (12 + 8 * k), none⟩) 8 8 ((s.drop (12 + 8 * k)).take 8) (by rw [List.map_take, List.map_drop]; exact vl_part (h1.vl_blk aPk) rfl (by rw [List.length_map]; omega)) (by rw [List.length_take, List.length_drop]; omega) (by omega) (by omega) (by omega); rw [ace_part] at h9; exact h9)) (by kernel_rfl) (by kernel_rfl) (by kernel_rfl) rfl ?_
              refine d_h 4 rfl (h_buildSlice (cs := [_, _, _, _]) rfl rfl sl_55 zr_85 rfl rfl rfl) (by kernel_rfl) (fun w h => h.ent aEt) rfl (fun b25 _ => ?_)
              refine d_base (fun w h => h.ent aEt) ?_
              refine d_h 5 rfl (h_appendS [_, _, _, _] rfl rfl rfl sl_55 Tryz.underlying55 zr_85 rfl aPk (src_blk aPk) rfl (av1 _) (by omega) (by simp only [maxLen]; omega)) (by kernel_rfl) (fun w h => h.ent aEt) rfl (fun b26 _ => ?_)
              refine d_turn [7] (by kernel_rfl) ?_
              refine d_p 6 rfl (p_fieldAddr rfl rfl fd_57_4 sz_55 rfl) (by kernel_rfl) rfl rfl ?_
              refine d_h0 7 rfl (h_store rfl rfl rfl sz_55 rfl aPt (by simp only [setMany_length, List.length_set, List.length_cons, List.length_nil, List.length_map]; omega) rfl) (by kernel_rfl) (fun w h => h.ent aEt) (fun _ _ => ?_)
              refine d_turn [] (by kernel_rfl) ?_
              refine d_nil (by kernel_rfl) (fun w h => by first | exact h | exact h.ent aEt) ?_
              refine s_blk ?_
              exact s_end_rd rfl aPk (fun w h => ⟨(b26, g.2), rfl, trivial, by dsimp only; rw [hen, hau, List.length_append, flat_append]; exact h.ent aEt⟩)
            · try simp only [decide_eq_true_eq, decide_eq_false_iff_not, Bool.not_eq_true', Bool.not_eq_false', Bool.and_eq_true, Bool.or_eq_true, Bool.and_eq_false_iff, Bool.or_eq_false_iff, Bool.not_true, Bool.not_false] at h24
              have hke : (at1 s 2).toNat ≤ k := by have hq := h24; omega
              have hen := enK_same hke
              have hau := auK_succ hke
              refine s_draw [5, 7] mixed ?_
              refine d_p 0 rfl (p_fieldAddr rfl rfl fd_57_5 sz_55 rfl) (by kernel_rfl) rfl rfl ?_
              refine d_q 1 [[], []] rfl (q_load rfl rfl sz_55 aPk rfl) (by kernel_rfl) (by kernel_rfl) (by kernel_rfl) rfl ?_
              refine d_p 2 rfl (p_pure rfl) (by kernel_rfl) rfl rfl ?_
              refine d_q 3 [[], []] rfl (q_call rfl fn_105 rfl (fun w1 h1 => by have h9 := c105 w1 (some ⟨b2, 0 + (12 + 8 * k), none⟩) 8 8 ((s.drop (12 + 8 * k)).take 8) (by rw [List.map_take, List.map_drop]; exact vl_part (h1.vl_blk aPk) rfl (by rw [List.length_map]; omega)) (by rw [List.length_take, List.length_drop]; omega) (by omega) (by omega) (by omega); rw [ace_part] at h9; exact h9)) (by kernel_rfl) (by kernel_rfl) (by kernel_rfl) rfl ?_
              refine d_h 4 rfl (h_buildSlice (cs := [_, _, _, _]) rfl rfl sl_55 zr_85 rfl rfl rfl) (by kernel_rfl) (fun w h => h.ent aEt) rfl (fun b27 _ => ?_)
              refine d_base (fun w h => h.ent aEt) ?_
              refine d_h 5 rfl (h_appendS [_, _, _, _] rfl rfl rfl sl_55 Tryz.underlying55 zr_85 rfl aPk (src_blk aPk) rfl (av1 _) (by omega) (by simp only [maxLen]; omega)) (by kernel_rfl) (fun w h => h.ent aEt) rfl (fun b28 _ => ?_)
              refine d_turn [7] (by kernel_rfl) ?_
              refine d_p 6 rfl (p_fieldAddr rfl rfl fd_57_5 sz_55 rfl) (by kernel_rfl) rfl rfl ?_
              refine d_h0 7 rfl (h_store rfl rfl rfl sz_55 rfl aPt (by simp only [setMany_length, List.length_set, List.length_cons, List.length_nil, List.length_map]; omega) rfl) (by kernel_rfl) (fun w h => h.ent aEt) (fun _ _ => ?_)
              refine d_turn [] (by kernel_rfl) ?_
              refine d_nil (by kernel_rfl) (fun w h => by first | exact h | exact h.ent aEt) ?_
              refine s_blk ?_
              exact s_end_rd rfl aPk (fun w h => ⟨(g.1, b28), rfl, trivial, by dsimp only; rw [hen, hau, List.length_append, flat_append]; exact h.ent aEt⟩)
        · skip
          refine s_blk ?_
          refine s_seq ?_
          refine s_seq ?_
          refine s_weaken (L' := [(2, _), (3, _), (8, _)]) aSx (fun _ h => h) ?_
          refine s_region ?_
          refine o_q (q_loadn rfl rfl sz_57 aPk rfl) rfl ?_
          refine o_q (q_call rfl fn_97 rfl (fun w1 h1 => c97 w1 (rawD s) x.1.1 x.1.2 x.2.1 x.2.2 (h1.rw_own av4 aPk rfl) (h1.rw_own av4 aPk rfl) (by rw [← enK_end, enK_len]; omega) (by rw [← auK_end, auK_len]; omega))) rfl ?_
          refine o_p (p_pure rfl) rfl ?_
          refine o_nil ?_
          refine s_seq ?_
          refine s_region ?_
          refine o_p (p_pure rfl) rfl ?_
          refine o_p (p_pure rfl) rfl ?_
          refine o_nil ?_
          refine s_cond rfl (fun h29 => ?_) (fun h29 => ?_)
          · try simp only [decide_eq_true_eq, decide_eq_false_iff_not, Bool.not_eq_true', Bool.not_eq_false', Bool.and_eq_true, Bool.or_eq_true, Bool.and_eq_false_iff, Bool.or_eq_false_iff, Bool.not_true, Bool.not_false] at h29
            have hn9 : ¬ (dscE (rawD s)).2 = 0 := h29
            obtain ⟨hE9, hD9⟩ := dec_not hz9 hn9
            refine s_seq ?_
            refine s_region ?_
            refine o_p (p_build (cs := [_, _, _, _, _, _]) rfl rfl pl_57 zr_57 rfl) rfl ?_
            refine o_p (p_pure rfl) rfl ?_
            refine o_h0 (h_store rfl rfl rfl sz_57 rfl aPt (by simp only [setMany_length, List.length_set, List.length_cons, List.length_nil, List.length_map]; omega) rfl) (fun _ _ => ?_)
            refine o_p (p_pure rfl) rfl ?_
            refine o_nil ?_
            exact s_retm (rs := [.cell 2 57, .tmp 3]) rfl aPk (.cell rfl sz_57 aPk rfl (.tmp rfl (.nil))) (fun w' h' => ⟨((none, 0), (none, 0)), by rw [hE9, hD9]; rfl, trivial, by rw [hD9]; exact ((h'.own_nil 85 4).own_nil 85 4).ent aEt⟩)
          · try simp only [decide_eq_true_eq, decide_eq_false_iff_not, Bool.not_eq_true', Bool.not_eq_false', Bool.and_eq_true, Bool.or_eq_true, Bool.and_eq_false_iff, Bool.or_eq_false_iff, Bool.not_true, Bool.not_false] at h29
            have hn9 : (dscE (rawD s)).2 = 0 := h29
            obtain ⟨hE9, hD9⟩ := dec_good hz9 hn9
            refine s_skip ?_
            refine s_seq ?_
            refine s_region ?_
            refine o_q (q_loadn rfl rfl sz_57 aPk rfl) rfl ?_
            refine o_h0 (h_store rfl rfl rfl sz_57 rfl aPt (by simp only [setMany_length, List.length_set, List.length_cons, List.length_nil, List.length_map]; omega) rfl) (fun _ _ => ?_)
            refine o_p (p_pure rfl) rfl ?_
            refine o_nil ?_
            exact s_retm (rs := [.cell 2 57, .tmp 3]) rfl aPk (.cell rfl sz_57 aPk rfl (.tmp rfl (.nil))) (fun w' h' => ⟨x, by rw [hE9, hD9]; rfl, trivial, by rw [hD9]; exact h'.ent aEt⟩)

end Go.Proofs

