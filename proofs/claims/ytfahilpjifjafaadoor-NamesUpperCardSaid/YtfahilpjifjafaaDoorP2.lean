/- Contracts of the program's functions, proved by walking them with the rules of the Gx texts; without conditions beyond those that each contract names. -/
import Derived.WalkKit
import Derived.Deep.Draws
import Derived.Lib.Strings
import Derived.Laws.BytesArg
import Derived.Laws.IdiomStrings
import Derived.Deep.Quiet
import Derived.ProofKit
import Derived.OpenShut
import Derived.Laws.StructEq
import Derived.ChangeKeysEq
import Derived.Laws.Externs
import Derived.Lib.Overlaps
import Derived.Carry
import Derived.Laws.Small
import Derived.Lib.Bytealg
import Derived.Shelf.Small.Strs
import Derived.Shelf.Strconv.Itoa0
import Derived.Shelf.Strconv.Itoa1
import Derived.Shelf.LaysM
import Derived.Shelf.Strconv.Itoa2
import Derived.Shelf.Strconv.Itoa3
import Derived.Shelf.Strings.Search1
import Derived.Shelf.Strings.Search2
import Derived.Shelf.Strings.Cut
import Derived.Shelf.Strings.Shaped
import Derived.Shelf.Strings.LastIndex
import Derived.Shelf.GgClosure.StringsIndexFunc
import Derived.Ground.GgwProg
import Derived.Shelf.GgClosure.StringsIndexFuncTop
import Derived.Shelf.Strings.Prefix
import Derived.Test.YtfahilpjifjafaaDoorProg
import Derived.KernelRfl
import Derived.Lib.LastIndexByte
import Derived.Lib.ItoaNum
import Derived.Lib.SmallJoins
import Derived.Lib.AppendIntMem
import Derived.Test.YtfahilpjifjafaaDoorTie
import Derived.Test.YtfahilpjifjafaaDoorCards
import Derived.SevenTiedAt
import Derived.LaidMore
import Derived.Stop.Joined
import Derived.Lib.LaidTab
import Derived.Test.YtfahilpjifjafaaDoorP1
namespace Go.Proofs
open Go Go.RowKit Gx
set_option linter.unusedVariables false
set_option linter.unusedSimpArgs false
attribute [local irreducible] Go.Calls Gx.S Gx.O Gx.D Gx.OpP Gx.OpQ Gx.OpH

theorem ar_60 : tar Tryd.prog 60 = some (3, 9, 1) := by kernel_rfl
theorem fn_40 : isFn Tryd.prog 40 = true := by kernel_rfl


theorem firstI_all {l : List (List UInt8)} (h : ∀ s ∈ l, nameE s = 0) : firstI (l.map nameE) = 0 := firstI_0.2 fun e he => by
  obtain ⟨s, hs, rfl⟩ := List.mem_map.1 he
  exact h s hs
theorem openE_0 {t : List UInt8} {l : List (List UInt8)} (h1 : (chkTab t).2 = 0) (h : ∀ s ∈ l, nameE s = 0) : openE t l = 0 := by rw [openE, if_pos h1, firstI_all h]
theorem m33 (w : World) (t s u : List UInt8) (hmt : t.length ≤ 1000000) (h1 : (chkTab t).2 = 0) (h2 : ∀ c ∈ s, c.toNat < 128) (h3 : s.length ≤ 32) (hu : up t s = u) : Calls Tryd.prog 33 #[.string (bs t), .string (bs s)] w fun en w' => en = .returned (.tuple #[.string (bs u), .int .i64 0]) ∧ Below w.heap.size w w' := by
  have h := c33 w t s hmt (by omega)
  have h4 : hiB s = false := by
    cases hA : hiB s with
    | false => rfl
    | true =>
      obtain ⟨x, hx, h5⟩ := List.any_eq_true.1 hA
      have := h2 x hx
      have h6 : 128 ≤ x.toNat := by simpa using h5
      omega
  have h5 : uppE t s = 0 := by rw [uppE, if_pos h1, if_pos (by omega), h4]; rfl
  rw [h5, if_pos rfl, hu] at h
  exact h
theorem m39 (w : World) (t a b : List UInt8) (hmt : t.length ≤ 1000000) (h1 : (chkTab t).2 = 0) (ha : nameE a = 0) (hb : nameE b = 0) : Calls Tryd.prog 39 #[.string (bs t), .string (bs a), .string (bs b)] w fun en w' => en = .returned (.tuple #[.int .i64 (cmpU t a b), .int .i64 0]) ∧ Below w.heap.size w w' := by
  have h := c39 w t a b hmt (by have := (nameE_ok ha).1; omega) (by have := (nameE_ok hb).1; omega)
  rw [openE_0 h1 (by intro s hs; simp only [List.mem_cons, List.mem_nil_iff, or_false] at hs; rcases hs with rfl | rfl <;> assumption), if_pos rfl] at h
  exact h
theorem m40 (w : World) (t a b : List UInt8) (hmt : t.length ≤ 1000000) (h1 : (chkTab t).2 = 0) (ha : nameE a = 0) (hb : nameE b = 0) : Calls Tryd.prog 40 #[.string (bs t), .string (bs a), .string (bs b)] w fun en w' => en = .returned (.tuple #[.bool (sameU t a b), .int .i64 0]) ∧ Below w.heap.size w w' := by
  have h := c40 w t a b hmt (by have := (nameE_ok ha).1; omega) (by have := (nameE_ok hb).1; omega)
  rw [openE_0 h1 (by intro s hs; simp only [List.mem_cons, List.mem_nil_iff, or_false] at hs; rcases hs with rfl | rfl <;> assumption), if_pos rfl] at h
  exact h
theorem m42 (w : World) (t a : List UInt8) (hmt : t.length ≤ 1000000) (h1 : (chkTab t).2 = 0) (ha : nameE a = 0) : Calls Tryd.prog 42 #[.string (bs t), .string (bs a)] w fun en w' => en = .returned (.tuple #[.int .i64 ((up t a).foldl hStep 0), .int .i64 0]) ∧ Below w.heap.size w w' := by
  have h := c42 w t a hmt (by have := (nameE_ok ha).1; omega)
  rw [openE_0 h1 (by intro s hs; simp only [List.mem_cons, List.mem_nil_iff, or_false] at hs; subst hs; assumption), if_pos rfl] at h
  exact h
theorem g3 {x0 x1 x2 : List UInt8} {k : Nat} (h : k < 3) : [Value.string (bs x0), .string (bs x1), .string (bs x2)][k]? = some (.string (bs ([x0, x1, x2].getD k []))) := by
  rcases k with _ | _ | _ | k
  · rfl
  · rfl
  · rfl
  · omega
theorem sm1 {t : List UInt8} (h : smallU [t] = true) : t.length ≤ 300 := by simpa [smallU] using h

set_option maxRecDepth 20000 in
set_option maxHeartbeats 4000000 in
theorem c7 (w : World) (t x0 x1 x2 : List UInt8) (hmt : t.length ≤ 9223372036854775807) (hml : ∀ s ∈ [x0, x1, x2], s.length ≤ 9223372036854775807) (ht : TabOk w) : Calls Tryd.prog 7 #[.string (bs t), .agg #[.string (bs x0), .string (bs x1), .string (bs x2)]] w fun en w' => en = .returned (.bool true) ∧ Below w.heap.size w w' := by
  refine enter (args := [_, _]) Tryd.func7 Tryd.ntmps7 rfl rfl (HS.refl w []) ?_
  refine s_seq ?_
  refine s_region ?_
  refine o_h (h_box rfl rfl) rfl (fun b1 _ => ?_)
  refine o_p (p_pure rfl) rfl ?_
  refine o_nil ?_
  refine s_seq ?_
  refine s_seq ?_
  refine s_region ?_
  refine o_q (q_call rfl fn_10 rfl (fun w1 h1 => c10 w1 (ht.later h1))) rfl ?_
  refine o_p (p_pure rfl) rfl ?_
  refine o_nil ?_
  refine s_cond rfl (fun h2 => ?_) (fun h2 => ?_)
  · try simp only [decide_eq_true_eq, decide_eq_false_iff_not, Bool.not_eq_true', Bool.not_eq_false', Bool.and_eq_true, Bool.or_eq_true, Bool.and_eq_false_iff, Bool.or_eq_false_iff, Bool.not_true, Bool.not_false] at h2
    exfalso; cases h2
  · try simp only [decide_eq_true_eq, decide_eq_false_iff_not, Bool.not_eq_true', Bool.not_eq_false', Bool.and_eq_true, Bool.or_eq_true, Bool.and_eq_false_iff, Bool.or_eq_false_iff, Bool.not_true, Bool.not_false] at h2
    refine s_skip ?_
    refine s_seq ?_
    refine s_seq ?_
    refine s_region ?_
    refine o_p (p_pure rfl) rfl ?_
    refine o_h (h_buildSlice (cs := [_]) rfl rfl sl_29 zr_9 rfl rfl rfl) rfl (fun b3 _ => ?_)
    refine o_q (q_call rfl fn_11 rfl (fun w1 h1 => c11 w1 _ _ [t] (h1.vl_blk aPk) (by simp) (by intro x hx; simp only [List.mem_cons, List.mem_nil_iff, or_false] at hx; subst hx; assumption))) rfl ?_
    refine o_p (p_pure rfl) rfl ?_
    refine o_p (p_pure rfl) rfl ?_
    refine o_or 4 33 37 _ _ rfl
      (by
        intro hg4
        have hs5 := hg4; try simp only [decide_eq_true_eq, decide_eq_false_iff_not, Bool.not_eq_true', Bool.not_eq_false', Bool.and_eq_true, Bool.or_eq_true, Bool.and_eq_false_iff, Bool.or_eq_false_iff, Bool.not_true, Bool.not_false] at hs5
        refine o_on 33 _ rfl rfl hg4 ?_
        refine o_p (p_pure rfl) rfl ?_
        refine o_on 33 _ rfl rfl hg4 ?_
        refine o_q (q_call rfl fn_12 rfl (fun w1 h1 => c12 w1 t (by have := sm1 (t := t) (by have hq := hg4; simp at hq; grind); omega))) rfl ?_
        refine o_on 33 _ rfl rfl hg4 ?_
        refine o_p (p_pure rfl) rfl ?_
        refine o_p (p_pickf rfl rfl hg4 rfl) rfl ?_
        refine o_nil ?_
        exact s_joinN 4 37 _ rfl rfl rfl (fun w h => by first | exact h | exact h.ent aEt))
      (by
        intro hg6
        have hs7 := hg6; try simp only [decide_eq_true_eq, decide_eq_false_iff_not, Bool.not_eq_true', Bool.not_eq_false', Bool.and_eq_true, Bool.or_eq_true, Bool.and_eq_false_iff, Bool.or_eq_false_iff, Bool.not_true, Bool.not_false] at hs7
        refine o_off 33 _ rfl rfl hg6 rfl ?_
        refine o_off 33 _ rfl rfl hg6 rfl ?_
        refine o_off 33 _ rfl rfl hg6 rfl ?_
        refine o_p (p_pickt rfl rfl hg6 rfl) rfl ?_
        refine o_nil ?_
        exact s_joinN 4 37 _ rfl rfl rfl (fun w h => by first | exact h | exact h.ent aEt)) ?_
    refine o_nil ?_
    refine s_cond rfl (fun h8 => ?_) (fun h8 => ?_)
    · try simp only [decide_eq_true_eq, decide_eq_false_iff_not, Bool.not_eq_true', Bool.not_eq_false', Bool.and_eq_true, Bool.or_eq_true, Bool.and_eq_false_iff, Bool.or_eq_false_iff, Bool.not_true, Bool.not_false] at h8
      refine s_seq ?_
      refine s_region ?_
      refine o_p (p_pure rfl) rfl ?_
      refine o_nil ?_
      exact s_retv (rs := [.tmp 4]) rfl (.tmp rfl (.nil)) (fun w' h' => ⟨by rfl, h'.below⟩)
    · try simp only [decide_eq_true_eq, decide_eq_false_iff_not, Bool.not_eq_true', Bool.not_eq_false', Bool.and_eq_true, Bool.or_eq_true, Bool.and_eq_false_iff, Bool.or_eq_false_iff, Bool.not_true, Bool.not_false] at h8
      have hf : smallU [t] = true ∧ (chkTab t).2 = 0 := by have hq := h8; grind
      have hsz := sm1 hf.1
      have hT := hf.2
      refine s_skip ?_
      refine s_seq ?_
      refine s_seq ?_
      refine s_region ?_
      refine o_p (p_pure rfl) rfl ?_
      refine o_nil ?_
      refine s_block ?_
      refine s_loopI (α := Nat) [4, 5, 38, 39, 40, 41, 42, 43, 44, 45, 46] (fun k => [(5, .int .i64 (k : Int))]) (fun _ => HS w [] [.blk b1 60 3 [.string (bs x0), .string (bs x1), .string (bs x2)]]) (fun k => k ≤ 3 ∧ ∀ j, j < k → nameE ([x0, x1, x2].getD j []) = 0) (fun k => 3 - k) 0 ⟨Nat.zero_le _, fun j h => absurd h (Nat.not_lt_zero j)⟩ aSx (fun w h => h.ent aEt) (fun k hkk => ?_)
      obtain ⟨hk1, hk2⟩ := hkk
      refine s_seq ?_
      refine s_seq ?_
      refine s_region ?_
      refine o_p (p_pure rfl) rfl ?_
      refine o_p (p_pure rfl) rfl ?_
      refine o_nil ?_
      refine s_cond rfl (fun h9 => ?_) (fun h9 => ?_)
      · try simp only [decide_eq_true_eq, decide_eq_false_iff_not, Bool.not_eq_true', Bool.not_eq_false', Bool.and_eq_true, Bool.or_eq_true, Bool.and_eq_false_iff, Bool.or_eq_false_iff, Bool.not_true, Bool.not_false] at h9
        have hk : k < [x0, x1, x2].length := by show k < 3; omega
        refine s_skip ?_
        refine s_seq ?_
        refine s_block ?_
        refine s_seq ?_
        refine s_region ?_
        refine o_p (p_pure rfl) rfl ?_
        refine o_p (p_indexAddr_arr rfl rfl rfl ar_60 (k) (by omega) (by omega)) rfl ?_
        refine o_q (q_load_at rfl rfl sz_9 (fun w h => by rw [Nat.zero_add]; exact h.rd_blk (Mc := []) aPk (by rw [Nat.mul_one]; exact g3 hk) (by simp))) rfl ?_
        refine o_q (q_call rfl fn_14 rfl (fun w1 h1 => c14 w1 ([x0, x1, x2].getD k []) (hml _ (getD_mem hk)))) rfl ?_
        refine o_p (p_pure rfl) rfl ?_
        refine o_nil ?_
        refine s_cond rfl (fun h10 => ?_) (fun h10 => ?_)
        · try simp only [decide_eq_true_eq, decide_eq_false_iff_not, Bool.not_eq_true', Bool.not_eq_false', Bool.and_eq_true, Bool.or_eq_true, Bool.and_eq_false_iff, Bool.or_eq_false_iff, Bool.not_true, Bool.not_false] at h10
          refine s_seq ?_
          refine s_region ?_
          refine o_p (p_pure rfl) rfl ?_
          refine o_nil ?_
          exact s_retv (rs := [.tmp 4]) rfl (.tmp rfl (.nil)) (fun w' h' => ⟨by rfl, h'.below⟩)
        · try simp only [decide_eq_true_eq, decide_eq_false_iff_not, Bool.not_eq_true', Bool.not_eq_false', Bool.and_eq_true, Bool.or_eq_true, Bool.and_eq_false_iff, Bool.or_eq_false_iff, Bool.not_true, Bool.not_false] at h10
          have hkn : nameE ([x0, x1, x2].getD k []) = 0 := by have hq := h10; omega
          refine s_skip ?_
          refine s_blk ?_
          refine s_region ?_
          refine o_p (p_pure rfl) rfl ?_
          refine o_p (p_pure rfl) rfl ?_
          try (refine o_slot (i64w (by omega) (by omega)) ?_)
          refine o_p (p_pure rfl) rfl ?_
          refine o_nil ?_
          exact s_backI (k + 1) (by omega) ⟨by omega, fun j hj => (Nat.lt_succ_iff_lt_or_eq.1 hj).elim (hk2 j) (fun e => by rw [e]; exact hkn)⟩ aSx (fun w h => h.ent aEt)
      · try simp only [decide_eq_true_eq, decide_eq_false_iff_not, Bool.not_eq_true', Bool.not_eq_false', Bool.and_eq_true, Bool.or_eq_true, Bool.and_eq_false_iff, Bool.or_eq_false_iff, Bool.not_true, Bool.not_false] at h9
        obtain rfl : k = 3 := by omega
        have n0 : nameE x0 = 0 := hk2 0 (by decide)
        have n1 : nameE x1 = 0 := hk2 1 (by decide)
        have n2 : nameE x2 = 0 := hk2 2 (by decide)
        have r10 := cu_range t x1 x0
        refine s_exit_to rfl ?_
        refine s_seq ?_
        refine s_region ?_
        refine o_p (p_pure rfl) rfl ?_
        refine o_p (p_indexAddr_arr rfl rfl rfl ar_60 (0) (by omega) (by omega)) rfl ?_
        refine o_q (q_load rfl rfl sz_9 aPk rfl) rfl ?_
        refine o_q (q_call rfl fn_33 rfl (fun w1 h1 => m33 w1 t x0 (up t x0) (by omega) hT (nameE_lt n0) (nameE_ok n0).1 rfl)) rfl ?_
        refine o_p (p_pure rfl) rfl ?_
        refine o_p (p_pure rfl) rfl ?_
        refine o_p (p_pure rfl) rfl ?_
        refine o_p (p_pure rfl) rfl ?_
        refine o_p (p_pure rfl) rfl ?_
        refine o_nil ?_
        refine s_seq ?_
        refine s_region ?_
        refine o_p (p_pure rfl) rfl ?_
        refine o_p (p_pure rfl) rfl ?_
        refine o_q (q_call rfl fn_33 rfl (fun w1 h1 => m33 w1 t (up t x0) (up t x0) (by omega) hT (up_lt hT (nameE_lt n0)) (by rw [up_len]; exact (nameE_ok n0).1) (up_up hT (nameE_lt n0)))) rfl ?_
        refine o_p (p_pure rfl) rfl ?_
        refine o_p (p_pure rfl) rfl ?_
        refine o_p (p_pure rfl) rfl ?_
        refine o_p (p_pure rfl) rfl ?_
        refine o_p (p_pure rfl) rfl ?_
        refine o_nil ?_
        refine s_seq ?_
        refine s_seq ?_
        refine s_weaken (L' := [(0, _), (1, _), (3, _), (5, _), (6, _), (7, _), (8, _), (9, _), (27, _), (28, _), (29, _), (30, _), (31, _), (32, _), (33, _), (37, _)]) aSx (fun _ h => h) ?_
        refine s_region ?_
        refine o_p (p_pure rfl) rfl ?_
        refine o_p (p_pure rfl) rfl ?_
        refine o_p (p_pure rfl) rfl ?_
        refine o_or 3 62 65 _ _ rfl
          (by
            intro hg11
            have hs12 := hg11; try simp only [decide_eq_true_eq, decide_eq_false_iff_not, Bool.not_eq_true', Bool.not_eq_false', Bool.and_eq_true, Bool.or_eq_true, Bool.and_eq_false_iff, Bool.or_eq_false_iff, Bool.not_true, Bool.not_false] at hs12
            refine o_on 62 _ rfl rfl hg11 ?_
            refine o_p (p_pure rfl) rfl ?_
            refine o_on 62 _ rfl rfl hg11 ?_
            refine o_p (p_pure rfl) rfl ?_
            refine o_p (p_pickf rfl rfl hg11 rfl) rfl ?_
            refine o_nil ?_
            exact s_joinN 3 65 _ rfl rfl rfl (fun w h => by first | exact h | exact h.ent aEt))
          (by
            intro hg13
            have hs14 := hg13; try simp only [decide_eq_true_eq, decide_eq_false_iff_not, Bool.not_eq_true', Bool.not_eq_false', Bool.and_eq_true, Bool.or_eq_true, Bool.and_eq_false_iff, Bool.or_eq_false_iff, Bool.not_true, Bool.not_false] at hs14
            refine o_off 62 _ rfl rfl hg13 rfl ?_
            refine o_off 62 _ rfl rfl hg13 rfl ?_
            refine o_p (p_pickt rfl rfl hg13 rfl) rfl ?_
            refine o_nil ?_
            exact s_joinN 3 65 _ rfl rfl rfl (fun w h => by first | exact h | exact h.ent aEt)) ?_
        refine o_p (p_pure rfl) rfl ?_
        refine o_or 4 66 70 _ _ rfl
          (by
            intro hg15
            have hs16 := hg15; try simp only [decide_eq_true_eq, decide_eq_false_iff_not, Bool.not_eq_true', Bool.not_eq_false', Bool.and_eq_true, Bool.or_eq_true, Bool.and_eq_false_iff, Bool.or_eq_false_iff, Bool.not_true, Bool.not_false] at hs16
            refine o_on 66 _ rfl rfl hg15 ?_
            refine o_p (p_pure rfl) rfl ?_
            refine o_on 66 _ rfl rfl hg15 ?_
            refine o_p (p_pure rfl) rfl ?_
            refine o_on 66 _ rfl rfl hg15 ?_
            refine o_p (p_pure rfl) rfl ?_
            refine o_p (p_pickf rfl rfl hg15 rfl) rfl ?_
            refine o_nil ?_
            exact s_joinN 4 70 _ rfl rfl rfl (fun w h => by first | exact h | exact h.ent aEt))
          (by
            intro hg17
            have hs18 := hg17; try simp only [decide_eq_true_eq, decide_eq_false_iff_not, Bool.not_eq_true', Bool.not_eq_false', Bool.and_eq_true, Bool.or_eq_true, Bool.and_eq_false_iff, Bool.or_eq_false_iff, Bool.not_true, Bool.not_false] at hs18
            refine o_off 66 _ rfl rfl hg17 rfl ?_
            refine o_off 66 _ rfl rfl hg17 rfl ?_
            refine o_off 66 _ rfl rfl hg17 rfl ?_
            refine o_p (p_pickt rfl rfl hg17 rfl) rfl ?_
            refine o_nil ?_
            exact s_joinN 4 70 _ rfl rfl rfl (fun w h => by first | exact h | exact h.ent aEt)) ?_
        refine o_nil ?_
        refine s_cond rfl (fun h19 => ?_) (fun h19 => ?_)
        · try simp only [decide_eq_true_eq, decide_eq_false_iff_not, Bool.not_eq_true', Bool.not_eq_false', Bool.and_eq_true, Bool.or_eq_true, Bool.and_eq_false_iff, Bool.or_eq_false_iff, Bool.not_true, Bool.not_false] at h19
          exfalso; simp at h19
        · try simp only [decide_eq_true_eq, decide_eq_false_iff_not, Bool.not_eq_true', Bool.not_eq_false', Bool.and_eq_true, Bool.or_eq_true, Bool.and_eq_false_iff, Bool.or_eq_false_iff, Bool.not_true, Bool.not_false] at h19
          refine s_skip ?_
          refine s_seq ?_
          refine s_region ?_
          refine o_p (p_pure rfl) rfl ?_
          refine o_p (p_indexAddr_arr rfl rfl rfl ar_60 (0) (by omega) (by omega)) rfl ?_
          refine o_q (q_load rfl rfl sz_9 aPk rfl) rfl ?_
          refine o_p (p_indexAddr_arr rfl rfl rfl ar_60 (1) (by omega) (by omega)) rfl ?_
          refine o_q (q_load rfl rfl sz_9 aPk rfl) rfl ?_
          refine o_q (q_call rfl fn_39 rfl (fun w1 h1 => m39 w1 t x0 x1 (by omega) hT n0 n1)) rfl ?_
          refine o_p (p_pure rfl) rfl ?_
          refine o_p (p_pure rfl) rfl ?_
          refine o_p (p_pure rfl) rfl ?_
          refine o_p (p_pure rfl) rfl ?_
          refine o_p (p_pure rfl) rfl ?_
          refine o_nil ?_
          refine s_seq ?_
          refine s_weaken (L' := [(0, _), (1, _), (3, _), (5, _), (10, _), (11, _), (27, _), (28, _), (29, _), (30, _), (31, _), (32, _), (33, _), (37, _)]) aSx (fun _ h => h) ?_
          refine s_region ?_
          refine o_p (p_pure rfl) rfl ?_
          refine o_p (p_indexAddr_arr rfl rfl rfl ar_60 (1) (by omega) (by omega)) rfl ?_
          refine o_q (q_load rfl rfl sz_9 aPk rfl) rfl ?_
          refine o_p (p_indexAddr_arr rfl rfl rfl ar_60 (0) (by omega) (by omega)) rfl ?_
          refine o_q (q_load rfl rfl sz_9 aPk rfl) rfl ?_
          refine o_q (q_call rfl fn_39 rfl (fun w1 h1 => m39 w1 t x1 x0 (by omega) hT n1 n0)) rfl ?_
          refine o_p (p_pure rfl) rfl ?_
          refine o_p (p_pure rfl) rfl ?_
          refine o_p (p_pure rfl) rfl ?_
          refine o_p (p_pure rfl) rfl ?_
          refine o_p (p_pure rfl) rfl ?_
          refine o_nil ?_
          refine s_seq ?_
          refine s_region ?_
          refine o_p (p_pure rfl) rfl ?_
          refine o_p (p_indexAddr_arr rfl rfl rfl ar_60 (1) (by omega) (by omega)) rfl ?_
          refine o_q (q_load rfl rfl sz_9 aPk rfl) rfl ?_
          refine o_p (p_indexAddr_arr rfl rfl rfl ar_60 (2) (by omega) (by omega)) rfl ?_
          refine o_q (q_load rfl rfl sz_9 aPk rfl) rfl ?_
          refine o_q (q_call rfl fn_39 rfl (fun w1 h1 => m39 w1 t x1 x2 (by omega) hT n1 n2)) rfl ?_
          refine o_p (p_pure rfl) rfl ?_
          refine o_p (p_pure rfl) rfl ?_
          refine o_p (p_pure rfl) rfl ?_
          refine o_p (p_pure rfl) rfl ?_
          refine o_p (p_pure rfl) rfl ?_
          refine o_nil ?_
          refine s_seq ?_
          refine s_weaken (L' := [(0, _), (1, _), (3, _), (5, _), (10, _), (11, _), (12, _), (13, _), (14, _), (15, _), (27, _), (28, _), (29, _), (30, _), (31, _), (32, _), (33, _), (37, _)]) aSx (fun _ h => h) ?_
          refine s_region ?_
          refine o_p (p_pure rfl) rfl ?_
          refine o_p (p_indexAddr_arr rfl rfl rfl ar_60 (0) (by omega) (by omega)) rfl ?_
          refine o_q (q_load rfl rfl sz_9 aPk rfl) rfl ?_
          refine o_p (p_indexAddr_arr rfl rfl rfl ar_60 (2) (by omega) (by omega)) rfl ?_
          refine o_q (q_load rfl rfl sz_9 aPk rfl) rfl ?_
          refine o_q (q_call rfl fn_39 rfl (fun w1 h1 => m39 w1 t x0 x2 (by omega) hT n0 n2)) rfl ?_
          refine o_p (p_pure rfl) rfl ?_
          refine o_p (p_pure rfl) rfl ?_
          refine o_p (p_pure rfl) rfl ?_
          refine o_p (p_pure rfl) rfl ?_
          refine o_p (p_pure rfl) rfl ?_
          refine o_nil ?_
          refine s_seq ?_
          refine s_region ?_
          refine o_p (p_pure rfl) rfl ?_
          refine o_p (p_indexAddr_arr rfl rfl rfl ar_60 (0) (by omega) (by omega)) rfl ?_
          refine o_q (q_load rfl rfl sz_9 aPk rfl) rfl ?_
          refine o_p (p_indexAddr_arr rfl rfl rfl ar_60 (1) (by omega) (by omega)) rfl ?_
          refine o_q (q_load rfl rfl sz_9 aPk rfl) rfl ?_
          refine o_q (q_call rfl fn_40 rfl (fun w1 h1 => m40 w1 t x0 x1 (by omega) hT n0 n1)) rfl ?_
          refine o_p (p_pure rfl) rfl ?_
          refine o_p (p_pure rfl) rfl ?_
          refine o_p (p_pure rfl) rfl ?_
          refine o_p (p_pure rfl) rfl ?_
          refine o_p (p_pure rfl) rfl ?_
          refine o_nil ?_
          refine s_seq ?_
          refine s_seq ?_
          refine s_weaken (L' := [(0, _), (1, _), (3, _), (5, _), (10, _), (11, _), (12, _), (13, _), (14, _), (15, _), (16, _), (17, _), (18, _), (19, _), (27, _), (28, _), (29, _), (30, _), (31, _), (32, _), (33, _), (37, _)]) aSx (fun _ h => h) ?_
          refine s_region ?_
          refine o_p (p_pure rfl) rfl ?_
          refine o_p (p_pure rfl) rfl ?_
          refine o_p (p_pure rfl) rfl ?_
          refine o_or 3 118 121 _ _ rfl
            (by
              intro hg20
              have hs21 := hg20; try simp only [decide_eq_true_eq, decide_eq_false_iff_not, Bool.not_eq_true', Bool.not_eq_false', Bool.and_eq_true, Bool.or_eq_true, Bool.and_eq_false_iff, Bool.or_eq_false_iff, Bool.not_true, Bool.not_false] at hs21
              refine o_on 118 _ rfl rfl hg20 ?_
              refine o_p (p_pure rfl) rfl ?_
              refine o_on 118 _ rfl rfl hg20 ?_
              refine o_p (p_pure rfl) rfl ?_
              refine o_p (p_pickf rfl rfl hg20 rfl) rfl ?_
              refine o_nil ?_
              exact s_joinN 3 121 _ rfl rfl rfl (fun w h => by first | exact h | exact h.ent aEt))
            (by
              intro hg22
              have hs23 := hg22; try simp only [decide_eq_true_eq, decide_eq_false_iff_not, Bool.not_eq_true', Bool.not_eq_false', Bool.and_eq_true, Bool.or_eq_true, Bool.and_eq_false_iff, Bool.or_eq_false_iff, Bool.not_true, Bool.not_false] at hs23
              refine o_off 118 _ rfl rfl hg22 rfl ?_
              refine o_off 118 _ rfl rfl hg22 rfl ?_
              refine o_p (p_pickt rfl rfl hg22 rfl) rfl ?_
              refine o_nil ?_
              exact s_joinN 3 121 _ rfl rfl rfl (fun w h => by first | exact h | exact h.ent aEt)) ?_
          refine o_p (p_pure rfl) rfl ?_
          refine o_or 3 122 125 _ _ rfl
            (by
              intro hg24
              have hs25 := hg24; try simp only [decide_eq_true_eq, decide_eq_false_iff_not, Bool.not_eq_true', Bool.not_eq_false', Bool.and_eq_true, Bool.or_eq_true, Bool.and_eq_false_iff, Bool.or_eq_false_iff, Bool.not_true, Bool.not_false] at hs25
              refine o_on 122 _ rfl rfl hg24 ?_
              refine o_p (p_pure rfl) rfl ?_
              refine o_on 122 _ rfl rfl hg24 ?_
              refine o_p (p_pure rfl) rfl ?_
              refine o_p (p_pickf rfl rfl hg24 rfl) rfl ?_
              refine o_nil ?_
              exact s_joinN 3 125 _ rfl rfl rfl (fun w h => by first | exact h | exact h.ent aEt))
            (by
              intro hg26
              have hs27 := hg26; try simp only [decide_eq_true_eq, decide_eq_false_iff_not, Bool.not_eq_true', Bool.not_eq_false', Bool.and_eq_true, Bool.or_eq_true, Bool.and_eq_false_iff, Bool.or_eq_false_iff, Bool.not_true, Bool.not_false] at hs27
              refine o_off 122 _ rfl rfl hg26 rfl ?_
              refine o_off 122 _ rfl rfl hg26 rfl ?_
              refine o_p (p_pickt rfl rfl hg26 rfl) rfl ?_
              refine o_nil ?_
              exact s_joinN 3 125 _ rfl rfl rfl (fun w h => by first | exact h | exact h.ent aEt)) ?_
          refine o_p (p_pure rfl) rfl ?_
          refine o_or 3 126 129 _ _ rfl
            (by
              intro hg28
              have hs29 := hg28; try simp only [decide_eq_true_eq, decide_eq_false_iff_not, Bool.not_eq_true', Bool.not_eq_false', Bool.and_eq_true, Bool.or_eq_true, Bool.and_eq_false_iff, Bool.or_eq_false_iff, Bool.not_true, Bool.not_false] at hs29
              refine o_on 126 _ rfl rfl hg28 ?_
              refine o_p (p_pure rfl) rfl ?_
              refine o_on 126 _ rfl rfl hg28 ?_
              refine o_p (p_pure rfl) rfl ?_
              refine o_p (p_pickf rfl rfl hg28 rfl) rfl ?_
              refine o_nil ?_
              exact s_joinN 3 129 _ rfl rfl rfl (fun w h => by first | exact h | exact h.ent aEt))
            (by
              intro hg30
              have hs31 := hg30; try simp only [decide_eq_true_eq, decide_eq_false_iff_not, Bool.not_eq_true', Bool.not_eq_false', Bool.and_eq_true, Bool.or_eq_true, Bool.and_eq_false_iff, Bool.or_eq_false_iff, Bool.not_true, Bool.not_false] at hs31
              refine o_off 126 _ rfl rfl hg30 rfl ?_
              refine o_off 126 _ rfl rfl hg30 rfl ?_
              refine o_p (p_pickt rfl rfl hg30 rfl) rfl ?_
              refine o_nil ?_
              exact s_joinN 3 129 _ rfl rfl rfl (fun w h => by first | exact h | exact h.ent aEt)) ?_
          refine o_p (p_pure rfl) rfl ?_
          refine o_or 3 130 133 _ _ rfl
            (by
              intro hg32
              have hs33 := hg32; try simp only [decide_eq_true_eq, decide_eq_false_iff_not, Bool.not_eq_true', Bool.not_eq_false', Bool.and_eq_true, Bool.or_eq_true, Bool.and_eq_false_iff, Bool.or_eq_false_iff, Bool.not_true, Bool.not_false] at hs33
              refine o_on 130 _ rfl rfl hg32 ?_
              refine o_p (p_pure rfl) rfl ?_
              refine o_on 130 _ rfl rfl hg32 ?_
              refine o_p (p_pure rfl) rfl ?_
              refine o_p (p_pickf rfl rfl hg32 rfl) rfl ?_
              refine o_nil ?_
              exact s_joinN 3 133 _ rfl rfl rfl (fun w h => by first | exact h | exact h.ent aEt))
            (by
              intro hg34
              have hs35 := hg34; try simp only [decide_eq_true_eq, decide_eq_false_iff_not, Bool.not_eq_true', Bool.not_eq_false', Bool.and_eq_true, Bool.or_eq_true, Bool.and_eq_false_iff, Bool.or_eq_false_iff, Bool.not_true, Bool.not_false] at hs35
              refine o_off 130 _ rfl rfl hg34 rfl ?_
              refine o_off 130 _ rfl rfl hg34 rfl ?_
              refine o_p (p_pickt rfl rfl hg34 rfl) rfl ?_
              refine o_nil ?_
              exact s_joinN 3 133 _ rfl rfl rfl (fun w h => by first | exact h | exact h.ent aEt)) ?_
          refine o_p (p_pure rfl) rfl ?_
          refine o_or 4 134 138 _ _ rfl
            (by
              intro hg36
              have hs37 := hg36; try simp only [decide_eq_true_eq, decide_eq_false_iff_not, Bool.not_eq_true', Bool.not_eq_false', Bool.and_eq_true, Bool.or_eq_true, Bool.and_eq_false_iff, Bool.or_eq_false_iff, Bool.not_true, Bool.not_false] at hs37
              refine o_on 134 _ rfl rfl hg36 ?_
              refine o_p (p_pure rfl) rfl ?_
              refine o_on 134 _ rfl rfl hg36 ?_
              refine o_q (q_call rfl fn_41 rfl (fun w1 h1 => c41 w1 _ _ _)) rfl ?_
              refine o_on 134 _ rfl rfl hg36 ?_
              refine o_p (p_pure rfl) rfl ?_
              refine o_p (p_pickf rfl rfl hg36 rfl) rfl ?_
              refine o_nil ?_
              exact s_joinN 4 138 _ rfl rfl rfl (fun w h => by first | exact h | exact h.ent aEt))
            (by
              intro hg38
              have hs39 := hg38; try simp only [decide_eq_true_eq, decide_eq_false_iff_not, Bool.not_eq_true', Bool.not_eq_false', Bool.and_eq_true, Bool.or_eq_true, Bool.and_eq_false_iff, Bool.or_eq_false_iff, Bool.not_true, Bool.not_false] at hs39
              refine o_off 134 _ rfl rfl hg38 rfl ?_
              refine o_off 134 _ rfl rfl hg38 rfl ?_
              refine o_off 134 _ rfl rfl hg38 rfl ?_
              refine o_p (p_pickt rfl rfl hg38 rfl) rfl ?_
              refine o_nil ?_
              exact s_joinN 4 138 _ rfl rfl rfl (fun w h => by first | exact h | exact h.ent aEt)) ?_
          refine o_p (p_pure rfl) rfl ?_
          refine o_or 5 139 144 _ _ rfl
            (by
              intro hg40
              have hs41 := hg40; try simp only [decide_eq_true_eq, decide_eq_false_iff_not, Bool.not_eq_true', Bool.not_eq_false', Bool.and_eq_true, Bool.or_eq_true, Bool.and_eq_false_iff, Bool.or_eq_false_iff, Bool.not_true, Bool.not_false] at hs41
              refine o_on 139 _ rfl rfl hg40 ?_
              refine o_p (p_pure rfl) rfl ?_
              refine o_on 139 _ rfl rfl hg40 ?_
              refine o_p (p_pure rfl) rfl ?_
              refine o_on 139 _ rfl rfl hg40 ?_
              refine o_p (p_pure rfl) rfl ?_
              try (refine o_slot (i64w (by omega) (by omega)) ?_)
              refine o_on 139 _ rfl rfl hg40 ?_
              refine o_p (p_pure rfl) rfl ?_
              refine o_p (p_pickf rfl rfl hg40 rfl) rfl ?_
              refine o_nil ?_
              exact s_joinN 5 144 _ rfl rfl rfl (fun w h => by first | exact h | exact h.ent aEt))
            (by
              intro hg42
              have hs43 := hg42; try simp only [decide_eq_true_eq, decide_eq_false_iff_not, Bool.not_eq_true', Bool.not_eq_false', Bool.and_eq_true, Bool.or_eq_true, Bool.and_eq_false_iff, Bool.or_eq_false_iff, Bool.not_true, Bool.not_false] at hs43
              refine o_off 139 _ rfl rfl hg42 rfl ?_
              refine o_off 139 _ rfl rfl hg42 rfl ?_
              refine o_off 139 _ rfl rfl hg42 rfl ?_
              refine o_off 139 _ rfl rfl hg42 rfl ?_
              refine o_p (p_pickt rfl rfl hg42 rfl) rfl ?_
              refine o_nil ?_
              exact s_joinN 5 144 _ rfl rfl rfl (fun w h => by first | exact h | exact h.ent aEt)) ?_
          refine o_p (p_pure rfl) rfl ?_
          refine o_or 9 145 154 _ _ rfl
            (by
              intro hg44
              have hs45 := hg44; try simp only [decide_eq_true_eq, decide_eq_false_iff_not, Bool.not_eq_true', Bool.not_eq_false', Bool.and_eq_true, Bool.or_eq_true, Bool.and_eq_false_iff, Bool.or_eq_false_iff, Bool.not_true, Bool.not_false] at hs45
              refine o_on 145 _ rfl rfl hg44 ?_
              refine o_p (p_pure rfl) rfl ?_
              refine o_on 145 _ rfl rfl hg44 ?_
              refine o_p (p_pure rfl) rfl ?_
              refine o_on 145 _ rfl rfl hg44 ?_
              refine o_p (p_indexAddr_arr rfl rfl rfl ar_60 (0) (by omega) (by omega)) rfl ?_
              refine o_on 145 _ rfl rfl hg44 ?_
              refine o_q (q_load rfl rfl sz_9 aPk rfl) rfl ?_
              refine o_on 145 _ rfl rfl hg44 ?_
              refine o_p (p_indexAddr_arr rfl rfl rfl ar_60 (1) (by omega) (by omega)) rfl ?_
              refine o_on 145 _ rfl rfl hg44 ?_
              refine o_q (q_load rfl rfl sz_9 aPk rfl) rfl ?_
              refine o_on 145 _ rfl rfl hg44 ?_
              refine o_p (p_pure rfl) rfl ?_
              refine o_on 145 _ rfl rfl hg44 ?_
              refine o_p (p_neq_bool rfl rfl rfl Tryd.underlying4) rfl ?_
              refine o_p (p_pickf rfl rfl hg44 rfl) rfl ?_
              refine o_nil ?_
              exact s_joinN 9 154 _ rfl rfl rfl (fun w h => by first | exact h | exact h.ent aEt))
            (by
              intro hg46
              have hs47 := hg46; try simp only [decide_eq_true_eq, decide_eq_false_iff_not, Bool.not_eq_true', Bool.not_eq_false', Bool.and_eq_true, Bool.or_eq_true, Bool.and_eq_false_iff, Bool.or_eq_false_iff, Bool.not_true, Bool.not_false] at hs47
              refine o_off 145 _ rfl rfl hg46 rfl ?_
              refine o_off 145 _ rfl rfl hg46 rfl ?_
              refine o_off 145 _ rfl rfl hg46 rfl ?_
              refine o_off 145 _ rfl rfl hg46 rfl ?_
              refine o_off 145 _ rfl rfl hg46 rfl ?_
              refine o_off 145 _ rfl rfl hg46 rfl ?_
              refine o_off 145 _ rfl rfl hg46 rfl ?_
              refine o_off 145 _ rfl rfl hg46 rfl ?_
              refine o_p (p_pickt rfl rfl hg46 rfl) rfl ?_
              refine o_nil ?_
              exact s_joinN 9 154 _ rfl rfl rfl (fun w h => by first | exact h | exact h.ent aEt)) ?_
          refine o_nil ?_
          refine s_cond rfl (fun h48 => ?_) (fun h48 => ?_)
          · try simp only [decide_eq_true_eq, decide_eq_false_iff_not, Bool.not_eq_true', Bool.not_eq_false', Bool.and_eq_true, Bool.or_eq_true, Bool.and_eq_false_iff, Bool.or_eq_false_iff, Bool.not_true, Bool.not_false] at h48
            exfalso; have g1 := cu_range t x0 x1; have g2 := cu_anti t x0 x1; have g3 := cu_eq (t := t) (a := x0) (b := x1); simp at h48; grind
          · try simp only [decide_eq_true_eq, decide_eq_false_iff_not, Bool.not_eq_true', Bool.not_eq_false', Bool.and_eq_true, Bool.or_eq_true, Bool.and_eq_false_iff, Bool.or_eq_false_iff, Bool.not_true, Bool.not_false] at h48
            refine s_skip ?_
            refine s_seq ?_
            refine s_seq ?_
            refine s_weaken (L' := [(0, _), (1, _), (3, _), (5, _), (10, _), (14, _), (16, _), (18, _), (27, _), (28, _), (29, _), (30, _), (31, _), (32, _), (33, _), (37, _)]) aSx (fun _ h => h) ?_
            refine s_region ?_
            refine o_p (p_pure rfl) rfl ?_
            refine o_p (p_pure rfl) rfl ?_
            refine o_p (p_pure rfl) rfl ?_
            refine o_and 3 157 160 _ _ rfl
              (by
                intro hg49
                have hs50 := hg49; try simp only [decide_eq_true_eq, decide_eq_false_iff_not, Bool.not_eq_true', Bool.not_eq_false', Bool.and_eq_true, Bool.or_eq_true, Bool.and_eq_false_iff, Bool.or_eq_false_iff, Bool.not_true, Bool.not_false] at hs50
                refine o_on 157 _ rfl rfl hg49 ?_
                refine o_p (p_pure rfl) rfl ?_
                refine o_on 157 _ rfl rfl hg49 ?_
                refine o_p (p_pure rfl) rfl ?_
                refine o_p (p_pickt rfl rfl hg49 rfl) rfl ?_
                refine o_nil ?_
                exact s_joinN 3 160 _ rfl rfl rfl (fun w h => by first | exact h | exact h.ent aEt))
              (by
                intro hg51
                have hs52 := hg51; try simp only [decide_eq_true_eq, decide_eq_false_iff_not, Bool.not_eq_true', Bool.not_eq_false', Bool.and_eq_true, Bool.or_eq_true, Bool.and_eq_false_iff, Bool.or_eq_false_iff, Bool.not_true, Bool.not_false] at hs52
                refine o_off 157 _ rfl rfl hg51 rfl ?_
                refine o_off 157 _ rfl rfl hg51 rfl ?_
                refine o_p (p_pickf rfl rfl hg51 rfl) rfl ?_
                refine o_nil ?_
                exact s_joinN 3 160 _ rfl rfl rfl (fun w h => by first | exact h | exact h.ent aEt)) ?_
            refine o_p (p_pure rfl) rfl ?_
            refine o_and 3 161 164 _ _ rfl
              (by
                intro hg53
                have hs54 := hg53; try simp only [decide_eq_true_eq, decide_eq_false_iff_not, Bool.not_eq_true', Bool.not_eq_false', Bool.and_eq_true, Bool.or_eq_true, Bool.and_eq_false_iff, Bool.or_eq_false_iff, Bool.not_true, Bool.not_false] at hs54
                refine o_on 161 _ rfl rfl hg53 ?_
                refine o_p (p_pure rfl) rfl ?_
                refine o_on 161 _ rfl rfl hg53 ?_
                refine o_p (p_pure rfl) rfl ?_
                refine o_p (p_pickt rfl rfl hg53 rfl) rfl ?_
                refine o_nil ?_
                exact s_joinN 3 164 _ rfl rfl rfl (fun w h => by first | exact h | exact h.ent aEt))
              (by
                intro hg55
                have hs56 := hg55; try simp only [decide_eq_true_eq, decide_eq_false_iff_not, Bool.not_eq_true', Bool.not_eq_false', Bool.and_eq_true, Bool.or_eq_true, Bool.and_eq_false_iff, Bool.or_eq_false_iff, Bool.not_true, Bool.not_false] at hs56
                refine o_off 161 _ rfl rfl hg55 rfl ?_
                refine o_off 161 _ rfl rfl hg55 rfl ?_
                refine o_p (p_pickf rfl rfl hg55 rfl) rfl ?_
                refine o_nil ?_
                exact s_joinN 3 164 _ rfl rfl rfl (fun w h => by first | exact h | exact h.ent aEt)) ?_
            refine o_p (p_pure rfl) rfl ?_
            refine o_or 11 165 176 _ _ rfl
              (by
                intro hg57
                have hs58 := hg57; try simp only [decide_eq_true_eq, decide_eq_false_iff_not, Bool.not_eq_true', Bool.not_eq_false', Bool.and_eq_true, Bool.or_eq_true, Bool.and_eq_false_iff, Bool.or_eq_false_iff, Bool.not_true, Bool.not_false] at hs58
                refine o_on 165 _ rfl rfl hg57 ?_
                refine o_p (p_pure rfl) rfl ?_
                refine o_on 165 _ rfl rfl hg57 ?_
                refine o_p (p_pure rfl) rfl ?_
                refine o_on 165 _ rfl rfl hg57 ?_
                refine o_p (p_pure rfl) rfl ?_
                refine o_and 3 168 171 _ _ rfl
                  (by
                    intro hg59
                    have hs60 := hg59; try simp only [decide_eq_true_eq, decide_eq_false_iff_not, Bool.not_eq_true', Bool.not_eq_false', Bool.and_eq_true, Bool.or_eq_true, Bool.and_eq_false_iff, Bool.or_eq_false_iff, Bool.not_true, Bool.not_false] at hs60
                    refine o_on 168 _ rfl rfl hg59 ?_
                    refine o_p (p_pure rfl) rfl ?_
                    refine o_on 168 _ rfl rfl hg59 ?_
                    refine o_p (p_pure rfl) rfl ?_
                    refine o_on 165 _ rfl rfl hg57 ?_
                    refine o_p (p_pickt rfl rfl hg59 rfl) rfl ?_
                    refine o_nil ?_
                    exact s_joinN 3 171 _ rfl rfl rfl (fun w h => by first | exact h | exact h.ent aEt))
                  (by
                    intro hg61
                    have hs62 := hg61; try simp only [decide_eq_true_eq, decide_eq_false_iff_not, Bool.not_eq_true', Bool.not_eq_false', Bool.and_eq_true, Bool.or_eq_true, Bool.and_eq_false_iff, Bool.or_eq_false_iff, Bool.not_true, Bool.not_false] at hs62
                    refine o_off 168 _ rfl rfl hg61 rfl ?_
                    refine o_off 168 _ rfl rfl hg61 rfl ?_
                    refine o_on 165 _ rfl rfl hg57 ?_
                    refine o_p (p_pickf rfl rfl hg61 rfl) rfl ?_
                    refine o_nil ?_
                    exact s_joinN 3 171 _ rfl rfl rfl (fun w h => by first | exact h | exact h.ent aEt)) ?_
                refine o_on 165 _ rfl rfl hg57 ?_
                refine o_p (p_pure rfl) rfl ?_
                refine o_and 3 172 175 _ _ rfl
                  (by
                    intro hg63
                    have hs64 := hg63; try simp only [decide_eq_true_eq, decide_eq_false_iff_not, Bool.not_eq_true', Bool.not_eq_false', Bool.and_eq_true, Bool.or_eq_true, Bool.and_eq_false_iff, Bool.or_eq_false_iff, Bool.not_true, Bool.not_false] at hs64
                    refine o_on 172 _ rfl rfl hg63 ?_
                    refine o_p (p_pure rfl) rfl ?_
                    refine o_on 172 _ rfl rfl hg63 ?_
                    refine o_p (p_pure rfl) rfl ?_
                    refine o_on 165 _ rfl rfl hg57 ?_
                    refine o_p (p_pickt rfl rfl hg63 rfl) rfl ?_
                    refine o_nil ?_
                    exact s_joinN 3 175 _ rfl rfl rfl (fun w h => by first | exact h | exact h.ent aEt))
                  (by
                    intro hg65
                    have hs66 := hg65; try simp only [decide_eq_true_eq, decide_eq_false_iff_not, Bool.not_eq_true', Bool.not_eq_false', Bool.and_eq_true, Bool.or_eq_true, Bool.and_eq_false_iff, Bool.or_eq_false_iff, Bool.not_true, Bool.not_false] at hs66
                    refine o_off 172 _ rfl rfl hg65 rfl ?_
                    refine o_off 172 _ rfl rfl hg65 rfl ?_
                    refine o_on 165 _ rfl rfl hg57 ?_
                    refine o_p (p_pickf rfl rfl hg65 rfl) rfl ?_
                    refine o_nil ?_
                    exact s_joinN 3 175 _ rfl rfl rfl (fun w h => by first | exact h | exact h.ent aEt)) ?_
                refine o_p (p_pickf rfl rfl hg57 rfl) rfl ?_
                refine o_nil ?_
                exact s_joinN 7 176 _ rfl rfl rfl (fun w h => by first | exact h | exact h.ent aEt))
              (by
                intro hg67
                have hs68 := hg67; try simp only [decide_eq_true_eq, decide_eq_false_iff_not, Bool.not_eq_true', Bool.not_eq_false', Bool.and_eq_true, Bool.or_eq_true, Bool.and_eq_false_iff, Bool.or_eq_false_iff, Bool.not_true, Bool.not_false] at hs68
                refine o_off 165 _ rfl rfl hg67 rfl ?_
                refine o_off 165 _ rfl rfl hg67 rfl ?_
                refine o_off 165 _ rfl rfl hg67 rfl ?_
                refine o_off' 168 rfl rfl rfl ?_
                refine o_off' 168 rfl rfl rfl ?_
                refine o_off 165 _ rfl rfl hg67 rfl ?_
                refine o_off 165 _ rfl rfl hg67 rfl ?_
                refine o_off' 172 rfl rfl rfl ?_
                refine o_off' 172 rfl rfl rfl ?_
                refine o_off 165 _ rfl rfl hg67 rfl ?_
                refine o_p (p_pickt rfl rfl hg67 rfl) rfl ?_
                refine o_nil ?_
                exact s_joinN 11 176 _ rfl rfl rfl (fun w h => by first | exact h | exact h.ent aEt)) ?_
            refine o_nil ?_
            refine s_cond rfl (fun h69 => ?_) (fun h69 => ?_)
            · try simp only [decide_eq_true_eq, decide_eq_false_iff_not, Bool.not_eq_true', Bool.not_eq_false', Bool.and_eq_true, Bool.or_eq_true, Bool.and_eq_false_iff, Bool.or_eq_false_iff, Bool.not_true, Bool.not_false] at h69
              exfalso; have g1 := cu_tr (t := t) (a := x0) (b := x1) (c := x2); have g2 := cu_gt (t := t) (a := x0) (b := x1) (c := x2); have hq := h69; omega
            · try simp only [decide_eq_true_eq, decide_eq_false_iff_not, Bool.not_eq_true', Bool.not_eq_false', Bool.and_eq_true, Bool.or_eq_true, Bool.and_eq_false_iff, Bool.or_eq_false_iff, Bool.not_true, Bool.not_false] at h69
              refine s_skip ?_
              refine s_seq ?_
              refine s_seq ?_
              refine s_region ?_
              refine o_p (p_pure rfl) rfl ?_
              refine o_p (p_pure rfl) rfl ?_
              refine o_nil ?_
              refine s_cond rfl (fun h70 => ?_) (fun h70 => ?_)
              · try simp only [decide_eq_true_eq, decide_eq_false_iff_not, Bool.not_eq_true', Bool.not_eq_false', Bool.and_eq_true, Bool.or_eq_true, Bool.and_eq_false_iff, Bool.or_eq_false_iff, Bool.not_true, Bool.not_false] at h70
                have hs9 : ¬ sameU t x0 x1 = true := by simpa using h70
                refine s_seq ?_
                refine s_region ?_
                refine o_p (p_pure rfl) rfl ?_
                refine o_p (p_pure rfl) rfl ?_
                refine o_p (p_pure rfl) rfl ?_
                refine o_nil ?_
                exact s_retv (rs := [.tmp 4]) rfl (.tmp rfl (.nil)) (fun w' h' => ⟨by have g := cu_same hs9; simp [g, retV], h'.below⟩)
              · try simp only [decide_eq_true_eq, decide_eq_false_iff_not, Bool.not_eq_true', Bool.not_eq_false', Bool.and_eq_true, Bool.or_eq_true, Bool.and_eq_false_iff, Bool.or_eq_false_iff, Bool.not_true, Bool.not_false] at h70
                have hs9 : sameU t x0 x1 = true := by simpa using h70
                have he : up t x0 = up t x1 := by simpa [sameU] using hs9
                refine s_skip ?_
                refine s_seq ?_
                refine s_region ?_
                refine o_p (p_pure rfl) rfl ?_
                refine o_p (p_indexAddr_arr rfl rfl rfl ar_60 (0) (by omega) (by omega)) rfl ?_
                refine o_q (q_load rfl rfl sz_9 aPk rfl) rfl ?_
                refine o_q (q_call rfl fn_42 rfl (fun w1 h1 => m42 w1 t x0 (by omega) hT n0)) rfl ?_
                refine o_p (p_pure rfl) rfl ?_
                refine o_p (p_pure rfl) rfl ?_
                refine o_p (p_pure rfl) rfl ?_
                refine o_p (p_pure rfl) rfl ?_
                refine o_p (p_pure rfl) rfl ?_
                refine o_nil ?_
                refine s_seq ?_
                refine s_weaken (L' := [(0, _), (1, _), (3, _), (5, _), (10, _), (14, _), (16, _), (20, _), (21, _), (27, _), (28, _), (29, _), (30, _), (31, _), (32, _), (33, _), (37, _)]) aSx (fun _ h => h) ?_
                refine s_region ?_
                refine o_p (p_pure rfl) rfl ?_
                refine o_p (p_indexAddr_arr rfl rfl rfl ar_60 (1) (by omega) (by omega)) rfl ?_
                refine o_q (q_load rfl rfl sz_9 aPk rfl) rfl ?_
                refine o_q (q_call rfl fn_42 rfl (fun w1 h1 => m42 w1 t x1 (by omega) hT n1)) rfl ?_
                refine o_p (p_pure rfl) rfl ?_
                refine o_p (p_pure rfl) rfl ?_
                refine o_p (p_pure rfl) rfl ?_
                refine o_p (p_pure rfl) rfl ?_
                refine o_p (p_pure rfl) rfl ?_
                refine o_nil ?_
                refine s_seq ?_
                refine s_region ?_
                refine o_p (p_pure rfl) rfl ?_
                refine o_p (p_indexAddr_arr rfl rfl rfl ar_60 (0) (by omega) (by omega)) rfl ?_
                refine o_q (q_load rfl rfl sz_9 aPk rfl) rfl ?_
                refine o_p (p_indexAddr_arr rfl rfl rfl ar_60 (2) (by omega) (by omega)) rfl ?_
                refine o_q (q_load rfl rfl sz_9 aPk rfl) rfl ?_
                refine o_q (q_call rfl fn_40 rfl (fun w1 h1 => m40 w1 t x0 x2 (by omega) hT n0 n2)) rfl ?_
                refine o_p (p_pure rfl) rfl ?_
                refine o_p (p_pure rfl) rfl ?_
                refine o_p (p_pure rfl) rfl ?_
                refine o_p (p_pure rfl) rfl ?_
                refine o_p (p_pure rfl) rfl ?_
                refine o_nil ?_
                refine s_seq ?_
                refine s_weaken (L' := [(0, _), (1, _), (3, _), (5, _), (10, _), (14, _), (16, _), (20, _), (21, _), (22, _), (23, _), (24, _), (25, _), (27, _), (28, _), (29, _), (30, _), (31, _), (32, _), (33, _), (37, _)]) aSx (fun _ h => h) ?_
                refine s_region ?_
                refine o_p (p_pure rfl) rfl ?_
                refine o_p (p_pure rfl) rfl ?_
                refine o_p (p_pure rfl) rfl ?_
                refine o_and 3 206 209 _ _ rfl
                  (by
                    intro hg71
                    have hs72 := hg71; try simp only [decide_eq_true_eq, decide_eq_false_iff_not, Bool.not_eq_true', Bool.not_eq_false', Bool.and_eq_true, Bool.or_eq_true, Bool.and_eq_false_iff, Bool.or_eq_false_iff, Bool.not_true, Bool.not_false] at hs72
                    refine o_on 206 _ rfl rfl hg71 ?_
                    refine o_p (p_pure rfl) rfl ?_
                    refine o_on 206 _ rfl rfl hg71 ?_
                    refine o_p (p_pure rfl) rfl ?_
                    refine o_p (p_pickt rfl rfl hg71 rfl) rfl ?_
                    refine o_nil ?_
                    exact s_joinN 3 209 _ rfl rfl rfl (fun w h => by first | exact h | exact h.ent aEt))
                  (by
                    intro hg73
                    have hs74 := hg73; try simp only [decide_eq_true_eq, decide_eq_false_iff_not, Bool.not_eq_true', Bool.not_eq_false', Bool.and_eq_true, Bool.or_eq_true, Bool.and_eq_false_iff, Bool.or_eq_false_iff, Bool.not_true, Bool.not_false] at hs74
                    refine o_off 206 _ rfl rfl hg73 rfl ?_
                    refine o_off 206 _ rfl rfl hg73 rfl ?_
                    refine o_p (p_pickf rfl rfl hg73 rfl) rfl ?_
                    refine o_nil ?_
                    exact s_joinN 3 209 _ rfl rfl rfl (fun w h => by first | exact h | exact h.ent aEt)) ?_
                refine o_p (p_pure rfl) rfl ?_
                refine o_and 3 210 213 _ _ rfl
                  (by
                    intro hg75
                    have hs76 := hg75; try simp only [decide_eq_true_eq, decide_eq_false_iff_not, Bool.not_eq_true', Bool.not_eq_false', Bool.and_eq_true, Bool.or_eq_true, Bool.and_eq_false_iff, Bool.or_eq_false_iff, Bool.not_true, Bool.not_false] at hs76
                    refine o_on 210 _ rfl rfl hg75 ?_
                    refine o_p (p_pure rfl) rfl ?_
                    refine o_on 210 _ rfl rfl hg75 ?_
                    refine o_p (p_pure rfl) rfl ?_
                    refine o_p (p_pickt rfl rfl hg75 rfl) rfl ?_
                    refine o_nil ?_
                    exact s_joinN 3 213 _ rfl rfl rfl (fun w h => by first | exact h | exact h.ent aEt))
                  (by
                    intro hg77
                    have hs78 := hg77; try simp only [decide_eq_true_eq, decide_eq_false_iff_not, Bool.not_eq_true', Bool.not_eq_false', Bool.and_eq_true, Bool.or_eq_true, Bool.and_eq_false_iff, Bool.or_eq_false_iff, Bool.not_true, Bool.not_false] at hs78
                    refine o_off 210 _ rfl rfl hg77 rfl ?_
                    refine o_off 210 _ rfl rfl hg77 rfl ?_
                    refine o_p (p_pickf rfl rfl hg77 rfl) rfl ?_
                    refine o_nil ?_
                    exact s_joinN 3 213 _ rfl rfl rfl (fun w h => by first | exact h | exact h.ent aEt)) ?_
                refine o_p (p_pure rfl) rfl ?_
                refine o_nil ?_
                refine s_seq ?_
                refine s_region ?_
                refine o_p (p_pure rfl) rfl ?_
                refine o_p (p_pure rfl) rfl ?_
                refine o_p (p_pure rfl) rfl ?_
                refine o_and 3 216 219 _ _ rfl
                  (by
                    intro hg79
                    have hs80 := hg79; try simp only [decide_eq_true_eq, decide_eq_false_iff_not, Bool.not_eq_true', Bool.not_eq_false', Bool.and_eq_true, Bool.or_eq_true, Bool.and_eq_false_iff, Bool.or_eq_false_iff, Bool.not_true, Bool.not_false] at hs80
                    refine o_on 216 _ rfl rfl hg79 ?_
                    refine o_p (p_pure rfl) rfl ?_
                    refine o_on 216 _ rfl rfl hg79 ?_
                    refine o_p (p_pure rfl) rfl ?_
                    refine o_p (p_pickt rfl rfl hg79 rfl) rfl ?_
                    refine o_nil ?_
                    exact s_joinN 3 219 _ rfl rfl rfl (fun w h => by first | exact h | exact h.ent aEt))
                  (by
                    intro hg81
                    have hs82 := hg81; try simp only [decide_eq_true_eq, decide_eq_false_iff_not, Bool.not_eq_true', Bool.not_eq_false', Bool.and_eq_true, Bool.or_eq_true, Bool.and_eq_false_iff, Bool.or_eq_false_iff, Bool.not_true, Bool.not_false] at hs82
                    refine o_off 216 _ rfl rfl hg81 rfl ?_
                    refine o_off 216 _ rfl rfl hg81 rfl ?_
                    refine o_p (p_pickf rfl rfl hg81 rfl) rfl ?_
                    refine o_nil ?_
                    exact s_joinN 3 219 _ rfl rfl rfl (fun w h => by first | exact h | exact h.ent aEt)) ?_
                refine o_p (p_pure rfl) rfl ?_
                refine o_and 4 220 224 _ _ rfl
                  (by
                    intro hg83
                    have hs84 := hg83; try simp only [decide_eq_true_eq, decide_eq_false_iff_not, Bool.not_eq_true', Bool.not_eq_false', Bool.and_eq_true, Bool.or_eq_true, Bool.and_eq_false_iff, Bool.or_eq_false_iff, Bool.not_true, Bool.not_false] at hs84
                    refine o_on 220 _ rfl rfl hg83 ?_
                    refine o_p (p_pure rfl) rfl ?_
                    refine o_on 220 _ rfl rfl hg83 ?_
                    refine o_p (p_pure rfl) rfl ?_
                    refine o_on 220 _ rfl rfl hg83 ?_
                    refine o_p (p_pure rfl) rfl ?_
                    refine o_p (p_pickt rfl rfl hg83 rfl) rfl ?_
                    refine o_nil ?_
                    exact s_joinN 4 224 _ rfl rfl rfl (fun w h => by first | exact h | exact h.ent aEt))
                  (by
                    intro hg85
                    have hs86 := hg85; try simp only [decide_eq_true_eq, decide_eq_false_iff_not, Bool.not_eq_true', Bool.not_eq_false', Bool.and_eq_true, Bool.or_eq_true, Bool.and_eq_false_iff, Bool.or_eq_false_iff, Bool.not_true, Bool.not_false] at hs86
                    refine o_off 220 _ rfl rfl hg85 rfl ?_
                    refine o_off 220 _ rfl rfl hg85 rfl ?_
                    refine o_off 220 _ rfl rfl hg85 rfl ?_
                    refine o_p (p_pickf rfl rfl hg85 rfl) rfl ?_
                    refine o_nil ?_
                    exact s_joinN 4 224 _ rfl rfl rfl (fun w h => by first | exact h | exact h.ent aEt)) ?_
                refine o_p (p_pure rfl) rfl ?_
                refine o_and 3 225 228 _ _ rfl
                  (by
                    intro hg87
                    have hs88 := hg87; try simp only [decide_eq_true_eq, decide_eq_false_iff_not, Bool.not_eq_true', Bool.not_eq_false', Bool.and_eq_true, Bool.or_eq_true, Bool.and_eq_false_iff, Bool.or_eq_false_iff, Bool.not_true, Bool.not_false] at hs88
                    refine o_on 225 _ rfl rfl hg87 ?_
                    refine o_p (p_pure rfl) rfl ?_
                    refine o_on 225 _ rfl rfl hg87 ?_
                    refine o_p (p_pure rfl) rfl ?_
                    refine o_p (p_pickt rfl rfl hg87 rfl) rfl ?_
                    refine o_nil ?_
                    exact s_joinN 3 228 _ rfl rfl rfl (fun w h => by first | exact h | exact h.ent aEt))
                  (by
                    intro hg89
                    have hs90 := hg89; try simp only [decide_eq_true_eq, decide_eq_false_iff_not, Bool.not_eq_true', Bool.not_eq_false', Bool.and_eq_true, Bool.or_eq_true, Bool.and_eq_false_iff, Bool.or_eq_false_iff, Bool.not_true, Bool.not_false] at hs90
                    refine o_off 225 _ rfl rfl hg89 rfl ?_
                    refine o_off 225 _ rfl rfl hg89 rfl ?_
                    refine o_p (p_pickf rfl rfl hg89 rfl) rfl ?_
                    refine o_nil ?_
                    exact s_joinN 3 228 _ rfl rfl rfl (fun w h => by first | exact h | exact h.ent aEt)) ?_
                refine o_p (p_pure rfl) rfl ?_
                refine o_and 6 229 235 _ _ rfl
                  (by
                    intro hg91
                    have hs92 := hg91; try simp only [decide_eq_true_eq, decide_eq_false_iff_not, Bool.not_eq_true', Bool.not_eq_false', Bool.and_eq_true, Bool.or_eq_true, Bool.and_eq_false_iff, Bool.or_eq_false_iff, Bool.not_true, Bool.not_false] at hs92
                    refine o_on 229 _ rfl rfl hg91 ?_
                    refine o_p (p_pure rfl) rfl ?_
                    refine o_on 229 _ rfl rfl hg91 ?_
                    refine o_p (p_pure rfl) rfl ?_
                    refine o_on 229 _ rfl rfl hg91 ?_
                    refine o_p (p_pure rfl) rfl ?_
                    refine o_or 2 232 234 _ _ rfl
                      (by
                        intro hg93
                        have hs94 := hg93; try simp only [decide_eq_true_eq, decide_eq_false_iff_not, Bool.not_eq_true', Bool.not_eq_false', Bool.and_eq_true, Bool.or_eq_true, Bool.and_eq_false_iff, Bool.or_eq_false_iff, Bool.not_true, Bool.not_false] at hs94
                        refine o_on 232 _ rfl rfl hg93 ?_
                        refine o_p (p_pure rfl) rfl ?_
                        refine o_on 229 _ rfl rfl hg91 ?_
                        refine o_p (p_pickf rfl rfl hg93 rfl) rfl ?_
                        refine o_nil ?_
                        exact s_joinN 2 234 _ rfl rfl rfl (fun w h => by first | exact h | exact h.ent aEt))
                      (by
                        intro hg95
                        have hs96 := hg95; try simp only [decide_eq_true_eq, decide_eq_false_iff_not, Bool.not_eq_true', Bool.not_eq_false', Bool.and_eq_true, Bool.or_eq_true, Bool.and_eq_false_iff, Bool.or_eq_false_iff, Bool.not_true, Bool.not_false] at hs96
                        refine o_off 232 _ rfl rfl hg95 rfl ?_
                        refine o_on 229 _ rfl rfl hg91 ?_
                        refine o_p (p_pickt rfl rfl hg95 rfl) rfl ?_
                        refine o_nil ?_
                        exact s_joinN 2 234 _ rfl rfl rfl (fun w h => by first | exact h | exact h.ent aEt)) ?_
                    refine o_p (p_pickt rfl rfl hg91 rfl) rfl ?_
                    refine o_nil ?_
                    exact s_joinN 5 235 _ rfl rfl rfl (fun w h => by first | exact h | exact h.ent aEt))
                  (by
                    intro hg97
                    have hs98 := hg97; try simp only [decide_eq_true_eq, decide_eq_false_iff_not, Bool.not_eq_true', Bool.not_eq_false', Bool.and_eq_true, Bool.or_eq_true, Bool.and_eq_false_iff, Bool.or_eq_false_iff, Bool.not_true, Bool.not_false] at hs98
                    refine o_off 229 _ rfl rfl hg97 rfl ?_
                    refine o_off 229 _ rfl rfl hg97 rfl ?_
                    refine o_off 229 _ rfl rfl hg97 rfl ?_
                    refine o_off' 232 rfl rfl rfl ?_
                    refine o_off 229 _ rfl rfl hg97 rfl ?_
                    refine o_p (p_pickf rfl rfl hg97 rfl) rfl ?_
                    refine o_nil ?_
                    exact s_joinN 6 235 _ rfl rfl rfl (fun w h => by first | exact h | exact h.ent aEt)) ?_
                refine o_p (p_pure rfl) rfl ?_
                refine o_nil ?_
                exact s_retv (rs := [.tmp 4]) rfl (.tmp rfl (.nil)) (fun w' h' => ⟨by have g := cu_mid (t := t) (a := x0) (b := x1) (c := x2) hs9; rw [he]; cases hA : sameU t x0 x2 <;> simp_all [retV] <;> omega, h'.below⟩)

end Go.Proofs

