/- Contracts of the program's functions, proved by walking them with the rules of the Gx texts; without conditions beyond those that each contract names. -/
import Derived.WalkKit
import Derived.Deep.Draws
import Derived.TacticsIn
import Derived.OrdersIn
import Derived.RangeFuncLeaves
import Derived.Lib.Strings
import Derived.Laws.BytesArg
import Derived.Laws.IdiomStrings
import Derived.Deep.Quiet
import Derived.ProofKit
import Derived.OpenShut
import Derived.Laws.StructEq
import Derived.ChangeKeysEq
import Derived.Laws.Externs
import Derived.Lib.Overlaps
import Derived.Carry
import Derived.Laws.Small
import Derived.Lib.Bytealg
import Derived.Shelf.Small.Strs
import Derived.Shelf.Strconv.Itoa0
import Derived.Shelf.Strconv.Itoa1
import Derived.Shelf.LaysM
import Derived.Shelf.Strconv.Itoa2
import Derived.Shelf.Strconv.Itoa3
import Derived.Shelf.Strings.Search1
import Derived.Shelf.Strings.Search2
import Derived.Shelf.Strings.Cut
import Derived.Shelf.Strings.Shaped
import Derived.Shelf.Strings.LastIndex
import Derived.Shelf.GgClosure.StringsIndexFunc
import Derived.Ground.GgwProg
import Derived.Shelf.GgClosure.StringsIndexFuncTop
import Derived.Shelf.Strings.Prefix
import Derived.Test.YtfahilpjifjafaaDoorProg
import Derived.KernelRfl
import Derived.Lib.LastIndexByte
import Derived.Lib.ItoaNum
import Derived.Lib.SmallJoins
import Derived.Lib.AppendIntMem
import Derived.Test.YtfahilpjifjafaaDoorTie
import Derived.Test.YtfahilpjifjafaaDoorCards
import Derived.SevenTiedAt
import Derived.LaidMore
import Derived.Stop.Joined
import Derived.Lib.LaidTab
import Derived.Test.YtfahilpjifjafaaDoorP0
namespace Go.Proofs
open Go Go.RowKit Gx
set_option linter.unusedVariables false
set_option linter.unusedSimpArgs false
attribute [local irreducible] Go.Calls Gx.S Gx.O Gx.D Gx.OpP Gx.OpQ Gx.OpH

theorem zr_5 : tzero Tryd.prog 5 = some [.int .u8 0] := by kernel_rfl
theorem ki_3 : tki Tryd.prog 3 = some .i64 := by kernel_rfl
theorem ki_5 : tki Tryd.prog 5 = some .u8 := by kernel_rfl
theorem fn_97 : isFn Tryd.prog 97 = true := by kernel_rfl
theorem sz_71 : tsz Tryd.prog 71 = some (1, false) := by kernel_rfl
theorem fn_107 : isFn Tryd.prog 107 = true := by kernel_rfl
theorem fn_95 : isFn Tryd.prog 95 = true := by kernel_rfl


theorem bset {L : List UInt8} {k : Nat} {x : UInt8} {v : Value} (h : k < L.length) (hv : v = bv x) : setMany (L.map bv) (k * 1) [v] = (L.set k x).map bv := by
  subst hv
  have h9 := flat_set (vals := byV) (sz := 1) (fun _ => rfl) L k 0 [bv x] (L.getD k 0) x (by rw [List.getElem?_eq_getElem h, List.getD_eq_getElem?_getD, List.getElem?_eq_getElem h]; rfl) rfl (by simp)
  rw [Nat.add_zero] at h9
  have e : ∀ M : List UInt8, M.flatMap byV = M.map bv := fun M => map_flat bv M
  rw [e, e] at h9
  exact h9
def mixU (t s : List UInt8) (k : Nat) : List UInt8 := (up t s).take k ++ s.drop k
theorem mixU_len {t s : List UInt8} {k : Nat} (h : k ≤ s.length) : (mixU t s k).length = s.length := by simp [mixU, up_len]; omega
theorem mixU_get {t s : List UInt8} {k : Nat} (h : k < s.length) : (mixU t s k).getD k 0 = s.getD k 0 := by
  unfold mixU
  rw [List.getD_eq_getElem?_getD, List.getElem?_append_right (by simp [up_len]; omega), List.getElem?_drop, List.getD_eq_getElem?_getD]
  congr 2
  simp [up_len]; omega
theorem mixU_set {t s : List UInt8} {k : Nat} (h : k < s.length) : (mixU t s k).set k (t.getD (s.getD k 0).toNat 0) = mixU t s (k + 1) := by
  unfold mixU up
  apply List.ext_getElem?
  intro j
  simp only [List.getElem?_set, List.getElem?_append, List.getElem?_take, List.getElem?_drop, List.length_append, List.length_take, List.length_map, List.length_drop, List.getElem?_map, List.getD_eq_getElem?_getD]
  have hk := List.getElem?_eq_getElem h
  grind
theorem mixU_0 (t s : List UInt8) : mixU t s 0 = s := by simp [mixU]
theorem mixU_end (t s : List UInt8) : mixU t s s.length = up t s := by simp [mixU, ← up_len t s]
def mixS (k : Nat) : List UInt8 := stdT.take k ++ List.replicate (128 - k) 0
theorem stdT_len : stdT.length = 128 := by simp [stdT]
theorem mixS_len {k : Nat} (h : k ≤ 128) : (mixS k).length = 128 := by simp [mixS, stdT_len]; omega
theorem mixS_set {k : Nat} (h : k < 128) : (mixS k).set k (stdB k) = mixS (k + 1) := by
  unfold mixS
  have hk : stdT[k]? = some (stdB k) := by unfold stdT; rw [List.getElem?_map, List.getElem?_range h]; rfl
  have hl := stdT_len
  apply List.ext_getElem?
  intro j
  simp only [List.getElem?_set, List.getElem?_append, List.getElem?_take, List.length_append, List.length_take, List.getElem?_replicate, List.length_replicate]
  grind
theorem all_any (s : List UInt8) (p : UInt8 → Bool) : (!((s.map fun c => !p c).any id)) = s.all p := by
  induction s with
  | nil => rfl
  | cons a s ih => simp only [List.map_cons, List.any_cons, List.all_cons, id_eq, Bool.not_or, Bool.not_not, ih]

set_option maxRecDepth 20000 in
theorem c60 (w : World) (t s : List UInt8) (hl : t.length = 128) (hc : ∀ c ∈ s, c.toNat < 128) (hm : s.length ≤ 1000000) : Calls Tryd.prog 60 #[.string (bs t), .string (bs s)] w fun en w' => en = .returned (.string (bs (up t s))) ∧ Below w.heap.size w w' := by
  refine enter (args := [_, _]) Tryd.func60 Tryd.ntmps60 rfl rfl (HS.refl w []) ?_
  refine s_seq ?_
  refine s_region ?_
  refine oP ?_
  refine o_nil ?_
  refine s_seq ?_
  refine s_region ?_
  refine oP ?_
  refine o_h (h_bytes rfl rfl Tryd.underlying9 Tryd.underlying92 Tryd.underlying5 rfl (by simp only [maxLen]; omega)) rfl (fun ⟨b1, c2⟩ ⟨h3, k4⟩ => ?_)
  refine oP ?_
  refine o_nil ?_
  refine s_seq ?_
  refine s_seq ?_
  refine s_region ?_
  refine oP ?_
  refine o_p (p_len_slice rfl rfl Tryd.underlying92) rfl ?_
  refine oP ?_
  refine o_nil ?_
  refine s_block ?_
  refine s_loopI (α := Nat) [6, 7, 12, 13, 14, 15, 16, 17, 18, 19, 20, 21, 22, 23] (fun k => [(12, .int .i64 (k : Int))]) (fun k => HS w [] [.blk b1 5 c2 ((mixU t s k).map bv)]) (fun k => k ≤ s.length) (fun k => s.length - k) 0 (Nat.zero_le _) aSx (fun w h => by rw [mixU_0]; exact h.ent aEt) (fun k hk1 => ?_)
  refine s_seq ?_
  refine s_region ?_
  refine oP ?_
  refine o_nil ?_
  refine s_seq ?_
  refine s_cond rfl (fun h5 => ?_) (fun h5 => ?_)
  · try simp only [decide_eq_true_eq, decide_eq_false_iff_not, Bool.not_eq_true', Bool.not_eq_false', Bool.and_eq_true, Bool.or_eq_true, Bool.and_eq_false_iff, Bool.or_eq_false_iff, Bool.not_true, Bool.not_false] at h5
    have hk : k < s.length := by omega
    have hck := hc (s.getD k 0) (getD_mem hk)
    refine s_skip ?_
    refine s_seq ?_
    refine s_block ?_
    refine s_seq ?_
    refine s_region ?_
    refine oP ?_
    refine o_p (p_indexAddr rfl rfl rfl sl_92 (k) (by omega) (by omega) rfl) rfl ?_
    refine o_q (q_load_at rfl rfl sz_5 (fun w h => by rw [Nat.zero_add]; exact h.rd_blk (Mc := []) aPk (by rw [Nat.mul_one, bv_get (by rw [mixU_len hk1]; exact hk), mixU_get hk]) (by simp))) rfl ?_
    refine oP ?_
    refine oP ?_
    refine o_nil ?_
    refine s_region ?_
    refine oP ?_
    refine oP ?_
    refine oP ?_
    refine oP ?_
    refine o_p (p_index_str rfl rfl rfl Tryd.underlying72 ((s.getD k 0).toNat) (by omega) (by omega)) rfl ?_
    refine o_p (p_indexAddr rfl rfl rfl sl_92 (k) (by omega) (by omega) rfl) rfl ?_
    refine o_slot (show _ = Value.pointer (some ⟨b1, k * 1, none⟩) from by rw [Nat.zero_add]) ?_
    refine o_h0 (h_store rfl rfl rfl sz_5 rfl aPt (by rw [List.length_map, mixU_len hk1]; omega) rfl) (fun _ _ => ?_)
    refine o_nil ?_
    refine s_blk ?_
    refine s_region ?_
    refine oP ?_
    try (refine o_slot (i64w (by omega) (by omega)) ?_)
    refine oP ?_
    refine o_nil ?_
    exact s_backI (k + 1) (by omega) (by omega) aSx (fun w h => by have h2 := HS.blk_to (b := b1) h aPk (bset (L := mixU t s k) (x := t.getD (s.getD k 0).toNat 0) (by rw [mixU_len hk1]; exact hk) rfl); rw [mixU_set hk] at h2; exact h2.ent aEt)
  · try simp only [decide_eq_true_eq, decide_eq_false_iff_not, Bool.not_eq_true', Bool.not_eq_false', Bool.and_eq_true, Bool.or_eq_true, Bool.and_eq_false_iff, Bool.or_eq_false_iff, Bool.not_true, Bool.not_false] at h5
    obtain rfl : k = s.length := by omega
    rw [mixU_end]
    refine s_exit_to rfl ?_
    refine s_seq ?_
    refine s_region ?_
    refine oP ?_
    refine o_q (q_string_blk rfl rfl Tryd.underlying92 Tryd.underlying9 Tryd.underlying5 aPk (by simp [up_len]) (isU8_bv _)) rfl ?_
    refine oP ?_
    refine o_nil ?_
    exact s_retv (rs := [.tmp 4]) rfl (.tmp rfl (.nil)) (fun w' h' => ⟨by simp only [vByte_bv]; rfl, h'.below⟩)

set_option maxRecDepth 20000 in
theorem c43 (w : World)  : Calls Tryd.prog 43 #[] w fun en w' => en = .returned (.string (bs stdT)) ∧ Below w.heap.size w w' := by
  refine enter (args := []) Tryd.func43 Tryd.ntmps43 rfl rfl (HS.refl w []) ?_
  refine s_seq ?_
  refine s_region ?_
  refine oP ?_
  refine o_nil ?_
  refine s_seq ?_
  refine s_region ?_
  refine o_h (h_make (n := 128) rfl rfl rfl sl_92 zr_5 (by omega) (by omega)) rfl (fun b1 _ => ?_)
  refine oP ?_
  refine o_nil ?_
  refine s_seq ?_
  refine s_seq ?_
  refine s_region ?_
  refine oP ?_
  refine o_p (p_len_slice rfl rfl Tryd.underlying92) rfl ?_
  refine oP ?_
  refine o_nil ?_
  refine s_block ?_
  refine s_loopI (α := Nat) [2, 6, 7, 8, 9, 10, 11, 12, 13, 14, 15, 16, 17, 18, 19, 20, 21, 22, 23, 24, 25, 26, 27] (fun k => [(6, .int .i64 (k : Int))]) (fun k => HS w [] [.blk b1 5 (128 * 1) ((mixS k).map bv)]) (fun k => k ≤ 128) (fun k => 128 - k) 0 (Nat.zero_le _) aSx (fun w h => h.ent aEt) (fun k hk1 => ?_)
  refine s_seq ?_
  refine s_region ?_
  refine oP ?_
  refine o_nil ?_
  refine s_seq ?_
  refine s_cond rfl (fun h2 => ?_) (fun h2 => ?_)
  · try simp only [decide_eq_true_eq, decide_eq_false_iff_not, Bool.not_eq_true', Bool.not_eq_false', Bool.and_eq_true, Bool.or_eq_true, Bool.and_eq_false_iff, Bool.or_eq_false_iff, Bool.not_true, Bool.not_false] at h2
    have hk : k < 128 := by omega
    have hkm : k < (mixS k).length := by rw [mixS_len hk1]; exact hk
    refine s_skip ?_
    refine s_seq ?_
    refine s_block ?_
    refine s_seq ?_
    refine s_region ?_
    refine oP ?_
    refine oP ?_
    refine o_nil ?_
    refine s_seq ?_
    refine s_region ?_
    refine oP ?_
    refine oP ?_
    refine oP ?_
    refine o_p (p_conv_int rfl rfl ki_3 ki_5) rfl ?_
    refine o_slot (show _ = bv (UInt8.ofNat k) from by unfold bv; congr 1 <;> (rw [UInt8.toNat_ofNat', wrap_u8 k (by omega)]; omega)) ?_
    refine o_p (p_indexAddr rfl rfl rfl sl_92 (k) (by omega) (by omega) rfl) rfl ?_
    refine o_slot (show _ = Value.pointer (some ⟨b1, k * 1, none⟩) from by rw [Nat.zero_add]) ?_
    refine o_h0 (h_store rfl rfl rfl sz_5 rfl aPt (by simp only [setMany_length, List.length_set, List.length_cons, List.length_nil, List.length_map]; omega) rfl) (fun _ _ => ?_)
    refine o_nil ?_
    refine s_seq ?_
    refine s_region ?_
    refine oP ?_
    refine oP ?_
    refine oP ?_
    refine o_and 3 16 19 _ _ rfl
      (by
        intro hg3
        have hs4 := hg3; try simp only [decide_eq_true_eq, decide_eq_false_iff_not, Bool.not_eq_true', Bool.not_eq_false', Bool.and_eq_true, Bool.or_eq_true, Bool.and_eq_false_iff, Bool.or_eq_false_iff, Bool.not_true, Bool.not_false] at hs4
        refine o_on 16 _ rfl rfl hg3 ?_
        refine oP ?_
        refine o_on 16 _ rfl rfl hg3 ?_
        refine oP ?_
        refine o_p (p_pickt rfl rfl hg3 rfl) rfl ?_
        refine o_nil ?_
        exact s_joinN 3 19 _ rfl rfl rfl (fun w h => by first | exact h | exact h.ent aEt))
      (by
        intro hg5
        have hs6 := hg5; try simp only [decide_eq_true_eq, decide_eq_false_iff_not, Bool.not_eq_true', Bool.not_eq_false', Bool.and_eq_true, Bool.or_eq_true, Bool.and_eq_false_iff, Bool.or_eq_false_iff, Bool.not_true, Bool.not_false] at hs6
        refine o_off 16 _ rfl rfl hg5 rfl ?_
        refine o_off 16 _ rfl rfl hg5 rfl ?_
        refine o_p (p_pickf rfl rfl hg5 rfl) rfl ?_
        refine o_nil ?_
        exact s_joinN 3 19 _ rfl rfl rfl (fun w h => by first | exact h | exact h.ent aEt)) ?_
    refine o_nil ?_
    refine s_cond rfl (fun h7 => ?_) (fun h7 => ?_)
    · try simp only [decide_eq_true_eq, decide_eq_false_iff_not, Bool.not_eq_true', Bool.not_eq_false', Bool.and_eq_true, Bool.or_eq_true, Bool.and_eq_false_iff, Bool.or_eq_false_iff, Bool.not_true, Bool.not_false] at h7
      have hsk : stdB k = UInt8.ofNat (k - 32) := by unfold stdB; rw [if_pos (by omega)]
      refine s_region ?_
      refine oP ?_
      refine oP ?_
      refine oP ?_
      refine oP ?_
      try (refine o_slot (i64w (by omega) (by omega)) ?_)
      refine oP ?_
      try (refine o_slot (i64w (by omega) (by omega)) ?_)
      refine o_p (p_conv_int rfl rfl ki_3 ki_5) rfl ?_
      refine o_slot (show _ = bv (stdB k) from by rw [hsk]; unfold bv; congr 1; rw [UInt8.toNat_ofNat', show ((k : Int) - 97 + 65) = ((k - 32 : Nat) : Int) from by omega, wrap_u8 _ (by omega)]; omega) ?_
      refine o_p (p_indexAddr rfl rfl rfl sl_92 (k) (by omega) (by omega) rfl) rfl ?_
      refine o_slot (show _ = Value.pointer (some ⟨b1, k * 1, none⟩) from by rw [Nat.zero_add]) ?_
      refine o_h0 (h_store rfl rfl rfl sz_5 rfl aPt (by simp only [setMany_length, List.length_set, List.length_cons, List.length_nil, List.length_map]; omega) rfl) (fun _ _ => ?_)
      refine o_nil ?_
      refine s_blk ?_
      refine s_region ?_
      refine oP ?_
      try (refine o_slot (i64w (by omega) (by omega)) ?_)
      refine oP ?_
      refine o_nil ?_
      exact s_backI (k + 1) (by omega) (by omega) aSx (fun w h => by have h1 := HS.blk_to (b := b1) h aPk (show setMany (setMany ((mixS k).map bv) (k * 1) [bv (UInt8.ofNat k)]) (k * 1) [bv (stdB k)] = ((mixS k).set k (stdB k)).map bv from by rw [bset hkm rfl, bset (by rw [List.length_set]; exact hkm) rfl, List.set_set]); rw [mixS_set hk] at h1; exact h1.ent aEt)
    · try simp only [decide_eq_true_eq, decide_eq_false_iff_not, Bool.not_eq_true', Bool.not_eq_false', Bool.and_eq_true, Bool.or_eq_true, Bool.and_eq_false_iff, Bool.or_eq_false_iff, Bool.not_true, Bool.not_false] at h7
      have hsk : stdB k = UInt8.ofNat k := by unfold stdB; rw [if_neg (by omega)]
      refine s_skip ?_
      refine s_blk ?_
      refine s_region ?_
      refine oP ?_
      try (refine o_slot (i64w (by omega) (by omega)) ?_)
      refine oP ?_
      refine o_nil ?_
      exact s_backI (k + 1) (by omega) (by omega) aSx (fun w h => by have h1 := HS.blk_to (b := b1) h aPk (bset (x := UInt8.ofNat k) hkm rfl); rw [← hsk, mixS_set hk] at h1; exact h1.ent aEt)
  · try simp only [decide_eq_true_eq, decide_eq_false_iff_not, Bool.not_eq_true', Bool.not_eq_false', Bool.and_eq_true, Bool.or_eq_true, Bool.and_eq_false_iff, Bool.or_eq_false_iff, Bool.not_true, Bool.not_false] at h2
    obtain rfl : k = 128 := by omega
    refine s_exit_to rfl ?_
    refine s_seq ?_
    refine s_region ?_
    refine oP ?_
    refine o_q (q_string_blk rfl rfl Tryd.underlying92 Tryd.underlying9 Tryd.underlying5 aPk (by simp [mixS_len]) (isU8_bv _)) rfl ?_
    refine oP ?_
    refine o_nil ?_
    exact s_retv (rs := [.tmp 0]) rfl (.tmp rfl (.nil)) (fun w' h' => ⟨by simp only [vByte_bv]; simp [mixS, stdT_len, List.take_of_length_le]; rfl, h'.below⟩)

set_option maxRecDepth 20000 in
theorem c82 (w : World) (c : UInt8) : Calls Tryd.prog 82 #[.int .u8 (c.toNat : Int)] w fun en w' => en = .returned (.bool (legalB c)) ∧ Below w.heap.size w w' := by
  have e1 : ((32 : Int) ≤ (c.toNat : Int)) ↔ 32 ≤ c.toNat := by omega
  have e2 : ((c.toNat : Int) ≤ 126) ↔ c.toNat ≤ 126 := by omega
  have e3 : decide (Lib.indexByte refusedL c < 0) = !(refusedL.contains c) := by by_cases h : c ∈ refusedL; (rw [decide_eq_false (fun h9 => idxB_neg.1 h9 h)]; simp [h]); (rw [decide_eq_true (idxB_neg.2 h)]; simp [h])
  refine enter (args := [_]) Tryd.func82 Tryd.ntmps82 rfl rfl (HS.refl w []) ?_
  refine s_seq ?_
  refine s_region ?_
  refine oP ?_
  refine o_nil ?_
  refine s_seq ?_
  refine s_region ?_
  refine oP ?_
  refine oP ?_
  refine oP ?_
  refine o_and 3 5 8 _ _ rfl
    (by
      intro hg1
      have hs2 := hg1; try simp only [decide_eq_true_eq, decide_eq_false_iff_not, Bool.not_eq_true', Bool.not_eq_false', Bool.and_eq_true, Bool.or_eq_true, Bool.and_eq_false_iff, Bool.or_eq_false_iff, Bool.not_true, Bool.not_false] at hs2
      refine o_on 5 _ rfl rfl hg1 ?_
      refine oP ?_
      refine o_on 5 _ rfl rfl hg1 ?_
      refine oP ?_
      refine o_p (p_pickt rfl rfl hg1 rfl) rfl ?_
      refine o_nil ?_
      exact s_joinN 3 8 _ rfl rfl rfl (fun w h => by first | exact h | exact h.ent aEt))
    (by
      intro hg3
      have hs4 := hg3; try simp only [decide_eq_true_eq, decide_eq_false_iff_not, Bool.not_eq_true', Bool.not_eq_false', Bool.and_eq_true, Bool.or_eq_true, Bool.and_eq_false_iff, Bool.or_eq_false_iff, Bool.not_true, Bool.not_false] at hs4
      refine o_off 5 _ rfl rfl hg3 rfl ?_
      refine o_off 5 _ rfl rfl hg3 rfl ?_
      refine o_p (p_pickf rfl rfl hg3 rfl) rfl ?_
      refine o_nil ?_
      exact s_joinN 3 8 _ rfl rfl rfl (fun w h => by first | exact h | exact h.ent aEt)) ?_
  refine oP ?_
  refine o_and 4 9 13 _ _ rfl
    (by
      intro hg5
      have hs6 := hg5; try simp only [decide_eq_true_eq, decide_eq_false_iff_not, Bool.not_eq_true', Bool.not_eq_false', Bool.and_eq_true, Bool.or_eq_true, Bool.and_eq_false_iff, Bool.or_eq_false_iff, Bool.not_true, Bool.not_false] at hs6
      refine o_on 9 _ rfl rfl hg5 ?_
      refine oP ?_
      refine o_on 9 _ rfl rfl hg5 ?_
      refine o_q (q_call rfl fn_97 rfl (fun w1 h1 => ib97 w1 refusedL c)) rfl ?_
      refine o_on 9 _ rfl rfl hg5 ?_
      refine oP ?_
      refine o_p (p_pickt rfl rfl hg5 rfl) rfl ?_
      refine o_nil ?_
      exact s_joinN 4 13 _ rfl rfl rfl (fun w h => by first | exact h | exact h.ent aEt))
    (by
      intro hg7
      have hs8 := hg7; try simp only [decide_eq_true_eq, decide_eq_false_iff_not, Bool.not_eq_true', Bool.not_eq_false', Bool.and_eq_true, Bool.or_eq_true, Bool.and_eq_false_iff, Bool.or_eq_false_iff, Bool.not_true, Bool.not_false] at hs8
      refine o_off 9 _ rfl rfl hg7 rfl ?_
      refine o_off 9 _ rfl rfl hg7 rfl ?_
      refine o_off 9 _ rfl rfl hg7 rfl ?_
      refine o_p (p_pickf rfl rfl hg7 rfl) rfl ?_
      refine o_nil ?_
      exact s_joinN 4 13 _ rfl rfl rfl (fun w h => by first | exact h | exact h.ent aEt)) ?_
  refine oP ?_
  refine o_nil ?_
  exact s_retv (rs := [.tmp 2]) rfl (.tmp rfl (.nil)) (fun w' h' => ⟨by simp only [retV, legalB, e1, e2, e3], h'.below⟩)

set_option maxRecDepth 20000 in
theorem c96 (w : World) (b q : Nat) (cv : Array Value) (c : UInt8) (r : Bool) (hr : Rd w [] b 0 (.func (.func q) #[] cv)) (hq : isFn Tryd.prog q = true) (hc : ∀ w1, HS w [] [] w1 → Calls Tryd.prog q (#[] ++ [.int .u8 (c.toNat : Int)].toArray ++ cv) w1 fun en w2 => en = .returned (.bool r) ∧ Below w1.heap.size w1 w2) : Calls Tryd.prog 96 #[.int .u8 (c.toNat : Int), .pointer (some ⟨b, 0, none⟩)] w fun en w' => en = .returned (.bool (!r)) ∧ Below w.heap.size w w' := by
  refine enter (args := [_, _]) Tryd.func96 Tryd.ntmps96 rfl rfl (HS.refl w []) ?_
  refine s_seq ?_
  refine s_region ?_
  refine oP ?_
  refine o_nil ?_
  refine s_seq ?_
  refine s_region ?_
  refine o_q (q_load_old rfl rfl sz_71 (hr)) rfl ?_
  refine oP ?_
  refine o_q (q_callv rfl rfl hq rfl (fun w1 h1 => hc w1 (h1.ent aEt))) rfl ?_
  refine oP ?_
  refine oP ?_
  refine o_nil ?_
  exact s_retv (rs := [.tmp 3]) rfl (.tmp rfl (.nil)) (fun w' h' => ⟨rfl, h'.below⟩)

set_option maxRecDepth 20000 in
theorem c107 (w : World) (a : Option Addr) (cap : Nat) (l : List UInt8) (q : Nat) (cv : Array Value) (bt : List Bool) (hs : Vl w a (l.map bv)) (hm : l.length ≤ 1000000) (hq : isFn Tryd.prog q = true) (hb : bt.length = l.length) (hc : ∀ k w1, k < l.length → HS w [] [] w1 → Calls Tryd.prog q (#[] ++ [.int .u8 ((l.getD k 0).toNat : Int)].toArray ++ cv) w1 fun en w2 => en = .returned (.bool (bt.getD k false)) ∧ Below w1.heap.size w1 w2) : Calls Tryd.prog 107 #[.slice a l.length cap, .func (.func q) #[] cv] w fun en w' => en = .returned (.int .i64 (ixI bt)) ∧ Below w.heap.size w w' := by
  refine enter (args := [_, _]) Tryd.func107 Tryd.ntmps107 rfl rfl (HS.refl w []) ?_
  refine s_seq ?_
  refine s_region ?_
  refine oP ?_
  refine o_nil ?_
  refine s_seq ?_
  refine s_seq ?_
  refine s_region ?_
  refine oP ?_
  refine o_p (p_len_slice rfl rfl Tryd.underlying92) rfl ?_
  refine oP ?_
  refine o_nil ?_
  refine s_block ?_
  refine s_loopI (α := Nat) [4, 5, 8, 9, 10, 11, 12, 13, 14, 15, 16, 17, 18] (fun k => [(8, .int .i64 (k : Int))]) (fun _ => _) (fun k => k ≤ l.length ∧ ∀ i, i < k → bt.getD i false = false) (fun k => l.length - k) 0 ⟨by omega, fun i h => absurd h (Nat.not_lt_zero i)⟩ aSx (fun w h => h) (fun k hk => ?_)
  obtain ⟨hk1, hk2⟩ := hk
  refine s_seq ?_
  refine s_region ?_
  refine oP ?_
  refine o_nil ?_
  refine s_seq ?_
  refine s_cond rfl (fun h1 => ?_) (fun h1 => ?_)
  · try simp only [decide_eq_true_eq, decide_eq_false_iff_not, Bool.not_eq_true', Bool.not_eq_false', Bool.and_eq_true, Bool.or_eq_true, Bool.and_eq_false_iff, Bool.or_eq_false_iff, Bool.not_true, Bool.not_false] at h1
    refine s_skip ?_
    refine s_seq ?_
    refine s_block ?_
    refine s_seq ?_
    refine s_region ?_
    refine oP ?_
    refine oP ?_
    refine o_nil ?_
    refine s_seq ?_
    refine s_region ?_
    refine oP ?_
    refine oP ?_
    refine oP ?_
    refine o_p (p_indexAddr rfl rfl rfl sl_92 (k) (by omega) (by omega) (hs.some (by rw [List.length_map]; omega))) rfl ?_
    refine o_q (q_load_old rfl rfl sz_5 ((hs.rd (bv_get (k := k) (by omega))))) rfl ?_
    refine o_q (q_callv rfl rfl hq rfl (fun w1 h1 => hc k w1 (by omega) (h1.ent aEt))) rfl ?_
    refine o_nil ?_
    refine s_cond rfl (fun h2 => ?_) (fun h2 => ?_)
    · try simp only [decide_eq_true_eq, decide_eq_false_iff_not, Bool.not_eq_true', Bool.not_eq_false', Bool.and_eq_true, Bool.or_eq_true, Bool.and_eq_false_iff, Bool.or_eq_false_iff, Bool.not_true, Bool.not_false] at h2
      refine s_seq ?_
      refine s_region ?_
      refine oP ?_
      refine oP ?_
      refine o_nil ?_
      exact s_retv (rs := [.tmp 4]) rfl (.tmp rfl (.nil)) (fun w' h' => ⟨by have e := ixB_eq (l := bt) (k := k) (by omega) hk2 (fun _ => by assumption); simp only [retV, ixI, e]; rw [if_pos (by omega)], h'.below⟩)
    · try simp only [decide_eq_true_eq, decide_eq_false_iff_not, Bool.not_eq_true', Bool.not_eq_false', Bool.and_eq_true, Bool.or_eq_true, Bool.and_eq_false_iff, Bool.or_eq_false_iff, Bool.not_true, Bool.not_false] at h2
      refine s_skip ?_
      refine s_blk ?_
      refine s_region ?_
      refine oP ?_
      try (refine o_slot (i64w (by omega) (by omega)) ?_)
      refine oP ?_
      refine o_nil ?_
      exact s_backI (k+1) (by omega) ⟨by omega, fun i hi => (Nat.lt_or_ge i k).elim (hk2 i) (fun h => by obtain rfl : i = k := (by omega); assumption)⟩ aSx (fun w h => h)
  · try simp only [decide_eq_true_eq, decide_eq_false_iff_not, Bool.not_eq_true', Bool.not_eq_false', Bool.and_eq_true, Bool.or_eq_true, Bool.and_eq_false_iff, Bool.or_eq_false_iff, Bool.not_true, Bool.not_false] at h1
    refine s_exit_to rfl ?_
    refine s_seq ?_
    refine s_region ?_
    refine oP ?_
    refine o_nil ?_
    exact s_retv (rs := [.tmp 4]) rfl (.tmp rfl (.nil)) (fun w' h' => ⟨by have e := ixB_eq (l := bt) (k := k) (by omega) hk2 (fun h => by omega); simp only [retV, ixI, e]; rw [if_neg (by omega)], h'.below⟩)

set_option maxRecDepth 20000 in
theorem c95 (w : World) (a : Option Addr) (cap : Nat) (l : List UInt8) (q : Nat) (cv : Array Value) (bt : List Bool) (hs : Vl w a (l.map bv)) (hm : l.length ≤ 1000000) (hq : isFn Tryd.prog q = true) (hb : bt.length = l.length) (hc : ∀ k w1, k < l.length → HS w [] [] w1 → Calls Tryd.prog q (#[] ++ [.int .u8 ((l.getD k 0).toNat : Int)].toArray ++ cv) w1 fun en w2 => en = .returned (.bool (bt.getD k false)) ∧ Below w1.heap.size w1 w2) : Calls Tryd.prog 95 #[.slice a l.length cap, .func (.func q) #[] cv] w fun en w' => en = .returned (.bool (bt.any id)) ∧ Below w.heap.size w w' := by
  refine enter (args := [_, _]) Tryd.func95 Tryd.ntmps95 rfl rfl (HS.refl w []) ?_
  refine s_seq ?_
  refine s_region ?_
  refine oP ?_
  refine o_nil ?_
  refine s_seq ?_
  refine s_region ?_
  refine oP ?_
  refine oP ?_
  refine o_q (q_call rfl fn_107 rfl (fun w1 h1 => c107 w1 a cap l q cv bt (hs.later h1) hm hq hb (fun k w2 hk h2 => hc k w2 hk (by simpa using h1.call h2)))) rfl ?_
  refine oP ?_
  refine oP ?_
  refine o_nil ?_
  exact s_retv (rs := [.tmp 4]) rfl (.tmp rfl (.nil)) (fun w' h' => ⟨by simp only [retV]; rw [← ixI_any], h'.below⟩)

set_option maxRecDepth 20000 in
theorem c80 (w : World) (s : List UInt8) (q : Nat) (cv : Array Value) (p : UInt8 → Bool) (hm : s.length ≤ 1000000) (hq : isFn Tryd.prog q = true) (hc : ∀ k w1, k < s.length → HS w [] [] w1 → Calls Tryd.prog q (#[] ++ [.int .u8 ((s.getD k 0).toNat : Int)].toArray ++ cv) w1 fun en w2 => en = .returned (.bool (p (s.getD k 0))) ∧ Below w1.heap.size w1 w2) : Calls Tryd.prog 80 #[.string (bs s), .func (.func q) #[] cv] w fun en w' => en = .returned (.bool (s.all p)) ∧ Below w.heap.size w w' := by
  refine enter (args := [_, _]) Tryd.func80 Tryd.ntmps80 rfl rfl (HS.refl w []) ?_
  refine s_seq ?_
  refine s_region ?_
  refine o_h (h_box rfl rfl) rfl (fun b1 _ => ?_)
  refine oP ?_
  refine o_nil ?_
  refine s_seq ?_
  refine s_region ?_
  refine oP ?_
  refine o_h (h_bytes rfl rfl Tryd.underlying9 Tryd.underlying92 Tryd.underlying5 rfl (by simp only [maxLen]; omega)) rfl (fun ⟨b2, c3⟩ ⟨h4, k5⟩ => ?_)
  refine oP ?_
  refine o_q (q_call rfl fn_95 rfl (fun w1 h1 => c95 w1 _ _ s 96 #[.pointer (some ⟨b1, 0, none⟩)] (s.map fun c => !p c) (h1.vl_blk aPk) hm (by kernel_rfl) (by simp) (fun k w2 hk h2 => by rw [getD_map (d := 0) hk]; exact c96 w2 b1 q cv _ _ ((h1.rd_blk (Mc := []) (b := b1) aPk rfl (by simp)).next h2) hq (fun w3 h3 => hc k w3 hk ((h1.call h2).call h3).nil)))) rfl ?_
  refine oP ?_
  refine oP ?_
  refine o_nil ?_
  exact s_retv (rs := [.tmp 4]) rfl (.tmp rfl (.nil)) (fun w' h' => ⟨by simp only [retV]; rw [all_any], h'.below⟩)

end Go.Proofs

namespace Go.Proofs
open Go Go.RowKit Gx
set_option linter.unusedVariables false
set_option linter.unusedSimpArgs false
attribute [local irreducible] Go.Calls Gx.S Gx.O Gx.D Gx.OpP Gx.OpQ Gx.OpH

theorem fn_80 : isFn Tryd.prog 80 = true := by kernel_rfl
theorem fn_91 : isFn Tryd.prog 91 = true := by kernel_rfl
theorem fn_73 : isFn Tryd.prog 73 = true := by kernel_rfl
theorem zr_25 : tzero Tryd.prog 25 = some [.int .i64 0] := by kernel_rfl
theorem fn_51 : isFn Tryd.prog 51 = true := by kernel_rfl
theorem fn_82 : isFn Tryd.prog 82 = true := by kernel_rfl
theorem fn_68 : isFn Tryd.prog 68 = true := by kernel_rfl
theorem fn_32 : isFn Tryd.prog 32 = true := by kernel_rfl
theorem fn_83 : isFn Tryd.prog 83 = true := by kernel_rfl
theorem fn_50 : isFn Tryd.prog 50 = true := by kernel_rfl
theorem fn_54 : isFn Tryd.prog 54 = true := by kernel_rfl
theorem fn_36 : isFn Tryd.prog 36 = true := by kernel_rfl
theorem fn_43 : isFn Tryd.prog 43 = true := by kernel_rfl
theorem fn_60 : isFn Tryd.prog 60 = true := by kernel_rfl


theorem firstV2 {a b : Int} : firstV [.int .i64 a, .int .i64 b] = if a = 0 then b else a := by
  simp only [firstV]
  grind
theorem firstV3 {a b c : Int} : firstV [.int .i64 a, .int .i64 b, .int .i64 c] = if a = 0 then if b = 0 then c else b else a := by
  simp only [firstV]
  grind
/-- The error of a table and of names. -/
def openE (t : List UInt8) (l : List (List UInt8)) : Int := if (chkTab t).2 = 0 then firstI (l.map nameE) else (chkTab t).2
def openL (t : List UInt8) (l : List (List UInt8)) : Int := if (chkTab t).2 = 0 then namesE l else (chkTab t).2
theorem nameE_v {s : List UInt8} : firstV [.int .i64 (bif decide (s.length ≤ 32) then 0 else 8), .int .i64 (bif legalS s then 0 else 4)] = nameE s := by
  rw [firstV2]
  unfold nameE
  by_cases h : s.length ≤ 32
  · simp [h, cond_eq_ite]
  · simp [h]

set_option maxRecDepth 20000 in
theorem c73 (w : World) (s : List UInt8) (hm : s.length ≤ 1000000) : Calls Tryd.prog 73 #[.string (bs s)] w fun en w' => en = .returned (.bool (legalS s)) ∧ Below w.heap.size w w' := by
  have e1 : ((s.length : Int) ≤ 32) ↔ s.length ≤ 32 := by omega
  refine enter (args := [_]) Tryd.func73 Tryd.ntmps73 rfl rfl (HS.refl w []) ?_
  refine s_seq ?_
  refine s_region ?_
  refine oP ?_
  refine o_nil ?_
  refine s_seq ?_
  refine s_region ?_
  refine oP ?_
  refine oP ?_
  refine oP ?_
  refine o_and 4 5 9 _ _ rfl
    (by
      intro hg1
      have hs2 := hg1; try simp only [decide_eq_true_eq, decide_eq_false_iff_not, Bool.not_eq_true', Bool.not_eq_false', Bool.and_eq_true, Bool.or_eq_true, Bool.and_eq_false_iff, Bool.or_eq_false_iff, Bool.not_true, Bool.not_false] at hs2
      refine o_on 5 _ rfl rfl hg1 ?_
      refine oP ?_
      refine o_on 5 _ rfl rfl hg1 ?_
      refine o_p (p_len_str rfl rfl Tryd.underlying9) rfl ?_
      refine o_on 5 _ rfl rfl hg1 ?_
      refine oP ?_
      refine o_p (p_pickt rfl rfl hg1 rfl) rfl ?_
      refine o_nil ?_
      exact s_joinN 4 9 _ rfl rfl rfl (fun w h => by first | exact h | exact h.ent aEt))
    (by
      intro hg3
      have hs4 := hg3; try simp only [decide_eq_true_eq, decide_eq_false_iff_not, Bool.not_eq_true', Bool.not_eq_false', Bool.and_eq_true, Bool.or_eq_true, Bool.and_eq_false_iff, Bool.or_eq_false_iff, Bool.not_true, Bool.not_false] at hs4
      refine o_off 5 _ rfl rfl hg3 rfl ?_
      refine o_off 5 _ rfl rfl hg3 rfl ?_
      refine o_off 5 _ rfl rfl hg3 rfl ?_
      refine o_p (p_pickf rfl rfl hg3 rfl) rfl ?_
      refine o_nil ?_
      exact s_joinN 4 9 _ rfl rfl rfl (fun w h => by first | exact h | exact h.ent aEt)) ?_
  refine oP ?_
  refine o_and 3 10 13 _ _ rfl
    (by
      intro hg5
      have hs6 := hg5; try simp only [decide_eq_true_eq, decide_eq_false_iff_not, Bool.not_eq_true', Bool.not_eq_false', Bool.and_eq_true, Bool.or_eq_true, Bool.and_eq_false_iff, Bool.or_eq_false_iff, Bool.not_true, Bool.not_false] at hs6
      refine o_on 10 _ rfl rfl hg5 ?_
      refine oP ?_
      refine o_on 10 _ rfl rfl hg5 ?_
      refine o_q (q_call rfl fn_80 rfl (fun w1 h1 => c80 w1 s 82 #[] legalB hm (by kernel_rfl) (fun k w2 hk h2 => c82 w2 _))) rfl ?_
      refine o_p (p_pickt rfl rfl hg5 rfl) rfl ?_
      refine o_nil ?_
      exact s_joinN 3 13 _ rfl rfl rfl (fun w h => by first | exact h | exact h.ent aEt))
    (by
      intro hg7
      have hs8 := hg7; try simp only [decide_eq_true_eq, decide_eq_false_iff_not, Bool.not_eq_true', Bool.not_eq_false', Bool.and_eq_true, Bool.or_eq_true, Bool.and_eq_false_iff, Bool.or_eq_false_iff, Bool.not_true, Bool.not_false] at hs8
      refine o_off 10 _ rfl rfl hg7 rfl ?_
      refine o_off 10 _ rfl rfl hg7 rfl ?_
      refine o_p (p_pickf rfl rfl hg7 rfl) rfl ?_
      refine o_nil ?_
      exact s_joinN 3 13 _ rfl rfl rfl (fun w h => by first | exact h | exact h.ent aEt)) ?_
  refine oP ?_
  refine o_and 3 14 17 _ _ rfl
    (by
      intro hg9
      have hs10 := hg9; try simp only [decide_eq_true_eq, decide_eq_false_iff_not, Bool.not_eq_true', Bool.not_eq_false', Bool.and_eq_true, Bool.or_eq_true, Bool.and_eq_false_iff, Bool.or_eq_false_iff, Bool.not_true, Bool.not_false] at hs10
      refine o_on 14 _ rfl rfl hg9 ?_
      refine oP ?_
      refine o_on 14 _ rfl rfl hg9 ?_
      refine oP ?_
      refine o_p (p_pickt rfl rfl hg9 rfl) rfl ?_
      refine o_nil ?_
      exact s_joinN 3 17 _ rfl rfl rfl (fun w h => by first | exact h | exact h.ent aEt))
    (by
      intro hg11
      have hs12 := hg11; try simp only [decide_eq_true_eq, decide_eq_false_iff_not, Bool.not_eq_true', Bool.not_eq_false', Bool.and_eq_true, Bool.or_eq_true, Bool.and_eq_false_iff, Bool.or_eq_false_iff, Bool.not_true, Bool.not_false] at hs12
      refine o_off 14 _ rfl rfl hg11 rfl ?_
      refine o_off 14 _ rfl rfl hg11 rfl ?_
      refine o_p (p_pickf rfl rfl hg11 rfl) rfl ?_
      refine o_nil ?_
      exact s_joinN 3 17 _ rfl rfl rfl (fun w h => by first | exact h | exact h.ent aEt)) ?_
  refine oP ?_
  refine o_and 4 18 22 _ _ rfl
    (by
      intro hg13
      have hs14 := hg13; try simp only [decide_eq_true_eq, decide_eq_false_iff_not, Bool.not_eq_true', Bool.not_eq_false', Bool.and_eq_true, Bool.or_eq_true, Bool.and_eq_false_iff, Bool.or_eq_false_iff, Bool.not_true, Bool.not_false] at hs14
      refine o_on 18 _ rfl rfl hg13 ?_
      refine oP ?_
      refine o_on 18 _ rfl rfl hg13 ?_
      refine o_q (q_call rfl fn_91 rfl (fun w1 h1 => hs91 w1 s [32] (by omega))) rfl ?_
      refine o_on 18 _ rfl rfl hg13 ?_
      refine oP ?_
      refine o_p (p_pickt rfl rfl hg13 rfl) rfl ?_
      refine o_nil ?_
      exact s_joinN 4 22 _ rfl rfl rfl (fun w h => by first | exact h | exact h.ent aEt))
    (by
      intro hg15
      have hs16 := hg15; try simp only [decide_eq_true_eq, decide_eq_false_iff_not, Bool.not_eq_true', Bool.not_eq_false', Bool.and_eq_true, Bool.or_eq_true, Bool.and_eq_false_iff, Bool.or_eq_false_iff, Bool.not_true, Bool.not_false] at hs16
      refine o_off 18 _ rfl rfl hg15 rfl ?_
      refine o_off 18 _ rfl rfl hg15 rfl ?_
      refine o_off 18 _ rfl rfl hg15 rfl ?_
      refine o_p (p_pickf rfl rfl hg15 rfl) rfl ?_
      refine o_nil ?_
      exact s_joinN 4 22 _ rfl rfl rfl (fun w h => by first | exact h | exact h.ent aEt)) ?_
  refine oP ?_
  refine o_and 4 23 27 _ _ rfl
    (by
      intro hg17
      have hs18 := hg17; try simp only [decide_eq_true_eq, decide_eq_false_iff_not, Bool.not_eq_true', Bool.not_eq_false', Bool.and_eq_true, Bool.or_eq_true, Bool.and_eq_false_iff, Bool.or_eq_false_iff, Bool.not_true, Bool.not_false] at hs18
      refine o_on 23 _ rfl rfl hg17 ?_
      refine oP ?_
      refine o_on 23 _ rfl rfl hg17 ?_
      refine o_q (q_call rfl fn_91 rfl (fun w1 h1 => hs91 w1 s [46] (by omega))) rfl ?_
      refine o_on 23 _ rfl rfl hg17 ?_
      refine oP ?_
      refine o_p (p_pickt rfl rfl hg17 rfl) rfl ?_
      refine o_nil ?_
      exact s_joinN 4 27 _ rfl rfl rfl (fun w h => by first | exact h | exact h.ent aEt))
    (by
      intro hg19
      have hs20 := hg19; try simp only [decide_eq_true_eq, decide_eq_false_iff_not, Bool.not_eq_true', Bool.not_eq_false', Bool.and_eq_true, Bool.or_eq_true, Bool.and_eq_false_iff, Bool.or_eq_false_iff, Bool.not_true, Bool.not_false] at hs20
      refine o_off 23 _ rfl rfl hg19 rfl ?_
      refine o_off 23 _ rfl rfl hg19 rfl ?_
      refine o_off 23 _ rfl rfl hg19 rfl ?_
      refine o_p (p_pickf rfl rfl hg19 rfl) rfl ?_
      refine o_nil ?_
      exact s_joinN 4 27 _ rfl rfl rfl (fun w h => by first | exact h | exact h.ent aEt)) ?_
  refine oP ?_
  refine o_nil ?_
  exact s_retv (rs := [.tmp 2]) rfl (.tmp rfl (.nil)) (fun w' h' => ⟨by simp only [retV, legalS, e1], h'.below⟩)

set_option maxRecDepth 20000 in
theorem c36 (w : World) (s : List UInt8) (hm : s.length ≤ 1000000) : Calls Tryd.prog 36 #[.string (bs s)] w fun en w' => en = .returned (.int .i64 (nameE s)) ∧ Below w.heap.size w w' := by
  have e1 : ((s.length : Int) ≤ 32) ↔ s.length ≤ 32 := by omega
  refine enter (args := [_]) Tryd.func36 Tryd.ntmps36 rfl rfl (HS.refl w []) ?_
  refine s_seq ?_
  refine s_region ?_
  refine oP ?_
  refine o_nil ?_
  refine s_seq ?_
  refine s_region ?_
  refine oP ?_
  refine o_p (p_len_str rfl rfl Tryd.underlying9) rfl ?_
  refine oP ?_
  refine o_q (q_call rfl fn_61 rfl (fun w1 h1 => c61 w1 _ _)) rfl ?_
  refine oP ?_
  refine o_q (q_call rfl fn_73 rfl (fun w1 h1 => c73 w1 s hm)) rfl ?_
  refine o_q (q_call rfl fn_61 rfl (fun w1 h1 => c61 w1 _ _)) rfl ?_
  refine o_h (h_buildSlice (cs := [_, _]) rfl rfl sl_99 zr_25 rfl rfl rfl) rfl (fun b1 _ => ?_)
  refine o_q (q_call rfl fn_51 rfl (fun w1 h1 => f51 h1 aPk (by rfl) (by rfl) (by decide))) rfl ?_
  refine oP ?_
  refine o_nil ?_
  exact s_retv (rs := [.tmp 2]) rfl (.tmp rfl (.nil)) (fun w' h' => ⟨by rw [← nameE_v]; simp only [retV, e1], h'.below⟩)

set_option maxRecDepth 20000 in
theorem c81 (w : World) (c : UInt8) : Calls Tryd.prog 81 #[.int .u8 (c.toNat : Int)] w fun en w' => en = .returned (.bool (patB c)) ∧ Below w.heap.size w w' := by
  have e1 : ((c.toNat : Int) = 63) ↔ c = 63 := ⟨fun h => UInt8.toNat_inj.1 (by show c.toNat = 63; omega), fun h => by rw [h]; rfl⟩
  have e2 : ((c.toNat : Int) = 42) ↔ c = 42 := ⟨fun h => UInt8.toNat_inj.1 (by show c.toNat = 42; omega), fun h => by rw [h]; rfl⟩
  refine enter (args := [_]) Tryd.func81 Tryd.ntmps81 rfl rfl (HS.refl w []) ?_
  refine s_seq ?_
  refine s_region ?_
  refine oP ?_
  refine o_nil ?_
  refine s_seq ?_
  refine s_region ?_
  refine oP ?_
  refine oP ?_
  refine oP ?_
  refine o_or 3 5 8 _ _ rfl
    (by
      intro hg1
      have hs2 := hg1; try simp only [decide_eq_true_eq, decide_eq_false_iff_not, Bool.not_eq_true', Bool.not_eq_false', Bool.and_eq_true, Bool.or_eq_true, Bool.and_eq_false_iff, Bool.or_eq_false_iff, Bool.not_true, Bool.not_false] at hs2
      refine o_on 5 _ rfl rfl hg1 ?_
      refine oP ?_
      refine o_on 5 _ rfl rfl hg1 ?_
      refine oP ?_
      refine o_p (p_pickf rfl rfl hg1 rfl) rfl ?_
      refine o_nil ?_
      exact s_joinN 3 8 _ rfl rfl rfl (fun w h => by first | exact h | exact h.ent aEt))
    (by
      intro hg3
      have hs4 := hg3; try simp only [decide_eq_true_eq, decide_eq_false_iff_not, Bool.not_eq_true', Bool.not_eq_false', Bool.and_eq_true, Bool.or_eq_true, Bool.and_eq_false_iff, Bool.or_eq_false_iff, Bool.not_true, Bool.not_false] at hs4
      refine o_off 5 _ rfl rfl hg3 rfl ?_
      refine o_off 5 _ rfl rfl hg3 rfl ?_
      refine o_p (p_pickt rfl rfl hg3 rfl) rfl ?_
      refine o_nil ?_
      exact s_joinN 3 8 _ rfl rfl rfl (fun w h => by first | exact h | exact h.ent aEt)) ?_
  refine oP ?_
  refine o_or 3 9 12 _ _ rfl
    (by
      intro hg5
      have hs6 := hg5; try simp only [decide_eq_true_eq, decide_eq_false_iff_not, Bool.not_eq_true', Bool.not_eq_false', Bool.and_eq_true, Bool.or_eq_true, Bool.and_eq_false_iff, Bool.or_eq_false_iff, Bool.not_true, Bool.not_false] at hs6
      refine o_on 9 _ rfl rfl hg5 ?_
      refine oP ?_
      refine o_on 9 _ rfl rfl hg5 ?_
      refine o_q (q_call rfl fn_82 rfl (fun w1 h1 => c82 w1 c)) rfl ?_
      refine o_p (p_pickf rfl rfl hg5 rfl) rfl ?_
      refine o_nil ?_
      exact s_joinN 3 12 _ rfl rfl rfl (fun w h => by first | exact h | exact h.ent aEt))
    (by
      intro hg7
      have hs8 := hg7; try simp only [decide_eq_true_eq, decide_eq_false_iff_not, Bool.not_eq_true', Bool.not_eq_false', Bool.and_eq_true, Bool.or_eq_true, Bool.and_eq_false_iff, Bool.or_eq_false_iff, Bool.not_true, Bool.not_false] at hs8
      refine o_off 9 _ rfl rfl hg7 rfl ?_
      refine o_off 9 _ rfl rfl hg7 rfl ?_
      refine o_p (p_pickt rfl rfl hg7 rfl) rfl ?_
      refine o_nil ?_
      exact s_joinN 3 12 _ rfl rfl rfl (fun w h => by first | exact h | exact h.ent aEt)) ?_
  refine oP ?_
  refine o_nil ?_
  exact s_retv (rs := [.tmp 2]) rfl (.tmp rfl (.nil)) (fun w' h' => ⟨by simp only [retV, patB, e1, e2], h'.below⟩)

set_option maxRecDepth 20000 in
theorem c52 (w : World) (s : List UInt8) (hm : s.length ≤ 1000000) : Calls Tryd.prog 52 #[.string (bs s)] w fun en w' => en = .returned (.int .i64 (patE s)) ∧ Below w.heap.size w w' := by
  have e1 : ((s.length : Int) ≤ 64) ↔ s.length ≤ 64 := by omega
  refine enter (args := [_]) Tryd.func52 Tryd.ntmps52 rfl rfl (HS.refl w []) ?_
  refine s_seq ?_
  refine s_region ?_
  refine oP ?_
  refine o_nil ?_
  refine s_seq ?_
  refine s_region ?_
  refine oP ?_
  refine o_q (q_call rfl fn_80 rfl (fun w1 h1 => c80 w1 s 81 #[] patB hm (by kernel_rfl) (fun k w2 hk h2 => c81 w2 _))) rfl ?_
  refine oP ?_
  refine o_nil ?_
  refine s_seq ?_
  refine s_region ?_
  refine oP ?_
  refine o_p (p_len_str rfl rfl Tryd.underlying9) rfl ?_
  refine oP ?_
  refine o_q (q_call rfl fn_61 rfl (fun w1 h1 => c61 w1 _ _)) rfl ?_
  refine oP ?_
  refine oP ?_
  refine oP ?_
  refine o_and 2 12 14 _ _ rfl
    (by
      intro hg1
      have hs2 := hg1; try simp only [decide_eq_true_eq, decide_eq_false_iff_not, Bool.not_eq_true', Bool.not_eq_false', Bool.and_eq_true, Bool.or_eq_true, Bool.and_eq_false_iff, Bool.or_eq_false_iff, Bool.not_true, Bool.not_false] at hs2
      refine o_on 12 _ rfl rfl hg1 ?_
      refine oP ?_
      refine o_p (p_pickt rfl rfl hg1 rfl) rfl ?_
      refine o_nil ?_
      exact s_joinN 2 14 _ rfl rfl rfl (fun w h => by first | exact h | exact h.ent aEt))
    (by
      intro hg3
      have hs4 := hg3; try simp only [decide_eq_true_eq, decide_eq_false_iff_not, Bool.not_eq_true', Bool.not_eq_false', Bool.and_eq_true, Bool.or_eq_true, Bool.and_eq_false_iff, Bool.or_eq_false_iff, Bool.not_true, Bool.not_false] at hs4
      refine o_off 12 _ rfl rfl hg3 rfl ?_
      refine o_p (p_pickf rfl rfl hg3 rfl) rfl ?_
      refine o_nil ?_
      exact s_joinN 2 14 _ rfl rfl rfl (fun w h => by first | exact h | exact h.ent aEt)) ?_
  refine o_q (q_call rfl fn_61 rfl (fun w1 h1 => c61 w1 _ _)) rfl ?_
  refine o_h (h_buildSlice (cs := [_, _]) rfl rfl sl_99 zr_25 rfl rfl rfl) rfl (fun b5 _ => ?_)
  refine o_q (q_call rfl fn_51 rfl (fun w1 h1 => f51 h1 aPk (by rfl) (by rfl) (by decide))) rfl ?_
  refine oP ?_
  refine o_nil ?_
  exact s_retv (rs := [.tmp 2]) rfl (.tmp rfl (.nil)) (fun w' h' => ⟨by simp only [retV, e1]; rw [firstV2]; unfold patE; by_cases h : s.length ≤ 64 <;> simp [h, cond_eq_ite], h'.below⟩)

set_option maxRecDepth 20000 in
theorem c32 (w : World) (t : List UInt8) (hm : t.length ≤ 1000000) : Calls Tryd.prog 32 #[.string (bs t)] w fun en w' => en = .returned (.tuple #[.int .i64 (chkTab t).1, .int .i64 (chkTab t).2]) ∧ Below w.heap.size w w' := by
  refine enter (args := [_]) Tryd.func32 Tryd.ntmps32 rfl rfl (HS.refl w []) ?_
  refine s_seq ?_
  refine s_region ?_
  refine o_h (h_box rfl rfl) rfl (fun b1 _ => ?_)
  refine oP ?_
  refine oP ?_
  refine o_nil ?_
  refine s_seq ?_
  refine s_seq ?_
  refine s_region ?_
  refine o_q (q_load rfl rfl sz_9 aPk rfl) rfl ?_
  refine o_p (p_len_str rfl rfl Tryd.underlying9) rfl ?_
  refine oP ?_
  refine o_nil ?_
  refine s_cond rfl (fun h2 => ?_) (fun h2 => ?_)
  · try simp only [decide_eq_true_eq, decide_eq_false_iff_not, Bool.not_eq_true', Bool.not_eq_false', Bool.and_eq_true, Bool.or_eq_true, Bool.and_eq_false_iff, Bool.or_eq_false_iff, Bool.not_true, Bool.not_false] at h2
    have hl : ¬ t.length = 128 := by have hq := h2; omega
    refine s_seq ?_
    refine s_region ?_
    refine oP ?_
    refine oP ?_
    refine o_nil ?_
    exact s_retv (rs := [.tmp 2, .tmp 3]) rfl (.tmp rfl (.tmp rfl (.nil))) (fun w' h' => ⟨by rw [chkTab, if_neg hl]; rfl, h'.below⟩)
  · try simp only [decide_eq_true_eq, decide_eq_false_iff_not, Bool.not_eq_true', Bool.not_eq_false', Bool.and_eq_true, Bool.or_eq_true, Bool.and_eq_false_iff, Bool.or_eq_false_iff, Bool.not_true, Bool.not_false] at h2
    have hl : t.length = 128 := by have hq := h2; omega
    refine s_skip ?_
    refine s_seq ?_
    refine s_seq ?_
    refine s_region ?_
    refine o_q (q_load rfl rfl sz_9 aPk rfl) rfl ?_
    refine o_h (h_bytes rfl rfl Tryd.underlying9 Tryd.underlying92 Tryd.underlying5 rfl (by simp only [maxLen]; omega)) rfl (fun ⟨b3, c4⟩ ⟨h5, k6⟩ => ?_)
    refine o_q (q_call rfl fn_68 rfl (fun w1 h1 => c68 w1 _ _ t 69 #[] (t.map rngB) (h1.vl_blk aPk) hm (by kernel_rfl) (by simp) (fun k w2 hk h2 => by rw [getD_map (d := 0) hk]; exact c69 w2 _))) rfl ?_
    refine oP ?_
    refine oP ?_
    refine oP ?_
    refine oP ?_
    refine oP ?_
    refine o_nil ?_
    refine s_seq ?_
    refine s_region ?_
    refine oP ?_
    refine oP ?_
    refine o_nil ?_
    refine s_cond rfl (fun h7 => ?_) (fun h7 => ?_)
    · try simp only [decide_eq_true_eq, decide_eq_false_iff_not, Bool.not_eq_true', Bool.not_eq_false', Bool.and_eq_true, Bool.or_eq_true, Bool.and_eq_false_iff, Bool.or_eq_false_iff, Bool.not_true, Bool.not_false] at h7
      have h0 : ¬ (eachF (t.map rngB) 0).2 = 0 := h7
      refine s_seq ?_
      refine s_region ?_
      refine oP ?_
      refine oP ?_
      refine oP ?_
      refine oP ?_
      refine o_nil ?_
      exact s_retv (rs := [.tmp 2, .tmp 3]) rfl (.tmp rfl (.tmp rfl (.nil))) (fun w' h' => ⟨by rw [chkTab, if_pos hl, if_neg h0]; rfl, h'.below⟩)
    · try simp only [decide_eq_true_eq, decide_eq_false_iff_not, Bool.not_eq_true', Bool.not_eq_false', Bool.and_eq_true, Bool.or_eq_true, Bool.and_eq_false_iff, Bool.or_eq_false_iff, Bool.not_true, Bool.not_false] at h7
      have h0 : (eachF (t.map rngB) 0).2 = 0 := h7
      refine s_skip ?_
      refine s_seq ?_
      refine s_region ?_
      refine o_q (q_load rfl rfl sz_9 aPk rfl) rfl ?_
      refine o_h (h_bytes rfl rfl Tryd.underlying9 Tryd.underlying92 Tryd.underlying5 rfl (by simp only [maxLen]; omega)) rfl (fun ⟨b8, c9⟩ ⟨h10, k11⟩ => ?_)
      refine oP ?_
      refine o_q (q_call rfl fn_68 rfl (fun w1 h1 => c68 w1 _ _ t 70 #[.pointer (some ⟨b1, 0, none⟩)] (t.map (frmB t)) (h1.vl_blk aPk) hm (by kernel_rfl) (by simp) (fun k w2 hk h2 => by rw [getD_map (d := 0) hk]; exact c70 w2 b1 t _ ((h1.rd_blk (Mc := []) (b := b1) aPk rfl (by simp)).next h2) (by have h9 := eachF_0.1 h0 _ (List.mem_map.2 ⟨_, getD_mem (d := 0) hk, rfl⟩); unfold rngB at h9; split at h9; (rw [hl]; assumption); (exact absurd h9 (by decide)))))) rfl ?_
      refine oP ?_
      refine oP ?_
      refine oP ?_
      refine oP ?_
      refine o_nil ?_
      exact s_retv (rs := [.tmp 2, .tmp 3]) rfl (.tmp rfl (.tmp rfl (.nil))) (fun w' h' => ⟨by rw [chkTab, if_pos hl, if_pos h0]; rfl, h'.below⟩)

set_option maxRecDepth 20000 in
theorem c50 (w : World) (t : List UInt8) (hm : t.length ≤ 1000000) : Calls Tryd.prog 50 #[.string (bs t)] w fun en w' => en = .returned (.tuple #[.string (bs t), .int .i64 (chkTab t).2]) ∧ Below w.heap.size w w' := by
  refine enter (args := [_]) Tryd.func50 Tryd.ntmps50 rfl rfl (HS.refl w []) ?_
  refine s_seq ?_
  refine s_region ?_
  refine oP ?_
  refine oP ?_
  refine o_nil ?_
  refine s_seq ?_
  refine s_region ?_
  refine oP ?_
  refine o_q (q_call rfl fn_32 rfl (fun w1 h1 => c32 w1 t hm)) rfl ?_
  refine oP ?_
  refine oP ?_
  refine oP ?_
  refine oP ?_
  refine oP ?_
  refine o_nil ?_
  refine s_seq ?_
  refine s_region ?_
  refine oP ?_
  refine oP ?_
  refine oP ?_
  refine oP ?_
  refine o_nil ?_
  exact s_retv (rs := [.tmp 2, .tmp 3]) rfl (.tmp rfl (.tmp rfl (.nil))) (fun w' h' => ⟨rfl, h'.below⟩)

set_option maxRecDepth 20000 in
theorem c54 (w : World) (a : Option Addr) (cap : Nat) (l : List (List UInt8)) (hs : Vl w a (l.map strV)) (hl : l.length ≤ 1000000) (hml : ∀ s ∈ l, s.length ≤ 1000000) : Calls Tryd.prog 54 #[.slice a l.length cap] w fun en w' => en = .returned (.int .i64 (namesE l)) ∧ Below w.heap.size w w' := by
  have e1 : ((l.length : Int) ≤ 200) ↔ l.length ≤ 200 := by omega
  refine enter (args := [_]) Tryd.func54 Tryd.ntmps54 rfl rfl (HS.refl w []) ?_
  refine s_seq ?_
  refine s_region ?_
  refine oP ?_
  refine o_nil ?_
  refine s_seq ?_
  refine s_region ?_
  refine oP ?_
  refine o_q (q_call rfl fn_83 rfl (fun w1 h1 => c83 w1 a cap l 36 #[] (l.map nameE) (hs.later h1) (by omega) (by kernel_rfl) (by simp) (fun k w2 hk h2 => by rw [getD_map (d := []) hk]; exact c36 w2 _ (hml _ (getD_mem hk))))) rfl ?_
  refine oP ?_
  refine oP ?_
  refine oP ?_
  refine oP ?_
  refine oP ?_
  refine o_nil ?_
  refine s_seq ?_
  refine s_region ?_
  refine oP ?_
  refine o_p (p_len_slice rfl rfl Tryd.underlying29) rfl ?_
  refine oP ?_
  refine o_q (q_call rfl fn_61 rfl (fun w1 h1 => c61 w1 _ _)) rfl ?_
  refine oP ?_
  refine o_h (h_buildSlice (cs := [_, _]) rfl rfl sl_99 zr_25 rfl rfl rfl) rfl (fun b1 _ => ?_)
  refine o_q (q_call rfl fn_51 rfl (fun w1 h1 => f51 h1 aPk (by rfl) (by rfl) (by decide))) rfl ?_
  refine oP ?_
  refine o_nil ?_
  exact s_retv (rs := [.tmp 2]) rfl (.tmp rfl (.nil)) (fun w' h' => ⟨by simp only [retV, e1]; rw [firstV2, eachF_first]; unfold namesE; by_cases h : l.length ≤ 200 <;> simp [h], h'.below⟩)

set_option maxRecDepth 20000 in
theorem c59 (w : World) (t : List UInt8) (a : Option Addr) (cap : Nat) (l : List (List UInt8)) (hm : t.length ≤ 1000000) (hs : Vl w a (l.map strV)) (hl : l.length ≤ 1000000) (hml : ∀ s ∈ l, s.length ≤ 1000000) : Calls Tryd.prog 59 #[.string (bs t), .slice a l.length cap] w fun en w' => en = .returned (.tuple #[.string (bs t), .int .i64 (openE t l)]) ∧ Below w.heap.size w w' := by
  refine enter (args := [_, _]) Tryd.func59 Tryd.ntmps59 rfl rfl (HS.refl w []) ?_
  refine s_seq ?_
  refine s_region ?_
  refine oP ?_
  refine oP ?_
  refine o_nil ?_
  refine s_seq ?_
  refine s_region ?_
  refine oP ?_
  refine o_q (q_call rfl fn_50 rfl (fun w1 h1 => c50 w1 t hm)) rfl ?_
  refine oP ?_
  refine oP ?_
  refine oP ?_
  refine oP ?_
  refine oP ?_
  refine o_nil ?_
  refine s_seq ?_
  refine s_region ?_
  refine oP ?_
  refine o_q (q_call rfl fn_83 rfl (fun w1 h1 => c83 w1 a cap l 36 #[] (l.map nameE) (hs.later h1) (by omega) (by kernel_rfl) (by simp) (fun k w2 hk h2 => by rw [getD_map (d := []) hk]; exact c36 w2 _ (hml _ (getD_mem hk))))) rfl ?_
  refine oP ?_
  refine oP ?_
  refine oP ?_
  refine oP ?_
  refine oP ?_
  refine o_nil ?_
  refine s_seq ?_
  refine s_region ?_
  refine oP ?_
  refine oP ?_
  refine oP ?_
  refine o_h (h_buildSlice (cs := [_, _]) rfl rfl sl_99 zr_25 rfl rfl rfl) rfl (fun b1 _ => ?_)
  refine o_q (q_call rfl fn_51 rfl (fun w1 h1 => f51 h1 aPk (by rfl) (by rfl) (by decide))) rfl ?_
  refine oP ?_
  refine oP ?_
  refine o_nil ?_
  exact s_retv (rs := [.tmp 4, .tmp 5]) rfl (.tmp rfl (.tmp rfl (.nil))) (fun w' h' => ⟨by simp only [retV]; rw [firstV2, eachF_first]; rfl, h'.below⟩)

set_option maxRecDepth 20000 in
theorem c64 (w : World) (t : List UInt8) (a : Option Addr) (cap : Nat) (l : List (List UInt8)) (hm : t.length ≤ 1000000) (hs : Vl w a (l.map strV)) (hl : l.length ≤ 1000000) (hml : ∀ s ∈ l, s.length ≤ 1000000) : Calls Tryd.prog 64 #[.string (bs t), .slice a l.length cap] w fun en w' => en = .returned (.tuple #[.string (bs t), .int .i64 (openL t l)]) ∧ Below w.heap.size w w' := by
  refine enter (args := [_, _]) Tryd.func64 Tryd.ntmps64 rfl rfl (HS.refl w []) ?_
  refine s_seq ?_
  refine s_region ?_
  refine oP ?_
  refine oP ?_
  refine o_nil ?_
  refine s_seq ?_
  refine s_region ?_
  refine oP ?_
  refine o_q (q_call rfl fn_50 rfl (fun w1 h1 => c50 w1 t hm)) rfl ?_
  refine oP ?_
  refine oP ?_
  refine oP ?_
  refine oP ?_
  refine oP ?_
  refine o_nil ?_
  refine s_seq ?_
  refine s_region ?_
  refine oP ?_
  refine oP ?_
  refine oP ?_
  refine o_q (q_call rfl fn_54 rfl (fun w1 h1 => c54 w1 a cap l (hs.later h1) hl hml)) rfl ?_
  refine o_h (h_buildSlice (cs := [_, _]) rfl rfl sl_99 zr_25 rfl rfl rfl) rfl (fun b1 _ => ?_)
  refine o_q (q_call rfl fn_51 rfl (fun w1 h1 => f51 h1 aPk (by rfl) (by rfl) (by decide))) rfl ?_
  refine oP ?_
  refine oP ?_
  refine o_nil ?_
  exact s_retv (rs := [.tmp 4, .tmp 5]) rfl (.tmp rfl (.tmp rfl (.nil))) (fun w' h' => ⟨by simp only [retV]; rw [firstV2]; rfl, h'.below⟩)

end Go.Proofs

/- Chapter 5, plain: whether a string has a byte beyond the table, as Go's runes see it. No program here. -/
namespace Go.Proofs
open Go Go.RowKit Gx
set_option linter.unusedVariables false
set_option linter.unusedSimpArgs false
def hiR (r : Nat) : Bool := decide (128 ≤ r)
def hiB (s : List UInt8) : Bool := s.any fun c => decide (128 ≤ c.toNat)
theorem bs_size (s : List UInt8) : (bs s).size = s.length := by simp [bs, ByteArray.size]
end Go.Proofs

namespace Go.Proofs
open Go Go.RowKit Gx
set_option linter.unusedVariables false
set_option linter.unusedSimpArgs false
attribute [local irreducible] Go.Calls Gx.S Gx.O Gx.D Gx.OpP Gx.OpQ Gx.OpH

theorem sl_31 : tsl Tryd.prog 31 = some (3, 1, 8) := by kernel_rfl
theorem sz_3 : tsz Tryd.prog 3 = some (1, false) := by kernel_rfl
theorem fn_93 : isFn Tryd.prog 93 = true := by kernel_rfl
theorem zr_3 : tzero Tryd.prog 3 = some [.int .i64 0] := by kernel_rfl
theorem fn_92 : isFn Tryd.prog 92 = true := by kernel_rfl
theorem zr_9 : tzero Tryd.prog 9 = some [.string (bs [])] := by kernel_rfl
theorem fn_59 : isFn Tryd.prog 59 = true := by kernel_rfl
theorem fn_74 : isFn Tryd.prog 74 = true := by kernel_rfl


theorem openE_ok {t : List UInt8} {l : List (List UInt8)} (h : openE t l = 0) : (chkTab t).2 = 0 ∧ ∀ s ∈ l, nameE s = 0 := by
  unfold openE at h
  split at h
  · rename_i h1
    exact ⟨h1, fun s hs => firstI_0.1 h _ (List.mem_map.2 ⟨s, hs, rfl⟩)⟩
  · rename_i h1; exact absurd h h1
def uppE (t s : List UInt8) : Int := if (chkTab t).2 = 0 then if s.length ≤ 200000 then if hiB s = true then 2 else 0 else 8 else (chkTab t).2
def hStep (h : Int) (c : UInt8) : Int := (h * 37 + (c.toNat : Int)) % 65536
theorem hash_b (u : List UInt8) : 0 ≤ u.foldl hStep 0 ∧ u.foldl hStep 0 < 65536 := by
  suffices h : ∀ (u : List UInt8) (x : Int), 0 ≤ x ∧ x < 65536 → 0 ≤ u.foldl hStep x ∧ u.foldl hStep x < 65536 from h u 0 (by omega)
  intro u
  induction u with
  | nil => exact fun x h => h
  | cons c u ih => exact fun x h => ih _ (by unfold hStep; omega)
theorem hash_succ {u : List UInt8} {k : Nat} (h : k < u.length) : (u.take (k + 1)).foldl hStep 0 = hStep ((u.take k).foldl hStep 0) (u.getD k 0) := by
  rw [take_succ_getD (d := 0) h, List.foldl_append]
  rfl
set_option maxRecDepth 20000 in
theorem c92 (w : World) (a : Option Addr) (cap : Nat) (es : List Int) (hs : Sl w [] a 1 es.length (fun i => [.int .i64 (es.getD i 0)])) (hm : es.length ≤ 1000) : Calls Tryd.prog 92 #[.slice a es.length cap] w fun en w' => en = .returned (.int .i64 (firstI es)) ∧ Below w.heap.size w w' := by
  refine enter (args := [_]) Tryd.func92 Tryd.ntmps92 rfl rfl (HS.refl w []) ?_
  refine s_seq ?_
  refine s_region ?_
  refine oP ?_
  refine o_nil ?_
  refine s_seq ?_
  refine s_region ?_
  refine oP ?_
  refine o_nil ?_
  refine s_seq ?_
  refine s_seq ?_
  refine s_region ?_
  refine oP ?_
  refine o_p (p_len_slice rfl rfl Tryd.underlying31) rfl ?_
  refine oP ?_
  refine o_nil ?_
  refine s_block ?_
  refine s_loopI (α := Nat) [2, 5, 8, 9, 10, 11, 12, 13, 14, 15, 16] (fun k => [(8, .int .i64 (k : Int))]) (fun _ => _) (fun k => k ≤ es.length ∧ firstI es = firstI (es.drop k)) (fun k => es.length - k) 0 ⟨by omega, rfl⟩ aSx (fun w h => h) (fun k hk => ?_)
  obtain ⟨hk1, hk2⟩ := hk
  refine s_seq ?_
  refine s_region ?_
  refine oP ?_
  refine o_nil ?_
  refine s_seq ?_
  refine s_cond rfl (fun h1 => ?_) (fun h1 => ?_)
  · try simp only [decide_eq_true_eq, decide_eq_false_iff_not, Bool.not_eq_true', Bool.not_eq_false', Bool.and_eq_true, Bool.or_eq_true, Bool.and_eq_false_iff, Bool.or_eq_false_iff, Bool.not_true, Bool.not_false] at h1
    refine s_skip ?_
    refine s_seq ?_
    refine s_block ?_
    refine s_seq ?_
    refine s_region ?_
    refine o_p (p_indexAddr rfl rfl rfl sl_31 _ rfl (by omega) (hs.some (by omega))) rfl ?_
    refine o_q (q_load_old rfl rfl sz_3 (hs.rd (i := k) (j := 0) (by omega) rfl)) rfl ?_
    refine oP ?_
    refine o_nil ?_
    refine s_seq ?_
    refine s_region ?_
    refine oP ?_
    refine oP ?_
    refine oP ?_
    refine o_nil ?_
    refine s_cond rfl (fun h2 => ?_) (fun h2 => ?_)
    · try simp only [decide_eq_true_eq, decide_eq_false_iff_not, Bool.not_eq_true', Bool.not_eq_false', Bool.and_eq_true, Bool.or_eq_true, Bool.and_eq_false_iff, Bool.or_eq_false_iff, Bool.not_true, Bool.not_false] at h2
      refine s_seq ?_
      refine s_region ?_
      refine oP ?_
      refine oP ?_
      refine o_nil ?_
      exact s_retv (rs := [.tmp 2]) rfl (.tmp rfl (.nil)) (fun w' h' => ⟨by simp only [retV]; rw [hk2, firstI_drop (by omega), if_neg (by assumption)], h'.below⟩)
    · try simp only [decide_eq_true_eq, decide_eq_false_iff_not, Bool.not_eq_true', Bool.not_eq_false', Bool.and_eq_true, Bool.or_eq_true, Bool.and_eq_false_iff, Bool.or_eq_false_iff, Bool.not_true, Bool.not_false] at h2
      refine s_skip ?_
      refine s_blk ?_
      refine s_region ?_
      refine oP ?_
      try (refine o_slot (i64w (by omega) (by omega)) ?_)
      refine oP ?_
      refine o_nil ?_
      exact s_backI (k+1) (by omega) ⟨by omega, by rw [hk2, firstI_drop (by omega), if_pos (by assumption)]⟩ aSx (fun w h => h)
  · try simp only [decide_eq_true_eq, decide_eq_false_iff_not, Bool.not_eq_true', Bool.not_eq_false', Bool.and_eq_true, Bool.or_eq_true, Bool.and_eq_false_iff, Bool.or_eq_false_iff, Bool.not_true, Bool.not_false] at h1
    refine s_exit_to rfl ?_
    refine s_seq ?_
    refine s_region ?_
    refine oP ?_
    refine oP ?_
    refine o_nil ?_
    exact s_retv (rs := [.tmp 2]) rfl (.tmp rfl (.nil)) (fun w' h' => ⟨by simp only [retV]; rw [hk2, firstI_end (by omega)], h'.below⟩)

theorem f92 {w0 w : World} {M : List Nat} {As As' : List HA} {b cap n : Nat} {t : TypeId} {tot : Nat} {cs : List Value} (h : HS w0 M As w) (hp : Pick As (.blk b t tot cs) As') (hc : cs.all isI64 = true) (hn : cs.length = n) (hl : n ≤ 1000) :
    Calls Tryd.prog 92 #[.slice (some ⟨b, 0, none⟩) n cap] w fun en w' => en = .returned (.int .i64 (firstV cs)) ∧ Below w.heap.size w w' := by
  subst hn
  have := c92 w (some ⟨b, 0, none⟩) cap (cs.map Go.RowKit.intOf) (by simpa using h.sl_ints hp hc) (by simpa using hl)
  rw [firstV_eq hc] at this
  simpa using this

set_option maxRecDepth 20000 in
theorem c74 (w : World) (t a b : List UInt8) (hl : t.length = 128) (ha : ∀ c ∈ a, c.toNat < 128) (hb : ∀ c ∈ b, c.toNat < 128) (hma : a.length ≤ 1000000) (hmb : b.length ≤ 1000000) : Calls Tryd.prog 74 #[.string (bs t), .string (bs a), .string (bs b)] w fun en w' => en = .returned (.int .i64 (cmpU t a b)) ∧ Below w.heap.size w w' := by
  refine enter (args := [_, _, _]) Tryd.func74 Tryd.ntmps74 rfl rfl (HS.refl w []) ?_
  refine s_seq ?_
  refine s_region ?_
  refine oP ?_
  refine o_nil ?_
  refine s_seq ?_
  refine s_region ?_
  refine oP ?_
  refine oP ?_
  refine o_q (q_call rfl fn_60 rfl (fun w1 h1 => c60 w1 t a hl ha hma)) rfl ?_
  refine oP ?_
  refine oP ?_
  refine o_q (q_call rfl fn_60 rfl (fun w1 h1 => c60 w1 t b hl hb hmb)) rfl ?_
  refine o_q (q_call rfl fn_93 rfl (fun w1 h1 => cp93 w1 (up t a) (up t b))) rfl ?_
  refine oP ?_
  refine oP ?_
  refine o_q (q_call rfl fn_93 rfl (fun w1 h1 => cp93 w1 a b)) rfl ?_
  refine o_h (h_buildSlice (cs := [_, _]) rfl rfl sl_31 zr_3 rfl rfl rfl) rfl (fun b1 _ => ?_)
  refine o_q (q_call rfl fn_92 rfl (fun w1 h1 => f92 h1 aPk (by rfl) (by rfl) (by decide))) rfl ?_
  refine oP ?_
  refine o_nil ?_
  exact s_retv (rs := [.tmp 6]) rfl (.tmp rfl (.nil)) (fun w' h' => ⟨by simp only [retV]; rw [firstV2]; rfl, h'.below⟩)

set_option maxRecDepth 20000 in
theorem c39 (w : World) (t a b : List UInt8) (hmt : t.length ≤ 1000000) (hma : a.length ≤ 1000000) (hmb : b.length ≤ 1000000) : Calls Tryd.prog 39 #[.string (bs t), .string (bs a), .string (bs b)] w fun en w' => en = .returned (.tuple #[.int .i64 (if openE t [a, b] = 0 then cmpU t a b else 0), .int .i64 (openE t [a, b])]) ∧ Below w.heap.size w w' := by
  refine enter (args := [_, _, _]) Tryd.func39 Tryd.ntmps39 rfl rfl (HS.refl w []) ?_
  refine s_seq ?_
  refine s_region ?_
  refine oP ?_
  refine oP ?_
  refine o_nil ?_
  refine s_seq ?_
  refine s_region ?_
  refine oP ?_
  refine oP ?_
  refine oP ?_
  refine o_h (h_buildSlice (cs := [_, _]) rfl rfl sl_29 zr_9 rfl rfl rfl) rfl (fun b1 _ => ?_)
  refine o_q (q_call rfl fn_59 rfl (fun w1 h1 => c59 w1 t _ _ [a, b] hmt (h1.vl_blk aPk) (by simp) (by intro s hs; simp only [List.mem_cons, List.mem_nil_iff, or_false] at hs; rcases hs with rfl | rfl <;> assumption))) rfl ?_
  refine oP ?_
  refine oP ?_
  refine oP ?_
  refine oP ?_
  refine oP ?_
  refine o_nil ?_
  refine s_seq ?_
  refine s_seq ?_
  refine s_region ?_
  refine oP ?_
  refine oP ?_
  refine o_nil ?_
  refine s_cond rfl (fun h2 => ?_) (fun h2 => ?_)
  · try simp only [decide_eq_true_eq, decide_eq_false_iff_not, Bool.not_eq_true', Bool.not_eq_false', Bool.and_eq_true, Bool.or_eq_true, Bool.and_eq_false_iff, Bool.or_eq_false_iff, Bool.not_true, Bool.not_false] at h2
    have h0 : ¬ openE t [a, b] = 0 := h2
    refine s_seq ?_
    refine s_region ?_
    refine oP ?_
    refine oP ?_
    refine oP ?_
    refine o_nil ?_
    exact s_retv (rs := [.tmp 6, .tmp 7]) rfl (.tmp rfl (.tmp rfl (.nil))) (fun w' h' => ⟨by rw [if_neg h0]; rfl, h'.below⟩)
  · try simp only [decide_eq_true_eq, decide_eq_false_iff_not, Bool.not_eq_true', Bool.not_eq_false', Bool.and_eq_true, Bool.or_eq_true, Bool.and_eq_false_iff, Bool.or_eq_false_iff, Bool.not_true, Bool.not_false] at h2
    have h0 : openE t [a, b] = 0 := h2
    have ho := openE_ok h0
    have hx := nameE_lt (ho.2 a (by simp))
    have hy := nameE_lt (ho.2 b (by simp))
    have hl := (chkTab_ok ho.1).1
    refine s_skip ?_
    refine s_seq ?_
    refine s_region ?_
    refine oP ?_
    refine oP ?_
    refine oP ?_
    refine o_q (q_call rfl fn_74 rfl (fun w1 h1 => c74 w1 t a b hl hx hy hma hmb)) rfl ?_
    refine oP ?_
    refine oP ?_
    refine o_nil ?_
    exact s_retv (rs := [.tmp 6, .tmp 7]) rfl (.tmp rfl (.tmp rfl (.nil))) (fun w' h' => ⟨by rw [if_pos h0, h0]; rfl, h'.below⟩)

set_option maxRecDepth 20000 in
theorem c40 (w : World) (t a b : List UInt8) (hmt : t.length ≤ 1000000) (hma : a.length ≤ 1000000) (hmb : b.length ≤ 1000000) : Calls Tryd.prog 40 #[.string (bs t), .string (bs a), .string (bs b)] w fun en w' => en = .returned (.tuple #[.bool (if openE t [a, b] = 0 then sameU t a b else false), .int .i64 (openE t [a, b])]) ∧ Below w.heap.size w w' := by
  refine enter (args := [_, _, _]) Tryd.func40 Tryd.ntmps40 rfl rfl (HS.refl w []) ?_
  refine s_seq ?_
  refine s_region ?_
  refine oP ?_
  refine oP ?_
  refine o_nil ?_
  refine s_seq ?_
  refine s_region ?_
  refine oP ?_
  refine oP ?_
  refine oP ?_
  refine o_h (h_buildSlice (cs := [_, _]) rfl rfl sl_29 zr_9 rfl rfl rfl) rfl (fun b1 _ => ?_)
  refine o_q (q_call rfl fn_59 rfl (fun w1 h1 => c59 w1 t _ _ [a, b] hmt (h1.vl_blk aPk) (by simp) (by intro s hs; simp only [List.mem_cons, List.mem_nil_iff, or_false] at hs; rcases hs with rfl | rfl <;> assumption))) rfl ?_
  refine oP ?_
  refine oP ?_
  refine oP ?_
  refine oP ?_
  refine oP ?_
  refine o_nil ?_
  refine s_seq ?_
  refine s_seq ?_
  refine s_region ?_
  refine oP ?_
  refine oP ?_
  refine o_nil ?_
  refine s_cond rfl (fun h2 => ?_) (fun h2 => ?_)
  · try simp only [decide_eq_true_eq, decide_eq_false_iff_not, Bool.not_eq_true', Bool.not_eq_false', Bool.and_eq_true, Bool.or_eq_true, Bool.and_eq_false_iff, Bool.or_eq_false_iff, Bool.not_true, Bool.not_false] at h2
    have h0 : ¬ openE t [a, b] = 0 := h2
    refine s_seq ?_
    refine s_region ?_
    refine oP ?_
    refine oP ?_
    refine oP ?_
    refine o_nil ?_
    exact s_retv (rs := [.tmp 6, .tmp 7]) rfl (.tmp rfl (.tmp rfl (.nil))) (fun w' h' => ⟨by rw [if_neg h0]; rfl, h'.below⟩)
  · try simp only [decide_eq_true_eq, decide_eq_false_iff_not, Bool.not_eq_true', Bool.not_eq_false', Bool.and_eq_true, Bool.or_eq_true, Bool.and_eq_false_iff, Bool.or_eq_false_iff, Bool.not_true, Bool.not_false] at h2
    have h0 : openE t [a, b] = 0 := h2
    have ho := openE_ok h0
    have hx := nameE_lt (ho.2 a (by simp))
    have hy := nameE_lt (ho.2 b (by simp))
    have hl := (chkTab_ok ho.1).1
    refine s_skip ?_
    refine s_seq ?_
    refine s_region ?_
    refine oP ?_
    refine oP ?_
    refine o_q (q_call rfl fn_60 rfl (fun w1 h1 => c60 w1 t a hl hx hma)) rfl ?_
    refine oP ?_
    refine oP ?_
    refine o_q (q_call rfl fn_60 rfl (fun w1 h1 => c60 w1 t b hl hy hmb)) rfl ?_
    refine oP ?_
    refine oP ?_
    refine oP ?_
    refine o_nil ?_
    exact s_retv (rs := [.tmp 6, .tmp 7]) rfl (.tmp rfl (.tmp rfl (.nil))) (fun w' h' => ⟨by rw [if_pos h0, h0]; rfl, h'.below⟩)

set_option maxRecDepth 20000 in
theorem c42 (w : World) (t s : List UInt8) (hmt : t.length ≤ 1000000) (hm : s.length ≤ 1000000) : Calls Tryd.prog 42 #[.string (bs t), .string (bs s)] w fun en w' => en = .returned (.tuple #[.int .i64 (if openE t [s] = 0 then (up t s).foldl hStep 0 else 0), .int .i64 (openE t [s])]) ∧ Below w.heap.size w w' := by
  refine enter (args := [_, _]) Tryd.func42 Tryd.ntmps42 rfl rfl (HS.refl w []) ?_
  refine s_seq ?_
  refine s_region ?_
  refine oP ?_
  refine oP ?_
  refine o_nil ?_
  refine s_seq ?_
  refine s_region ?_
  refine oP ?_
  refine oP ?_
  refine o_h (h_buildSlice (cs := [_]) rfl rfl sl_29 zr_9 rfl rfl rfl) rfl (fun b1 _ => ?_)
  refine o_q (q_call rfl fn_59 rfl (fun w1 h1 => c59 w1 t _ _ [s] hmt (h1.vl_blk aPk) (by simp) (by intro x hx; simp only [List.mem_cons, List.mem_nil_iff, or_false] at hx; subst hx; assumption))) rfl ?_
  refine oP ?_
  refine oP ?_
  refine oP ?_
  refine oP ?_
  refine oP ?_
  refine o_nil ?_
  refine s_seq ?_
  refine s_seq ?_
  refine s_region ?_
  refine oP ?_
  refine oP ?_
  refine o_nil ?_
  refine s_cond rfl (fun h2 => ?_) (fun h2 => ?_)
  · try simp only [decide_eq_true_eq, decide_eq_false_iff_not, Bool.not_eq_true', Bool.not_eq_false', Bool.and_eq_true, Bool.or_eq_true, Bool.and_eq_false_iff, Bool.or_eq_false_iff, Bool.not_true, Bool.not_false] at h2
    have h0 : ¬ openE t [s] = 0 := h2
    refine s_seq ?_
    refine s_region ?_
    refine oP ?_
    refine oP ?_
    refine oP ?_
    refine o_nil ?_
    exact s_retv (rs := [.tmp 4, .tmp 5]) rfl (.tmp rfl (.tmp rfl (.nil))) (fun w' h' => ⟨by rw [if_neg h0]; rfl, h'.below⟩)
  · try simp only [decide_eq_true_eq, decide_eq_false_iff_not, Bool.not_eq_true', Bool.not_eq_false', Bool.and_eq_true, Bool.or_eq_true, Bool.and_eq_false_iff, Bool.or_eq_false_iff, Bool.not_true, Bool.not_false] at h2
    have h0 : openE t [s] = 0 := h2
    have ho := openE_ok h0
    have hx := nameE_lt (ho.2 s (by simp))
    have hl := (chkTab_ok ho.1).1
    have hul := up_len t s
    refine s_skip ?_
    refine s_seq ?_
    refine s_region ?_
    refine oP ?_
    refine o_nil ?_
    refine s_seq ?_
    refine s_seq ?_
    refine s_region ?_
    refine oP ?_
    refine oP ?_
    refine o_q (q_call rfl fn_60 rfl (fun w1 h1 => c60 w1 t s hl hx hm)) rfl ?_
    refine o_h (h_bytes rfl rfl Tryd.underlying9 Tryd.underlying92 Tryd.underlying5 rfl (by simp only [maxLen]; omega)) rfl (fun ⟨b3, c4⟩ ⟨h5, k6⟩ => ?_)
    refine o_p (p_len_slice rfl rfl Tryd.underlying92) rfl ?_
    refine oP ?_
    refine o_nil ?_
    refine s_block ?_
    refine s_weaken (L' := [(4, _), (5, _), (8, _), (24, _), (25, _), (26, _)]) aSx (fun _ h => h) ?_
    refine s_loopI (α := Nat) [8, 10, 26, 27, 28, 29, 30, 31, 32, 33, 34, 35, 36] (fun k => [(26, .int .i64 (k : Int)), (8, .int .i64 (((up t s).take k).foldl hStep 0))]) (fun _ => _) (fun k => k ≤ (up t s).length) (fun k => (up t s).length - k) 0 (Nat.zero_le _) aSx (fun w h => h) (fun k hk1 => ?_)
    refine s_seq ?_
    refine s_region ?_
    refine oP ?_
    refine o_nil ?_
    refine s_seq ?_
    refine s_cond rfl (fun h7 => ?_) (fun h7 => ?_)
    · try simp only [decide_eq_true_eq, decide_eq_false_iff_not, Bool.not_eq_true', Bool.not_eq_false', Bool.and_eq_true, Bool.or_eq_true, Bool.and_eq_false_iff, Bool.or_eq_false_iff, Bool.not_true, Bool.not_false] at h7
      have hk : k < (up t s).length := by omega
      have hb := hash_b ((up t s).take k)
      have hct := ((up t s).getD k 0).toNat_lt
      have hh := hash_succ hk
      refine s_skip ?_
      refine s_seq ?_
      refine s_block ?_
      refine s_seq ?_
      refine s_region ?_
      refine o_p (p_indexAddr rfl rfl rfl sl_92 (k) (by omega) (by omega) rfl) rfl ?_
      refine o_q (q_load_at rfl rfl sz_5 (fun w h => by rw [Nat.zero_add]; exact h.rd_blk (Mc := []) aPk (by rw [Nat.mul_one]; exact bv_get hk) (by simp))) rfl ?_
      refine oP ?_
      refine o_nil ?_
      refine s_region ?_
      refine oP ?_
      refine oP ?_
      try (refine o_slot (i64w (by omega) (by omega)) ?_)
      refine oP ?_
      refine o_p (p_conv_int rfl rfl ki_5 ki_3) rfl ?_
      try (refine o_slot (i64w (by omega) (by omega)) ?_)
      refine oP ?_
      try (refine o_slot (i64w (by omega) (by omega)) ?_)
      refine o_p (p_rem_nn rfl rfl rfl (by omega) (by omega)) rfl ?_
      refine oP ?_
      refine o_nil ?_
      refine s_blk ?_
      refine s_region ?_
      refine oP ?_
      try (refine o_slot (i64w (by omega) (by omega)) ?_)
      refine oP ?_
      refine o_nil ?_
      exact s_backI (k + 1) (by omega) (by omega) (by (try dsimp only); rw [hh]; exact aSx) (fun w h => h)
    · try simp only [decide_eq_true_eq, decide_eq_false_iff_not, Bool.not_eq_true', Bool.not_eq_false', Bool.and_eq_true, Bool.or_eq_true, Bool.and_eq_false_iff, Bool.or_eq_false_iff, Bool.not_true, Bool.not_false] at h7
      obtain rfl : k = (up t s).length := by omega
      rw [List.take_length]
      refine s_exit_to rfl ?_
      refine s_seq ?_
      refine s_region ?_
      refine oP ?_
      refine oP ?_
      refine oP ?_
      refine o_nil ?_
      exact s_retv (rs := [.tmp 4, .tmp 5]) rfl (.tmp rfl (.tmp rfl (.nil))) (fun w' h' => ⟨by rw [if_pos h0, h0]; rfl, h'.below⟩)

end Go.Proofs

/- Chapter 5, plain: rows of a match. No program here. -/
namespace Go.Proofs
open Go Go.RowKit Gx
set_option linter.unusedVariables false
set_option linter.unusedSimpArgs false
theorem bsetB {L : List Bool} {k : Nat} {x : Bool} {v : Value} (h : k < L.length) (hv : v = .bool x) : setMany (L.map Value.bool) (k * 1) [v] = (L.set k x).map Value.bool := by
  subst hv
  have h9 := flat_set (vals := fun b : Bool => [Value.bool b]) (sz := 1) (fun _ => rfl) L k 0 [.bool x] (L.getD k false) x (by rw [List.getElem?_eq_getElem h, List.getD_eq_getElem?_getD, List.getElem?_eq_getElem h]; rfl) rfl (by simp)
  rw [Nat.add_zero, map_flat, map_flat] at h9
  exact h9
theorem bo_get {l : List Bool} {k : Nat} (h : k < l.length) : (l.map Value.bool)[k]? = some (.bool (l.getD k false)) := by
  simp [List.getD_eq_getElem?_getD, List.getElem?_eq_getElem h]
def rowM (t s r : List UInt8) : List Bool := (List.range (s.length + 1)).map (mtR t s r)
def mixR (t s r : List UInt8) (i : Nat) : List Bool := (rowM t s r).take i ++ List.replicate (s.length + 1 - i) false
theorem rowM_len {t s r : List UInt8} : (rowM t s r).length = s.length + 1 := by simp [rowM]
theorem rowM_get {t s r : List UInt8} {i : Nat} (h : i < s.length + 1) : (rowM t s r).getD i false = mtR t s r i := by
  unfold rowM
  rw [List.getD_eq_getElem?_getD, List.getElem?_map, List.getElem?_range h]
  rfl
theorem rowM_at {t s r : List UInt8} {i : Nat} (h : i < s.length + 1) : (rowM t s r)[i]? = some (mtR t s r i) := by
  unfold rowM
  rw [List.getElem?_map, List.getElem?_range h]
  rfl
theorem mixR_len {t s r : List UInt8} {i : Nat} (h : i ≤ s.length + 1) : (mixR t s r i).length = s.length + 1 := by simp [mixR, rowM_len]; omega
theorem mixR_set {t s r : List UInt8} {i : Nat} (h : i < s.length + 1) : (mixR t s r i).set i (mtR t s r i) = mixR t s r (i + 1) := by
  have h1 := rowM_at (t := t) (r := r) h
  have hl := rowM_len (t := t) (s := s) (r := r)
  unfold mixR
  apply List.ext_getElem?
  intro j
  simp only [List.getElem?_set, List.getElem?_append, List.getElem?_take, List.length_append, List.length_take, List.getElem?_replicate, List.length_replicate]
  grind
theorem mixR_skip {t s r : List UInt8} {i : Nat} (h : i < s.length + 1) (hf : mtR t s r i = false) : mixR t s r i = mixR t s r (i + 1) := by
  rw [← mixR_set h, hf]
  unfold mixR
  have hl := rowM_len (t := t) (s := s) (r := r)
  apply List.ext_getElem?
  intro j
  simp only [List.getElem?_set, List.getElem?_append, List.getElem?_take, List.length_append, List.length_take, List.getElem?_replicate, List.length_replicate]
  grind
theorem mixR_get {t s r : List UInt8} {i j : Nat} (h : i ≤ s.length + 1) (hj : j < i) : (mixR t s r i).getD j false = mtR t s r j := by
  unfold mixR
  rw [List.getD_eq_getElem?_getD, List.getElem?_append_left (by rw [List.length_take, rowM_len]; omega), List.getElem?_take, if_pos hj, rowM_at (by omega)]
  rfl
theorem mixR_end {t s r : List UInt8} : mixR t s r (s.length + 1) = rowM t s r := by
  unfold mixR
  rw [Nat.sub_self, List.replicate_zero, List.append_nil, List.take_of_length_le (by rw [rowM_len]; exact Nat.le_refl _)]
theorem mixR_0 {t s r : List UInt8} : mixR t s r 0 = List.replicate (s.length + 1) false := by simp [mixR]
theorem rowM_nil {t s : List UInt8} : (List.replicate (s.length + 1) false).set 0 true = rowM t s [] := by
  apply List.ext_getElem?
  intro j
  rcases Nat.lt_or_ge j (s.length + 1) with h | h
  · rw [rowM_at h]
    simp only [List.getElem?_set, List.getElem?_replicate, List.length_replicate, mtR]
    rcases j with _ | j <;> simp [h]
  · rw [List.getElem?_eq_none (by simpa using h), List.getElem?_eq_none (by rw [rowM_len]; exact h)]
theorem mt_star {t s r : List UInt8} {c : UInt8} {i : Nat} (h : c = 42) : mtR t s (c :: r) i = (mtR t s r i || (decide (0 < i) && mtR t s (c :: r) (i - 1))) := by
  subst h
  rcases i with _ | i
  · rw [mtR]; simp
  · rw [mtR]; simp
theorem mt_one {t s r : List UInt8} {c : UInt8} {i : Nat} (h : ¬ c = 42) : mtR t s (c :: r) i = ((decide (0 < i) && mtR t s r (i - 1)) && (decide (c = 63) || decide (t.getD c.toNat 0 = t.getD (s.getD (i - 1) 0).toNat 0))) := by
  rcases i with _ | i
  · rw [mtR]; simp [h]
  · rw [mtR]; simp [h]
theorem rev_take {p : List UInt8} {k : Nat} (h : k < p.length) : (p.take (k + 1)).reverse = p.getD k 0 :: (p.take k).reverse := by
  rw [take_succ_getD (d := 0) h, List.reverse_append]
  rfl
end Go.Proofs

namespace Go.Proofs
open Go Go.RowKit Gx
set_option linter.unusedVariables false
set_option linter.unusedSimpArgs false
attribute [local irreducible] Go.Calls Gx.S Gx.O Gx.D Gx.OpP Gx.OpQ Gx.OpH

theorem sl_77 : tsl Tryd.prog 77 = some (4, 1, 1) := by kernel_rfl
theorem zr_4 : tzero Tryd.prog 4 = some [.bool false] := by kernel_rfl
theorem sz_4 : tsz Tryd.prog 4 = some (1, false) := by kernel_rfl
theorem mixed : Tryd.prog.follows .mixedOrders = true := by kernel_rfl
theorem fn_52 : isFn Tryd.prog 52 = true := by kernel_rfl
theorem fn_53 : isFn Tryd.prog 53 = true := by kernel_rfl


set_option maxRecDepth 20000 in
set_option maxHeartbeats 2000000 in
theorem c53 (w : World) (t p s : List UInt8) (hl : t.length = 128) (hp : ∀ c ∈ p, c.toNat < 128) (hs : ∀ c ∈ s, c.toNat < 128) (hmp : p.length ≤ 1000000) (hms : s.length ≤ 1000000) : Calls Tryd.prog 53 #[.string (bs t), .string (bs p), .string (bs s)] w fun en w' => en = .returned (.bool (mtU t p s)) ∧ Below w.heap.size w w' := by
  refine enter (args := [_, _, _]) Tryd.func53 Tryd.ntmps53 rfl rfl (HS.refl w []) ?_
  refine s_seq ?_
  refine s_region ?_
  refine oP ?_
  refine o_nil ?_
  refine s_seq ?_
  refine s_region ?_
  refine oP ?_
  refine o_p (p_len_str rfl rfl Tryd.underlying9) rfl ?_
  refine oP ?_
  try (refine o_slot (i64w (by omega) (by omega)) ?_)
  refine o_h (h_make (n := (s.length + 1)) rfl rfl rfl sl_77 zr_4 (by omega) (by omega)) rfl (fun b1 _ => ?_)
  refine oP ?_
  refine o_nil ?_
  refine s_seq ?_
  refine s_region ?_
  refine oP ?_
  refine o_p (p_indexAddr rfl rfl rfl sl_77 (0) (by omega) (by omega) rfl) rfl ?_
  refine o_slot (show _ = Value.pointer (some ⟨b1, 0 * 1, none⟩) from rfl) ?_
  refine o_h0 (h_store rfl rfl rfl sz_4 rfl aPt (by rw [Nat.mul_one, zrow_length]; omega) rfl) (fun _ _ => ?_)
  refine o_nil ?_
  refine s_seq ?_
  refine s_seq ?_
  refine s_region ?_
  refine oP ?_
  refine o_h (h_bytes rfl rfl Tryd.underlying9 Tryd.underlying92 Tryd.underlying5 rfl (by simp only [maxLen]; omega)) rfl (fun ⟨b2, c3⟩ ⟨h4, k5⟩ => ?_)
  refine o_p (p_len_slice rfl rfl Tryd.underlying92) rfl ?_
  refine oP ?_
  refine o_nil ?_
  refine s_block ?_
  refine s_loopI (α := Nat × Nat) [7, 9, 10, 11, 21, 22, 23, 24, 25, 26, 27, 28, 29, 30, 31, 32, 33, 34, 35, 36, 37, 38, 39, 40, 41, 42, 43, 44, 45, 46, 47, 48, 49, 50, 51, 52, 53, 54, 55, 56, 57, 58, 59, 60, 61, 62, 63, 64, 65, 66, 67, 68, 69, 70, 71, 72, 73, 74, 75, 76, 77, 78, 79, 80, 81, 82, 83, 84] (fun y => [(21, .int .i64 (y.1 : Int)), (7, .slice (some ⟨y.2, 0, none⟩) (s.length + 1) (s.length + 1))]) (fun y => HS w [] [.blk y.2 4 ((s.length + 1) * 1) ((rowM t s (p.take y.1).reverse).map Value.bool), .blk b2 5 c3 (p.map bv)]) (fun y => y.1 ≤ p.length) (fun y => p.length - y.1) (0, b1) (Nat.zero_le _) aSx (fun w h => by have h1 := HS.blk_to (b := b1) h aPk (show setMany (zrow [.bool false] ((s.length + 1) * 1)) (0 * 1) [.bool true] = (rowM t s []).map Value.bool from by rw [Nat.mul_one, zrow_one, ← List.map_replicate (f := Value.bool), bsetB (by simp) rfl, rowM_nil]); exact h1.ent aEt) (fun ⟨k, b⟩ hk1 => ?_)
  dsimp only at hk1 ⊢
  refine s_seq ?_
  refine s_region ?_
  refine oP ?_
  refine o_nil ?_
  refine s_seq ?_
  refine s_cond rfl (fun h6 => ?_) (fun h6 => ?_)
  · try simp only [decide_eq_true_eq, decide_eq_false_iff_not, Bool.not_eq_true', Bool.not_eq_false', Bool.and_eq_true, Bool.or_eq_true, Bool.and_eq_false_iff, Bool.or_eq_false_iff, Bool.not_true, Bool.not_false] at h6
    have hk : k < p.length := by omega
    have hpc := hp (p.getD k 0) (getD_mem hk)
    refine s_skip ?_
    refine s_seq ?_
    refine s_block ?_
    refine s_seq ?_
    refine s_region ?_
    refine o_p (p_indexAddr rfl rfl rfl sl_92 (k) (by omega) (by omega) rfl) rfl ?_
    refine o_q (q_load_at rfl rfl sz_5 (fun w h => by rw [Nat.zero_add]; exact h.rd_blk (Mc := []) aPk (by rw [Nat.mul_one]; exact bv_get hk) (by simp))) rfl ?_
    refine oP ?_
    refine o_nil ?_
    refine s_seq ?_
    refine s_region ?_
    refine oP ?_
    refine o_p (p_len_str rfl rfl Tryd.underlying9) rfl ?_
    refine oP ?_
    try (refine o_slot (i64w (by omega) (by omega)) ?_)
    refine o_h (h_make (n := (s.length + 1)) rfl rfl rfl sl_77 zr_4 (by omega) (by omega)) rfl (fun b7 _ => ?_)
    refine oP ?_
    refine o_nil ?_
    refine s_seq ?_
    refine s_seq ?_
    refine s_region ?_
    refine oP ?_
    refine o_p (p_len_slice rfl rfl Tryd.underlying77) rfl ?_
    refine oP ?_
    refine o_nil ?_
    refine s_block ?_
    refine s_loopI (α := Nat) [11, 31, 32, 33, 34, 35, 36, 37, 38, 39, 40, 41, 42, 43, 44, 45, 46, 47, 48, 49, 50, 51, 52, 53, 54, 55, 56, 57, 58, 59, 60, 61, 62, 63, 64, 65, 66, 67, 68, 69, 70, 71, 72, 73, 74, 75, 76, 77, 78, 79, 80, 81, 82] (fun i => [(31, .int .i64 (i : Int))]) (fun i => HS w [] [.blk b7 4 ((s.length + 1) * 1) ((mixR t s (p.getD k 0 :: (p.take k).reverse) i).map Value.bool), .blk b 4 ((s.length + 1) * 1) ((rowM t s (p.take k).reverse).map Value.bool), .blk b2 5 c3 (p.map bv)]) (fun i => i ≤ (s.length + 1)) (fun i => (s.length + 1) - i) 0 (Nat.zero_le _) aSx (fun w h => by have h1 := HS.blk_to (b := b7) h aPk (show zrow [.bool false] ((s.length + 1) * 1) = (mixR t s (p.getD k 0 :: (p.take k).reverse) 0).map Value.bool from by rw [Nat.mul_one, zrow_one, mixR_0, List.map_replicate]); exact h1.ent aEt) (fun i hi1 => ?_)
    refine s_seq ?_
    refine s_region ?_
    refine oP ?_
    refine o_nil ?_
    refine s_seq ?_
    refine s_cond rfl (fun h8 => ?_) (fun h8 => ?_)
    · try simp only [decide_eq_true_eq, decide_eq_false_iff_not, Bool.not_eq_true', Bool.not_eq_false', Bool.and_eq_true, Bool.or_eq_true, Bool.and_eq_false_iff, Bool.or_eq_false_iff, Bool.not_true, Bool.not_false] at h8
      have hi : i < (s.length + 1) := by omega
      refine s_skip ?_
      refine s_seq ?_
      refine s_block ?_
      refine s_seq ?_
      refine s_region ?_
      refine oP ?_
      refine oP ?_
      refine o_nil ?_
      refine s_block ?_
      refine s_seq ?_
      refine s_region ?_
      refine oP ?_
      refine oP ?_
      refine oP ?_
      refine o_nil ?_
      refine s_cond rfl (fun h9 => ?_) (fun h9 => ?_)
      · try simp only [decide_eq_true_eq, decide_eq_false_iff_not, Bool.not_eq_true', Bool.not_eq_false', Bool.and_eq_true, Bool.or_eq_true, Bool.and_eq_false_iff, Bool.or_eq_false_iff, Bool.not_true, Bool.not_false] at h9
        have hc42 : p.getD k 0 = 42 := UInt8.toNat_inj.1 (by show (p.getD k 0).toNat = 42; have hq := h9; omega)
        refine s_region ?_
        refine oP ?_
        refine oP ?_
        refine oP ?_
        refine oP ?_
        refine o_p (p_indexAddr rfl rfl rfl sl_77 (i) (by omega) (by omega) rfl) rfl ?_
        refine o_q (q_load_at rfl rfl sz_4 (fun w h => by rw [Nat.zero_add]; exact h.rd_blk (Mc := []) (b := b) aPk (by rw [Nat.mul_one, bo_get (by rw [rowM_len]; exact hi), rowM_get hi]) (by simp))) rfl ?_
        refine oP ?_
        refine o_or 10 43 53 _ _ rfl
          (by
            intro hg10
            have hs11 := hg10; try simp only [decide_eq_true_eq, decide_eq_false_iff_not, Bool.not_eq_true', Bool.not_eq_false', Bool.and_eq_true, Bool.or_eq_true, Bool.and_eq_false_iff, Bool.or_eq_false_iff, Bool.not_true, Bool.not_false] at hs11
            refine o_on 43 _ rfl rfl hg10 ?_
            refine oP ?_
            refine o_on 43 _ rfl rfl hg10 ?_
            refine oP ?_
            refine o_on 43 _ rfl rfl hg10 ?_
            refine oP ?_
            refine o_and 6 46 52 _ _ rfl
              (by
                intro hg12
                have hs13 := hg12; try simp only [decide_eq_true_eq, decide_eq_false_iff_not, Bool.not_eq_true', Bool.not_eq_false', Bool.and_eq_true, Bool.or_eq_true, Bool.and_eq_false_iff, Bool.or_eq_false_iff, Bool.not_true, Bool.not_false] at hs13
                refine o_on 46 _ rfl rfl hg12 ?_
                refine oP ?_
                refine o_on 46 _ rfl rfl hg12 ?_
                refine oP ?_
                refine o_on 46 _ rfl rfl hg12 ?_
                refine oP ?_
                try (refine o_slot (i64w (by omega) (by omega)) ?_)
                refine o_on 46 _ rfl rfl hg12 ?_
                refine o_p (p_indexAddr rfl rfl rfl sl_77 (i - 1) (by omega) (by omega) rfl) rfl ?_
                refine o_on 46 _ rfl rfl hg12 ?_
                refine o_q (q_load_at rfl rfl sz_4 (fun w h => by rw [Nat.zero_add]; exact h.rd_blk (Mc := []) (b := b7) aPk (by rw [Nat.mul_one, bo_get (by rw [mixR_len (by omega)]; omega), mixR_get (by omega) (by have hq := hg12; omega)]) (by simp))) rfl ?_
                refine o_on 43 _ rfl rfl hg10 ?_
                refine o_p (p_pickt rfl rfl hg12 rfl) rfl ?_
                refine o_nil ?_
                exact s_joinN 6 52 _ rfl rfl rfl (fun w h => by first | exact h | exact h.ent aEt))
              (by
                intro hg14
                have hs15 := hg14; try simp only [decide_eq_true_eq, decide_eq_false_iff_not, Bool.not_eq_true', Bool.not_eq_false', Bool.and_eq_true, Bool.or_eq_true, Bool.and_eq_false_iff, Bool.or_eq_false_iff, Bool.not_true, Bool.not_false] at hs15
                refine o_off 46 _ rfl rfl hg14 rfl ?_
                refine o_off 46 _ rfl rfl hg14 rfl ?_
                refine o_off 46 _ rfl rfl hg14 rfl ?_
                refine o_off 46 _ rfl rfl hg14 rfl ?_
                refine o_off 46 _ rfl rfl hg14 rfl ?_
                refine o_on 43 _ rfl rfl hg10 ?_
                refine o_p (p_pickf rfl rfl hg14 rfl) rfl ?_
                refine o_nil ?_
                exact s_joinN 6 52 _ rfl rfl rfl (fun w h => by first | exact h | exact h.ent aEt)) ?_
            refine o_p (p_pickf rfl rfl hg10 rfl) rfl ?_
            refine o_nil ?_
            exact s_joinN 5 53 _ rfl rfl rfl (fun w h => by first | exact h | exact h.ent aEt))
          (by
            intro hg16
            have hs17 := hg16; try simp only [decide_eq_true_eq, decide_eq_false_iff_not, Bool.not_eq_true', Bool.not_eq_false', Bool.and_eq_true, Bool.or_eq_true, Bool.and_eq_false_iff, Bool.or_eq_false_iff, Bool.not_true, Bool.not_false] at hs17
            refine o_off 43 _ rfl rfl hg16 rfl ?_
            refine o_off 43 _ rfl rfl hg16 rfl ?_
            refine o_off 43 _ rfl rfl hg16 rfl ?_
            refine o_off' 46 rfl rfl rfl ?_
            refine o_off' 46 rfl rfl rfl ?_
            refine o_off' 46 rfl rfl rfl ?_
            refine o_off' 46 rfl rfl rfl ?_
            refine o_off' 46 rfl rfl rfl ?_
            refine o_off 43 _ rfl rfl hg16 rfl ?_
            refine o_p (p_pickt rfl rfl hg16 rfl) rfl ?_
            refine o_nil ?_
            exact s_joinN 10 53 _ rfl rfl rfl (fun w h => by first | exact h | exact h.ent aEt)) ?_
        refine o_slot (show _ = Value.bool (mtR t s (p.getD k 0 :: (p.take k).reverse) i) from by congr 1; rw [mt_star (i := i) hc42]; simp) ?_
        refine o_p (p_indexAddr rfl rfl rfl sl_77 (i) (by omega) (by omega) rfl) rfl ?_
        refine o_slot (show _ = Value.pointer (some ⟨b7, i * 1, none⟩) from by rw [Nat.zero_add]) ?_
        refine o_h0 (h_store rfl rfl rfl sz_4 rfl aPt (by rw [List.length_map, mixR_len (by omega)]; omega) rfl) (fun _ _ => ?_)
        refine o_nil ?_
        refine s_blk ?_
        refine s_blk ?_
        refine s_weaken (L' := [(0, _), (1, _), (2, _), (6, _), (7, _), (9, _), (10, _), (12, _), (13, _), (14, _), (15, _), (16, _), (17, _), (18, _), (19, _), (20, _), (21, _), (22, _), (23, _), (24, _), (25, _), (26, _), (27, _), (28, _), (29, _), (30, _), (31, _)]) aSx (fun _ h => h) ?_
        refine s_region ?_
        refine oP ?_
        try (refine o_slot (i64w (by omega) (by omega)) ?_)
        refine oP ?_
        refine o_nil ?_
        exact s_backI (i + 1) (by omega) (by omega) aSx (fun w h => by have h1 := HS.blk_to (b := b7) h aPk (bsetB (L := mixR t s (p.getD k 0 :: (p.take k).reverse) i) (x := (mtR t s (p.getD k 0 :: (p.take k).reverse) i)) (by rw [mixR_len (by omega)]; omega) rfl); rw [mixR_set hi] at h1; exact h1.ent aEt)
      · try simp only [decide_eq_true_eq, decide_eq_false_iff_not, Bool.not_eq_true', Bool.not_eq_false', Bool.and_eq_true, Bool.or_eq_true, Bool.and_eq_false_iff, Bool.or_eq_false_iff, Bool.not_true, Bool.not_false] at h9
        have hc42 : ¬ p.getD k 0 = 42 := by intro hA; have hq := h9; rw [hA] at hq; exact hq rfl
        refine s_seq ?_
        refine s_region ?_
        refine oP ?_
        refine oP ?_
        refine oP ?_
        refine o_and 6 58 64 _ _ rfl
          (by
            intro hg18
            have hs19 := hg18; try simp only [decide_eq_true_eq, decide_eq_false_iff_not, Bool.not_eq_true', Bool.not_eq_false', Bool.and_eq_true, Bool.or_eq_true, Bool.and_eq_false_iff, Bool.or_eq_false_iff, Bool.not_true, Bool.not_false] at hs19
            refine o_on 58 _ rfl rfl hg18 ?_
            refine oP ?_
            refine o_on 58 _ rfl rfl hg18 ?_
            refine oP ?_
            refine o_on 58 _ rfl rfl hg18 ?_
            refine oP ?_
            try (refine o_slot (i64w (by omega) (by omega)) ?_)
            refine o_on 58 _ rfl rfl hg18 ?_
            refine o_p (p_indexAddr rfl rfl rfl sl_77 (i - 1) (by omega) (by omega) rfl) rfl ?_
            refine o_on 58 _ rfl rfl hg18 ?_
            refine o_q (q_load_at rfl rfl sz_4 (fun w h => by rw [Nat.zero_add]; exact h.rd_blk (Mc := []) (b := b) aPk (by rw [Nat.mul_one, bo_get (by rw [rowM_len]; omega), rowM_get (by omega)]) (by simp))) rfl ?_
            refine o_p (p_pickt rfl rfl hg18 rfl) rfl ?_
            refine o_nil ?_
            exact s_joinN 6 64 _ rfl rfl rfl (fun w h => by first | exact h | exact h.ent aEt))
          (by
            intro hg20
            have hs21 := hg20; try simp only [decide_eq_true_eq, decide_eq_false_iff_not, Bool.not_eq_true', Bool.not_eq_false', Bool.and_eq_true, Bool.or_eq_true, Bool.and_eq_false_iff, Bool.or_eq_false_iff, Bool.not_true, Bool.not_false] at hs21
            refine o_off 58 _ rfl rfl hg20 rfl ?_
            refine o_off 58 _ rfl rfl hg20 rfl ?_
            refine o_off 58 _ rfl rfl hg20 rfl ?_
            refine o_off 58 _ rfl rfl hg20 rfl ?_
            refine o_off 58 _ rfl rfl hg20 rfl ?_
            refine o_p (p_pickf rfl rfl hg20 rfl) rfl ?_
            refine o_nil ?_
            exact s_joinN 6 64 _ rfl rfl rfl (fun w h => by first | exact h | exact h.ent aEt)) ?_
        refine oP ?_
        refine o_nil ?_
        refine s_cond rfl (fun h22 => ?_) (fun h22 => ?_)
        · try simp only [decide_eq_true_eq, decide_eq_false_iff_not, Bool.not_eq_true', Bool.not_eq_false', Bool.and_eq_true, Bool.or_eq_true, Bool.and_eq_false_iff, Bool.or_eq_false_iff, Bool.not_true, Bool.not_false] at h22
          have hsi := hs (s.getD (i - 1) 0) (getD_mem (by have hq := h22; omega))
          have hq5 := h22
          have hpre : (decide (0 < i) && mtR t s (p.take k).reverse (i - 1)) = true := by simp; exact ⟨by omega, hq5.2⟩
          have e63 : (((p.getD k 0).toNat : Nat) : Int) = 63 ↔ p.getD k 0 = 63 := ⟨fun h => UInt8.toNat_inj.1 (by show (p.getD k 0).toNat = 63; omega), fun h => by rw [h]; rfl⟩
          have eT : ((t.getD (p.getD k 0).toNat 0).toNat : Int) = ((t.getD (s.getD (i - 1) 0).toNat 0).toNat : Int) ↔ t.getD (p.getD k 0).toNat 0 = t.getD (s.getD (i - 1) 0).toNat 0 := ⟨fun h => UInt8.toNat_inj.1 (by omega), fun h => by rw [h]⟩
          refine s_weaken (L' := [(0, _), (1, _), (2, _), (6, _), (7, _), (9, _), (10, _), (11, _), (12, _), (13, _), (14, _), (15, _), (16, _), (17, _), (18, _), (19, _), (20, _), (21, _), (22, _), (23, _), (24, _), (25, _), (26, _), (27, _), (28, _), (29, _), (30, _), (31, _)]) aSx (fun _ h => h) ?_
          refine s_draw [17] mixed ?_
          refine dP 0 ?_
          refine dP 1 ?_
          refine dP 2 ?_
          refine dP 3 ?_
          refine dP 4 ?_
          apply d_split 69
          · exact rfl
          · intro hg23
            have hs24 := hg23; try simp only [decide_eq_true_eq, decide_eq_false_iff_not, Bool.not_eq_true', Bool.not_eq_false', Bool.and_eq_true, Bool.or_eq_true, Bool.and_eq_false_iff, Bool.or_eq_false_iff, Bool.not_true, Bool.not_false] at hs24
            refine d_off 5 69 rfl rfl rfl hg23 (by kernel_rfl) rfl rfl ?_
            refine d_off 6 69 rfl rfl rfl hg23 (by kernel_rfl) rfl rfl ?_
            refine d_off 7 69 rfl rfl rfl hg23 (by kernel_rfl) rfl rfl ?_
            refine d_off 8 69 rfl rfl rfl hg23 (by kernel_rfl) rfl rfl ?_
            refine d_off 9 69 rfl rfl rfl hg23 (by kernel_rfl) rfl rfl ?_
            refine d_off 10 69 rfl rfl rfl hg23 (by kernel_rfl) rfl rfl ?_
            refine d_off 11 69 rfl rfl rfl hg23 (by kernel_rfl) rfl rfl ?_
            refine d_off 12 69 rfl rfl rfl hg23 (by kernel_rfl) rfl rfl ?_
            refine d_off 13 69 rfl rfl rfl hg23 (by kernel_rfl) rfl rfl ?_
            refine d_off 14 69 rfl rfl rfl hg23 (by kernel_rfl) rfl rfl ?_
            refine d_p 15 rfl (p_pickt rfl rfl hg23 rfl) (by kernel_rfl) rfl rfl ?_
            refine d_slot (show _ = Value.bool (mtR t s (p.getD k 0 :: (p.take k).reverse) i) from by rw [mt_one hc42, hpre]; first | (have hgA := of_decide_eq_true hg23; rw [e63] at hgA; rw [decide_eq_true hgA]; rfl) | (have hgA := of_decide_eq_false hg23; rw [e63] at hgA; rw [decide_eq_false hgA, decide_eq_decide.2 eT]; rfl)) ?_
            refine d_p 16 rfl (p_indexAddr rfl rfl rfl sl_77 (i) (by omega) (by omega) rfl) (by kernel_rfl) rfl rfl ?_
            refine d_slot (show _ = Value.pointer (some ⟨b7, i * 1, none⟩) from by rw [Nat.zero_add]) ?_
            refine d_h0 17 rfl (h_store rfl rfl rfl sz_4 rfl aPt (by rw [List.length_map, mixR_len (by omega)]; omega) rfl) (by kernel_rfl) (fun w h => h.ent aEt) (fun _ _ => ?_)
            refine d_turn [] (by kernel_rfl) ?_
            refine d_nil (by kernel_rfl) (fun w h => h.ent aEt) ?_
            refine s_blk ?_
            refine s_blk ?_
            refine s_weaken (L' := [(0, _), (1, _), (2, _), (6, _), (7, _), (9, _), (10, _), (12, _), (13, _), (14, _), (15, _), (16, _), (17, _), (18, _), (19, _), (20, _), (21, _), (22, _), (23, _), (24, _), (25, _), (26, _), (27, _), (28, _), (29, _), (30, _), (31, _)]) aSx (fun _ h => h) ?_
            refine s_region ?_
            refine oP ?_
            try (refine o_slot (i64w (by omega) (by omega)) ?_)
            refine oP ?_
            refine o_nil ?_
            exact s_backI (i + 1) (by omega) (by omega) aSx (fun w h => by have h1 := HS.blk_to (b := b7) h aPk (bsetB (L := mixR t s (p.getD k 0 :: (p.take k).reverse) i) (x := (mtR t s (p.getD k 0 :: (p.take k).reverse) i)) (by rw [mixR_len (by omega)]; omega) rfl); rw [mixR_set hi] at h1; exact h1.ent aEt)
          · intro hg25
            have hs26 := hg25; try simp only [decide_eq_true_eq, decide_eq_false_iff_not, Bool.not_eq_true', Bool.not_eq_false', Bool.and_eq_true, Bool.or_eq_true, Bool.and_eq_false_iff, Bool.or_eq_false_iff, Bool.not_true, Bool.not_false] at hs26
            refine d_pon 5 69 rfl rfl rfl hg25 (p_pure rfl) (by kernel_rfl) rfl rfl ?_
            refine d_pon 6 69 rfl rfl rfl hg25 (p_pure rfl) (by kernel_rfl) rfl rfl ?_
            refine d_pon 7 69 rfl rfl rfl hg25 (p_index_str rfl rfl rfl Tryd.underlying72 ((p.getD k 0).toNat) (by omega) (by omega)) (by kernel_rfl) rfl rfl ?_
            refine d_pon 8 69 rfl rfl rfl hg25 (p_pure rfl) (by kernel_rfl) rfl rfl ?_
            refine d_pon 9 69 rfl rfl rfl hg25 (p_pure rfl) (by kernel_rfl) rfl rfl ?_
            refine d_pon 10 69 rfl rfl rfl hg25 (p_pure rfl) (by kernel_rfl) rfl rfl ?_
            refine d_pon 11 69 rfl rfl rfl hg25 (p_pure rfl) (by kernel_rfl) rfl rfl ?_
            try (refine d_slot (i64w (by omega) (by omega)) ?_)
            refine d_pon 12 69 rfl rfl rfl hg25 (p_index_str rfl rfl rfl Tryd.underlying9 (i - 1) (by omega) (by omega)) (by kernel_rfl) rfl rfl ?_
            refine d_pon 13 69 rfl rfl rfl hg25 (p_index_str rfl rfl rfl Tryd.underlying72 ((s.getD (i - 1) 0).toNat) (by omega) (by omega)) (by kernel_rfl) rfl rfl ?_
            refine d_pon 14 69 rfl rfl rfl hg25 (p_pure rfl) (by kernel_rfl) rfl rfl ?_
            refine d_p 15 rfl (p_pickf rfl rfl hg25 rfl) (by kernel_rfl) rfl rfl ?_
            refine d_slot (show _ = Value.bool (mtR t s (p.getD k 0 :: (p.take k).reverse) i) from by rw [mt_one hc42, hpre]; first | (have hgA := of_decide_eq_true hg25; rw [e63] at hgA; rw [decide_eq_true hgA]; rfl) | (have hgA := of_decide_eq_false hg25; rw [e63] at hgA; rw [decide_eq_false hgA, decide_eq_decide.2 eT]; rfl)) ?_
            refine d_p 16 rfl (p_indexAddr rfl rfl rfl sl_77 (i) (by omega) (by omega) rfl) (by kernel_rfl) rfl rfl ?_
            refine d_slot (show _ = Value.pointer (some ⟨b7, i * 1, none⟩) from by rw [Nat.zero_add]) ?_
            refine d_h0 17 rfl (h_store rfl rfl rfl sz_4 rfl aPt (by rw [List.length_map, mixR_len (by omega)]; omega) rfl) (by kernel_rfl) (fun w h => h.ent aEt) (fun _ _ => ?_)
            refine d_turn [] (by kernel_rfl) ?_
            refine d_nil (by kernel_rfl) (fun w h => h.ent aEt) ?_
            refine s_blk ?_
            refine s_blk ?_
            refine s_weaken (L' := [(0, _), (1, _), (2, _), (6, _), (7, _), (9, _), (10, _), (12, _), (13, _), (14, _), (15, _), (16, _), (17, _), (18, _), (19, _), (20, _), (21, _), (22, _), (23, _), (24, _), (25, _), (26, _), (27, _), (28, _), (29, _), (30, _), (31, _)]) aSx (fun _ h => h) ?_
            refine s_region ?_
            refine oP ?_
            try (refine o_slot (i64w (by omega) (by omega)) ?_)
            refine oP ?_
            refine o_nil ?_
            exact s_backI (i + 1) (by omega) (by omega) aSx (fun w h => by have h1 := HS.blk_to (b := b7) h aPk (bsetB (L := mixR t s (p.getD k 0 :: (p.take k).reverse) i) (x := (mtR t s (p.getD k 0 :: (p.take k).reverse) i)) (by rw [mixR_len (by omega)]; omega) rfl); rw [mixR_set hi] at h1; exact h1.ent aEt)
        · try simp only [decide_eq_true_eq, decide_eq_false_iff_not, Bool.not_eq_true', Bool.not_eq_false', Bool.and_eq_true, Bool.or_eq_true, Bool.and_eq_false_iff, Bool.or_eq_false_iff, Bool.not_true, Bool.not_false] at h22
          have hmf : (mtR t s (p.getD k 0 :: (p.take k).reverse) i) = false := by rw [mt_one hc42]; have hq := h22; (have eA : (decide (0 < i) && mtR t s (p.take k).reverse (i - 1)) = false := by by_cases hz : 0 < i; (simp [hz]; (rcases hq with hq | hq; (exfalso; omega); exact hq)); simp [hz]); rw [eA]; rfl
          refine s_skip ?_
          refine s_blk ?_
          refine s_blk ?_
          refine s_weaken (L' := [(0, _), (1, _), (2, _), (6, _), (7, _), (9, _), (10, _), (12, _), (13, _), (14, _), (15, _), (16, _), (17, _), (18, _), (19, _), (20, _), (21, _), (22, _), (23, _), (24, _), (25, _), (26, _), (27, _), (28, _), (29, _), (30, _), (31, _)]) aSx (fun _ h => h) ?_
          refine s_region ?_
          refine oP ?_
          try (refine o_slot (i64w (by omega) (by omega)) ?_)
          refine oP ?_
          refine o_nil ?_
          exact s_backI (i + 1) (by omega) (by omega) aSx (fun w h => by rw [← mixR_skip hi hmf]; exact h.ent aEt)
    · try simp only [decide_eq_true_eq, decide_eq_false_iff_not, Bool.not_eq_true', Bool.not_eq_false', Bool.and_eq_true, Bool.or_eq_true, Bool.and_eq_false_iff, Bool.or_eq_false_iff, Bool.not_true, Bool.not_false] at h8
      obtain rfl : i = (s.length + 1) := by omega
      rw [mixR_end, ← rev_take hk]
      refine s_exit_to rfl ?_
      refine s_region ?_
      refine oP ?_
      refine oP ?_
      refine o_nil ?_
      refine s_blk ?_
      refine s_region ?_
      refine oP ?_
      try (refine o_slot (i64w (by omega) (by omega)) ?_)
      refine oP ?_
      refine o_nil ?_
      exact s_backI (k + 1, b7) (by show p.length - (k + 1) < p.length - k; omega) (by show k + 1 ≤ p.length; omega) aSx (fun w h => h.ent aEt)
  · try simp only [decide_eq_true_eq, decide_eq_false_iff_not, Bool.not_eq_true', Bool.not_eq_false', Bool.and_eq_true, Bool.or_eq_true, Bool.and_eq_false_iff, Bool.or_eq_false_iff, Bool.not_true, Bool.not_false] at h6
    obtain rfl : k = p.length := by omega
    rw [List.take_length]
    refine s_exit_to rfl ?_
    refine s_seq ?_
    refine s_region ?_
    refine oP ?_
    refine oP ?_
    refine o_p (p_len_str rfl rfl Tryd.underlying9) rfl ?_
    refine o_p (p_indexAddr rfl rfl rfl sl_77 (s.length) (by omega) (by omega) rfl) rfl ?_
    refine o_q (q_load_at rfl rfl sz_4 (fun w h => by rw [Nat.zero_add]; exact h.rd_blk (Mc := []) (b := b) aPk (by rw [Nat.mul_one, bo_get (by rw [rowM_len]; omega), rowM_get (by omega)]) (by simp))) rfl ?_
    refine oP ?_
    refine o_nil ?_
    exact s_retv (rs := [.tmp 6]) rfl (.tmp rfl (.nil)) (fun w' h' => ⟨by rfl, h'.below⟩)

def matE (t p s : List UInt8) : Int := if (chkTab t).2 = 0 then if patE p = 0 then nameE s else patE p else (chkTab t).2
def matL (t p : List UInt8) (l : List (List UInt8)) : Int := if (chkTab t).2 = 0 then if patE p = 0 then namesE l else patE p else (chkTab t).2
theorem matE_ok {t p s : List UInt8} (h : matE t p s = 0) : (chkTab t).2 = 0 ∧ patE p = 0 ∧ nameE s = 0 := by
  unfold matE at h
  grind
/-- The numbers of those that a pattern matches. -/
def hitsU (t p : List UInt8) (l : List (List UInt8)) : List Nat := (List.range l.length).filter fun k => mtU t p (l.getD k [])
def hitsTo (t p : List UInt8) (l : List (List UInt8)) (k : Nat) : List Nat := (List.range k).filter fun k => mtU t p (l.getD k [])
def naV (n : Nat) : Value := .int .i64 (n : Int)

set_option maxRecDepth 20000 in
theorem c15 (w : World) (t p s : List UInt8) (hmt : t.length ≤ 1000000) (hmp : p.length ≤ 1000000) (hms : s.length ≤ 1000000) : Calls Tryd.prog 15 #[.string (bs t), .string (bs p), .string (bs s)] w fun en w' => en = .returned (.tuple #[.bool (if matE t p s = 0 then mtU t p s else false), .int .i64 (matE t p s)]) ∧ Below w.heap.size w w' := by
  have he : firstV [.int .i64 (chkTab t).2, .int .i64 (patE p), .int .i64 (nameE s)] = matE t p s := by rw [firstV3]; rfl
  refine enter (args := [_, _, _]) Tryd.func15 Tryd.ntmps15 rfl rfl (HS.refl w []) ?_
  refine s_seq ?_
  refine s_region ?_
  refine oP ?_
  refine oP ?_
  refine o_nil ?_
  refine s_seq ?_
  refine s_region ?_
  refine oP ?_
  refine o_q (q_call rfl fn_50 rfl (fun w1 h1 => c50 w1 t hmt)) rfl ?_
  refine oP ?_
  refine oP ?_
  refine oP ?_
  refine oP ?_
  refine oP ?_
  refine o_nil ?_
  refine s_seq ?_
  refine s_seq ?_
  refine s_region ?_
  refine oP ?_
  refine oP ?_
  refine o_q (q_call rfl fn_52 rfl (fun w1 h1 => c52 w1 p hmp)) rfl ?_
  refine oP ?_
  refine o_q (q_call rfl fn_36 rfl (fun w1 h1 => c36 w1 s hms)) rfl ?_
  refine o_h (h_buildSlice (cs := [_, _, _]) rfl rfl sl_99 zr_25 rfl rfl rfl) rfl (fun b1 _ => ?_)
  refine o_q (q_call rfl fn_51 rfl (fun w1 h1 => f51 h1 aPk (by rfl) (by rfl) (by decide))) rfl ?_
  refine oP ?_
  refine o_nil ?_
  refine s_seq ?_
  refine s_region ?_
  refine oP ?_
  refine oP ?_
  refine o_nil ?_
  refine s_cond rfl (fun h2 => ?_) (fun h2 => ?_)
  · try simp only [decide_eq_true_eq, decide_eq_false_iff_not, Bool.not_eq_true', Bool.not_eq_false', Bool.and_eq_true, Bool.or_eq_true, Bool.and_eq_false_iff, Bool.or_eq_false_iff, Bool.not_true, Bool.not_false] at h2
    have h0 : ¬ matE t p s = 0 := by rw [← he]; exact h2
    refine s_seq ?_
    refine s_region ?_
    refine oP ?_
    refine oP ?_
    refine oP ?_
    refine o_nil ?_
    exact s_retv (rs := [.tmp 6, .tmp 7]) rfl (.tmp rfl (.tmp rfl (.nil))) (fun w' h' => ⟨by rw [if_neg h0, ← he]; rfl, h'.below⟩)
  · try simp only [decide_eq_true_eq, decide_eq_false_iff_not, Bool.not_eq_true', Bool.not_eq_false', Bool.and_eq_true, Bool.or_eq_true, Bool.and_eq_false_iff, Bool.or_eq_false_iff, Bool.not_true, Bool.not_false] at h2
    have h0 : matE t p s = 0 := by rw [← he]; exact h2
    have ho := matE_ok h0
    refine s_skip ?_
    refine s_seq ?_
    refine s_region ?_
    refine oP ?_
    refine oP ?_
    refine oP ?_
    refine o_q (q_call rfl fn_53 rfl (fun w1 h1 => c53 w1 t p s (chkTab_ok ho.1).1 (patE_ok ho.2.1).2.2 (nameE_lt ho.2.2) hmp hms)) rfl ?_
    refine oP ?_
    refine oP ?_
    refine o_nil ?_
    exact s_retv (rs := [.tmp 6, .tmp 7]) rfl (.tmp rfl (.tmp rfl (.nil))) (fun w' h' => ⟨by rw [if_pos h0, h0]; rfl, h'.below⟩)

end Go.Proofs

namespace Go.Proofs
open Go Go.RowKit Gx
set_option linter.unusedVariables false
set_option linter.unusedSimpArgs false
attribute [local irreducible] Go.Calls Gx.S Gx.O Gx.D Gx.OpP Gx.OpQ Gx.OpH

theorem fn_35 : isFn Tryd.prog 35 = true := by kernel_rfl
theorem fn_41 : isFn Tryd.prog 41 = true := by kernel_rfl


theorem eachF_step {α : Type} {l : List α} {f : α → Int} {k : Nat} {d : α} (h : k < l.length) : eachF ((l.map f).drop k) k = if f (l.getD k d) = 0 then eachF ((l.map f).drop (k + 1)) (k + 1) else ((k : Int), f (l.getD k d)) := by
  rw [eachF_drop (by rw [List.length_map]; exact h), getD_map (d := d) h]
theorem firstI_step {α : Type} {l : List α} {f : α → Int} {k : Nat} {d : α} (h : k < l.length) : firstI ((l.map f).drop k) = if f (l.getD k d) = 0 then firstI ((l.map f).drop (k + 1)) else f (l.getD k d) := by
  rw [firstI_drop (by rw [List.length_map]; exact h), getD_map (d := d) h]

set_option maxRecDepth 20000 in
theorem c35 (w : World) (t : List UInt8) (hmt : t.length ≤ 1000000) : Calls Tryd.prog 35 #[.string (bs t)] w fun en w' => en = .returned (.tuple #[.int .i64 (chkTab t).1, .int .i64 (chkTab t).2]) ∧ Below w.heap.size w w' := by
  refine enter (args := [_]) Tryd.func35 Tryd.ntmps35 rfl rfl (HS.refl w []) ?_
  refine s_seq ?_
  refine s_region ?_
  refine oP ?_
  refine oP ?_
  refine o_nil ?_
  refine s_seq ?_
  refine s_seq ?_
  refine s_region ?_
  refine oP ?_
  refine o_p (p_len_str rfl rfl Tryd.underlying9) rfl ?_
  refine oP ?_
  refine o_nil ?_
  refine s_cond rfl (fun h1 => ?_) (fun h1 => ?_)
  · try simp only [decide_eq_true_eq, decide_eq_false_iff_not, Bool.not_eq_true', Bool.not_eq_false', Bool.and_eq_true, Bool.or_eq_true, Bool.and_eq_false_iff, Bool.or_eq_false_iff, Bool.not_true, Bool.not_false] at h1
    have hl : ¬ t.length = 128 := by have hq := h1; omega
    refine s_seq ?_
    refine s_region ?_
    refine oP ?_
    refine oP ?_
    refine o_nil ?_
    exact s_retv (rs := [.tmp 2, .tmp 3]) rfl (.tmp rfl (.tmp rfl (.nil))) (fun w' h' => ⟨by rw [chkTab, if_neg hl]; rfl, h'.below⟩)
  · try simp only [decide_eq_true_eq, decide_eq_false_iff_not, Bool.not_eq_true', Bool.not_eq_false', Bool.and_eq_true, Bool.or_eq_true, Bool.and_eq_false_iff, Bool.or_eq_false_iff, Bool.not_true, Bool.not_false] at h1
    have hl : t.length = 128 := by have hq := h1; omega
    refine s_skip ?_
    refine s_seq ?_
    refine s_seq ?_
    refine s_region ?_
    refine oP ?_
    refine o_nil ?_
    refine s_block ?_
    refine s_loopI (α := Nat) [2, 3, 4, 9, 10, 11, 12, 13, 14, 15, 16, 17, 18, 19] (fun k => [(4, .int .i64 (k : Int))]) (fun _ => _) (fun k => k ≤ t.length ∧ eachF (t.map rngB) 0 = eachF ((t.map rngB).drop k) k) (fun k => t.length - k) 0 ⟨Nat.zero_le _, rfl⟩ aSx (fun w h => h) (fun k hkk => ?_)
    obtain ⟨hk1, hk2⟩ := hkk
    refine s_seq ?_
    refine s_seq ?_
    refine s_region ?_
    refine oP ?_
    refine oP ?_
    refine o_p (p_len_str rfl rfl Tryd.underlying9) rfl ?_
    refine oP ?_
    refine o_nil ?_
    refine s_cond rfl (fun h2 => ?_) (fun h2 => ?_)
    · try simp only [decide_eq_true_eq, decide_eq_false_iff_not, Bool.not_eq_true', Bool.not_eq_false', Bool.and_eq_true, Bool.or_eq_true, Bool.and_eq_false_iff, Bool.or_eq_false_iff, Bool.not_true, Bool.not_false] at h2
      have hk : k < t.length := by omega
      have hst := eachF_step (f := rngB) (d := 0) hk
      refine s_skip ?_
      refine s_seq ?_
      refine s_block ?_
      refine s_seq ?_
      refine s_region ?_
      refine oP ?_
      refine oP ?_
      refine o_p (p_index_str rfl rfl rfl Tryd.underlying9 (k) (by omega) (by omega)) rfl ?_
      refine oP ?_
      refine o_nil ?_
      refine s_cond rfl (fun h3 => ?_) (fun h3 => ?_)
      · try simp only [decide_eq_true_eq, decide_eq_false_iff_not, Bool.not_eq_true', Bool.not_eq_false', Bool.and_eq_true, Bool.or_eq_true, Bool.and_eq_false_iff, Bool.or_eq_false_iff, Bool.not_true, Bool.not_false] at h3
        have hr2 : rngB (t.getD k 0) = 2 := by unfold rngB; rw [if_neg (by have hq := h3; omega)]
        refine s_seq ?_
        refine s_region ?_
        refine oP ?_
        refine oP ?_
        refine oP ?_
        refine o_nil ?_
        exact s_retv (rs := [.tmp 2, .tmp 3]) rfl (.tmp rfl (.tmp rfl (.nil))) (fun w' h' => ⟨by rw [chkTab, if_pos hl, show eachF (t.map rngB) 0 = ((k : Int), 2) from by rw [hk2, hst, hr2]; rfl, if_neg (by simp)]; rfl, h'.below⟩)
      · try simp only [decide_eq_true_eq, decide_eq_false_iff_not, Bool.not_eq_true', Bool.not_eq_false', Bool.and_eq_true, Bool.or_eq_true, Bool.and_eq_false_iff, Bool.or_eq_false_iff, Bool.not_true, Bool.not_false] at h3
        have hr0 : rngB (t.getD k 0) = 0 := by unfold rngB; rw [if_pos (by have hq := h3; omega)]
        refine s_skip ?_
        refine s_blk ?_
        refine s_region ?_
        refine oP ?_
        refine oP ?_
        try (refine o_slot (i64w (by omega) (by omega)) ?_)
        refine oP ?_
        refine o_nil ?_
        exact s_backI (k + 1) (by omega) ⟨by omega, by rw [hk2, hst, if_pos hr0]⟩ aSx (fun w h => h)
    · try simp only [decide_eq_true_eq, decide_eq_false_iff_not, Bool.not_eq_true', Bool.not_eq_false', Bool.and_eq_true, Bool.or_eq_true, Bool.and_eq_false_iff, Bool.or_eq_false_iff, Bool.not_true, Bool.not_false] at h2
      obtain rfl : k = t.length := by omega
      have h0 : eachF (t.map rngB) 0 = (0, 0) := by rw [hk2]; exact eachF_end (by simp)
      have hall := eachF_0.1 (show (eachF (t.map rngB) 0).2 = 0 by rw [h0])
      refine s_exit_to rfl ?_
      refine s_seq ?_
      refine s_seq ?_
      refine s_region ?_
      refine oP ?_
      refine o_nil ?_
      refine s_block ?_
      refine s_loopI (α := Nat) [2, 3, 5, 20, 21, 22, 23, 24, 25, 26, 27, 28, 29, 30, 31, 32, 33, 34, 35] (fun j => [(5, .int .i64 (j : Int))]) (fun _ => _) (fun j => j ≤ t.length ∧ eachF (t.map (frmB t)) 0 = eachF ((t.map (frmB t)).drop j) j) (fun j => t.length - j) 0 ⟨Nat.zero_le _, rfl⟩ aSx (fun w h => h) (fun j hjj => ?_)
      obtain ⟨hj1, hj2⟩ := hjj
      refine s_seq ?_
      refine s_seq ?_
      refine s_region ?_
      refine oP ?_
      refine oP ?_
      refine o_p (p_len_str rfl rfl Tryd.underlying9) rfl ?_
      refine oP ?_
      refine o_nil ?_
      refine s_cond rfl (fun h4 => ?_) (fun h4 => ?_)
      · try simp only [decide_eq_true_eq, decide_eq_false_iff_not, Bool.not_eq_true', Bool.not_eq_false', Bool.and_eq_true, Bool.or_eq_true, Bool.and_eq_false_iff, Bool.or_eq_false_iff, Bool.not_true, Bool.not_false] at h4
        have hj : j < t.length := by omega
        have hsj := eachF_step (f := frmB t) (d := 0) hj
        have hcj : (t.getD j 0).toNat < t.length := by have h9 := hall _ (List.mem_map.2 ⟨_, getD_mem (d := 0) hj, rfl⟩); unfold rngB at h9; split at h9; (rw [hl]; assumption); (exact absurd h9 (by decide))
        have eJ : ((t.getD (t.getD j 0).toNat 0).toNat : Int) = ((t.getD j 0).toNat : Int) ↔ t.getD (t.getD j 0).toNat 0 = t.getD j 0 := ⟨fun h => UInt8.toNat_inj.1 (by omega), fun h => by rw [h]⟩
        refine s_skip ?_
        refine s_seq ?_
        refine s_block ?_
        refine s_seq ?_
        refine s_draw [] mixed ?_
        refine dP 0 ?_
        refine dP 1 ?_
        refine dP 2 ?_
        refine d_p 3 rfl (p_index_str rfl rfl rfl Tryd.underlying9 (j) (by omega) (by omega)) (by kernel_rfl) rfl rfl ?_
        refine d_p 4 rfl (p_index_str rfl rfl rfl Tryd.underlying9 ((t.getD j 0).toNat) (by omega) (by omega)) (by kernel_rfl) rfl rfl ?_
        refine dP 5 ?_
        refine dP 6 ?_
        refine d_p 7 rfl (p_index_str rfl rfl rfl Tryd.underlying9 (j) (by omega) (by omega)) (by kernel_rfl) rfl rfl ?_
        refine dP 8 ?_
        refine d_nil (by kernel_rfl) (fun w h => h.ent aEt) ?_
        refine s_cond rfl (fun h5 => ?_) (fun h5 => ?_)
        · try simp only [decide_eq_true_eq, decide_eq_false_iff_not, Bool.not_eq_true', Bool.not_eq_false', Bool.and_eq_true, Bool.or_eq_true, Bool.and_eq_false_iff, Bool.or_eq_false_iff, Bool.not_true, Bool.not_false] at h5
          have hf3 : frmB t (t.getD j 0) = 3 := by unfold frmB; rw [if_neg (fun hA => h5 (eJ.2 hA))]
          refine s_seq ?_
          refine s_region ?_
          refine oP ?_
          refine oP ?_
          refine oP ?_
          refine o_nil ?_
          exact s_retv (rs := [.tmp 2, .tmp 3]) rfl (.tmp rfl (.tmp rfl (.nil))) (fun w' h' => ⟨by rw [chkTab, if_pos hl, h0, if_pos rfl, hj2, hsj, if_neg (by rw [hf3]; decide), hf3]; rfl, h'.below⟩)
        · try simp only [decide_eq_true_eq, decide_eq_false_iff_not, Bool.not_eq_true', Bool.not_eq_false', Bool.and_eq_true, Bool.or_eq_true, Bool.and_eq_false_iff, Bool.or_eq_false_iff, Bool.not_true, Bool.not_false] at h5
          have hf0 : frmB t (t.getD j 0) = 0 := by unfold frmB; rw [if_pos (eJ.1 h5)]
          refine s_skip ?_
          refine s_blk ?_
          refine s_region ?_
          refine oP ?_
          refine oP ?_
          try (refine o_slot (i64w (by omega) (by omega)) ?_)
          refine oP ?_
          refine o_nil ?_
          exact s_backI (j + 1) (by omega) ⟨by omega, by rw [hj2, hsj, if_pos hf0]⟩ aSx (fun w h => h)
      · try simp only [decide_eq_true_eq, decide_eq_false_iff_not, Bool.not_eq_true', Bool.not_eq_false', Bool.and_eq_true, Bool.or_eq_true, Bool.and_eq_false_iff, Bool.or_eq_false_iff, Bool.not_true, Bool.not_false] at h4
        obtain rfl : j = t.length := by omega
        refine s_exit_to rfl ?_
        refine s_seq ?_
        refine s_region ?_
        refine oP ?_
        refine oP ?_
        refine o_nil ?_
        exact s_retv (rs := [.tmp 2, .tmp 3]) rfl (.tmp rfl (.tmp rfl (.nil))) (fun w' h' => ⟨by rw [chkTab, if_pos hl, h0, if_pos rfl, hj2, eachF_end (by simp)]; rfl, h'.below⟩)

set_option maxRecDepth 20000 in
theorem c12 (w : World) (t : List UInt8) (hmt : t.length ≤ 1000000) : Calls Tryd.prog 12 #[.string (bs t)] w fun en w' => en = .returned (.int .i64 (chkTab t).2) ∧ Below w.heap.size w w' := by
  refine enter (args := [_]) Tryd.func12 Tryd.ntmps12 rfl rfl (HS.refl w []) ?_
  refine s_seq ?_
  refine s_region ?_
  refine oP ?_
  refine o_nil ?_
  refine s_seq ?_
  refine s_region ?_
  refine oP ?_
  refine o_q (q_call rfl fn_35 rfl (fun w1 h1 => c35 w1 t hmt)) rfl ?_
  refine oP ?_
  refine oP ?_
  refine oP ?_
  refine oP ?_
  refine oP ?_
  refine o_nil ?_
  refine s_seq ?_
  refine s_region ?_
  refine oP ?_
  refine oP ?_
  refine o_nil ?_
  exact s_retv (rs := [.tmp 2]) rfl (.tmp rfl (.nil)) (fun w' h' => ⟨rfl, h'.below⟩)

set_option maxRecDepth 20000 in
theorem c37 (w : World) (t s : List UInt8) (hl : t.length = 128) (hc : ∀ c ∈ s, c.toNat < 128) (hm : s.length ≤ 1000000) : Calls Tryd.prog 37 #[.string (bs t), .string (bs s)] w fun en w' => en = .returned (.string (bs (up t s))) ∧ Below w.heap.size w w' := by
  refine enter (args := [_, _]) Tryd.func37 Tryd.ntmps37 rfl rfl (HS.refl w []) ?_
  refine s_seq ?_
  refine s_region ?_
  refine oP ?_
  refine o_nil ?_
  refine s_seq ?_
  refine s_region ?_
  refine oP ?_
  refine o_nil ?_
  refine s_seq ?_
  refine s_seq ?_
  refine s_region ?_
  refine oP ?_
  refine o_nil ?_
  refine s_block ?_
  refine s_loopI (α := Nat) [5, 6, 7, 8, 9, 10, 11, 12, 13, 14, 15, 16, 17, 18, 19, 20, 21] (fun k => [(6, .int .i64 (k : Int)), (5, .string (bs ((up t s).take k)))]) (fun _ => HS w [] []) (fun k => k ≤ s.length) (fun k => s.length - k) 0 (Nat.zero_le _) aSx (fun w h => h.ent aEt) (fun k hk1 => ?_)
  refine s_seq ?_
  refine s_seq ?_
  refine s_region ?_
  refine oP ?_
  refine oP ?_
  refine o_p (p_len_str rfl rfl Tryd.underlying9) rfl ?_
  refine oP ?_
  refine o_nil ?_
  refine s_cond rfl (fun h1 => ?_) (fun h1 => ?_)
  · try simp only [decide_eq_true_eq, decide_eq_false_iff_not, Bool.not_eq_true', Bool.not_eq_false', Bool.and_eq_true, Bool.or_eq_true, Bool.and_eq_false_iff, Bool.or_eq_false_iff, Bool.not_true, Bool.not_false] at h1
    have hk : k < s.length := by omega
    have hck := hc (s.getD k 0) (getD_mem hk)
    have hul := up_len t s
    have hsu : (up t s).take (k + 1) = (up t s).take k ++ [t.getD (s.getD k 0).toNat 0] := by rw [take_succ_getD (d := 0) (by omega)]; unfold up; rw [getD_map (d := 0) hk]
    refine s_skip ?_
    refine s_seq ?_
    refine s_block ?_
    refine s_region ?_
    refine oP ?_
    refine oP ?_
    refine oP ?_
    refine oP ?_
    refine o_p (p_index_str rfl rfl rfl Tryd.underlying9 (k) (by omega) (by omega)) rfl ?_
    refine o_p (p_index_str rfl rfl rfl Tryd.underlying9 ((s.getD k 0).toNat) (by omega) (by omega)) rfl ?_
    refine o_h (h_buildSlice (cs := [_]) rfl rfl sl_92 zr_5 rfl rfl rfl) rfl (fun b2 _ => ?_)
    refine o_q (q_string_blk rfl rfl Tryd.underlying92 Tryd.underlying9 Tryd.underlying5 aPk (by simp) (by intro v hv; simp only [List.mem_cons, List.mem_nil_iff, or_false] at hv; subst hv; rfl)) rfl ?_
    refine o_slot (show _ = Value.string (bs [t.getD (s.getD k 0).toNat 0]) from by simp [Gx.vByte, Go.RowKit.intOf]) ?_
    refine o_p (p_str_add rfl rfl rfl (by (try simp only [List.length_append, List.length_cons, List.length_nil, List.length_replicate, List.length_take, List.length_drop]); omega)) rfl ?_
    refine oP ?_
    refine o_nil ?_
    refine s_blk ?_
    refine s_region ?_
    refine oP ?_
    refine oP ?_
    try (refine o_slot (i64w (by omega) (by omega)) ?_)
    refine oP ?_
    refine o_nil ?_
    exact s_backI (k + 1) (by omega) (by omega) (by (try dsimp only); rw [hsu]; exact aSx) (fun w h => h.ent aEt)
  · try simp only [decide_eq_true_eq, decide_eq_false_iff_not, Bool.not_eq_true', Bool.not_eq_false', Bool.and_eq_true, Bool.or_eq_true, Bool.and_eq_false_iff, Bool.or_eq_false_iff, Bool.not_true, Bool.not_false] at h1
    obtain rfl : k = s.length := by omega
    refine s_exit_to rfl ?_
    refine s_seq ?_
    refine s_region ?_
    refine oP ?_
    refine oP ?_
    refine o_nil ?_
    exact s_retv (rs := [.tmp 4]) rfl (.tmp rfl (.nil)) (fun w' h' => ⟨by simp only [retV]; rw [List.take_of_length_le (by rw [up_len]; exact Nat.le_refl _)], h'.below⟩)

set_option maxRecDepth 20000 in
theorem c38 (w : World)  : Calls Tryd.prog 38 #[] w fun en w' => en = .returned (.string (bs stdT)) ∧ Below w.heap.size w w' := by
  refine enter (args := []) Tryd.func38 Tryd.ntmps38 rfl rfl (HS.refl w []) ?_
  refine s_seq ?_
  refine s_region ?_
  refine oP ?_
  refine o_nil ?_
  refine s_seq ?_
  refine s_region ?_
  refine o_h (h_make (n := 128) rfl rfl rfl sl_92 zr_5 (by omega) (by omega)) rfl (fun b1 _ => ?_)
  refine oP ?_
  refine o_nil ?_
  refine s_seq ?_
  refine s_seq ?_
  refine s_region ?_
  refine oP ?_
  refine o_nil ?_
  refine s_block ?_
  refine s_loopI (α := Nat) [2, 4, 5, 6, 7, 8, 9, 10, 11, 12, 13, 14, 15, 16, 17, 18, 19, 20] (fun k => [(2, .int .i64 (k : Int))]) (fun k => HS w [] [.blk b1 5 (128 * 1) ((mixS k).map bv)]) (fun k => k ≤ 128) (fun k => 128 - k) 0 (Nat.zero_le _) aSx (fun w h => h.ent aEt) (fun k hk1 => ?_)
  refine s_seq ?_
  refine s_seq ?_
  refine s_region ?_
  refine oP ?_
  refine oP ?_
  refine o_nil ?_
  refine s_cond rfl (fun h2 => ?_) (fun h2 => ?_)
  · try simp only [decide_eq_true_eq, decide_eq_false_iff_not, Bool.not_eq_true', Bool.not_eq_false', Bool.and_eq_true, Bool.or_eq_true, Bool.and_eq_false_iff, Bool.or_eq_false_iff, Bool.not_true, Bool.not_false] at h2
    have hk : k < 128 := by omega
    have hkm : k < (mixS k).length := by rw [mixS_len hk1]; exact hk
    refine s_skip ?_
    refine s_seq ?_
    refine s_block ?_
    refine s_seq ?_
    refine s_region ?_
    refine oP ?_
    refine oP ?_
    refine oP ?_
    refine o_p (p_conv_int rfl rfl ki_3 ki_5) rfl ?_
    refine o_slot (show _ = bv (UInt8.ofNat k) from by unfold bv; congr 1 <;> (rw [UInt8.toNat_ofNat', wrap_u8 k (by omega)]; omega)) ?_
    refine o_p (p_indexAddr rfl rfl rfl sl_92 (k) (by omega) (by omega) rfl) rfl ?_
    refine o_slot (show _ = Value.pointer (some ⟨b1, k * 1, none⟩) from by rw [Nat.zero_add]) ?_
    refine o_h0 (h_store rfl rfl rfl sz_5 rfl aPt (by simp only [setMany_length, List.length_set, List.length_cons, List.length_nil, List.length_map]; omega) rfl) (fun _ _ => ?_)
    refine o_nil ?_
    refine s_seq ?_
    refine s_region ?_
    refine oP ?_
    refine o_q (q_call rfl fn_41 rfl (fun w1 h1 => c41 w1 _ _ _)) rfl ?_
    refine o_nil ?_
    refine s_cond rfl (fun h3 => ?_) (fun h3 => ?_)
    · try simp only [decide_eq_true_eq, decide_eq_false_iff_not, Bool.not_eq_true', Bool.not_eq_false', Bool.and_eq_true, Bool.or_eq_true, Bool.and_eq_false_iff, Bool.or_eq_false_iff, Bool.not_true, Bool.not_false] at h3
      have hq := h3
      have hsk : stdB k = UInt8.ofNat (k - 32) := by unfold stdB; rw [if_pos (by omega)]
      refine s_region ?_
      refine oP ?_
      refine oP ?_
      refine oP ?_
      refine oP ?_
      try (refine o_slot (i64w (by omega) (by omega)) ?_)
      refine o_p (p_conv_int rfl rfl ki_3 ki_5) rfl ?_
      refine o_slot (show _ = bv (stdB k) from by rw [hsk]; unfold bv; congr 1; rw [UInt8.toNat_ofNat', show ((k : Int) - 32) = ((k - 32 : Nat) : Int) from by omega, wrap_u8 _ (by omega)]; omega) ?_
      refine o_p (p_indexAddr rfl rfl rfl sl_92 (k) (by omega) (by omega) rfl) rfl ?_
      refine o_slot (show _ = Value.pointer (some ⟨b1, k * 1, none⟩) from by rw [Nat.zero_add]) ?_
      refine o_h0 (h_store rfl rfl rfl sz_5 rfl aPt (by simp only [setMany_length, List.length_set, List.length_cons, List.length_nil, List.length_map]; omega) rfl) (fun _ _ => ?_)
      refine o_nil ?_
      refine s_blk ?_
      refine s_region ?_
      refine oP ?_
      refine oP ?_
      try (refine o_slot (i64w (by omega) (by omega)) ?_)
      refine oP ?_
      refine o_nil ?_
      exact s_backI (k + 1) (by omega) (by omega) aSx (fun w h => by have h1 := HS.blk_to (b := b1) h aPk (show setMany (setMany ((mixS k).map bv) (k * 1) [bv (UInt8.ofNat k)]) (k * 1) [bv (stdB k)] = ((mixS k).set k (stdB k)).map bv from by rw [bset hkm rfl, bset (by rw [List.length_set]; exact hkm) rfl, List.set_set]); rw [mixS_set hk] at h1; exact h1.ent aEt)
    · try simp only [decide_eq_true_eq, decide_eq_false_iff_not, Bool.not_eq_true', Bool.not_eq_false', Bool.and_eq_true, Bool.or_eq_true, Bool.and_eq_false_iff, Bool.or_eq_false_iff, Bool.not_true, Bool.not_false] at h3
      have hq := h3
      have hsk : stdB k = UInt8.ofNat k := by unfold stdB; rw [if_neg (by omega)]
      refine s_skip ?_
      refine s_blk ?_
      refine s_region ?_
      refine oP ?_
      refine oP ?_
      try (refine o_slot (i64w (by omega) (by omega)) ?_)
      refine oP ?_
      refine o_nil ?_
      exact s_backI (k + 1) (by omega) (by omega) aSx (fun w h => by have h1 := HS.blk_to (b := b1) h aPk (bset (x := UInt8.ofNat k) hkm rfl); rw [← hsk, mixS_set hk] at h1; exact h1.ent aEt)
  · try simp only [decide_eq_true_eq, decide_eq_false_iff_not, Bool.not_eq_true', Bool.not_eq_false', Bool.and_eq_true, Bool.or_eq_true, Bool.and_eq_false_iff, Bool.or_eq_false_iff, Bool.not_true, Bool.not_false] at h2
    obtain rfl : k = 128 := by omega
    refine s_exit_to rfl ?_
    refine s_seq ?_
    refine s_region ?_
    refine oP ?_
    refine o_q (q_string_blk rfl rfl Tryd.underlying92 Tryd.underlying9 Tryd.underlying5 aPk (by simp [mixS_len]) (isU8_bv _)) rfl ?_
    refine oP ?_
    refine o_nil ?_
    exact s_retv (rs := [.tmp 0]) rfl (.tmp rfl (.nil)) (fun w' h' => ⟨by simp only [vByte_bv]; simp [mixS, stdT_len, List.take_of_length_le]; rfl, h'.below⟩)

end Go.Proofs

namespace Go.Proofs
open Go Go.RowKit Gx
set_option linter.unusedVariables false
set_option linter.unusedSimpArgs false
attribute [local irreducible] Go.Calls Gx.S Gx.O Gx.D Gx.OpP Gx.OpQ Gx.OpH

theorem fn_49 : isFn Tryd.prog 49 = true := by kernel_rfl
theorem fn_14 : isFn Tryd.prog 14 = true := by kernel_rfl


theorem suf_one {s : List UInt8} {c : UInt8} (h : 0 < s.length) : [c].isSuffixOf s = decide (s.getD (s.length - 1) 0 = c) := by
  rcases List.eq_nil_or_concat s with e | ⟨r, x, e⟩
  · subst e; simp at h
  · rw [List.concat_eq_append] at e
    subst e
    have e1 : (r ++ [x]).getD ((r ++ [x]).length - 1) 0 = x := by
      rw [List.getD_eq_getElem?_getD, List.length_append, List.length_singleton, Nat.add_sub_cancel, List.getElem?_append_right (Nat.le_refl _), Nat.sub_self]
      rfl
    rw [e1, Bool.eq_iff_iff, List.isSuffixOf_iff_suffix, decide_eq_true_eq]
    constructor
    · rintro ⟨t, ht⟩
      have := List.append_inj_right' ht rfl
      simpa using this.symm
    · rintro rfl
      exact ⟨r, rfl⟩
theorem all_step {s : List UInt8} {p : UInt8 → Bool} {k : Nat} (h : k < s.length) : (s.take (k + 1)).all p = ((s.take k).all p && p (s.getD k 0)) := by
  rw [take_succ_getD (d := 0) h, List.all_append]
  simp
theorem all_hit {s : List UInt8} {p : UInt8 → Bool} {k : Nat} (h : k < s.length) (hp : p (s.getD k 0) = false) : s.all p = false := by
  rw [List.all_eq_false]
  exact ⟨s.getD k 0, getD_mem h, by rw [hp]; simp⟩
/-- Legal as the reference says it. -/
theorem legalS_r {s : List UInt8} (h : 0 < s.length) (hl : s.length ≤ 32) (h1 : ¬ s = [46, 46]) (h2 : ¬ s.getD (s.length - 1) 0 = 32) (h3 : ¬ s.getD (s.length - 1) 0 = 46) : legalS s = s.all legalB := by
  unfold legalS
  rw [suf_one h, suf_one h, decide_eq_false h1, decide_eq_false h2, decide_eq_false h3, decide_eq_false (by intro e; rw [e] at h; simp at h), decide_eq_true hl]
  simp
theorem legalS_f {s : List UInt8} (h : s = [] ∨ s = [46, 46] ∨ (0 < s.length ∧ (s.getD (s.length - 1) 0 = 32 ∨ s.getD (s.length - 1) 0 = 46))) : legalS s = false := by
  unfold legalS
  rcases h with h | h | ⟨h0, h | h⟩
  · simp [h]
  · simp [h]
  · rw [suf_one h0, decide_eq_true h]; simp
  · rw [suf_one (c := 46) h0, decide_eq_true h]; simp

set_option maxRecDepth 20000 in
theorem c49 (w : World) (c : UInt8) : Calls Tryd.prog 49 #[.int .u8 (c.toNat : Int)] w fun en w' => en = .returned (.bool (legalB c)) ∧ Below w.heap.size w w' := by
  have hns : ¬ c ∈ refusedL → (refusedL.contains c) = false := by intro h; simpa using h
  refine enter (args := [_]) Tryd.func49 Tryd.ntmps49 rfl rfl (HS.refl w []) ?_
  refine s_seq ?_
  refine s_region ?_
  refine oP ?_
  refine o_nil ?_
  refine s_seq ?_
  refine s_seq ?_
  refine s_region ?_
  refine oP ?_
  refine oP ?_
  refine oP ?_
  refine o_or 3 6 9 _ _ rfl
    (by
      intro hg1
      have hs2 := hg1; try simp only [decide_eq_true_eq, decide_eq_false_iff_not, Bool.not_eq_true', Bool.not_eq_false', Bool.and_eq_true, Bool.or_eq_true, Bool.and_eq_false_iff, Bool.or_eq_false_iff, Bool.not_true, Bool.not_false] at hs2
      refine o_on 6 _ rfl rfl hg1 ?_
      refine oP ?_
      refine o_on 6 _ rfl rfl hg1 ?_
      refine oP ?_
      refine o_p (p_pickf rfl rfl hg1 rfl) rfl ?_
      refine o_nil ?_
      exact s_joinN 3 9 _ rfl rfl rfl (fun w h => by first | exact h | exact h.ent aEt))
    (by
      intro hg3
      have hs4 := hg3; try simp only [decide_eq_true_eq, decide_eq_false_iff_not, Bool.not_eq_true', Bool.not_eq_false', Bool.and_eq_true, Bool.or_eq_true, Bool.and_eq_false_iff, Bool.or_eq_false_iff, Bool.not_true, Bool.not_false] at hs4
      refine o_off 6 _ rfl rfl hg3 rfl ?_
      refine o_off 6 _ rfl rfl hg3 rfl ?_
      refine o_p (p_pickt rfl rfl hg3 rfl) rfl ?_
      refine o_nil ?_
      exact s_joinN 3 9 _ rfl rfl rfl (fun w h => by first | exact h | exact h.ent aEt)) ?_
  refine o_nil ?_
  refine s_cond rfl (fun h5 => ?_) (fun h5 => ?_)
  · try simp only [decide_eq_true_eq, decide_eq_false_iff_not, Bool.not_eq_true', Bool.not_eq_false', Bool.and_eq_true, Bool.or_eq_true, Bool.and_eq_false_iff, Bool.or_eq_false_iff, Bool.not_true, Bool.not_false] at h5
    refine s_seq ?_
    refine s_region ?_
    refine oP ?_
    refine o_nil ?_
    exact s_retv (rs := [.tmp 2]) rfl (.tmp rfl (.nil)) (fun w' h' => ⟨by unfold legalB; simp only [retV]; by_cases hA : 32 ≤ c.toNat; (by_cases hB : c.toNat ≤ 126; (exfalso; omega); simp [hA, hB]); simp [hA], h'.below⟩)
  · try simp only [decide_eq_true_eq, decide_eq_false_iff_not, Bool.not_eq_true', Bool.not_eq_false', Bool.and_eq_true, Bool.or_eq_true, Bool.and_eq_false_iff, Bool.or_eq_false_iff, Bool.not_true, Bool.not_false] at h5
    have hc1 : 32 ≤ c.toNat ∧ c.toNat ≤ 126 := by have hq := h5; omega
    refine s_skip ?_
    refine s_seq ?_
    refine s_seq ?_
    refine s_region ?_
    refine oP ?_
    refine o_nil ?_
    refine s_block ?_
    refine s_loopI (α := Nat) [2, 3, 10, 11, 12, 13, 14, 15, 16, 17] (fun k => [(3, .int .i64 (k : Int))]) (fun _ => _) (fun k => k ≤ 9 ∧ ∀ j, j < k → ¬ refusedL.getD j 0 = c) (fun k => 9 - k) 0 ⟨Nat.zero_le _, fun j h => absurd h (Nat.not_lt_zero j)⟩ aSx (fun w h => h) (fun k hkk => ?_)
    obtain ⟨hk1, hk2⟩ := hkk
    refine s_seq ?_
    refine s_seq ?_
    refine s_region ?_
    refine oP ?_
    refine oP ?_
    refine o_nil ?_
    refine s_cond rfl (fun h6 => ?_) (fun h6 => ?_)
    · try simp only [decide_eq_true_eq, decide_eq_false_iff_not, Bool.not_eq_true', Bool.not_eq_false', Bool.and_eq_true, Bool.or_eq_true, Bool.and_eq_false_iff, Bool.or_eq_false_iff, Bool.not_true, Bool.not_false] at h6
      have hk : k < refusedL.length := by show k < 9; omega
      refine s_skip ?_
      refine s_seq ?_
      refine s_block ?_
      refine s_seq ?_
      refine s_region ?_
      refine oP ?_
      refine o_p (p_index_str rfl rfl rfl Tryd.underlying9 (k) (by omega) (by show k < 9; omega)) rfl ?_
      refine oP ?_
      refine oP ?_
      refine o_nil ?_
      refine s_cond rfl (fun h7 => ?_) (fun h7 => ?_)
      · try simp only [decide_eq_true_eq, decide_eq_false_iff_not, Bool.not_eq_true', Bool.not_eq_false', Bool.and_eq_true, Bool.or_eq_true, Bool.and_eq_false_iff, Bool.or_eq_false_iff, Bool.not_true, Bool.not_false] at h7
        have hin : c ∈ refusedL := by have hq2 : ((refusedL.getD k 0).toNat : Int) = (c.toNat : Int) := h7; have e9 : refusedL.getD k 0 = c := UInt8.toNat_inj.1 (by omega); rw [← e9]; exact getD_mem hk
        refine s_seq ?_
        refine s_region ?_
        refine oP ?_
        refine o_nil ?_
        exact s_retv (rs := [.tmp 2]) rfl (.tmp rfl (.nil)) (fun w' h' => ⟨by unfold legalB; simp [retV, hin], h'.below⟩)
      · try simp only [decide_eq_true_eq, decide_eq_false_iff_not, Bool.not_eq_true', Bool.not_eq_false', Bool.and_eq_true, Bool.or_eq_true, Bool.and_eq_false_iff, Bool.or_eq_false_iff, Bool.not_true, Bool.not_false] at h7
        have hne : ¬ refusedL.getD k 0 = c := by intro hA; have hq : ¬ ((refusedL.getD k 0).toNat : Int) = (c.toNat : Int) := h7; rw [hA] at hq; exact hq rfl
        refine s_skip ?_
        refine s_blk ?_
        refine s_region ?_
        refine oP ?_
        refine oP ?_
        try (refine o_slot (i64w (by omega) (by omega)) ?_)
        refine oP ?_
        refine o_nil ?_
        exact s_backI (k + 1) (by omega) ⟨by omega, fun j hj => (Nat.lt_succ_iff_lt_or_eq.1 hj).elim (hk2 j) (fun e => by rw [e]; exact hne)⟩ aSx (fun w h => h)
    · try simp only [decide_eq_true_eq, decide_eq_false_iff_not, Bool.not_eq_true', Bool.not_eq_false', Bool.and_eq_true, Bool.or_eq_true, Bool.and_eq_false_iff, Bool.or_eq_false_iff, Bool.not_true, Bool.not_false] at h6
      have hni : ¬ c ∈ refusedL := by intro hm; obtain ⟨j, hj, e⟩ := mem_getD (d := 0) hm; exact hk2 j (by have : j < 9 := hj; omega) e
      refine s_exit_to rfl ?_
      refine s_seq ?_
      refine s_region ?_
      refine oP ?_
      refine o_nil ?_
      exact s_retv (rs := [.tmp 2]) rfl (.tmp rfl (.nil)) (fun w' h' => ⟨by unfold legalB; simp only [retV, hns hni, decide_eq_true hc1.1, decide_eq_true hc1.2]; rfl, h'.below⟩)

set_option maxRecDepth 20000 in
theorem c14 (w : World) (s : List UInt8) (hm : s.length ≤ 9223372036854775807) : Calls Tryd.prog 14 #[.string (bs s)] w fun en w' => en = .returned (.int .i64 (nameE s)) ∧ Below w.heap.size w w' := by
  have e32 : 0 < s.length → (((s.getD (s.length - 1) 0).toNat : Int) = 32 ↔ s.getD (s.length - 1) 0 = 32) := fun _ => ⟨fun h => UInt8.toNat_inj.1 (by show (s.getD (s.length - 1) 0).toNat = 32; omega), fun h => by rw [h]; rfl⟩
  have e46 : 0 < s.length → (((s.getD (s.length - 1) 0).toNat : Int) = 46 ↔ s.getD (s.length - 1) 0 = 46) := fun _ => ⟨fun h => UInt8.toNat_inj.1 (by show (s.getD (s.length - 1) 0).toNat = 46; omega), fun h => by rw [h]; rfl⟩
  have hpos : ¬ s = [] → 0 < s.length := fun h => List.length_pos_iff.2 h
  refine enter (args := [_]) Tryd.func14 Tryd.ntmps14 rfl rfl (HS.refl w []) ?_
  refine s_seq ?_
  refine s_region ?_
  refine oP ?_
  refine o_nil ?_
  refine s_seq ?_
  refine s_seq ?_
  refine s_region ?_
  refine oP ?_
  refine o_p (p_len_str rfl rfl Tryd.underlying9) rfl ?_
  refine oP ?_
  refine o_nil ?_
  refine s_cond rfl (fun h1 => ?_) (fun h1 => ?_)
  · try simp only [decide_eq_true_eq, decide_eq_false_iff_not, Bool.not_eq_true', Bool.not_eq_false', Bool.and_eq_true, Bool.or_eq_true, Bool.and_eq_false_iff, Bool.or_eq_false_iff, Bool.not_true, Bool.not_false] at h1
    have hl : ¬ s.length ≤ 32 := by have hq := h1; omega
    refine s_seq ?_
    refine s_region ?_
    refine oP ?_
    refine o_nil ?_
    exact s_retv (rs := [.tmp 2]) rfl (.tmp rfl (.nil)) (fun w' h' => ⟨by rw [nameE, if_neg hl]; rfl, h'.below⟩)
  · try simp only [decide_eq_true_eq, decide_eq_false_iff_not, Bool.not_eq_true', Bool.not_eq_false', Bool.and_eq_true, Bool.or_eq_true, Bool.and_eq_false_iff, Bool.or_eq_false_iff, Bool.not_true, Bool.not_false] at h1
    have hl : s.length ≤ 32 := by have hq := h1; omega
    refine s_skip ?_
    refine s_seq ?_
    refine s_seq ?_
    refine s_region ?_
    refine oP ?_
    refine oP ?_
    refine oP ?_
    refine o_or 3 9 12 _ _ rfl
      (by
        intro hg2
        have hs3 := hg2; try simp only [decide_eq_true_eq, decide_eq_false_iff_not, Bool.not_eq_true', Bool.not_eq_false', Bool.and_eq_true, Bool.or_eq_true, Bool.and_eq_false_iff, Bool.or_eq_false_iff, Bool.not_true, Bool.not_false] at hs3
        refine o_on 9 _ rfl rfl hg2 ?_
        refine oP ?_
        refine o_on 9 _ rfl rfl hg2 ?_
        refine oP ?_
        refine o_p (p_pickf rfl rfl hg2 rfl) rfl ?_
        refine o_nil ?_
        exact s_joinN 3 12 _ rfl rfl rfl (fun w h => by first | exact h | exact h.ent aEt))
      (by
        intro hg4
        have hs5 := hg4; try simp only [decide_eq_true_eq, decide_eq_false_iff_not, Bool.not_eq_true', Bool.not_eq_false', Bool.and_eq_true, Bool.or_eq_true, Bool.and_eq_false_iff, Bool.or_eq_false_iff, Bool.not_true, Bool.not_false] at hs5
        refine o_off 9 _ rfl rfl hg4 rfl ?_
        refine o_off 9 _ rfl rfl hg4 rfl ?_
        refine o_p (p_pickt rfl rfl hg4 rfl) rfl ?_
        refine o_nil ?_
        exact s_joinN 3 12 _ rfl rfl rfl (fun w h => by first | exact h | exact h.ent aEt)) ?_
    refine oP ?_
    refine o_or 3 13 16 _ _ rfl
      (by
        intro hg6
        have hs7 := hg6; try simp only [decide_eq_true_eq, decide_eq_false_iff_not, Bool.not_eq_true', Bool.not_eq_false', Bool.and_eq_true, Bool.or_eq_true, Bool.and_eq_false_iff, Bool.or_eq_false_iff, Bool.not_true, Bool.not_false] at hs7
        refine o_on 13 _ rfl rfl hg6 ?_
        refine oP ?_
        refine o_on 13 _ rfl rfl hg6 ?_
        refine oP ?_
        refine o_p (p_pickf rfl rfl hg6 rfl) rfl ?_
        refine o_nil ?_
        exact s_joinN 3 16 _ rfl rfl rfl (fun w h => by first | exact h | exact h.ent aEt))
      (by
        intro hg8
        have hs9 := hg8; try simp only [decide_eq_true_eq, decide_eq_false_iff_not, Bool.not_eq_true', Bool.not_eq_false', Bool.and_eq_true, Bool.or_eq_true, Bool.and_eq_false_iff, Bool.or_eq_false_iff, Bool.not_true, Bool.not_false] at hs9
        refine o_off 13 _ rfl rfl hg8 rfl ?_
        refine o_off 13 _ rfl rfl hg8 rfl ?_
        refine o_p (p_pickt rfl rfl hg8 rfl) rfl ?_
        refine o_nil ?_
        exact s_joinN 3 16 _ rfl rfl rfl (fun w h => by first | exact h | exact h.ent aEt)) ?_
    refine oP ?_
    refine o_or 7 17 24 _ _ rfl
      (by
        intro hg10
        have hs11 := hg10; try simp only [decide_eq_true_eq, decide_eq_false_iff_not, Bool.not_eq_true', Bool.not_eq_false', Bool.and_eq_true, Bool.or_eq_true, Bool.and_eq_false_iff, Bool.or_eq_false_iff, Bool.not_true, Bool.not_false] at hs11
        refine o_on 17 _ rfl rfl hg10 ?_
        refine oP ?_
        refine o_on 17 _ rfl rfl hg10 ?_
        refine oP ?_
        refine o_on 17 _ rfl rfl hg10 ?_
        refine o_p (p_len_str rfl rfl Tryd.underlying9) rfl ?_
        refine o_on 17 _ rfl rfl hg10 ?_
        refine oP ?_
        try (refine o_slot (i64w (by omega) (by omega)) ?_)
        have hp9 : 0 < s.length := hpos (by have hq := hg10; simp at hq; grind)
        refine o_on 17 _ rfl rfl hg10 ?_
        refine o_p (p_index_str rfl rfl rfl Tryd.underlying9 (s.length - 1) (by omega) (by omega)) rfl ?_
        refine o_on 17 _ rfl rfl hg10 ?_
        refine oP ?_
        refine o_p (p_pickf rfl rfl hg10 rfl) rfl ?_
        refine o_nil ?_
        exact s_joinN 7 24 _ rfl rfl rfl (fun w h => by first | exact h | exact h.ent aEt))
      (by
        intro hg12
        have hs13 := hg12; try simp only [decide_eq_true_eq, decide_eq_false_iff_not, Bool.not_eq_true', Bool.not_eq_false', Bool.and_eq_true, Bool.or_eq_true, Bool.and_eq_false_iff, Bool.or_eq_false_iff, Bool.not_true, Bool.not_false] at hs13
        refine o_off 17 _ rfl rfl hg12 rfl ?_
        refine o_off 17 _ rfl rfl hg12 rfl ?_
        refine o_off 17 _ rfl rfl hg12 rfl ?_
        refine o_off 17 _ rfl rfl hg12 rfl ?_
        refine o_off 17 _ rfl rfl hg12 rfl ?_
        refine o_off 17 _ rfl rfl hg12 rfl ?_
        refine o_p (p_pickt rfl rfl hg12 rfl) rfl ?_
        refine o_nil ?_
        exact s_joinN 7 24 _ rfl rfl rfl (fun w h => by first | exact h | exact h.ent aEt)) ?_
    refine oP ?_
    refine o_or 7 25 32 _ _ rfl
      (by
        intro hg14
        have hs15 := hg14; try simp only [decide_eq_true_eq, decide_eq_false_iff_not, Bool.not_eq_true', Bool.not_eq_false', Bool.and_eq_true, Bool.or_eq_true, Bool.and_eq_false_iff, Bool.or_eq_false_iff, Bool.not_true, Bool.not_false] at hs15
        refine o_on 25 _ rfl rfl hg14 ?_
        refine oP ?_
        refine o_on 25 _ rfl rfl hg14 ?_
        refine oP ?_
        refine o_on 25 _ rfl rfl hg14 ?_
        refine o_p (p_len_str rfl rfl Tryd.underlying9) rfl ?_
        refine o_on 25 _ rfl rfl hg14 ?_
        refine oP ?_
        try (refine o_slot (i64w (by omega) (by omega)) ?_)
        have hp9 : 0 < s.length := hpos (by have hq := hg14; simp at hq; grind)
        refine o_on 25 _ rfl rfl hg14 ?_
        refine o_p (p_index_str rfl rfl rfl Tryd.underlying9 (s.length - 1) (by omega) (by omega)) rfl ?_
        refine o_on 25 _ rfl rfl hg14 ?_
        refine oP ?_
        refine o_p (p_pickf rfl rfl hg14 rfl) rfl ?_
        refine o_nil ?_
        exact s_joinN 7 32 _ rfl rfl rfl (fun w h => by first | exact h | exact h.ent aEt))
      (by
        intro hg16
        have hs17 := hg16; try simp only [decide_eq_true_eq, decide_eq_false_iff_not, Bool.not_eq_true', Bool.not_eq_false', Bool.and_eq_true, Bool.or_eq_true, Bool.and_eq_false_iff, Bool.or_eq_false_iff, Bool.not_true, Bool.not_false] at hs17
        refine o_off 25 _ rfl rfl hg16 rfl ?_
        refine o_off 25 _ rfl rfl hg16 rfl ?_
        refine o_off 25 _ rfl rfl hg16 rfl ?_
        refine o_off 25 _ rfl rfl hg16 rfl ?_
        refine o_off 25 _ rfl rfl hg16 rfl ?_
        refine o_off 25 _ rfl rfl hg16 rfl ?_
        refine o_p (p_pickt rfl rfl hg16 rfl) rfl ?_
        refine o_nil ?_
        exact s_joinN 7 32 _ rfl rfl rfl (fun w h => by first | exact h | exact h.ent aEt)) ?_
    refine o_nil ?_
    refine s_cond rfl (fun h18 => ?_) (fun h18 => ?_)
    · try simp only [decide_eq_true_eq, decide_eq_false_iff_not, Bool.not_eq_true', Bool.not_eq_false', Bool.and_eq_true, Bool.or_eq_true, Bool.and_eq_false_iff, Bool.or_eq_false_iff, Bool.not_true, Bool.not_false] at h18
      have hf : legalS s = false := by have hq := h18; apply legalS_f; by_cases hz : s = []; (exact .inl hz); (have hp := hpos hz; simp only [e32 hp, e46 hp] at hq; rcases hq with (((hq | hq) | hq) | hq) | hq; (exact absurd hq hz); (exact .inr (.inr ⟨hp, .inr (by rw [hq]; rfl)⟩)); (exact .inr (.inl hq)); (exact .inr (.inr ⟨hp, .inl hq⟩)); (exact .inr (.inr ⟨hp, .inr hq⟩)))
      refine s_seq ?_
      refine s_region ?_
      refine oP ?_
      refine o_nil ?_
      exact s_retv (rs := [.tmp 2]) rfl (.tmp rfl (.nil)) (fun w' h' => ⟨by rw [nameE, if_pos hl, hf]; rfl, h'.below⟩)
    · try simp only [decide_eq_true_eq, decide_eq_false_iff_not, Bool.not_eq_true', Bool.not_eq_false', Bool.and_eq_true, Bool.or_eq_true, Bool.and_eq_false_iff, Bool.or_eq_false_iff, Bool.not_true, Bool.not_false] at h18
      have hq := h18
      have hz : ¬ s = [] := hq.1.1.1.1
      have hp := hpos hz
      simp only [e32 hp, e46 hp] at hq
      have hr := legalS_r hp hl hq.1.1.2 hq.1.2 hq.2
      refine s_skip ?_
      refine s_seq ?_
      refine s_seq ?_
      refine s_region ?_
      refine oP ?_
      refine o_nil ?_
      refine s_block ?_
      refine s_weaken (L' := [(0, _), (2, _), (3, _)]) aSx (fun _ h => h) ?_
      refine s_loopI (α := Nat) [2, 3, 33, 34, 35, 36, 37, 38, 39, 40, 41, 42, 43] (fun k => [(3, .int .i64 (k : Int))]) (fun _ => _) (fun k => k ≤ s.length ∧ (s.take k).all legalB = true) (fun k => s.length - k) 0 ⟨Nat.zero_le _, rfl⟩ aSx (fun w h => h) (fun k hkk => ?_)
      obtain ⟨hk1, hk2⟩ := hkk
      refine s_seq ?_
      refine s_seq ?_
      refine s_region ?_
      refine oP ?_
      refine oP ?_
      refine o_p (p_len_str rfl rfl Tryd.underlying9) rfl ?_
      refine oP ?_
      refine o_nil ?_
      refine s_cond rfl (fun h19 => ?_) (fun h19 => ?_)
      · try simp only [decide_eq_true_eq, decide_eq_false_iff_not, Bool.not_eq_true', Bool.not_eq_false', Bool.and_eq_true, Bool.or_eq_true, Bool.and_eq_false_iff, Bool.or_eq_false_iff, Bool.not_true, Bool.not_false] at h19
        have hk : k < s.length := by omega
        have hst := all_step (p := legalB) hk
        refine s_skip ?_
        refine s_seq ?_
        refine s_block ?_
        refine s_seq ?_
        refine s_region ?_
        refine oP ?_
        refine oP ?_
        refine o_p (p_index_str rfl rfl rfl Tryd.underlying9 (k) (by omega) (by omega)) rfl ?_
        refine o_q (q_call rfl fn_49 rfl (fun w1 h1 => c49 w1 (s.getD k 0))) rfl ?_
        refine oP ?_
        refine o_nil ?_
        refine s_cond rfl (fun h20 => ?_) (fun h20 => ?_)
        · try simp only [decide_eq_true_eq, decide_eq_false_iff_not, Bool.not_eq_true', Bool.not_eq_false', Bool.and_eq_true, Bool.or_eq_true, Bool.and_eq_false_iff, Bool.or_eq_false_iff, Bool.not_true, Bool.not_false] at h20
          have hf : legalS s = false := by rw [hr]; exact all_hit hk h20
          refine s_seq ?_
          refine s_region ?_
          refine oP ?_
          refine o_nil ?_
          exact s_retv (rs := [.tmp 2]) rfl (.tmp rfl (.nil)) (fun w' h' => ⟨by rw [nameE, if_pos hl, hf]; rfl, h'.below⟩)
        · try simp only [decide_eq_true_eq, decide_eq_false_iff_not, Bool.not_eq_true', Bool.not_eq_false', Bool.and_eq_true, Bool.or_eq_true, Bool.and_eq_false_iff, Bool.or_eq_false_iff, Bool.not_true, Bool.not_false] at h20
          have hk3 : (s.take (k + 1)).all legalB = true := by rw [hst, hk2, h20]; rfl
          refine s_skip ?_
          refine s_blk ?_
          refine s_region ?_
          refine oP ?_
          refine oP ?_
          try (refine o_slot (i64w (by omega) (by omega)) ?_)
          refine oP ?_
          refine o_nil ?_
          exact s_backI (k + 1) (by omega) ⟨by omega, hk3⟩ aSx (fun w h => h)
      · try simp only [decide_eq_true_eq, decide_eq_false_iff_not, Bool.not_eq_true', Bool.not_eq_false', Bool.and_eq_true, Bool.or_eq_true, Bool.and_eq_false_iff, Bool.or_eq_false_iff, Bool.not_true, Bool.not_false] at h19
        obtain rfl : k = s.length := by omega
        refine s_exit_to rfl ?_
        refine s_seq ?_
        refine s_region ?_
        refine oP ?_
        refine o_nil ?_
        exact s_retv (rs := [.tmp 2]) rfl (.tmp rfl (.nil)) (fun w' h' => ⟨by rw [List.take_length] at hk2; rw [nameE, if_pos hl, hr, hk2]; rfl, h'.below⟩)

set_option maxRecDepth 20000 in
theorem c19 (w : World) (a : Option Addr) (cap : Nat) (l : List (List UInt8)) (hs : Vl w a (l.map strV)) (hl : l.length ≤ 1000000) (hml : ∀ s ∈ l, s.length ≤ 1000000) : Calls Tryd.prog 19 #[.slice a l.length cap] w fun en w' => en = .returned (.int .i64 (namesE l)) ∧ Below w.heap.size w w' := by
  refine enter (args := [_]) Tryd.func19 Tryd.ntmps19 rfl rfl (HS.refl w []) ?_
  refine s_seq ?_
  refine s_region ?_
  refine oP ?_
  refine o_nil ?_
  refine s_seq ?_
  refine s_seq ?_
  refine s_region ?_
  refine oP ?_
  refine o_p (p_len_slice rfl rfl Tryd.underlying29) rfl ?_
  refine oP ?_
  refine o_nil ?_
  refine s_cond rfl (fun h1 => ?_) (fun h1 => ?_)
  · try simp only [decide_eq_true_eq, decide_eq_false_iff_not, Bool.not_eq_true', Bool.not_eq_false', Bool.and_eq_true, Bool.or_eq_true, Bool.and_eq_false_iff, Bool.or_eq_false_iff, Bool.not_true, Bool.not_false] at h1
    have hb : ¬ l.length ≤ 200 := by have hq := h1; omega
    refine s_seq ?_
    refine s_region ?_
    refine oP ?_
    refine o_nil ?_
    exact s_retv (rs := [.tmp 2]) rfl (.tmp rfl (.nil)) (fun w' h' => ⟨by rw [namesE, if_neg hb]; rfl, h'.below⟩)
  · try simp only [decide_eq_true_eq, decide_eq_false_iff_not, Bool.not_eq_true', Bool.not_eq_false', Bool.and_eq_true, Bool.or_eq_true, Bool.and_eq_false_iff, Bool.or_eq_false_iff, Bool.not_true, Bool.not_false] at h1
    have hb : l.length ≤ 200 := by have hq := h1; omega
    refine s_skip ?_
    refine s_seq ?_
    refine s_seq ?_
    refine s_region ?_
    refine oP ?_
    refine o_nil ?_
    refine s_block ?_
    refine s_loopI (α := Nat) [2, 3, 4, 8, 9, 10, 11, 12, 13, 14, 15, 16, 17, 18, 19, 20, 21] (fun k => [(3, .int .i64 (k : Int))]) (fun _ => _) (fun k => k ≤ l.length ∧ firstI (l.map nameE) = firstI ((l.map nameE).drop k)) (fun k => l.length - k) 0 ⟨Nat.zero_le _, rfl⟩ aSx (fun w h => h) (fun k hkk => ?_)
    obtain ⟨hk1, hk2⟩ := hkk
    refine s_seq ?_
    refine s_seq ?_
    refine s_region ?_
    refine oP ?_
    refine oP ?_
    refine o_p (p_len_slice rfl rfl Tryd.underlying29) rfl ?_
    refine oP ?_
    refine o_nil ?_
    refine s_cond rfl (fun h2 => ?_) (fun h2 => ?_)
    · try simp only [decide_eq_true_eq, decide_eq_false_iff_not, Bool.not_eq_true', Bool.not_eq_false', Bool.and_eq_true, Bool.or_eq_true, Bool.and_eq_false_iff, Bool.or_eq_false_iff, Bool.not_true, Bool.not_false] at h2
      have hk : k < l.length := by omega
      have hst := firstI_step (f := nameE) (d := []) hk
      refine s_skip ?_
      refine s_seq ?_
      refine s_block ?_
      refine s_seq ?_
      refine s_region ?_
      refine oP ?_
      refine oP ?_
      refine o_p (p_indexAddr rfl rfl rfl sl_29 (k) (by omega) (by omega) (hs.some (by rw [List.length_map]; omega))) rfl ?_
      refine o_q (q_load_old rfl rfl sz_9 ((hs.rd (str_get' (k := k) hk)))) rfl ?_
      refine o_q (q_call rfl fn_14 rfl (fun w1 h1 => c14 w1 (l.getD k []) (by have := hml _ (getD_mem (d := []) hk); omega))) rfl ?_
      refine oP ?_
      refine o_nil ?_
      refine s_seq ?_
      refine s_region ?_
      refine oP ?_
      refine oP ?_
      refine o_nil ?_
      refine s_cond rfl (fun h3 => ?_) (fun h3 => ?_)
      · try simp only [decide_eq_true_eq, decide_eq_false_iff_not, Bool.not_eq_true', Bool.not_eq_false', Bool.and_eq_true, Bool.or_eq_true, Bool.and_eq_false_iff, Bool.or_eq_false_iff, Bool.not_true, Bool.not_false] at h3
        have hne : ¬ nameE (l.getD k []) = 0 := h3
        refine s_seq ?_
        refine s_region ?_
        refine oP ?_
        refine oP ?_
        refine o_nil ?_
        exact s_retv (rs := [.tmp 2]) rfl (.tmp rfl (.nil)) (fun w' h' => ⟨by rw [namesE, if_pos hb, hk2, hst, if_neg hne]; rfl, h'.below⟩)
      · try simp only [decide_eq_true_eq, decide_eq_false_iff_not, Bool.not_eq_true', Bool.not_eq_false', Bool.and_eq_true, Bool.or_eq_true, Bool.and_eq_false_iff, Bool.or_eq_false_iff, Bool.not_true, Bool.not_false] at h3
        have hne : nameE (l.getD k []) = 0 := h3
        refine s_skip ?_
        refine s_blk ?_
        refine s_region ?_
        refine oP ?_
        refine oP ?_
        try (refine o_slot (i64w (by omega) (by omega)) ?_)
        refine oP ?_
        refine o_nil ?_
        exact s_backI (k + 1) (by omega) ⟨by omega, by rw [hk2, hst, if_pos hne]⟩ aSx (fun w h => h)
    · try simp only [decide_eq_true_eq, decide_eq_false_iff_not, Bool.not_eq_true', Bool.not_eq_false', Bool.and_eq_true, Bool.or_eq_true, Bool.and_eq_false_iff, Bool.or_eq_false_iff, Bool.not_true, Bool.not_false] at h2
      obtain rfl : k = l.length := by omega
      refine s_exit_to rfl ?_
      refine s_seq ?_
      refine s_region ?_
      refine oP ?_
      refine o_nil ?_
      exact s_retv (rs := [.tmp 2]) rfl (.tmp rfl (.nil)) (fun w' h' => ⟨by rw [namesE, if_pos hb, hk2, firstI_end (by simp)]; rfl, h'.below⟩)

end Go.Proofs

namespace Go.Proofs
open Go Go.RowKit Gx
set_option linter.unusedVariables false
set_option linter.unusedSimpArgs false
attribute [local irreducible] Go.Calls Gx.S Gx.O Gx.D Gx.OpP Gx.OpQ Gx.OpH



end Go.Proofs

/- Chapter 5, plain: names cut at dots, short names. No program here. -/
namespace Go.Proofs
open Go Go.RowKit Gx
set_option linter.unusedVariables false
set_option linter.unusedSimpArgs false
theorem idxB_hit : ∀ {s : List UInt8} {c : UInt8}, 0 ≤ Lib.indexByte s c → ∃ i : Nat, Lib.indexByte s c = (i : Int) ∧ i < s.length ∧ s.getD i 0 = c ∧ ∀ j, j < i → s.getD j 0 ≠ c
  | [], c, h => absurd h (by simp [Lib.indexByte])
  | b :: s, c, h => by
    unfold Lib.indexByte at h ⊢
    by_cases e : b = c
    · subst e
      exact ⟨0, by simp, by simp, by simp, fun j hj => absurd hj (Nat.not_lt_zero j)⟩
    · have e' : (b == c) = false := by simpa using e
      rw [e'] at h ⊢
      simp only [Bool.false_eq_true, if_false] at h ⊢
      have h1 := Lib.indexByte_ge s c
      split at h
      · exact absurd h (by decide)
      · rename_i h2
        rw [if_neg h2]
        have h3 : 0 ≤ Lib.indexByte s c := by
          have : ¬ Lib.indexByte s c = -1 := by simpa using h2
          omega
        obtain ⟨i, i1, i2, i3, i4⟩ := idxB_hit h3
        refine ⟨i + 1, by rw [i1]; rfl, by simp; omega, by simpa using i3, fun j hj => ?_⟩
        rcases j with _ | j
        · simpa using e
        · simpa using i4 j (by omega)
theorem cut_at : ∀ {s : List UInt8} {i : Nat}, i < s.length → s.getD i 0 = 46 → (∀ j, j < i → s.getD j 0 ≠ 46) → cutD s = (s.take i, some (s.drop (i + 1)))
  | [], i, h, _, _ => absurd h (Nat.not_lt_zero i)
  | b :: s, 0, _, h, _ => by
    have : b = 46 := by simpa using h
    subst this
    simp [cutD]
  | b :: s, i + 1, hl, h, hn => by
    have h0 : b ≠ 46 := by simpa using hn 0 (by omega)
    have ih := cut_at (s := s) (i := i) (by simpa using hl) (by simpa using h) (fun j hj => by simpa using hn (j + 1) (by omega))
    rw [cutD, if_neg h0, ih]
    rfl
theorem cut_no : ∀ {s : List UInt8}, 46 ∉ s → cutD s = (s, none)
  | [], _ => rfl
  | b :: s, h => by
    have h0 : b ≠ 46 := fun e => h (by rw [e]; exact List.mem_cons_self ..)
    rw [cutD, if_neg h0, cut_no (fun hm => h (List.mem_cons_of_mem _ hm))]
theorem cut_hit {s : List UInt8} (h : 0 ≤ Lib.indexByte s 46) : ∃ i : Nat, Lib.indexByte s 46 = (i : Int) ∧ i < s.length ∧ cutD s = (s.take i, some (s.drop (i + 1))) := by
  obtain ⟨i, h1, h2, h3, h4⟩ := idxB_hit h
  exact ⟨i, h1, h2, cut_at h2 h3 h4⟩
theorem cut_miss {s : List UInt8} (h : ¬ 0 ≤ Lib.indexByte s 46) : cutD s = (s, none) := cut_no (idxB_neg.1 (by omega))
/-- The parts of a string between dots. -/
def splitD : List UInt8 → List (List UInt8)
  | [] => [[]]
  | c :: s => if c = 46 then [] :: splitD s else (c :: (splitD s).head!) :: (splitD s).tail
def shR (s : List UInt8) : Bool := decide ((splitD s).length ≤ 2) && (decide (1 ≤ ((splitD s).getD 0 []).length) && decide (((splitD s).getD 0 []).length ≤ 8)) && (!decide ((splitD s).length = 2) || (decide (1 ≤ ((splitD s).getD 1 []).length) && decide (((splitD s).getD 1 []).length ≤ 3))) && s.all fun c => decide (c = 46) || shortB c
end Go.Proofs

namespace Go.Proofs
open Go Go.RowKit Gx
set_option linter.unusedVariables false
set_option linter.unusedSimpArgs false
attribute [local irreducible] Go.Calls Gx.S Gx.O Gx.D Gx.OpP Gx.OpQ Gx.OpH

theorem fn_98 : isFn Tryd.prog 98 = true := by kernel_rfl
theorem fn_84 : isFn Tryd.prog 84 = true := by kernel_rfl
theorem fn_55 : isFn Tryd.prog 55 = true := by kernel_rfl
theorem fn_56 : isFn Tryd.prog 56 = true := by kernel_rfl
theorem fn_22 : isFn Tryd.prog 22 = true := by kernel_rfl


theorem ix98 (w : World) (s : List UInt8) (c : UInt8) : Calls Tryd.prog 98 #[.string (bs s), .string (bs [c])] w fun en w' => en = .returned (.int .i64 (Lib.indexByte s c)) ∧ Below w.heap.size w w' :=
  (Tryd.stringslite_Index_one (bs s) c w).mono fun e w' h => ⟨by rw [h.1]; simp [bs], same_below h.2⟩

set_option maxRecDepth 20000 in
theorem c84 (w : World) (s : List UInt8) (hm : s.length ≤ 1000000) : Calls Tryd.prog 84 #[.string (bs s), .string (bs [46])] w fun en w' => en = .returned (.tuple #[.string (bs (cutD s).1), .string (bs ((cutD s).2.getD [])), .bool (cutD s).2.isSome]) ∧ Below w.heap.size w w' := by
  refine enter (args := [_, _]) Tryd.func84 Tryd.ntmps84 rfl rfl (HS.refl w []) ?_
  refine s_seq ?_
  refine s_region ?_
  refine oP ?_
  refine oP ?_
  refine oP ?_
  refine o_nil ?_
  refine s_seq ?_
  refine s_seq ?_
  refine s_region ?_
  refine oP ?_
  refine oP ?_
  refine o_q (q_call rfl fn_98 rfl (fun w1 h1 => ix98 w1 s 46)) rfl ?_
  refine oP ?_
  refine o_nil ?_
  refine s_seq ?_
  refine s_region ?_
  refine oP ?_
  refine oP ?_
  refine o_nil ?_
  refine s_cond rfl (fun h1 => ?_) (fun h1 => ?_)
  · try simp only [decide_eq_true_eq, decide_eq_false_iff_not, Bool.not_eq_true', Bool.not_eq_false', Bool.and_eq_true, Bool.or_eq_true, Bool.and_eq_false_iff, Bool.or_eq_false_iff, Bool.not_true, Bool.not_false] at h1
    obtain ⟨i, hi9, hi8, hcd⟩ := cut_hit h1
    refine s_seq ?_
    refine s_draw [] mixed ?_
    refine dP 0 ?_
    refine dP 1 ?_
    refine d_p 2 rfl (p_slice_str_to i rfl rfl rfl Tryd.underlying9 hi9 (by omega)) (by kernel_rfl) rfl rfl ?_
    refine dP 3 ?_
    refine dP 4 ?_
    refine dP 5 ?_
    refine d_p 6 rfl (p_len_str rfl rfl Tryd.underlying9) (by kernel_rfl) rfl rfl ?_
    refine dP 7 ?_
    try (refine d_slot (i64w (by omega) (by omega)) ?_)
    refine d_slot (show _ = Value.int .i64 ((i + 1 : Nat) : Int) from by rw [hi9]; show Value.int .i64 (IntKind.i64.wrap ((i : Int) + 1)) = .int .i64 ((i : Int) + 1); exact i64w (by omega) (by omega)) ?_
    refine d_p 8 rfl (p_slice_str_from (i + 1) rfl rfl rfl Tryd.underlying9 rfl (by omega)) (by kernel_rfl) rfl rfl ?_
    refine dP 9 ?_
    refine dP 10 ?_
    refine dP 11 ?_
    refine d_nil (by kernel_rfl) (fun w h => h.ent aEt) ?_
    exact s_retv (rs := [.tmp 4, .tmp 5, .tmp 6]) rfl (.tmp rfl (.tmp rfl (.tmp rfl (.nil)))) (fun w' h' => ⟨by rw [hcd]; rfl, h'.below⟩)
  · try simp only [decide_eq_true_eq, decide_eq_false_iff_not, Bool.not_eq_true', Bool.not_eq_false', Bool.and_eq_true, Bool.or_eq_true, Bool.and_eq_false_iff, Bool.or_eq_false_iff, Bool.not_true, Bool.not_false] at h1
    have hcd := cut_miss h1
    refine s_skip ?_
    refine s_seq ?_
    refine s_region ?_
    refine oP ?_
    refine oP ?_
    refine oP ?_
    refine oP ?_
    refine o_nil ?_
    exact s_retv (rs := [.tmp 4, .tmp 5, .tmp 6]) rfl (.tmp rfl (.tmp rfl (.tmp rfl (.nil)))) (fun w' h' => ⟨by rw [hcd]; rfl, h'.below⟩)

set_option maxRecDepth 20000 in
theorem c55 (w : World) (s : List UInt8) (hm : s.length ≤ 1000000) : Calls Tryd.prog 55 #[.string (bs s), .string (bs [46])] w fun en w' => en = .returned (.tuple #[.string (bs (cutD s).1), .string (bs ((cutD s).2.getD [])), .bool (cutD s).2.isSome]) ∧ Below w.heap.size w w' := by
  refine enter (args := [_, _]) Tryd.func55 Tryd.ntmps55 rfl rfl (HS.refl w []) ?_
  refine s_seq ?_
  refine s_region ?_
  refine oP ?_
  refine oP ?_
  refine oP ?_
  refine o_nil ?_
  refine s_seq ?_
  refine s_region ?_
  refine oP ?_
  refine oP ?_
  refine o_q (q_call rfl fn_84 rfl (fun w1 h1 => c84 w1 s hm)) rfl ?_
  refine oP ?_
  refine oP ?_
  refine oP ?_
  refine oP ?_
  refine oP ?_
  refine oP ?_
  refine o_nil ?_
  exact s_retv (rs := [.tmp 4, .tmp 5, .tmp 6]) rfl (.tmp rfl (.tmp rfl (.tmp rfl (.nil)))) (fun w' h' => ⟨rfl, h'.below⟩)

set_option maxRecDepth 20000 in
theorem c85 (w : World) (c : UInt8) : Calls Tryd.prog 85 #[.int .u8 (c.toNat : Int)] w fun en w' => en = .returned (.bool (shortB c)) ∧ Below w.heap.size w w' := by
  have e1 : ((65 : Int) ≤ (c.toNat : Int)) ↔ 65 ≤ c.toNat := by omega
  have e2 : ((c.toNat : Int) ≤ 90) ↔ c.toNat ≤ 90 := by omega
  have e3 : ((48 : Int) ≤ (c.toNat : Int)) ↔ 48 ≤ c.toNat := by omega
  have e4 : ((c.toNat : Int) ≤ 57) ↔ c.toNat ≤ 57 := by omega
  have e5 : decide (0 ≤ Lib.indexByte signsL c) = signsL.contains c := by by_cases h : c ∈ signsL; (rw [decide_eq_true (by rcases Int.lt_or_le (Lib.indexByte signsL c) 0 with h9 | h9; (exact absurd h (idxB_neg.1 h9)); exact h9)]; simp [h]); (rw [decide_eq_false (by have := idxB_neg.2 h; omega)]; simp [h])
  refine enter (args := [_]) Tryd.func85 Tryd.ntmps85 rfl rfl (HS.refl w []) ?_
  refine s_seq ?_
  refine s_region ?_
  refine oP ?_
  refine o_nil ?_
  refine s_seq ?_
  refine s_region ?_
  refine oP ?_
  refine oP ?_
  refine oP ?_
  refine o_and 3 5 8 _ _ rfl
    (by
      intro hg1
      have hs2 := hg1; try simp only [decide_eq_true_eq, decide_eq_false_iff_not, Bool.not_eq_true', Bool.not_eq_false', Bool.and_eq_true, Bool.or_eq_true, Bool.and_eq_false_iff, Bool.or_eq_false_iff, Bool.not_true, Bool.not_false] at hs2
      refine o_on 5 _ rfl rfl hg1 ?_
      refine oP ?_
      refine o_on 5 _ rfl rfl hg1 ?_
      refine oP ?_
      refine o_p (p_pickt rfl rfl hg1 rfl) rfl ?_
      refine o_nil ?_
      exact s_joinN 3 8 _ rfl rfl rfl (fun w h => by first | exact h | exact h.ent aEt))
    (by
      intro hg3
      have hs4 := hg3; try simp only [decide_eq_true_eq, decide_eq_false_iff_not, Bool.not_eq_true', Bool.not_eq_false', Bool.and_eq_true, Bool.or_eq_true, Bool.and_eq_false_iff, Bool.or_eq_false_iff, Bool.not_true, Bool.not_false] at hs4
      refine o_off 5 _ rfl rfl hg3 rfl ?_
      refine o_off 5 _ rfl rfl hg3 rfl ?_
      refine o_p (p_pickf rfl rfl hg3 rfl) rfl ?_
      refine o_nil ?_
      exact s_joinN 3 8 _ rfl rfl rfl (fun w h => by first | exact h | exact h.ent aEt)) ?_
  refine oP ?_
  refine o_or 7 9 16 _ _ rfl
    (by
      intro hg5
      have hs6 := hg5; try simp only [decide_eq_true_eq, decide_eq_false_iff_not, Bool.not_eq_true', Bool.not_eq_false', Bool.and_eq_true, Bool.or_eq_true, Bool.and_eq_false_iff, Bool.or_eq_false_iff, Bool.not_true, Bool.not_false] at hs6
      refine o_on 9 _ rfl rfl hg5 ?_
      refine oP ?_
      refine o_on 9 _ rfl rfl hg5 ?_
      refine oP ?_
      refine o_on 9 _ rfl rfl hg5 ?_
      refine oP ?_
      refine o_and 3 12 15 _ _ rfl
        (by
          intro hg7
          have hs8 := hg7; try simp only [decide_eq_true_eq, decide_eq_false_iff_not, Bool.not_eq_true', Bool.not_eq_false', Bool.and_eq_true, Bool.or_eq_true, Bool.and_eq_false_iff, Bool.or_eq_false_iff, Bool.not_true, Bool.not_false] at hs8
          refine o_on 12 _ rfl rfl hg7 ?_
          refine oP ?_
          refine o_on 12 _ rfl rfl hg7 ?_
          refine oP ?_
          refine o_on 9 _ rfl rfl hg5 ?_
          refine o_p (p_pickt rfl rfl hg7 rfl) rfl ?_
          refine o_nil ?_
          exact s_joinN 3 15 _ rfl rfl rfl (fun w h => by first | exact h | exact h.ent aEt))
        (by
          intro hg9
          have hs10 := hg9; try simp only [decide_eq_true_eq, decide_eq_false_iff_not, Bool.not_eq_true', Bool.not_eq_false', Bool.and_eq_true, Bool.or_eq_true, Bool.and_eq_false_iff, Bool.or_eq_false_iff, Bool.not_true, Bool.not_false] at hs10
          refine o_off 12 _ rfl rfl hg9 rfl ?_
          refine o_off 12 _ rfl rfl hg9 rfl ?_
          refine o_on 9 _ rfl rfl hg5 ?_
          refine o_p (p_pickf rfl rfl hg9 rfl) rfl ?_
          refine o_nil ?_
          exact s_joinN 3 15 _ rfl rfl rfl (fun w h => by first | exact h | exact h.ent aEt)) ?_
      refine o_p (p_pickf rfl rfl hg5 rfl) rfl ?_
      refine o_nil ?_
      exact s_joinN 5 16 _ rfl rfl rfl (fun w h => by first | exact h | exact h.ent aEt))
    (by
      intro hg11
      have hs12 := hg11; try simp only [decide_eq_true_eq, decide_eq_false_iff_not, Bool.not_eq_true', Bool.not_eq_false', Bool.and_eq_true, Bool.or_eq_true, Bool.and_eq_false_iff, Bool.or_eq_false_iff, Bool.not_true, Bool.not_false] at hs12
      refine o_off 9 _ rfl rfl hg11 rfl ?_
      refine o_off 9 _ rfl rfl hg11 rfl ?_
      refine o_off 9 _ rfl rfl hg11 rfl ?_
      refine o_off' 12 rfl rfl rfl ?_
      refine o_off' 12 rfl rfl rfl ?_
      refine o_off 9 _ rfl rfl hg11 rfl ?_
      refine o_p (p_pickt rfl rfl hg11 rfl) rfl ?_
      refine o_nil ?_
      exact s_joinN 7 16 _ rfl rfl rfl (fun w h => by first | exact h | exact h.ent aEt)) ?_
  refine oP ?_
  refine o_or 4 17 21 _ _ rfl
    (by
      intro hg13
      have hs14 := hg13; try simp only [decide_eq_true_eq, decide_eq_false_iff_not, Bool.not_eq_true', Bool.not_eq_false', Bool.and_eq_true, Bool.or_eq_true, Bool.and_eq_false_iff, Bool.or_eq_false_iff, Bool.not_true, Bool.not_false] at hs14
      refine o_on 17 _ rfl rfl hg13 ?_
      refine oP ?_
      refine o_on 17 _ rfl rfl hg13 ?_
      refine o_q (q_call rfl fn_97 rfl (fun w1 h1 => ib97 w1 signsL c)) rfl ?_
      refine o_on 17 _ rfl rfl hg13 ?_
      refine oP ?_
      refine o_p (p_pickf rfl rfl hg13 rfl) rfl ?_
      refine o_nil ?_
      exact s_joinN 4 21 _ rfl rfl rfl (fun w h => by first | exact h | exact h.ent aEt))
    (by
      intro hg15
      have hs16 := hg15; try simp only [decide_eq_true_eq, decide_eq_false_iff_not, Bool.not_eq_true', Bool.not_eq_false', Bool.and_eq_true, Bool.or_eq_true, Bool.and_eq_false_iff, Bool.or_eq_false_iff, Bool.not_true, Bool.not_false] at hs16
      refine o_off 17 _ rfl rfl hg15 rfl ?_
      refine o_off 17 _ rfl rfl hg15 rfl ?_
      refine o_off 17 _ rfl rfl hg15 rfl ?_
      refine o_p (p_pickt rfl rfl hg15 rfl) rfl ?_
      refine o_nil ?_
      exact s_joinN 4 21 _ rfl rfl rfl (fun w h => by first | exact h | exact h.ent aEt)) ?_
  refine oP ?_
  refine o_nil ?_
  exact s_retv (rs := [.tmp 2]) rfl (.tmp rfl (.nil)) (fun w' h' => ⟨by simp only [retV, shortB, e1, e2, e3, e4, ge_iff_le, e5], h'.below⟩)

set_option maxRecDepth 20000 in
theorem c56 (w : World) (s : List UInt8) (m : Nat) (hm : s.length ≤ 1000000) : Calls Tryd.prog 56 #[.string (bs s), .int .i64 (m : Int)] w fun en w' => en = .returned (.bool (partB s m)) ∧ Below w.heap.size w w' := by
  have e1 : ((s.length : Int) ≤ (m : Int)) ↔ s.length ≤ m := by omega
  refine enter (args := [_, _]) Tryd.func56 Tryd.ntmps56 rfl rfl (HS.refl w []) ?_
  refine s_seq ?_
  refine s_region ?_
  refine oP ?_
  refine o_nil ?_
  refine s_seq ?_
  refine s_region ?_
  refine oP ?_
  refine oP ?_
  refine oP ?_
  refine o_and 5 7 12 _ _ rfl
    (by
      intro hg1
      have hs2 := hg1; try simp only [decide_eq_true_eq, decide_eq_false_iff_not, Bool.not_eq_true', Bool.not_eq_false', Bool.and_eq_true, Bool.or_eq_true, Bool.and_eq_false_iff, Bool.or_eq_false_iff, Bool.not_true, Bool.not_false] at hs2
      refine o_on 7 _ rfl rfl hg1 ?_
      refine oP ?_
      refine o_on 7 _ rfl rfl hg1 ?_
      refine o_p (p_len_str rfl rfl Tryd.underlying9) rfl ?_
      refine o_on 7 _ rfl rfl hg1 ?_
      refine oP ?_
      refine o_on 7 _ rfl rfl hg1 ?_
      refine oP ?_
      refine o_p (p_pickt rfl rfl hg1 rfl) rfl ?_
      refine o_nil ?_
      exact s_joinN 5 12 _ rfl rfl rfl (fun w h => by first | exact h | exact h.ent aEt))
    (by
      intro hg3
      have hs4 := hg3; try simp only [decide_eq_true_eq, decide_eq_false_iff_not, Bool.not_eq_true', Bool.not_eq_false', Bool.and_eq_true, Bool.or_eq_true, Bool.and_eq_false_iff, Bool.or_eq_false_iff, Bool.not_true, Bool.not_false] at hs4
      refine o_off 7 _ rfl rfl hg3 rfl ?_
      refine o_off 7 _ rfl rfl hg3 rfl ?_
      refine o_off 7 _ rfl rfl hg3 rfl ?_
      refine o_off 7 _ rfl rfl hg3 rfl ?_
      refine o_p (p_pickf rfl rfl hg3 rfl) rfl ?_
      refine o_nil ?_
      exact s_joinN 5 12 _ rfl rfl rfl (fun w h => by first | exact h | exact h.ent aEt)) ?_
  refine oP ?_
  refine o_and 3 13 16 _ _ rfl
    (by
      intro hg5
      have hs6 := hg5; try simp only [decide_eq_true_eq, decide_eq_false_iff_not, Bool.not_eq_true', Bool.not_eq_false', Bool.and_eq_true, Bool.or_eq_true, Bool.and_eq_false_iff, Bool.or_eq_false_iff, Bool.not_true, Bool.not_false] at hs6
      refine o_on 13 _ rfl rfl hg5 ?_
      refine oP ?_
      refine o_on 13 _ rfl rfl hg5 ?_
      refine o_q (q_call rfl fn_80 rfl (fun w1 h1 => c80 w1 s 85 #[] shortB hm (by kernel_rfl) (fun k w2 hk h2 => c85 w2 _))) rfl ?_
      refine o_p (p_pickt rfl rfl hg5 rfl) rfl ?_
      refine o_nil ?_
      exact s_joinN 3 16 _ rfl rfl rfl (fun w h => by first | exact h | exact h.ent aEt))
    (by
      intro hg7
      have hs8 := hg7; try simp only [decide_eq_true_eq, decide_eq_false_iff_not, Bool.not_eq_true', Bool.not_eq_false', Bool.and_eq_true, Bool.or_eq_true, Bool.and_eq_false_iff, Bool.or_eq_false_iff, Bool.not_true, Bool.not_false] at hs8
      refine o_off 13 _ rfl rfl hg7 rfl ?_
      refine o_off 13 _ rfl rfl hg7 rfl ?_
      refine o_p (p_pickf rfl rfl hg7 rfl) rfl ?_
      refine o_nil ?_
      exact s_joinN 3 16 _ rfl rfl rfl (fun w h => by first | exact h | exact h.ent aEt)) ?_
  refine oP ?_
  refine o_nil ?_
  exact s_retv (rs := [.tmp 4]) rfl (.tmp rfl (.nil)) (fun w' h' => ⟨by simp only [retV, partB, e1], h'.below⟩)

theorem cut_le (s : List UInt8) : (cutD s).1.length ≤ s.length ∧ ((cutD s).2.getD []).length ≤ s.length := by
  induction s with
  | nil => simp [cutD]
  | cons c s ih =>
    unfold cutD
    split
    · simp
    · simp only [List.length_cons]
      omega

set_option maxRecDepth 20000 in
theorem c22 (w : World) (s : List UInt8) (hm : s.length ≤ 1000000) : Calls Tryd.prog 22 #[.string (bs s)] w fun en w' => en = .returned (.bool (shortS s)) ∧ Below w.heap.size w w' := by
  have hcl := cut_le s
  refine enter (args := [_]) Tryd.func22 Tryd.ntmps22 rfl rfl (HS.refl w []) ?_
  refine s_seq ?_
  refine s_region ?_
  refine oP ?_
  refine o_nil ?_
  refine s_seq ?_
  refine s_region ?_
  refine oP ?_
  refine o_q (q_call rfl fn_55 rfl (fun w1 h1 => c55 w1 s hm)) rfl ?_
  refine oP ?_
  refine oP ?_
  refine oP ?_
  refine oP ?_
  refine oP ?_
  refine oP ?_
  refine oP ?_
  refine o_nil ?_
  refine s_seq ?_
  refine s_region ?_
  refine oP ?_
  refine o_q (q_call rfl fn_56 rfl (fun w1 h1 => c56 w1 (cutD s).1 8 (by omega))) rfl ?_
  refine oP ?_
  refine o_and 7 14 21 _ _ rfl
    (by
      intro hg1
      have hs2 := hg1; try simp only [decide_eq_true_eq, decide_eq_false_iff_not, Bool.not_eq_true', Bool.not_eq_false', Bool.and_eq_true, Bool.or_eq_true, Bool.and_eq_false_iff, Bool.or_eq_false_iff, Bool.not_true, Bool.not_false] at hs2
      refine o_on 14 _ rfl rfl hg1 ?_
      refine oP ?_
      refine o_on 14 _ rfl rfl hg1 ?_
      refine oP ?_
      refine o_on 14 _ rfl rfl hg1 ?_
      refine oP ?_
      refine o_or 3 17 20 _ _ rfl
        (by
          intro hg3
          have hs4 := hg3; try simp only [decide_eq_true_eq, decide_eq_false_iff_not, Bool.not_eq_true', Bool.not_eq_false', Bool.and_eq_true, Bool.or_eq_true, Bool.and_eq_false_iff, Bool.or_eq_false_iff, Bool.not_true, Bool.not_false] at hs4
          refine o_on 17 _ rfl rfl hg3 ?_
          refine oP ?_
          refine o_on 17 _ rfl rfl hg3 ?_
          refine o_q (q_call rfl fn_56 rfl (fun w1 h1 => c56 w1 ((cutD s).2.getD []) 3 (by omega))) rfl ?_
          refine o_on 14 _ rfl rfl hg1 ?_
          refine o_p (p_pickf rfl rfl hg3 rfl) rfl ?_
          refine o_nil ?_
          exact s_joinN 3 20 _ rfl rfl rfl (fun w h => by first | exact h | exact h.ent aEt))
        (by
          intro hg5
          have hs6 := hg5; try simp only [decide_eq_true_eq, decide_eq_false_iff_not, Bool.not_eq_true', Bool.not_eq_false', Bool.and_eq_true, Bool.or_eq_true, Bool.and_eq_false_iff, Bool.or_eq_false_iff, Bool.not_true, Bool.not_false] at hs6
          refine o_off 17 _ rfl rfl hg5 rfl ?_
          refine o_off 17 _ rfl rfl hg5 rfl ?_
          refine o_on 14 _ rfl rfl hg1 ?_
          refine o_p (p_pickt rfl rfl hg5 rfl) rfl ?_
          refine o_nil ?_
          exact s_joinN 3 20 _ rfl rfl rfl (fun w h => by first | exact h | exact h.ent aEt)) ?_
      refine o_p (p_pickt rfl rfl hg1 rfl) rfl ?_
      refine o_nil ?_
      exact s_joinN 5 21 _ rfl rfl rfl (fun w h => by first | exact h | exact h.ent aEt))
    (by
      intro hg7
      have hs8 := hg7; try simp only [decide_eq_true_eq, decide_eq_false_iff_not, Bool.not_eq_true', Bool.not_eq_false', Bool.and_eq_true, Bool.or_eq_true, Bool.and_eq_false_iff, Bool.or_eq_false_iff, Bool.not_true, Bool.not_false] at hs8
      refine o_off 14 _ rfl rfl hg7 rfl ?_
      refine o_off 14 _ rfl rfl hg7 rfl ?_
      refine o_off 14 _ rfl rfl hg7 rfl ?_
      refine o_off' 17 rfl rfl rfl ?_
      refine o_off' 17 rfl rfl rfl ?_
      refine o_off 14 _ rfl rfl hg7 rfl ?_
      refine o_p (p_pickf rfl rfl hg7 rfl) rfl ?_
      refine o_nil ?_
      exact s_joinN 7 21 _ rfl rfl rfl (fun w h => by first | exact h | exact h.ent aEt)) ?_
  refine oP ?_
  refine o_nil ?_
  exact s_retv (rs := [.tmp 2]) rfl (.tmp rfl (.nil)) (fun w' h' => ⟨by simp only [retV, shortS]; rcases hc9 : (cutD s).2 with _ | r <;> simp [hc9], h'.below⟩)

set_option maxRecDepth 20000 in
theorem c24 (w : World) (t s : List UInt8) (hmt : t.length ≤ 1000000) (hm : s.length ≤ 1000000) : Calls Tryd.prog 24 #[.string (bs t), .string (bs s)] w fun en w' => en = .returned (.tuple #[.bool (if openE t [s] = 0 then !shortS (up t s) else false), .int .i64 (openE t [s])]) ∧ Below w.heap.size w w' := by
  refine enter (args := [_, _]) Tryd.func24 Tryd.ntmps24 rfl rfl (HS.refl w []) ?_
  refine s_seq ?_
  refine s_region ?_
  refine oP ?_
  refine oP ?_
  refine o_nil ?_
  refine s_seq ?_
  refine s_region ?_
  refine oP ?_
  refine oP ?_
  refine o_h (h_buildSlice (cs := [_]) rfl rfl sl_29 zr_9 rfl rfl rfl) rfl (fun b1 _ => ?_)
  refine o_q (q_call rfl fn_59 rfl (fun w1 h1 => c59 w1 t _ _ [s] hmt (h1.vl_blk aPk) (by simp) (by intro x hx; simp only [List.mem_cons, List.mem_nil_iff, or_false] at hx; subst hx; assumption))) rfl ?_
  refine oP ?_
  refine oP ?_
  refine oP ?_
  refine oP ?_
  refine oP ?_
  refine o_nil ?_
  refine s_seq ?_
  refine s_seq ?_
  refine s_region ?_
  refine oP ?_
  refine oP ?_
  refine o_nil ?_
  refine s_cond rfl (fun h2 => ?_) (fun h2 => ?_)
  · try simp only [decide_eq_true_eq, decide_eq_false_iff_not, Bool.not_eq_true', Bool.not_eq_false', Bool.and_eq_true, Bool.or_eq_true, Bool.and_eq_false_iff, Bool.or_eq_false_iff, Bool.not_true, Bool.not_false] at h2
    have h0 : ¬ openE t [s] = 0 := h2
    refine s_seq ?_
    refine s_region ?_
    refine oP ?_
    refine oP ?_
    refine oP ?_
    refine o_nil ?_
    exact s_retv (rs := [.tmp 4, .tmp 5]) rfl (.tmp rfl (.tmp rfl (.nil))) (fun w' h' => ⟨by rw [if_neg h0]; rfl, h'.below⟩)
  · try simp only [decide_eq_true_eq, decide_eq_false_iff_not, Bool.not_eq_true', Bool.not_eq_false', Bool.and_eq_true, Bool.or_eq_true, Bool.and_eq_false_iff, Bool.or_eq_false_iff, Bool.not_true, Bool.not_false] at h2
    have h0 : openE t [s] = 0 := h2
    have ho := openE_ok h0
    have hx := nameE_lt (ho.2 s (by simp))
    have hl := (chkTab_ok ho.1).1
    have hul := up_len t s
    refine s_skip ?_
    refine s_seq ?_
    refine s_region ?_
    refine oP ?_
    refine oP ?_
    refine o_q (q_call rfl fn_60 rfl (fun w1 h1 => c60 w1 t s hl hx hm)) rfl ?_
    refine o_q (q_call rfl fn_22 rfl (fun w1 h1 => c22 w1 (up t s) (by omega))) rfl ?_
    refine oP ?_
    refine oP ?_
    refine oP ?_
    refine o_nil ?_
    exact s_retv (rs := [.tmp 4, .tmp 5]) rfl (.tmp rfl (.tmp rfl (.nil))) (fun w' h' => ⟨by rw [if_pos h0, h0]; rfl, h'.below⟩)

end Go.Proofs

/- Chapter 5, plain: how short names are made. No program here. -/
namespace Go.Proofs
open Go Go.RowKit Gx
set_option linter.unusedVariables false
set_option linter.unusedSimpArgs false
/-- The last place from 1 on of a byte 46 among the first k; 0: there is none. -/
def dotTo (s : List UInt8) : Nat → Nat
  | 0 => 0
  | k + 1 => if 1 ≤ k ∧ s.getD k 0 = 46 then k else dotTo s k
def dotAt (s : List UInt8) : Nat := dotTo s s.length
theorem dotTo_lt (s : List UInt8) : ∀ k, 0 < k → dotTo s k < k
  | 0, h => absurd h (Nat.lt_irrefl 0)
  | k + 1, _ => by
    unfold dotTo
    split
    · omega
    · rcases Nat.eq_zero_or_pos k with e | e
      · subst e; simp [dotTo]
      · have := dotTo_lt s k e; omega
theorem bs_data {s : List UInt8} {j : Nat} (h : j < s.length) : (bs s).data[j]! = s.getD j 0 := by
  simp [bs, h, List.getD_eq_getElem?_getD, List.getElem?_eq_getElem h]
theorem last_dot (s : List UInt8) : ∀ k, k ≤ s.length → (if 0 < Lib.lastIdx (bs s) 46 k then Lib.lastIdx (bs s) 46 k = (dotTo s k : Int) ∧ 0 < dotTo s k else dotTo s k = 0)
  | 0, _ => by simp [Lib.lastIdx, dotTo]
  | k + 1, hk => by
    have ih := last_dot s k (by omega)
    unfold Lib.lastIdx dotTo
    rw [bs_data (by omega)]
    have e46 : ((s.getD k 0).toNat : Int) = 46 ↔ s.getD k 0 = 46 := ⟨fun h => UInt8.toNat_inj.1 (by show (s.getD k 0).toNat = 46; omega), fun h => by rw [h]; rfl⟩
    by_cases h : s.getD k 0 = 46
    · rw [if_pos (e46.2 h)]
      rcases Nat.eq_zero_or_pos k with e | e
      · subst e; simp [dotTo]
      · rw [if_pos (by omega), if_pos ⟨e, h⟩]
        exact ⟨rfl, e⟩
    · have e2 : (if 1 ≤ k ∧ s.getD k 0 = 46 then k else dotTo s k) = dotTo s k := if_neg (fun h9 => h h9.2)
      rw [if_neg (fun h9 => h (e46.1 h9)), e2]
      exact ih
theorem last_at {s : List UInt8} (h : 0 < Lib.lastIndexByte (bs s) 46) : Lib.lastIndexByte (bs s) 46 = (dotAt s : Int) ∧ 0 < dotAt s ∧ dotAt s < s.length := by
  have h1 := last_dot s s.length (Nat.le_refl _)
  have hs : (bs s).size = s.length := by simp [bs, ByteArray.size]
  unfold Lib.lastIndexByte at h ⊢
  rw [hs] at h ⊢
  rw [if_pos h] at h1
  refine ⟨h1.1, h1.2, ?_⟩
  have h2 := h1.2
  rcases Nat.eq_zero_or_pos s.length with e | e
  · rw [e] at h2; simp [dotTo] at h2
  · exact dotTo_lt s _ e
theorem last_no {s : List UInt8} (h : ¬ 0 < Lib.lastIndexByte (bs s) 46) : dotAt s = 0 := by
  have h1 := last_dot s s.length (Nat.le_refl _)
  have hs : (bs s).size = s.length := by simp [bs, ByteArray.size]
  unfold Lib.lastIndexByte at h
  rw [hs] at h
  rw [if_neg h] at h1
  exact h1
def stemU (s : List UInt8) : List UInt8 := if 0 < dotAt s then s.take (dotAt s) else s
def tailU (s : List UInt8) : List UInt8 := if 0 < dotAt s then s.drop (dotAt s + 1) else []
def kpB (c : UInt8) : List UInt8 := if c = 32 ∨ c = 46 then [] else if shortB c = true then [c] else [95]
def keptU (t s : List UInt8) : List UInt8 := (up t s).flatMap kpB
theorem kpB_len (c : UInt8) : (kpB c).length ≤ 1 := by
  unfold kpB
  split
  · simp
  · split <;> simp
theorem kept_take_len (u : List UInt8) : (u.flatMap kpB).length ≤ u.length := by
  induction u with
  | nil => simp
  | cons c u ih =>
    rw [List.flatMap_cons, List.length_append, List.length_cons]
    have := kpB_len c
    omega
theorem shortB_lt {c : UInt8} (h : shortB c = true) : c.toNat < 128 := by
  unfold shortB at h
  simp only [Bool.or_eq_true, Bool.and_eq_true, decide_eq_true_eq] at h
  rcases h with (h | h) | h
  · omega
  · omega
  · have : c ∈ signsL := by simpa using h
    simp only [signsL, List.mem_cons, List.mem_nil_iff, or_false] at this
    rcases this with rfl | rfl | rfl | rfl | rfl | rfl | rfl | rfl | rfl | rfl | rfl | rfl | rfl <;> decide
theorem kept_lt {t s : List UInt8} : ∀ c ∈ keptU t s, c.toNat < 128 := by
  intro c hc
  obtain ⟨x, _, hx⟩ := List.mem_flatMap.1 hc
  unfold kpB at hx
  split at hx
  · cases hx
  · split at hx
    · rename_i h; rw [List.mem_singleton.1 hx]; exact shortB_lt h
    · rw [List.mem_singleton.1 hx]; decide
theorem kept_len {t s : List UInt8} : (keptU t s).length ≤ s.length := by
  have := kept_take_len (up t s)
  rw [up_len] at this
  exact this
def tail3 (t s : List UInt8) : List UInt8 := if keptU t (tailU s) = [] then [] else 46 :: (keptU t (tailU s)).take 3
def endU (n : Nat) : List UInt8 := 126 :: Lib.itoa (n : Int)
def candU (t s : List UInt8) (n : Nat) : List UInt8 := (keptU t (stemU s)).take (min 6 (8 - (endU n).length)) ++ endU n ++ tail3 t s
theorem dec_lt (n : Nat) : ∀ c ∈ Lib.decDigits n, 48 ≤ c.toNat ∧ c.toNat ≤ 57 := by
  induction n using Nat.strongRecOn with
  | _ n ih =>
    intro c hc
    unfold Lib.decDigits at hc
    split at hc
    · rename_i h
      rw [List.mem_singleton.1 hc, UInt8.toNat_ofNat']
      omega
    · rename_i h
      rcases List.mem_append.1 hc with h1 | h1
      · exact ih (n / 10) (by omega) c h1
      · rw [List.mem_singleton.1 h1, UInt8.toNat_ofNat']
        omega
theorem itoa_nat (n : Nat) : Lib.itoa (n : Int) = Lib.decDigits n := by
  unfold Lib.itoa
  rw [if_neg (by omega)]
  rfl
theorem dec_len {n : Nat} (h : n ≤ 999) : 1 ≤ (Lib.decDigits n).length ∧ (Lib.decDigits n).length ≤ 3 := by
  unfold Lib.decDigits
  split
  · simp
  · rename_i h1
    rw [List.length_append]
    unfold Lib.decDigits
    split
    · simp
    · rename_i h2
      rw [List.length_append]
      unfold Lib.decDigits
      rw [dif_pos (by omega)]
      simp
theorem end_len {n : Nat} (h : n ≤ 999) : 2 ≤ (endU n).length ∧ (endU n).length ≤ 4 := by
  unfold endU
  rw [itoa_nat, List.length_cons]
  have := dec_len h
  omega
theorem end_lt {n : Nat} : ∀ c ∈ endU n, c.toNat < 128 := by
  intro c hc
  unfold endU at hc
  rcases List.mem_cons.1 hc with rfl | h
  · decide
  · rw [itoa_nat] at h
    have := dec_lt n c h
    omega
theorem tail3_lt {t s : List UInt8} : ∀ c ∈ tail3 t s, c.toNat < 128 := by
  intro c hc
  unfold tail3 at hc
  split at hc
  · cases hc
  · rcases List.mem_cons.1 hc with rfl | h
    · decide
    · exact kept_lt c (List.mem_of_mem_take h)
theorem cand_lt {t s : List UInt8} {n : Nat} : ∀ c ∈ candU t s n, c.toNat < 128 := by
  intro c hc
  unfold candU at hc
  rcases List.mem_append.1 hc with h | h
  · rcases List.mem_append.1 h with h | h
    · exact kept_lt c (List.mem_of_mem_take h)
    · exact end_lt c h
  · exact tail3_lt c h
theorem tail3_len {t s : List UInt8} : (tail3 t s).length ≤ 4 := by
  unfold tail3
  split
  · simp
  · simp; omega
theorem cand_len {t s : List UInt8} {n : Nat} (h : n ≤ 999) : (candU t s n).length ≤ 14 := by
  have h1 := end_len h
  have h2 := tail3_len (t := t) (s := s)
  unfold candU
  rw [List.length_append, List.length_append, List.length_take]
  omega
/-- The first number from n on, of so many, whose short name is not taken. -/
def tryN (t s : List UInt8) (ks : List (List UInt8)) : Nat → Nat → List UInt8 × Int
  | _, 0 => ([], 16)
  | n, f + 1 => if up t (candU t s n) ∈ ks then tryN t s ks (n + 1) f else (candU t s n, 0)
def shortU (t s : List UInt8) (ks : List (List UInt8)) : List UInt8 × Int := if keptU t (stemU s) = [] then ([], 3) else tryN t s ks 1 999
theorem tryN_congr {t s : List UInt8} {ks ks' : List (List UInt8)} (h : ∀ a, a ∈ ks ↔ a ∈ ks') : ∀ f n, tryN t s ks n f = tryN t s ks' n f
  | 0, n => rfl
  | f + 1, n => by
    unfold tryN
    by_cases hm : up t (candU t s n) ∈ ks
    · rw [if_pos hm, if_pos ((h _).1 hm)]
      exact tryN_congr h f (n + 1)
    · rw [if_neg hm, if_neg (fun h9 => hm ((h _).2 h9))]
theorem shortU_congr {t s : List UInt8} {ks ks' : List (List UInt8)} (h : ∀ a, a ∈ ks ↔ a ∈ ks') : shortU t s ks = shortU t s ks' := by
  unfold shortU
  rw [tryN_congr h]
end Go.Proofs

/- Rules found wanting in chapter 5. -/
namespace Gx
open Go Go.RowKit
section
variable {P : Program} {o : Oper} {L : Slots} {w0 : World} {M : List Nat} {As As' : List HA}
theorem p_min3 {x y z : Operand} {k : IntKind} {a b c : Int} {ts : Array TypeId} (ho : o.op = .call { callee := .builtin .min, args := #[x, y, z], argTypes := ts }) (hx : ev L x = some (.int k a)) (hy : ev L y = some (.int k b)) (hz : ev L z = some (.int k c)) : OpP P o L (.int k (if c < (if b < a then b else a) then c else (if b < a then b else a))) := by
  intro ρ w hρ
  simp [execOp, ho, resolve, invoke, builtin, Builtin.min_, Builtin.min2, hρ _ _ hx, hρ _ _ hy, hρ _ _ hz]
end
end Gx

namespace Go.Proofs
open Go Go.RowKit Gx
set_option linter.unusedVariables false
set_option linter.unusedSimpArgs false
attribute [local irreducible] Go.Calls Gx.S Gx.O Gx.D Gx.OpP Gx.OpQ Gx.OpH

theorem fn_85 : isFn Tryd.prog 85 = true := by kernel_rfl
theorem fn_86 : isFn Tryd.prog 86 = true := by kernel_rfl
theorem fn_87 : isFn Tryd.prog 87 = true := by kernel_rfl
theorem fn_88 : isFn Tryd.prog 88 = true := by kernel_rfl
theorem zv_4 : tzv Tryd.prog 4 = some (.bool false) := by kernel_rfl


abbrev KS : List UInt8 → Value := fun l => .string (bs l)
def TabOk (w : World) : Prop := Lib.TabIs Tryd.prog w "internal/strconv.uint64pow10" .u64 Lib.pow10Tab
theorem TabOk.later {w w' : World} {As : List HA} (h : TabOk w) (hs : HS w [] As w') : TabOk w' := Go.Joins.tab_stays (g := 1) (by kernel_rfl) h hs.below (Nat.le_refl _)
theorem it88 (w : World) (k : Nat) (hk : k ≤ 999) (h : TabOk w) : Calls Tryd.prog 88 #[.int .i64 (k : Int)] w fun en w' => en = .returned (.string (bs (Lib.itoa (k : Int)))) ∧ Below w.heap.size w w' :=
  (Tryd.strconv_Itoa (k : Int) (by omega) (by omega) w h).mono fun e w' h => ⟨by rw [h.1]; rfl, by obtain ⟨q, os, e9⟩ := h.2; rw [e9]; exact Lib.below_grow _ w (Nat.le_refl _) q os⟩
theorem li86 (w : World) (s : List UInt8) (hm : s.length ≤ 1000000) : Calls Tryd.prog 86 #[.string (bs s), .string (bs [46])] w fun en w' => en = .returned (.int .i64 (Lib.lastIndexByte (bs s) 46)) ∧ Below w.heap.size w w' :=
  (Tryd.strings_LastIndex_one (bs s) (bs [46]) rfl (by rw [bs_size]; omega) w).mono fun e w' h => ⟨by rw [h.1]; rfl, same_below h.2⟩

set_option maxRecDepth 20000 in
set_option maxHeartbeats 1000000 in
theorem c87 (w : World) (t s : List UInt8) (hl : t.length = 128) (hc : ∀ c ∈ s, c.toNat < 128) (hm : s.length ≤ 1000000) : Calls Tryd.prog 87 #[.string (bs t), .string (bs s)] w fun en w' => en = .returned (.string (bs (keptU t s))) ∧ Below w.heap.size w w' := by
  have hul := up_len t s
  refine enter (args := [_, _]) Tryd.func87 Tryd.ntmps87 rfl rfl (HS.refl w []) ?_
  refine s_seq ?_
  refine s_region ?_
  refine oP ?_
  refine o_nil ?_
  refine s_seq ?_
  refine s_region ?_
  refine oP ?_
  refine o_nil ?_
  refine s_seq ?_
  refine s_seq ?_
  refine s_region ?_
  refine oP ?_
  refine oP ?_
  refine o_q (q_call rfl fn_60 rfl (fun w1 h1 => c60 w1 t s hl hc hm)) rfl ?_
  refine o_h (h_bytes rfl rfl Tryd.underlying9 Tryd.underlying92 Tryd.underlying5 rfl (by simp only [maxLen]; omega)) rfl (fun ⟨b1, c2⟩ ⟨h3, k4⟩ => ?_)
  refine o_p (p_len_slice rfl rfl Tryd.underlying92) rfl ?_
  refine oP ?_
  refine o_nil ?_
  refine s_block ?_
  refine s_loopI (α := Nat × (Option Addr × Nat)) [5, 7, 13, 14, 15, 16, 17, 18, 19, 20, 21, 22, 23, 24, 25, 26, 27, 28, 29, 30, 31, 32, 33, 34, 35, 36] (fun y => [(13, .int .i64 (y.1 : Int)), (5, .slice y.2.1 (((up t s).take y.1).flatMap kpB).length y.2.2)]) (fun y => HS w [] [.own (.slice y.2.1 (((up t s).take y.1).flatMap kpB).length y.2.2) 5 1 (((up t s).take y.1).flatMap kpB).length ((((up t s).take y.1).flatMap kpB).map bv), .blk b1 5 c2 ((up t s).map bv)]) (fun y => y.1 ≤ (up t s).length) (fun y => (up t s).length - y.1) (0, (none, 0)) (Nat.zero_le _) aSx (fun w h => (h.own_nil 5 1).ent aEt) (fun ⟨k, A⟩ hk1 => ?_)
  dsimp only at hk1 ⊢
  refine s_seq ?_
  refine s_region ?_
  refine oP ?_
  refine o_nil ?_
  refine s_seq ?_
  refine s_cond rfl (fun h5 => ?_) (fun h5 => ?_)
  · try simp only [decide_eq_true_eq, decide_eq_false_iff_not, Bool.not_eq_true', Bool.not_eq_false', Bool.and_eq_true, Bool.or_eq_true, Bool.and_eq_false_iff, Bool.or_eq_false_iff, Bool.not_true, Bool.not_false] at h5
    have hk : k < (up t s).length := by omega
    have e32 : (((up t s).getD k 0).toNat : Int) = 32 ↔ (up t s).getD k 0 = 32 := ⟨fun h => UInt8.toNat_inj.1 (by show ((up t s).getD k 0).toNat = 32; omega), fun h => by rw [h]; rfl⟩
    have e46 : (((up t s).getD k 0).toNat : Int) = 46 ↔ (up t s).getD k 0 = 46 := ⟨fun h => UInt8.toNat_inj.1 (by show ((up t s).getD k 0).toNat = 46; omega), fun h => by rw [h]; rfl⟩
    have hst : ((up t s).take (k + 1)).flatMap kpB = ((up t s).take k).flatMap kpB ++ kpB ((up t s).getD k 0) := by rw [take_succ_getD (d := 0) hk, List.flatMap_append]; simp
    have hkl := kept_take_len ((up t s).take k)
    have htl : ((up t s).take k).length ≤ k := by simp; omega
    refine s_skip ?_
    refine s_seq ?_
    refine s_block ?_
    refine s_seq ?_
    refine s_region ?_
    refine o_p (p_indexAddr rfl rfl rfl sl_92 (k) (by omega) (by omega) rfl) rfl ?_
    refine o_q (q_load_at rfl rfl sz_5 (fun w h => by rw [Nat.zero_add]; exact h.rd_blk (Mc := []) (b := b1) aPk (by rw [Nat.mul_one]; exact bv_get hk) (by simp))) rfl ?_
    refine oP ?_
    refine o_nil ?_
    refine s_block ?_
    refine s_seq ?_
    refine s_region ?_
    refine oP ?_
    refine o_p (p_index_str rfl rfl rfl Tryd.underlying9 (0) (by omega) (by first | omega | decide)) rfl ?_
    refine oP ?_
    refine oP ?_
    refine o_or 4 24 28 _ _ rfl
      (by
        intro hg6
        have hs7 := hg6; try simp only [decide_eq_true_eq, decide_eq_false_iff_not, Bool.not_eq_true', Bool.not_eq_false', Bool.and_eq_true, Bool.or_eq_true, Bool.and_eq_false_iff, Bool.or_eq_false_iff, Bool.not_true, Bool.not_false] at hs7
        refine o_on 24 _ rfl rfl hg6 ?_
        refine oP ?_
        refine o_on 24 _ rfl rfl hg6 ?_
        refine o_p (p_index_str rfl rfl rfl Tryd.underlying9 (0) (by omega) (by first | omega | decide)) rfl ?_
        refine o_on 24 _ rfl rfl hg6 ?_
        refine oP ?_
        refine o_p (p_pickf rfl rfl hg6 rfl) rfl ?_
        refine o_nil ?_
        exact s_joinN 4 28 _ rfl rfl rfl (fun w h => by first | exact h | exact h.ent aEt))
      (by
        intro hg8
        have hs9 := hg8; try simp only [decide_eq_true_eq, decide_eq_false_iff_not, Bool.not_eq_true', Bool.not_eq_false', Bool.and_eq_true, Bool.or_eq_true, Bool.and_eq_false_iff, Bool.or_eq_false_iff, Bool.not_true, Bool.not_false] at hs9
        refine o_off 24 _ rfl rfl hg8 rfl ?_
        refine o_off 24 _ rfl rfl hg8 rfl ?_
        refine o_off 24 _ rfl rfl hg8 rfl ?_
        refine o_p (p_pickt rfl rfl hg8 rfl) rfl ?_
        refine o_nil ?_
        exact s_joinN 4 28 _ rfl rfl rfl (fun w h => by first | exact h | exact h.ent aEt)) ?_
    refine oP ?_
    refine o_nil ?_
    refine s_cond rfl (fun h10 => ?_) (fun h10 => ?_)
    · try simp only [decide_eq_true_eq, decide_eq_false_iff_not, Bool.not_eq_true', Bool.not_eq_false', Bool.and_eq_true, Bool.or_eq_true, Bool.and_eq_false_iff, Bool.or_eq_false_iff, Bool.not_true, Bool.not_false] at h10
      have hkp : kpB ((up t s).getD k 0) = [] := by have hq : (((up t s).getD k 0).toNat : Int) = 32 ∨ (((up t s).getD k 0).toNat : Int) = 46 := h10; rw [e32, e46] at hq; unfold kpB; rw [if_pos hq]
      refine s_skip ?_
      refine s_blk ?_
      refine s_blk ?_
      refine s_region ?_
      refine oP ?_
      try (refine o_slot (i64w (by omega) (by omega)) ?_)
      refine oP ?_
      refine o_nil ?_
      exact s_backI (k + 1, A) (by show (up t s).length - (k + 1) < (up t s).length - k; omega) (by show k + 1 ≤ _; omega) (by (try dsimp only); rw [hst, hkp, List.append_nil]; exact aSx) (fun w h => by dsimp only; rw [hst, hkp, List.append_nil]; exact h.ent aEt)
    · try simp only [decide_eq_true_eq, decide_eq_false_iff_not, Bool.not_eq_true', Bool.not_eq_false', Bool.and_eq_true, Bool.or_eq_true, Bool.and_eq_false_iff, Bool.or_eq_false_iff, Bool.not_true, Bool.not_false] at h10
      have hq1 : ¬ (((up t s).getD k 0).toNat : Int) = 32 ∧ ¬ (((up t s).getD k 0).toNat : Int) = 46 := h10
      rw [e32, e46] at hq1
      refine s_seq ?_
      refine s_region ?_
      refine oP ?_
      refine o_q (q_call rfl fn_85 rfl (fun w1 h1 => c85 w1 ((up t s).getD k 0))) rfl ?_
      refine oP ?_
      refine o_nil ?_
      refine s_cond rfl (fun h11 => ?_) (fun h11 => ?_)
      · try simp only [decide_eq_true_eq, decide_eq_false_iff_not, Bool.not_eq_true', Bool.not_eq_false', Bool.and_eq_true, Bool.or_eq_true, Bool.and_eq_false_iff, Bool.or_eq_false_iff, Bool.not_true, Bool.not_false] at h11
        have hkp : kpB ((up t s).getD k 0) = [(up t s).getD k 0] := by unfold kpB; rw [if_neg (by rintro (hA | hA); exact hq1.1 hA; exact hq1.2 hA), if_pos h11]
        refine s_region ?_
        refine oP ?_
        refine oP ?_
        refine o_h (h_buildSlice (cs := [_]) rfl rfl sl_92 zr_5 rfl rfl rfl) rfl (fun b12 _ => ?_)
        refine o_h (h_appendS (n := (((up t s).take k).flatMap kpB).length) [bv ((up t s).getD k 0)] rfl rfl rfl sl_92 Tryd.underlying92 zr_5 rfl aPk (src_blk aPk) rfl (by intro u hu; simp only [List.mem_cons, List.mem_nil_iff, or_false] at hu; subst hu; rfl) (by omega) (by simp only [maxLen]; omega)) rfl (fun b13 _ => ?_)
        refine oP ?_
        refine o_nil ?_
        refine s_blk ?_
        refine s_blk ?_
        refine s_region ?_
        refine oP ?_
        try (refine o_slot (i64w (by omega) (by omega)) ?_)
        refine oP ?_
        refine o_nil ?_
        exact s_backI (k + 1, b13) (by show (up t s).length - (k + 1) < (up t s).length - k; omega) (by show k + 1 ≤ _; omega) (by (try dsimp only); rw [hst, hkp, List.length_append]; exact aSx) (fun w h => by dsimp only; rw [hst, hkp, List.length_append, List.map_append]; exact h.ent aEt)
      · try simp only [decide_eq_true_eq, decide_eq_false_iff_not, Bool.not_eq_true', Bool.not_eq_false', Bool.and_eq_true, Bool.or_eq_true, Bool.and_eq_false_iff, Bool.or_eq_false_iff, Bool.not_true, Bool.not_false] at h11
        have hkp : kpB ((up t s).getD k 0) = [95] := by unfold kpB; rw [if_neg (by rintro (hA | hA); exact hq1.1 hA; exact hq1.2 hA), if_neg (by rw [h11]; simp)]
        refine s_region ?_
        refine oP ?_
        refine o_h (h_buildSlice (cs := [_]) rfl rfl sl_92 zr_5 rfl rfl rfl) rfl (fun b14 _ => ?_)
        refine o_h (h_appendS (n := (((up t s).take k).flatMap kpB).length) [bv 95] rfl rfl rfl sl_92 Tryd.underlying92 zr_5 rfl aPk (src_blk aPk) rfl (by intro u hu; simp only [List.mem_cons, List.mem_nil_iff, or_false] at hu; subst hu; rfl) (by omega) (by simp only [maxLen]; omega)) rfl (fun b15 _ => ?_)
        refine oP ?_
        refine o_nil ?_
        refine s_blk ?_
        refine s_blk ?_
        refine s_region ?_
        refine oP ?_
        try (refine o_slot (i64w (by omega) (by omega)) ?_)
        refine oP ?_
        refine o_nil ?_
        exact s_backI (k + 1, b15) (by show (up t s).length - (k + 1) < (up t s).length - k; omega) (by show k + 1 ≤ _; omega) (by (try dsimp only); rw [hst, hkp, List.length_append]; exact aSx) (fun w h => by dsimp only; rw [hst, hkp, List.length_append, List.map_append]; exact h.ent aEt)
  · try simp only [decide_eq_true_eq, decide_eq_false_iff_not, Bool.not_eq_true', Bool.not_eq_false', Bool.and_eq_true, Bool.or_eq_true, Bool.and_eq_false_iff, Bool.or_eq_false_iff, Bool.not_true, Bool.not_false] at h5
    obtain rfl : k = (up t s).length := by omega
    rw [List.take_length]
    refine s_exit_to rfl ?_
    refine s_seq ?_
    refine s_region ?_
    refine oP ?_
    refine o_q (q_string_own rfl rfl Tryd.underlying92 Tryd.underlying9 Tryd.underlying5 aPk (isU8_bv _)) rfl ?_
    refine oP ?_
    refine o_nil ?_
    exact s_retv (rs := [.tmp 4]) rfl (.tmp rfl (.nil)) (fun w' h' => ⟨by simp only [vByte_bv]; rfl, h'.below⟩)

set_option maxRecDepth 20000 in
set_option maxHeartbeats 2000000 in
theorem c62 (w : World) (t s : List UInt8) (r : Nat) (ks : List (List UInt8)) (hl : t.length = 128) (hc : ∀ c ∈ s, c.toNat < 128) (hm : s.length ≤ 1000000) (hr : MpR w [] r KS ks) (ht : TabOk w) : Calls Tryd.prog 62 #[.string (bs t), .string (bs s), .map (some r)] w fun en w' => en = .returned (.tuple #[.string (bs (shortU t s ks).1), .int .i64 (shortU t s ks).2]) ∧ Below w.heap.size w w' := by
  have hcs : ∀ c ∈ stemU s, c.toNat < 128 := by intro c hA; unfold stemU at hA; split at hA; exact hc c (List.mem_of_mem_take hA); exact hc c hA
  have hct : ∀ c ∈ tailU s, c.toNat < 128 := by intro c hA; unfold tailU at hA; split at hA; exact hc c (List.mem_of_mem_drop hA); cases hA
  have hms : (stemU s).length ≤ 1000000 := by unfold stemU; split; (rw [List.length_take]; omega); exact hm
  have hmt : (tailU s).length ≤ 1000000 := by unfold tailU; split; (rw [List.length_drop]; omega); exact Nat.zero_le _
  have hks := kept_len (t := t) (s := stemU s)
  have hkt := kept_len (t := t) (s := tailU s)
  have h3 := tail3_len (t := t) (s := s)
  refine enter (args := [_, _, _]) Tryd.func62 Tryd.ntmps62 rfl rfl (HS.refl w []) ?_
  refine s_seq ?_
  refine s_region ?_
  refine oP ?_
  refine oP ?_
  refine o_nil ?_
  refine s_seq ?_
  refine s_region ?_
  refine oP ?_
  refine oP ?_
  refine oP ?_
  refine o_nil ?_
  refine s_seq ?_
  refine s_seq ?_
  refine s_region ?_
  refine oP ?_
  refine o_q (q_call rfl fn_86 rfl (fun w1 h1 => li86 w1 s hm)) rfl ?_
  refine oP ?_
  refine o_nil ?_
  refine s_seq ?_
  refine s_region ?_
  refine oP ?_
  refine oP ?_
  refine o_nil ?_
  refine s_cutI (α := Unit) [8, 9, 19, 20, 21, 22, 23, 24, 25] (fun _ => [(8, .string (bs (stemU s))), (9, .string (bs (tailU s)))]) (fun _ => HS w [] []) (fun _ => True) ?_ ?_
  · skip
    refine s_cond rfl (fun h1 => ?_) (fun h1 => ?_)
    · try simp only [decide_eq_true_eq, decide_eq_false_iff_not, Bool.not_eq_true', Bool.not_eq_false', Bool.and_eq_true, Bool.or_eq_true, Bool.and_eq_false_iff, Bool.or_eq_false_iff, Bool.not_true, Bool.not_false] at h1
      obtain ⟨hd1, hd2, hd3⟩ := last_at h1
      have hst : stemU s = s.take (dotAt s) := by rw [stemU, if_pos hd2]
      have htl : tailU s = s.drop (dotAt s + 1) := by rw [tailU, if_pos hd2]
      refine s_draw [] mixed ?_
      refine dP 0 ?_
      refine dP 1 ?_
      refine d_p 2 rfl (p_slice_str_to (dotAt s) rfl rfl rfl Tryd.underlying9 hd1 (by omega)) (by kernel_rfl) rfl rfl ?_
      refine dP 3 ?_
      refine dP 4 ?_
      refine dP 5 ?_
      try (refine d_slot (i64w (by omega) (by omega)) ?_)
      refine d_slot (show _ = Value.int .i64 ((dotAt s + 1 : Nat) : Int) from by rw [hd1]; rfl) ?_
      refine d_p 6 rfl (p_slice_str_from (dotAt s + 1) rfl rfl rfl Tryd.underlying9 rfl (by omega)) (by kernel_rfl) rfl rfl ?_
      refine dP 7 ?_
      refine dP 8 ?_
      refine d_nil (by kernel_rfl) (fun w h => h.ent aEt) ?_
      exact s_joinI () trivial (by (try dsimp only); rw [hst, htl]; exact aSx) (fun w h => h.ent aEt)
    · try simp only [decide_eq_true_eq, decide_eq_false_iff_not, Bool.not_eq_true', Bool.not_eq_false', Bool.and_eq_true, Bool.or_eq_true, Bool.and_eq_false_iff, Bool.or_eq_false_iff, Bool.not_true, Bool.not_false] at h1
      have hd2 := last_no h1
      have hst : stemU s = s := by rw [stemU, if_neg (by omega)]
      have htl : tailU s = [] := by rw [tailU, if_neg (by omega)]
      refine s_skip ?_
      exact s_joinI () trivial (by (try dsimp only); rw [hst, htl]; exact aSx) (fun w h => h.ent aEt)
  · intro _ _
    refine s_seq ?_
    refine s_region ?_
    refine oP ?_
    refine oP ?_
    refine o_q (q_call rfl fn_87 rfl (fun w1 h1 => c87 w1 t (stemU s) hl hcs hms)) rfl ?_
    refine oP ?_
    refine oP ?_
    refine o_q (q_call rfl fn_87 rfl (fun w1 h1 => c87 w1 t (tailU s) hl hct hmt)) rfl ?_
    refine oP ?_
    refine oP ?_
    refine o_nil ?_
    refine s_seq ?_
    refine s_seq ?_
    refine s_region ?_
    refine oP ?_
    refine oP ?_
    refine o_nil ?_
    refine s_cond rfl (fun h2 => ?_) (fun h2 => ?_)
    · try simp only [decide_eq_true_eq, decide_eq_false_iff_not, Bool.not_eq_true', Bool.not_eq_false', Bool.and_eq_true, Bool.or_eq_true, Bool.and_eq_false_iff, Bool.or_eq_false_iff, Bool.not_true, Bool.not_false] at h2
      have hz : keptU t (stemU s) = [] := h2
      refine s_seq ?_
      refine s_region ?_
      refine oP ?_
      refine oP ?_
      refine o_nil ?_
      exact s_retv (rs := [.tmp 6, .tmp 7]) rfl (.tmp rfl (.tmp rfl (.nil))) (fun w' h' => ⟨by rw [shortU, if_pos hz]; rfl, h'.below⟩)
    · try simp only [decide_eq_true_eq, decide_eq_false_iff_not, Bool.not_eq_true', Bool.not_eq_false', Bool.and_eq_true, Bool.or_eq_true, Bool.and_eq_false_iff, Bool.or_eq_false_iff, Bool.not_true, Bool.not_false] at h2
      have hz : ¬ keptU t (stemU s) = [] := h2
      refine s_skip ?_
      refine s_seq ?_
      refine s_seq ?_
      refine s_region ?_
      refine oP ?_
      refine oP ?_
      refine o_nil ?_
      refine s_weaken (L' := [(0, _), (2, _), (6, _), (7, _), (8, _), (9, _), (35, _)]) aSx (fun _ h => h) ?_
      refine s_cutI (α := Unit) [9, 36, 37, 38, 39, 40, 41] (fun _ => [(9, .string (bs (tail3 t s)))]) (fun _ => HS w [] []) (fun _ => True) ?_ ?_
      · skip
        refine s_cond rfl (fun h3 => ?_) (fun h3 => ?_)
        · try simp only [decide_eq_true_eq, decide_eq_false_iff_not, Bool.not_eq_true', Bool.not_eq_false', Bool.and_eq_true, Bool.or_eq_true, Bool.and_eq_false_iff, Bool.or_eq_false_iff, Bool.not_true, Bool.not_false] at h3
          have h3e : tail3 t s = [46] ++ (keptU t (tailU s)).take (min (keptU t (tailU s)).length 3) := by rw [tail3, if_neg h3]; rcases Nat.le_total (keptU t (tailU s)).length 3 with hA | hA; (rw [Nat.min_eq_left hA, List.take_length, List.take_of_length_le hA]; rfl); (rw [Nat.min_eq_right hA]; rfl)
          refine s_region ?_
          refine oP ?_
          refine oP ?_
          refine o_p (p_len_str rfl rfl Tryd.underlying9) rfl ?_
          refine o_p (p_min2 rfl rfl rfl ) rfl ?_
          refine o_p (p_slice_str_to (min (keptU t (tailU s)).length 3) rfl rfl rfl Tryd.underlying9 (by omega) (by omega)) rfl ?_
          refine o_p (p_str_add rfl rfl rfl (by (try simp only [List.length_append, List.length_cons, List.length_nil, List.length_replicate, List.length_take, List.length_drop]); omega)) rfl ?_
          refine oP ?_
          refine o_nil ?_
          exact s_joinI () trivial (by (try dsimp only); rw [h3e]; exact aSx) (fun w h => h.ent aEt)
        · try simp only [decide_eq_true_eq, decide_eq_false_iff_not, Bool.not_eq_true', Bool.not_eq_false', Bool.and_eq_true, Bool.or_eq_true, Bool.and_eq_false_iff, Bool.or_eq_false_iff, Bool.not_true, Bool.not_false] at h3
          have h3e : tail3 t s = [] := by rw [tail3, if_pos h3]
          have h3f : keptU t (tailU s) = [] := h3
          refine s_skip ?_
          exact s_joinI () trivial (by (try dsimp only); rw [h3e, h3f]; exact aSx) (fun w h => h.ent aEt)
      · intro _ _
        refine s_seq ?_
        refine s_seq ?_
        refine s_region ?_
        refine oP ?_
        refine o_nil ?_
        refine s_block ?_
        refine s_loopI (α := Nat) [6, 7, 11, 12, 13, 42, 43, 44, 45, 46, 47, 48, 49, 50, 51, 52, 53, 54, 55, 56, 57, 58, 59, 60, 61, 62, 63, 64, 65, 66, 67] (fun k => [(11, .int .i64 (k : Int))]) (fun _ => _) (fun k => 1 ≤ k ∧ k ≤ 1000 ∧ tryN t s ks 1 999 = tryN t s ks k (1000 - k)) (fun k => 1000 - k) 1 ⟨by omega, by omega, rfl⟩ aSx (fun w h => h) (fun k hkk => ?_)
        obtain ⟨hk0, hk1, hk2⟩ := hkk
        refine s_seq ?_
        refine s_seq ?_
        refine s_region ?_
        refine oP ?_
        refine oP ?_
        refine o_nil ?_
        refine s_cond rfl (fun h4 => ?_) (fun h4 => ?_)
        · try simp only [decide_eq_true_eq, decide_eq_false_iff_not, Bool.not_eq_true', Bool.not_eq_false', Bool.and_eq_true, Bool.or_eq_true, Bool.and_eq_false_iff, Bool.or_eq_false_iff, Bool.not_true, Bool.not_false] at h4
          have hk : k ≤ 999 := by omega
          have hel := end_len hk
          have hel2 : (Lib.itoa (k : Int)).length + 1 = (endU k).length := rfl
          obtain ⟨f, hf⟩ : ∃ f, 1000 - k = f + 1 := ⟨999 - k, by omega⟩
          have hcl := cand_len (t := t) (s := s) hk
          refine s_skip ?_
          refine s_seq ?_
          refine s_block ?_
          refine s_seq ?_
          refine s_region ?_
          refine oP ?_
          refine o_q (q_call rfl fn_88 rfl (fun w1 h1 => it88 w1 k (by omega) (ht.later h1))) rfl ?_
          refine o_p (p_str_add rfl rfl rfl (by (try simp only [List.length_append, List.length_cons, List.length_nil, List.length_replicate, List.length_take, List.length_drop]); omega)) rfl ?_
          refine o_slot (show _ = Value.string (bs (endU k)) from rfl) ?_
          refine oP ?_
          refine o_nil ?_
          refine s_seq ?_
          refine s_region ?_
          refine oP ?_
          refine oP ?_
          refine o_p (p_len_str rfl rfl Tryd.underlying9) rfl ?_
          refine oP ?_
          refine o_p (p_len_str rfl rfl Tryd.underlying9) rfl ?_
          refine oP ?_
          try (refine o_slot (i64w (by omega) (by omega)) ?_)
          refine o_p (p_min3 rfl rfl rfl rfl ) rfl ?_
          refine o_p (p_slice_str_to (min (keptU t (stemU s)).length (min 6 (8 - (endU k).length))) rfl rfl rfl Tryd.underlying9 (by omega) (by omega)) rfl ?_
          refine oP ?_
          refine o_p (p_str_add rfl rfl rfl (by (try simp only [List.length_append, List.length_cons, List.length_nil, List.length_replicate, List.length_take, List.length_drop]); omega)) rfl ?_
          refine oP ?_
          refine o_p (p_str_add rfl rfl rfl (by (try simp only [List.length_append, List.length_cons, List.length_nil, List.length_replicate, List.length_take, List.length_drop]); omega)) rfl ?_
          refine o_slot (show _ = Value.string (bs (candU t s k)) from by rw [show candU t s k = (keptU t (stemU s)).take (min (keptU t (stemU s)).length (min 6 (8 - (endU k).length))) ++ endU k ++ tail3 t s from by rw [candU, List.take_eq_take_min (i := min 6 (8 - (endU k).length)), Nat.min_comm (keptU t (stemU s)).length]]) ?_
          refine oP ?_
          refine o_nil ?_
          refine s_seq ?_
          refine s_region ?_
          refine oP ?_
          refine oP ?_
          refine oP ?_
          refine o_q (q_call rfl fn_60 rfl (fun w1 h1 => c60 w1 t (candU t s k) hl cand_lt (by have := cand_len (t := t) (s := s) (n := k) (by omega); omega))) rfl ?_
          refine o_q (q_lookup_old (K := KS) rfl rfl rfl Tryd.underlying86 zv_4 (key_str Tryd.underlying9) (hr)) rfl ?_
          refine oP ?_
          refine o_nil ?_
          refine s_cond rfl (fun h5 => ?_) (fun h5 => ?_)
          · try simp only [decide_eq_true_eq, decide_eq_false_iff_not, Bool.not_eq_true', Bool.not_eq_false', Bool.and_eq_true, Bool.or_eq_true, Bool.and_eq_false_iff, Bool.or_eq_false_iff, Bool.not_true, Bool.not_false] at h5
            have hin : ¬ up t (candU t s k) ∈ ks := h5
            refine s_seq ?_
            refine s_weaken (L' := [(0, _), (2, _), (8, _), (9, _), (11, _), (13, _), (35, _)]) aSx (fun _ h => h) ?_
            refine s_region ?_
            refine oP ?_
            refine oP ?_
            refine oP ?_
            refine o_nil ?_
            exact s_retv (rs := [.tmp 6, .tmp 7]) rfl (.tmp rfl (.tmp rfl (.nil))) (fun w' h' => ⟨by rw [shortU, if_neg hz, hk2, hf, tryN, if_neg hin]; rfl, h'.below⟩)
          · try simp only [decide_eq_true_eq, decide_eq_false_iff_not, Bool.not_eq_true', Bool.not_eq_false', Bool.and_eq_true, Bool.or_eq_true, Bool.and_eq_false_iff, Bool.or_eq_false_iff, Bool.not_true, Bool.not_false] at h5
            have hin : up t (candU t s k) ∈ ks := h5
            refine s_skip ?_
            refine s_blk ?_
            refine s_weaken (L' := [(0, _), (2, _), (8, _), (9, _), (11, _), (35, _)]) aSx (fun _ h => h) ?_
            refine s_region ?_
            refine oP ?_
            refine oP ?_
            try (refine o_slot (i64w (by omega) (by omega)) ?_)
            refine oP ?_
            refine o_nil ?_
            exact s_backI (k + 1) (by omega) ⟨by omega, by omega, by rw [hk2, hf, tryN, if_pos hin, show 1000 - (k + 1) = f by omega]⟩ aSx (fun w h => h)
        · try simp only [decide_eq_true_eq, decide_eq_false_iff_not, Bool.not_eq_true', Bool.not_eq_false', Bool.and_eq_true, Bool.or_eq_true, Bool.and_eq_false_iff, Bool.or_eq_false_iff, Bool.not_true, Bool.not_false] at h4
          obtain rfl : k = 1000 := by omega
          refine s_exit_to rfl ?_
          refine s_seq ?_
          refine s_region ?_
          refine oP ?_
          refine oP ?_
          refine o_nil ?_
          exact s_retv (rs := [.tmp 6, .tmp 7]) rfl (.tmp rfl (.tmp rfl (.nil))) (fun w' h' => ⟨by rw [shortU, if_neg hz, hk2]; rfl, h'.below⟩)

end Go.Proofs

/- Chapter 5, plain: sizes, the examples of the document. No program here. -/
namespace Go.Proofs
open Go Go.RowKit Gx
set_option linter.unusedVariables false
def smallU (l : List (List UInt8)) : Bool := l.all fun s => decide (s.length ≤ 300)
def fewU (l : List (List UInt8)) : Bool := l.all (fun s => decide (s.length ≤ 60)) && decide (l.length ≤ 210)
theorem all_step' {l : List (List UInt8)} {p : List UInt8 → Bool} {k : Nat} (h : k < l.length) : (l.take (k + 1)).all p = ((l.take k).all p && p (l.getD k [])) := by
  rw [take_succ_getD (d := []) h, List.all_append]
  simp
theorem all_hit' {l : List (List UInt8)} {p : List UInt8 → Bool} {k : Nat} (h : k < l.length) (hp : p (l.getD k []) = false) : l.all p = false := by
  rw [List.all_eq_false]
  exact ⟨l.getD k [], getD_mem h, by rw [hp]; simp⟩
def exS : List UInt8 := [82, 101, 97, 100, 32, 109, 101, 46, 116, 101, 120, 116]
def exT : List UInt8 := [114, 101, 97, 100, 109, 101, 126, 49, 46, 116, 101, 120]
theorem ex_short : shortU stdT exS ([exT].map (up stdT)) = ([82, 69, 65, 68, 77, 69, 126, 50, 46, 84, 69, 88], 0) := by
  have e1 : Lib.itoa ((1 : Nat) : Int) = [49] := by rw [itoa_nat]; unfold Lib.decDigits; rfl
  have e2 : Lib.itoa ((2 : Nat) : Int) = [50] := by rw [itoa_nat]; unfold Lib.decDigits; rfl
  have c1 : candU stdT exS 1 = [82, 69, 65, 68, 77, 69, 126, 49, 46, 84, 69, 88] := by unfold candU endU; rw [e1]; decide +kernel
  have c2 : candU stdT exS 2 = [82, 69, 65, 68, 77, 69, 126, 50, 46, 84, 69, 88] := by unfold candU endU; rw [e2]; decide +kernel
  rw [shortU, if_neg (by decide +kernel), tryN, if_pos (by rw [c1]; decide +kernel), tryN, if_neg (by rw [c2]; decide +kernel), c2]
theorem ex_match : mtU stdT [42, 46, 116, 63, 116] [88, 46, 84, 79, 84] = true := by
  unfold mtU
  simp (decide := true) [mtR]
theorem ex_cmp : cmpU stdT [98] [67] = -1 := by decide +kernel
end Go.Proofs

namespace Go.Proofs
open Go Go.RowKit Gx
set_option linter.unusedVariables false
set_option linter.unusedSimpArgs false
attribute [local irreducible] Go.Calls Gx.S Gx.O Gx.D Gx.OpP Gx.OpQ Gx.OpH

theorem fn_63 : isFn Tryd.prog 63 = true := by kernel_rfl
theorem fn_62 : isFn Tryd.prog 62 = true := by kernel_rfl


/-- The upper cases of names, as a set. -/
noncomputable def upsU (t : List UInt8) (l : List (List UInt8)) : List (List UInt8) := (l.map (up t)).foldl insK' []
theorem mem_fold {l ks : List (List UInt8)} : ∀ {x}, x ∈ l.foldl insK' ks ↔ x ∈ ks ∨ x ∈ l := by
  induction l generalizing ks with
  | nil => intro x; simp
  | cons a l ih =>
    intro x
    rw [List.foldl_cons, ih]
    unfold insK'
    split
    · rename_i h
      simp only [List.mem_cons]
      constructor
      · rintro (h1 | h1)
        · exact .inl h1
        · exact .inr (.inr h1)
      · rintro (h1 | rfl | h1)
        · exact .inl h1
        · exact .inl h
        · exact .inr h1
    · simp only [List.mem_append, List.mem_cons, List.mem_nil_iff, or_false, or_assoc]
theorem mem_ups {t : List UInt8} {l : List (List UInt8)} (x : List UInt8) : x ∈ upsU t l ↔ x ∈ l.map (up t) := by
  unfold upsU
  rw [mem_fold]
  simp
theorem ups_succ {t : List UInt8} {l : List (List UInt8)} {k : Nat} (h : k < l.length) : upsU t (l.take (k + 1)) = insK' (upsU t (l.take k)) (up t (l.getD k [])) := by
  unfold upsU
  rw [take_succ_getD (d := []) h, List.map_append, List.foldl_append]
  rfl
/-- The error of ShortOf before a name is sought. -/
def shOfE (t s : List UInt8) (l : List (List UInt8)) : Int := if openE t [s] = 0 then if shortS (up t s) = true then 12 else namesE l else openE t [s]

set_option maxRecDepth 20000 in
theorem c63 (w : World) (t : List UInt8) (a : Option Addr) (cap : Nat) (l : List (List UInt8)) (hl : t.length = 128) (hc : ∀ s ∈ l, ∀ c ∈ s, c.toNat < 128) (hs : Vl w a (l.map strV)) (hln : l.length ≤ 1000000) (hml : ∀ s ∈ l, s.length ≤ 1000000) : Calls Tryd.prog 63 #[.string (bs t), .slice a l.length cap] w fun en w' => ∃ g : Nat, en = .returned (.map (some g)) ∧ True ∧ HS w [] [.mp g KS (upsU t l)] w' := by
  refine enter (args := [_, _]) Tryd.func63 Tryd.ntmps63 rfl rfl (HS.refl w []) ?_
  refine s_seq ?_
  refine s_region ?_
  refine oP ?_
  refine o_nil ?_
  refine s_seq ?_
  refine s_region ?_
  refine o_h (h_makeMap rfl KS) rfl (fun b1 _ => ?_)
  refine oP ?_
  refine o_nil ?_
  refine s_seq ?_
  refine s_seq ?_
  refine s_region ?_
  refine oP ?_
  refine o_p (p_len_slice rfl rfl Tryd.underlying29) rfl ?_
  refine oP ?_
  refine o_nil ?_
  refine s_block ?_
  refine s_loopI (α := Nat) [7, 11, 12, 13, 14, 15, 16, 17, 18, 19] (fun k => [(11, .int .i64 (k : Int))]) (fun k => HS w [] [.mp b1 KS (upsU t (l.take k))]) (fun k => k ≤ l.length) (fun k => l.length - k) 0 (Nat.zero_le _) aSx (fun w h => h.ent aEt) (fun k hk1 => ?_)
  refine s_seq ?_
  refine s_region ?_
  refine oP ?_
  refine o_nil ?_
  refine s_seq ?_
  refine s_cond rfl (fun h2 => ?_) (fun h2 => ?_)
  · try simp only [decide_eq_true_eq, decide_eq_false_iff_not, Bool.not_eq_true', Bool.not_eq_false', Bool.and_eq_true, Bool.or_eq_true, Bool.and_eq_false_iff, Bool.or_eq_false_iff, Bool.not_true, Bool.not_false] at h2
    have hk : k < l.length := by omega
    have hgm := getD_mem (d := []) hk
    have hst := ups_succ (t := t) hk
    refine s_skip ?_
    refine s_seq ?_
    refine s_block ?_
    refine s_seq ?_
    refine s_region ?_
    refine o_p (p_indexAddr rfl rfl rfl sl_29 (k) (by omega) (by omega) (hs.some (by rw [List.length_map]; omega))) rfl ?_
    refine o_q (q_load_old rfl rfl sz_9 ((hs.rd (str_get' (k := k) hk)))) rfl ?_
    refine oP ?_
    refine o_nil ?_
    refine s_region ?_
    refine oP ?_
    refine oP ?_
    refine oP ?_
    refine o_q (q_call rfl fn_60 rfl (fun w1 h1 => c60 w1 t (l.getD k []) hl (hc _ hgm) (hml _ hgm))) rfl ?_
    refine o_h0 (h_mapUpdate (K := KS) (.inl rfl) rfl rfl rfl Tryd.underlying86 (key_str Tryd.underlying9) aPt) (fun _ _ => ?_)
    refine o_nil ?_
    refine s_blk ?_
    refine s_region ?_
    refine oP ?_
    try (refine o_slot (i64w (by omega) (by omega)) ?_)
    refine oP ?_
    refine o_nil ?_
    exact s_backI (k + 1) (by omega) (by omega) aSx (fun w h => by rw [hst]; exact h.ent aEt)
  · try simp only [decide_eq_true_eq, decide_eq_false_iff_not, Bool.not_eq_true', Bool.not_eq_false', Bool.and_eq_true, Bool.or_eq_true, Bool.and_eq_false_iff, Bool.or_eq_false_iff, Bool.not_true, Bool.not_false] at h2
    obtain rfl : k = l.length := by omega
    rw [List.take_length]
    refine s_exit_to rfl ?_
    refine s_seq ?_
    refine s_region ?_
    refine oP ?_
    refine oP ?_
    refine o_nil ?_
    exact s_retv (rs := [.tmp 4]) rfl (.tmp rfl (.nil)) (fun w' h' => ⟨_, rfl, trivial, h'.ent aEt⟩)

set_option maxRecDepth 20000 in
set_option maxHeartbeats 1000000 in
theorem c25 (w : World) (t s : List UInt8) (a : Option Addr) (cap : Nat) (l : List (List UInt8)) (hmt : t.length ≤ 1000000) (hm : s.length ≤ 1000000) (hs : Vl w a (l.map strV)) (hln : l.length ≤ 1000000) (hml : ∀ s ∈ l, s.length ≤ 1000000) (ht : TabOk w) : Calls Tryd.prog 25 #[.string (bs t), .string (bs s), .slice a l.length cap] w fun en w' => en = .returned (.tuple #[.string (bs (if (shOfE t s l) = 0 then (shortU t s (l.map (up t))).1 else [])), .int .i64 (if (shOfE t s l) = 0 then (shortU t s (l.map (up t))).2 else (shOfE t s l))]) ∧ Below w.heap.size w w' := by
  refine enter (args := [_, _, _]) Tryd.func25 Tryd.ntmps25 rfl rfl (HS.refl w []) ?_
  refine s_seq ?_
  refine s_region ?_
  refine oP ?_
  refine oP ?_
  refine o_nil ?_
  refine s_seq ?_
  refine s_region ?_
  refine oP ?_
  refine oP ?_
  refine o_h (h_buildSlice (cs := [_]) rfl rfl sl_29 zr_9 rfl rfl rfl) rfl (fun b1 _ => ?_)
  refine o_q (q_call rfl fn_59 rfl (fun w1 h1 => c59 w1 t _ _ [s] hmt (h1.vl_blk aPk) (by simp) (by intro x hx; simp only [List.mem_cons, List.mem_nil_iff, or_false] at hx; subst hx; assumption))) rfl ?_
  refine oP ?_
  refine oP ?_
  refine oP ?_
  refine oP ?_
  refine oP ?_
  refine o_nil ?_
  refine s_seq ?_
  refine s_seq ?_
  refine s_region ?_
  refine oP ?_
  refine oP ?_
  refine o_nil ?_
  refine s_cond rfl (fun h2 => ?_) (fun h2 => ?_)
  · try simp only [decide_eq_true_eq, decide_eq_false_iff_not, Bool.not_eq_true', Bool.not_eq_false', Bool.and_eq_true, Bool.or_eq_true, Bool.and_eq_false_iff, Bool.or_eq_false_iff, Bool.not_true, Bool.not_false] at h2
    have h0 : ¬ openE t [s] = 0 := h2
    have hse : shOfE t s l = openE t [s] := by rw [shOfE, if_neg h0]
    refine s_seq ?_
    refine s_region ?_
    refine oP ?_
    refine oP ?_
    refine oP ?_
    refine o_nil ?_
    exact s_retv (rs := [.tmp 6, .tmp 7]) rfl (.tmp rfl (.tmp rfl (.nil))) (fun w' h' => ⟨by rw [hse, if_neg h0, if_neg h0]; rfl, h'.below⟩)
  · try simp only [decide_eq_true_eq, decide_eq_false_iff_not, Bool.not_eq_true', Bool.not_eq_false', Bool.and_eq_true, Bool.or_eq_true, Bool.and_eq_false_iff, Bool.or_eq_false_iff, Bool.not_true, Bool.not_false] at h2
    have h0 : openE t [s] = 0 := h2
    have ho := openE_ok h0
    have hx := nameE_lt (ho.2 s (by simp))
    have hl := (chkTab_ok ho.1).1
    have hul := up_len t s
    have hse : firstV [.int .i64 (bif !shortS (up t s) then 0 else 12), .int .i64 (namesE l)] = shOfE t s l := by rw [firstV2, shOfE, if_pos h0]; cases shortS (up t s) <;> simp
    refine s_skip ?_
    refine s_seq ?_
    refine s_seq ?_
    refine s_region ?_
    refine oP ?_
    refine oP ?_
    refine o_q (q_call rfl fn_60 rfl (fun w1 h1 => c60 w1 t s hl hx hm)) rfl ?_
    refine o_q (q_call rfl fn_22 rfl (fun w1 h1 => c22 w1 (up t s) (by omega))) rfl ?_
    refine oP ?_
    refine o_q (q_call rfl fn_61 rfl (fun w1 h1 => c61 w1 _ _)) rfl ?_
    refine oP ?_
    refine o_q (q_call rfl fn_54 rfl (fun w1 h1 => c54 w1 a cap l (hs.later h1) hln hml)) rfl ?_
    refine o_h (h_buildSlice (cs := [_, _]) rfl rfl sl_99 zr_25 rfl rfl rfl) rfl (fun b3 _ => ?_)
    refine o_q (q_call rfl fn_51 rfl (fun w1 h1 => f51 h1 aPk (by rfl) (by rfl) (by decide))) rfl ?_
    refine oP ?_
    refine o_nil ?_
    refine s_seq ?_
    refine s_region ?_
    refine oP ?_
    refine oP ?_
    refine o_nil ?_
    refine s_cond rfl (fun h4 => ?_) (fun h4 => ?_)
    · try simp only [decide_eq_true_eq, decide_eq_false_iff_not, Bool.not_eq_true', Bool.not_eq_false', Bool.and_eq_true, Bool.or_eq_true, Bool.and_eq_false_iff, Bool.or_eq_false_iff, Bool.not_true, Bool.not_false] at h4
      have h1z : ¬ shOfE t s l = 0 := by rw [← hse]; exact h4
      refine s_seq ?_
      refine s_region ?_
      refine oP ?_
      refine oP ?_
      refine oP ?_
      refine o_nil ?_
      exact s_retv (rs := [.tmp 6, .tmp 7]) rfl (.tmp rfl (.tmp rfl (.nil))) (fun w' h' => ⟨by rw [← hse] at h1z ⊢; rw [if_neg h1z, if_neg h1z]; rfl, h'.below⟩)
    · try simp only [decide_eq_true_eq, decide_eq_false_iff_not, Bool.not_eq_true', Bool.not_eq_false', Bool.and_eq_true, Bool.or_eq_true, Bool.and_eq_false_iff, Bool.or_eq_false_iff, Bool.not_true, Bool.not_false] at h4
      have h1z : shOfE t s l = 0 := by rw [← hse]; exact h4
      have hnl : ∀ q ∈ l, ∀ c ∈ q, c.toNat < 128 := by unfold shOfE at h1z; rw [if_pos h0] at h1z; split at h1z; (exact absurd h1z (by decide)); exact fun q hq => nameE_lt ((namesE_ok h1z).2 q hq)
      refine s_skip ?_
      refine s_seq ?_
      refine s_region ?_
      refine oP ?_
      refine oP ?_
      refine oP ?_
      refine oP ?_
      refine o_h (h_call rfl fn_63 rfl (fun w1 h1 => c63 w1 t a cap l hl hnl (hs.later h1) hln hml)) rfl (fun b5 _ => ?_)
      refine o_q (q_call rfl fn_62 rfl (fun w1 h1 => c62 w1 t s b5 (upsU t l) hl hx hm (h1.mpr aPk) (ht.later h1))) rfl ?_
      refine oP ?_
      refine oP ?_
      refine oP ?_
      refine oP ?_
      refine o_nil ?_
      exact s_retv (rs := [.tmp 6, .tmp 7]) rfl (.tmp rfl (.tmp rfl (.nil))) (fun w' h' => ⟨by rw [if_pos h1z, if_pos h1z, ← shortU_congr (fun x => mem_ups (t := t) (l := l) x)]; rfl, h'.below⟩)

set_option maxRecDepth 20000 in
theorem c11 (w : World) (a : Option Addr) (cap : Nat) (l : List (List UInt8)) (hs : Vl w a (l.map strV)) (hln : l.length ≤ 9223372036854775807) (hml : ∀ s ∈ l, s.length ≤ 9223372036854775807) : Calls Tryd.prog 11 #[.slice a l.length cap] w fun en w' => en = .returned (.bool (smallU l)) ∧ Below w.heap.size w w' := by
  refine enter (args := [_]) Tryd.func11 Tryd.ntmps11 rfl rfl (HS.refl w []) ?_
  refine s_seq ?_
  refine s_region ?_
  refine oP ?_
  refine o_nil ?_
  refine s_seq ?_
  refine s_seq ?_
  refine s_region ?_
  refine oP ?_
  refine o_nil ?_
  refine s_block ?_
  refine s_loopI (α := Nat) [2, 3, 4, 5, 6, 7, 8, 9, 10, 11, 12, 13, 14, 15] (fun k => [(3, .int .i64 (k : Int))]) (fun _ => _) (fun k => k ≤ l.length ∧ (l.take k).all (fun s => decide (s.length ≤ 300)) = true) (fun k => l.length - k) 0 ⟨Nat.zero_le _, rfl⟩ aSx (fun w h => h) (fun k hkk => ?_)
  obtain ⟨hk1, hk2⟩ := hkk
  refine s_seq ?_
  refine s_seq ?_
  refine s_region ?_
  refine oP ?_
  refine oP ?_
  refine o_p (p_len_slice rfl rfl Tryd.underlying29) rfl ?_
  refine oP ?_
  refine o_nil ?_
  refine s_cond rfl (fun h1 => ?_) (fun h1 => ?_)
  · try simp only [decide_eq_true_eq, decide_eq_false_iff_not, Bool.not_eq_true', Bool.not_eq_false', Bool.and_eq_true, Bool.or_eq_true, Bool.and_eq_false_iff, Bool.or_eq_false_iff, Bool.not_true, Bool.not_false] at h1
    have hk : k < l.length := by omega
    have hgm := getD_mem (d := []) hk
    have hst := all_step' (p := fun s => decide (s.length ≤ 300)) hk
    refine s_skip ?_
    refine s_seq ?_
    refine s_block ?_
    refine s_seq ?_
    refine s_region ?_
    refine oP ?_
    refine oP ?_
    refine o_p (p_indexAddr rfl rfl rfl sl_29 (k) (by omega) (by omega) (hs.some (by rw [List.length_map]; omega))) rfl ?_
    refine o_q (q_load_old rfl rfl sz_9 ((hs.rd (str_get' (k := k) hk)))) rfl ?_
    refine o_p (p_len_str rfl rfl Tryd.underlying9) rfl ?_
    refine oP ?_
    refine o_nil ?_
    refine s_cond rfl (fun h2 => ?_) (fun h2 => ?_)
    · try simp only [decide_eq_true_eq, decide_eq_false_iff_not, Bool.not_eq_true', Bool.not_eq_false', Bool.and_eq_true, Bool.or_eq_true, Bool.and_eq_false_iff, Bool.or_eq_false_iff, Bool.not_true, Bool.not_false] at h2
      have hbd : ¬ (l.getD k []).length ≤ 300 := by have hq := h2; omega
      have hf := all_hit' (p := fun s => decide (s.length ≤ 300)) hk (by simpa using hbd)
      refine s_seq ?_
      refine s_region ?_
      refine oP ?_
      refine o_nil ?_
      exact s_retv (rs := [.tmp 2]) rfl (.tmp rfl (.nil)) (fun w' h' => ⟨by rw [smallU, hf]; rfl, h'.below⟩)
    · try simp only [decide_eq_true_eq, decide_eq_false_iff_not, Bool.not_eq_true', Bool.not_eq_false', Bool.and_eq_true, Bool.or_eq_true, Bool.and_eq_false_iff, Bool.or_eq_false_iff, Bool.not_true, Bool.not_false] at h2
      have hbd : (l.getD k []).length ≤ 300 := by have hq := h2; omega
      refine s_skip ?_
      refine s_blk ?_
      refine s_region ?_
      refine oP ?_
      refine oP ?_
      try (refine o_slot (i64w (by omega) (by omega)) ?_)
      refine oP ?_
      refine o_nil ?_
      exact s_backI (k + 1) (by omega) ⟨by omega, by rw [hst, hk2, decide_eq_true hbd]; rfl⟩ aSx (fun w h => h)
  · try simp only [decide_eq_true_eq, decide_eq_false_iff_not, Bool.not_eq_true', Bool.not_eq_false', Bool.and_eq_true, Bool.or_eq_true, Bool.and_eq_false_iff, Bool.or_eq_false_iff, Bool.not_true, Bool.not_false] at h1
    obtain rfl : k = l.length := by omega
    rw [List.take_length] at hk2
    refine s_exit_to rfl ?_
    refine s_seq ?_
    refine s_region ?_
    refine oP ?_
    refine o_nil ?_
    exact s_retv (rs := [.tmp 2]) rfl (.tmp rfl (.nil)) (fun w' h' => ⟨by rw [smallU, hk2]; rfl, h'.below⟩)

set_option maxRecDepth 20000 in
theorem c16 (w : World) (a : Option Addr) (cap : Nat) (l : List (List UInt8)) (hs : Vl w a (l.map strV)) (hln : l.length ≤ 9223372036854775807) (hml : ∀ s ∈ l, s.length ≤ 9223372036854775807) : Calls Tryd.prog 16 #[.slice a l.length cap] w fun en w' => en = .returned (.bool (fewU l)) ∧ Below w.heap.size w w' := by
  refine enter (args := [_]) Tryd.func16 Tryd.ntmps16 rfl rfl (HS.refl w []) ?_
  refine s_seq ?_
  refine s_region ?_
  refine oP ?_
  refine o_nil ?_
  refine s_seq ?_
  refine s_seq ?_
  refine s_region ?_
  refine oP ?_
  refine o_nil ?_
  refine s_block ?_
  refine s_loopI (α := Nat) [2, 3, 4, 5, 6, 7, 8, 9, 10, 11, 12, 13, 14, 15] (fun k => [(3, .int .i64 (k : Int))]) (fun _ => _) (fun k => k ≤ l.length ∧ (l.take k).all (fun s => decide (s.length ≤ 60)) = true) (fun k => l.length - k) 0 ⟨Nat.zero_le _, rfl⟩ aSx (fun w h => h) (fun k hkk => ?_)
  obtain ⟨hk1, hk2⟩ := hkk
  refine s_seq ?_
  refine s_seq ?_
  refine s_region ?_
  refine oP ?_
  refine oP ?_
  refine o_p (p_len_slice rfl rfl Tryd.underlying29) rfl ?_
  refine oP ?_
  refine o_nil ?_
  refine s_cond rfl (fun h1 => ?_) (fun h1 => ?_)
  · try simp only [decide_eq_true_eq, decide_eq_false_iff_not, Bool.not_eq_true', Bool.not_eq_false', Bool.and_eq_true, Bool.or_eq_true, Bool.and_eq_false_iff, Bool.or_eq_false_iff, Bool.not_true, Bool.not_false] at h1
    have hk : k < l.length := by omega
    have hgm := getD_mem (d := []) hk
    have hst := all_step' (p := fun s => decide (s.length ≤ 60)) hk
    refine s_skip ?_
    refine s_seq ?_
    refine s_block ?_
    refine s_seq ?_
    refine s_region ?_
    refine oP ?_
    refine oP ?_
    refine o_p (p_indexAddr rfl rfl rfl sl_29 (k) (by omega) (by omega) (hs.some (by rw [List.length_map]; omega))) rfl ?_
    refine o_q (q_load_old rfl rfl sz_9 ((hs.rd (str_get' (k := k) hk)))) rfl ?_
    refine o_p (p_len_str rfl rfl Tryd.underlying9) rfl ?_
    refine oP ?_
    refine o_nil ?_
    refine s_cond rfl (fun h2 => ?_) (fun h2 => ?_)
    · try simp only [decide_eq_true_eq, decide_eq_false_iff_not, Bool.not_eq_true', Bool.not_eq_false', Bool.and_eq_true, Bool.or_eq_true, Bool.and_eq_false_iff, Bool.or_eq_false_iff, Bool.not_true, Bool.not_false] at h2
      have hbd : ¬ (l.getD k []).length ≤ 60 := by have hq := h2; omega
      have hf := all_hit' (p := fun s => decide (s.length ≤ 60)) hk (by simpa using hbd)
      refine s_seq ?_
      refine s_region ?_
      refine oP ?_
      refine o_nil ?_
      exact s_retv (rs := [.tmp 2]) rfl (.tmp rfl (.nil)) (fun w' h' => ⟨by rw [fewU, hf]; rfl, h'.below⟩)
    · try simp only [decide_eq_true_eq, decide_eq_false_iff_not, Bool.not_eq_true', Bool.not_eq_false', Bool.and_eq_true, Bool.or_eq_true, Bool.and_eq_false_iff, Bool.or_eq_false_iff, Bool.not_true, Bool.not_false] at h2
      have hbd : (l.getD k []).length ≤ 60 := by have hq := h2; omega
      refine s_skip ?_
      refine s_blk ?_
      refine s_region ?_
      refine oP ?_
      refine oP ?_
      try (refine o_slot (i64w (by omega) (by omega)) ?_)
      refine oP ?_
      refine o_nil ?_
      exact s_backI (k + 1) (by omega) ⟨by omega, by rw [hst, hk2, decide_eq_true hbd]; rfl⟩ aSx (fun w h => h)
  · try simp only [decide_eq_true_eq, decide_eq_false_iff_not, Bool.not_eq_true', Bool.not_eq_false', Bool.and_eq_true, Bool.or_eq_true, Bool.and_eq_false_iff, Bool.or_eq_false_iff, Bool.not_true, Bool.not_false] at h1
    obtain rfl : k = l.length := by omega
    rw [List.take_length] at hk2
    refine s_exit_to rfl ?_
    refine s_seq ?_
    refine s_region ?_
    refine oP ?_
    refine o_p (p_len_slice rfl rfl Tryd.underlying29) rfl ?_
    refine oP ?_
    refine oP ?_
    refine o_nil ?_
    exact s_retv (rs := [.tmp 2]) rfl (.tmp rfl (.nil)) (fun w' h' => ⟨by rw [fewU, hk2, Bool.true_and, ← decide_eq_decide.2 (show ((l.length : Int) ≤ 210) ↔ l.length ≤ 210 by omega)]; rfl, h'.below⟩)

end Go.Proofs

namespace Go.Proofs
open Go Go.RowKit Gx
set_option linter.unusedVariables false
set_option linter.unusedSimpArgs false
attribute [local irreducible] Go.Calls Gx.S Gx.O Gx.D Gx.OpP Gx.OpQ Gx.OpH

theorem fn_38 : isFn Tryd.prog 38 = true := by kernel_rfl
theorem fn_25 : isFn Tryd.prog 25 = true := by kernel_rfl
theorem fn_39 : isFn Tryd.prog 39 = true := by kernel_rfl
theorem fn_15 : isFn Tryd.prog 15 = true := by kernel_rfl
theorem fn_42 : isFn Tryd.prog 42 = true := by kernel_rfl
theorem fn_24 : isFn Tryd.prog 24 = true := by kernel_rfl


theorem a25 (w : World) (a : Option Addr) (cap : Nat) (hs : Vl w a ([exT].map strV)) (ht : TabOk w) : Calls Tryd.prog 25 #[.string (bs stdT), .string (bs exS), .slice a 1 cap] w fun en w' => en = .returned (.tuple #[.string (bs [82, 69, 65, 68, 77, 69, 126, 50, 46, 84, 69, 88]), .int .i64 0]) ∧ Below w.heap.size w w' := by
  have h := c25 w stdT exS a cap [exT] (by rw [stdT_len]; decide) (by decide) hs (by decide) (by decide) ht
  rw [show shOfE stdT exS [exT] = 0 by decide +kernel, if_pos rfl, if_pos rfl, ex_short] at h
  exact h
theorem a39 (w : World) : Calls Tryd.prog 39 #[.string (bs stdT), .string (bs [98]), .string (bs [67])] w fun en w' => en = .returned (.tuple #[.int .i64 (-1), .int .i64 0]) ∧ Below w.heap.size w w' := by
  have h := c39 w stdT [98] [67] (by rw [stdT_len]; decide) (by decide) (by decide)
  rw [show openE stdT [[98], [67]] = 0 by decide +kernel, if_pos rfl, ex_cmp] at h
  exact h
theorem a15 (w : World) : Calls Tryd.prog 15 #[.string (bs stdT), .string (bs [42, 46, 116, 63, 116]), .string (bs [88, 46, 84, 79, 84])] w fun en w' => en = .returned (.tuple #[.bool true, .int .i64 0]) ∧ Below w.heap.size w w' := by
  have h := c15 w stdT [42, 46, 116, 63, 116] [88, 46, 84, 79, 84] (by rw [stdT_len]; decide) (by decide) (by decide)
  rw [show matE stdT [42, 46, 116, 63, 116] [88, 46, 84, 79, 84] = 0 by decide +kernel, if_pos rfl, ex_match] at h
  exact h
theorem a42 (w : World) : Calls Tryd.prog 42 #[.string (bs stdT), .string (bs [97, 98])] w fun en w' => en = .returned (.tuple #[.int .i64 2471, .int .i64 0]) ∧ Below w.heap.size w w' := by
  have h := c42 w stdT [97, 98] (by rw [stdT_len]; decide) (by decide)
  rw [show openE stdT [[97, 98]] = 0 by decide +kernel, if_pos rfl, show (up stdT [97, 98]).foldl hStep 0 = 2471 by decide +kernel] at h
  exact h
theorem a24 (w : World) : Calls Tryd.prog 24 #[.string (bs stdT), .string (bs [70, 73, 76, 69, 46, 84, 88, 84])] w fun en w' => en = .returned (.tuple #[.bool false, .int .i64 0]) ∧ Below w.heap.size w w' := by
  have h := c24 w stdT [70, 73, 76, 69, 46, 84, 88, 84] (by rw [stdT_len]; decide) (by decide)
  rw [show openE stdT [[70, 73, 76, 69, 46, 84, 88, 84]] = 0 by decide +kernel, if_pos rfl, show shortS (up stdT [70, 73, 76, 69, 46, 84, 88, 84]) = true by decide +kernel] at h
  exact h
theorem a22 (w : World) : Calls Tryd.prog 22 #[.string (bs [65, 126, 49, 46, 66])] w fun en w' => en = .returned (.bool true) ∧ Below w.heap.size w w' := by
  have h := c22 w [65, 126, 49, 46, 66] (by decide)
  rw [show shortS [65, 126, 49, 46, 66] = true by decide +kernel] at h
  exact h

set_option maxRecDepth 20000 in
theorem c10 (w : World)  (ht : TabOk w) : Calls Tryd.prog 10 #[] w fun en w' => en = .returned (.bool true) ∧ Below w.heap.size w w' := by
  refine enter (args := []) Tryd.func10 Tryd.ntmps10 rfl rfl (HS.refl w []) ?_
  refine s_seq ?_
  refine s_region ?_
  refine oP ?_
  refine o_nil ?_
  refine s_seq ?_
  refine s_region ?_
  refine o_q (q_call rfl fn_43 rfl (fun w1 h1 => c43 w1)) rfl ?_
  refine oP ?_
  refine o_nil ?_
  refine s_seq ?_
  refine s_seq ?_
  refine s_region ?_
  refine oP ?_
  refine o_q (q_call rfl fn_38 rfl (fun w1 h1 => c38 w1)) rfl ?_
  refine oP ?_
  refine o_nil ?_
  refine s_cond rfl (fun h1 => ?_) (fun h1 => ?_)
  · try simp only [decide_eq_true_eq, decide_eq_false_iff_not, Bool.not_eq_true', Bool.not_eq_false', Bool.and_eq_true, Bool.or_eq_true, Bool.and_eq_false_iff, Bool.or_eq_false_iff, Bool.not_true, Bool.not_false] at h1
    exfalso; exact h1 trivial
  · try simp only [decide_eq_true_eq, decide_eq_false_iff_not, Bool.not_eq_true', Bool.not_eq_false', Bool.and_eq_true, Bool.or_eq_true, Bool.and_eq_false_iff, Bool.or_eq_false_iff, Bool.not_true, Bool.not_false] at h1
    refine s_skip ?_
    refine s_seq ?_
    refine s_region ?_
    refine oP ?_
    refine o_h (h_buildSlice (cs := [_]) rfl rfl sl_29 zr_9 rfl rfl rfl) rfl (fun b2 _ => ?_)
    refine o_q (q_call rfl fn_25 rfl (fun w1 h1 => a25 w1 _ _ (h1.vl_blk aPk) (ht.later h1))) rfl ?_
    refine oP ?_
    refine oP ?_
    refine oP ?_
    refine oP ?_
    refine oP ?_
    refine o_nil ?_
    refine s_seq ?_
    refine s_region ?_
    refine oP ?_
    refine o_q (q_call rfl fn_39 rfl (fun w1 h1 => a39 w1)) rfl ?_
    refine oP ?_
    refine oP ?_
    refine oP ?_
    refine oP ?_
    refine oP ?_
    refine o_nil ?_
    refine s_seq ?_
    refine s_region ?_
    refine oP ?_
    refine o_q (q_call rfl fn_15 rfl (fun w1 h1 => a15 w1)) rfl ?_
    refine oP ?_
    refine oP ?_
    refine oP ?_
    refine oP ?_
    refine oP ?_
    refine o_nil ?_
    refine s_seq ?_
    refine s_region ?_
    refine oP ?_
    refine o_q (q_call rfl fn_42 rfl (fun w1 h1 => a42 w1)) rfl ?_
    refine oP ?_
    refine oP ?_
    refine oP ?_
    refine oP ?_
    refine oP ?_
    refine o_nil ?_
    refine s_seq ?_
    refine s_weaken (L' := [(0, _), (1, _), (2, _), (3, _), (4, _), (5, _), (6, _), (7, _), (8, _), (9, _)]) aSx (fun _ h => h) ?_
    refine s_region ?_
    refine oP ?_
    refine o_q (q_call rfl fn_24 rfl (fun w1 h1 => a24 w1)) rfl ?_
    refine oP ?_
    refine oP ?_
    refine oP ?_
    refine oP ?_
    refine oP ?_
    refine o_nil ?_
    refine s_seq ?_
    refine s_region ?_
    refine oP ?_
    refine oP ?_
    refine oP ?_
    refine o_and 3 44 47 _ _ rfl
      (by
        intro hg3
        have hs4 := hg3; try simp only [decide_eq_true_eq, decide_eq_false_iff_not, Bool.not_eq_true', Bool.not_eq_false', Bool.and_eq_true, Bool.or_eq_true, Bool.and_eq_false_iff, Bool.or_eq_false_iff, Bool.not_true, Bool.not_false] at hs4
        refine o_on 44 _ rfl rfl hg3 ?_
        refine oP ?_
        refine o_on 44 _ rfl rfl hg3 ?_
        refine oP ?_
        refine o_p (p_pickt rfl rfl hg3 rfl) rfl ?_
        refine o_nil ?_
        exact s_joinN 3 47 _ rfl rfl rfl (fun w h => by first | exact h | exact h.ent aEt))
      (by
        intro hg5
        have hs6 := hg5; try simp only [decide_eq_true_eq, decide_eq_false_iff_not, Bool.not_eq_true', Bool.not_eq_false', Bool.and_eq_true, Bool.or_eq_true, Bool.and_eq_false_iff, Bool.or_eq_false_iff, Bool.not_true, Bool.not_false] at hs6
        refine o_off 44 _ rfl rfl hg5 rfl ?_
        refine o_off 44 _ rfl rfl hg5 rfl ?_
        refine o_p (p_pickf rfl rfl hg5 rfl) rfl ?_
        refine o_nil ?_
        exact s_joinN 3 47 _ rfl rfl rfl (fun w h => by first | exact h | exact h.ent aEt)) ?_
    refine oP ?_
    refine o_and 3 48 51 _ _ rfl
      (by
        intro hg7
        have hs8 := hg7; try simp only [decide_eq_true_eq, decide_eq_false_iff_not, Bool.not_eq_true', Bool.not_eq_false', Bool.and_eq_true, Bool.or_eq_true, Bool.and_eq_false_iff, Bool.or_eq_false_iff, Bool.not_true, Bool.not_false] at hs8
        refine o_on 48 _ rfl rfl hg7 ?_
        refine oP ?_
        refine o_on 48 _ rfl rfl hg7 ?_
        refine oP ?_
        refine o_p (p_pickt rfl rfl hg7 rfl) rfl ?_
        refine o_nil ?_
        exact s_joinN 3 51 _ rfl rfl rfl (fun w h => by first | exact h | exact h.ent aEt))
      (by
        intro hg9
        have hs10 := hg9; try simp only [decide_eq_true_eq, decide_eq_false_iff_not, Bool.not_eq_true', Bool.not_eq_false', Bool.and_eq_true, Bool.or_eq_true, Bool.and_eq_false_iff, Bool.or_eq_false_iff, Bool.not_true, Bool.not_false] at hs10
        refine o_off 48 _ rfl rfl hg9 rfl ?_
        refine o_off 48 _ rfl rfl hg9 rfl ?_
        refine o_p (p_pickf rfl rfl hg9 rfl) rfl ?_
        refine o_nil ?_
        exact s_joinN 3 51 _ rfl rfl rfl (fun w h => by first | exact h | exact h.ent aEt)) ?_
    refine oP ?_
    refine o_and 3 52 55 _ _ rfl
      (by
        intro hg11
        have hs12 := hg11; try simp only [decide_eq_true_eq, decide_eq_false_iff_not, Bool.not_eq_true', Bool.not_eq_false', Bool.and_eq_true, Bool.or_eq_true, Bool.and_eq_false_iff, Bool.or_eq_false_iff, Bool.not_true, Bool.not_false] at hs12
        refine o_on 52 _ rfl rfl hg11 ?_
        refine oP ?_
        refine o_on 52 _ rfl rfl hg11 ?_
        refine oP ?_
        refine o_p (p_pickt rfl rfl hg11 rfl) rfl ?_
        refine o_nil ?_
        exact s_joinN 3 55 _ rfl rfl rfl (fun w h => by first | exact h | exact h.ent aEt))
      (by
        intro hg13
        have hs14 := hg13; try simp only [decide_eq_true_eq, decide_eq_false_iff_not, Bool.not_eq_true', Bool.not_eq_false', Bool.and_eq_true, Bool.or_eq_true, Bool.and_eq_false_iff, Bool.or_eq_false_iff, Bool.not_true, Bool.not_false] at hs14
        refine o_off 52 _ rfl rfl hg13 rfl ?_
        refine o_off 52 _ rfl rfl hg13 rfl ?_
        refine o_p (p_pickf rfl rfl hg13 rfl) rfl ?_
        refine o_nil ?_
        exact s_joinN 3 55 _ rfl rfl rfl (fun w h => by first | exact h | exact h.ent aEt)) ?_
    refine oP ?_
    refine o_and 3 56 59 _ _ rfl
      (by
        intro hg15
        have hs16 := hg15; try simp only [decide_eq_true_eq, decide_eq_false_iff_not, Bool.not_eq_true', Bool.not_eq_false', Bool.and_eq_true, Bool.or_eq_true, Bool.and_eq_false_iff, Bool.or_eq_false_iff, Bool.not_true, Bool.not_false] at hs16
        refine o_on 56 _ rfl rfl hg15 ?_
        refine oP ?_
        refine o_on 56 _ rfl rfl hg15 ?_
        refine oP ?_
        refine o_p (p_pickt rfl rfl hg15 rfl) rfl ?_
        refine o_nil ?_
        exact s_joinN 3 59 _ rfl rfl rfl (fun w h => by first | exact h | exact h.ent aEt))
      (by
        intro hg17
        have hs18 := hg17; try simp only [decide_eq_true_eq, decide_eq_false_iff_not, Bool.not_eq_true', Bool.not_eq_false', Bool.and_eq_true, Bool.or_eq_true, Bool.and_eq_false_iff, Bool.or_eq_false_iff, Bool.not_true, Bool.not_false] at hs18
        refine o_off 56 _ rfl rfl hg17 rfl ?_
        refine o_off 56 _ rfl rfl hg17 rfl ?_
        refine o_p (p_pickf rfl rfl hg17 rfl) rfl ?_
        refine o_nil ?_
        exact s_joinN 3 59 _ rfl rfl rfl (fun w h => by first | exact h | exact h.ent aEt)) ?_
    refine oP ?_
    refine o_and 2 60 62 _ _ rfl
      (by
        intro hg19
        have hs20 := hg19; try simp only [decide_eq_true_eq, decide_eq_false_iff_not, Bool.not_eq_true', Bool.not_eq_false', Bool.and_eq_true, Bool.or_eq_true, Bool.and_eq_false_iff, Bool.or_eq_false_iff, Bool.not_true, Bool.not_false] at hs20
        refine o_on 60 _ rfl rfl hg19 ?_
        refine oP ?_
        refine o_p (p_pickt rfl rfl hg19 rfl) rfl ?_
        refine o_nil ?_
        exact s_joinN 2 62 _ rfl rfl rfl (fun w h => by first | exact h | exact h.ent aEt))
      (by
        intro hg21
        have hs22 := hg21; try simp only [decide_eq_true_eq, decide_eq_false_iff_not, Bool.not_eq_true', Bool.not_eq_false', Bool.and_eq_true, Bool.or_eq_true, Bool.and_eq_false_iff, Bool.or_eq_false_iff, Bool.not_true, Bool.not_false] at hs22
        refine o_off 60 _ rfl rfl hg21 rfl ?_
        refine o_p (p_pickf rfl rfl hg21 rfl) rfl ?_
        refine o_nil ?_
        exact s_joinN 2 62 _ rfl rfl rfl (fun w h => by first | exact h | exact h.ent aEt)) ?_
    refine oP ?_
    refine o_and 3 63 66 _ _ rfl
      (by
        intro hg23
        have hs24 := hg23; try simp only [decide_eq_true_eq, decide_eq_false_iff_not, Bool.not_eq_true', Bool.not_eq_false', Bool.and_eq_true, Bool.or_eq_true, Bool.and_eq_false_iff, Bool.or_eq_false_iff, Bool.not_true, Bool.not_false] at hs24
        refine o_on 63 _ rfl rfl hg23 ?_
        refine oP ?_
        refine o_on 63 _ rfl rfl hg23 ?_
        refine oP ?_
        refine o_p (p_pickt rfl rfl hg23 rfl) rfl ?_
        refine o_nil ?_
        exact s_joinN 3 66 _ rfl rfl rfl (fun w h => by first | exact h | exact h.ent aEt))
      (by
        intro hg25
        have hs26 := hg25; try simp only [decide_eq_true_eq, decide_eq_false_iff_not, Bool.not_eq_true', Bool.not_eq_false', Bool.and_eq_true, Bool.or_eq_true, Bool.and_eq_false_iff, Bool.or_eq_false_iff, Bool.not_true, Bool.not_false] at hs26
        refine o_off 63 _ rfl rfl hg25 rfl ?_
        refine o_off 63 _ rfl rfl hg25 rfl ?_
        refine o_p (p_pickf rfl rfl hg25 rfl) rfl ?_
        refine o_nil ?_
        exact s_joinN 3 66 _ rfl rfl rfl (fun w h => by first | exact h | exact h.ent aEt)) ?_
    refine oP ?_
    refine o_and 3 67 70 _ _ rfl
      (by
        intro hg27
        have hs28 := hg27; try simp only [decide_eq_true_eq, decide_eq_false_iff_not, Bool.not_eq_true', Bool.not_eq_false', Bool.and_eq_true, Bool.or_eq_true, Bool.and_eq_false_iff, Bool.or_eq_false_iff, Bool.not_true, Bool.not_false] at hs28
        refine o_on 67 _ rfl rfl hg27 ?_
        refine oP ?_
        refine o_on 67 _ rfl rfl hg27 ?_
        refine oP ?_
        refine o_p (p_pickt rfl rfl hg27 rfl) rfl ?_
        refine o_nil ?_
        exact s_joinN 3 70 _ rfl rfl rfl (fun w h => by first | exact h | exact h.ent aEt))
      (by
        intro hg29
        have hs30 := hg29; try simp only [decide_eq_true_eq, decide_eq_false_iff_not, Bool.not_eq_true', Bool.not_eq_false', Bool.and_eq_true, Bool.or_eq_true, Bool.and_eq_false_iff, Bool.or_eq_false_iff, Bool.not_true, Bool.not_false] at hs30
        refine o_off 67 _ rfl rfl hg29 rfl ?_
        refine o_off 67 _ rfl rfl hg29 rfl ?_
        refine o_p (p_pickf rfl rfl hg29 rfl) rfl ?_
        refine o_nil ?_
        exact s_joinN 3 70 _ rfl rfl rfl (fun w h => by first | exact h | exact h.ent aEt)) ?_
    refine oP ?_
    refine o_and 3 71 74 _ _ rfl
      (by
        intro hg31
        have hs32 := hg31; try simp only [decide_eq_true_eq, decide_eq_false_iff_not, Bool.not_eq_true', Bool.not_eq_false', Bool.and_eq_true, Bool.or_eq_true, Bool.and_eq_false_iff, Bool.or_eq_false_iff, Bool.not_true, Bool.not_false] at hs32
        refine o_on 71 _ rfl rfl hg31 ?_
        refine oP ?_
        refine o_on 71 _ rfl rfl hg31 ?_
        refine oP ?_
        refine o_p (p_pickt rfl rfl hg31 rfl) rfl ?_
        refine o_nil ?_
        exact s_joinN 3 74 _ rfl rfl rfl (fun w h => by first | exact h | exact h.ent aEt))
      (by
        intro hg33
        have hs34 := hg33; try simp only [decide_eq_true_eq, decide_eq_false_iff_not, Bool.not_eq_true', Bool.not_eq_false', Bool.and_eq_true, Bool.or_eq_true, Bool.and_eq_false_iff, Bool.or_eq_false_iff, Bool.not_true, Bool.not_false] at hs34
        refine o_off 71 _ rfl rfl hg33 rfl ?_
        refine o_off 71 _ rfl rfl hg33 rfl ?_
        refine o_p (p_pickf rfl rfl hg33 rfl) rfl ?_
        refine o_nil ?_
        exact s_joinN 3 74 _ rfl rfl rfl (fun w h => by first | exact h | exact h.ent aEt)) ?_
    refine oP ?_
    refine o_and 3 75 78 _ _ rfl
      (by
        intro hg35
        have hs36 := hg35; try simp only [decide_eq_true_eq, decide_eq_false_iff_not, Bool.not_eq_true', Bool.not_eq_false', Bool.and_eq_true, Bool.or_eq_true, Bool.and_eq_false_iff, Bool.or_eq_false_iff, Bool.not_true, Bool.not_false] at hs36
        refine o_on 75 _ rfl rfl hg35 ?_
        refine oP ?_
        refine o_on 75 _ rfl rfl hg35 ?_
        refine oP ?_
        refine o_p (p_pickt rfl rfl hg35 rfl) rfl ?_
        refine o_nil ?_
        exact s_joinN 3 78 _ rfl rfl rfl (fun w h => by first | exact h | exact h.ent aEt))
      (by
        intro hg37
        have hs38 := hg37; try simp only [decide_eq_true_eq, decide_eq_false_iff_not, Bool.not_eq_true', Bool.not_eq_false', Bool.and_eq_true, Bool.or_eq_true, Bool.and_eq_false_iff, Bool.or_eq_false_iff, Bool.not_true, Bool.not_false] at hs38
        refine o_off 75 _ rfl rfl hg37 rfl ?_
        refine o_off 75 _ rfl rfl hg37 rfl ?_
        refine o_p (p_pickf rfl rfl hg37 rfl) rfl ?_
        refine o_nil ?_
        exact s_joinN 3 78 _ rfl rfl rfl (fun w h => by first | exact h | exact h.ent aEt)) ?_
    refine oP ?_
    refine o_and 2 79 81 _ _ rfl
      (by
        intro hg39
        have hs40 := hg39; try simp only [decide_eq_true_eq, decide_eq_false_iff_not, Bool.not_eq_true', Bool.not_eq_false', Bool.and_eq_true, Bool.or_eq_true, Bool.and_eq_false_iff, Bool.or_eq_false_iff, Bool.not_true, Bool.not_false] at hs40
        refine o_on 79 _ rfl rfl hg39 ?_
        refine o_q (q_call rfl fn_22 rfl (fun w1 h1 => a22 w1)) rfl ?_
        refine o_p (p_pickt rfl rfl hg39 rfl) rfl ?_
        refine o_nil ?_
        exact s_joinN 2 81 _ rfl rfl rfl (fun w h => by first | exact h | exact h.ent aEt))
      (by
        intro hg41
        have hs42 := hg41; try simp only [decide_eq_true_eq, decide_eq_false_iff_not, Bool.not_eq_true', Bool.not_eq_false', Bool.and_eq_true, Bool.or_eq_true, Bool.and_eq_false_iff, Bool.or_eq_false_iff, Bool.not_true, Bool.not_false] at hs42
        refine o_off 79 _ rfl rfl hg41 rfl ?_
        refine o_p (p_pickf rfl rfl hg41 rfl) rfl ?_
        refine o_nil ?_
        exact s_joinN 2 81 _ rfl rfl rfl (fun w h => by first | exact h | exact h.ent aEt)) ?_
    refine oP ?_
    refine o_nil ?_
    exact s_retv (rs := [.tmp 0]) rfl (.tmp rfl (.nil)) (fun w' h' => ⟨by rfl, h'.below⟩)

end Go.Proofs

/- Chapter 5, plain: what a pattern matches (the statement NamesMatch). No program here. -/
namespace Go.Proofs
open Go Go.RowKit Gx
set_option linter.unusedVariables false
/-- A star in the place of a question mark. -/
def wdB (c : UInt8) : UInt8 := if c = 63 then 42 else c
end Go.Proofs

namespace Go.Proofs
open Go Go.RowKit Gx
set_option linter.unusedVariables false
set_option linter.unusedSimpArgs false
attribute [local irreducible] Go.Calls Gx.S Gx.O Gx.D Gx.OpP Gx.OpQ Gx.OpH

theorem fn_10 : isFn Tryd.prog 10 = true := by kernel_rfl
theorem fn_11 : isFn Tryd.prog 11 = true := by kernel_rfl
theorem fn_12 : isFn Tryd.prog 12 = true := by kernel_rfl
end Go.Proofs

namespace Go.Proofs
open Go Go.RowKit Gx
set_option linter.unusedVariables false
set_option linter.unusedSimpArgs false
attribute [local irreducible] Go.Calls Gx.S Gx.O Gx.D Gx.OpP Gx.OpQ Gx.OpH

theorem fn_37 : isFn Tryd.prog 37 = true := by kernel_rfl


def dTo (t s : List UInt8) (k : Nat) : Int := if (chkTab t).2 = 0 then if hiB (s.take k) = true then 2 else 0 else (chkTab t).2
end Go.Proofs

/- Chapter 5, plain: upper case and order (the statement NamesUpper). No program here. -/
namespace Go.Proofs
open Go Go.RowKit Gx
set_option linter.unusedVariables false
theorem cb_range : ∀ a b : List UInt8, -1 ≤ Lib.compareBytes a b ∧ Lib.compareBytes a b ≤ 1
  | [], [] => by simp [Lib.compareBytes]
  | [], _ :: _ => by simp [Lib.compareBytes]
  | _ :: _, [] => by simp [Lib.compareBytes]
  | x :: a, y :: b => by
    have := cb_range a b
    unfold Lib.compareBytes
    split
    · omega
    · split
      · omega
      · exact this
theorem u8_tri {x y : UInt8} (h1 : ¬ x < y) (h2 : ¬ y < x) : x = y := by
  apply UInt8.toNat_inj.1
  have h3 : ¬ x.toNat < y.toNat := h1
  have h4 : ¬ y.toNat < x.toNat := h2
  omega
theorem u8_asy {x y : UInt8} (h1 : x < y) : ¬ y < x := by
  have h3 : x.toNat < y.toNat := h1
  show ¬ y.toNat < x.toNat
  omega
theorem u8_irr {x : UInt8} : ¬ x < x := fun h => u8_asy h h
theorem u8_tr {x y z : UInt8} (h1 : x < y) (h2 : y < z) : x < z := by
  have h3 : x.toNat < y.toNat := h1
  have h4 : y.toNat < z.toNat := h2
  show x.toNat < z.toNat
  omega
theorem cb_anti : ∀ a b : List UInt8, Lib.compareBytes a b = - Lib.compareBytes b a
  | [], [] => by simp [Lib.compareBytes]
  | [], _ :: _ => by simp [Lib.compareBytes]
  | _ :: _, [] => by simp [Lib.compareBytes]
  | x :: a, y :: b => by
    have ih := cb_anti a b
    unfold Lib.compareBytes
    by_cases h1 : x < y
    · rw [if_pos h1, if_neg (u8_asy h1), if_pos h1]
    · rw [if_neg h1]
      by_cases h2 : y < x
      · rw [if_pos h2, if_pos h2]; rfl
      · rw [if_neg h2, if_neg h2, if_neg h1]; exact ih
theorem cb_self : ∀ a : List UInt8, Lib.compareBytes a a = 0
  | [] => by simp [Lib.compareBytes]
  | x :: a => by rw [Lib.compareBytes, if_neg u8_irr, if_neg u8_irr]; exact cb_self a
theorem cb_eq : ∀ {a b : List UInt8}, Lib.compareBytes a b = 0 ↔ a = b
  | [], [] => by simp [Lib.compareBytes]
  | [], _ :: _ => by simp [Lib.compareBytes]
  | _ :: _, [] => by simp [Lib.compareBytes]
  | x :: a, y :: b => by
    constructor
    · intro h
      unfold Lib.compareBytes at h
      by_cases h1 : x < y
      · rw [if_pos h1] at h; exact absurd h (by decide)
      · rw [if_neg h1] at h
        by_cases h2 : y < x
        · rw [if_pos h2] at h; exact absurd h (by decide)
        · rw [if_neg h2] at h
          rw [u8_tri h1 h2, cb_eq.1 h]
    · intro h; rw [h]; exact cb_self _
theorem cb_tr : ∀ {a b c : List UInt8}, Lib.compareBytes a b < 0 → Lib.compareBytes b c < 0 → Lib.compareBytes a c < 0
  | [], [], _, h, _ => absurd h (by simp [Lib.compareBytes])
  | [], _ :: _, [], _, h => absurd h (by simp [Lib.compareBytes])
  | [], _ :: _, _ :: _, _, _ => by simp [Lib.compareBytes]
  | _ :: _, [], _, h, _ => absurd h (by simp [Lib.compareBytes])
  | _ :: _, _ :: _, [], _, h => absurd h (by simp [Lib.compareBytes])
  | x :: a, y :: b, z :: c, h1, h2 => by
    unfold Lib.compareBytes at h1 h2 ⊢
    by_cases e1 : x < y
    · by_cases e2 : y < z
      · rw [if_pos (u8_tr e1 e2)]; decide
      · rw [if_neg e2] at h2
        by_cases e3 : z < y
        · rw [if_pos e3] at h2; exact absurd h2 (by decide)
        · rw [← u8_tri e2 e3, if_pos e1]; decide
    · rw [if_neg e1] at h1
      by_cases e2 : y < x
      · rw [if_pos e2] at h1; exact absurd h1 (by decide)
      · rw [if_neg e2] at h1
        obtain rfl := u8_tri e1 e2
        by_cases e3 : x < z
        · rw [if_pos e3]; decide
        · rw [if_neg e3] at h2 ⊢
          by_cases e4 : z < x
          · rw [if_pos e4] at h2; exact absurd h2 (by decide)
          · rw [if_neg e4] at h2 ⊢
            exact cb_tr h1 h2
/-! ## Names in their order -/
theorem cu_anti (t a b : List UInt8) : cmpU t a b = - cmpU t b a := by
  unfold cmpU
  have h1 := cb_anti (up t a) (up t b)
  by_cases h : Lib.compareBytes (up t a) (up t b) = 0
  · rw [if_pos h, if_pos (by omega)]; exact cb_anti _ _
  · rw [if_neg h, if_neg (by omega)]; exact h1
theorem cu_eq {t a b : List UInt8} : cmpU t a b = 0 ↔ a = b := by
  unfold cmpU
  by_cases h : Lib.compareBytes (up t a) (up t b) = 0
  · rw [if_pos h]; exact cb_eq
  · rw [if_neg h]
    exact ⟨fun h2 => absurd h2 h, fun h2 => absurd (by rw [h2]; exact cb_self _) h⟩
theorem cu_tr {t a b c : List UInt8} (h1 : cmpU t a b < 0) (h2 : cmpU t b c < 0) : cmpU t a c < 0 := by
  unfold cmpU at h1 h2 ⊢
  by_cases e1 : Lib.compareBytes (up t a) (up t b) = 0
  · rw [if_pos e1] at h1
    have u1 := cb_eq.1 e1
    rw [u1]
    by_cases e2 : Lib.compareBytes (up t b) (up t c) = 0
    · rw [if_pos e2] at h2 ⊢; exact cb_tr h1 h2
    · rw [if_neg e2] at h2 ⊢; exact h2
  · rw [if_neg e1] at h1
    by_cases e2 : Lib.compareBytes (up t b) (up t c) = 0
    · rw [← cb_eq.1 e2, if_neg e1]; exact h1
    · rw [if_neg e2] at h2
      have h3 := cb_tr h1 h2
      rw [if_neg (by omega)]; exact h3
end Go.Proofs

namespace Go.Proofs
open Go Go.RowKit Gx
set_option linter.unusedVariables false
set_option linter.unusedSimpArgs false
attribute [local irreducible] Go.Calls Gx.S Gx.O Gx.D Gx.OpP Gx.OpQ Gx.OpH

theorem fn_40 : isFn Tryd.prog 40 = true := by kernel_rfl


theorem g3 {x0 x1 x2 : List UInt8} {k : Nat} (h : k < 3) : [Value.string (bs x0), .string (bs x1), .string (bs x2)][k]? = some (.string (bs ([x0, x1, x2].getD k []))) := by
  rcases k with _ | _ | _ | k
  · rfl
  · rfl
  · rfl
  · omega
end Go.Proofs

namespace Go.Proofs
open Go Go.RowKit Gx
set_option linter.unusedVariables false
set_option linter.unusedSimpArgs false
attribute [local irreducible] Go.Calls Gx.S Gx.O Gx.D Gx.OpP Gx.OpQ Gx.OpH

theorem fn_16 : isFn Tryd.prog 16 = true := by kernel_rfl
theorem fn_18 : isFn Tryd.prog 18 = true := by kernel_rfl
theorem fn_19 : isFn Tryd.prog 19 = true := by kernel_rfl
theorem fn_21 : isFn Tryd.prog 21 = true := by kernel_rfl


theorem str_one (l : List (List UInt8)) : ∀ u ∈ l.map strV, u.oneCell' = true := by
  intro u hu
  obtain ⟨x, _, rfl⟩ := List.mem_map.1 hu
  rfl
theorem na_get {ns : List Nat} {k : Nat} (h : k < ns.length) : (ns.map naV)[k]? = some (.int .i64 (ns.getD k 0 : Nat)) := by
  simp [List.getD_eq_getElem?_getD, List.getElem?_eq_getElem h, naV]

set_option maxRecDepth 20000 in
theorem c18 (w : World) (a : Option Addr) (cap : Nat) (l : List (List UInt8)) (hs : Vl w a (l.map strV)) (hm : l.length ≤ 1000000) : Calls Tryd.prog 18 #[.slice a l.length cap] w fun en w' => ∃ g : Option Addr × Nat, en = .returned (.slice g.1 l.length g.2) ∧ True ∧ HS w [] [.own (.slice g.1 l.length g.2) 9 1 l.length (l.map strV)] w' := by
  refine enter (args := [_]) Tryd.func18 Tryd.ntmps18 rfl rfl (HS.refl w []) ?_
  refine s_seq ?_
  refine s_region ?_
  refine oP ?_
  refine o_nil ?_
  refine s_seq ?_
  refine s_region ?_
  refine o_h (h_buildSlice0 rfl sl_29) rfl (fun b1 _ => ?_)
  refine oP ?_
  refine o_h (h_appendS (l.map strV) rfl rfl rfl sl_29 Tryd.underlying29 zr_9 rfl aPk (fun w h => hs.src h) (by simp) (str_one l) (by omega) (by simp only [maxLen]; omega)) rfl (fun b2 _ => ?_)
  refine oP ?_
  refine o_nil ?_
  exact s_retv (rs := [.tmp 2]) rfl (.tmp rfl (.nil)) (fun w' h' => ⟨b2, by simp only [retV, Nat.zero_add], trivial, by have h2 := h'; simp only [Nat.zero_add, List.nil_append] at h2; exact h2.ent aEt⟩)

set_option maxRecDepth 20000 in
theorem c21 (w : World) (a b : Option Addr) (ca cb : Nat) (ns : List Nat) (ha : Vl w a (ns.map naV)) (hb : Vl w b (ns.map naV)) (hm : ns.length ≤ 1000000) : Calls Tryd.prog 21 #[.slice a ns.length ca, .slice b ns.length cb] w fun en w' => en = .returned (.bool true) ∧ Below w.heap.size w w' := by
  refine enter (args := [_, _]) Tryd.func21 Tryd.ntmps21 rfl rfl (HS.refl w []) ?_
  refine s_seq ?_
  refine s_region ?_
  refine oP ?_
  refine o_nil ?_
  refine s_seq ?_
  refine s_seq ?_
  refine s_region ?_
  refine oP ?_
  refine o_p (p_len_slice rfl rfl Tryd.underlying31) rfl ?_
  refine oP ?_
  refine o_p (p_len_slice rfl rfl Tryd.underlying31) rfl ?_
  refine oP ?_
  refine o_nil ?_
  refine s_cond rfl (fun h1 => ?_) (fun h1 => ?_)
  · try simp only [decide_eq_true_eq, decide_eq_false_iff_not, Bool.not_eq_true', Bool.not_eq_false', Bool.and_eq_true, Bool.or_eq_true, Bool.and_eq_false_iff, Bool.or_eq_false_iff, Bool.not_true, Bool.not_false] at h1
    exfalso; first | omega | (simp at h1; done) | (simp_all; done)
  · try simp only [decide_eq_true_eq, decide_eq_false_iff_not, Bool.not_eq_true', Bool.not_eq_false', Bool.and_eq_true, Bool.or_eq_true, Bool.and_eq_false_iff, Bool.or_eq_false_iff, Bool.not_true, Bool.not_false] at h1
    refine s_skip ?_
    refine s_seq ?_
    refine s_seq ?_
    refine s_region ?_
    refine oP ?_
    refine o_nil ?_
    refine s_block ?_
    refine s_loopI (α := Nat) [4, 5, 11, 12, 13, 14, 15, 16, 17, 18, 19, 20, 21, 22, 23, 24, 25] (fun k => [(5, .int .i64 (k : Int))]) (fun _ => HS w [] []) (fun k => k ≤ ns.length) (fun k => ns.length - k) 0 (by simp) aSx (fun w h => h.ent aEt) (fun k hk => ?_)
    refine s_seq ?_
    refine s_seq ?_
    refine s_region ?_
    refine oP ?_
    refine oP ?_
    refine o_p (p_len_slice rfl rfl Tryd.underlying31) rfl ?_
    refine oP ?_
    refine o_nil ?_
    refine s_cond rfl (fun h2 => ?_) (fun h2 => ?_)
    · try simp only [decide_eq_true_eq, decide_eq_false_iff_not, Bool.not_eq_true', Bool.not_eq_false', Bool.and_eq_true, Bool.or_eq_true, Bool.and_eq_false_iff, Bool.or_eq_false_iff, Bool.not_true, Bool.not_false] at h2
      have hkl : k < ns.length := by omega
      refine s_skip ?_
      refine s_seq ?_
      refine s_block ?_
      refine s_seq ?_
      refine s_draw [] mixed ?_
      refine dP 0 ?_
      refine dP 1 ?_
      refine d_p 2 rfl (p_indexAddr rfl rfl rfl sl_31 (k) (by omega) (by omega) (ha.some (by rw [List.length_map]; omega))) (by kernel_rfl) rfl rfl ?_
      refine d_q 3 [] rfl (q_load_old rfl rfl sz_3 ((ha.rd (na_get (k := k) hkl)))) (by kernel_rfl) (by kernel_rfl) (by kernel_rfl) rfl ?_
      refine dP 4 ?_
      refine dP 5 ?_
      refine d_p 6 rfl (p_indexAddr rfl rfl rfl sl_31 (k) (by omega) (by omega) (hb.some (by rw [List.length_map]; omega))) (by kernel_rfl) rfl rfl ?_
      refine d_q 7 [] rfl (q_load_old rfl rfl sz_3 ((hb.rd (na_get (k := k) hkl)))) (by kernel_rfl) (by kernel_rfl) (by kernel_rfl) rfl ?_
      refine dP 8 ?_
      refine d_nil (by kernel_rfl) (fun w h => h.ent aEt) ?_
      refine s_cond rfl (fun h3 => ?_) (fun h3 => ?_)
      · try simp only [decide_eq_true_eq, decide_eq_false_iff_not, Bool.not_eq_true', Bool.not_eq_false', Bool.and_eq_true, Bool.or_eq_true, Bool.and_eq_false_iff, Bool.or_eq_false_iff, Bool.not_true, Bool.not_false] at h3
        exfalso; first | omega | (simp at h3; done) | (simp_all; done)
      · try simp only [decide_eq_true_eq, decide_eq_false_iff_not, Bool.not_eq_true', Bool.not_eq_false', Bool.and_eq_true, Bool.or_eq_true, Bool.and_eq_false_iff, Bool.or_eq_false_iff, Bool.not_true, Bool.not_false] at h3
        refine s_skip ?_
        refine s_blk ?_
        refine s_region ?_
        refine oP ?_
        refine oP ?_
        try (refine o_slot (i64w (by omega) (by omega)) ?_)
        refine oP ?_
        refine o_nil ?_
        exact s_backI (k + 1) (by omega) (by omega) aSx (fun w h => h.ent aEt)
    · try simp only [decide_eq_true_eq, decide_eq_false_iff_not, Bool.not_eq_true', Bool.not_eq_false', Bool.and_eq_true, Bool.or_eq_true, Bool.and_eq_false_iff, Bool.or_eq_false_iff, Bool.not_true, Bool.not_false] at h2
      refine s_exit_to rfl ?_
      refine s_seq ?_
      refine s_region ?_
      refine oP ?_
      refine o_nil ?_
      exact s_retv (rs := [.tmp 4]) rfl (.tmp rfl (.nil)) (fun w' h' => ⟨rfl, h'.below⟩)

def dU (t p : List UInt8) : Int := if (chkTab t).2 = 0 then patE p else (chkTab t).2
theorem few_ok {l : List (List UInt8)} (h : fewU l = true) : l.length ≤ 210 ∧ ∀ s ∈ l, s.length ≤ 60 := by
  unfold fewU at h
  simp only [Bool.and_eq_true, List.all_eq_true, decide_eq_true_eq] at h
  exact ⟨h.2, h.1⟩

end Go.Proofs

namespace Go.Proofs
open Go Go.RowKit Gx
set_option linter.unusedVariables false
set_option linter.unusedSimpArgs false
attribute [local irreducible] Go.Calls Gx.S Gx.O Gx.D Gx.OpP Gx.OpQ Gx.OpH

end Go.Proofs

namespace Go.Proofs
open Go Go.RowKit Gx
set_option linter.unusedVariables false
set_option linter.unusedSimpArgs false
attribute [local irreducible] Go.Calls Gx.S Gx.O Gx.D Gx.OpP Gx.OpQ Gx.OpH

set_option maxRecDepth 20000 in
theorem c48 (w : World) (t a b : List UInt8) (hl : t.length = 128) (ha : ∀ c ∈ a, c.toNat < 128) (hb : ∀ c ∈ b, c.toNat < 128) (hma : a.length ≤ 1000000) (hmb : b.length ≤ 1000000) : Calls Tryd.prog 48 #[.string (bs t), .string (bs a), .string (bs b)] w fun en w' => en = .returned (.bool (sameU t a b)) ∧ Below w.heap.size w w' := by
  refine enter (args := [_, _, _]) Tryd.func48 Tryd.ntmps48 rfl rfl (HS.refl w []) ?_
  refine s_seq ?_
  refine s_region ?_
  refine oP ?_
  refine o_nil ?_
  refine s_seq ?_
  refine s_region ?_
  refine oP ?_
  refine oP ?_
  refine o_q (q_call rfl fn_37 rfl (fun w1 h1 => c37 w1 t a hl ha hma)) rfl ?_
  refine oP ?_
  refine oP ?_
  refine o_q (q_call rfl fn_37 rfl (fun w1 h1 => c37 w1 t b hl hb hmb)) rfl ?_
  refine oP ?_
  refine oP ?_
  refine o_nil ?_
  exact s_retv (rs := [.tmp 6]) rfl (.tmp rfl (.nil)) (fun w' h' => ⟨rfl, h'.below⟩)

def dgU (m : Nat) : List UInt8 := if m = 0 then [] else Lib.decDigits m
end Go.Proofs

namespace Go.Proofs
open Go Go.RowKit Gx
set_option linter.unusedVariables false
set_option linter.unusedSimpArgs false
attribute [local irreducible] Go.Calls Gx.S Gx.O Gx.D Gx.OpP Gx.OpQ Gx.OpH

theorem fn_48 : isFn Tryd.prog 48 = true := by kernel_rfl


def dI (s : List UInt8) (k : Nat) : Int := if 0 < dotTo s k then (dotTo s k : Int) else -1
end Go.Proofs

/- Chapter 5, plain: short names of lists. No program here. -/
namespace Go.Proofs
open Go Go.RowKit Gx
set_option linter.unusedVariables false
/-- The short names of names, beside upper cases that are taken; behind those already made. -/
def shF (t : List UInt8) : List (List UInt8) → List (List UInt8) → List (List UInt8) → List (List UInt8) × Int
  | [], _, acc => (acc, 0)
  | s :: l, ks, acc => if shortS (up t s) = true then shF t l ks (acc ++ [[]]) else if (shortU t s ks).2 = 0 then shF t l (up t (shortU t s ks).1 :: ks) (acc ++ [(shortU t s ks).1]) else ([], (shortU t s ks).2)
/-! ## Names of which two are the same -/
def dupU (t : List UInt8) (l : List (List UInt8)) : Bool := decide (¬ (l.map (up t)).Nodup)
def shsE (t : List UInt8) (l : List (List UInt8)) : Int := if namesE l = 0 then if dupU t l = true then 5 else 0 else namesE l
end Go.Proofs

namespace Go.Proofs
open Go Go.RowKit Gx
set_option linter.unusedVariables false
set_option linter.unusedSimpArgs false
attribute [local irreducible] Go.Calls Gx.S Gx.O Gx.D Gx.OpP Gx.OpQ Gx.OpH

theorem fn_64 : isFn Tryd.prog 64 = true := by kernel_rfl


def shA (t : List UInt8) (l : List (List UInt8)) : List (List UInt8) × Int := if openL t l = 0 then if dupU t l = true then ([], 5) else shF t l (l.map (up t)) [] else ([], openL t l)
end Go.Proofs

namespace Go.Proofs
open Go Go.RowKit Gx
set_option linter.unusedVariables false
set_option linter.unusedSimpArgs false
attribute [local irreducible] Go.Calls Gx.S Gx.O Gx.D Gx.OpP Gx.OpQ Gx.OpH

end Go.Proofs

namespace Go.Proofs
open Go Go.RowKit Gx
set_option linter.unusedVariables false
set_option linter.unusedSimpArgs false
attribute [local irreducible] Go.Calls Gx.S Gx.O Gx.D Gx.OpP Gx.OpQ Gx.OpH

theorem openE_1 {t s : List UInt8} : openE t [s] = if (chkTab t).2 = 0 then nameE s else (chkTab t).2 := by
  unfold openE
  split
  · simp only [List.map_cons, List.map_nil, firstI]
    split
    · rename_i h; rw [h]
    · rfl
  · rfl
def cSU (t : List UInt8) (l : List (List UInt8)) : Int := if (chkTab t).2 = 0 then shsE t l else (chkTab t).2
end Go.Proofs

/- Chapter 5, plain: short names stand alone (the statement NamesAlone). No program here. -/
namespace Go.Proofs
open Go Go.RowKit Gx
set_option linter.unusedVariables false
set_option linter.unusedSimpArgs false
/-- What is made of a name: nothing where it is short, else a candidate that stands alone. -/
def Alone (t : List UInt8) (l S ks : List (List UInt8)) (i : Nat) : Prop :=
  (shortS (up t (l.getD i [])) = true → S.getD i [] = []) ∧
  (¬ shortS (up t (l.getD i [])) = true → (¬ keptU t (stemU (l.getD i [])) = [] ∧ ∃ m, 1 ≤ m ∧ m ≤ 999 ∧ S.getD i [] = candU t (l.getD i []) m) ∧ ¬ up t (S.getD i []) ∈ ks ∧ ∀ j, j < i → ¬ shortS (up t (l.getD j [])) = true → ¬ up t (S.getD i []) = up t (S.getD j []))
/-! ## What a candidate looks like, with the standard table -/
section
variable {t s : List UInt8} {m : Nat}
end
end Go.Proofs

namespace Go.Proofs
open Go Go.RowKit Gx
set_option linter.unusedVariables false
set_option linter.unusedSimpArgs false
attribute [local irreducible] Go.Calls Gx.S Gx.O Gx.D Gx.OpP Gx.OpQ Gx.OpH



end Go.Proofs

