/- Contracts of the program's functions, proved by walking them with the rules of the Gx texts; without conditions beyond those that each contract names. -/
import Derived.WalkKit
import Derived.Deep.Draws
import Derived.TacticsIn
import Derived.OrdersIn
import Derived.RangeFuncLeaves
import Derived.Lib.Strings
import Derived.Laws.BytesArg
import Derived.Laws.IdiomStrings
import Derived.Deep.Quiet
import Derived.Laws.StructEq
import Derived.ChangeKeysEq
import Derived.Laws.Externs
import Derived.Lib.Overlaps
import Derived.Carry
import Derived.Laws.Small
import Derived.Lib.Bytealg
import Derived.Test.YtbbbhjhafdnnaaaGreatDoorProg
import Derived.KernelRfl
import Derived.RangeFuncRecord
import Derived.ProofKit
import Derived.OpenShut
import Derived.Lib.Builder
import Derived.Lib.UnsafeStr
import Derived.Laws.Pointers
import Derived.LaidEqlPtr
import Derived.Shelf.Strings.Builder1
import Derived.Shelf.Strings.Builder2
import Derived.Shelf.Small.Utf8
import Derived.Shelf.Small.Strs
import Derived.Shelf.Strings.BuilderF
import Derived.Shelf.Strings.Search1
import Derived.Shelf.Strings.Prefix
import Derived.Shelf.Unicode.Decode
import Derived.Shelf.Strings.Runes
import Derived.Shelf.Strings.AsciiSet
import Derived.Shelf.Bits.Mul64
import Derived.Shelf.Strings.Repeat
import Derived.Shelf.Unicode.DecodeSlow
import Derived.Shelf.Unicode.DecodeAny
import Derived.Shelf.Unicode.DecodeLast
import Derived.Test.YtbbbhjhafdnnaaaGreatDoorTie
import Derived.Test.YtbbbhjhafdnnaaaGreatDoorCards
import Derived.SevenTiedAt
import Derived.LaidMore
import Derived.Lay
import Derived.Stop.Joined
import Derived.Test.YtbbbhjhafdnnaaaGreatDoorP2
namespace Go.Proofs
open Go Go.RowKit Gx
set_option linter.unusedVariables false
set_option linter.unusedSimpArgs false
attribute [local irreducible] Go.Calls Gx.S Gx.O Gx.D Gx.OpP Gx.OpQ Gx.OpH

theorem fd_98_0 : tfd Tryz.prog 98 0 = some (0, 96) := by kernel_rfl
theorem sz_96 : tsz Tryz.prog 96 = some (1, false) := by kernel_rfl
theorem sz_98 : tsz Tryz.prog 98 = some (2, true) := by kernel_rfl
theorem ipt_96 : isPt Tryz.prog 96 98 := isPt_of Tryz.underlying96 sz_98 (by decide)
theorem ne_107 : isNE Tryz.prog 107 := ⟨_, Tryz.func107, rfl, rfl, by kernel_rfl, by kernel_rfl⟩
theorem fn_80 : isFn Tryz.prog 80 = true := by kernel_rfl
theorem fd_98_1 : tfd Tryz.prog 98 1 = some (1, 79) := by kernel_rfl


set_option maxRecDepth 20000 in
theorem c80a (w : World) (b : Nat) (v : Value) (hw : HS w (fps [.blk b 98 2 [.pointer none, v]]) [.blk b 98 2 [.pointer none, v]] w) : Calls Tryz.prog 80 #[.pointer (some ⟨b, 0, none⟩)] w fun en w' => ∃ g : Unit, en = .returned (.tuple #[]) ∧ True ∧ HS w (fps [.blk b 98 2 [.pointer none, v]]) [.blk b 98 2 [.pointer (some ⟨b, 0, none⟩), v]] w' := by
  refine enter (args := [_]) Tryz.func80 Tryz.ntmps80 rfl rfl hw ?_
  refine s_seq ?_
  refine s_region ?_
  refine o_p (p_pure rfl) rfl ?_
  refine o_p (p_pure rfl) rfl ?_
  refine o_p (p_fieldAddr rfl rfl fd_98_0 sz_96 rfl) rfl ?_
  refine o_q (q_load rfl rfl sz_96 aPk rfl) rfl ?_
  refine o_p (p_ptr_nil rfl rfl rfl ipt_96) rfl ?_
  refine o_nil ?_
  refine s_cond rfl (fun h1 => ?_) (fun h1 => ?_)
  · try simp only [decide_eq_true_eq, decide_eq_false_iff_not, Bool.not_eq_true', Bool.not_eq_false', Bool.and_eq_true, Bool.or_eq_true, Bool.and_eq_false_iff, Bool.or_eq_false_iff, Bool.not_true, Bool.not_false] at h1
    refine s_region ?_
    refine o_p (p_pure rfl) rfl ?_
    refine o_p (p_pure rfl) rfl ?_
    refine o_q (q_to_unsafe rfl rfl ipt_96 Tryz.underlying154 aPk (by decide)) rfl ?_
    refine o_q (q_noEscape rfl rfl ne_107) rfl ?_
    refine o_q (q_from_unsafe rfl rfl Tryz.underlying154 ipt_96 aPk (by kernel_rfl)) rfl ?_
    refine o_p (p_pure rfl) rfl ?_
    refine o_p (p_fieldAddr rfl rfl fd_98_0 sz_96 rfl) rfl ?_
    refine o_h0 (h_store rfl rfl rfl sz_96 rfl aPt (by simp only [setMany_length, List.length_set, List.length_cons, List.length_nil, List.length_map]; omega) rfl) (fun _ _ => ?_)
    refine o_nil ?_
    exact s_end0 rfl (fun w' h' => ⟨(), rfl, trivial, h'.ent aEt⟩)
  · try simp only [decide_eq_true_eq, decide_eq_false_iff_not, Bool.not_eq_true', Bool.not_eq_false', Bool.and_eq_true, Bool.or_eq_true, Bool.and_eq_false_iff, Bool.or_eq_false_iff, Bool.not_true, Bool.not_false] at h1
    exfalso; first | omega | (simp at h1; done) | (simp_all; done)

set_option maxRecDepth 20000 in
theorem c80b (w : World) (b : Nat) (v : Value) (hw : HS w (fps [.blk b 98 2 [.pointer (some ⟨b, 0, none⟩), v]]) [.blk b 98 2 [.pointer (some ⟨b, 0, none⟩), v]] w) : Calls Tryz.prog 80 #[.pointer (some ⟨b, 0, none⟩)] w fun en w' => ∃ g : Unit, en = .returned (.tuple #[]) ∧ True ∧ HS w (fps [.blk b 98 2 [.pointer (some ⟨b, 0, none⟩), v]]) [.blk b 98 2 [.pointer (some ⟨b, 0, none⟩), v]] w' := by
  refine enter (args := [_]) Tryz.func80 Tryz.ntmps80 rfl rfl hw ?_
  refine s_seq ?_
  refine s_region ?_
  refine o_p (p_pure rfl) rfl ?_
  refine o_p (p_pure rfl) rfl ?_
  refine o_p (p_fieldAddr rfl rfl fd_98_0 sz_96 rfl) rfl ?_
  refine o_q (q_load rfl rfl sz_96 aPk rfl) rfl ?_
  refine o_p (p_ptr_nil rfl rfl rfl ipt_96) rfl ?_
  refine o_nil ?_
  refine s_cond rfl (fun h1 => ?_) (fun h1 => ?_)
  · try simp only [decide_eq_true_eq, decide_eq_false_iff_not, Bool.not_eq_true', Bool.not_eq_false', Bool.and_eq_true, Bool.or_eq_true, Bool.and_eq_false_iff, Bool.or_eq_false_iff, Bool.not_true, Bool.not_false] at h1
    exfalso; first | omega | (simp at h1; done) | (simp_all; done)
  · try simp only [decide_eq_true_eq, decide_eq_false_iff_not, Bool.not_eq_true', Bool.not_eq_false', Bool.and_eq_true, Bool.or_eq_true, Bool.and_eq_false_iff, Bool.or_eq_false_iff, Bool.not_true, Bool.not_false] at h1
    refine s_seq ?_
    refine s_region ?_
    refine o_p (p_pure rfl) rfl ?_
    refine o_p (p_pure rfl) rfl ?_
    refine o_p (p_fieldAddr rfl rfl fd_98_0 sz_96 rfl) rfl ?_
    refine o_q (q_load rfl rfl sz_96 aPk rfl) rfl ?_
    refine o_p (p_pure rfl) rfl ?_
    refine o_p (p_ptr_neq_same rfl rfl rfl ipt_96) rfl ?_
    refine o_nil ?_
    refine s_cond rfl (fun h2 => ?_) (fun h2 => ?_)
    · try simp only [decide_eq_true_eq, decide_eq_false_iff_not, Bool.not_eq_true', Bool.not_eq_false', Bool.and_eq_true, Bool.or_eq_true, Bool.and_eq_false_iff, Bool.or_eq_false_iff, Bool.not_true, Bool.not_false] at h2
      exfalso; first | omega | (simp at h2; done) | (simp_all; done)
    · try simp only [decide_eq_true_eq, decide_eq_false_iff_not, Bool.not_eq_true', Bool.not_eq_false', Bool.and_eq_true, Bool.or_eq_true, Bool.and_eq_false_iff, Bool.or_eq_false_iff, Bool.not_true, Bool.not_false] at h2
      refine s_skip ?_
      exact s_end0 rfl (fun w' h' => ⟨(), rfl, trivial, h'.ent aEt⟩)

set_option maxRecDepth 20000 in
theorem c54a (w : World) (b : Nat) (a : Option Addr) (n cap : Nat) (xs : List Value) (s : List UInt8) (hw : HS w (fps [.blk b 98 2 [.pointer none, .slice a n cap], .own (.slice a n cap) 5 1 n xs]) [.blk b 98 2 [.pointer none, .slice a n cap], .own (.slice a n cap) 5 1 n xs] w) (hl : n + s.length ≤ 1000000000) : Calls Tryz.prog 54 #[.pointer (some ⟨b, 0, none⟩), .string (bs s)] w fun en w' => ∃ g : Option Addr × Nat, en = .returned (.tuple #[.int .i64 (s.length : Int), .nilIface]) ∧ True ∧ HS w (fps [.blk b 98 2 [.pointer none, .slice a n cap], .own (.slice a n cap) 5 1 n xs]) [.blk b 98 2 [.pointer (some ⟨b, 0, none⟩), .slice g.1 (n + s.length) g.2], .own (.slice g.1 (n + s.length) g.2) 5 1 (n + s.length) (xs ++ s.map bv)] w' := by
  refine enter (args := [_, _]) Tryz.func54 Tryz.ntmps54 rfl rfl hw ?_
  refine s_seq ?_
  refine s_region ?_
  refine o_p (p_pure rfl) rfl ?_
  refine o_p (p_pure rfl) rfl ?_
  refine o_nil ?_
  refine s_seq ?_
  refine s_region ?_
  refine o_p (p_pure rfl) rfl ?_
  refine o_h (h_callF (Cs := [.blk b 98 2 [.pointer none, .slice a n cap]]) rfl fn_80 rfl aPs (fun w1 h1 hf => c80a w1 b _ hf)) rfl (fun _ _ => ?_)
  refine o_nil ?_
  refine s_seq ?_
  refine s_region ?_
  refine o_p (p_pure rfl) rfl ?_
  refine o_p (p_pure rfl) rfl ?_
  refine o_p (p_pure rfl) rfl ?_
  refine o_p (p_fieldAddr rfl rfl fd_98_1 sz_79 rfl) rfl ?_
  refine o_q (q_load rfl rfl sz_79 aPk rfl) rfl ?_
  refine o_p (p_pure rfl) rfl ?_
  refine o_h (h_append_strS rfl rfl rfl sl_79 Tryz.underlying9 zr_5 rfl aPk (by omega) (by simp only [maxLen]; omega)) rfl (fun b1 _ => ?_)
  refine o_p (p_pure rfl) rfl ?_
  refine o_p (p_fieldAddr rfl rfl fd_98_1 sz_79 rfl) rfl ?_
  refine o_h0 (h_store rfl rfl rfl sz_79 rfl aPt (by simp only [setMany_length, List.length_set, List.length_cons, List.length_nil, List.length_map]; omega) rfl) (fun _ _ => ?_)
  refine o_nil ?_
  refine s_seq ?_
  refine s_region ?_
  refine o_p (p_pure rfl) rfl ?_
  refine o_p (p_len_str rfl rfl Tryz.underlying9) rfl ?_
  refine o_p (p_pure rfl) rfl ?_
  refine o_p (p_pure rfl) rfl ?_
  refine o_nil ?_
  exact s_retv (rs := [.tmp 4, .tmp 5]) rfl (.tmp rfl (.tmp rfl (.nil))) (fun w' h' => ⟨b1, rfl, trivial, h'.ent aEt⟩)

set_option maxRecDepth 20000 in
theorem c54b (w : World) (b : Nat) (a : Option Addr) (n cap : Nat) (xs : List Value) (s : List UInt8) (hw : HS w (fps [.blk b 98 2 [.pointer (some ⟨b, 0, none⟩), .slice a n cap], .own (.slice a n cap) 5 1 n xs]) [.blk b 98 2 [.pointer (some ⟨b, 0, none⟩), .slice a n cap], .own (.slice a n cap) 5 1 n xs] w) (hl : n + s.length ≤ 1000000000) : Calls Tryz.prog 54 #[.pointer (some ⟨b, 0, none⟩), .string (bs s)] w fun en w' => ∃ g : Option Addr × Nat, en = .returned (.tuple #[.int .i64 (s.length : Int), .nilIface]) ∧ True ∧ HS w (fps [.blk b 98 2 [.pointer (some ⟨b, 0, none⟩), .slice a n cap], .own (.slice a n cap) 5 1 n xs]) [.blk b 98 2 [.pointer (some ⟨b, 0, none⟩), .slice g.1 (n + s.length) g.2], .own (.slice g.1 (n + s.length) g.2) 5 1 (n + s.length) (xs ++ s.map bv)] w' := by
  refine enter (args := [_, _]) Tryz.func54 Tryz.ntmps54 rfl rfl hw ?_
  refine s_seq ?_
  refine s_region ?_
  refine o_p (p_pure rfl) rfl ?_
  refine o_p (p_pure rfl) rfl ?_
  refine o_nil ?_
  refine s_seq ?_
  refine s_region ?_
  refine o_p (p_pure rfl) rfl ?_
  refine o_h (h_callF (Cs := [.blk b 98 2 [.pointer (some ⟨b, 0, none⟩), .slice a n cap]]) rfl fn_80 rfl aPs (fun w1 h1 hf => c80b w1 b _ hf)) rfl (fun _ _ => ?_)
  refine o_nil ?_
  refine s_seq ?_
  refine s_region ?_
  refine o_p (p_pure rfl) rfl ?_
  refine o_p (p_pure rfl) rfl ?_
  refine o_p (p_pure rfl) rfl ?_
  refine o_p (p_fieldAddr rfl rfl fd_98_1 sz_79 rfl) rfl ?_
  refine o_q (q_load rfl rfl sz_79 aPk rfl) rfl ?_
  refine o_p (p_pure rfl) rfl ?_
  refine o_h (h_append_strS rfl rfl rfl sl_79 Tryz.underlying9 zr_5 rfl aPk (by omega) (by simp only [maxLen]; omega)) rfl (fun b1 _ => ?_)
  refine o_p (p_pure rfl) rfl ?_
  refine o_p (p_fieldAddr rfl rfl fd_98_1 sz_79 rfl) rfl ?_
  refine o_h0 (h_store rfl rfl rfl sz_79 rfl aPt (by simp only [setMany_length, List.length_set, List.length_cons, List.length_nil, List.length_map]; omega) rfl) (fun _ _ => ?_)
  refine o_nil ?_
  refine s_seq ?_
  refine s_region ?_
  refine o_p (p_pure rfl) rfl ?_
  refine o_p (p_len_str rfl rfl Tryz.underlying9) rfl ?_
  refine o_p (p_pure rfl) rfl ?_
  refine o_p (p_pure rfl) rfl ?_
  refine o_nil ?_
  exact s_retv (rs := [.tmp 4, .tmp 5]) rfl (.tmp rfl (.tmp rfl (.nil))) (fun w' h' => ⟨b1, rfl, trivial, h'.ent aEt⟩)

set_option maxRecDepth 20000 in
theorem d57 (w : World) (b q cap : Nat) (l : List UInt8) (hw : HS w (fps [.blk b 98 2 [.pointer (some ⟨b, 0, none⟩), .slice (some ⟨q, 0, none⟩) l.length cap], .own (.slice (some ⟨q, 0, none⟩) l.length cap) 5 1 l.length (l.map bv)]) [.blk b 98 2 [.pointer (some ⟨b, 0, none⟩), .slice (some ⟨q, 0, none⟩) l.length cap], .own (.slice (some ⟨q, 0, none⟩) l.length cap) 5 1 l.length (l.map bv)] w) (h0 : l ≠ []) (hcap : l.length ≤ cap) : Calls Tryz.prog 57 #[.pointer (some ⟨b, 0, none⟩)] w fun en w' => ∃ g : Unit, en = .returned (.string (bs l)) ∧ True ∧ HS w (fps [.blk b 98 2 [.pointer (some ⟨b, 0, none⟩), .slice (some ⟨q, 0, none⟩) l.length cap], .own (.slice (some ⟨q, 0, none⟩) l.length cap) 5 1 l.length (l.map bv)]) [] w' := by
  have hl0 : 0 < l.length := by cases l with | nil => exact absurd rfl h0 | cons => simp
  refine enter (args := [_]) Tryz.func57 Tryz.ntmps57 rfl rfl hw ?_
  refine s_seq ?_
  refine s_region ?_
  refine o_p (p_pure rfl) rfl ?_
  refine o_nil ?_
  refine s_seq ?_
  refine s_draw [10] mixed ?_
  refine d_p 0 rfl (p_pure rfl) (by kernel_rfl) rfl rfl ?_
  refine d_p 1 rfl (p_pure rfl) (by kernel_rfl) rfl rfl ?_
  refine d_p 2 rfl (p_fieldAddr rfl rfl fd_98_1 sz_79 rfl) (by kernel_rfl) rfl rfl ?_
  refine d_q 3 [[4]] rfl (q_load rfl rfl sz_79 aPk rfl) (by kernel_rfl) (by kernel_rfl) (by kernel_rfl) rfl ?_
  refine d_p 4 rfl (p_sliceData rfl rfl (by omega)) (by kernel_rfl) rfl rfl ?_
  refine d_p 5 rfl (p_pure rfl) (by kernel_rfl) rfl rfl ?_
  refine d_p 6 rfl (p_pure rfl) (by kernel_rfl) rfl rfl ?_
  refine d_p 7 rfl (p_fieldAddr rfl rfl fd_98_1 sz_79 rfl) (by kernel_rfl) rfl rfl ?_
  refine d_q 8 [[9]] rfl (q_load rfl rfl sz_79 aPk rfl) (by kernel_rfl) (by kernel_rfl) (by kernel_rfl) rfl ?_
  refine d_p 9 rfl (p_len_slice rfl rfl Tryz.underlying79) (by kernel_rfl) rfl rfl ?_
  refine d_h 10 rfl (h_unsafeString rfl rfl rfl Tryz.underlying131 (by kernel_rfl) h0 aPk) (by kernel_rfl) (fun w h => h.ent aEt) rfl (fun _ _ => ?_)
  refine d_turn [] (by kernel_rfl) ?_
  refine d_p 11 rfl (p_pure rfl) (by kernel_rfl) rfl rfl ?_
  refine d_nil (by kernel_rfl) (fun w h => by first | exact h | exact h.ent aEt) ?_
  exact s_retv (rs := [.tmp 2]) rfl (.tmp rfl (.nil)) (fun w' h' => ⟨(), rfl, trivial, h'.nil⟩)

theorem c57 (w : World) (b : Nat) (a : Option Addr) (cap : Nat) (l : List UInt8) (hw : HS w (fps [.blk b 98 2 [.pointer (some ⟨b, 0, none⟩), .slice a l.length cap], .own (.slice a l.length cap) 5 1 l.length (l.map bv)]) [.blk b 98 2 [.pointer (some ⟨b, 0, none⟩), .slice a l.length cap], .own (.slice a l.length cap) 5 1 l.length (l.map bv)] w) (h0 : l ≠ []) : Calls Tryz.prog 57 #[.pointer (some ⟨b, 0, none⟩)] w fun en w' => ∃ g : Unit, en = .returned (.string (bs l)) ∧ True ∧ HS w (fps [.blk b 98 2 [.pointer (some ⟨b, 0, none⟩), .slice a l.length cap], .own (.slice a l.length cap) 5 1 l.length (l.map bv)]) [] w' := by
  have hl : 0 < l.length := by cases l with | nil => exact absurd rfl h0 | cons => simp
  obtain ⟨q, rfl, _, h1, _, _, hb⟩ := HS.own_blk hl (As' := [.blk b 98 2 [.pointer (some ⟨b, 0, none⟩), .slice a l.length cap]]) aPk hw
  exact d57 w b q cap l hw h0 h1

theorem c27 (w : World) (c : Nat) (hc : c ≤ 100000) : Calls Tryz.prog 27 #[.string (bs [0]), .int .i64 (c : Int)] w fun en w' => en = .returned (.string (bs (List.replicate c 0))) ∧ Below w.heap.size w w' := by
  have h := Tryz.strings_Repeat (bs [0]) c w (by omega) (by simp; omega)
  have e : Lib.repeatL (bs [0]).data.toList c = List.replicate c 0 := by
    have := Lib.repeatL_replicate 0 1 c
    simpa using this
  rw [e] at h
  exact h

end Go.Proofs

/- Plain data of chapter 18: the bytes of a half and of a stream. Nothing of a program is named here. -/
namespace Gx
set_option linter.unusedSimpArgs false
set_option linter.unusedVariables false
open Go Go.RowKit
def nmB (u : List Int) : List UInt8 := u.flatMap le4
theorem nmB_len (u : List Int) : (nmB u).length = 4 * u.length := by
  unfold nmB
  induction u with
  | nil => rfl
  | cons x u ih => rw [List.flatMap_cons, List.length_append, ih, List.length_cons]; show 4 + _ = _; omega
theorem nmB_succ {u : List Int} {k : Nat} (h : k < u.length) : nmB (u.take (k + 1)) = nmB (u.take k) ++ le4 (u.getD k 0) := by
  unfold nmB
  rw [take_succ_getD (d := 0) h, List.flatMap_append]; simp
def signB : List UInt8 := [83, 68, 83, 72]
def hd0 (nx n : Int) : List UInt8 := signB ++ nmB [nx, n]
def headS (nx n : Int) : List UInt8 := hd0 nx n ++ nmB [sumS (hd0 nx n)]
def padN (m : Int) : Nat := (upT m - m).toNat
def ilen (x : SItm) : Int := 16 + (x.by_.length : Int)
def itmS (l : List SItm) (k : Nat) : List UInt8 := nmB [hashS (nth l k).by_, (nth l k).id, (plsI (l.take k)).2, ilen (nth l k)] ++ (nth l k).by_ ++ List.replicate (padN (ilen (nth l k))) 0
def halfK (nx : Int) (l : List SItm) (k : Nat) : List UInt8 := headS nx (plsI l).2 ++ (List.range k).flatMap (itmS l)
def halfS (nx : Int) (l : List SItm) : List UInt8 := halfK nx l l.length
theorem itmS_len (l : List SItm) (k : Nat) : ((itmS l k).length : Int) = upT (16 + ((nth l k).by_.length : Int)) := by
  unfold itmS padN ilen
  rw [List.length_append, List.length_append, nmB_len, List.length_replicate]
  unfold upT
  simp only [List.length_cons, List.length_nil]
  omega
theorem halfK_succ (nx : Int) (l : List SItm) (k : Nat) : halfK nx l (k + 1) = halfK nx l k ++ itmS l k := by
  unfold halfK
  rw [List.range_succ, List.flatMap_append, ← List.append_assoc]
  simp
theorem halfK_len (nx : Int) (l : List SItm) : ∀ k, k ≤ l.length → ((halfK nx l k).length : Int) = (plsI (l.take k)).2
  | 0, _ => rfl
  | k + 1, h => by
    rw [halfK_succ, List.length_append, pls_succ (by omega)]
    have h1 := halfK_len nx l k (by omega)
    have h2 := itmS_len l k
    simp only []
    omega
theorem halfS_len (nx : Int) (l : List SItm) : ((halfS nx l).length : Int) = (plsI l).2 := by
  have := halfK_len nx l l.length (Nat.le_refl _)
  rwa [List.take_length] at this
theorem pls_get' {l : List SItm} : ∀ n, n ≤ l.length → ∀ k, k < n → (plsI (l.take n)).1.getD k 0 = (plsI (l.take k)).2
  | 0, _, k, hk => absurd hk (Nat.not_lt_zero _)
  | n + 1, hn, k, hk => by
    rw [pls_succ (by omega)]
    have hl := pls_len n l (by omega)
    rcases Nat.lt_or_ge k n with h | h
    · rw [List.getD_eq_getElem?_getD, List.getElem?_append_left (by omega), ← List.getD_eq_getElem?_getD]
      exact pls_get' n (by omega) k h
    · obtain rfl : k = n := by omega
      rw [List.getD_eq_getElem?_getD, List.getElem?_append_right (by omega), hl]
      simp
theorem pls_get {l : List SItm} {k : Nat} (h : k < l.length) : (plsI l).1.getD k 0 = (plsI (l.take k)).2 := by
  have := pls_get' (l := l) l.length (Nat.le_refl _) k h
  rwa [List.take_length] at this
def streamS (nx : Int) (l : List SItm) : List UInt8 := halfS nx l ++ List.replicate (8192 - (halfS nx l).length) 0 ++ halfS nx l
/-- Bounds of a valid store's parts. -/
theorem pls_mono {l : List SItm} (hb : ∀ x ∈ l, x.by_.length ≤ 100000) : ∀ n, n ≤ l.length → ∀ k, k ≤ n → (plsI (l.take k)).2 ≤ (plsI (l.take n)).2
  | 0, _, k, hk => by obtain rfl : k = 0 := by omega
                      exact Int.le_refl _
  | n + 1, hn, k, hk => by
    rcases Nat.lt_or_ge k (n + 1) with h | h
    · have h1 := pls_mono hb n (by omega) k (by omega)
      rw [pls_succ (show n < l.length by omega)]
      unfold upT
      simp only []
      omega
    · obtain rfl : k = n + 1 := by omega
      exact Int.le_refl _
end Gx

namespace Go.Proofs
open Go Go.RowKit Gx
set_option linter.unusedVariables false
set_option linter.unusedSimpArgs false
attribute [local irreducible] Go.Calls Gx.S Gx.O Gx.D Gx.OpP Gx.OpQ Gx.OpH

theorem fn_79 : isFn Tryz.prog 79 = true := by kernel_rfl
theorem fn_53 : isFn Tryz.prog 53 = true := by kernel_rfl
theorem zr_98 : tzero Tryz.prog 98 = some [.pointer none, .slice none 0 0] := by kernel_rfl
theorem fn_55 : isFn Tryz.prog 55 = true := by kernel_rfl
theorem fn_54 : isFn Tryz.prog 54 = true := by kernel_rfl
theorem fn_56 : isFn Tryz.prog 56 = true := by kernel_rfl
theorem fn_27 : isFn Tryz.prog 27 = true := by kernel_rfl
theorem fn_57 : isFn Tryz.prog 57 = true := by kernel_rfl


set_option maxRecDepth 20000 in
theorem c53 (w : World) (ua : Option Addr) (uc : Nat) (u : List Int) (hu : Vl w ua (u.map nv)) (hum : u.length ≤ 1000) (hur : ∀ x ∈ u, 0 ≤ x ∧ x < 4294967296) : Calls Tryz.prog 53 #[.slice ua u.length uc] w fun en w' => en = .returned (.string (bs (nmB u))) ∧ Below w.heap.size w w' := by
  refine enter (args := [_]) Tryz.func53 Tryz.ntmps53 rfl rfl (HS.refl w []) ?_
  refine s_seq ?_
  refine s_region ?_
  refine o_p (p_pure rfl) rfl ?_
  refine o_nil ?_
  refine s_seq ?_
  refine s_region ?_
  refine o_p (p_pure rfl) rfl ?_
  refine o_nil ?_
  refine s_seq ?_
  refine s_seq ?_
  refine s_region ?_
  refine o_p (p_pure rfl) rfl ?_
  refine o_p (p_len_slice rfl rfl Tryz.underlying31) rfl ?_
  refine o_p (p_pure rfl) rfl ?_
  refine o_nil ?_
  refine s_block ?_
  refine s_loopI (α := Nat × Option Addr × Nat) [3, 5, 8, 9, 10, 11, 12, 13, 14, 15, 16] (fun y => [(8, .int .i64 (y.1 : Int)), (3, .slice y.2.1 (nmB (u.take y.1)).length y.2.2)]) (fun y => HS w [] [.own (.slice y.2.1 (nmB (u.take y.1)).length y.2.2) 5 1 ((nmB (u.take y.1)).length) (((nmB (u.take y.1))).map bv)]) (fun y => y.1 ≤ u.length) (fun y => u.length - y.1) (0, none, 0) (Nat.zero_le _) aSx (fun w h => (h.own_nil 5 1).ent aEt) (fun ⟨k, ga⟩ hk1 => ?_)
  dsimp only
  simp only [] at hk1
  refine s_seq ?_
  refine s_region ?_
  refine o_p (p_pure rfl) rfl ?_
  refine o_nil ?_
  refine s_seq ?_
  refine s_cond rfl (fun h1 => ?_) (fun h1 => ?_)
  · try simp only [decide_eq_true_eq, decide_eq_false_iff_not, Bool.not_eq_true', Bool.not_eq_false', Bool.and_eq_true, Bool.or_eq_true, Bool.and_eq_false_iff, Bool.or_eq_false_iff, Bool.not_true, Bool.not_false] at h1
    have hk : k < u.length := by omega
    have hst := nmB_succ hk
    have hnl := nmB_len (u.take k)
    rw [List.length_take] at hnl
    have hr9 := hur _ (getD_mem (d := 0) hk)
    refine s_skip ?_
    refine s_seq ?_
    refine s_block ?_
    refine s_seq ?_
    refine s_region ?_
    refine o_p (p_indexAddr rfl rfl rfl sl_31 (k) (by omega) (by omega) (hu.some (by rw [List.length_map]; omega))) rfl ?_
    refine o_q (q_load_old rfl rfl sz_3 ((hu.rd (nv_get hk)))) rfl ?_
    refine o_p (p_pure rfl) rfl ?_
    refine o_nil ?_
    refine s_region ?_
    refine o_p (p_pure rfl) rfl ?_
    refine o_p (p_pure rfl) rfl ?_
    refine o_p (p_conv_int rfl rfl ki_3 ki_110) rfl ?_
    refine o_slot (show _ = Value.int .u32 (u.getD k 0) from by rw [u32wM, Int.emod_eq_of_lt (by omega) (by omega)]) ?_
    refine o_h (h_callF (Cs := [.own (.slice ga.1 (nmB (u.take k)).length ga.2) 5 1 ((nmB (u.take k)).length) (((nmB (u.take k))).map bv)]) rfl fn_79 rfl aPs (fun w1 h1 hf => c79 w1 ga.1 ga.2 (nmB (u.take k)) (u.getD k 0) hf (by omega) (by omega))) rfl (fun gn _ => ?_)
    refine o_p (p_pure rfl) rfl ?_
    refine o_nil ?_
    refine s_blk ?_
    refine s_region ?_
    refine o_p (p_pure rfl) rfl ?_
    try (refine o_slot (i64w (by omega) (by omega)) ?_)
    refine o_p (p_pure rfl) rfl ?_
    refine o_nil ?_
    exact s_backI (k + 1, gn) (by (try simp only []); omega) (by (try simp only []); omega) (by dsimp only; rw [hst]; exact aSx) (fun w h => by dsimp only; rw [hst]; exact h.ent aEt)
  · try simp only [decide_eq_true_eq, decide_eq_false_iff_not, Bool.not_eq_true', Bool.not_eq_false', Bool.and_eq_true, Bool.or_eq_true, Bool.and_eq_false_iff, Bool.or_eq_false_iff, Bool.not_true, Bool.not_false] at h1
    obtain rfl : k = u.length := by omega
    rw [List.take_length]
    refine s_exit_to rfl ?_
    refine s_seq ?_
    refine s_region ?_
    refine o_p (p_pure rfl) rfl ?_
    refine o_q (q_string_own rfl rfl Tryz.underlying79 Tryz.underlying9 Tryz.underlying5 aPk (isU8_bv _)) rfl ?_
    refine o_p (p_pure rfl) rfl ?_
    refine o_nil ?_
    exact s_retv (rs := [.tmp 2]) rfl (.tmp rfl (.nil)) (fun w' h' => ⟨by rw [vByte_bv]; rfl, h'.below⟩)

set_option maxRecDepth 20000 in
set_option maxHeartbeats 2000000 in
theorem c26 (w : World) (nx : Int) (a : Option Addr) (cap : Nat) (l : List SItm) (hs : Rw SItm.vals 2 w [] a l) (hm : l.length ≤ 100000) (hb : ∀ x ∈ l, x.by_.length ≤ 100000) (hst0 : (stoE nx l).2 = 0) : Calls Tryz.prog 26 #[.agg #[.int .i64 nx, .slice a l.length cap]] w fun en w' => en = .returned (.string (bs (halfS nx l))) ∧ Below w.heap.size w w' := by
  obtain ⟨hnx, hl60, hit9, hpl9⟩ := sto_ok hst0
  have hple := pls_le' hb
  have hsu := sumS_le (hd0 nx (plsI l).2)
  have hhl := halfS_len nx l
  have hd0l : (hd0 nx (plsI l).2).length = 12 := rfl
  have hhsl : (headS nx (plsI l).2).length = 16 := rfl
  refine enter (args := [_]) Tryz.func26 Tryz.ntmps26 rfl rfl (HS.refl w []) ?_
  refine s_seq ?_
  refine s_region ?_
  refine o_h (h_box rfl rfl) rfl (fun b1 _ => ?_)
  refine o_p (p_pure rfl) rfl ?_
  refine o_nil ?_
  refine s_seq ?_
  refine s_region ?_
  refine o_p (p_fieldAddr rfl rfl fd_24_1 sz_22 rfl) rfl ?_
  refine o_q (q_load rfl rfl sz_22 aPk rfl) rfl ?_
  refine o_h (h_call rfl fn_45 rfl (fun w1 h1 => c45 w1 a cap l (hs.later h1) hm hb)) rfl (fun gp _ => ?_)
  refine o_p (p_pure rfl) rfl ?_
  refine o_p (p_pure rfl) rfl ?_
  refine o_p (p_pure rfl) rfl ?_
  refine o_p (p_pure rfl) rfl ?_
  refine o_p (p_pure rfl) rfl ?_
  refine o_nil ?_
  refine s_seq ?_
  refine s_region ?_
  refine o_p (p_fieldAddr rfl rfl fd_24_0 sz_3 rfl) rfl ?_
  refine o_q (q_load rfl rfl sz_3 aPk rfl) rfl ?_
  refine o_p (p_pure rfl) rfl ?_
  refine o_h (h_buildSlice (cs := [_, _]) rfl rfl sl_31 zr_3 rfl rfl rfl) rfl (fun b2 _ => ?_)
  refine o_q (q_call rfl fn_53 rfl (fun w1 h1 => c53 w1 _ _ [nx, (plsI l).2] (h1.vl_blk aPk) (by simp) (by intro x hx; simp only [List.mem_cons, List.mem_nil_iff, or_false] at hx; rcases hx with rfl | rfl <;> omega))) rfl ?_
  refine o_p (p_str_add rfl rfl rfl (by (try simp only [List.length_append, List.length_cons, List.length_nil, List.length_replicate, List.length_take, List.length_drop, nmB_len, List.length_cons]); omega)) rfl ?_
  refine o_slot (show _ = Value.string (bs (hd0 nx (plsI l).2)) from rfl) ?_
  refine o_p (p_pure rfl) rfl ?_
  refine o_nil ?_
  refine s_seq ?_
  refine s_region ?_
  refine o_h (h_alloc rfl zr_98) rfl (fun b3 _ => ?_)
  refine o_class (C' := HS w [] [.own (.slice none 0 0) 5 1 0 [], .blk b3 98 2 [.pointer none, .slice none 0 0], .own (.slice gp.1 l.length gp.2) 3 1 l.length ((plsI l).1.map nv), .blk b1 24 2 [.int .i64 nx, .slice a l.length cap]]) (fun w h => (h.own_nil 5 1).ent aEt) ?_
  refine o_nil ?_
  refine s_seq ?_
  refine s_region ?_
  refine o_p (p_pure rfl) rfl ?_
  refine o_p (p_pure rfl) rfl ?_
  refine o_q (q_call rfl fn_55 rfl (fun w1 h1 => c55 w1 (hd0 nx (plsI l).2) (by omega))) rfl ?_
  refine o_h (h_buildSlice (cs := [_]) rfl rfl sl_31 zr_3 rfl rfl rfl) rfl (fun b4 _ => ?_)
  refine o_q (q_call rfl fn_53 rfl (fun w1 h1 => c53 w1 _ _ [sumS (hd0 nx (plsI l).2)] (h1.vl_blk aPk) (by simp) (by intro x hx; simp only [List.mem_cons, List.mem_nil_iff, or_false] at hx; rcases hx with rfl <;> omega))) rfl ?_
  refine o_p (p_str_add rfl rfl rfl (by (try simp only [List.length_append, List.length_cons, List.length_nil, List.length_replicate, List.length_take, List.length_drop, nmB_len, List.length_cons]); omega)) rfl ?_
  refine o_slot (show _ = Value.string (bs (headS nx (plsI l).2)) from rfl) ?_
  refine o_h (h_callF (Cs := [.blk b3 98 2 [.pointer none, .slice none 0 0], .own (.slice none 0 0) 5 1 0 []]) rfl fn_54 rfl aPs (fun w1 h1 hf => c54a w1 b3 none 0 0 [] (headS nx (plsI l).2) hf (by omega))) rfl (fun g1 _ => ?_)
  refine o_nil ?_
  refine s_seq ?_
  refine s_seq ?_
  refine s_region ?_
  refine o_p (p_fieldAddr rfl rfl fd_24_1 sz_22 rfl) rfl ?_
  refine o_q (q_load rfl rfl sz_22 aPk rfl) rfl ?_
  refine o_p (p_len_slice rfl rfl Tryz.underlying22) rfl ?_
  refine o_p (p_pure rfl) rfl ?_
  refine o_nil ?_
  refine s_block ?_
  refine s_weaken (L' := [(2, _), (3, _), (6, _), (30, _), (31, _), (32, _)]) aSx (fun _ h => h) ?_
  refine s_loopI (α := Nat × Option Addr × Nat) [7, 8, 9, 32, 33, 34, 35, 36, 37, 38, 39, 40, 41, 42, 43, 44, 45, 46, 47, 48, 49, 50, 51, 52, 53, 54, 55, 56, 57, 58, 59, 60, 61, 62, 63] (fun y => [(32, .int .i64 (y.1 : Int))]) (fun y => HS w [] [.blk b3 98 2 [.pointer (some ⟨b3, 0, none⟩), .slice y.2.1 (halfK nx l y.1).length y.2.2], .own (.slice y.2.1 (halfK nx l y.1).length y.2.2) 5 1 (halfK nx l y.1).length ((halfK nx l y.1).map bv), .own (.slice gp.1 l.length gp.2) 3 1 l.length ((plsI l).1.map nv), .blk b1 24 2 [.int .i64 nx, .slice a l.length cap]]) (fun y => y.1 ≤ l.length) (fun y => l.length - y.1) (0, g1.1, g1.2) (Nat.zero_le _) aSx (fun w h => by dsimp only; rw [show (halfK nx l 0) = headS nx (plsI l).2 from List.append_nil _]; exact h.ent aEt) (fun ⟨k, ga⟩ hk1 => ?_)
  dsimp only
  simp only [] at hk1
  refine s_seq ?_
  refine s_region ?_
  refine o_p (p_pure rfl) rfl ?_
  refine o_nil ?_
  refine s_seq ?_
  refine s_cond rfl (fun h5 => ?_) (fun h5 => ?_)
  · try simp only [decide_eq_true_eq, decide_eq_false_iff_not, Bool.not_eq_true', Bool.not_eq_false', Bool.and_eq_true, Bool.or_eq_true, Bool.and_eq_false_iff, Bool.or_eq_false_iff, Bool.not_true, Bool.not_false] at h5
    have hk : k < l.length := by omega
    have hrg := (itm_rng (hit9 k hk)).1
    have hbk : (nth l k).by_.length ≤ 100000 := hb _ (getD_mem hk)
    have hpk := pls_le hb k (by omega)
    have hpm := pls_mono hb l.length (Nat.le_refl _) k (by omega)
    rw [List.take_length] at hpm
    have hhk := halfK_len nx l k (by omega)
    have hha := hashS_le (nth l k).by_
    have hup : upT (ilen (nth l k)) - ilen (nth l k) = ((padN (ilen (nth l k)) : Nat) : Int) ∧ padN (ilen (nth l k)) ≤ 16 := by unfold padN upT ilen; omega
    have hil : ilen (nth l k) = 16 + ((nth l k).by_.length : Int) := rfl
    have hpl5 := pls_len' l
    have hsc : halfK nx l (k + 1) = ((halfK nx l k) ++ (nmB [hashS (nth l k).by_, (nth l k).id, (plsI (l.take k)).2, ilen (nth l k)] ++ (nth l k).by_)) ++ (List.replicate (padN (ilen (nth l k))) (0 : UInt8)) := by rw [halfK_succ]; unfold itmS; rw [← List.append_assoc]
    refine s_fact (fun w h => Vl.some (HS.vl_own (a := gp.1) (t := 3) h aPk) (by rw [List.length_map]; omega)) fun hsm => ?_
    refine s_skip ?_
    refine s_seq ?_
    refine s_block ?_
    refine s_seq ?_
    refine s_region ?_
    refine o_p (p_pure rfl) rfl ?_
    refine o_p (p_indexAddr rfl rfl rfl sl_22 (k) (by omega) (by omega) (Rw.some hs (by omega))) rfl ?_
    refine o_q (q_load_oldn _ rfl rfl sz_50 rfl (Rw.rd hs hk)) rfl ?_
    refine o_h (h_alloc rfl zr_50) rfl (fun b6 _ => ?_)
    refine o_p (p_pure rfl) rfl ?_
    refine o_h0 (h_store rfl rfl rfl sz_50 rfl aPt (by simp only [setMany_length, List.length_set, List.length_cons, List.length_nil, List.length_map]; omega) rfl) (fun _ _ => ?_)
    refine o_nil ?_
    refine s_seq ?_
    refine s_region ?_
    refine o_p (p_fieldAddr rfl rfl fd_50_1 sz_9 rfl) rfl ?_
    refine o_q (q_load rfl rfl sz_9 aPk rfl) rfl ?_
    refine o_p (p_len_str rfl rfl Tryz.underlying9) rfl ?_
    refine o_p (p_pure rfl) rfl ?_
    try (refine o_slot (i64w (by omega) (by omega)) ?_)
    refine o_slot (show _ = Value.int .i64 (ilen (nth l k)) from rfl) ?_
    refine o_p (p_pure rfl) rfl ?_
    refine o_nil ?_
    refine s_seq ?_
    refine s_draw [15] mixed ?_
    refine d_p 0 rfl (p_fieldAddr rfl rfl fd_50_1 sz_9 rfl) (by kernel_rfl) rfl rfl ?_
    refine d_q 1 [[11, 2]] rfl (q_load rfl rfl sz_9 aPk rfl) (by kernel_rfl) (by kernel_rfl) (by kernel_rfl) rfl ?_
    refine d_q 2 [[11]] rfl (q_call rfl fn_56 rfl (fun w1 h1 => c56 w1 (nth l k).by_ (by omega))) (by kernel_rfl) (by kernel_rfl) (by kernel_rfl) rfl ?_
    refine d_p 3 rfl (p_fieldAddr rfl rfl fd_50_0 sz_3 rfl) (by kernel_rfl) rfl rfl ?_
    refine d_q 4 [[11, 10]] rfl (q_load rfl rfl sz_3 aPk rfl) (by kernel_rfl) (by kernel_rfl) (by kernel_rfl) rfl ?_
    refine d_p 5 rfl (p_pure rfl) (by kernel_rfl) rfl rfl ?_
    refine d_p 6 rfl (p_pure rfl) (by kernel_rfl) rfl rfl ?_
    refine d_p 7 rfl (p_indexAddr rfl rfl rfl sl_31 (k) (by omega) (by omega) hsm) (by kernel_rfl) rfl rfl ?_
    refine d_q 8 [[11, 10]] rfl (q_load_at rfl rfl sz_3 (fun w h => (HS.vl_own (a := gp.1) (t := 3) h aPk).rd (nv_get (k := k) (by omega)))) (by kernel_rfl) (by kernel_rfl) (by kernel_rfl) rfl ?_
    refine d_slot (show _ = Value.int .i64 (plsI (l.take k)).2 from by rw [pls_get hk]) ?_
    refine d_p 9 rfl (p_pure rfl) (by kernel_rfl) rfl rfl ?_
    refine d_p 12 rfl (p_fieldAddr rfl rfl fd_50_1 sz_9 rfl) (by kernel_rfl) rfl rfl ?_
    refine d_q 13 [[14]] rfl (q_load rfl rfl sz_9 aPk rfl) (by kernel_rfl) (by kernel_rfl) (by kernel_rfl) rfl ?_
    refine d_h 10 rfl (h_buildSlice (cs := [_, _, _, _]) rfl rfl sl_31 zr_3 rfl rfl rfl) (by kernel_rfl) (fun w h => h.ent aEt) rfl (fun b7 _ => ?_)
    refine d_base (fun w h => h.ent aEt) ?_
    refine d_q 11 [[]] rfl (q_call rfl fn_53 rfl (fun w1 h1 => c53 w1 _ _ [hashS (nth l k).by_, (nth l k).id, (plsI (l.take k)).2, ilen (nth l k)] (h1.vl_blk aPk) (by simp) (by intro x hx; simp only [List.mem_cons, List.mem_nil_iff, or_false] at hx; rcases hx with rfl | rfl | rfl | rfl <;> omega))) (by kernel_rfl) (by kernel_rfl) (by kernel_rfl) rfl ?_
    refine d_p 14 rfl (p_str_add rfl rfl rfl (by (try simp only [List.length_append, List.length_cons, List.length_nil, List.length_replicate, List.length_take, List.length_drop, nmB_len, List.length_cons]); omega)) (by kernel_rfl) rfl rfl ?_
    refine d_slot (show _ = Value.string (bs (nmB [hashS (nth l k).by_, (nth l k).id, (plsI (l.take k)).2, ilen (nth l k)] ++ (nth l k).by_)) from rfl) ?_
    refine d_h 15 rfl (h_callF (Cs := [.blk b3 98 2 [.pointer (some ⟨b3, 0, none⟩), .slice ga.1 (halfK nx l k).length ga.2], .own (.slice ga.1 (halfK nx l k).length ga.2) 5 1 (halfK nx l k).length ((halfK nx l k).map bv)]) rfl fn_54 rfl aPs (fun w1 h1 hf => c54b w1 b3 ga.1 (halfK nx l k).length ga.2 ((halfK nx l k).map bv) (nmB [hashS (nth l k).by_, (nth l k).id, (plsI (l.take k)).2, ilen (nth l k)] ++ (nth l k).by_) hf (by simp only [List.length_append, List.length_replicate, nmB_len, List.length_cons, List.length_nil]; omega))) (by kernel_rfl) (fun w h => h.ent aEt) rfl (fun g2 _ => ?_)
    refine d_turn [] (by kernel_rfl) ?_
    refine d_nil (by kernel_rfl) (fun w h => by first | exact h | exact h.ent aEt) ?_
    refine s_weaken (L' := [(2, _), (3, _), (6, _), (9, _), (30, _), (31, _), (32, _)]) aSx (fun _ h => h) ?_
    refine s_region ?_
    refine o_p (p_pure rfl) rfl ?_
    refine o_class (C' := HS w [] [.blk b3 98 2 [.pointer (some ⟨b3, 0, none⟩), .slice g2.1 ((halfK nx l k) ++ (nmB [hashS (nth l k).by_, (nth l k).id, (plsI (l.take k)).2, ilen (nth l k)] ++ (nth l k).by_)).length g2.2], .own (.slice g2.1 ((halfK nx l k) ++ (nmB [hashS (nth l k).by_, (nth l k).id, (plsI (l.take k)).2, ilen (nth l k)] ++ (nth l k).by_)).length g2.2) 5 1 ((halfK nx l k) ++ (nmB [hashS (nth l k).by_, (nth l k).id, (plsI (l.take k)).2, ilen (nth l k)] ++ (nth l k).by_)).length (((halfK nx l k) ++ (nmB [hashS (nth l k).by_, (nth l k).id, (plsI (l.take k)).2, ilen (nth l k)] ++ (nth l k).by_)).map bv), .blk b6 50 2 [.int .i64 (nth l k).id, .string (bs (nth l k).by_)], .own (.slice gp.1 l.length gp.2) 3 1 l.length ((plsI l).1.map nv), .blk b1 24 2 [.int .i64 nx, .slice a l.length cap]]) (fun w h => by rw [List.map_append (l₁ := (halfK nx l k)), @List.length_append _ (halfK nx l k) (nmB [hashS (nth l k).by_, (nth l k).id, (plsI (l.take k)).2, ilen (nth l k)] ++ (nth l k).by_)]; exact h.ent aEt) ?_
    refine o_q (q_call rfl fn_33 rfl (fun w1 h1 => c33 w1 (ilen (nth l k)) (by omega))) rfl ?_
    refine o_p (p_pure rfl) rfl ?_
    refine o_p (p_pure rfl) rfl ?_
    try (refine o_slot (i64w (by omega) (by omega)) ?_)
    refine o_slot (show _ = Value.int .i64 ((padN (ilen (nth l k)) : Nat) : Int) from by rw [hup.1]) ?_
    refine o_q (q_call rfl fn_27 rfl (fun w1 h1 => c27 w1 (padN (ilen (nth l k))) (by omega))) rfl ?_
    refine o_h (h_callF (Cs := [.blk b3 98 2 [.pointer (some ⟨b3, 0, none⟩), .slice g2.1 ((halfK nx l k) ++ (nmB [hashS (nth l k).by_, (nth l k).id, (plsI (l.take k)).2, ilen (nth l k)] ++ (nth l k).by_)).length g2.2], .own (.slice g2.1 ((halfK nx l k) ++ (nmB [hashS (nth l k).by_, (nth l k).id, (plsI (l.take k)).2, ilen (nth l k)] ++ (nth l k).by_)).length g2.2) 5 1 ((halfK nx l k) ++ (nmB [hashS (nth l k).by_, (nth l k).id, (plsI (l.take k)).2, ilen (nth l k)] ++ (nth l k).by_)).length (((halfK nx l k) ++ (nmB [hashS (nth l k).by_, (nth l k).id, (plsI (l.take k)).2, ilen (nth l k)] ++ (nth l k).by_)).map bv)]) rfl fn_54 rfl aPs (fun w1 h1 hf => c54b w1 b3 g2.1 ((halfK nx l k) ++ (nmB [hashS (nth l k).by_, (nth l k).id, (plsI (l.take k)).2, ilen (nth l k)] ++ (nth l k).by_)).length g2.2 (((halfK nx l k) ++ (nmB [hashS (nth l k).by_, (nth l k).id, (plsI (l.take k)).2, ilen (nth l k)] ++ (nth l k).by_)).map bv) (List.replicate (padN (ilen (nth l k))) (0 : UInt8)) hf (by simp only [List.length_append, List.length_replicate, nmB_len, List.length_cons, List.length_nil]; omega))) rfl (fun g3 _ => ?_)
    refine o_class (C' := HS w [] [.blk b3 98 2 [.pointer (some ⟨b3, 0, none⟩), .slice g3.1 (((halfK nx l k) ++ (nmB [hashS (nth l k).by_, (nth l k).id, (plsI (l.take k)).2, ilen (nth l k)] ++ (nth l k).by_)) ++ (List.replicate (padN (ilen (nth l k))) (0 : UInt8))).length g3.2], .own (.slice g3.1 (((halfK nx l k) ++ (nmB [hashS (nth l k).by_, (nth l k).id, (plsI (l.take k)).2, ilen (nth l k)] ++ (nth l k).by_)) ++ (List.replicate (padN (ilen (nth l k))) (0 : UInt8))).length g3.2) 5 1 (((halfK nx l k) ++ (nmB [hashS (nth l k).by_, (nth l k).id, (plsI (l.take k)).2, ilen (nth l k)] ++ (nth l k).by_)) ++ (List.replicate (padN (ilen (nth l k))) (0 : UInt8))).length ((((halfK nx l k) ++ (nmB [hashS (nth l k).by_, (nth l k).id, (plsI (l.take k)).2, ilen (nth l k)] ++ (nth l k).by_)) ++ (List.replicate (padN (ilen (nth l k))) (0 : UInt8))).map bv), .own (.slice gp.1 l.length gp.2) 3 1 l.length ((plsI l).1.map nv), .blk b1 24 2 [.int .i64 nx, .slice a l.length cap]]) (fun w h => by rw [List.map_append (l₁ := ((halfK nx l k) ++ (nmB [hashS (nth l k).by_, (nth l k).id, (plsI (l.take k)).2, ilen (nth l k)] ++ (nth l k).by_))), @List.length_append _ ((halfK nx l k) ++ (nmB [hashS (nth l k).by_, (nth l k).id, (plsI (l.take k)).2, ilen (nth l k)] ++ (nth l k).by_)) (List.replicate (padN (ilen (nth l k))) (0 : UInt8))]; exact h.ent aEt) ?_
    refine o_nil ?_
    refine s_blk ?_
    refine s_region ?_
    refine o_p (p_pure rfl) rfl ?_
    try (refine o_slot (i64w (by omega) (by omega)) ?_)
    refine o_p (p_pure rfl) rfl ?_
    refine o_nil ?_
    exact s_backI (k + 1, g3) (by (try simp only []); omega) (by (try simp only []); omega) aSx (fun w h => by dsimp only; rw [hsc]; exact h.ent aEt)
  · try simp only [decide_eq_true_eq, decide_eq_false_iff_not, Bool.not_eq_true', Bool.not_eq_false', Bool.and_eq_true, Bool.or_eq_true, Bool.and_eq_false_iff, Bool.or_eq_false_iff, Bool.not_true, Bool.not_false] at h5
    obtain rfl : k = l.length := by omega
    refine s_exit_to rfl ?_
    refine s_seq ?_
    refine s_region ?_
    refine o_h (h_callF (Cs := [.blk b3 98 2 [.pointer (some ⟨b3, 0, none⟩), .slice ga.1 (halfS nx l).length ga.2], .own (.slice ga.1 (halfS nx l).length ga.2) 5 1 (halfS nx l).length ((halfS nx l).map bv)]) rfl fn_57 rfl aPs (fun w1 h1 hf => c57 w1 b3 ga.1 ga.2 (halfS nx l) hf (by intro e9; rw [e9] at hhl; simp at hhl; omega))) rfl (fun _ _ => ?_)
    refine o_p (p_pure rfl) rfl ?_
    refine o_nil ?_
    exact s_retv (rs := [.tmp 2]) rfl (.tmp rfl (.nil)) (fun w' h' => ⟨by rfl, h'.below⟩)

end Go.Proofs

namespace Go.Proofs
open Go Go.RowKit Gx
set_option linter.unusedVariables false
set_option linter.unusedSimpArgs false
attribute [local irreducible] Go.Calls Gx.S Gx.O Gx.D Gx.OpP Gx.OpQ Gx.OpH

theorem fn_26 : isFn Tryz.prog 26 = true := by kernel_rfl


set_option maxRecDepth 20000 in
theorem c7 (w : World) (nx : Int) (a : Option Addr) (cap : Nat) (l : List SItm) (hs : Rw SItm.vals 2 w [] a l) (hm : l.length ≤ 100000) (hb : ∀ x ∈ l, x.by_.length ≤ 100000) : Calls Tryz.prog 7 #[.agg #[.int .i64 nx, .slice a l.length cap]] w fun en w' => en = .returned (.tuple #[.string (bs (if (stoE nx l).2 = 0 then streamS nx l else [])), .int .i64 (stoE nx l).2]) ∧ Below w.heap.size w w' := by
  refine enter (args := [_]) Tryz.func7 Tryz.ntmps7 rfl rfl (HS.refl w []) ?_
  refine s_seq ?_
  refine s_region ?_
  refine o_h (h_box rfl rfl) rfl (fun b1 _ => ?_)
  refine o_p (p_pure rfl) rfl ?_
  refine o_p (p_pure rfl) rfl ?_
  refine o_nil ?_
  refine s_seq ?_
  refine s_seq ?_
  refine s_region ?_
  refine o_q (q_loadn rfl rfl sz_24 aPk rfl) rfl ?_
  refine o_q (q_call rfl fn_25 rfl (fun w1 h1 => c25 w1 nx a cap l (hs.later h1) hm hb)) rfl ?_
  refine o_p (p_pure rfl) rfl ?_
  refine o_nil ?_
  refine s_seq ?_
  refine s_region ?_
  refine o_p (p_pure rfl) rfl ?_
  refine o_p (p_pure rfl) rfl ?_
  refine o_nil ?_
  refine s_cond rfl (fun h2 => ?_) (fun h2 => ?_)
  · try simp only [decide_eq_true_eq, decide_eq_false_iff_not, Bool.not_eq_true', Bool.not_eq_false', Bool.and_eq_true, Bool.or_eq_true, Bool.and_eq_false_iff, Bool.or_eq_false_iff, Bool.not_true, Bool.not_false] at h2
    have h0 : ¬ (stoE nx l).2 = 0 := h2
    refine s_seq ?_
    refine s_region ?_
    refine o_p (p_pure rfl) rfl ?_
    refine o_p (p_pure rfl) rfl ?_
    refine o_p (p_pure rfl) rfl ?_
    refine o_nil ?_
    exact s_retv (rs := [.tmp 2, .tmp 3]) rfl (.tmp rfl (.tmp rfl (.nil))) (fun w' h' => ⟨by rw [if_neg h0]; rfl, h'.below⟩)
  · try simp only [decide_eq_true_eq, decide_eq_false_iff_not, Bool.not_eq_true', Bool.not_eq_false', Bool.and_eq_true, Bool.or_eq_true, Bool.and_eq_false_iff, Bool.or_eq_false_iff, Bool.not_true, Bool.not_false] at h2
    have h0 : (stoE nx l).2 = 0 := h2
    obtain ⟨hnx, hl60, hit9, hpl9⟩ := sto_ok h0
    have hhl := halfS_len nx l
    refine s_skip ?_
    refine s_seq ?_
    refine s_region ?_
    refine o_q (q_loadn rfl rfl sz_24 aPk rfl) rfl ?_
    refine o_q (q_call rfl fn_26 rfl (fun w1 h1 => c26 w1 nx a cap l (hs.later h1) hm hb h0)) rfl ?_
    refine o_p (p_pure rfl) rfl ?_
    refine o_nil ?_
    refine s_seq ?_
    refine s_region ?_
    refine o_p (p_pure rfl) rfl ?_
    refine o_p (p_pure rfl) rfl ?_
    refine o_p (p_len_str rfl rfl Tryz.underlying9) rfl ?_
    refine o_p (p_pure rfl) rfl ?_
    try (refine o_slot (i64w (by omega) (by omega)) ?_)
    refine o_slot (show _ = Value.int .i64 ((8192 - (halfS nx l).length : Nat) : Int) from congrArg (Value.int .i64) (by omega)) ?_
    refine o_q (q_call rfl fn_27 rfl (fun w1 h1 => c27 w1 (8192 - (halfS nx l).length) (by omega))) rfl ?_
    refine o_p (p_str_add rfl rfl rfl (by (try simp only [List.length_append, List.length_cons, List.length_nil, List.length_replicate, List.length_take, List.length_drop, List.length_append, List.length_replicate]); omega)) rfl ?_
    refine o_p (p_pure rfl) rfl ?_
    refine o_p (p_str_add rfl rfl rfl (by (try simp only [List.length_append, List.length_cons, List.length_nil, List.length_replicate, List.length_take, List.length_drop, List.length_append, List.length_replicate]); omega)) rfl ?_
    refine o_slot (show _ = Value.string (bs (streamS nx l)) from by rw [streamS]) ?_
    refine o_p (p_pure rfl) rfl ?_
    refine o_p (p_pure rfl) rfl ?_
    refine o_nil ?_
    exact s_retv (rs := [.tmp 2, .tmp 3]) rfl (.tmp rfl (.tmp rfl (.nil))) (fun w' h' => ⟨by rw [if_pos h0, h0]; rfl, h'.below⟩)

end Go.Proofs

/- Plain facts of chapter 18: the examples of 'awake'. Nothing of a program is named here. -/
namespace Gx
open Go Go.RowKit
def dA : Dsc := ⟨10, 10, false, false, [], []⟩
def dB : Dsc := ⟨10, 10, false, true, [⟨0, 0, 1, 1⟩], []⟩
def bA : List UInt8 := [1, 0, 0, 0, 10, 0, 0, 0, 10, 0, 0, 0]
def bB : List UInt8 := [1, 2, 1, 0, 10, 0, 0, 0, 10, 0, 0, 0, 0, 0, 1, 0, 1, 0, 0, 0]
def lA : List SItm := [⟨256, bA⟩]
def lB : List SItm := [⟨256, bA⟩, ⟨257, bB⟩]
theorem aw_1 : addT 256 [] dA = ⟨257, lA, 256, 0⟩ := by kernel_rfl
theorem aw_2 : addT 257 lA dB = ⟨258, lB, 257, 0⟩ := by kernel_rfl
theorem aw_3 : (stoE 258 lB).2 = 0 := by kernel_rfl
theorem aw_4 : plsI lB = ([16, 48], 96) := by kernel_rfl
theorem aw_5 : (stoE 257 lA).2 = 0 := by kernel_rfl
theorem aw_6 : colE 258 lB [257] = 0 := by kernel_rfl
theorem aw_7 : colT 258 lB [257] = ⟨258, [⟨257, bB⟩], [256]⟩ := by kernel_rfl
theorem aw_8 : (streamS 257 lA).length = 8240 := by
  have h := halfS_len 257 lA
  rw [show (plsI lA).2 = 48 by kernel_rfl] at h
  unfold streamS
  rw [List.length_append, List.length_append, List.length_replicate]
  omega
end Gx

namespace Go.Proofs
open Go Go.RowKit Gx
set_option linter.unusedVariables false
set_option linter.unusedSimpArgs false
attribute [local irreducible] Go.Calls Gx.S Gx.O Gx.D Gx.OpP Gx.OpQ Gx.OpH

theorem fn_20 : isFn Tryz.prog 20 = true := by kernel_rfl
theorem fn_21 : isFn Tryz.prog 21 = true := by kernel_rfl
theorem fn_19 : isFn Tryz.prog 19 = true := by kernel_rfl
theorem fn_22 : isFn Tryz.prog 22 = true := by kernel_rfl
theorem fn_23 : isFn Tryz.prog 23 = true := by kernel_rfl
theorem fn_7 : isFn Tryz.prog 7 = true := by kernel_rfl
theorem fn_24 : isFn Tryz.prog 24 = true := by kernel_rfl
theorem fn_12 : isFn Tryz.prog 12 = true := by kernel_rfl


theorem rw_nil {α : Type} [Inhabited α] {vals : α → List Value} {sz : Nat} {w : World} : Rw vals sz w [] none ([] : List α) := ⟨fun h => absurd h (Nat.lt_irrefl 0)⟩

set_option maxRecDepth 20000 in
set_option maxHeartbeats 2000000 in
theorem c5 (w : World)  : Calls Tryz.prog 5 #[] w fun en w' => en = .returned (.bool true) ∧ Below w.heap.size w w' := by
  refine enter (args := []) Tryz.func5 Tryz.ntmps5 rfl rfl (HS.refl w []) ?_
  refine s_seq ?_
  refine s_region ?_
  refine o_p (p_pure rfl) rfl ?_
  refine o_nil ?_
  refine s_seq ?_
  refine s_region ?_
  refine o_q (q_call rfl fn_20 rfl (fun w1 h1 => c20 w1)) rfl ?_
  refine o_q (q_call rfl fn_21 rfl (fun w1 h1 => c21 w1)) rfl ?_
  refine o_h (h_call rfl fn_19 rfl (fun w1 h1 => by have h9 := c19 w1 256 none 0 [] dA none 0 none 0 rw_nil (by decide) (by intro x hx; cases hx) rw_nil rw_nil (by decide) (by decide); rw [aw_1] at h9; exact h9)) rfl (fun gA _ => ?_)
  refine o_p (p_pure rfl) rfl ?_
  refine o_p (p_pure rfl) rfl ?_
  refine o_p (p_pure rfl) rfl ?_
  refine o_p (p_pure rfl) rfl ?_
  refine o_h (h_alloc rfl zr_24) rfl (fun b1 _ => ?_)
  refine o_h0 (h_store rfl rfl rfl sz_24 rfl aPt (by simp only [setMany_length, List.length_set, List.length_cons, List.length_nil, List.length_map]; omega) rfl) (fun _ _ => ?_)
  refine o_p (p_pure rfl) rfl ?_
  refine o_p (p_pure rfl) rfl ?_
  refine o_nil ?_
  refine s_seq ?_
  refine s_cutI (α := Nat × Option Addr × Nat) [4, 5, 6, 22, 23, 24, 25, 26, 27, 28] (fun x => [(4, .pointer (some ⟨x.1, 0, none⟩)), (5, .int .i64 257), (6, .int .i64 0)]) (fun x => HS w [] [.blk x.1 24 2 [.int .i64 258, .slice x.2.1 2 x.2.2], .own (.slice x.2.1 lB.length x.2.2) 50 2 lB.length (lB.flatMap SItm.vals), .blk b1 24 2 [.int .i64 257, .slice gA.1 1 gA.2], .own (.slice gA.1 lA.length gA.2) 50 2 lA.length (lA.flatMap SItm.vals)]) (fun _ => True) ?_ ?_
  · skip
    refine s_draw [8] mixed ?_
    refine d_q 0 [[]] rfl (q_loadn rfl rfl sz_24 aPk rfl) (by kernel_rfl) (by kernel_rfl) (by kernel_rfl) rfl ?_
    refine d_two 1 7 rfl rfl  (h_call rfl fn_22 rfl (fun w1 h1 => c22 w1)) (h_alloc rfl zr_24) (by kernel_rfl) (fun w h => h.ent aEt) rfl rfl  (fun gO _ => ?_) (fun b2 _ => ?_)
    · skip
      refine d_base (fun w h => h.ent aEt) ?_
      refine d_two 2 7 rfl rfl  (h_call rfl fn_19 rfl (fun w1 h1 => by have h9 := c19 w1 257 gA.1 gA.2 lA dB gO.1 gO.2 none 0 (HS.rw_own (l := lA) sv2 h1 aPk rfl) (by decide) (by intro x hx; simp only [lA, lB, List.mem_cons, List.mem_nil_iff, or_false] at hx; subst hx <;> decide) (HS.rw_own (l := dB.en) av4 h1 aPk rfl) rw_nil (by decide) (by decide); rw [aw_2] at h9; exact h9)) (h_alloc rfl zr_24) (by kernel_rfl) (fun w h => h.ent aEt) rfl rfl  (fun gB _ => ?_) (fun b3 _ => ?_)
      · skip
        refine d_base (fun w h => h.ent aEt) ?_
        refine d_p 3 rfl (p_pure rfl) (by kernel_rfl) rfl rfl ?_
        refine d_p 4 rfl (p_pure rfl) (by kernel_rfl) rfl rfl ?_
        refine d_p 5 rfl (p_pure rfl) (by kernel_rfl) rfl rfl ?_
        refine d_p 6 rfl (p_pure rfl) (by kernel_rfl) rfl rfl ?_
        refine d_h 7 rfl (h_alloc rfl zr_24) (by kernel_rfl) (fun w h => h.ent aEt) rfl (fun b4 _ => ?_)
        refine d_base (fun w h => h.ent aEt) ?_
        refine d_h0 8 rfl (h_store rfl rfl rfl sz_24 rfl aPt (by simp only [setMany_length, List.length_set, List.length_cons, List.length_nil, List.length_map]; omega) rfl) (by kernel_rfl) (fun w h => h.ent aEt) (fun _ _ => ?_)
        refine d_turn [] (by kernel_rfl) ?_
        refine d_p 9 rfl (p_pure rfl) (by kernel_rfl) rfl rfl ?_
        refine d_p 10 rfl (p_pure rfl) (by kernel_rfl) rfl rfl ?_
        refine d_nil (by kernel_rfl) (fun w h => by first | exact h | exact h.ent aEt) ?_
        exact s_joinI (b4, gB) trivial aSx (fun w h => h.ent aEt)
      · skip
        refine d_base (fun w h => h.ent aEt) ?_
        refine d_h 2 rfl (h_call rfl fn_19 rfl (fun w1 h1 => by have h9 := c19 w1 257 gA.1 gA.2 lA dB gO.1 gO.2 none 0 (HS.rw_own (l := lA) sv2 h1 aPk rfl) (by decide) (by intro x hx; simp only [lA, lB, List.mem_cons, List.mem_nil_iff, or_false] at hx; subst hx <;> decide) (HS.rw_own (l := dB.en) av4 h1 aPk rfl) rw_nil (by decide) (by decide); rw [aw_2] at h9; exact h9)) (by kernel_rfl) (fun w h => h.ent aEt) rfl (fun gB _ => ?_)
        refine d_base (fun w h => h.ent aEt) ?_
        refine d_p 3 rfl (p_pure rfl) (by kernel_rfl) rfl rfl ?_
        refine d_p 4 rfl (p_pure rfl) (by kernel_rfl) rfl rfl ?_
        refine d_p 5 rfl (p_pure rfl) (by kernel_rfl) rfl rfl ?_
        refine d_p 6 rfl (p_pure rfl) (by kernel_rfl) rfl rfl ?_
        refine d_h0 8 rfl (h_store rfl rfl rfl sz_24 rfl aPt (by simp only [setMany_length, List.length_set, List.length_cons, List.length_nil, List.length_map]; omega) rfl) (by kernel_rfl) (fun w h => h.ent aEt) (fun _ _ => ?_)
        refine d_turn [] (by kernel_rfl) ?_
        refine d_p 9 rfl (p_pure rfl) (by kernel_rfl) rfl rfl ?_
        refine d_p 10 rfl (p_pure rfl) (by kernel_rfl) rfl rfl ?_
        refine d_nil (by kernel_rfl) (fun w h => by first | exact h | exact h.ent aEt) ?_
        exact s_joinI (b3, gB) trivial aSx (fun w h => h.ent aEt)
    · skip
      refine d_base (fun w h => h.ent aEt) ?_
      refine d_h 1 rfl (h_call rfl fn_22 rfl (fun w1 h1 => c22 w1)) (by kernel_rfl) (fun w h => h.ent aEt) rfl (fun gO _ => ?_)
      refine d_base (fun w h => h.ent aEt) ?_
      refine d_h 2 rfl (h_call rfl fn_19 rfl (fun w1 h1 => by have h9 := c19 w1 257 gA.1 gA.2 lA dB gO.1 gO.2 none 0 (HS.rw_own (l := lA) sv2 h1 aPk rfl) (by decide) (by intro x hx; simp only [lA, lB, List.mem_cons, List.mem_nil_iff, or_false] at hx; subst hx <;> decide) (HS.rw_own (l := dB.en) av4 h1 aPk rfl) rw_nil (by decide) (by decide); rw [aw_2] at h9; exact h9)) (by kernel_rfl) (fun w h => h.ent aEt) rfl (fun gB _ => ?_)
      refine d_base (fun w h => h.ent aEt) ?_
      refine d_p 3 rfl (p_pure rfl) (by kernel_rfl) rfl rfl ?_
      refine d_p 4 rfl (p_pure rfl) (by kernel_rfl) rfl rfl ?_
      refine d_p 5 rfl (p_pure rfl) (by kernel_rfl) rfl rfl ?_
      refine d_p 6 rfl (p_pure rfl) (by kernel_rfl) rfl rfl ?_
      refine d_h0 8 rfl (h_store rfl rfl rfl sz_24 rfl aPt (by simp only [setMany_length, List.length_set, List.length_cons, List.length_nil, List.length_map]; omega) rfl) (by kernel_rfl) (fun w h => h.ent aEt) (fun _ _ => ?_)
      refine d_turn [] (by kernel_rfl) ?_
      refine d_p 9 rfl (p_pure rfl) (by kernel_rfl) rfl rfl ?_
      refine d_p 10 rfl (p_pure rfl) (by kernel_rfl) rfl rfl ?_
      refine d_nil (by kernel_rfl) (fun w h => by first | exact h | exact h.ent aEt) ?_
      exact s_joinI (b2, gB) trivial aSx (fun w h => h.ent aEt)
  · intro x hx
    refine s_seq ?_
    refine s_region ?_
    refine o_q (q_loadn rfl rfl sz_24 aPk rfl) rfl ?_
    refine o_h (h_call rfl fn_23 rfl (fun w1 h1 => by have h9 := c23 w1 258 x.2.1 x.2.2 lB (HS.rw_own (l := lB) sv2 h1 aPk rfl) (by decide) (by intro x hx; simp only [lA, lB, List.mem_cons, List.mem_nil_iff, or_false] at hx; rcases hx with rfl | rfl <;> decide); rw [if_pos aw_3, aw_3, aw_4] at h9; exact h9)) rfl (fun gP _ => ?_)
    refine o_p (p_pure rfl) rfl ?_
    refine o_p (p_pure rfl) rfl ?_
    refine o_p (p_pure rfl) rfl ?_
    refine o_p (p_pure rfl) rfl ?_
    refine o_p (p_pure rfl) rfl ?_
    refine o_p (p_pure rfl) rfl ?_
    refine o_p (p_pure rfl) rfl ?_
    refine o_nil ?_
    refine s_seq ?_
    refine s_region ?_
    refine o_q (q_loadn rfl rfl sz_24 aPk rfl) rfl ?_
    refine o_q (q_call rfl fn_7 rfl (fun w1 h1 => by have h9 := c7 w1 257 gA.1 gA.2 lA (HS.rw_own (l := lA) sv2 h1 aPk rfl) (by decide) (by intro x hx; simp only [lA, lB, List.mem_cons, List.mem_nil_iff, or_false] at hx; subst hx <;> decide); rw [if_pos aw_5, aw_5] at h9; exact h9)) rfl ?_
    refine o_p (p_pure rfl) rfl ?_
    refine o_p (p_pure rfl) rfl ?_
    refine o_p (p_pure rfl) rfl ?_
    refine o_p (p_pure rfl) rfl ?_
    refine o_p (p_pure rfl) rfl ?_
    refine o_nil ?_
    refine s_seq ?_
    refine s_weaken (L' := [(0, _), (2, _), (3, _), (4, _), (5, _), (6, _), (7, _), (8, _), (9, _), (10, _), (11, _)]) aSx (fun _ h => h) ?_
    refine s_region ?_
    refine o_q (q_loadn rfl rfl sz_24 aPk rfl) rfl ?_
    refine o_h (h_buildSlice (cs := [_]) rfl rfl sl_31 zr_3 rfl rfl rfl) rfl (fun b5 _ => ?_)
    refine o_h (h_call rfl fn_24 rfl (fun w1 h1 => by have h9 := c24 w1 258 x.2.1 x.2.2 lB (some ⟨b5, 0, none⟩) 1 [257] (HS.rw_own (l := lB) sv2 h1 aPk rfl) (by decide) (by intro x hx; simp only [lA, lB, List.mem_cons, List.mem_nil_iff, or_false] at hx; rcases hx with rfl | rfl <;> decide) (h1.vl_blk aPk) (by decide) (by intro x hx; simp only [List.mem_cons, List.mem_nil_iff, or_false] at hx; subst hx; decide); rw [aw_6, aw_7] at h9; exact h9)) rfl (fun gC _ => ?_)
    refine o_p (p_pure rfl) rfl ?_
    refine o_p (p_pure rfl) rfl ?_
    refine o_p (p_pure rfl) rfl ?_
    refine o_p (p_pure rfl) rfl ?_
    refine o_h (h_alloc rfl zr_24) rfl (fun b6 _ => ?_)
    refine o_h0 (h_store rfl rfl rfl sz_24 rfl aPt (by simp only [setMany_length, List.length_set, List.length_cons, List.length_nil, List.length_map]; omega) rfl) (fun _ _ => ?_)
    refine o_p (p_pure rfl) rfl ?_
    refine o_p (p_pure rfl) rfl ?_
    refine o_nil ?_
    refine s_seq ?_
    refine s_region ?_
    refine o_p (p_pure rfl) rfl ?_
    refine o_p (p_pure rfl) rfl ?_
    refine o_p (p_pure rfl) rfl ?_
    refine o_and 3 49 52 _ _ rfl
      (by
        intro hg7
        have hs8 := hg7; try simp only [decide_eq_true_eq, decide_eq_false_iff_not, Bool.not_eq_true', Bool.not_eq_false', Bool.and_eq_true, Bool.or_eq_true, Bool.and_eq_false_iff, Bool.or_eq_false_iff, Bool.not_true, Bool.not_false] at hs8
        refine o_on 49 _ rfl rfl hg7 ?_
        refine o_p (p_pure rfl) rfl ?_
        refine o_on 49 _ rfl rfl hg7 ?_
        refine o_p (p_pure rfl) rfl ?_
        refine o_p (p_pickt rfl rfl hg7 rfl) rfl ?_
        refine o_nil ?_
        exact s_joinN 3 52 _ rfl rfl rfl (fun w h => by first | exact h | exact h.ent aEt))
      (by
        intro hg9
        have hs10 := hg9; try simp only [decide_eq_true_eq, decide_eq_false_iff_not, Bool.not_eq_true', Bool.not_eq_false', Bool.and_eq_true, Bool.or_eq_true, Bool.and_eq_false_iff, Bool.or_eq_false_iff, Bool.not_true, Bool.not_false] at hs10
        refine o_off 49 _ rfl rfl hg9 rfl ?_
        refine o_off 49 _ rfl rfl hg9 rfl ?_
        refine o_p (p_pickf rfl rfl hg9 rfl) rfl ?_
        refine o_nil ?_
        exact s_joinN 3 52 _ rfl rfl rfl (fun w h => by first | exact h | exact h.ent aEt)) ?_
    refine o_p (p_pure rfl) rfl ?_
    refine o_and 3 53 56 _ _ rfl
      (by
        intro hg11
        have hs12 := hg11; try simp only [decide_eq_true_eq, decide_eq_false_iff_not, Bool.not_eq_true', Bool.not_eq_false', Bool.and_eq_true, Bool.or_eq_true, Bool.and_eq_false_iff, Bool.or_eq_false_iff, Bool.not_true, Bool.not_false] at hs12
        refine o_on 53 _ rfl rfl hg11 ?_
        refine o_p (p_pure rfl) rfl ?_
        refine o_on 53 _ rfl rfl hg11 ?_
        refine o_p (p_pure rfl) rfl ?_
        refine o_p (p_pickt rfl rfl hg11 rfl) rfl ?_
        refine o_nil ?_
        exact s_joinN 3 56 _ rfl rfl rfl (fun w h => by first | exact h | exact h.ent aEt))
      (by
        intro hg13
        have hs14 := hg13; try simp only [decide_eq_true_eq, decide_eq_false_iff_not, Bool.not_eq_true', Bool.not_eq_false', Bool.and_eq_true, Bool.or_eq_true, Bool.and_eq_false_iff, Bool.or_eq_false_iff, Bool.not_true, Bool.not_false] at hs14
        refine o_off 53 _ rfl rfl hg13 rfl ?_
        refine o_off 53 _ rfl rfl hg13 rfl ?_
        refine o_p (p_pickf rfl rfl hg13 rfl) rfl ?_
        refine o_nil ?_
        exact s_joinN 3 56 _ rfl rfl rfl (fun w h => by first | exact h | exact h.ent aEt)) ?_
    refine o_p (p_pure rfl) rfl ?_
    refine o_and 3 57 60 _ _ rfl
      (by
        intro hg15
        have hs16 := hg15; try simp only [decide_eq_true_eq, decide_eq_false_iff_not, Bool.not_eq_true', Bool.not_eq_false', Bool.and_eq_true, Bool.or_eq_true, Bool.and_eq_false_iff, Bool.or_eq_false_iff, Bool.not_true, Bool.not_false] at hs16
        refine o_on 57 _ rfl rfl hg15 ?_
        refine o_p (p_pure rfl) rfl ?_
        refine o_on 57 _ rfl rfl hg15 ?_
        refine o_p (p_pure rfl) rfl ?_
        refine o_p (p_pickt rfl rfl hg15 rfl) rfl ?_
        refine o_nil ?_
        exact s_joinN 3 60 _ rfl rfl rfl (fun w h => by first | exact h | exact h.ent aEt))
      (by
        intro hg17
        have hs18 := hg17; try simp only [decide_eq_true_eq, decide_eq_false_iff_not, Bool.not_eq_true', Bool.not_eq_false', Bool.and_eq_true, Bool.or_eq_true, Bool.and_eq_false_iff, Bool.or_eq_false_iff, Bool.not_true, Bool.not_false] at hs18
        refine o_off 57 _ rfl rfl hg17 rfl ?_
        refine o_off 57 _ rfl rfl hg17 rfl ?_
        refine o_p (p_pickf rfl rfl hg17 rfl) rfl ?_
        refine o_nil ?_
        exact s_joinN 3 60 _ rfl rfl rfl (fun w h => by first | exact h | exact h.ent aEt)) ?_
    refine o_p (p_pure rfl) rfl ?_
    refine o_and 3 61 64 _ _ rfl
      (by
        intro hg19
        have hs20 := hg19; try simp only [decide_eq_true_eq, decide_eq_false_iff_not, Bool.not_eq_true', Bool.not_eq_false', Bool.and_eq_true, Bool.or_eq_true, Bool.and_eq_false_iff, Bool.or_eq_false_iff, Bool.not_true, Bool.not_false] at hs20
        refine o_on 61 _ rfl rfl hg19 ?_
        refine o_p (p_pure rfl) rfl ?_
        refine o_on 61 _ rfl rfl hg19 ?_
        refine o_p (p_pure rfl) rfl ?_
        refine o_p (p_pickt rfl rfl hg19 rfl) rfl ?_
        refine o_nil ?_
        exact s_joinN 3 64 _ rfl rfl rfl (fun w h => by first | exact h | exact h.ent aEt))
      (by
        intro hg21
        have hs22 := hg21; try simp only [decide_eq_true_eq, decide_eq_false_iff_not, Bool.not_eq_true', Bool.not_eq_false', Bool.and_eq_true, Bool.or_eq_true, Bool.and_eq_false_iff, Bool.or_eq_false_iff, Bool.not_true, Bool.not_false] at hs22
        refine o_off 61 _ rfl rfl hg21 rfl ?_
        refine o_off 61 _ rfl rfl hg21 rfl ?_
        refine o_p (p_pickf rfl rfl hg21 rfl) rfl ?_
        refine o_nil ?_
        exact s_joinN 3 64 _ rfl rfl rfl (fun w h => by first | exact h | exact h.ent aEt)) ?_
    refine o_p (p_pure rfl) rfl ?_
    refine o_and 4 65 69 _ _ rfl
      (by
        intro hg23
        have hs24 := hg23; try simp only [decide_eq_true_eq, decide_eq_false_iff_not, Bool.not_eq_true', Bool.not_eq_false', Bool.and_eq_true, Bool.or_eq_true, Bool.and_eq_false_iff, Bool.or_eq_false_iff, Bool.not_true, Bool.not_false] at hs24
        refine o_on 65 _ rfl rfl hg23 ?_
        refine o_p (p_pure rfl) rfl ?_
        refine o_on 65 _ rfl rfl hg23 ?_
        refine o_h (h_buildSlice (cs := [_, _]) rfl rfl sl_31 zr_3 rfl rfl rfl) rfl (fun b25 _ => ?_)
        refine o_on 65 _ rfl rfl hg23 ?_
        refine o_q (q_call rfl fn_12 rfl (fun w1 h1 => c12 w1 gP.1 gP.2 (some ⟨b25, 0, none⟩) 2 [16, 48] (HS.vl_own (cs := [.int .i64 16, .int .i64 48]) h1 aPk) (h1.vl_blk aPk) (by decide))) rfl ?_
        refine o_p (p_pickt rfl rfl hg23 rfl) rfl ?_
        refine o_nil ?_
        exact s_joinN 4 69 _ rfl rfl rfl (fun w h => by first | exact h | exact h.ent aEt))
      (by
        intro hg26
        have hs27 := hg26; try simp only [decide_eq_true_eq, decide_eq_false_iff_not, Bool.not_eq_true', Bool.not_eq_false', Bool.and_eq_true, Bool.or_eq_true, Bool.and_eq_false_iff, Bool.or_eq_false_iff, Bool.not_true, Bool.not_false] at hs27
        refine o_off 65 _ rfl rfl hg26 rfl ?_
        refine o_off 65 _ rfl rfl hg26 rfl ?_
        refine o_off 65 _ rfl rfl hg26 rfl ?_
        refine o_p (p_pickf rfl rfl hg26 rfl) rfl ?_
        refine o_nil ?_
        exact s_joinN 4 69 _ rfl rfl rfl (fun w h => by first | exact h | exact h.ent aEt)) ?_
    refine o_p (p_pure rfl) rfl ?_
    refine o_and 3 70 73 _ _ rfl
      (by
        intro hg28
        have hs29 := hg28; try simp only [decide_eq_true_eq, decide_eq_false_iff_not, Bool.not_eq_true', Bool.not_eq_false', Bool.and_eq_true, Bool.or_eq_true, Bool.and_eq_false_iff, Bool.or_eq_false_iff, Bool.not_true, Bool.not_false] at hs29
        refine o_on 70 _ rfl rfl hg28 ?_
        refine o_p (p_pure rfl) rfl ?_
        refine o_on 70 _ rfl rfl hg28 ?_
        refine o_p (p_pure rfl) rfl ?_
        refine o_p (p_pickt rfl rfl hg28 rfl) rfl ?_
        refine o_nil ?_
        exact s_joinN 3 73 _ rfl rfl rfl (fun w h => by first | exact h | exact h.ent aEt))
      (by
        intro hg30
        have hs31 := hg30; try simp only [decide_eq_true_eq, decide_eq_false_iff_not, Bool.not_eq_true', Bool.not_eq_false', Bool.and_eq_true, Bool.or_eq_true, Bool.and_eq_false_iff, Bool.or_eq_false_iff, Bool.not_true, Bool.not_false] at hs31
        refine o_off 70 _ rfl rfl hg30 rfl ?_
        refine o_off 70 _ rfl rfl hg30 rfl ?_
        refine o_p (p_pickf rfl rfl hg30 rfl) rfl ?_
        refine o_nil ?_
        exact s_joinN 3 73 _ rfl rfl rfl (fun w h => by first | exact h | exact h.ent aEt)) ?_
    refine o_p (p_pure rfl) rfl ?_
    refine o_and 3 74 77 _ _ rfl
      (by
        intro hg32
        have hs33 := hg32; try simp only [decide_eq_true_eq, decide_eq_false_iff_not, Bool.not_eq_true', Bool.not_eq_false', Bool.and_eq_true, Bool.or_eq_true, Bool.and_eq_false_iff, Bool.or_eq_false_iff, Bool.not_true, Bool.not_false] at hs33
        refine o_on 74 _ rfl rfl hg32 ?_
        refine o_p (p_pure rfl) rfl ?_
        refine o_on 74 _ rfl rfl hg32 ?_
        refine o_p (p_pure rfl) rfl ?_
        refine o_p (p_pickt rfl rfl hg32 rfl) rfl ?_
        refine o_nil ?_
        exact s_joinN 3 77 _ rfl rfl rfl (fun w h => by first | exact h | exact h.ent aEt))
      (by
        intro hg34
        have hs35 := hg34; try simp only [decide_eq_true_eq, decide_eq_false_iff_not, Bool.not_eq_true', Bool.not_eq_false', Bool.and_eq_true, Bool.or_eq_true, Bool.and_eq_false_iff, Bool.or_eq_false_iff, Bool.not_true, Bool.not_false] at hs35
        refine o_off 74 _ rfl rfl hg34 rfl ?_
        refine o_off 74 _ rfl rfl hg34 rfl ?_
        refine o_p (p_pickf rfl rfl hg34 rfl) rfl ?_
        refine o_nil ?_
        exact s_joinN 3 77 _ rfl rfl rfl (fun w h => by first | exact h | exact h.ent aEt)) ?_
    refine o_p (p_pure rfl) rfl ?_
    refine o_and 4 78 82 _ _ rfl
      (by
        intro hg36
        have hs37 := hg36; try simp only [decide_eq_true_eq, decide_eq_false_iff_not, Bool.not_eq_true', Bool.not_eq_false', Bool.and_eq_true, Bool.or_eq_true, Bool.and_eq_false_iff, Bool.or_eq_false_iff, Bool.not_true, Bool.not_false] at hs37
        refine o_on 78 _ rfl rfl hg36 ?_
        refine o_p (p_pure rfl) rfl ?_
        refine o_on 78 _ rfl rfl hg36 ?_
        refine o_p (p_len_str rfl rfl Tryz.underlying9) rfl ?_
        refine o_slot (show _ = Value.int .i64 8240 from by rw [aw_8]; rfl) ?_
        refine o_on 78 _ rfl rfl hg36 ?_
        refine o_p (p_pure rfl) rfl ?_
        refine o_p (p_pickt rfl rfl hg36 rfl) rfl ?_
        refine o_nil ?_
        exact s_joinN 4 82 _ rfl rfl rfl (fun w h => by first | exact h | exact h.ent aEt))
      (by
        intro hg38
        have hs39 := hg38; try simp only [decide_eq_true_eq, decide_eq_false_iff_not, Bool.not_eq_true', Bool.not_eq_false', Bool.and_eq_true, Bool.or_eq_true, Bool.and_eq_false_iff, Bool.or_eq_false_iff, Bool.not_true, Bool.not_false] at hs39
        refine o_off 78 _ rfl rfl hg38 rfl ?_
        refine o_off 78 _ rfl rfl hg38 rfl ?_
        refine o_off 78 _ rfl rfl hg38 rfl ?_
        refine o_p (p_pickf rfl rfl hg38 rfl) rfl ?_
        refine o_nil ?_
        exact s_joinN 4 82 _ rfl rfl rfl (fun w h => by first | exact h | exact h.ent aEt)) ?_
    refine o_p (p_pure rfl) rfl ?_
    refine o_and 3 83 86 _ _ rfl
      (by
        intro hg40
        have hs41 := hg40; try simp only [decide_eq_true_eq, decide_eq_false_iff_not, Bool.not_eq_true', Bool.not_eq_false', Bool.and_eq_true, Bool.or_eq_true, Bool.and_eq_false_iff, Bool.or_eq_false_iff, Bool.not_true, Bool.not_false] at hs41
        refine o_on 83 _ rfl rfl hg40 ?_
        refine o_p (p_pure rfl) rfl ?_
        refine o_on 83 _ rfl rfl hg40 ?_
        refine o_p (p_pure rfl) rfl ?_
        refine o_p (p_pickt rfl rfl hg40 rfl) rfl ?_
        refine o_nil ?_
        exact s_joinN 3 86 _ rfl rfl rfl (fun w h => by first | exact h | exact h.ent aEt))
      (by
        intro hg42
        have hs43 := hg42; try simp only [decide_eq_true_eq, decide_eq_false_iff_not, Bool.not_eq_true', Bool.not_eq_false', Bool.and_eq_true, Bool.or_eq_true, Bool.and_eq_false_iff, Bool.or_eq_false_iff, Bool.not_true, Bool.not_false] at hs43
        refine o_off 83 _ rfl rfl hg42 rfl ?_
        refine o_off 83 _ rfl rfl hg42 rfl ?_
        refine o_p (p_pickf rfl rfl hg42 rfl) rfl ?_
        refine o_nil ?_
        exact s_joinN 3 86 _ rfl rfl rfl (fun w h => by first | exact h | exact h.ent aEt)) ?_
    refine o_p (p_pure rfl) rfl ?_
    refine o_and 4 87 91 _ _ rfl
      (by
        intro hg44
        have hs45 := hg44; try simp only [decide_eq_true_eq, decide_eq_false_iff_not, Bool.not_eq_true', Bool.not_eq_false', Bool.and_eq_true, Bool.or_eq_true, Bool.and_eq_false_iff, Bool.or_eq_false_iff, Bool.not_true, Bool.not_false] at hs45
        refine o_on 87 _ rfl rfl hg44 ?_
        refine o_p (p_pure rfl) rfl ?_
        refine o_on 87 _ rfl rfl hg44 ?_
        refine o_h (h_buildSlice (cs := [_]) rfl rfl sl_31 zr_3 rfl rfl rfl) rfl (fun b46 _ => ?_)
        refine o_on 87 _ rfl rfl hg44 ?_
        refine o_q (q_call rfl fn_12 rfl (fun w1 h1 => c12 w1 gC.2.1 gC.2.2 (some ⟨b46, 0, none⟩) 1 [256] (HS.vl_own (cs := [.int .i64 256]) h1 aPk) (h1.vl_blk aPk) (by decide))) rfl ?_
        refine o_p (p_pickt rfl rfl hg44 rfl) rfl ?_
        refine o_nil ?_
        exact s_joinN 4 91 _ rfl rfl rfl (fun w h => by first | exact h | exact h.ent aEt))
      (by
        intro hg47
        have hs48 := hg47; try simp only [decide_eq_true_eq, decide_eq_false_iff_not, Bool.not_eq_true', Bool.not_eq_false', Bool.and_eq_true, Bool.or_eq_true, Bool.and_eq_false_iff, Bool.or_eq_false_iff, Bool.not_true, Bool.not_false] at hs48
        refine o_off 87 _ rfl rfl hg47 rfl ?_
        refine o_off 87 _ rfl rfl hg47 rfl ?_
        refine o_off 87 _ rfl rfl hg47 rfl ?_
        refine o_p (p_pickf rfl rfl hg47 rfl) rfl ?_
        refine o_nil ?_
        exact s_joinN 4 91 _ rfl rfl rfl (fun w h => by first | exact h | exact h.ent aEt)) ?_
    refine o_p (p_pure rfl) rfl ?_
    refine o_and 4 92 96 _ _ rfl
      (by
        intro hg49
        have hs50 := hg49; try simp only [decide_eq_true_eq, decide_eq_false_iff_not, Bool.not_eq_true', Bool.not_eq_false', Bool.and_eq_true, Bool.or_eq_true, Bool.and_eq_false_iff, Bool.or_eq_false_iff, Bool.not_true, Bool.not_false] at hs50
        refine o_on 92 _ rfl rfl hg49 ?_
        refine o_p (p_fieldAddr rfl rfl fd_24_0 sz_3 rfl) rfl ?_
        refine o_on 92 _ rfl rfl hg49 ?_
        refine o_q (q_load rfl rfl sz_3 aPk rfl) rfl ?_
        refine o_on 92 _ rfl rfl hg49 ?_
        refine o_p (p_pure rfl) rfl ?_
        refine o_p (p_pickt rfl rfl hg49 rfl) rfl ?_
        refine o_nil ?_
        exact s_joinN 4 96 _ rfl rfl rfl (fun w h => by first | exact h | exact h.ent aEt))
      (by
        intro hg51
        have hs52 := hg51; try simp only [decide_eq_true_eq, decide_eq_false_iff_not, Bool.not_eq_true', Bool.not_eq_false', Bool.and_eq_true, Bool.or_eq_true, Bool.and_eq_false_iff, Bool.or_eq_false_iff, Bool.not_true, Bool.not_false] at hs52
        refine o_off 92 _ rfl rfl hg51 rfl ?_
        refine o_off 92 _ rfl rfl hg51 rfl ?_
        refine o_off 92 _ rfl rfl hg51 rfl ?_
        refine o_p (p_pickf rfl rfl hg51 rfl) rfl ?_
        refine o_nil ?_
        exact s_joinN 4 96 _ rfl rfl rfl (fun w h => by first | exact h | exact h.ent aEt)) ?_
    refine o_p (p_pure rfl) rfl ?_
    refine o_nil ?_
    exact s_retv (rs := [.tmp 0]) rfl (.tmp rfl (.nil)) (fun w' h' => ⟨by rfl, h'.below⟩)

end Go.Proofs

/- Chapter 18, plain: what is encoded is decoded; a store with a descriptor added is valid. Nothing of a program is named here. -/
namespace Gx
set_option linter.unusedSimpArgs false
set_option linter.unusedVariables false
open Go Go.RowKit
theorem at1_0 (x : UInt8) (l : List UInt8) : at1 (x :: l) 0 = (x.toNat : Int) := rfl
theorem at1_s (x : UInt8) (l : List UInt8) (i : Nat) : at1 (x :: l) (i + 1) = at1 l i := rfl
/-! ## The store with an item more -/
end Gx

/- Plain data of chapter 18: what is read from a stream. Nothing of a program is named here. -/
namespace Gx
set_option linter.unusedSimpArgs false
set_option linter.unusedVariables false
open Go Go.RowKit
/-! ## Trimming zeros -/
def trimR (s : List UInt8) : List UInt8 := (s.reverse.dropWhile (· == 0)).reverse
def trimL (s : List UInt8) : List UInt8 := s.dropWhile (· == 0)
theorem last_split {s : List UInt8} (h : 0 < s.length) : s = s.take (s.length - 1) ++ [s.getD (s.length - 1) 0] := by
  have := take_succ_getD (l := s) (k := s.length - 1) (d := 0) (by omega)
  rw [show s.length - 1 + 1 = s.length by omega, List.take_length] at this
  exact this
theorem trimR_zero {s : List UInt8} (h : 0 < s.length) (hz : s.getD (s.length - 1) 0 = 0) : trimR s = trimR (s.take (s.length - 1)) := by
  have e := last_split h
  rw [hz] at e
  conv => lhs; rw [e]
  unfold trimR
  rw [List.reverse_append]
  simp
theorem trimR_stop {s : List UInt8} (h : 0 < s.length) (hz : ¬ s.getD (s.length - 1) 0 = 0) : trimR s = s := by
  have e := last_split h
  conv => lhs; rw [e]
  unfold trimR
  rw [List.reverse_append, List.reverse_cons, List.reverse_nil, List.nil_append, List.singleton_append, List.dropWhile_cons_of_neg (by simpa using hz), List.reverse_cons, List.reverse_reverse, ← e]
theorem trimL_zero {s : List UInt8} (h : 0 < s.length) (hz : s.getD 0 0 = 0) : trimL s = trimL (s.drop 1) := by
  cases s with
  | nil => simp at h
  | cons a s =>
    have : a = 0 := hz
    subst this
    rfl
theorem trimL_stop {s : List UInt8} (h : 0 < s.length) (hz : ¬ s.getD 0 0 = 0) : trimL s = s := by
  cases s with
  | nil => simp at h
  | cons a s =>
    have : ¬ a = 0 := hz
    unfold trimL
    rw [List.dropWhile_cons_of_neg (by simpa using this)]
def allZ (s : List UInt8) : Bool := s.all (· == 0)
theorem dw_nil {p : UInt8 → Bool} : ∀ {l : List UInt8}, l.dropWhile p = [] ↔ ∀ x ∈ l, p x = true
  | [] => by simp
  | a :: l => by
    rw [List.dropWhile_cons]
    split
    · rename_i h
      rw [dw_nil]
      constructor
      · intro h1 x hx
        rcases List.mem_cons.1 hx with rfl | hx
        · exact h
        · exact h1 x hx
      · exact fun h1 x hx => h1 x (List.mem_cons_of_mem _ hx)
    · rename_i h
      constructor
      · intro h1; cases h1
      · intro h1; exact absurd (h1 a (List.mem_cons_self ..)) h
theorem tw_mem {p : UInt8 → Bool} : ∀ {l : List UInt8} {x : UInt8}, x ∈ l.takeWhile p → p x = true
  | [], x, h => by cases h
  | a :: l, x, h => by
    rw [List.takeWhile_cons] at h
    split at h
    · rename_i h1
      rcases List.mem_cons.1 h with rfl | h
      · exact h1
      · exact tw_mem h
    · cases h
theorem trim_all (s : List UInt8) : trimL (trimR s) = [] ↔ allZ s = true := by
  unfold trimL trimR allZ
  constructor
  · intro h
    rw [dw_nil] at h
    rw [List.all_eq_true]
    intro x hx
    by_cases hz : (x == 0) = true
    · exact hz
    · have hm : x ∈ s.reverse.dropWhile (· == 0) ∨ (x == 0) = true := by
        have hx2 : x ∈ s.reverse := List.mem_reverse.2 hx
        rw [← List.takeWhile_append_dropWhile (p := (· == 0)) (l := s.reverse)] at hx2
        rcases List.mem_append.1 hx2 with h1 | h1
        · exact .inr (tw_mem (p := (· == 0)) h1)
        · exact .inl h1
      rcases hm with hm | hm
      · exact h x (List.mem_reverse.2 hm)
      · exact hm
  · intro h
    rw [List.all_eq_true] at h
    have h1 : s.reverse.dropWhile (· == 0) = [] := by
      rw [dw_nil]
      intro x hx
      exact h x (List.mem_reverse.1 hx)
    rw [h1]; rfl
/-! ## A half -/
def isHd (h : List UInt8) : Bool := decide (h.take 4 = signB) && decide (sumS (h.take 12) = at4 h 12)
structure ItR where
  x : SItm
  n : Int
  ok : Bool
deriving Inhabited
def shpI (h : List UInt8) (p : Nat) : Bool := decide ((p : Int) + 16 ≤ h.length) && (decide (at4 h (p + 8) = p) && (decide (16 ≤ at4 h (p + 12)) && decide ((p : Int) + upT (at4 h (p + 12)) ≤ h.length)))
def bodyI (h : List UInt8) (p : Nat) : List UInt8 := (h.drop (p + 16)).take ((at4 h (p + 12)).toNat - 16)
def padI (h : List UInt8) (p : Nat) : List UInt8 := (h.drop (p + (at4 h (p + 12)).toNat)).take (padN (at4 h (p + 12)))
def itA (h : List UInt8) (p : Nat) : ItR := if shpI h p then ⟨⟨at4 h (p + 4), bodyI h p⟩, at4 h (p + 12), allZ (padI h p) && decide (at4 h p = hashS (bodyI h p))⟩ else ⟨⟨0, []⟩, 0, false⟩
theorem shpI_ok {h : List UInt8} {p : Nat} (hs : shpI h p = true) : p + 16 ≤ h.length ∧ at4 h (p + 8) = p ∧ 16 ≤ at4 h (p + 12) ∧ (p : Int) + upT (at4 h (p + 12)) ≤ h.length := by
  unfold shpI at hs
  simp only [Bool.and_eq_true, decide_eq_true_eq] at hs
  exact ⟨by omega, hs.2.1, hs.2.2.1, hs.2.2.2⟩
theorem upT_le (n : Int) : n ≤ upT n ∧ upT n ≤ n + 15 := by unfold upT; omega
theorem itA_ok {h : List UInt8} {p : Nat} (ho : (itA h p).ok = true) : shpI h p = true := by
  unfold itA at ho
  split at ho
  · assumption
  · cases ho
theorem itA_n {h : List UInt8} {p : Nat} (ho : (itA h p).ok = true) : 16 ≤ (itA h p).n ∧ (p : Int) + upT (itA h p).n ≤ h.length ∧ (itA h p).x.by_.length ≤ h.length := by
  have hs := itA_ok ho
  obtain ⟨h1, h2, h3, h4⟩ := shpI_ok hs
  unfold itA
  rw [if_pos hs]
  refine ⟨h3, h4, ?_⟩
  show (bodyI h p).length ≤ _
  unfold bodyI
  rw [List.length_take, List.length_drop]
  omega
/-! ## The store of a stream -/
def strE (s : List UInt8) : Int := if (16 ≤ (s.length : Int) - 8192 ∧ (s.length : Int) - 8192 ≤ 8192) ∧ ((s.length : Int) - 8192) % 16 = 0 then 0 else 10
def h1S (s : List UInt8) : List UInt8 := s.take (s.length - 8192)
def h2S (s : List UInt8) : List UInt8 := s.drop 8192
def pickI (g h : List UInt8) (p : Nat) : ItR := if (itA g p).ok then itA g p else itA h p
def inL (g h : List UInt8) : Nat → Nat → List SItm → List Int → Option (List SItm × List Int)
  | 0, _, l, dm => some (l, dm)
  | f + 1, p, l, dm =>
    if p < g.length then
      if (itA g p).ok then inL g h f (p + (upT (itA g p).n).toNat) (l ++ [(itA g p).x]) dm
      else if (itA h p).ok then inL g h f (p + (upT (itA h p).n).toNat) (l ++ [(itA h p).x]) (dm ++ [(l.length : Int)])
      else none
    else some (l, dm)
structure InR where
  nx : Int
  l : List SItm
  dm : List Int
  e : Int
def inE (e : Int) : InR := ⟨0, [], [], e⟩
def inB (g h hd : List UInt8) (dm0 : List Int) : InR :=
  if at4 hd 8 = g.length then
    match inL g h g.length 16 [] dm0 with
    | none => inE 31
    | some (l, dm) => if (stoE (at4 hd 4) l).2 = 0 then ⟨at4 hd 4, l, dm, 0⟩ else inE (stoE (at4 hd 4) l).2
  else inE 3
def inS (s : List UInt8) : InR :=
  if strE s = 0 then
    if isHd (h1S s) then inB (h1S s) (h2S s) (h1S s) []
    else if isHd (h2S s) then inB (h1S s) (h2S s) (h2S s) [-1]
    else inE 31
  else inE (strE s)
theorem strE_ok {s : List UInt8} (h : strE s = 0) : 8208 ≤ s.length ∧ s.length ≤ 16384 ∧ ((s.length : Int) - 8192) % 16 = 0 := by
  unfold strE at h
  split at h
  · omega
  · simp at h
theorem h1S_len {s : List UInt8} (h : 8192 ≤ s.length) : (h1S s).length = s.length - 8192 := by unfold h1S; rw [List.length_take]; omega
theorem h2S_len (s : List UInt8) : (h2S s).length = s.length - 8192 := by unfold h2S; rw [List.length_drop]
theorem at1_take {s : List UInt8} {m i : Nat} (h : i < m) : at1 (s.take m) i = at1 s i := by
  unfold at1
  rw [List.getD_eq_getElem?_getD, List.getD_eq_getElem?_getD, List.getElem?_take, if_pos h]
theorem at2_take {s : List UInt8} {m i : Nat} (h : i + 1 < m) : at2 (s.take m) i = at2 s i := by unfold at2; rw [at1_take (by omega), at1_take h]
theorem at4_take {s : List UInt8} {m i : Nat} (h : i + 3 < m) : at4 (s.take m) i = at4 s i := by unfold at4; rw [at2_take (by omega), at2_take (by omega)]
section
variable {g h hd : List UInt8} {dm0 dm : List Int} {l : List SItm} {f p : Nat}
theorem inB_form (h8 : ¬ at4 hd 8 = g.length) : inB g h hd dm0 = inE 3 := by unfold inB; rw [if_neg h8]
theorem inB_none (h8 : at4 hd 8 = g.length) (hn : inL g h g.length 16 [] dm0 = none) : inB g h hd dm0 = inE 31 := by unfold inB; rw [if_pos h8, hn]
theorem inB_bad (h8 : at4 hd 8 = g.length) (hn : inL g h g.length 16 [] dm0 = some (l, dm)) (he : ¬ (stoE (at4 hd 4) l).2 = 0) : inB g h hd dm0 = inE (stoE (at4 hd 4) l).2 := by unfold inB; rw [if_pos h8, hn]; simp only []; rw [if_neg he]
theorem inB_ok (h8 : at4 hd 8 = g.length) (hn : inL g h g.length 16 [] dm0 = some (l, dm)) (he : (stoE (at4 hd 4) l).2 = 0) : inB g h hd dm0 = ⟨at4 hd 4, l, dm, 0⟩ := by unfold inB; rw [if_pos h8, hn]; simp only []; rw [if_pos he]
theorem inL_1 (hp : p < g.length) (ho : (itA g p).ok = true) : inL g h (f + 1) p l dm = inL g h f (p + (upT (itA g p).n).toNat) (l ++ [(itA g p).x]) dm := by rw [inL, if_pos hp, if_pos ho]
theorem inL_2 (hp : p < g.length) (ho : ¬ (itA g p).ok = true) (ho2 : (itA h p).ok = true) : inL g h (f + 1) p l dm = inL g h f (p + (upT (itA h p).n).toNat) (l ++ [(itA h p).x]) (dm ++ [(l.length : Int)]) := by rw [inL, if_pos hp, if_neg ho, if_pos ho2]
theorem inL_3 (hp : p < g.length) (ho : ¬ (itA g p).ok = true) (ho2 : ¬ (itA h p).ok = true) : inL g h (f + 1) p l dm = none := by rw [inL, if_pos hp, if_neg ho, if_neg ho2]
theorem inL_end (hp : ¬ p < g.length) : inL g h f p l dm = some (l, dm) := by
  cases f with
  | zero => rfl
  | succ f => rw [inL, if_neg hp]
theorem inS_1 {s : List UInt8} (h0 : strE s = 0) (h1 : isHd (h1S s) = true) : inS s = inB (h1S s) (h2S s) (h1S s) [] := by unfold inS; rw [if_pos h0, if_pos h1]
theorem inS_2 {s : List UInt8} (h0 : strE s = 0) (h1 : ¬ isHd (h1S s) = true) (h2 : isHd (h2S s) = true) : inS s = inB (h1S s) (h2S s) (h2S s) [-1] := by unfold inS; rw [if_pos h0, if_neg h1, if_pos h2]
theorem inS_3 {s : List UInt8} (h0 : strE s = 0) (h1 : ¬ isHd (h1S s) = true) (h2 : ¬ isHd (h2S s) = true) : inS s = inE 31 := by unfold inS; rw [if_pos h0, if_neg h1, if_neg h2]
theorem inS_0 {s : List UInt8} (h0 : ¬ strE s = 0) : inS s = inE (strE s) := by unfold inS; rw [if_neg h0]
/-- What is known of an item that was taken. -/
def Took (g h : List UInt8) (f p : Nat) (l : List SItm) (dm : List Int) (r : ItR) (dm' : List Int) : Prop :=
  inL g h (f + 1) p l dm = inL g h f (p + (upT r.n).toNat) (l ++ [r.x]) dm' ∧ 16 ≤ r.n ∧ (p : Int) + upT r.n ≤ g.length ∧ r.x.by_.length ≤ g.length ∧ dm'.length ≤ dm.length + 1
theorem took_1 (hp : p < g.length) (ho : (itA g p).ok = true) : Took g h f p l dm (itA g p) dm := by
  obtain ⟨h1, h2, h3⟩ := itA_n ho
  exact ⟨inL_1 hp ho, h1, h2, h3, Nat.le_succ _⟩
theorem took_2 (hp : p < g.length) (hl : h.length = g.length) (ho : ¬ (itA g p).ok = true) (ho2 : (itA h p).ok = true) : Took g h f p l dm (itA h p) (dm ++ [(l.length : Int)]) := by
  obtain ⟨h1, h2, h3⟩ := itA_n ho2
  exact ⟨inL_2 hp ho ho2, h1, by omega, by omega, by simp⟩
end
/-! ## The reference's look at a half that lies in a stream -/
structure SegOf (s hf : List UInt8) (a : Nat) : Prop where
  le : a + hf.length ≤ s.length
  eq : (s.drop a).take hf.length = hf
theorem SegOf.at4 {s hf : List UInt8} {a q : Nat} (h : SegOf s hf a) (hq : q + 4 ≤ hf.length) : at4 s (a + q) = Gx.at4 hf q := by
  conv => rhs; rw [← h.eq]
  rw [at4_take (by omega), at4_drop]
theorem SegOf.cut {s hf : List UInt8} {a i j : Nat} (h : SegOf s hf a) (hj : j ≤ hf.length) : (s.take (a + j)).drop (a + i) = (hf.take j).drop i := by
  conv => rhs; rw [← h.eq]
  rw [List.take_take, Nat.min_eq_left hj, List.take_drop, List.drop_drop, Nat.add_comm a j]
theorem seg_1 {s : List UInt8} (h : 8192 ≤ s.length) : SegOf s (h1S s) 0 := ⟨by rw [h1S_len h]; omega, by rw [h1S_len h]; rfl⟩
theorem seg_2 {s : List UInt8} (h : 8192 ≤ s.length) : SegOf s (h2S s) 8192 := ⟨by rw [h2S_len]; omega, by rw [h2S_len]; unfold h2S; rw [List.take_of_length_le (by rw [List.length_drop]; omega)]⟩
def itR (hf : List UInt8) (p : Nat) : ItR := if (itA hf p).ok then ⟨(itA hf p).x, upT (itA hf p).n, true⟩ else ⟨⟨0, []⟩, 0, false⟩
theorem itR_no {hf : List UInt8} {p : Nat} (h : shpI hf p = false) : itR hf p = ⟨⟨0, []⟩, 0, false⟩ := by
  unfold itR itA; rw [h]; rfl
theorem itR_shp {hf : List UInt8} {p : Nat} (h : shpI hf p = true) : itR hf p = if (allZ (padI hf p) && decide (at4 hf p = hashS (bodyI hf p))) = true then ⟨⟨at4 hf (p + 4), bodyI hf p⟩, upT (at4 hf (p + 12)), true⟩ else ⟨⟨0, []⟩, 0, false⟩ := by
  unfold itR itA; rw [if_pos h]
theorem allZ_succ {s : List UInt8} {k : Nat} (h : k < s.length) : allZ (s.take (k + 1)) = (allZ (s.take k) && (s.getD k 0 == 0)) := by
  unfold allZ
  rw [take_succ_getD (d := 0) h, List.all_append]; simp
theorem allZ_no {s : List UInt8} {k : Nat} (h : k < s.length) (h2 : ¬ s.getD k 0 = 0) : allZ s = false := by
  rw [← Bool.not_eq_true]
  intro h3
  exact h2 (by simpa using List.all_eq_true.1 h3 _ (getD_mem h))
theorem sum_step (n : Int) (c : UInt8) (h : 0 ≤ n ∧ n < 2147483648) : (n * 2 % 2147483648 + n / 1073741824 + (c.toNat : Int)) % 2147483648 = sStep n c := by
  unfold sStep
  rw [Int.mul_comm n 2]
theorem itR_okeq (hf : List UInt8) (p : Nat) : (itR hf p).ok = (itA hf p).ok := by
  unfold itR
  by_cases h : (itA hf p).ok = true
  · rw [if_pos h, h]
  · rw [if_neg h]; exact (Bool.eq_false_iff.2 h).symm
theorem itR_val {hf : List UInt8} {p : Nat} (h : (itR hf p).ok = true) : (itA hf p).ok = true ∧ itR hf p = ⟨(itA hf p).x, upT (itA hf p).n, true⟩ := by
  rw [itR_okeq] at h
  exact ⟨h, by unfold itR; rw [if_pos h]⟩
def TookR (g h : List UInt8) (f p : Nat) (l : List SItm) (dm : List Int) (z : ItR) (dm' : List Int) : Prop :=
  (z.ok = true → ∃ r, Took g h f p l dm r dm' ∧ z = ⟨r.x, upT r.n, true⟩) ∧ (z.ok = false → inL g h (f + 1) p l dm = none)
section
variable {g h : List UInt8} {f p : Nat} {l : List SItm} {dm : List Int}
theorem tookR_1 (hp : p < g.length) (ho : (itR g p).ok = true) : TookR g h f p l dm (itR g p) dm :=
  ⟨fun _ => ⟨_, took_1 hp (itR_val ho).1, (itR_val ho).2⟩, fun h9 => by rw [ho] at h9; cases h9⟩
theorem tookR_2 (hp : p < g.length) (hl : h.length = g.length) (ho : (itR g p).ok = false) : TookR g h f p l dm (itR h p) (dm ++ [(l.length : Int)]) := by
  rw [itR_okeq] at ho
  have ho' : ¬ (itA g p).ok = true := by rw [ho]; decide
  refine ⟨fun h9 => ⟨_, took_2 hp hl ho' (itR_val h9).1, (itR_val h9).2⟩, fun h9 => ?_⟩
  rw [itR_okeq] at h9
  exact inL_3 hp ho' (by rw [h9]; decide)
theorem tookR_no {z : ItR} {dm' : List Int} (ht : TookR g h f p l dm z dm') (hz : z.ok = false) : inL g h (f + 1) p l dm = none := ht.2 hz
theorem tookR_ok {z : ItR} {dm' : List Int} (ht : TookR g h f p l dm z dm') (hz : z.ok = true) : inL g h (f + 1) p l dm = inL g h f (p + z.n.toNat) (l ++ [z.x]) dm' ∧ 16 ≤ z.n ∧ (p : Int) + z.n ≤ g.length ∧ z.x.by_.length ≤ g.length ∧ dm'.length ≤ dm.length + 1 := by
  obtain ⟨r, ⟨h1, h2, h3, h4, h5⟩, rfl⟩ := ht.1 hz
  have := upT_le r.n
  exact ⟨h1, by show 16 ≤ upT r.n; omega, h3, h4, h5⟩
end
end Gx

namespace Go.Proofs
open Go Go.RowKit Gx
set_option linter.unusedVariables false
set_option linter.unusedSimpArgs false
attribute [local irreducible] Go.Calls Gx.S Gx.O Gx.D Gx.OpP Gx.OpQ Gx.OpH

theorem fn_87 : isFn Tryz.prog 87 = true := by kernel_rfl
theorem fn_63 : isFn Tryz.prog 63 = true := by kernel_rfl
theorem zr_65 : tzero Tryz.prog 65 = some [.string (bs []), .string (bs [])] := by kernel_rfl
theorem ar_65 : tar Tryz.prog 65 = some (2, 9, 1) := by kernel_rfl
theorem sz_65 : tsz Tryz.prog 65 = some (2, true) := by kernel_rfl
theorem fn_89 : isFn Tryz.prog 89 = true := by kernel_rfl
theorem fn_88 : isFn Tryz.prog 88 = true := by kernel_rfl
theorem fn_59 : isFn Tryz.prog 59 = true := by kernel_rfl
theorem fn_31 : isFn Tryz.prog 31 = true := by kernel_rfl
theorem fn_64 : isFn Tryz.prog 64 = true := by kernel_rfl


theorem u8z {x : UInt8} : ((x.toNat : Nat) : Int) = 0 ↔ x = 0 := ⟨fun h => UInt8.toNat_inj.1 (by show x.toNat = 0; omega), fun h => by rw [h]; rfl⟩
theorem cutI (h : List UInt8) (i j : Nat) : (h.take j).drop i = (h.drop i).take (j - i) := by rw [List.drop_take]
theorem pre4 {h : List UInt8} : Lib.hasPrefix h signB = decide (h.take 4 = signB) := by
  unfold Lib.hasPrefix signB
  rw [Bool.eq_iff_iff, decide_eq_true_eq, List.isPrefixOf_iff_prefix, List.prefix_iff_eq_take]
  exact eq_comm

set_option maxRecDepth 20000 in
theorem c87 (w : World) (a : Option Addr) (m cap : Nat) (x : List UInt8) (hs : Vl w a (x.map bv)) (hm : x.length = m) (h2 : 2 ≤ m) (hc : m ≤ cap) (hc9 : cap ≤ 9223372036854775807) : Calls Tryz.prog 87 #[.slice a m cap] w fun en w' => en = .returned (.int .u16 (at2 x 0)) ∧ Below w.heap.size w w' := by
  refine enter (args := [_]) Tryz.func87 Tryz.ntmps87 rfl rfl (HS.refl w []) ?_
  refine s_seq ?_
  refine s_region ?_
  refine o_p (p_pure rfl) rfl ?_
  refine o_nil ?_
  refine s_seq ?_
  refine s_draw [] mixed ?_
  refine d_p 0 rfl (p_pure rfl) (by kernel_rfl) rfl rfl ?_
  refine d_p 1 rfl (p_indexAddr rfl rfl rfl sl_79 0 rfl (by omega) (hs.some (by rw [List.length_map]; omega))) (by kernel_rfl) rfl rfl ?_
  refine d_q 2 [] rfl (q_load_old rfl rfl sz_5 ((hs.rd (i := 0) (bv_get (l := x) (k := 0) (by omega))))) (by kernel_rfl) (by kernel_rfl) (by kernel_rfl) rfl ?_
  refine d_p 3 rfl (p_conv_int rfl rfl ki_5 ki_137) (by kernel_rfl) rfl rfl ?_
  refine d_p 4 rfl (p_pure rfl) (by kernel_rfl) rfl rfl ?_
  refine d_p 5 rfl (p_indexAddr rfl rfl rfl sl_79 1 rfl (by omega) (hs.some (by rw [List.length_map]; omega))) (by kernel_rfl) rfl rfl ?_
  refine d_q 6 [] rfl (q_load_old rfl rfl sz_5 ((hs.rd (i := 1) (bv_get (l := x) (k := 1) (by omega))))) (by kernel_rfl) (by kernel_rfl) (by kernel_rfl) rfl ?_
  refine d_p 7 rfl (p_conv_int rfl rfl ki_5 ki_137) (by kernel_rfl) rfl rfl ?_
  refine d_p 8 rfl (p_shl rfl rfl rfl (by decide) 8 rfl) (by kernel_rfl) rfl rfl ?_
  refine d_p 9 rfl (p_pure rfl) (by kernel_rfl) rfl rfl ?_
  refine d_p 10 rfl (p_pure rfl) (by kernel_rfl) rfl rfl ?_
  refine d_nil (by kernel_rfl) (fun w h => by first | exact h | exact h.ent aEt) ?_
  exact s_retv (rs := [.tmp 2]) rfl (.tmp rfl (.nil)) (fun w' h' => ⟨by rw [← g16_slot]; rfl, h'.below⟩)

set_option maxRecDepth 20000 in
theorem c63 (w : World) (a : Option Addr) (m cap : Nat) (x : List UInt8) (hs : Vl w a (x.map bv)) (hm : x.length = m) (h2 : 4 ≤ m) (hc : m ≤ cap) (hc9 : cap ≤ 9223372036854775807) : Calls Tryz.prog 63 #[.slice a m cap] w fun en w' => en = .returned (.int .u32 (at4 x 0)) ∧ Below w.heap.size w w' := by
  have hx2 := at2_le x 0
  have hx3 := at2_le x 2
  refine enter (args := [_]) Tryz.func63 Tryz.ntmps63 rfl rfl (HS.refl w []) ?_
  refine s_seq ?_
  refine s_region ?_
  refine o_p (p_pure rfl) rfl ?_
  refine o_nil ?_
  refine s_seq ?_
  refine s_draw [] mixed ?_
  refine d_p 0 rfl (p_pure rfl) (by kernel_rfl) rfl rfl ?_
  refine d_q 1 [] rfl (q_call rfl fn_87 rfl (fun w1 h1 => c87 w1 a m cap x (hs.later h1) hm (by omega) hc hc9)) (by kernel_rfl) (by kernel_rfl) (by kernel_rfl) rfl ?_
  refine d_p 2 rfl (p_conv_int rfl rfl ki_137 ki_110) (by kernel_rfl) rfl rfl ?_
  refine d_p 3 rfl (p_pure rfl) (by kernel_rfl) rfl rfl ?_
  refine d_p 4 rfl (p_slice _ _ 2 m rfl rfl sl_79 ⟨_, _, rfl, rfl⟩ rfl (by omega) (by omega)) (by kernel_rfl) rfl rfl ?_
  refine d_q 5 [] rfl (q_call rfl fn_87 rfl (fun w1 h1 => c87 w1 (subA a cap 2 1) (m - 2) (cap - 2) (x.drop 2) (by rw [List.map_drop]; exact (hs.later h1).drop (by rw [List.length_map]; omega) (by omega)) (by rw [List.length_drop]; omega) (by omega) (by omega) (by omega))) (by kernel_rfl) (by kernel_rfl) (by kernel_rfl) rfl ?_
  refine d_p 6 rfl (p_conv_int rfl rfl ki_137 ki_110) (by kernel_rfl) rfl rfl ?_
  refine d_p 7 rfl (p_shl rfl rfl rfl (by decide) 16 rfl) (by kernel_rfl) rfl rfl ?_
  refine d_p 8 rfl (p_pure rfl) (by kernel_rfl) rfl rfl ?_
  refine d_p 9 rfl (p_pure rfl) (by kernel_rfl) rfl rfl ?_
  refine d_nil (by kernel_rfl) (fun w h => by first | exact h | exact h.ent aEt) ?_
  exact s_retv (rs := [.tmp 2]) rfl (.tmp rfl (.nil)) (fun w' h' => ⟨by have h9 := g32_slot (at2 x 0) (at2 (x.drop 2) 0) (at2_le _ _) (at2_le _ _); rw [at2_drop] at h9 ⊢; exact (congrArg Ending.returned h9), h'.below⟩)

set_option maxRecDepth 20000 in
theorem c31 (w : World) (s : List UInt8) (p : Nat) (hm : s.length ≤ 1000000) (hp : p + 4 ≤ s.length) : Calls Tryz.prog 31 #[.string (bs s), .int .i64 (p : Int)] w fun en w' => en = .returned (.int .i64 (at4 s p)) ∧ Below w.heap.size w w' := by
  have h4 := at4_le s p
  have hdl : (s.drop p).length = s.length - p := List.length_drop
  refine enter (args := [_, _]) Tryz.func31 Tryz.ntmps31 rfl rfl (HS.refl w []) ?_
  refine s_seq ?_
  refine s_region ?_
  refine o_p (p_pure rfl) rfl ?_
  refine o_nil ?_
  refine s_seq ?_
  refine s_region ?_
  refine o_p (p_pure rfl) rfl ?_
  refine o_p (p_pure rfl) rfl ?_
  refine o_p (p_slice_str_from p rfl rfl rfl Tryz.underlying9 rfl (by omega)) rfl ?_
  refine o_h (h_bytes rfl rfl Tryz.underlying9 Tryz.underlying79 Tryz.underlying5 rfl (by simp only [maxLen]; omega)) rfl (fun ⟨b1, c2⟩ ⟨h3, k4⟩ => ?_)
  refine o_q (q_call rfl fn_63 rfl (fun w1 h1 => by have h9 := c63 w1 (some ⟨b1, 0, none⟩) (s.drop p).length c2 (s.drop p) (h1.vl_blk aPk) rfl (by omega) (by assumption) (by have hq9 : c2 ≤ maxLen := (by assumption); simp only [maxLen] at hq9; omega); rw [at4_drop, Nat.add_zero] at h9; exact h9)) rfl ?_
  refine o_p (p_conv_int rfl rfl ki_110 ki_3) rfl ?_
  try (refine o_slot (i64w (by omega) (by omega)) ?_)
  refine o_p (p_pure rfl) rfl ?_
  refine o_nil ?_
  exact s_retv (rs := [.tmp 4]) rfl (.tmp rfl (.nil)) (fun w' h' => ⟨by rfl, h'.below⟩)

set_option maxRecDepth 20000 in
theorem c28 (w : World) (s : List UInt8) (hm : s.length ≤ 1000000) : Calls Tryz.prog 28 #[.string (bs s)] w fun en w' => en = .returned (.int .i64 (strE s)) ∧ Below w.heap.size w w' := by
  refine enter (args := [_]) Tryz.func28 Tryz.ntmps28 rfl rfl (HS.refl w []) ?_
  refine s_seq ?_
  refine s_region ?_
  refine o_p (p_pure rfl) rfl ?_
  refine o_nil ?_
  refine s_seq ?_
  refine s_region ?_
  refine o_p (p_pure rfl) rfl ?_
  refine o_p (p_len_str rfl rfl Tryz.underlying9) rfl ?_
  refine o_p (p_pure rfl) rfl ?_
  try (refine o_slot (i64w (by omega) (by omega)) ?_)
  refine o_p (p_pure rfl) rfl ?_
  refine o_nil ?_
  refine s_seq ?_
  refine s_region ?_
  refine o_p (p_pure rfl) rfl ?_
  refine o_q (q_call rfl fn_62 rfl (fun w1 h1 => c62 w1 _ _ _)) rfl ?_
  refine o_p (p_pure rfl) rfl ?_
  refine o_and 4 9 13 _ _ rfl
    (by
      intro hg1
      have hs2 := hg1; try simp only [decide_eq_true_eq, decide_eq_false_iff_not, Bool.not_eq_true', Bool.not_eq_false', Bool.and_eq_true, Bool.or_eq_true, Bool.and_eq_false_iff, Bool.or_eq_false_iff, Bool.not_true, Bool.not_false] at hs2
      refine o_on 9 _ rfl rfl hg1 ?_
      refine o_p (p_pure rfl) rfl ?_
      refine o_on 9 _ rfl rfl hg1 ?_
      refine o_p (p_rem_nn rfl rfl rfl (by omega) (by omega)) rfl ?_
      refine o_on 9 _ rfl rfl hg1 ?_
      refine o_p (p_pure rfl) rfl ?_
      refine o_p (p_pickt rfl rfl hg1 rfl) rfl ?_
      refine o_nil ?_
      exact s_joinN 4 13 _ rfl rfl rfl (fun w h => by first | exact h | exact h.ent aEt))
    (by
      intro hg3
      have hs4 := hg3; try simp only [decide_eq_true_eq, decide_eq_false_iff_not, Bool.not_eq_true', Bool.not_eq_false', Bool.and_eq_true, Bool.or_eq_true, Bool.and_eq_false_iff, Bool.or_eq_false_iff, Bool.not_true, Bool.not_false] at hs4
      refine o_off 9 _ rfl rfl hg3 rfl ?_
      refine o_off 9 _ rfl rfl hg3 rfl ?_
      refine o_off 9 _ rfl rfl hg3 rfl ?_
      refine o_p (p_pickf rfl rfl hg3 rfl) rfl ?_
      refine o_nil ?_
      exact s_joinN 4 13 _ rfl rfl rfl (fun w h => by first | exact h | exact h.ent aEt)) ?_
  refine o_q (q_call rfl fn_50 rfl (fun w1 h1 => c50 w1 _ _)) rfl ?_
  refine o_p (p_pure rfl) rfl ?_
  refine o_nil ?_
  exact s_retv (rs := [.tmp 2]) rfl (.tmp rfl (.nil)) (fun w' h' => ⟨by simp only [retV, strE, cond_eq_ite, Bool.and_eq_true, decide_eq_true_eq], h'.below⟩)

set_option maxRecDepth 20000 in
theorem c29 (w : World) (s : List UInt8) (hm : s.length ≤ 1000000) (h8 : 8192 ≤ s.length) : Calls Tryz.prog 29 #[.string (bs s)] w fun en w' => en = .returned (.agg #[.string (bs (h1S s)), .string (bs (h2S s))]) ∧ Below w.heap.size w w' := by
  refine enter (args := [_]) Tryz.func29 Tryz.ntmps29 rfl rfl (HS.refl w []) ?_
  refine s_seq ?_
  refine s_region ?_
  refine o_h (h_alloc rfl zr_65) rfl (fun b1 _ => ?_)
  refine o_nil ?_
  refine s_seq ?_
  refine s_draw [8] mixed ?_
  refine d_p 0 rfl (p_pure rfl) (by kernel_rfl) rfl rfl ?_
  refine d_p 1 rfl (p_pure rfl) (by kernel_rfl) rfl rfl ?_
  refine d_p 2 rfl (p_len_str rfl rfl Tryz.underlying9) (by kernel_rfl) rfl rfl ?_
  refine d_p 3 rfl (p_pure rfl) (by kernel_rfl) rfl rfl ?_
  try (refine d_slot (i64w (by omega) (by omega)) ?_)
  refine d_p 4 rfl (p_slice_str_to (s.length - 8192) rfl rfl rfl Tryz.underlying9 (by omega) (by omega)) (by kernel_rfl) rfl rfl ?_
  refine d_p 5 rfl (p_pure rfl) (by kernel_rfl) rfl rfl ?_
  refine d_p 6 rfl (p_slice_str_from 8192 rfl rfl rfl Tryz.underlying9 rfl (by omega)) (by kernel_rfl) rfl rfl ?_
  refine d_p 7 rfl (p_build_arr (cs := [_, _]) rfl rfl ar_65 zr_65 rfl) (by kernel_rfl) rfl rfl ?_
  refine d_h0 8 rfl (h_store rfl rfl rfl sz_65 rfl aPt (by simp only [setMany_length, List.length_set, List.length_cons, List.length_nil, List.length_map]; omega) rfl) (by kernel_rfl) (fun w h => h.ent aEt) (fun _ _ => ?_)
  refine d_turn [] (by kernel_rfl) ?_
  refine d_nil (by kernel_rfl) (fun w h => by first | exact h | exact h.ent aEt) ?_
  exact s_retv (rs := [.cell 2 65]) rfl (.cell rfl sz_65 aPk rfl (.nil)) (fun w' h' => ⟨by rfl, h'.below⟩)

set_option maxRecDepth 20000 in
theorem c89 (w : World) (s : List UInt8) (hm : s.length ≤ 1000000) : Calls Tryz.prog 89 #[.string (bs s), .int .u8 0] w fun en w' => en = .returned (.string (bs (trimR s))) ∧ Below w.heap.size w w' := by
  refine enter (args := [_, _]) Tryz.func89 Tryz.ntmps89 rfl rfl (HS.refl w []) ?_
  refine s_seq ?_
  refine s_region ?_
  refine o_p (p_pure rfl) rfl ?_
  refine o_nil ?_
  refine s_seq ?_
  refine s_block ?_
  refine s_loopI (α := List UInt8) [0, 5, 6, 7, 8, 9, 10, 11, 12, 13, 14, 15, 16, 17, 18, 19, 20, 21] (fun t => [(0, .string (bs t))]) (fun _ => _) (fun t => t.length ≤ 1000000 ∧ trimR s = trimR t) (fun t => t.length) s ⟨hm, rfl⟩ aSx (fun w h => h) (fun t htt => ?_)
  obtain ⟨ht1, ht2⟩ := htt
  refine s_seq ?_
  refine s_seq ?_
  refine s_region ?_
  refine o_p (p_pure rfl) rfl ?_
  refine o_p (p_len_str rfl rfl Tryz.underlying9) rfl ?_
  refine o_p (p_pure rfl) rfl ?_
  refine o_p (p_pure rfl) rfl ?_
  refine o_and 8 8 16 _ _ rfl
    (by
      intro hg1
      have hs2 := hg1; try simp only [decide_eq_true_eq, decide_eq_false_iff_not, Bool.not_eq_true', Bool.not_eq_false', Bool.and_eq_true, Bool.or_eq_true, Bool.and_eq_false_iff, Bool.or_eq_false_iff, Bool.not_true, Bool.not_false] at hs2
      refine o_on 8 _ rfl rfl hg1 ?_
      refine o_p (p_pure rfl) rfl ?_
      refine o_on 8 _ rfl rfl hg1 ?_
      refine o_p (p_pure rfl) rfl ?_
      refine o_on 8 _ rfl rfl hg1 ?_
      refine o_p (p_len_str rfl rfl Tryz.underlying9) rfl ?_
      refine o_on 8 _ rfl rfl hg1 ?_
      refine o_p (p_pure rfl) rfl ?_
      try (refine o_slot (i64w (by omega) (by omega)) ?_)
      refine o_on 8 _ rfl rfl hg1 ?_
      refine o_p (p_index_str rfl rfl rfl Tryz.underlying9 (t.length - 1) (by omega) (by omega)) rfl ?_
      refine o_on 8 _ rfl rfl hg1 ?_
      refine o_p (p_pure rfl) rfl ?_
      refine o_on 8 _ rfl rfl hg1 ?_
      refine o_p (p_pure rfl) rfl ?_
      refine o_p (p_pickt rfl rfl hg1 rfl) rfl ?_
      refine o_nil ?_
      exact s_joinN 8 16 _ rfl rfl rfl (fun w h => by first | exact h | exact h.ent aEt))
    (by
      intro hg3
      have hs4 := hg3; try simp only [decide_eq_true_eq, decide_eq_false_iff_not, Bool.not_eq_true', Bool.not_eq_false', Bool.and_eq_true, Bool.or_eq_true, Bool.and_eq_false_iff, Bool.or_eq_false_iff, Bool.not_true, Bool.not_false] at hs4
      refine o_off 8 _ rfl rfl hg3 rfl ?_
      refine o_off 8 _ rfl rfl hg3 rfl ?_
      refine o_off 8 _ rfl rfl hg3 rfl ?_
      refine o_off 8 _ rfl rfl hg3 rfl ?_
      refine o_off 8 _ rfl rfl hg3 rfl ?_
      refine o_off 8 _ rfl rfl hg3 rfl ?_
      refine o_off 8 _ rfl rfl hg3 rfl ?_
      refine o_p (p_pickf rfl rfl hg3 rfl) rfl ?_
      refine o_nil ?_
      exact s_joinN 8 16 _ rfl rfl rfl (fun w h => by first | exact h | exact h.ent aEt)) ?_
  refine o_nil ?_
  refine s_cond rfl (fun h5 => ?_) (fun h5 => ?_)
  · try simp only [decide_eq_true_eq, decide_eq_false_iff_not, Bool.not_eq_true', Bool.not_eq_false', Bool.and_eq_true, Bool.or_eq_true, Bool.and_eq_false_iff, Bool.or_eq_false_iff, Bool.not_true, Bool.not_false] at h5
    have hq9 := h5
    have hz9 : t.getD (t.length - 1) 0 = 0 := u8z.1 hq9.2
    have hst := trimR_zero (s := t) (by omega) hz9
    refine s_skip ?_
    refine s_block ?_
    refine s_region ?_
    refine o_p (p_pure rfl) rfl ?_
    refine o_p (p_pure rfl) rfl ?_
    refine o_p (p_len_str rfl rfl Tryz.underlying9) rfl ?_
    refine o_p (p_pure rfl) rfl ?_
    try (refine o_slot (i64w (by omega) (by omega)) ?_)
    refine o_p (p_slice_str_to (t.length - 1) rfl rfl rfl Tryz.underlying9 (by omega) (by omega)) rfl ?_
    refine o_p (p_pure rfl) rfl ?_
    refine o_nil ?_
    refine s_blk ?_
    exact s_backI (t.take (t.length - 1)) (by simp only [List.length_take, List.length_drop]; omega) ⟨by simp only [List.length_take, List.length_drop]; omega, by rw [ht2, hst]⟩ aSx (fun w h => h)
  · try simp only [decide_eq_true_eq, decide_eq_false_iff_not, Bool.not_eq_true', Bool.not_eq_false', Bool.and_eq_true, Bool.or_eq_true, Bool.and_eq_false_iff, Bool.or_eq_false_iff, Bool.not_true, Bool.not_false] at h5
    have hst : trimR t = t := by rcases Nat.eq_zero_or_pos t.length with h9 | h9; (rw [List.eq_nil_of_length_eq_zero h9]; rfl); exact trimR_stop h9 (fun h8 => by have hq := h5; rcases hq with hq | hq; omega; exact hq (u8z.2 h8))
    refine s_exit_to rfl ?_
    refine s_seq ?_
    refine s_region ?_
    refine o_p (p_pure rfl) rfl ?_
    refine o_p (p_pure rfl) rfl ?_
    refine o_nil ?_
    exact s_retv (rs := [.tmp 4]) rfl (.tmp rfl (.nil)) (fun w' h' => ⟨by rw [ht2, hst]; rfl, h'.below⟩)

set_option maxRecDepth 20000 in
theorem c88 (w : World) (s : List UInt8) (hm : s.length ≤ 1000000) : Calls Tryz.prog 88 #[.string (bs s), .int .u8 0] w fun en w' => en = .returned (.string (bs (trimL s))) ∧ Below w.heap.size w w' := by
  refine enter (args := [_, _]) Tryz.func88 Tryz.ntmps88 rfl rfl (HS.refl w []) ?_
  refine s_seq ?_
  refine s_region ?_
  refine o_p (p_pure rfl) rfl ?_
  refine o_nil ?_
  refine s_seq ?_
  refine s_block ?_
  refine s_loopI (α := List UInt8) [0, 5, 6, 7, 8, 9, 10, 11, 12, 13, 14, 15] (fun t => [(0, .string (bs t))]) (fun _ => _) (fun t => t.length ≤ 1000000 ∧ trimL s = trimL t) (fun t => t.length) s ⟨hm, rfl⟩ aSx (fun w h => h) (fun t htt => ?_)
  obtain ⟨ht1, ht2⟩ := htt
  refine s_seq ?_
  refine s_seq ?_
  refine s_region ?_
  refine o_p (p_pure rfl) rfl ?_
  refine o_p (p_len_str rfl rfl Tryz.underlying9) rfl ?_
  refine o_p (p_pure rfl) rfl ?_
  refine o_p (p_pure rfl) rfl ?_
  refine o_and 5 8 13 _ _ rfl
    (by
      intro hg1
      have hs2 := hg1; try simp only [decide_eq_true_eq, decide_eq_false_iff_not, Bool.not_eq_true', Bool.not_eq_false', Bool.and_eq_true, Bool.or_eq_true, Bool.and_eq_false_iff, Bool.or_eq_false_iff, Bool.not_true, Bool.not_false] at hs2
      refine o_on 8 _ rfl rfl hg1 ?_
      refine o_p (p_pure rfl) rfl ?_
      refine o_on 8 _ rfl rfl hg1 ?_
      refine o_p (p_index_str rfl rfl rfl Tryz.underlying9 (0) (by omega) (by omega)) rfl ?_
      refine o_on 8 _ rfl rfl hg1 ?_
      refine o_p (p_pure rfl) rfl ?_
      refine o_on 8 _ rfl rfl hg1 ?_
      refine o_p (p_pure rfl) rfl ?_
      refine o_p (p_pickt rfl rfl hg1 rfl) rfl ?_
      refine o_nil ?_
      exact s_joinN 5 13 _ rfl rfl rfl (fun w h => by first | exact h | exact h.ent aEt))
    (by
      intro hg3
      have hs4 := hg3; try simp only [decide_eq_true_eq, decide_eq_false_iff_not, Bool.not_eq_true', Bool.not_eq_false', Bool.and_eq_true, Bool.or_eq_true, Bool.and_eq_false_iff, Bool.or_eq_false_iff, Bool.not_true, Bool.not_false] at hs4
      refine o_off 8 _ rfl rfl hg3 rfl ?_
      refine o_off 8 _ rfl rfl hg3 rfl ?_
      refine o_off 8 _ rfl rfl hg3 rfl ?_
      refine o_off 8 _ rfl rfl hg3 rfl ?_
      refine o_p (p_pickf rfl rfl hg3 rfl) rfl ?_
      refine o_nil ?_
      exact s_joinN 5 13 _ rfl rfl rfl (fun w h => by first | exact h | exact h.ent aEt)) ?_
  refine o_nil ?_
  refine s_cond rfl (fun h5 => ?_) (fun h5 => ?_)
  · try simp only [decide_eq_true_eq, decide_eq_false_iff_not, Bool.not_eq_true', Bool.not_eq_false', Bool.and_eq_true, Bool.or_eq_true, Bool.and_eq_false_iff, Bool.or_eq_false_iff, Bool.not_true, Bool.not_false] at h5
    have hq9 := h5
    have hz9 : t.getD (0) 0 = 0 := u8z.1 hq9.2
    have hst := trimL_zero (s := t) (by omega) hz9
    refine s_skip ?_
    refine s_block ?_
    refine s_region ?_
    refine o_p (p_pure rfl) rfl ?_
    refine o_p (p_slice_str_from 1 rfl rfl rfl Tryz.underlying9 rfl (by omega)) rfl ?_
    refine o_p (p_pure rfl) rfl ?_
    refine o_nil ?_
    refine s_blk ?_
    exact s_backI (t.drop 1) (by simp only [List.length_take, List.length_drop]; omega) ⟨by simp only [List.length_take, List.length_drop]; omega, by rw [ht2, hst]⟩ aSx (fun w h => h)
  · try simp only [decide_eq_true_eq, decide_eq_false_iff_not, Bool.not_eq_true', Bool.not_eq_false', Bool.and_eq_true, Bool.or_eq_true, Bool.and_eq_false_iff, Bool.or_eq_false_iff, Bool.not_true, Bool.not_false] at h5
    have hst : trimL t = t := by rcases Nat.eq_zero_or_pos t.length with h9 | h9; (rw [List.eq_nil_of_length_eq_zero h9]; rfl); exact trimL_stop h9 (fun h8 => by have hq := h5; rcases hq with hq | hq; omega; exact hq (u8z.2 h8))
    refine s_exit_to rfl ?_
    refine s_seq ?_
    refine s_region ?_
    refine o_p (p_pure rfl) rfl ?_
    refine o_p (p_pure rfl) rfl ?_
    refine o_nil ?_
    exact s_retv (rs := [.tmp 4]) rfl (.tmp rfl (.nil)) (fun w' h' => ⟨by rw [ht2, hst]; rfl, h'.below⟩)

theorem trimR_len (s : List UInt8) : (trimR s).length ≤ s.length := by
  unfold trimR
  rw [List.length_reverse]
  refine Nat.le_trans ?_ (Nat.le_of_eq List.length_reverse)
  exact (List.dropWhile_sublist _).length_le

set_option maxRecDepth 20000 in
theorem c64 (w : World) (s : List UInt8) (hm : s.length ≤ 1000000) : Calls Tryz.prog 64 #[.string (bs s), .string (bs [0])] w fun en w' => en = .returned (.string (bs (trimL (trimR s)))) ∧ Below w.heap.size w w' := by
  refine enter (args := [_, _]) Tryz.func64 Tryz.ntmps64 rfl rfl (HS.refl w []) ?_
  refine s_seq ?_
  refine s_region ?_
  refine o_p (p_pure rfl) rfl ?_
  refine o_nil ?_
  refine s_seq ?_
  refine s_seq ?_
  refine s_region ?_
  refine o_p (p_pure rfl) rfl ?_
  refine o_p (p_pure rfl) rfl ?_
  refine o_p (p_pure rfl) rfl ?_
  refine o_or 3 9 12 _ _ rfl
    (by
      intro hg1
      have hs2 := hg1; try simp only [decide_eq_true_eq, decide_eq_false_iff_not, Bool.not_eq_true', Bool.not_eq_false', Bool.and_eq_true, Bool.or_eq_true, Bool.and_eq_false_iff, Bool.or_eq_false_iff, Bool.not_true, Bool.not_false] at hs2
      refine o_on 9 _ rfl rfl hg1 ?_
      refine o_p (p_pure rfl) rfl ?_
      refine o_on 9 _ rfl rfl hg1 ?_
      refine o_p (p_pure rfl) rfl ?_
      refine o_p (p_pickf rfl rfl hg1 rfl) rfl ?_
      refine o_nil ?_
      exact s_joinN 3 12 _ rfl rfl rfl (fun w h => by first | exact h | exact h.ent aEt))
    (by
      intro hg3
      have hs4 := hg3; try simp only [decide_eq_true_eq, decide_eq_false_iff_not, Bool.not_eq_true', Bool.not_eq_false', Bool.and_eq_true, Bool.or_eq_true, Bool.and_eq_false_iff, Bool.or_eq_false_iff, Bool.not_true, Bool.not_false] at hs4
      refine o_off 9 _ rfl rfl hg3 rfl ?_
      refine o_off 9 _ rfl rfl hg3 rfl ?_
      refine o_p (p_pickt rfl rfl hg3 rfl) rfl ?_
      refine o_nil ?_
      exact s_joinN 3 12 _ rfl rfl rfl (fun w h => by first | exact h | exact h.ent aEt)) ?_
  refine o_nil ?_
  refine s_cond rfl (fun h5 => ?_) (fun h5 => ?_)
  · try simp only [decide_eq_true_eq, decide_eq_false_iff_not, Bool.not_eq_true', Bool.not_eq_false', Bool.and_eq_true, Bool.or_eq_true, Bool.and_eq_false_iff, Bool.or_eq_false_iff, Bool.not_true, Bool.not_false] at h5
    have hs9 : s = [] := by have hq := h5; simpa using hq
    subst hs9
    refine s_seq ?_
    refine s_region ?_
    refine o_p (p_pure rfl) rfl ?_
    refine o_p (p_pure rfl) rfl ?_
    refine o_nil ?_
    exact s_retv (rs := [.tmp 4]) rfl (.tmp rfl (.nil)) (fun w' h' => ⟨by rfl, h'.below⟩)
  · try simp only [decide_eq_true_eq, decide_eq_false_iff_not, Bool.not_eq_true', Bool.not_eq_false', Bool.and_eq_true, Bool.or_eq_true, Bool.and_eq_false_iff, Bool.or_eq_false_iff, Bool.not_true, Bool.not_false] at h5
    refine s_skip ?_
    refine s_seq ?_
    refine s_seq ?_
    refine s_region ?_
    refine o_p (p_pure rfl) rfl ?_
    refine o_p (p_len_str rfl rfl Tryz.underlying9) rfl ?_
    refine o_p (p_pure rfl) rfl ?_
    refine o_p (p_pure rfl) rfl ?_
    refine o_and 4 17 21 _ _ rfl
      (by
        intro hg6
        have hs7 := hg6; try simp only [decide_eq_true_eq, decide_eq_false_iff_not, Bool.not_eq_true', Bool.not_eq_false', Bool.and_eq_true, Bool.or_eq_true, Bool.and_eq_false_iff, Bool.or_eq_false_iff, Bool.not_true, Bool.not_false] at hs7
        refine o_on 17 _ rfl rfl hg6 ?_
        refine o_p (p_pure rfl) rfl ?_
        refine o_on 17 _ rfl rfl hg6 ?_
        refine o_p (p_index_str rfl rfl rfl Tryz.underlying9 (0) (by omega) (by omega)) rfl ?_
        refine o_on 17 _ rfl rfl hg6 ?_
        refine o_p (p_pure rfl) rfl ?_
        refine o_p (p_pickt rfl rfl hg6 rfl) rfl ?_
        refine o_nil ?_
        exact s_joinN 4 21 _ rfl rfl rfl (fun w h => by first | exact h | exact h.ent aEt))
      (by
        intro hg8
        have hs9 := hg8; try simp only [decide_eq_true_eq, decide_eq_false_iff_not, Bool.not_eq_true', Bool.not_eq_false', Bool.and_eq_true, Bool.or_eq_true, Bool.and_eq_false_iff, Bool.or_eq_false_iff, Bool.not_true, Bool.not_false] at hs9
        refine o_off 17 _ rfl rfl hg8 rfl ?_
        refine o_off 17 _ rfl rfl hg8 rfl ?_
        refine o_off 17 _ rfl rfl hg8 rfl ?_
        refine o_p (p_pickf rfl rfl hg8 rfl) rfl ?_
        refine o_nil ?_
        exact s_joinN 4 21 _ rfl rfl rfl (fun w h => by first | exact h | exact h.ent aEt)) ?_
    refine o_nil ?_
    refine s_cond rfl (fun h10 => ?_) (fun h10 => ?_)
    · try simp only [decide_eq_true_eq, decide_eq_false_iff_not, Bool.not_eq_true', Bool.not_eq_false', Bool.and_eq_true, Bool.or_eq_true, Bool.and_eq_false_iff, Bool.or_eq_false_iff, Bool.not_true, Bool.not_false] at h10
      refine s_seq ?_
      refine s_draw [] mixed ?_
      refine d_p 0 rfl (p_pure rfl) (by kernel_rfl) rfl rfl ?_
      refine d_p 1 rfl (p_pure rfl) (by kernel_rfl) rfl rfl ?_
      refine d_p 2 rfl (p_index_str rfl rfl rfl Tryz.underlying9 (0) (by omega) (by omega)) (by kernel_rfl) rfl rfl ?_
      refine d_q 3 [] rfl (q_call rfl fn_89 rfl (fun w1 h1 => c89 w1 s hm)) (by kernel_rfl) (by kernel_rfl) (by kernel_rfl) rfl ?_
      refine d_p 4 rfl (p_pure rfl) (by kernel_rfl) rfl rfl ?_
      refine d_p 5 rfl (p_index_str rfl rfl rfl Tryz.underlying9 (0) (by omega) (by omega)) (by kernel_rfl) rfl rfl ?_
      refine d_q 6 [] rfl (q_call rfl fn_88 rfl (fun w1 h1 => c88 w1 (trimR s) (by have := trimR_len s; omega))) (by kernel_rfl) (by kernel_rfl) (by kernel_rfl) rfl ?_
      refine d_p 7 rfl (p_pure rfl) (by kernel_rfl) rfl rfl ?_
      refine d_nil (by kernel_rfl) (fun w h => by first | exact h | exact h.ent aEt) ?_
      exact s_retv (rs := [.tmp 4]) rfl (.tmp rfl (.nil)) (fun w' h' => ⟨by rfl, h'.below⟩)
    · try simp only [decide_eq_true_eq, decide_eq_false_iff_not, Bool.not_eq_true', Bool.not_eq_false', Bool.and_eq_true, Bool.or_eq_true, Bool.and_eq_false_iff, Bool.or_eq_false_iff, Bool.not_true, Bool.not_false] at h10
      exfalso; have hq := h10; simp at hq

set_option maxRecDepth 20000 in
theorem c30 (w : World) (h : List UInt8) (hm : h.length ≤ 100000) (h16 : 16 ≤ h.length) : Calls Tryz.prog 30 #[.string (bs h)] w fun en w' => en = .returned (.bool (isHd h)) ∧ Below w.heap.size w w' := by
  have hl12 : (h.take 12).length ≤ 200000 := by rw [List.length_take]; omega
  refine enter (args := [_]) Tryz.func30 Tryz.ntmps30 rfl rfl (HS.refl w []) ?_
  refine s_seq ?_
  refine s_region ?_
  refine o_p (p_pure rfl) rfl ?_
  refine o_nil ?_
  refine s_seq ?_
  refine s_region ?_
  refine o_p (p_pure rfl) rfl ?_
  refine o_q (q_call rfl fn_59 rfl (fun w1 h1 => (Tryz.strings_HasPrefix (bs h) (bs signB) w1).mono fun e w2 hh => ⟨hh.1, by rw [hh.2]; exact Below.refl _ _⟩)) rfl ?_
  refine o_p (p_pure rfl) rfl ?_
  refine o_and 7 5 12 _ _ rfl
    (by
      intro hg1
      have hs2 := hg1; try simp only [decide_eq_true_eq, decide_eq_false_iff_not, Bool.not_eq_true', Bool.not_eq_false', Bool.and_eq_true, Bool.or_eq_true, Bool.and_eq_false_iff, Bool.or_eq_false_iff, Bool.not_true, Bool.not_false] at hs2
      refine o_on 5 _ rfl rfl hg1 ?_
      refine o_p (p_pure rfl) rfl ?_
      refine o_on 5 _ rfl rfl hg1 ?_
      refine o_p (p_slice_str_to 12 rfl rfl rfl Tryz.underlying9 rfl (by omega)) rfl ?_
      refine o_on 5 _ rfl rfl hg1 ?_
      refine o_q (q_call rfl fn_55 rfl (fun w1 h1 => c55 w1 (h.take 12) hl12)) rfl ?_
      refine o_on 5 _ rfl rfl hg1 ?_
      refine o_p (p_pure rfl) rfl ?_
      refine o_on 5 _ rfl rfl hg1 ?_
      refine o_q (q_call rfl fn_31 rfl (fun w1 h1 => c31 w1 h 12 (by omega) (by omega))) rfl ?_
      refine o_on 5 _ rfl rfl hg1 ?_
      refine o_p (p_pure rfl) rfl ?_
      refine o_p (p_pickt rfl rfl hg1 rfl) rfl ?_
      refine o_nil ?_
      exact s_joinN 7 12 _ rfl rfl rfl (fun w h => by first | exact h | exact h.ent aEt))
    (by
      intro hg3
      have hs4 := hg3; try simp only [decide_eq_true_eq, decide_eq_false_iff_not, Bool.not_eq_true', Bool.not_eq_false', Bool.and_eq_true, Bool.or_eq_true, Bool.and_eq_false_iff, Bool.or_eq_false_iff, Bool.not_true, Bool.not_false] at hs4
      refine o_off 5 _ rfl rfl hg3 rfl ?_
      refine o_off 5 _ rfl rfl hg3 rfl ?_
      refine o_off 5 _ rfl rfl hg3 rfl ?_
      refine o_off 5 _ rfl rfl hg3 rfl ?_
      refine o_off 5 _ rfl rfl hg3 rfl ?_
      refine o_off 5 _ rfl rfl hg3 rfl ?_
      refine o_p (p_pickf rfl rfl hg3 rfl) rfl ?_
      refine o_nil ?_
      exact s_joinN 7 12 _ rfl rfl rfl (fun w h => by first | exact h | exact h.ent aEt)) ?_
  refine o_p (p_pure rfl) rfl ?_
  refine o_nil ?_
  exact s_retv (rs := [.tmp 2]) rfl (.tmp rfl (.nil)) (fun w' h' => ⟨by unfold isHd; rw [← pre4]; rfl, h'.below⟩)

set_option maxRecDepth 20000 in
set_option maxHeartbeats 1000000 in
theorem c32 (w : World) (h : List UInt8) (p : Nat) (hm : h.length ≤ 100000) (hp : p ≤ 1000000000000) : Calls Tryz.prog 32 #[.string (bs h), .int .i64 (p : Int)] w fun en w' => en = .returned (.tuple #[.agg #[.int .i64 (itA h p).x.id, .string (bs (itA h p).x.by_)], .int .i64 (itA h p).n, .bool (itA h p).ok]) ∧ Below w.heap.size w w' := by
  have hz := at4_le h (p + 12)
  have hu9 := upT_le (at4 h (p + 12))
  have hbl : (bodyI h p).length ≤ 200000 := by unfold bodyI; rw [List.length_take, List.length_drop]; omega
  have hpl : (padI h p).length ≤ 1000000 := by unfold padI; rw [List.length_take, List.length_drop]; omega
  refine enter (args := [_, _]) Tryz.func32 Tryz.ntmps32 rfl rfl (HS.refl w []) ?_
  refine s_seq ?_
  refine s_region ?_
  refine o_h (h_alloc rfl zr_50) rfl (fun b1 _ => ?_)
  refine o_p (p_pure rfl) rfl ?_
  refine o_p (p_pure rfl) rfl ?_
  refine o_nil ?_
  refine s_seq ?_
  refine s_seq ?_
  refine s_region ?_
  refine o_p (p_pure rfl) rfl ?_
  refine o_p (p_pure rfl) rfl ?_
  refine o_p (p_len_str rfl rfl Tryz.underlying9) rfl ?_
  refine o_p (p_pure rfl) rfl ?_
  try (refine o_slot (i64w (by omega) (by omega)) ?_)
  refine o_q (q_call rfl fn_62 rfl (fun w1 h1 => c62 w1 _ _ _)) rfl ?_
  refine o_p (p_pure rfl) rfl ?_
  refine o_nil ?_
  refine s_cond rfl (fun h2 => ?_) (fun h2 => ?_)
  · try simp only [decide_eq_true_eq, decide_eq_false_iff_not, Bool.not_eq_true', Bool.not_eq_false', Bool.and_eq_true, Bool.or_eq_true, Bool.and_eq_false_iff, Bool.or_eq_false_iff, Bool.not_true, Bool.not_false] at h2
    have hno : shpI h p = false := by unfold shpI; rw [decide_eq_false (by have hq := h2; omega)]; rfl
    have hT : itA h p = ⟨⟨0, []⟩, 0, false⟩ := by unfold itA; rw [hno]; rfl
    refine s_seq ?_
    refine s_region ?_
    refine o_p (p_build (cs := [_, _]) rfl rfl pl_50 zr_50 rfl) rfl ?_
    refine o_h0 (h_store rfl rfl rfl sz_50 rfl aPt (by simp only [setMany_length, List.length_set, List.length_cons, List.length_nil, List.length_map]; omega) rfl) (fun _ _ => ?_)
    refine o_p (p_pure rfl) rfl ?_
    refine o_p (p_pure rfl) rfl ?_
    refine o_nil ?_
    exact s_retv (rs := [.cell 4 50, .tmp 5, .tmp 6]) rfl (.cell rfl sz_50 aPk rfl (.tmp rfl (.tmp rfl (.nil)))) (fun w' h' => ⟨by rw [hT]; rfl, h'.below⟩)
  · try simp only [decide_eq_true_eq, decide_eq_false_iff_not, Bool.not_eq_true', Bool.not_eq_false', Bool.and_eq_true, Bool.or_eq_true, Bool.and_eq_false_iff, Bool.or_eq_false_iff, Bool.not_true, Bool.not_false] at h2
    have hl16 : p + 16 ≤ h.length := by have hq := h2; omega
    refine s_skip ?_
    refine s_seq ?_
    refine s_region ?_
    refine o_p (p_pure rfl) rfl ?_
    refine o_p (p_pure rfl) rfl ?_
    refine o_p (p_pure rfl) rfl ?_
    try (refine o_slot (i64w (by omega) (by omega)) ?_)
    refine o_slot (show _ = Value.int .i64 ((p + 12 : Nat) : Int) from by first | rfl | (congr 1; omega)) ?_
    refine o_q (q_call rfl fn_31 rfl (fun w1 h1 => c31 w1 h (p + 12) (by omega) (by omega))) rfl ?_
    refine o_p (p_pure rfl) rfl ?_
    refine o_nil ?_
    refine s_seq ?_
    refine s_seq ?_
    refine s_region ?_
    refine o_p (p_pure rfl) rfl ?_
    refine o_p (p_pure rfl) rfl ?_
    refine o_p (p_pure rfl) rfl ?_
    try (refine o_slot (i64w (by omega) (by omega)) ?_)
    refine o_slot (show _ = Value.int .i64 ((p + 8 : Nat) : Int) from by first | rfl | (congr 1; omega)) ?_
    refine o_q (q_call rfl fn_31 rfl (fun w1 h1 => c31 w1 h (p + 8) (by omega) (by omega))) rfl ?_
    refine o_p (p_pure rfl) rfl ?_
    refine o_p (p_pure rfl) rfl ?_
    refine o_p (p_pure rfl) rfl ?_
    refine o_or 8 27 35 _ _ rfl
      (by
        intro hg3
        have hs4 := hg3; try simp only [decide_eq_true_eq, decide_eq_false_iff_not, Bool.not_eq_true', Bool.not_eq_false', Bool.and_eq_true, Bool.or_eq_true, Bool.and_eq_false_iff, Bool.or_eq_false_iff, Bool.not_true, Bool.not_false] at hs4
        refine o_on 27 _ rfl rfl hg3 ?_
        refine o_p (p_pure rfl) rfl ?_
        refine o_on 27 _ rfl rfl hg3 ?_
        refine o_p (p_pure rfl) rfl ?_
        refine o_on 27 _ rfl rfl hg3 ?_
        refine o_p (p_len_str rfl rfl Tryz.underlying9) rfl ?_
        refine o_on 27 _ rfl rfl hg3 ?_
        refine o_p (p_pure rfl) rfl ?_
        refine o_on 27 _ rfl rfl hg3 ?_
        refine o_p (p_pure rfl) rfl ?_
        try (refine o_slot (i64w (by omega) (by omega)) ?_)
        refine o_on 27 _ rfl rfl hg3 ?_
        refine o_q (q_call rfl fn_62 rfl (fun w1 h1 => c62 w1 _ _ _)) rfl ?_
        refine o_on 27 _ rfl rfl hg3 ?_
        refine o_p (p_pure rfl) rfl ?_
        refine o_p (p_pickf rfl rfl hg3 rfl) rfl ?_
        refine o_nil ?_
        exact s_joinN 8 35 _ rfl rfl rfl (fun w h => by first | exact h | exact h.ent aEt))
      (by
        intro hg5
        have hs6 := hg5; try simp only [decide_eq_true_eq, decide_eq_false_iff_not, Bool.not_eq_true', Bool.not_eq_false', Bool.and_eq_true, Bool.or_eq_true, Bool.and_eq_false_iff, Bool.or_eq_false_iff, Bool.not_true, Bool.not_false] at hs6
        refine o_off 27 _ rfl rfl hg5 rfl ?_
        refine o_off 27 _ rfl rfl hg5 rfl ?_
        refine o_off 27 _ rfl rfl hg5 rfl ?_
        refine o_off 27 _ rfl rfl hg5 rfl ?_
        refine o_off 27 _ rfl rfl hg5 rfl ?_
        refine o_off 27 _ rfl rfl hg5 rfl ?_
        refine o_off 27 _ rfl rfl hg5 rfl ?_
        refine o_p (p_pickt rfl rfl hg5 rfl) rfl ?_
        refine o_nil ?_
        exact s_joinN 8 35 _ rfl rfl rfl (fun w h => by first | exact h | exact h.ent aEt)) ?_
    refine o_p (p_pure rfl) rfl ?_
    refine o_or 8 36 44 _ _ rfl
      (by
        intro hg7
        have hs8 := hg7; try simp only [decide_eq_true_eq, decide_eq_false_iff_not, Bool.not_eq_true', Bool.not_eq_false', Bool.and_eq_true, Bool.or_eq_true, Bool.and_eq_false_iff, Bool.or_eq_false_iff, Bool.not_true, Bool.not_false] at hs8
        refine o_on 36 _ rfl rfl hg7 ?_
        refine o_p (p_pure rfl) rfl ?_
        refine o_on 36 _ rfl rfl hg7 ?_
        refine o_p (p_pure rfl) rfl ?_
        refine o_on 36 _ rfl rfl hg7 ?_
        refine o_q (q_call rfl fn_33 rfl (fun w1 h1 => c33 w1 (at4 h (p + 12)) (by omega))) rfl ?_
        refine o_on 36 _ rfl rfl hg7 ?_
        refine o_p (p_pure rfl) rfl ?_
        try (refine o_slot (i64w (by omega) (by omega)) ?_)
        refine o_on 36 _ rfl rfl hg7 ?_
        refine o_p (p_pure rfl) rfl ?_
        refine o_on 36 _ rfl rfl hg7 ?_
        refine o_p (p_len_str rfl rfl Tryz.underlying9) rfl ?_
        refine o_on 36 _ rfl rfl hg7 ?_
        refine o_p (p_pure rfl) rfl ?_
        refine o_p (p_pickf rfl rfl hg7 rfl) rfl ?_
        refine o_nil ?_
        exact s_joinN 8 44 _ rfl rfl rfl (fun w h => by first | exact h | exact h.ent aEt))
      (by
        intro hg9
        have hs10 := hg9; try simp only [decide_eq_true_eq, decide_eq_false_iff_not, Bool.not_eq_true', Bool.not_eq_false', Bool.and_eq_true, Bool.or_eq_true, Bool.and_eq_false_iff, Bool.or_eq_false_iff, Bool.not_true, Bool.not_false] at hs10
        refine o_off 36 _ rfl rfl hg9 rfl ?_
        refine o_off 36 _ rfl rfl hg9 rfl ?_
        refine o_off 36 _ rfl rfl hg9 rfl ?_
        refine o_off 36 _ rfl rfl hg9 rfl ?_
        refine o_off 36 _ rfl rfl hg9 rfl ?_
        refine o_off 36 _ rfl rfl hg9 rfl ?_
        refine o_off 36 _ rfl rfl hg9 rfl ?_
        refine o_p (p_pickt rfl rfl hg9 rfl) rfl ?_
        refine o_nil ?_
        exact s_joinN 8 44 _ rfl rfl rfl (fun w h => by first | exact h | exact h.ent aEt)) ?_
    refine o_nil ?_
    refine s_cond rfl (fun h11 => ?_) (fun h11 => ?_)
    · try simp only [decide_eq_true_eq, decide_eq_false_iff_not, Bool.not_eq_true', Bool.not_eq_false', Bool.and_eq_true, Bool.or_eq_true, Bool.and_eq_false_iff, Bool.or_eq_false_iff, Bool.not_true, Bool.not_false] at h11
      have hno : ¬ shpI h p = true := by intro h9; obtain ⟨_, k1, k2, k3⟩ := shpI_ok h9; have hu := upT_le (at4 h (p + 12)); have hq := h11; first | omega | (simp at hq; omega) | (rcases hq with (hq | hq) | hq <;> first | omega | exact hq k1)
      have hT : itA h p = ⟨⟨0, []⟩, 0, false⟩ := by unfold itA; rw [if_neg hno]
      refine s_seq ?_
      refine s_region ?_
      refine o_p (p_build (cs := [_, _]) rfl rfl pl_50 zr_50 rfl) rfl ?_
      refine o_h0 (h_store rfl rfl rfl sz_50 rfl aPt (by simp only [setMany_length, List.length_set, List.length_cons, List.length_nil, List.length_map]; omega) rfl) (fun _ _ => ?_)
      refine o_p (p_pure rfl) rfl ?_
      refine o_p (p_pure rfl) rfl ?_
      refine o_nil ?_
      exact s_retv (rs := [.cell 4 50, .tmp 5, .tmp 6]) rfl (.cell rfl sz_50 aPk rfl (.tmp rfl (.tmp rfl (.nil)))) (fun w' h' => ⟨by rw [hT]; rfl, h'.below⟩)
    · try simp only [decide_eq_true_eq, decide_eq_false_iff_not, Bool.not_eq_true', Bool.not_eq_false', Bool.and_eq_true, Bool.or_eq_true, Bool.and_eq_false_iff, Bool.or_eq_false_iff, Bool.not_true, Bool.not_false] at h11
      have hyes : shpI h p = true := by have hq := h11; unfold shpI; simp only [Bool.and_eq_true, decide_eq_true_eq]; first | omega | (simp at hq; omega) | (refine ⟨by omega, ?_, ?_, ?_⟩ <;> first | omega | exact hq.1.1)
      obtain ⟨_, k1, k2, k3⟩ := shpI_ok hyes
      have hu := upT_le (at4 h (p + 12))
      have hzn : (at4 h (p + 12)) = (((at4 h (p + 12)).toNat : Nat) : Int) := by omega
      have hT : itA h p = ⟨⟨at4 h (p + 4), bodyI h p⟩, at4 h (p + 12), allZ (padI h p) && decide (at4 h p = hashS (bodyI h p))⟩ := by unfold itA; rw [if_pos hyes]
      have hpn : upT (at4 h (p + 12)) = (((at4 h (p + 12)).toNat + padN (at4 h (p + 12)) : Nat) : Int) := by unfold padN; omega
      refine s_skip ?_
      refine s_seq ?_
      refine s_draw [13] mixed ?_
      refine d_p 0 rfl (p_pure rfl) (by kernel_rfl) rfl rfl ?_
      refine d_p 1 rfl (p_pure rfl) (by kernel_rfl) rfl rfl ?_
      refine d_p 2 rfl (p_pure rfl) (by kernel_rfl) rfl rfl ?_
      try (refine d_slot (i64w (by omega) (by omega)) ?_)
      refine d_slot (show _ = Value.int .i64 ((p + 4 : Nat) : Int) from by first | rfl | (congr 1; omega)) ?_
      refine d_q 3 [[]] rfl (q_call rfl fn_31 rfl (fun w1 h1 => c31 w1 h (p + 4) (by omega) (by omega))) (by kernel_rfl) (by kernel_rfl) (by kernel_rfl) rfl ?_
      refine d_p 4 rfl (p_pure rfl) (by kernel_rfl) rfl rfl ?_
      refine d_p 5 rfl (p_pure rfl) (by kernel_rfl) rfl rfl ?_
      refine d_p 6 rfl (p_pure rfl) (by kernel_rfl) rfl rfl ?_
      try (refine d_slot (i64w (by omega) (by omega)) ?_)
      refine d_slot (show _ = Value.int .i64 ((p + 16 : Nat) : Int) from by first | rfl | (congr 1; omega)) ?_
      refine d_p 7 rfl (p_pure rfl) (by kernel_rfl) rfl rfl ?_
      refine d_p 8 rfl (p_pure rfl) (by kernel_rfl) rfl rfl ?_
      refine d_p 9 rfl (p_pure rfl) (by kernel_rfl) rfl rfl ?_
      try (refine d_slot (i64w (by omega) (by omega)) ?_)
      refine d_p 10 rfl (p_slice_str _ _ (p + 16) (p + (at4 h (p + 12)).toNat) rfl rfl Tryz.underlying9 ⟨_, _, rfl, rfl⟩ ⟨_, _, rfl, (by omega)⟩ (by omega) (by omega)) (by kernel_rfl) rfl rfl ?_
      refine d_slot (show _ = Value.string (bs (bodyI h p)) from by rw [cutI]; unfold bodyI; congr 3; omega) ?_
      refine d_p 11 rfl (p_build (cs := [_, _]) rfl rfl pl_50 zr_50 rfl) (by kernel_rfl) rfl rfl ?_
      refine d_h 12 rfl (h_alloc rfl zr_50) (by kernel_rfl) (fun w h => h.ent aEt) rfl (fun b12 _ => ?_)
      refine d_base (fun w h => h.ent aEt) ?_
      refine d_h0 13 rfl (h_store rfl rfl rfl sz_50 rfl aPt (by simp only [setMany_length, List.length_set, List.length_cons, List.length_nil, List.length_map]; omega) rfl) (by kernel_rfl) (fun w h => h.ent aEt) (fun _ _ => ?_)
      refine d_turn [] (by kernel_rfl) ?_
      refine d_nil (by kernel_rfl) (fun w h => by first | exact h | exact h.ent aEt) ?_
      refine s_seq ?_
      refine s_weaken (L' := [(0, _), (1, _), (4, _), (5, _), (6, _), (7, _), (8, _)]) aSx (fun _ h => h) ?_
      refine s_region ?_
      refine o_p (p_pure rfl) rfl ?_
      refine o_p (p_pure rfl) rfl ?_
      refine o_p (p_pure rfl) rfl ?_
      refine o_p (p_pure rfl) rfl ?_
      try (refine o_slot (i64w (by omega) (by omega)) ?_)
      refine o_p (p_pure rfl) rfl ?_
      refine o_p (p_pure rfl) rfl ?_
      refine o_q (q_call rfl fn_33 rfl (fun w1 h1 => c33 w1 (at4 h (p + 12)) (by omega))) rfl ?_
      refine o_p (p_pure rfl) rfl ?_
      try (refine o_slot (i64w (by omega) (by omega)) ?_)
      refine o_p (p_slice_str _ _ (p + (at4 h (p + 12)).toNat) (p + ((at4 h (p + 12)).toNat + padN (at4 h (p + 12)))) rfl rfl Tryz.underlying9 ⟨_, _, rfl, (by omega)⟩ ⟨_, _, rfl, (by omega)⟩ (by omega) (by omega)) rfl ?_
      refine o_slot (show _ = Value.string (bs (padI h p)) from by rw [cutI]; unfold padI; congr 3; omega) ?_
      refine o_q (q_call rfl fn_64 rfl (fun w1 h1 => c64 w1 (padI h p) hpl)) rfl ?_
      refine o_p (p_pure rfl) rfl ?_
      refine o_nil ?_
      refine s_seq ?_
      refine s_draw [13] mixed ?_
      refine d_q 0 [[]] rfl (q_loadn rfl rfl sz_50 aPk rfl) (by kernel_rfl) (by kernel_rfl) (by kernel_rfl) rfl ?_
      refine d_p 1 rfl (p_pure rfl) (by kernel_rfl) rfl rfl ?_
      refine d_p 2 rfl (p_pure rfl) (by kernel_rfl) rfl rfl ?_
      refine d_p 3 rfl (p_pure rfl) (by kernel_rfl) rfl rfl ?_
      refine d_p 4 rfl (p_pure rfl) (by kernel_rfl) rfl rfl ?_
      apply d_split 72
      · exact rfl
      · intro hg13
        have hs14 := hg13; try simp only [decide_eq_true_eq, decide_eq_false_iff_not, Bool.not_eq_true', Bool.not_eq_false', Bool.and_eq_true, Bool.or_eq_true, Bool.and_eq_false_iff, Bool.or_eq_false_iff, Bool.not_true, Bool.not_false] at hs14
        refine d_pon 5 72 rfl rfl rfl hg13 (p_pure rfl) (by kernel_rfl) rfl rfl ?_
        refine d_pon 6 72 rfl rfl rfl hg13 (p_pure rfl) (by kernel_rfl) rfl rfl ?_
        refine d_qon 7 72 [[10]] rfl rfl rfl hg13 (q_call rfl fn_31 rfl (fun w1 h1 => c31 w1 h p (by omega) (by omega))) (by kernel_rfl) (by kernel_rfl) (by kernel_rfl) rfl ?_
        refine d_pon 8 72 rfl rfl rfl hg13 (p_fieldAddr rfl rfl fd_50_1 sz_9 rfl) (by kernel_rfl) rfl rfl ?_
        refine d_qon 9 72 [[10]] rfl rfl rfl hg13 (q_load rfl rfl sz_9 aPk rfl) (by kernel_rfl) (by kernel_rfl) (by kernel_rfl) rfl ?_
        refine d_qon 10 72 [[]] rfl rfl rfl hg13 (q_call rfl fn_56 rfl (fun w1 h1 => c56 w1 (bodyI h p) hbl)) (by kernel_rfl) (by kernel_rfl) (by kernel_rfl) rfl ?_
        refine d_pon 11 72 rfl rfl rfl hg13 (p_pure rfl) (by kernel_rfl) rfl rfl ?_
        refine d_p 12 rfl (p_pickt rfl rfl hg13 rfl) (by kernel_rfl) rfl rfl ?_
        refine d_h0 13 rfl (h_store rfl rfl rfl sz_50 rfl aPt (by simp only [setMany_length, List.length_set, List.length_cons, List.length_nil, List.length_map]; omega) rfl) (by kernel_rfl) (fun w h => h.ent aEt) (fun _ _ => ?_)
        refine d_turn [] (by kernel_rfl) ?_
        refine d_p 14 rfl (p_pure rfl) (by kernel_rfl) rfl rfl ?_
        refine d_p 15 rfl (p_pure rfl) (by kernel_rfl) rfl rfl ?_
        refine d_nil (by kernel_rfl) (fun w h => by first | exact h | exact h.ent aEt) ?_
        exact s_retv (rs := [.cell 4 50, .tmp 5, .tmp 6]) rfl (.cell rfl sz_50 aPk rfl (.tmp rfl (.tmp rfl (.nil)))) (fun w' h' => ⟨by rw [hT, ← show decide (trimL (trimR (padI h p)) = []) = allZ (padI h p) from by rw [Bool.eq_iff_iff, decide_eq_true_eq]; exact trim_all _, show decide (trimL (trimR (padI h p)) = []) = _ from hg13]; rfl, h'.below⟩)
      · intro hg15
        have hs16 := hg15; try simp only [decide_eq_true_eq, decide_eq_false_iff_not, Bool.not_eq_true', Bool.not_eq_false', Bool.and_eq_true, Bool.or_eq_true, Bool.and_eq_false_iff, Bool.or_eq_false_iff, Bool.not_true, Bool.not_false] at hs16
        refine d_off 5 72 rfl rfl rfl hg15 (by kernel_rfl) rfl rfl ?_
        refine d_off 6 72 rfl rfl rfl hg15 (by kernel_rfl) rfl rfl ?_
        refine d_off 7 72 rfl rfl rfl hg15 (by kernel_rfl) rfl rfl ?_
        refine d_off 8 72 rfl rfl rfl hg15 (by kernel_rfl) rfl rfl ?_
        refine d_off 9 72 rfl rfl rfl hg15 (by kernel_rfl) rfl rfl ?_
        refine d_off 10 72 rfl rfl rfl hg15 (by kernel_rfl) rfl rfl ?_
        refine d_off 11 72 rfl rfl rfl hg15 (by kernel_rfl) rfl rfl ?_
        refine d_p 12 rfl (p_pickf rfl rfl hg15 rfl) (by kernel_rfl) rfl rfl ?_
        refine d_h0 13 rfl (h_store rfl rfl rfl sz_50 rfl aPt (by simp only [setMany_length, List.length_set, List.length_cons, List.length_nil, List.length_map]; omega) rfl) (by kernel_rfl) (fun w h => h.ent aEt) (fun _ _ => ?_)
        refine d_turn [] (by kernel_rfl) ?_
        refine d_p 14 rfl (p_pure rfl) (by kernel_rfl) rfl rfl ?_
        refine d_p 15 rfl (p_pure rfl) (by kernel_rfl) rfl rfl ?_
        refine d_nil (by kernel_rfl) (fun w h => by first | exact h | exact h.ent aEt) ?_
        exact s_retv (rs := [.cell 4 50, .tmp 5, .tmp 6]) rfl (.cell rfl sz_50 aPk rfl (.tmp rfl (.tmp rfl (.nil)))) (fun w' h' => ⟨by rw [hT, ← show decide (trimL (trimR (padI h p)) = []) = allZ (padI h p) from by rw [Bool.eq_iff_iff, decide_eq_true_eq]; exact trim_all _, show decide (trimL (trimR (padI h p)) = []) = _ from hg15]; rfl, h'.below⟩)

end Go.Proofs

namespace Go.Proofs
open Go Go.RowKit Gx
set_option linter.unusedVariables false
set_option linter.unusedSimpArgs false
attribute [local irreducible] Go.Calls Gx.S Gx.O Gx.D Gx.OpP Gx.OpQ Gx.OpH

theorem fn_28 : isFn Tryz.prog 28 = true := by kernel_rfl
theorem fn_29 : isFn Tryz.prog 29 = true := by kernel_rfl
theorem fn_30 : isFn Tryz.prog 30 = true := by kernel_rfl
theorem fn_32 : isFn Tryz.prog 32 = true := by kernel_rfl


attribute [local irreducible] Gx.h1S Gx.h2S Gx.inS Gx.inB Gx.inL Gx.itA Gx.isHd Gx.stoE Gx.upT Gx.at4 Gx.strE

set_option maxRecDepth 20000 in
set_option maxHeartbeats 4000000 in
theorem c9 (w : World) (s : List UInt8) (hm : s.length ≤ 100000) : Calls Tryz.prog 9 #[.string (bs s)] w fun en w' => ∃ g : (Option Addr × Nat) × (Option Addr × Nat), en = .returned (.tuple #[.agg #[.int .i64 (inS s).nx, .slice g.1.1 (inS s).l.length g.1.2], .slice g.2.1 (inS s).dm.length g.2.2, .int .i64 (inS s).e]) ∧ True ∧ HS w [] [.own (.slice g.1.1 (inS s).l.length g.1.2) 50 2 (inS s).l.length ((inS s).l.flatMap SItm.vals), .own (.slice g.2.1 (inS s).dm.length g.2.2) 3 1 (inS s).dm.length ((inS s).dm.map nv)] w' := by
  refine enter (args := [_]) Tryz.func9 Tryz.ntmps9 rfl rfl (HS.refl w []) ?_
  refine s_seq ?_
  refine s_region ?_
  refine o_h (h_alloc rfl zr_24) rfl (fun b1 _ => ?_)
  refine o_p (p_pure rfl) rfl ?_
  refine o_p (p_pure rfl) rfl ?_
  refine o_nil ?_
  refine s_seq ?_
  refine s_seq ?_
  refine s_region ?_
  refine o_p (p_pure rfl) rfl ?_
  refine o_q (q_call rfl fn_28 rfl (fun w1 h1 => c28 w1 s (by omega))) rfl ?_
  refine o_p (p_pure rfl) rfl ?_
  refine o_nil ?_
  refine s_seq ?_
  refine s_region ?_
  refine o_p (p_pure rfl) rfl ?_
  refine o_p (p_pure rfl) rfl ?_
  refine o_nil ?_
  refine s_cond rfl (fun h2 => ?_) (fun h2 => ?_)
  · try simp only [decide_eq_true_eq, decide_eq_false_iff_not, Bool.not_eq_true', Bool.not_eq_false', Bool.and_eq_true, Bool.or_eq_true, Bool.and_eq_false_iff, Bool.or_eq_false_iff, Bool.not_true, Bool.not_false] at h2
    have h0 : ¬ strE s = 0 := h2
    have hT := inS_0 h0
    refine s_seq ?_
    refine s_region ?_
    refine o_p (p_build (cs := [_, _]) rfl rfl pl_24 zr_24 rfl) rfl ?_
    refine o_p (p_pure rfl) rfl ?_
    refine o_h0 (h_store rfl rfl rfl sz_24 rfl aPt (by simp only [setMany_length, List.length_set, List.length_cons, List.length_nil, List.length_map]; omega) rfl) (fun _ _ => ?_)
    refine o_p (p_pure rfl) rfl ?_
    refine o_p (p_pure rfl) rfl ?_
    refine o_nil ?_
    exact s_retv (rs := [.cell 2 24, .tmp 3, .tmp 4]) rfl (.cell rfl sz_24 aPk rfl (.tmp rfl (.tmp rfl (.nil)))) (fun w' h' => ⟨((none, 0), (none, 0)), by rw [hT]; rfl, trivial, by rw [hT]; exact ((h'.own_nil 50 2).own_nil 3 1).ent aEt⟩)
  · try simp only [decide_eq_true_eq, decide_eq_false_iff_not, Bool.not_eq_true', Bool.not_eq_false', Bool.and_eq_true, Bool.or_eq_true, Bool.and_eq_false_iff, Bool.or_eq_false_iff, Bool.not_true, Bool.not_false] at h2
    have h0 : strE s = 0 := h2
    obtain ⟨hs1, hs2, hs3⟩ := strE_ok h0
    have hl1 := h1S_len (s := s) (by omega)
    have hl2 := h2S_len s
    refine s_skip ?_
    refine s_seq ?_
    refine s_region ?_
    refine o_p (p_pure rfl) rfl ?_
    refine o_q (q_call rfl fn_29 rfl (fun w1 h1 => c29 w1 s (by omega) (by omega))) rfl ?_
    refine o_h (h_alloc rfl zr_65) rfl (fun b3 _ => ?_)
    refine o_h0 (h_store rfl rfl rfl sz_65 rfl aPt (by simp only [setMany_length, List.length_set, List.length_cons, List.length_nil, List.length_map]; omega) rfl) (fun _ _ => ?_)
    refine o_nil ?_
    refine s_seq ?_
    refine s_region ?_
    refine o_p (p_pure rfl) rfl ?_
    try (refine o_class (C' := HS w [] [.own (.slice none 0 0) 3 1 0 [], .blk b3 65 2 [.string (bs (h1S s)), .string (bs (h2S s))], .blk b1 24 2 [.int .i64 0, .slice none 0 0]]) (fun w h => (h.own_nil 3 1).ent aEt) ?_)
    refine o_nil ?_
    refine s_seq ?_
    refine s_region ?_
    refine o_p (p_indexAddr_arr rfl rfl rfl ar_65 (0) (by omega) (by omega)) rfl ?_
    refine o_q (q_load rfl rfl sz_9 aPk rfl) rfl ?_
    refine o_p (p_pure rfl) rfl ?_
    refine o_nil ?_
    refine s_seq ?_
    refine s_seq ?_
    refine s_region ?_
    refine o_p (p_pure rfl) rfl ?_
    refine o_q (q_call rfl fn_30 rfl (fun w1 h1 => c30 w1 (h1S s) (by omega) (by omega))) rfl ?_
    refine o_p (p_pure rfl) rfl ?_
    refine o_nil ?_
    refine s_weaken (L' := [(2, _), (3, _), (4, _), (6, _), (7, _), (8, _), (27, _)]) aSx (fun _ h => h) ?_
    refine s_cutI (α := List UInt8 × List Int × (Option Addr × Nat)) [3, 4, 7, 8, 28, 29, 30, 31, 32, 33, 34, 35, 36] (fun x => [(8, .string (bs x.1)), (7, .slice x.2.2.1 x.2.1.length x.2.2.2)]) (fun x => HS w [] [.own (.slice x.2.2.1 x.2.1.length x.2.2.2) 3 1 x.2.1.length (x.2.1.map nv), .blk b3 65 2 [.string (bs (h1S s)), .string (bs (h2S s))], .blk b1 24 2 [.int .i64 0, .slice none 0 0]]) (fun x => inS s = inB (h1S s) (h2S s) x.1 x.2.1 ∧ x.1.length = (h1S s).length ∧ x.2.1.length ≤ 1) ?_ ?_
    · skip
      refine s_cond rfl (fun h4 => ?_) (fun h4 => ?_)
      · try simp only [decide_eq_true_eq, decide_eq_false_iff_not, Bool.not_eq_true', Bool.not_eq_false', Bool.and_eq_true, Bool.or_eq_true, Bool.and_eq_false_iff, Bool.or_eq_false_iff, Bool.not_true, Bool.not_false] at h4
        have hd1 : ¬ isHd (h1S s) = true := by have hq := h4; simpa using hq
        refine s_seq ?_
        refine s_seq ?_
        refine s_region ?_
        refine o_p (p_indexAddr_arr rfl rfl rfl ar_65 (1) (by omega) (by omega)) rfl ?_
        refine o_q (q_load rfl rfl sz_9 aPk rfl) rfl ?_
        refine o_p (p_pure rfl) rfl ?_
        refine o_nil ?_
        refine s_seq ?_
        refine s_region ?_
        refine o_p (p_pure rfl) rfl ?_
        refine o_q (q_call rfl fn_30 rfl (fun w1 h1 => c30 w1 (h2S s) (by omega) (by omega))) rfl ?_
        refine o_p (p_pure rfl) rfl ?_
        refine o_nil ?_
        refine s_cond rfl (fun h5 => ?_) (fun h5 => ?_)
        · try simp only [decide_eq_true_eq, decide_eq_false_iff_not, Bool.not_eq_true', Bool.not_eq_false', Bool.and_eq_true, Bool.or_eq_true, Bool.and_eq_false_iff, Bool.or_eq_false_iff, Bool.not_true, Bool.not_false] at h5
          have hd2 : ¬ isHd (h2S s) = true := by have hq := h5; simpa using hq
          have hT := inS_3 h0 hd1 hd2
          refine s_seq ?_
          refine s_region ?_
          refine o_p (p_build (cs := [_, _]) rfl rfl pl_24 zr_24 rfl) rfl ?_
          refine o_h0 (h_store rfl rfl rfl sz_24 rfl aPt (by simp only [setMany_length, List.length_set, List.length_cons, List.length_nil, List.length_map]; omega) rfl) (fun _ _ => ?_)
          refine o_p (p_pure rfl) rfl ?_
          refine o_p (p_pure rfl) rfl ?_
          refine o_nil ?_
          exact s_retv (rs := [.cell 2 24, .tmp 3, .tmp 4]) rfl (.cell rfl sz_24 aPk rfl (.tmp rfl (.tmp rfl (.nil)))) (fun w' h' => ⟨((none, 0), (none, 0)), by rw [hT]; rfl, trivial, by rw [hT]; exact ((h'.own_nil 50 2).own_nil 3 1).ent aEt⟩)
        · try simp only [decide_eq_true_eq, decide_eq_false_iff_not, Bool.not_eq_true', Bool.not_eq_false', Bool.and_eq_true, Bool.or_eq_true, Bool.and_eq_false_iff, Bool.or_eq_false_iff, Bool.not_true, Bool.not_false] at h5
          have hd2 : isHd (h2S s) = true := by have hq := h5; simpa using hq
          refine s_skip ?_
          refine s_region ?_
          refine o_p (p_pure rfl) rfl ?_
          refine o_h (h_buildSlice (cs := [_]) rfl rfl sl_31 zr_3 rfl rfl rfl) rfl (fun b6 _ => ?_)
          refine o_h (h_appendS _ rfl rfl rfl sl_31 Tryz.underlying31 zr_3 rfl aPk (src_blk aPk) rfl (by intro u hu; simp only [List.mem_cons, List.mem_nil_iff, or_false] at hu; subst hu; rfl) (by omega) (by simp only [maxLen]; omega)) rfl (fun b7 _ => ?_)
          refine o_p (p_pure rfl) rfl ?_
          refine o_nil ?_
          exact s_joinI ((h2S s), [-1], b7) ⟨inS_2 h0 hd1 hd2, by rw [hl1, hl2], Nat.le_refl _⟩ aSx (fun w h => h.ent aEt)
      · try simp only [decide_eq_true_eq, decide_eq_false_iff_not, Bool.not_eq_true', Bool.not_eq_false', Bool.and_eq_true, Bool.or_eq_true, Bool.and_eq_false_iff, Bool.or_eq_false_iff, Bool.not_true, Bool.not_false] at h4
        have hd1 : isHd (h1S s) = true := by have hq := h4; simpa using hq
        refine s_skip ?_
        exact s_joinI ((h1S s), [], (none, 0)) ⟨inS_1 h0 hd1, rfl, Nat.zero_le _⟩ aSx (fun w h => h.ent aEt)
    · intro x hx
      obtain ⟨hx1, hx2, hx3⟩ := hx
      refine s_seq ?_
      refine s_region ?_
      refine o_p (p_pure rfl) rfl ?_
      refine o_q (q_call rfl fn_31 rfl (fun w1 h1 => c31 w1 x.1 4 (by omega) (by omega))) rfl ?_
      refine o_p (p_build (cs := [_, _]) rfl rfl pl_24 zr_24 rfl) rfl ?_
      refine o_h (h_alloc rfl zr_24) rfl (fun b8 _ => ?_)
      refine o_h0 (h_store rfl rfl rfl sz_24 rfl aPt (by simp only [setMany_length, List.length_set, List.length_cons, List.length_nil, List.length_map]; omega) rfl) (fun _ _ => ?_)
      refine o_nil ?_
      refine s_seq ?_
      refine s_seq ?_
      refine s_region ?_
      refine o_p (p_pure rfl) rfl ?_
      refine o_q (q_call rfl fn_31 rfl (fun w1 h1 => c31 w1 x.1 8 (by omega) (by omega))) rfl ?_
      refine o_p (p_pure rfl) rfl ?_
      refine o_p (p_len_str rfl rfl Tryz.underlying9) rfl ?_
      refine o_p (p_pure rfl) rfl ?_
      refine o_nil ?_
      refine s_cond rfl (fun h9 => ?_) (fun h9 => ?_)
      · try simp only [decide_eq_true_eq, decide_eq_false_iff_not, Bool.not_eq_true', Bool.not_eq_false', Bool.and_eq_true, Bool.or_eq_true, Bool.and_eq_false_iff, Bool.or_eq_false_iff, Bool.not_true, Bool.not_false] at h9
        have h8 : ¬ at4 x.1 8 = (h1S s).length := by have hq := h9; rw [hx2] at hq; exact hq
        have hT : inS s = inE 3 := hx1.trans (inB_form h8)
        refine s_seq ?_
        refine s_region ?_
        refine o_p (p_build (cs := [_, _]) rfl rfl pl_24 zr_24 rfl) rfl ?_
        refine o_h0 (h_store rfl rfl rfl sz_24 rfl aPt (by simp only [setMany_length, List.length_set, List.length_cons, List.length_nil, List.length_map]; omega) rfl) (fun _ _ => ?_)
        refine o_p (p_pure rfl) rfl ?_
        refine o_p (p_pure rfl) rfl ?_
        refine o_nil ?_
        exact s_retv (rs := [.cell 2 24, .tmp 3, .tmp 4]) rfl (.cell rfl sz_24 aPk rfl (.tmp rfl (.tmp rfl (.nil)))) (fun w' h' => ⟨((none, 0), (none, 0)), by rw [hT]; rfl, trivial, by rw [hT]; exact ((h'.own_nil 50 2).own_nil 3 1).ent aEt⟩)
      · try simp only [decide_eq_true_eq, decide_eq_false_iff_not, Bool.not_eq_true', Bool.not_eq_false', Bool.and_eq_true, Bool.or_eq_true, Bool.and_eq_false_iff, Bool.or_eq_false_iff, Bool.not_true, Bool.not_false] at h9
        have h8 : at4 x.1 8 = (h1S s).length := by have hq := h9; rw [hx2] at hq; exact hq
        refine s_skip ?_
        refine s_seq ?_
        refine s_seq ?_
        refine s_region ?_
        refine o_p (p_pure rfl) rfl ?_
        refine o_nil ?_
        refine s_block ?_
        refine s_loopI (α := Nat × Nat × List SItm × List Int × (Option Addr × Nat) × (Option Addr × Nat)) [3, 4, 7, 10, 11, 12, 13, 46, 47, 48, 49, 50, 51, 52, 53, 54, 55, 56, 57, 58, 59, 60, 61, 62, 63, 64, 65, 66, 67, 68, 69, 70, 71, 72, 73, 74, 75, 76, 77, 78, 79, 80, 81, 82, 83, 84, 85, 86] (fun y => [(10, .int .i64 (y.2.1 : Int)), (7, .slice y.2.2.2.2.2.1 y.2.2.2.1.length y.2.2.2.2.2.2)]) (fun y => HS w [] [.blk b8 24 2 [.int .i64 (at4 x.1 4), .slice y.2.2.2.2.1.1 y.2.2.1.length y.2.2.2.2.1.2], .own (.slice y.2.2.2.2.1.1 y.2.2.1.length y.2.2.2.2.1.2) 50 2 y.2.2.1.length (y.2.2.1.flatMap SItm.vals), .own (.slice y.2.2.2.2.2.1 y.2.2.2.1.length y.2.2.2.2.2.2) 3 1 y.2.2.2.1.length (y.2.2.2.1.map nv), .blk b3 65 2 [.string (bs (h1S s)), .string (bs (h2S s))], .blk b1 24 2 [.int .i64 0, .slice none 0 0]]) (fun y => (y.2.1 ≤ (h1S s).length ∧ (h1S s).length - y.2.1 ≤ y.1) ∧ inL (h1S s) (h2S s) (h1S s).length 16 [] x.2.1 = inL (h1S s) (h2S s) y.1 y.2.1 y.2.2.1 y.2.2.2.1 ∧ y.2.2.1.length ≤ y.2.1 ∧ y.2.2.2.1.length ≤ y.2.1 ∧ ∀ q ∈ y.2.2.1, q.by_.length ≤ 100000) (fun y => (h1S s).length - y.2.1) ((h1S s).length, 16, [], x.2.1, (none, 0), x.2.2) ⟨by (try simp only []); omega, rfl, Nat.zero_le _, by (try simp only []); omega, fun q hq => by cases hq⟩ aSx (fun w h => (h.own_nil 50 2).ent aEt) (fun ⟨ff, p, l, dm, gl, gd⟩ hy => ?_)
        dsimp only
        obtain ⟨⟨hk0, hk1⟩, hk2, hk3, hk4, hk5⟩ := hy
        simp only [] at hk0 hk1 hk2 hk3 hk4 hk5
        refine s_seq ?_
        refine s_seq ?_
        refine s_region ?_
        refine o_p (p_pure rfl) rfl ?_
        refine o_p (p_pure rfl) rfl ?_
        refine o_p (p_len_str rfl rfl Tryz.underlying9) rfl ?_
        refine o_p (p_pure rfl) rfl ?_
        refine o_nil ?_
        refine s_cond rfl (fun h10 => ?_) (fun h10 => ?_)
        · try simp only [decide_eq_true_eq, decide_eq_false_iff_not, Bool.not_eq_true', Bool.not_eq_false', Bool.and_eq_true, Bool.or_eq_true, Bool.and_eq_false_iff, Bool.or_eq_false_iff, Bool.not_true, Bool.not_false] at h10
          have hk : p < (h1S s).length := by omega
          obtain ⟨f, rfl⟩ : ∃ f, ff = f + 1 := ⟨ff - 1, by omega⟩
          refine s_skip ?_
          refine s_block ?_
          refine s_seq ?_
          refine s_region ?_
          refine o_p (p_indexAddr_arr rfl rfl rfl ar_65 (0) (by omega) (by omega)) rfl ?_
          refine o_q (q_load rfl rfl sz_9 aPk rfl) rfl ?_
          refine o_p (p_pure rfl) rfl ?_
          refine o_q (q_call rfl fn_32 rfl (fun w1 h1 => c32 w1 (h1S s) p (by omega) (by omega))) rfl ?_
          refine o_p (p_pure rfl) rfl ?_
          refine o_p (p_pure rfl) rfl ?_
          refine o_p (p_pure rfl) rfl ?_
          refine o_p (p_pure rfl) rfl ?_
          refine o_h (h_alloc rfl zr_50) rfl (fun b11 _ => ?_)
          refine o_h0 (h_store rfl rfl rfl sz_50 rfl aPt (by simp only [setMany_length, List.length_set, List.length_cons, List.length_nil, List.length_map]; omega) rfl) (fun _ _ => ?_)
          refine o_p (p_pure rfl) rfl ?_
          refine o_p (p_pure rfl) rfl ?_
          refine o_nil ?_
          refine s_seq ?_
          refine s_seq ?_
          refine s_weaken (L' := [(2, _), (6, _), (7, _), (8, _), (9, _), (10, _), (11, _), (12, _), (13, _), (27, _), (37, _), (38, _), (39, _), (40, _), (41, _), (42, _), (43, _), (44, _)]) aSx (fun _ h => h) ?_
          refine s_region ?_
          refine o_p (p_pure rfl) rfl ?_
          refine o_p (p_pure rfl) rfl ?_
          refine o_nil ?_
          refine s_cutI (α := ItR × List Int × (Option Addr × Nat)) [3, 4, 7, 12, 13, 60, 61, 62, 63, 64, 65, 66, 67, 68, 69, 70, 71, 72, 73, 74, 75, 76] (fun z => [(12, .int .i64 z.1.n), (13, .bool true), (7, .slice z.2.2.1 z.2.1.length z.2.2.2)]) (fun z => HS w [] [.blk b11 50 2 [.int .i64 z.1.x.id, .string (bs z.1.x.by_)], .blk b8 24 2 [.int .i64 (at4 x.1 4), .slice gl.1 l.length gl.2], .own (.slice gl.1 l.length gl.2) 50 2 l.length (l.flatMap SItm.vals), .own (.slice z.2.2.1 z.2.1.length z.2.2.2) 3 1 z.2.1.length (z.2.1.map nv), .blk b3 65 2 [.string (bs (h1S s)), .string (bs (h2S s))], .blk b1 24 2 [.int .i64 0, .slice none 0 0]]) (fun z => Took (h1S s) (h2S s) f p l dm z.1 z.2.1) ?_ ?_
          · skip
            refine s_cond rfl (fun h12 => ?_) (fun h12 => ?_)
            · try simp only [decide_eq_true_eq, decide_eq_false_iff_not, Bool.not_eq_true', Bool.not_eq_false', Bool.and_eq_true, Bool.or_eq_true, Bool.and_eq_false_iff, Bool.or_eq_false_iff, Bool.not_true, Bool.not_false] at h12
              have ho1 : ¬ (itA (h1S s) p).ok = true := by have hq := h12; simpa using hq
              refine s_seq ?_
              refine s_seq ?_
              refine s_region ?_
              refine o_p (p_indexAddr_arr rfl rfl rfl ar_65 (1) (by omega) (by omega)) rfl ?_
              refine o_q (q_load rfl rfl sz_9 aPk rfl) rfl ?_
              refine o_p (p_pure rfl) rfl ?_
              refine o_q (q_call rfl fn_32 rfl (fun w1 h1 => c32 w1 (h2S s) p (by omega) (by omega))) rfl ?_
              refine o_p (p_pure rfl) rfl ?_
              refine o_p (p_pure rfl) rfl ?_
              refine o_p (p_pure rfl) rfl ?_
              refine o_p (p_pure rfl) rfl ?_
              refine o_h0 (h_store rfl rfl rfl sz_50 rfl aPt (by simp only [setMany_length, List.length_set, List.length_cons, List.length_nil, List.length_map]; omega) rfl) (fun _ _ => ?_)
              refine o_p (p_pure rfl) rfl ?_
              refine o_p (p_pure rfl) rfl ?_
              refine o_nil ?_
              refine s_seq ?_
              refine s_region ?_
              refine o_p (p_pure rfl) rfl ?_
              refine o_p (p_pure rfl) rfl ?_
              refine o_nil ?_
              refine s_cond rfl (fun h13 => ?_) (fun h13 => ?_)
              · try simp only [decide_eq_true_eq, decide_eq_false_iff_not, Bool.not_eq_true', Bool.not_eq_false', Bool.and_eq_true, Bool.or_eq_true, Bool.and_eq_false_iff, Bool.or_eq_false_iff, Bool.not_true, Bool.not_false] at h13
                have ho2 : ¬ (itA (h2S s) p).ok = true := by have hq := h13; simpa using hq
                have hT : inS s = inE 31 := hx1.trans (inB_none h8 (hk2.trans (inL_3 hk ho1 ho2)))
                refine s_seq ?_
                refine s_weaken (L' := [(2, _), (6, _), (7, _), (8, _), (9, _), (10, _), (11, _), (12, _), (13, _), (27, _), (37, _), (38, _), (39, _), (40, _), (41, _), (42, _), (43, _), (44, _), (58, _), (59, _)]) aSx (fun _ h => h) ?_
                refine s_region ?_
                refine o_p (p_build (cs := [_, _]) rfl rfl pl_24 zr_24 rfl) rfl ?_
                refine o_h0 (h_store rfl rfl rfl sz_24 rfl aPt (by simp only [setMany_length, List.length_set, List.length_cons, List.length_nil, List.length_map]; omega) rfl) (fun _ _ => ?_)
                refine o_p (p_pure rfl) rfl ?_
                refine o_p (p_pure rfl) rfl ?_
                refine o_nil ?_
                exact s_retv (rs := [.cell 2 24, .tmp 3, .tmp 4]) rfl (.cell rfl sz_24 aPk rfl (.tmp rfl (.tmp rfl (.nil)))) (fun w' h' => ⟨((none, 0), (none, 0)), by rw [hT]; rfl, trivial, by rw [hT]; exact ((h'.own_nil 50 2).own_nil 3 1).ent aEt⟩)
              · try simp only [decide_eq_true_eq, decide_eq_false_iff_not, Bool.not_eq_true', Bool.not_eq_false', Bool.and_eq_true, Bool.or_eq_true, Bool.and_eq_false_iff, Bool.or_eq_false_iff, Bool.not_true, Bool.not_false] at h13
                have ho2 : (itA (h2S s) p).ok = true := by have hq := h13; simpa using hq
                refine s_skip ?_
                refine s_weaken (L' := [(2, _), (6, _), (7, _), (8, _), (9, _), (10, _), (11, _), (12, _), (13, _), (27, _), (37, _), (38, _), (39, _), (40, _), (41, _), (42, _), (43, _), (44, _), (58, _), (59, _)]) aSx (fun _ h => h) ?_
                refine s_region ?_
                refine o_p (p_pure rfl) rfl ?_
                refine o_p (p_fieldAddr rfl rfl fd_24_1 sz_22 rfl) rfl ?_
                refine o_q (q_load rfl rfl sz_22 aPk rfl) rfl ?_
                refine o_p (p_len_slice rfl rfl Tryz.underlying22) rfl ?_
                refine o_h (h_buildSlice (cs := [_]) rfl rfl sl_31 zr_3 rfl rfl rfl) rfl (fun b14 _ => ?_)
                refine o_h (h_appendS [_] rfl rfl rfl sl_31 Tryz.underlying31 zr_3 rfl aPk (src_blk aPk) rfl (by intro u hu; simp only [List.mem_cons, List.mem_nil_iff, or_false] at hu; subst hu; rfl) (by omega) (by simp only [maxLen]; omega)) rfl (fun b15 _ => ?_)
                refine o_p (p_pure rfl) rfl ?_
                refine o_nil ?_
                exact s_joinI (itA (h2S s) p, dm ++ [(l.length : Int)], b15) (took_2 hk (by omega) ho1 ho2) (by dsimp only; rw [ho2, List.length_append]; exact aSx) (fun w h => by dsimp only; rw [List.length_append, List.map_append]; exact h.ent aEt)
            · try simp only [decide_eq_true_eq, decide_eq_false_iff_not, Bool.not_eq_true', Bool.not_eq_false', Bool.and_eq_true, Bool.or_eq_true, Bool.and_eq_false_iff, Bool.or_eq_false_iff, Bool.not_true, Bool.not_false] at h12
              have ho1 : (itA (h1S s) p).ok = true := by have hq := h12; simpa using hq
              refine s_skip ?_
              exact s_joinI (itA (h1S s) p, dm, gd) (took_1 hk ho1) (by dsimp only; rw [ho1]; exact aSx) (fun w h => h.ent aEt)
          · intro z hz
            obtain ⟨ht1, ht2, ht3, ht4, ht5⟩ := hz
            have hu9 := upT_le z.1.n
            refine s_seq ?_
            refine s_region ?_
            refine o_p (p_fieldAddr rfl rfl fd_24_1 sz_22 rfl) rfl ?_
            refine o_q (q_load rfl rfl sz_22 aPk rfl) rfl ?_
            refine o_q (q_loadn rfl rfl sz_50 aPk rfl) rfl ?_
            refine o_h (h_buildSlice (cs := [_, _]) rfl rfl sl_22 zr_50 rfl rfl rfl) rfl (fun b16 _ => ?_)
            refine o_h (h_appendS [_, _] rfl rfl rfl sl_22 Tryz.underlying22 zr_50 rfl aPk (src_blk aPk) rfl (sv1 z.1.x) (by omega) (by simp only [maxLen]; omega)) rfl (fun b17 _ => ?_)
            refine o_p (p_fieldAddr rfl rfl fd_24_1 sz_22 rfl) rfl ?_
            refine o_h0 (h_store rfl rfl rfl sz_22 rfl aPt (by simp only [setMany_length, List.length_set, List.length_cons, List.length_nil, List.length_map]; omega) rfl) (fun _ _ => ?_)
            refine o_nil ?_
            refine s_region ?_
            refine o_p (p_pure rfl) rfl ?_
            refine o_p (p_pure rfl) rfl ?_
            refine o_q (q_call rfl fn_33 rfl (fun w1 h1 => c33 w1 z.1.n (by omega))) rfl ?_
            refine o_p (p_pure rfl) rfl ?_
            try (refine o_slot (i64w (by omega) (by omega)) ?_)
            refine o_p (p_pure rfl) rfl ?_
            refine o_nil ?_
            refine s_blk ?_
            exact s_backI (f, p + (upT z.1.n).toNat, l ++ [z.1.x], z.2.1, b17, z.2.2) (by (try simp only []); omega) ⟨by (try simp only []); omega, by simp only []; rw [hk2]; exact ht1, by simp only [List.length_append, List.length_cons, List.length_nil]; omega, by (try simp only []); omega, fun q hq => by rcases List.mem_append.1 hq with hq | hq; exact hk5 q hq; rw [List.mem_singleton.1 hq]; omega⟩ (by dsimp only; rw [show ((p + (upT z.1.n).toNat : Nat) : Int) = (p : Int) + upT z.1.n from by omega]; exact aSx) (fun w h => by dsimp only; rw [List.length_append, flat_append]; exact h.ent aEt)
        · try simp only [decide_eq_true_eq, decide_eq_false_iff_not, Bool.not_eq_true', Bool.not_eq_false', Bool.and_eq_true, Bool.or_eq_true, Bool.and_eq_false_iff, Bool.or_eq_false_iff, Bool.not_true, Bool.not_false] at h10
          have hk : ¬ p < (h1S s).length := by omega
          have hE := hk2.trans (inL_end hk)
          refine s_exit_to rfl ?_
          refine s_seq ?_
          refine s_seq ?_
          refine s_region ?_
          refine o_q (q_loadn rfl rfl sz_24 aPk rfl) rfl ?_
          refine o_q (q_call rfl fn_25 rfl (fun w1 h1 => c25 w1 (at4 x.1 4) gl.1 gl.2 l (HS.rw_own (a := gl.1) (l := l) sv2 h1 aPk rfl) (by omega) hk5)) rfl ?_
          refine o_p (p_pure rfl) rfl ?_
          refine o_nil ?_
          refine s_seq ?_
          refine s_region ?_
          refine o_p (p_pure rfl) rfl ?_
          refine o_p (p_pure rfl) rfl ?_
          refine o_nil ?_
          refine s_cond rfl (fun h18 => ?_) (fun h18 => ?_)
          · try simp only [decide_eq_true_eq, decide_eq_false_iff_not, Bool.not_eq_true', Bool.not_eq_false', Bool.and_eq_true, Bool.or_eq_true, Bool.and_eq_false_iff, Bool.or_eq_false_iff, Bool.not_true, Bool.not_false] at h18
            have he9 : ¬ (stoE (at4 x.1 4) l).2 = 0 := h18
            have hT : inS s = inE (stoE (at4 x.1 4) l).2 := hx1.trans (inB_bad h8 hE he9)
            refine s_seq ?_
            refine s_region ?_
            refine o_p (p_build (cs := [_, _]) rfl rfl pl_24 zr_24 rfl) rfl ?_
            refine o_p (p_pure rfl) rfl ?_
            refine o_h0 (h_store rfl rfl rfl sz_24 rfl aPt (by simp only [setMany_length, List.length_set, List.length_cons, List.length_nil, List.length_map]; omega) rfl) (fun _ _ => ?_)
            refine o_p (p_pure rfl) rfl ?_
            refine o_p (p_pure rfl) rfl ?_
            refine o_nil ?_
            exact s_retv (rs := [.cell 2 24, .tmp 3, .tmp 4]) rfl (.cell rfl sz_24 aPk rfl (.tmp rfl (.tmp rfl (.nil)))) (fun w' h' => ⟨((none, 0), (none, 0)), by rw [hT]; rfl, trivial, by rw [hT]; exact ((h'.own_nil 50 2).own_nil 3 1).ent aEt⟩)
          · try simp only [decide_eq_true_eq, decide_eq_false_iff_not, Bool.not_eq_true', Bool.not_eq_false', Bool.and_eq_true, Bool.or_eq_true, Bool.and_eq_false_iff, Bool.or_eq_false_iff, Bool.not_true, Bool.not_false] at h18
            have he9 : (stoE (at4 x.1 4) l).2 = 0 := h18
            have hT : inS s = ⟨at4 x.1 4, l, dm, 0⟩ := hx1.trans (inB_ok h8 hE he9)
            refine s_skip ?_
            refine s_seq ?_
            refine s_region ?_
            refine o_q (q_loadn rfl rfl sz_24 aPk rfl) rfl ?_
            refine o_p (p_pure rfl) rfl ?_
            refine o_h0 (h_store rfl rfl rfl sz_24 rfl aPt (by simp only [setMany_length, List.length_set, List.length_cons, List.length_nil, List.length_map]; omega) rfl) (fun _ _ => ?_)
            refine o_p (p_pure rfl) rfl ?_
            refine o_p (p_pure rfl) rfl ?_
            refine o_nil ?_
            exact s_retv (rs := [.cell 2 24, .tmp 3, .tmp 4]) rfl (.cell rfl sz_24 aPk rfl (.tmp rfl (.tmp rfl (.nil)))) (fun w' h' => ⟨(gl, gd), by rw [hT]; rfl, trivial, by rw [hT]; exact h'.ent aEt⟩)

end Go.Proofs

namespace Go.Proofs
open Go Go.RowKit Gx
set_option linter.unusedVariables false
set_option linter.unusedSimpArgs false
attribute [local irreducible] Go.Calls Gx.S Gx.O Gx.D Gx.OpP Gx.OpQ Gx.OpH

theorem fn_68 : isFn Tryz.prog 68 = true := by kernel_rfl
theorem fn_38 : isFn Tryz.prog 38 = true := by kernel_rfl
theorem fn_66 : isFn Tryz.prog 66 = true := by kernel_rfl
theorem fn_39 : isFn Tryz.prog 39 = true := by kernel_rfl


attribute [local irreducible] Gx.h1S Gx.h2S Gx.inS Gx.inB Gx.inL Gx.itA Gx.isHd Gx.stoE Gx.upT Gx.at4 Gx.strE Gx.itR Gx.halfK Gx.halfS Gx.plsI Gx.hashS Gx.sumS

set_option maxRecDepth 20000 in
theorem c68 (w : World) (n m : Int) (hn : 0 ≤ n ∧ n ≤ 1000000000000) (hm : 0 < m ∧ m ≤ 1000000000000) : Calls Tryz.prog 68 #[.int .i64 n, .int .i64 m] w fun en w' => en = .returned (.int .i64 (n % m)) ∧ Below w.heap.size w w' := by
  have h9 := Int.emod_nonneg n (show m ≠ 0 by omega)
  refine enter (args := [_, _]) Tryz.func68 Tryz.ntmps68 rfl rfl (HS.refl w []) ?_
  refine s_seq ?_
  refine s_region ?_
  refine o_p (p_pure rfl) rfl ?_
  refine o_nil ?_
  refine s_seq ?_
  refine s_region ?_
  refine o_p (p_pure rfl) rfl ?_
  refine o_p (p_pure rfl) rfl ?_
  refine o_p (p_rem_nn rfl rfl rfl (by omega) (by omega)) rfl ?_
  refine o_p (p_pure rfl) rfl ?_
  refine o_nil ?_
  refine s_seq ?_
  refine s_seq ?_
  refine s_region ?_
  refine o_p (p_pure rfl) rfl ?_
  refine o_p (p_pure rfl) rfl ?_
  refine o_nil ?_
  refine s_cond rfl (fun h1 => ?_) (fun h1 => ?_)
  · try simp only [decide_eq_true_eq, decide_eq_false_iff_not, Bool.not_eq_true', Bool.not_eq_false', Bool.and_eq_true, Bool.or_eq_true, Bool.and_eq_false_iff, Bool.or_eq_false_iff, Bool.not_true, Bool.not_false] at h1
    exfalso; first | omega | (simp at h1; done) | (simp_all; done)
  · try simp only [decide_eq_true_eq, decide_eq_false_iff_not, Bool.not_eq_true', Bool.not_eq_false', Bool.and_eq_true, Bool.or_eq_true, Bool.and_eq_false_iff, Bool.or_eq_false_iff, Bool.not_true, Bool.not_false] at h1
    refine s_skip ?_
    refine s_seq ?_
    refine s_region ?_
    refine o_p (p_pure rfl) rfl ?_
    refine o_p (p_pure rfl) rfl ?_
    refine o_nil ?_
    exact s_retv (rs := [.tmp 4]) rfl (.tmp rfl (.nil)) (fun w' h' => ⟨by rfl, h'.below⟩)

set_option maxRecDepth 20000 in
theorem c38 (w : World) (s : List UInt8) (hm : s.length ≤ 1000000000) : Calls Tryz.prog 38 #[.string (bs s)] w fun en w' => en = .returned (.int .i64 (sumS s)) ∧ Below w.heap.size w w' := by
  refine enter (args := [_]) Tryz.func38 Tryz.ntmps38 rfl rfl (HS.refl w []) ?_
  refine s_seq ?_
  refine s_region ?_
  refine o_p (p_pure rfl) rfl ?_
  refine o_nil ?_
  refine s_seq ?_
  refine s_region ?_
  refine o_p (p_pure rfl) rfl ?_
  refine o_nil ?_
  refine s_seq ?_
  refine s_seq ?_
  refine s_region ?_
  refine o_p (p_pure rfl) rfl ?_
  refine o_nil ?_
  refine s_block ?_
  refine s_loopI (α := Nat) [3, 4, 5, 6, 7, 8, 9, 10, 11, 12, 13, 14, 15, 16, 17, 18, 19, 20, 21, 22, 23] (fun k => [(4, .int .i64 (k : Int)), (3, .int .i64 ((s.take k).foldl sStep 0))]) (fun _ => _) (fun k => k ≤ s.length) (fun k => s.length - k) 0 (Nat.zero_le _) aSx (fun w h => h) (fun k hk1 => ?_)
  refine s_seq ?_
  refine s_seq ?_
  refine s_region ?_
  refine o_p (p_pure rfl) rfl ?_
  refine o_p (p_pure rfl) rfl ?_
  refine o_p (p_len_str rfl rfl Tryz.underlying9) rfl ?_
  refine o_p (p_pure rfl) rfl ?_
  refine o_nil ?_
  refine s_cond rfl (fun h1 => ?_) (fun h1 => ?_)
  · try simp only [decide_eq_true_eq, decide_eq_false_iff_not, Bool.not_eq_true', Bool.not_eq_false', Bool.and_eq_true, Bool.or_eq_true, Bool.and_eq_false_iff, Bool.or_eq_false_iff, Bool.not_true, Bool.not_false] at h1
    have hk : k < s.length := by omega
    have hs9 := foldl_succ (f := sStep) (a := (0 : Int)) hk
    have hle := foldl_le sStep_le (s.take k) 0 (by omega)
    have hb9 := (s.getD k 0).toNat_lt
    have hst := sum_step ((s.take k).foldl sStep 0) (s.getD k 0) hle
    have hmd := Int.emod_nonneg ((s.take k).foldl sStep 0 * 2) (show (2147483648 : Int) ≠ 0 by omega)
    refine s_skip ?_
    refine s_seq ?_
    refine s_block ?_
    refine s_seq ?_
    refine s_region ?_
    refine o_p (p_pure rfl) rfl ?_
    refine o_p (p_pure rfl) rfl ?_
    try (refine o_slot (i64w (by omega) (by omega)) ?_)
    refine o_q (q_call rfl fn_68 rfl (fun w1 h1 => c68 w1 ((s.take k).foldl sStep 0 * 2) 2147483648 (by omega) (by omega))) rfl ?_
    refine o_p (p_pure rfl) rfl ?_
    refine o_p (p_quo_nn rfl rfl rfl (by omega) (by omega) (by omega)) rfl ?_
    refine o_p (p_pure rfl) rfl ?_
    try (refine o_slot (i64w (by omega) (by omega)) ?_)
    refine o_p (p_pure rfl) rfl ?_
    refine o_nil ?_
    refine s_region ?_
    refine o_p (p_pure rfl) rfl ?_
    refine o_p (p_pure rfl) rfl ?_
    refine o_p (p_pure rfl) rfl ?_
    refine o_p (p_index_str rfl rfl rfl Tryz.underlying9 (k) (by omega) (by omega)) rfl ?_
    refine o_p (p_conv_int rfl rfl ki_5 ki_3) rfl ?_
    try (refine o_slot (i64w (by omega) (by omega)) ?_)
    refine o_p (p_pure rfl) rfl ?_
    try (refine o_slot (i64w (by omega) (by omega)) ?_)
    refine o_q (q_call rfl fn_68 rfl (fun w1 h1 => c68 w1 ((s.take k).foldl sStep 0 * 2 % 2147483648 + (s.take k).foldl sStep 0 / 1073741824 + ((s.getD k 0).toNat : Int)) 2147483648 (by omega) (by omega))) rfl ?_
    refine o_p (p_pure rfl) rfl ?_
    refine o_nil ?_
    refine s_blk ?_
    refine s_region ?_
    refine o_p (p_pure rfl) rfl ?_
    refine o_p (p_pure rfl) rfl ?_
    try (refine o_slot (i64w (by omega) (by omega)) ?_)
    refine o_p (p_pure rfl) rfl ?_
    refine o_nil ?_
    exact s_backI (k + 1) (by omega) (by omega) (by rw [hs9, ← hst]; exact aSx) (fun w h => h)
  · try simp only [decide_eq_true_eq, decide_eq_false_iff_not, Bool.not_eq_true', Bool.not_eq_false', Bool.and_eq_true, Bool.or_eq_true, Bool.and_eq_false_iff, Bool.or_eq_false_iff, Bool.not_true, Bool.not_false] at h1
    obtain rfl : k = s.length := by omega
    rw [List.take_length]
    refine s_exit_to rfl ?_
    refine s_seq ?_
    refine s_region ?_
    refine o_p (p_pure rfl) rfl ?_
    refine o_p (p_pure rfl) rfl ?_
    refine o_nil ?_
    exact s_retv (rs := [.tmp 2]) rfl (.tmp rfl (.nil)) (fun w' h' => ⟨by unfold sumS; rfl, h'.below⟩)

theorem zrow_u8 (c : Nat) : zrow [.int .u8 0] (c * 1) = (List.replicate c (0 : UInt8)).map bv := by
  rw [Nat.mul_one, List.map_replicate]
  apply List.ext_getElem?
  intro i
  simp only [zrow, List.getElem?_map, List.getElem?_replicate]
  by_cases hi : i < c
  · rw [List.getElem?_range hi, if_pos hi]; simp [Nat.mod_one]; rfl
  · rw [if_neg hi, List.getElem?_eq_none (by simpa using hi)]; rfl

set_option maxRecDepth 20000 in
theorem c40 (w : World) (c : Nat) (hc : c ≤ 100000) : Calls Tryz.prog 40 #[.int .i64 (c : Int)] w fun en w' => en = .returned (.string (bs (List.replicate c 0))) ∧ Below w.heap.size w w' := by
  refine enter (args := [_]) Tryz.func40 Tryz.ntmps40 rfl rfl (HS.refl w []) ?_
  refine s_seq ?_
  refine s_region ?_
  refine o_p (p_pure rfl) rfl ?_
  refine o_nil ?_
  refine s_seq ?_
  refine s_region ?_
  refine o_p (p_pure rfl) rfl ?_
  refine o_p (p_min2 rfl rfl rfl ) rfl ?_
  refine o_p (p_max2 rfl rfl rfl ) rfl ?_
  refine o_slot (show _ = Value.int .i64 (c : Int) from congrArg (Value.int .i64) (by split <;> split <;> omega)) ?_
  refine o_h (h_make (n := c) rfl rfl rfl sl_79 zr_5 (by omega) (by omega)) rfl (fun b1 _ => ?_)
  refine o_q (q_string_blk rfl rfl Tryz.underlying79 Tryz.underlying9 Tryz.underlying5 aPk (by simp [zrow_length]) (by intro v hv; rw [zrow_u8] at hv; exact isU8_bv _ v hv)) rfl ?_
  refine o_p (p_pure rfl) rfl ?_
  refine o_nil ?_
  exact s_retv (rs := [.tmp 2]) rfl (.tmp rfl (.nil)) (fun w' h' => ⟨by rw [zrow_u8, vByte_bv]; rfl, h'.below⟩)

set_option maxRecDepth 20000 in
theorem c66 (w : World) (s : List UInt8) (hm : s.length ≤ 1000000000) : Calls Tryz.prog 66 #[.string (bs s)] w fun en w' => en = .returned (.bool (allZ s)) ∧ Below w.heap.size w w' := by
  refine enter (args := [_]) Tryz.func66 Tryz.ntmps66 rfl rfl (HS.refl w []) ?_
  refine s_seq ?_
  refine s_region ?_
  refine o_p (p_pure rfl) rfl ?_
  refine o_nil ?_
  refine s_seq ?_
  refine s_seq ?_
  refine s_region ?_
  refine o_p (p_pure rfl) rfl ?_
  refine o_nil ?_
  refine s_block ?_
  refine s_loopI (α := Nat) [2, 3, 4, 5, 6, 7, 8, 9, 10, 11, 12, 13] (fun k => [(3, .int .i64 (k : Int))]) (fun _ => _) (fun k => k ≤ s.length ∧ allZ (s.take k) = true) (fun k => s.length - k) 0 ⟨Nat.zero_le _, rfl⟩ aSx (fun w h => h) (fun k hkk => ?_)
  obtain ⟨hk1, hk2⟩ := hkk
  refine s_seq ?_
  refine s_seq ?_
  refine s_region ?_
  refine o_p (p_pure rfl) rfl ?_
  refine o_p (p_pure rfl) rfl ?_
  refine o_p (p_len_str rfl rfl Tryz.underlying9) rfl ?_
  refine o_p (p_pure rfl) rfl ?_
  refine o_nil ?_
  refine s_cond rfl (fun h1 => ?_) (fun h1 => ?_)
  · try simp only [decide_eq_true_eq, decide_eq_false_iff_not, Bool.not_eq_true', Bool.not_eq_false', Bool.and_eq_true, Bool.or_eq_true, Bool.and_eq_false_iff, Bool.or_eq_false_iff, Bool.not_true, Bool.not_false] at h1
    have hk : k < s.length := by omega
    have hst := allZ_succ hk
    refine s_skip ?_
    refine s_seq ?_
    refine s_block ?_
    refine s_seq ?_
    refine s_region ?_
    refine o_p (p_pure rfl) rfl ?_
    refine o_p (p_pure rfl) rfl ?_
    refine o_p (p_index_str rfl rfl rfl Tryz.underlying9 (k) (by omega) (by omega)) rfl ?_
    refine o_p (p_pure rfl) rfl ?_
    refine o_nil ?_
    refine s_cond rfl (fun h2 => ?_) (fun h2 => ?_)
    · try simp only [decide_eq_true_eq, decide_eq_false_iff_not, Bool.not_eq_true', Bool.not_eq_false', Bool.and_eq_true, Bool.or_eq_true, Bool.and_eq_false_iff, Bool.or_eq_false_iff, Bool.not_true, Bool.not_false] at h2
      have hz : ¬ s.getD k 0 = 0 := by have hq := h2; intro h9; exact hq (u8z.2 h9)
      have hf := allZ_no hk hz
      refine s_seq ?_
      refine s_region ?_
      refine o_p (p_pure rfl) rfl ?_
      refine o_nil ?_
      exact s_retv (rs := [.tmp 2]) rfl (.tmp rfl (.nil)) (fun w' h' => ⟨by rw [hf]; rfl, h'.below⟩)
    · try simp only [decide_eq_true_eq, decide_eq_false_iff_not, Bool.not_eq_true', Bool.not_eq_false', Bool.and_eq_true, Bool.or_eq_true, Bool.and_eq_false_iff, Bool.or_eq_false_iff, Bool.not_true, Bool.not_false] at h2
      have hz : s.getD k 0 = 0 := u8z.1 (by have hq := h2; simpa using hq)
      refine s_skip ?_
      refine s_blk ?_
      refine s_region ?_
      refine o_p (p_pure rfl) rfl ?_
      refine o_p (p_pure rfl) rfl ?_
      try (refine o_slot (i64w (by omega) (by omega)) ?_)
      refine o_p (p_pure rfl) rfl ?_
      refine o_nil ?_
      exact s_backI (k + 1) (by omega) ⟨by omega, by rw [hst, hk2, hz]; rfl⟩ aSx (fun w h => h)
  · try simp only [decide_eq_true_eq, decide_eq_false_iff_not, Bool.not_eq_true', Bool.not_eq_false', Bool.and_eq_true, Bool.or_eq_true, Bool.and_eq_false_iff, Bool.or_eq_false_iff, Bool.not_true, Bool.not_false] at h1
    obtain rfl : k = s.length := by omega
    rw [List.take_length] at hk2
    refine s_exit_to rfl ?_
    refine s_seq ?_
    refine s_region ?_
    refine o_p (p_pure rfl) rfl ?_
    refine o_nil ?_
    exact s_retv (rs := [.tmp 2]) rfl (.tmp rfl (.nil)) (fun w' h' => ⟨by rw [hk2]; rfl, h'.below⟩)

set_option maxRecDepth 20000 in
theorem c34 (w : World) (s : List UInt8) (hm : s.length ≤ 1000000) : Calls Tryz.prog 34 #[.string (bs s)] w fun en w' => en = .returned (.int .i64 (strE s)) ∧ Below w.heap.size w w' := by
  refine enter (args := [_]) Tryz.func34 Tryz.ntmps34 rfl rfl (HS.refl w []) ?_
  refine s_seq ?_
  refine s_region ?_
  refine o_p (p_pure rfl) rfl ?_
  refine o_nil ?_
  refine s_seq ?_
  refine s_region ?_
  refine o_p (p_pure rfl) rfl ?_
  refine o_p (p_len_str rfl rfl Tryz.underlying9) rfl ?_
  refine o_p (p_pure rfl) rfl ?_
  try (refine o_slot (i64w (by omega) (by omega)) ?_)
  refine o_p (p_pure rfl) rfl ?_
  refine o_nil ?_
  refine s_seq ?_
  refine s_seq ?_
  refine s_region ?_
  refine o_p (p_pure rfl) rfl ?_
  refine o_q (q_call rfl fn_16 rfl (fun w1 h1 => c16 w1 _ _ _)) rfl ?_
  refine o_p (p_pure rfl) rfl ?_
  refine o_p (p_pure rfl) rfl ?_
  refine o_or 4 10 14 _ _ rfl
    (by
      intro hg1
      have hs2 := hg1; try simp only [decide_eq_true_eq, decide_eq_false_iff_not, Bool.not_eq_true', Bool.not_eq_false', Bool.and_eq_true, Bool.or_eq_true, Bool.and_eq_false_iff, Bool.or_eq_false_iff, Bool.not_true, Bool.not_false] at hs2
      refine o_on 10 _ rfl rfl hg1 ?_
      refine o_p (p_pure rfl) rfl ?_
      refine o_on 10 _ rfl rfl hg1 ?_
      refine o_p (p_rem_nn rfl rfl rfl (by omega) (by omega)) rfl ?_
      refine o_on 10 _ rfl rfl hg1 ?_
      refine o_p (p_pure rfl) rfl ?_
      refine o_p (p_pickf rfl rfl hg1 rfl) rfl ?_
      refine o_nil ?_
      exact s_joinN 4 14 _ rfl rfl rfl (fun w h => by first | exact h | exact h.ent aEt))
    (by
      intro hg3
      have hs4 := hg3; try simp only [decide_eq_true_eq, decide_eq_false_iff_not, Bool.not_eq_true', Bool.not_eq_false', Bool.and_eq_true, Bool.or_eq_true, Bool.and_eq_false_iff, Bool.or_eq_false_iff, Bool.not_true, Bool.not_false] at hs4
      refine o_off 10 _ rfl rfl hg3 rfl ?_
      refine o_off 10 _ rfl rfl hg3 rfl ?_
      refine o_off 10 _ rfl rfl hg3 rfl ?_
      refine o_p (p_pickt rfl rfl hg3 rfl) rfl ?_
      refine o_nil ?_
      exact s_joinN 4 14 _ rfl rfl rfl (fun w h => by first | exact h | exact h.ent aEt)) ?_
  refine o_nil ?_
  refine s_cond rfl (fun h5 => ?_) (fun h5 => ?_)
  · try simp only [decide_eq_true_eq, decide_eq_false_iff_not, Bool.not_eq_true', Bool.not_eq_false', Bool.and_eq_true, Bool.or_eq_true, Bool.and_eq_false_iff, Bool.or_eq_false_iff, Bool.not_true, Bool.not_false] at h5
    have h9 : strE s = 10 := by unfold strE; rw [if_neg]; intro h8; first | (have hq := h5; simp at hq; omega) | (have hq := h5; omega) | (have hg := hg3; simp at hg; omega)
    refine s_seq ?_
    refine s_region ?_
    refine o_p (p_pure rfl) rfl ?_
    refine o_nil ?_
    exact s_retv (rs := [.tmp 2]) rfl (.tmp rfl (.nil)) (fun w' h' => ⟨by rw [h9]; rfl, h'.below⟩)
  · try simp only [decide_eq_true_eq, decide_eq_false_iff_not, Bool.not_eq_true', Bool.not_eq_false', Bool.and_eq_true, Bool.or_eq_true, Bool.and_eq_false_iff, Bool.or_eq_false_iff, Bool.not_true, Bool.not_false] at h5
    have h9 : strE s = 0 := by unfold strE; rw [if_pos]; first | (have hq := h5; simp at hq; omega) | (have hq := h5; omega) | (have hg := hg3; have hq := h5; simp at hg; omega)
    refine s_skip ?_
    refine s_seq ?_
    refine s_region ?_
    refine o_p (p_pure rfl) rfl ?_
    refine o_nil ?_
    exact s_retv (rs := [.tmp 2]) rfl (.tmp rfl (.nil)) (fun w' h' => ⟨by rw [h9]; rfl, h'.below⟩)

set_option maxRecDepth 20000 in
theorem c35 (w : World) (s hf : List UInt8) (a : Nat) (hm : s.length ≤ 1000000) (hs : SegOf s hf a) (h16 : 16 ≤ hf.length) : Calls Tryz.prog 35 #[.string (bs s), .int .i64 (a : Int)] w fun en w' => en = .returned (.tuple #[.int .i64 (at4 hf 4), .int .i64 (at4 hf 8), .bool (isHd hf)]) ∧ Below w.heap.size w w' := by
  have hle := hs.le
  have hl16 : (hf.take 16).length = 16 := by rw [List.length_take]; omega
  have e4 : (hf.take 16).take 4 = hf.take 4 := by rw [List.take_take]; rfl
  have e12 : (hf.take 16).take 12 = hf.take 12 := by rw [List.take_take]; rfl
  have hl12 : (hf.take 12).length ≤ 1000000000 := by rw [List.length_take]; omega
  refine enter (args := [_, _]) Tryz.func35 Tryz.ntmps35 rfl rfl (HS.refl w []) ?_
  refine s_seq ?_
  refine s_region ?_
  refine o_p (p_pure rfl) rfl ?_
  refine o_p (p_pure rfl) rfl ?_
  refine o_p (p_pure rfl) rfl ?_
  refine o_nil ?_
  refine s_seq ?_
  refine s_region ?_
  refine o_p (p_pure rfl) rfl ?_
  refine o_p (p_pure rfl) rfl ?_
  refine o_p (p_pure rfl) rfl ?_
  refine o_p (p_pure rfl) rfl ?_
  try (refine o_slot (i64w (by omega) (by omega)) ?_)
  refine o_p (p_slice_str _ _ a (a + 16) rfl rfl Tryz.underlying9 ⟨_, _, rfl, rfl⟩ ⟨_, _, rfl, (by omega)⟩ (by omega) (by omega)) rfl ?_
  refine o_slot (show _ = Value.string (bs (hf.take 16)) from by have h9 := hs.cut (i := 0) (j := 16) (by omega); rw [Nat.add_zero, List.drop_zero] at h9; rw [h9]) ?_
  refine o_p (p_pure rfl) rfl ?_
  refine o_nil ?_
  refine s_seq ?_
  refine s_draw [] mixed ?_
  refine d_p 0 rfl (p_pure rfl) (by kernel_rfl) rfl rfl ?_
  refine d_q 1 [] rfl (q_call rfl fn_65 rfl (fun w1 h1 => by have h9 := c65 w1 (hf.take 16) 4 4 (by omega) (by omega) (by omega); rw [litN_4, at4_take (by omega)] at h9; exact h9)) (by kernel_rfl) (by kernel_rfl) (by kernel_rfl) rfl ?_
  refine d_p 2 rfl (p_pure rfl) (by kernel_rfl) rfl rfl ?_
  refine d_q 3 [] rfl (q_call rfl fn_65 rfl (fun w1 h1 => by have h9 := c65 w1 (hf.take 16) 8 4 (by omega) (by omega) (by omega); rw [litN_4, at4_take (by omega)] at h9; exact h9)) (by kernel_rfl) (by kernel_rfl) (by kernel_rfl) rfl ?_
  refine d_p 4 rfl (p_pure rfl) (by kernel_rfl) rfl rfl ?_
  refine d_p 5 rfl (p_slice_str_to 4 rfl rfl rfl Tryz.underlying9 rfl (by omega)) (by kernel_rfl) rfl rfl ?_
  refine d_p 6 rfl (p_pure rfl) (by kernel_rfl) rfl rfl ?_
  refine d_p 7 rfl (p_pure rfl) (by kernel_rfl) rfl rfl ?_
  apply d_split 20
  · exact rfl
  · intro hg1
    have hs2 := hg1; try simp only [decide_eq_true_eq, decide_eq_false_iff_not, Bool.not_eq_true', Bool.not_eq_false', Bool.and_eq_true, Bool.or_eq_true, Bool.and_eq_false_iff, Bool.or_eq_false_iff, Bool.not_true, Bool.not_false] at hs2
    refine d_pon 8 20 rfl rfl rfl hg1 (p_pure rfl) (by kernel_rfl) rfl rfl ?_
    refine d_pon 9 20 rfl rfl rfl hg1 (p_slice_str_to 12 rfl rfl rfl Tryz.underlying9 rfl (by omega)) (by kernel_rfl) rfl rfl ?_
    refine d_slot (show _ = Value.string (bs (hf.take 12)) from by rw [e12]) ?_
    refine d_qon 10 20 [] rfl rfl rfl hg1 (q_call rfl fn_38 rfl (fun w1 h1 => c38 w1 (hf.take 12) hl12)) (by kernel_rfl) (by kernel_rfl) (by kernel_rfl) rfl ?_
    refine d_pon 11 20 rfl rfl rfl hg1 (p_pure rfl) (by kernel_rfl) rfl rfl ?_
    refine d_qon 12 20 [] rfl rfl rfl hg1 (q_call rfl fn_65 rfl (fun w1 h1 => by have h9 := c65 w1 (hf.take 16) 12 4 (by omega) (by omega) (by omega); rw [litN_4, at4_take (by omega)] at h9; exact h9)) (by kernel_rfl) (by kernel_rfl) (by kernel_rfl) rfl ?_
    refine d_pon 13 20 rfl rfl rfl hg1 (p_pure rfl) (by kernel_rfl) rfl rfl ?_
    refine d_p 14 rfl (p_pickt rfl rfl hg1 rfl) (by kernel_rfl) rfl rfl ?_
    refine d_p 15 rfl (p_pure rfl) (by kernel_rfl) rfl rfl ?_
    refine d_p 16 rfl (p_pure rfl) (by kernel_rfl) rfl rfl ?_
    refine d_p 17 rfl (p_pure rfl) (by kernel_rfl) rfl rfl ?_
    refine d_nil (by kernel_rfl) (fun w h => by first | exact h | exact h.ent aEt) ?_
    exact s_retv (rs := [.tmp 4, .tmp 5, .tmp 6]) rfl (.tmp rfl (.tmp rfl (.tmp rfl (.nil)))) (fun w' h' => ⟨by unfold isHd; rw [← e4, show decide (List.take 4 (List.take 16 hf) = signB) = _ from hg1]; rfl, h'.below⟩)
  · intro hg3
    have hs4 := hg3; try simp only [decide_eq_true_eq, decide_eq_false_iff_not, Bool.not_eq_true', Bool.not_eq_false', Bool.and_eq_true, Bool.or_eq_true, Bool.and_eq_false_iff, Bool.or_eq_false_iff, Bool.not_true, Bool.not_false] at hs4
    refine d_off 8 20 rfl rfl rfl hg3 (by kernel_rfl) rfl rfl ?_
    refine d_off 9 20 rfl rfl rfl hg3 (by kernel_rfl) rfl rfl ?_
    refine d_off 10 20 rfl rfl rfl hg3 (by kernel_rfl) rfl rfl ?_
    refine d_off 11 20 rfl rfl rfl hg3 (by kernel_rfl) rfl rfl ?_
    refine d_off 12 20 rfl rfl rfl hg3 (by kernel_rfl) rfl rfl ?_
    refine d_off 13 20 rfl rfl rfl hg3 (by kernel_rfl) rfl rfl ?_
    refine d_p 14 rfl (p_pickf rfl rfl hg3 rfl) (by kernel_rfl) rfl rfl ?_
    refine d_p 15 rfl (p_pure rfl) (by kernel_rfl) rfl rfl ?_
    refine d_p 16 rfl (p_pure rfl) (by kernel_rfl) rfl rfl ?_
    refine d_p 17 rfl (p_pure rfl) (by kernel_rfl) rfl rfl ?_
    refine d_nil (by kernel_rfl) (fun w h => by first | exact h | exact h.ent aEt) ?_
    exact s_retv (rs := [.tmp 4, .tmp 5, .tmp 6]) rfl (.tmp rfl (.tmp rfl (.tmp rfl (.nil)))) (fun w' h' => ⟨by unfold isHd; rw [← e4, show decide (List.take 4 (List.take 16 hf) = signB) = _ from hg3]; rfl, h'.below⟩)

set_option maxRecDepth 20000 in
set_option maxHeartbeats 1000000 in
theorem c36 (w : World) (s hf : List UInt8) (a p : Nat) (hm : s.length ≤ 100000) (hs : SegOf s hf a) (hp : p ≤ 1000000) : Calls Tryz.prog 36 #[.string (bs s), .int .i64 (a : Int), .int .i64 (p : Int), .int .i64 (hf.length : Int)] w fun en w' => en = .returned (.tuple #[.agg #[.int .i64 (itR hf p).x.id, .string (bs (itR hf p).x.by_)], .int .i64 (itR hf p).n, .bool (itR hf p).ok]) ∧ Below w.heap.size w w' := by
  have hle := hs.le
  have hz := at4_le hf (p + 12)
  have hu9 := upT_le (at4 hf (p + 12))
  have hbl : (bodyI hf p).length ≤ 200000 := by unfold bodyI; rw [List.length_take, List.length_drop]; omega
  have hpl : (padI hf p).length ≤ 1000000 := by unfold padI; rw [List.length_take, List.length_drop]; omega
  refine enter (args := [_, _, _, _]) Tryz.func36 Tryz.ntmps36 rfl rfl (HS.refl w []) ?_
  refine s_seq ?_
  refine s_region ?_
  refine o_h (h_alloc rfl zr_50) rfl (fun b1 _ => ?_)
  refine o_p (p_pure rfl) rfl ?_
  refine o_p (p_pure rfl) rfl ?_
  refine o_nil ?_
  refine s_seq ?_
  refine s_seq ?_
  refine s_region ?_
  refine o_p (p_pure rfl) rfl ?_
  refine o_p (p_pure rfl) rfl ?_
  try (refine o_slot (i64w (by omega) (by omega)) ?_)
  refine o_p (p_pure rfl) rfl ?_
  refine o_p (p_pure rfl) rfl ?_
  refine o_nil ?_
  refine s_cond rfl (fun h2 => ?_) (fun h2 => ?_)
  · try simp only [decide_eq_true_eq, decide_eq_false_iff_not, Bool.not_eq_true', Bool.not_eq_false', Bool.and_eq_true, Bool.or_eq_true, Bool.and_eq_false_iff, Bool.or_eq_false_iff, Bool.not_true, Bool.not_false] at h2
    have hno : shpI hf p = false := by unfold shpI; rw [decide_eq_false (by have hq := h2; omega)]; rfl
    have hT := itR_no hno
    refine s_seq ?_
    refine s_region ?_
    refine o_p (p_build (cs := [_, _]) rfl rfl pl_50 zr_50 rfl) rfl ?_
    refine o_h0 (h_store rfl rfl rfl sz_50 rfl aPt (by simp only [setMany_length, List.length_set, List.length_cons, List.length_nil, List.length_map]; omega) rfl) (fun _ _ => ?_)
    refine o_p (p_pure rfl) rfl ?_
    refine o_p (p_pure rfl) rfl ?_
    refine o_nil ?_
    exact s_retv (rs := [.cell 8 50, .tmp 9, .tmp 10]) rfl (.cell rfl sz_50 aPk rfl (.tmp rfl (.tmp rfl (.nil)))) (fun w' h' => ⟨by rw [hT]; rfl, h'.below⟩)
  · try simp only [decide_eq_true_eq, decide_eq_false_iff_not, Bool.not_eq_true', Bool.not_eq_false', Bool.and_eq_true, Bool.or_eq_true, Bool.and_eq_false_iff, Bool.or_eq_false_iff, Bool.not_true, Bool.not_false] at h2
    have hl16 : p + 16 ≤ hf.length := by have hq := h2; omega
    refine s_skip ?_
    refine s_seq ?_
    refine s_region ?_
    refine o_p (p_pure rfl) rfl ?_
    refine o_p (p_pure rfl) rfl ?_
    refine o_p (p_pure rfl) rfl ?_
    try (refine o_slot (i64w (by omega) (by omega)) ?_)
    refine o_slot (show _ = Value.int .i64 ((a + p : Nat) : Int) from by first | rfl | (exact congrArg (Value.int .i64) (by omega))) ?_
    refine o_p (p_pure rfl) rfl ?_
    refine o_nil ?_
    refine s_seq ?_
    refine s_region ?_
    refine o_p (p_pure rfl) rfl ?_
    refine o_p (p_pure rfl) rfl ?_
    refine o_p (p_pure rfl) rfl ?_
    try (refine o_slot (i64w (by omega) (by omega)) ?_)
    refine o_slot (show _ = Value.int .i64 ((a + p + 12 : Nat) : Int) from by first | rfl | (exact congrArg (Value.int .i64) (by omega))) ?_
    refine o_q (q_call rfl fn_65 rfl (fun w1 h1 => by have h9 := c65 w1 s (a + p + 12) 4 (by omega) (by omega) (by omega); rw [litN_4, show (a + p + 12) = a + (p + 12) from by omega, hs.at4 (q := p + 12) (by omega)] at h9; exact h9)) rfl ?_
    refine o_p (p_pure rfl) rfl ?_
    refine o_nil ?_
    refine s_seq ?_
    refine s_seq ?_
    refine s_region ?_
    refine o_p (p_pure rfl) rfl ?_
    refine o_p (p_pure rfl) rfl ?_
    refine o_p (p_pure rfl) rfl ?_
    try (refine o_slot (i64w (by omega) (by omega)) ?_)
    refine o_slot (show _ = Value.int .i64 ((a + p + 8 : Nat) : Int) from by first | rfl | (exact congrArg (Value.int .i64) (by omega))) ?_
    refine o_q (q_call rfl fn_65 rfl (fun w1 h1 => by have h9 := c65 w1 s (a + p + 8) 4 (by omega) (by omega) (by omega); rw [litN_4, show (a + p + 8) = a + (p + 8) from by omega, hs.at4 (q := p + 8) (by omega)] at h9; exact h9)) rfl ?_
    refine o_p (p_pure rfl) rfl ?_
    refine o_p (p_pure rfl) rfl ?_
    refine o_p (p_pure rfl) rfl ?_
    refine o_or 3 32 35 _ _ rfl
      (by
        intro hg3
        have hs4 := hg3; try simp only [decide_eq_true_eq, decide_eq_false_iff_not, Bool.not_eq_true', Bool.not_eq_false', Bool.and_eq_true, Bool.or_eq_true, Bool.and_eq_false_iff, Bool.or_eq_false_iff, Bool.not_true, Bool.not_false] at hs4
        refine o_on 32 _ rfl rfl hg3 ?_
        refine o_p (p_pure rfl) rfl ?_
        refine o_on 32 _ rfl rfl hg3 ?_
        refine o_p (p_pure rfl) rfl ?_
        refine o_p (p_pickf rfl rfl hg3 rfl) rfl ?_
        refine o_nil ?_
        exact s_joinN 3 35 _ rfl rfl rfl (fun w h => by first | exact h | exact h.ent aEt))
      (by
        intro hg5
        have hs6 := hg5; try simp only [decide_eq_true_eq, decide_eq_false_iff_not, Bool.not_eq_true', Bool.not_eq_false', Bool.and_eq_true, Bool.or_eq_true, Bool.and_eq_false_iff, Bool.or_eq_false_iff, Bool.not_true, Bool.not_false] at hs6
        refine o_off 32 _ rfl rfl hg5 rfl ?_
        refine o_off 32 _ rfl rfl hg5 rfl ?_
        refine o_p (p_pickt rfl rfl hg5 rfl) rfl ?_
        refine o_nil ?_
        exact s_joinN 3 35 _ rfl rfl rfl (fun w h => by first | exact h | exact h.ent aEt)) ?_
    refine o_p (p_pure rfl) rfl ?_
    refine o_or 4 36 40 _ _ rfl
      (by
        intro hg7
        have hs8 := hg7; try simp only [decide_eq_true_eq, decide_eq_false_iff_not, Bool.not_eq_true', Bool.not_eq_false', Bool.and_eq_true, Bool.or_eq_true, Bool.and_eq_false_iff, Bool.or_eq_false_iff, Bool.not_true, Bool.not_false] at hs8
        refine o_on 36 _ rfl rfl hg7 ?_
        refine o_p (p_pure rfl) rfl ?_
        refine o_on 36 _ rfl rfl hg7 ?_
        refine o_p (p_pure rfl) rfl ?_
        refine o_on 36 _ rfl rfl hg7 ?_
        refine o_p (p_pure rfl) rfl ?_
        refine o_p (p_pickf rfl rfl hg7 rfl) rfl ?_
        refine o_nil ?_
        exact s_joinN 4 40 _ rfl rfl rfl (fun w h => by first | exact h | exact h.ent aEt))
      (by
        intro hg9
        have hs10 := hg9; try simp only [decide_eq_true_eq, decide_eq_false_iff_not, Bool.not_eq_true', Bool.not_eq_false', Bool.and_eq_true, Bool.or_eq_true, Bool.and_eq_false_iff, Bool.or_eq_false_iff, Bool.not_true, Bool.not_false] at hs10
        refine o_off 36 _ rfl rfl hg9 rfl ?_
        refine o_off 36 _ rfl rfl hg9 rfl ?_
        refine o_off 36 _ rfl rfl hg9 rfl ?_
        refine o_p (p_pickt rfl rfl hg9 rfl) rfl ?_
        refine o_nil ?_
        exact s_joinN 4 40 _ rfl rfl rfl (fun w h => by first | exact h | exact h.ent aEt)) ?_
    refine o_p (p_pure rfl) rfl ?_
    refine o_or 7 41 48 _ _ rfl
      (by
        intro hg11
        have hs12 := hg11; try simp only [decide_eq_true_eq, decide_eq_false_iff_not, Bool.not_eq_true', Bool.not_eq_false', Bool.and_eq_true, Bool.or_eq_true, Bool.and_eq_false_iff, Bool.or_eq_false_iff, Bool.not_true, Bool.not_false] at hs12
        refine o_on 41 _ rfl rfl hg11 ?_
        refine o_p (p_pure rfl) rfl ?_
        refine o_on 41 _ rfl rfl hg11 ?_
        refine o_p (p_pure rfl) rfl ?_
        refine o_on 41 _ rfl rfl hg11 ?_
        refine o_q (q_call rfl fn_41 rfl (fun w1 h1 => c41 w1 (at4 hf (p + 12)) (by omega))) rfl ?_
        refine o_on 41 _ rfl rfl hg11 ?_
        refine o_p (p_pure rfl) rfl ?_
        try (refine o_slot (i64w (by omega) (by omega)) ?_)
        refine o_on 41 _ rfl rfl hg11 ?_
        refine o_p (p_pure rfl) rfl ?_
        refine o_on 41 _ rfl rfl hg11 ?_
        refine o_p (p_pure rfl) rfl ?_
        refine o_p (p_pickf rfl rfl hg11 rfl) rfl ?_
        refine o_nil ?_
        exact s_joinN 7 48 _ rfl rfl rfl (fun w h => by first | exact h | exact h.ent aEt))
      (by
        intro hg13
        have hs14 := hg13; try simp only [decide_eq_true_eq, decide_eq_false_iff_not, Bool.not_eq_true', Bool.not_eq_false', Bool.and_eq_true, Bool.or_eq_true, Bool.and_eq_false_iff, Bool.or_eq_false_iff, Bool.not_true, Bool.not_false] at hs14
        refine o_off 41 _ rfl rfl hg13 rfl ?_
        refine o_off 41 _ rfl rfl hg13 rfl ?_
        refine o_off 41 _ rfl rfl hg13 rfl ?_
        refine o_off 41 _ rfl rfl hg13 rfl ?_
        refine o_off 41 _ rfl rfl hg13 rfl ?_
        refine o_off 41 _ rfl rfl hg13 rfl ?_
        refine o_p (p_pickt rfl rfl hg13 rfl) rfl ?_
        refine o_nil ?_
        exact s_joinN 7 48 _ rfl rfl rfl (fun w h => by first | exact h | exact h.ent aEt)) ?_
    refine o_nil ?_
    refine s_cond rfl (fun h15 => ?_) (fun h15 => ?_)
    · try simp only [decide_eq_true_eq, decide_eq_false_iff_not, Bool.not_eq_true', Bool.not_eq_false', Bool.and_eq_true, Bool.or_eq_true, Bool.and_eq_false_iff, Bool.or_eq_false_iff, Bool.not_true, Bool.not_false] at h15
      have hno : ¬ shpI hf p = true := by intro h9; obtain ⟨_, k1, k2, k3⟩ := shpI_ok h9; have hq := h15; first | omega | (simp at hq; omega)
      have hT := itR_no (Bool.eq_false_iff.2 hno)
      refine s_seq ?_
      refine s_weaken (L' := [(0, _), (8, _), (9, _), (10, _), (11, _), (12, _)]) aSx (fun _ h => h) ?_
      refine s_region ?_
      refine o_p (p_build (cs := [_, _]) rfl rfl pl_50 zr_50 rfl) rfl ?_
      refine o_h0 (h_store rfl rfl rfl sz_50 rfl aPt (by simp only [setMany_length, List.length_set, List.length_cons, List.length_nil, List.length_map]; omega) rfl) (fun _ _ => ?_)
      refine o_p (p_pure rfl) rfl ?_
      refine o_p (p_pure rfl) rfl ?_
      refine o_nil ?_
      exact s_retv (rs := [.cell 8 50, .tmp 9, .tmp 10]) rfl (.cell rfl sz_50 aPk rfl (.tmp rfl (.tmp rfl (.nil)))) (fun w' h' => ⟨by rw [hT]; rfl, h'.below⟩)
    · try simp only [decide_eq_true_eq, decide_eq_false_iff_not, Bool.not_eq_true', Bool.not_eq_false', Bool.and_eq_true, Bool.or_eq_true, Bool.and_eq_false_iff, Bool.or_eq_false_iff, Bool.not_true, Bool.not_false] at h15
      have hyes : shpI hf p = true := by have hq := h15; unfold shpI; simp only [Bool.and_eq_true, decide_eq_true_eq]; first | omega | (simp at hq; omega)
      obtain ⟨_, k1, k2, k3⟩ := shpI_ok hyes
      have hzn : (at4 hf (p + 12)) = (((at4 hf (p + 12)).toNat : Nat) : Int) := by omega
      have hpn : upT (at4 hf (p + 12)) = (((at4 hf (p + 12)).toNat + padN (at4 hf (p + 12)) : Nat) : Int) := by unfold padN; omega
      have hT := itR_shp hyes
      refine s_skip ?_
      refine s_seq ?_
      refine s_weaken (L' := [(0, _), (8, _), (9, _), (10, _), (11, _), (12, _)]) aSx (fun _ h => h) ?_
      refine s_region ?_
      refine o_p (p_pure rfl) rfl ?_
      refine o_p (p_pure rfl) rfl ?_
      refine o_p (p_pure rfl) rfl ?_
      try (refine o_slot (i64w (by omega) (by omega)) ?_)
      refine o_slot (show _ = Value.int .i64 ((a + p + 16 : Nat) : Int) from by first | rfl | (exact congrArg (Value.int .i64) (by omega))) ?_
      refine o_p (p_pure rfl) rfl ?_
      refine o_p (p_pure rfl) rfl ?_
      refine o_p (p_pure rfl) rfl ?_
      try (refine o_slot (i64w (by omega) (by omega)) ?_)
      refine o_p (p_slice_str _ _ (a + p + 16) (a + (p + (at4 hf (p + 12)).toNat)) rfl rfl Tryz.underlying9 ⟨_, _, rfl, rfl⟩ ⟨_, _, rfl, (by omega)⟩ (by omega) (by omega)) rfl ?_
      refine o_slot (show _ = Value.string (bs (bodyI hf p)) from by rw [show a + p + 16 = a + (p + 16) from by omega, hs.cut (by omega), cutI]; unfold bodyI; rw [show p + (at4 hf (p + 12)).toNat - (p + 16) = (at4 hf (p + 12)).toNat - 16 from by omega]) ?_
      refine o_p (p_pure rfl) rfl ?_
      refine o_nil ?_
      refine s_seq ?_
      refine s_seq ?_
      refine s_region ?_
      refine o_p (p_pure rfl) rfl ?_
      refine o_p (p_pure rfl) rfl ?_
      refine o_p (p_pure rfl) rfl ?_
      refine o_p (p_pure rfl) rfl ?_
      try (refine o_slot (i64w (by omega) (by omega)) ?_)
      refine o_p (p_pure rfl) rfl ?_
      refine o_p (p_pure rfl) rfl ?_
      refine o_q (q_call rfl fn_41 rfl (fun w1 h1 => c41 w1 (at4 hf (p + 12)) (by omega))) rfl ?_
      refine o_p (p_pure rfl) rfl ?_
      try (refine o_slot (i64w (by omega) (by omega)) ?_)
      refine o_p (p_slice_str _ _ (a + (p + (at4 hf (p + 12)).toNat)) (a + (p + ((at4 hf (p + 12)).toNat + padN (at4 hf (p + 12))))) rfl rfl Tryz.underlying9 ⟨_, _, rfl, (by omega)⟩ ⟨_, _, rfl, (by omega)⟩ (by omega) (by omega)) rfl ?_
      refine o_slot (show _ = Value.string (bs (padI hf p)) from by rw [hs.cut (by omega), cutI]; unfold padI; rw [show p + ((at4 hf (p + 12)).toNat + padN (at4 hf (p + 12))) - (p + (at4 hf (p + 12)).toNat) = padN (at4 hf (p + 12)) from by omega]) ?_
      refine o_q (q_call rfl fn_66 rfl (fun w1 h1 => c66 w1 (padI hf p) (by omega))) rfl ?_
      refine o_p (p_pure rfl) rfl ?_
      refine o_p (p_pure rfl) rfl ?_
      refine o_or 7 68 75 _ _ rfl
        (by
          intro hg16
          have hs17 := hg16; try simp only [decide_eq_true_eq, decide_eq_false_iff_not, Bool.not_eq_true', Bool.not_eq_false', Bool.and_eq_true, Bool.or_eq_true, Bool.and_eq_false_iff, Bool.or_eq_false_iff, Bool.not_true, Bool.not_false] at hs17
          refine o_on 68 _ rfl rfl hg16 ?_
          refine o_p (p_pure rfl) rfl ?_
          refine o_on 68 _ rfl rfl hg16 ?_
          refine o_p (p_pure rfl) rfl ?_
          refine o_on 68 _ rfl rfl hg16 ?_
          refine o_q (q_call rfl fn_65 rfl (fun w1 h1 => by have h9 := c65 w1 s (a + p) 4 (by omega) (by omega) (by omega); rw [litN_4, show (a + p) = a + (p + 0) from by omega, hs.at4 (q := p + 0) (by omega)] at h9; exact h9)) rfl ?_
          refine o_on 68 _ rfl rfl hg16 ?_
          refine o_p (p_pure rfl) rfl ?_
          refine o_on 68 _ rfl rfl hg16 ?_
          refine o_q (q_call rfl fn_39 rfl (fun w1 h1 => c39 w1 (bodyI hf p) (by omega))) rfl ?_
          refine o_on 68 _ rfl rfl hg16 ?_
          refine o_p (p_pure rfl) rfl ?_
          refine o_p (p_pickf rfl rfl hg16 rfl) rfl ?_
          refine o_nil ?_
          exact s_joinN 7 75 _ rfl rfl rfl (fun w h => by first | exact h | exact h.ent aEt))
        (by
          intro hg18
          have hs19 := hg18; try simp only [decide_eq_true_eq, decide_eq_false_iff_not, Bool.not_eq_true', Bool.not_eq_false', Bool.and_eq_true, Bool.or_eq_true, Bool.and_eq_false_iff, Bool.or_eq_false_iff, Bool.not_true, Bool.not_false] at hs19
          refine o_off 68 _ rfl rfl hg18 rfl ?_
          refine o_off 68 _ rfl rfl hg18 rfl ?_
          refine o_off 68 _ rfl rfl hg18 rfl ?_
          refine o_off 68 _ rfl rfl hg18 rfl ?_
          refine o_off 68 _ rfl rfl hg18 rfl ?_
          refine o_off 68 _ rfl rfl hg18 rfl ?_
          refine o_p (p_pickt rfl rfl hg18 rfl) rfl ?_
          refine o_nil ?_
          exact s_joinN 7 75 _ rfl rfl rfl (fun w h => by first | exact h | exact h.ent aEt)) ?_
      refine o_nil ?_
      refine s_cond rfl (fun h20 => ?_) (fun h20 => ?_)
      · try simp only [decide_eq_true_eq, decide_eq_false_iff_not, Bool.not_eq_true', Bool.not_eq_false', Bool.and_eq_true, Bool.or_eq_true, Bool.and_eq_false_iff, Bool.or_eq_false_iff, Bool.not_true, Bool.not_false] at h20
        have hbad : ¬ (allZ (padI hf p) && decide (at4 hf p = hashS (bodyI hf p))) = true := by intro h9; simp only [Bool.and_eq_true, decide_eq_true_eq] at h9; have hq := h20; first | (simp [h9.1, h9.2] at hq; done) | (simp at hq; simp [h9.1, h9.2] at hq; done) | (have hg := hg18; simp [h9.1, h9.2] at hq hg; done)
        rw [if_neg hbad] at hT
        refine s_seq ?_
        refine s_region ?_
        refine o_p (p_build (cs := [_, _]) rfl rfl pl_50 zr_50 rfl) rfl ?_
        refine o_h0 (h_store rfl rfl rfl sz_50 rfl aPt (by simp only [setMany_length, List.length_set, List.length_cons, List.length_nil, List.length_map]; omega) rfl) (fun _ _ => ?_)
        refine o_p (p_pure rfl) rfl ?_
        refine o_p (p_pure rfl) rfl ?_
        refine o_nil ?_
        exact s_retv (rs := [.cell 8 50, .tmp 9, .tmp 10]) rfl (.cell rfl sz_50 aPk rfl (.tmp rfl (.tmp rfl (.nil)))) (fun w' h' => ⟨by rw [hT]; rfl, h'.below⟩)
      · try simp only [decide_eq_true_eq, decide_eq_false_iff_not, Bool.not_eq_true', Bool.not_eq_false', Bool.and_eq_true, Bool.or_eq_true, Bool.and_eq_false_iff, Bool.or_eq_false_iff, Bool.not_true, Bool.not_false] at h20
        have hgood : (allZ (padI hf p) && decide (at4 hf p = hashS (bodyI hf p))) = true := by have hq := h20; first | (simpa using hq) | (simp only [Bool.and_eq_true, decide_eq_true_eq]; simp at hq; exact hq) | (have hg := hg18; simp at hq hg; simp [hq, hg]) | (simp_all; done)
        rw [if_pos hgood] at hT
        refine s_skip ?_
        refine s_seq ?_
        refine s_region ?_
        refine o_p (p_pure rfl) rfl ?_
        refine o_p (p_pure rfl) rfl ?_
        refine o_p (p_pure rfl) rfl ?_
        try (refine o_slot (i64w (by omega) (by omega)) ?_)
        refine o_slot (show _ = Value.int .i64 ((a + p + 4 : Nat) : Int) from by first | rfl | (exact congrArg (Value.int .i64) (by omega))) ?_
        refine o_q (q_call rfl fn_65 rfl (fun w1 h1 => by have h9 := c65 w1 s (a + p + 4) 4 (by omega) (by omega) (by omega); rw [litN_4, show (a + p + 4) = a + (p + 4) from by omega, hs.at4 (q := p + 4) (by omega)] at h9; exact h9)) rfl ?_
        refine o_p (p_pure rfl) rfl ?_
        refine o_p (p_build (cs := [_, _]) rfl rfl pl_50 zr_50 rfl) rfl ?_
        refine o_p (p_pure rfl) rfl ?_
        refine o_q (q_call rfl fn_41 rfl (fun w1 h1 => c41 w1 (at4 hf (p + 12)) (by omega))) rfl ?_
        refine o_h0 (h_store rfl rfl rfl sz_50 rfl aPt (by simp only [setMany_length, List.length_set, List.length_cons, List.length_nil, List.length_map]; omega) rfl) (fun _ _ => ?_)
        refine o_p (p_pure rfl) rfl ?_
        refine o_p (p_pure rfl) rfl ?_
        refine o_nil ?_
        exact s_retv (rs := [.cell 8 50, .tmp 9, .tmp 10]) rfl (.cell rfl sz_50 aPk rfl (.tmp rfl (.tmp rfl (.nil)))) (fun w' h' => ⟨by rw [hT]; rfl, h'.below⟩)

end Go.Proofs

namespace Go.Proofs
open Go Go.RowKit Gx
set_option linter.unusedVariables false
set_option linter.unusedSimpArgs false
attribute [local irreducible] Go.Calls Gx.S Gx.O Gx.D Gx.OpP Gx.OpQ Gx.OpH

theorem fn_34 : isFn Tryz.prog 34 = true := by kernel_rfl
theorem fn_35 : isFn Tryz.prog 35 = true := by kernel_rfl
theorem fn_36 : isFn Tryz.prog 36 = true := by kernel_rfl
theorem fn_13 : isFn Tryz.prog 13 = true := by kernel_rfl
theorem fn_18 : isFn Tryz.prog 18 = true := by kernel_rfl
theorem fn_40 : isFn Tryz.prog 40 = true := by kernel_rfl


attribute [local irreducible] Gx.h1S Gx.h2S Gx.inS Gx.inB Gx.inL Gx.itA Gx.isHd Gx.stoE Gx.upT Gx.at4 Gx.strE Gx.itR Gx.halfK Gx.halfS Gx.plsI Gx.hashS Gx.sumS

set_option maxRecDepth 20000 in
set_option maxHeartbeats 4000000 in
theorem c10 (w : World) (s : List UInt8) (hm : s.length ≤ 100000) : Calls Tryz.prog 10 #[.string (bs s)] w fun en w' => ∃ g : (Option Addr × Nat) × (Option Addr × Nat), en = .returned (.tuple #[.agg #[.int .i64 (inS s).nx, .slice g.1.1 (inS s).l.length g.1.2], .slice g.2.1 (inS s).dm.length g.2.2, .int .i64 (inS s).e]) ∧ True ∧ HS w [] [.own (.slice g.1.1 (inS s).l.length g.1.2) 50 2 (inS s).l.length ((inS s).l.flatMap SItm.vals), .own (.slice g.2.1 (inS s).dm.length g.2.2) 3 1 (inS s).dm.length ((inS s).dm.map nv)] w' := by
  refine enter (args := [_]) Tryz.func10 Tryz.ntmps10 rfl rfl (HS.refl w []) ?_
  refine s_seq ?_
  refine s_region ?_
  refine o_h (h_alloc rfl zr_24) rfl (fun b1 _ => ?_)
  refine o_p (p_pure rfl) rfl ?_
  refine o_p (p_pure rfl) rfl ?_
  refine o_nil ?_
  refine s_seq ?_
  refine s_region ?_
  refine o_p (p_build (cs := [_, _]) rfl rfl pl_24 zr_24 rfl) rfl ?_
  refine o_h (h_alloc rfl zr_24) rfl (fun b2 _ => ?_)
  refine o_h0 (h_store rfl rfl rfl sz_24 rfl aPt (by simp only [setMany_length, List.length_set, List.length_cons, List.length_nil, List.length_map]; omega) rfl) (fun _ _ => ?_)
  refine o_nil ?_
  refine s_seq ?_
  refine s_seq ?_
  refine s_region ?_
  refine o_p (p_pure rfl) rfl ?_
  refine o_q (q_call rfl fn_34 rfl (fun w1 h1 => c34 w1 s (by omega))) rfl ?_
  refine o_p (p_pure rfl) rfl ?_
  refine o_nil ?_
  refine s_seq ?_
  refine s_region ?_
  refine o_p (p_pure rfl) rfl ?_
  refine o_p (p_pure rfl) rfl ?_
  refine o_nil ?_
  refine s_cond rfl (fun h3 => ?_) (fun h3 => ?_)
  · try simp only [decide_eq_true_eq, decide_eq_false_iff_not, Bool.not_eq_true', Bool.not_eq_false', Bool.and_eq_true, Bool.or_eq_true, Bool.and_eq_false_iff, Bool.or_eq_false_iff, Bool.not_true, Bool.not_false] at h3
    have h0 : ¬ strE s = 0 := h3
    have hT := inS_0 h0
    refine s_seq ?_
    refine s_region ?_
    refine o_q (q_loadn rfl rfl sz_24 aPk rfl) rfl ?_
    refine o_p (p_pure rfl) rfl ?_
    refine o_h0 (h_store rfl rfl rfl sz_24 rfl aPt (by simp only [setMany_length, List.length_set, List.length_cons, List.length_nil, List.length_map]; omega) rfl) (fun _ _ => ?_)
    refine o_p (p_pure rfl) rfl ?_
    refine o_p (p_pure rfl) rfl ?_
    refine o_nil ?_
    exact s_retv (rs := [.cell 2 24, .tmp 3, .tmp 4]) rfl (.cell rfl sz_24 aPk rfl (.tmp rfl (.tmp rfl (.nil)))) (fun w' h' => ⟨((none, 0), (none, 0)), by rw [hT]; rfl, trivial, by rw [hT]; exact ((h'.own_nil 50 2).own_nil 3 1).ent aEt⟩)
  · try simp only [decide_eq_true_eq, decide_eq_false_iff_not, Bool.not_eq_true', Bool.not_eq_false', Bool.and_eq_true, Bool.or_eq_true, Bool.and_eq_false_iff, Bool.or_eq_false_iff, Bool.not_true, Bool.not_false] at h3
    have h0 : strE s = 0 := h3
    obtain ⟨hs1, hs2, hs3⟩ := strE_ok h0
    have hl1 := h1S_len (s := s) (by omega)
    have hl2 := h2S_len s
    have hl21 : (h2S s).length = (h1S s).length := by rw [hl1, hl2]
    refine s_skip ?_
    refine s_seq ?_
    refine s_region ?_
    refine o_p (p_pure rfl) rfl ?_
    try (refine o_class (C' := HS w [] [.own (.slice none 0 0) 3 1 0 [], .blk b2 24 2 [.int .i64 0, .slice none 0 0], .blk b1 24 2 [.int .i64 0, .slice none 0 0]]) (fun w h => (h.own_nil 3 1).ent aEt) ?_)
    refine o_nil ?_
    refine s_seq ?_
    refine s_region ?_
    refine o_p (p_pure rfl) rfl ?_
    refine o_q (q_call rfl fn_35 rfl (fun w1 h1 => c35 w1 s (h1S s) 0 (by omega) (seg_1 (by omega)) (by omega))) rfl ?_
    refine o_p (p_pure rfl) rfl ?_
    refine o_p (p_pure rfl) rfl ?_
    refine o_p (p_pure rfl) rfl ?_
    refine o_p (p_pure rfl) rfl ?_
    refine o_p (p_pure rfl) rfl ?_
    refine o_p (p_pure rfl) rfl ?_
    refine o_p (p_pure rfl) rfl ?_
    refine o_nil ?_
    refine s_seq ?_
    refine s_seq ?_
    refine s_region ?_
    refine o_p (p_pure rfl) rfl ?_
    refine o_p (p_pure rfl) rfl ?_
    refine o_nil ?_
    refine s_weaken (L' := [(0, _), (2, _), (3, _), (4, _), (5, _), (7, _), (8, _), (9, _), (10, _), (31, _)]) aSx (fun _ h => h) ?_
    refine s_cutI (α := List UInt8 × List Int × (Option Addr × Nat)) [7, 8, 9, 10, 32, 33, 34, 35, 36, 37, 38, 39, 40] (fun x => [(8, .int .i64 (at4 x.1 4)), (9, .int .i64 (at4 x.1 8)), (10, .bool (isHd x.1)), (7, .slice x.2.2.1 x.2.1.length x.2.2.2)]) (fun x => HS w [] [.own (.slice x.2.2.1 x.2.1.length x.2.2.2) 3 1 x.2.1.length (x.2.1.map nv), .blk b2 24 2 [.int .i64 0, .slice none 0 0], .blk b1 24 2 [.int .i64 0, .slice none 0 0]]) (fun x => (isHd x.1 = true → inS s = inB (h1S s) (h2S s) x.1 x.2.1) ∧ (¬ isHd x.1 = true → inS s = inE 31) ∧ x.2.1.length ≤ 1) ?_ ?_
    · skip
      refine s_cond rfl (fun h4 => ?_) (fun h4 => ?_)
      · try simp only [decide_eq_true_eq, decide_eq_false_iff_not, Bool.not_eq_true', Bool.not_eq_false', Bool.and_eq_true, Bool.or_eq_true, Bool.and_eq_false_iff, Bool.or_eq_false_iff, Bool.not_true, Bool.not_false] at h4
        have hd1 : ¬ isHd (h1S s) = true := by have hq := h4; simpa using hq
        refine s_seq ?_
        refine s_region ?_
        refine o_p (p_pure rfl) rfl ?_
        refine o_h (h_buildSlice (cs := [_]) rfl rfl sl_31 zr_3 rfl rfl rfl) rfl (fun b5 _ => ?_)
        refine o_h (h_appendS _ rfl rfl rfl sl_31 Tryz.underlying31 zr_3 rfl aPk (src_blk aPk) rfl (by intro u hu; simp only [List.mem_cons, List.mem_nil_iff, or_false] at hu; subst hu; rfl) (by omega) (by simp only [maxLen]; omega)) rfl (fun b6 _ => ?_)
        refine o_p (p_pure rfl) rfl ?_
        refine o_nil ?_
        refine s_region ?_
        refine o_p (p_pure rfl) rfl ?_
        refine o_q (q_call rfl fn_35 rfl (fun w1 h1 => c35 w1 s (h2S s) 8192 (by omega) (seg_2 (by omega)) (by omega))) rfl ?_
        refine o_p (p_pure rfl) rfl ?_
        refine o_p (p_pure rfl) rfl ?_
        refine o_p (p_pure rfl) rfl ?_
        refine o_p (p_pure rfl) rfl ?_
        refine o_p (p_pure rfl) rfl ?_
        refine o_p (p_pure rfl) rfl ?_
        refine o_p (p_pure rfl) rfl ?_
        refine o_nil ?_
        exact s_joinI ((h2S s), [-1], b6) ⟨fun h9 => inS_2 h0 hd1 h9, fun h9 => inS_3 h0 hd1 h9, Nat.le_refl _⟩ aSx (fun w h => h.ent aEt)
      · try simp only [decide_eq_true_eq, decide_eq_false_iff_not, Bool.not_eq_true', Bool.not_eq_false', Bool.and_eq_true, Bool.or_eq_true, Bool.and_eq_false_iff, Bool.or_eq_false_iff, Bool.not_true, Bool.not_false] at h4
        have hd1 : isHd (h1S s) = true := by have hq := h4; simpa using hq
        refine s_skip ?_
        exact s_joinI ((h1S s), [], (none, 0)) ⟨fun h9 => inS_1 h0 h9, fun h9 => absurd hd1 h9, Nat.zero_le _⟩ aSx (fun w h => h.ent aEt)
    · intro x hx
      obtain ⟨hx1, hx2, hx3⟩ := hx
      refine s_seq ?_
      refine s_seq ?_
      refine s_region ?_
      refine o_p (p_pure rfl) rfl ?_
      refine o_p (p_pure rfl) rfl ?_
      refine o_nil ?_
      refine s_cond rfl (fun h7 => ?_) (fun h7 => ?_)
      · try simp only [decide_eq_true_eq, decide_eq_false_iff_not, Bool.not_eq_true', Bool.not_eq_false', Bool.and_eq_true, Bool.or_eq_true, Bool.and_eq_false_iff, Bool.or_eq_false_iff, Bool.not_true, Bool.not_false] at h7
        have hd2 : ¬ isHd x.1 = true := by have hq := h7; simpa using hq
        have hT := hx2 hd2
        refine s_seq ?_
        refine s_region ?_
        refine o_q (q_loadn rfl rfl sz_24 aPk rfl) rfl ?_
        refine o_h0 (h_store rfl rfl rfl sz_24 rfl aPt (by simp only [setMany_length, List.length_set, List.length_cons, List.length_nil, List.length_map]; omega) rfl) (fun _ _ => ?_)
        refine o_p (p_pure rfl) rfl ?_
        refine o_p (p_pure rfl) rfl ?_
        refine o_nil ?_
        exact s_retv (rs := [.cell 2 24, .tmp 3, .tmp 4]) rfl (.cell rfl sz_24 aPk rfl (.tmp rfl (.tmp rfl (.nil)))) (fun w' h' => ⟨((none, 0), (none, 0)), by rw [hT]; rfl, trivial, by rw [hT]; exact ((h'.own_nil 50 2).own_nil 3 1).ent aEt⟩)
      · try simp only [decide_eq_true_eq, decide_eq_false_iff_not, Bool.not_eq_true', Bool.not_eq_false', Bool.and_eq_true, Bool.or_eq_true, Bool.and_eq_false_iff, Bool.or_eq_false_iff, Bool.not_true, Bool.not_false] at h7
        have hd2 : isHd x.1 = true := by have hq := h7; simpa using hq
        have hx4 := hx1 hd2
        have hx5 := at4_le x.1 8
        refine s_skip ?_
        refine s_seq ?_
        refine s_seq ?_
        refine s_region ?_
        refine o_p (p_pure rfl) rfl ?_
        refine o_q (q_call rfl fn_16 rfl (fun w1 h1 => c16 w1 _ _ _)) rfl ?_
        refine o_p (p_pure rfl) rfl ?_
        refine o_p (p_pure rfl) rfl ?_
        refine o_or 4 47 51 _ _ rfl
          (by
            intro hg8
            have hs9 := hg8; try simp only [decide_eq_true_eq, decide_eq_false_iff_not, Bool.not_eq_true', Bool.not_eq_false', Bool.and_eq_true, Bool.or_eq_true, Bool.and_eq_false_iff, Bool.or_eq_false_iff, Bool.not_true, Bool.not_false] at hs9
            refine o_on 47 _ rfl rfl hg8 ?_
            refine o_p (p_pure rfl) rfl ?_
            refine o_on 47 _ rfl rfl hg8 ?_
            refine o_p (p_rem_nn rfl rfl rfl (by omega) (by omega)) rfl ?_
            refine o_on 47 _ rfl rfl hg8 ?_
            refine o_p (p_pure rfl) rfl ?_
            refine o_p (p_pickf rfl rfl hg8 rfl) rfl ?_
            refine o_nil ?_
            exact s_joinN 4 51 _ rfl rfl rfl (fun w h => by first | exact h | exact h.ent aEt))
          (by
            intro hg10
            have hs11 := hg10; try simp only [decide_eq_true_eq, decide_eq_false_iff_not, Bool.not_eq_true', Bool.not_eq_false', Bool.and_eq_true, Bool.or_eq_true, Bool.and_eq_false_iff, Bool.or_eq_false_iff, Bool.not_true, Bool.not_false] at hs11
            refine o_off 47 _ rfl rfl hg10 rfl ?_
            refine o_off 47 _ rfl rfl hg10 rfl ?_
            refine o_off 47 _ rfl rfl hg10 rfl ?_
            refine o_p (p_pickt rfl rfl hg10 rfl) rfl ?_
            refine o_nil ?_
            exact s_joinN 4 51 _ rfl rfl rfl (fun w h => by first | exact h | exact h.ent aEt)) ?_
        refine o_p (p_pure rfl) rfl ?_
        refine o_or 6 52 58 _ _ rfl
          (by
            intro hg12
            have hs13 := hg12; try simp only [decide_eq_true_eq, decide_eq_false_iff_not, Bool.not_eq_true', Bool.not_eq_false', Bool.and_eq_true, Bool.or_eq_true, Bool.and_eq_false_iff, Bool.or_eq_false_iff, Bool.not_true, Bool.not_false] at hs13
            refine o_on 52 _ rfl rfl hg12 ?_
            refine o_p (p_pure rfl) rfl ?_
            refine o_on 52 _ rfl rfl hg12 ?_
            refine o_p (p_pure rfl) rfl ?_
            refine o_on 52 _ rfl rfl hg12 ?_
            refine o_p (p_len_str rfl rfl Tryz.underlying9) rfl ?_
            refine o_on 52 _ rfl rfl hg12 ?_
            refine o_p (p_pure rfl) rfl ?_
            try (refine o_slot (i64w (by omega) (by omega)) ?_)
            refine o_on 52 _ rfl rfl hg12 ?_
            refine o_p (p_pure rfl) rfl ?_
            refine o_p (p_pickf rfl rfl hg12 rfl) rfl ?_
            refine o_nil ?_
            exact s_joinN 6 58 _ rfl rfl rfl (fun w h => by first | exact h | exact h.ent aEt))
          (by
            intro hg14
            have hs15 := hg14; try simp only [decide_eq_true_eq, decide_eq_false_iff_not, Bool.not_eq_true', Bool.not_eq_false', Bool.and_eq_true, Bool.or_eq_true, Bool.and_eq_false_iff, Bool.or_eq_false_iff, Bool.not_true, Bool.not_false] at hs15
            refine o_off 52 _ rfl rfl hg14 rfl ?_
            refine o_off 52 _ rfl rfl hg14 rfl ?_
            refine o_off 52 _ rfl rfl hg14 rfl ?_
            refine o_off 52 _ rfl rfl hg14 rfl ?_
            refine o_off 52 _ rfl rfl hg14 rfl ?_
            refine o_p (p_pickt rfl rfl hg14 rfl) rfl ?_
            refine o_nil ?_
            exact s_joinN 6 58 _ rfl rfl rfl (fun w h => by first | exact h | exact h.ent aEt)) ?_
        refine o_nil ?_
        refine s_cond rfl (fun h16 => ?_) (fun h16 => ?_)
        · try simp only [decide_eq_true_eq, decide_eq_false_iff_not, Bool.not_eq_true', Bool.not_eq_false', Bool.and_eq_true, Bool.or_eq_true, Bool.and_eq_false_iff, Bool.or_eq_false_iff, Bool.not_true, Bool.not_false] at h16
          have h8 : ¬ at4 x.1 8 = (h1S s).length := by intro h9; first | (have hq := h16; omega) | (have hq := h16; simp at hq; omega)
          have hT : inS s = inE 3 := hx4.trans (inB_form h8)
          refine s_seq ?_
          refine s_region ?_
          refine o_q (q_loadn rfl rfl sz_24 aPk rfl) rfl ?_
          refine o_h0 (h_store rfl rfl rfl sz_24 rfl aPt (by simp only [setMany_length, List.length_set, List.length_cons, List.length_nil, List.length_map]; omega) rfl) (fun _ _ => ?_)
          refine o_p (p_pure rfl) rfl ?_
          refine o_p (p_pure rfl) rfl ?_
          refine o_nil ?_
          exact s_retv (rs := [.cell 2 24, .tmp 3, .tmp 4]) rfl (.cell rfl sz_24 aPk rfl (.tmp rfl (.tmp rfl (.nil)))) (fun w' h' => ⟨((none, 0), (none, 0)), by rw [hT]; rfl, trivial, by rw [hT]; exact ((h'.own_nil 50 2).own_nil 3 1).ent aEt⟩)
        · try simp only [decide_eq_true_eq, decide_eq_false_iff_not, Bool.not_eq_true', Bool.not_eq_false', Bool.and_eq_true, Bool.or_eq_true, Bool.and_eq_false_iff, Bool.or_eq_false_iff, Bool.not_true, Bool.not_false] at h16
          have h8 : at4 x.1 8 = (h1S s).length := by first | (have hq := h16; omega) | (have hq := h16; simp at hq; omega)
          rw [h8]
          refine s_skip ?_
          refine s_seq ?_
          refine s_region ?_
          refine o_p (p_pure rfl) rfl ?_
          refine o_p (p_build (cs := [_, _]) rfl rfl pl_24 zr_24 rfl) rfl ?_
          refine o_h (h_alloc rfl zr_24) rfl (fun b17 _ => ?_)
          refine o_h0 (h_store rfl rfl rfl sz_24 rfl aPt (by simp only [setMany_length, List.length_set, List.length_cons, List.length_nil, List.length_map]; omega) rfl) (fun _ _ => ?_)
          refine o_nil ?_
          refine s_seq ?_
          refine s_seq ?_
          refine s_region ?_
          refine o_p (p_pure rfl) rfl ?_
          refine o_nil ?_
          refine s_block ?_
          refine s_weaken (L' := [(0, _), (2, _), (3, _), (4, _), (5, _), (7, _), (9, _), (11, _), (12, _)]) aSx (fun _ h => h) ?_
          refine s_loopI (α := Nat × Nat × List SItm × List Int × (Option Addr × Nat) × (Option Addr × Nat)) [3, 4, 7, 12, 13, 14, 15, 62, 63, 64, 65, 66, 67, 68, 69, 70, 71, 72, 73, 74, 75, 76, 77, 78, 79, 80, 81, 82, 83, 84, 85, 86, 87, 88, 89, 90, 91, 92, 93, 94, 95, 96, 97, 98, 99, 100] (fun y => [(12, .int .i64 (y.2.1 : Int)), (7, .slice y.2.2.2.2.2.1 y.2.2.2.1.length y.2.2.2.2.2.2)]) (fun y => HS w [] [.blk b17 24 2 [.int .i64 (at4 x.1 4), .slice y.2.2.2.2.1.1 y.2.2.1.length y.2.2.2.2.1.2], .own (.slice y.2.2.2.2.1.1 y.2.2.1.length y.2.2.2.2.1.2) 50 2 y.2.2.1.length (y.2.2.1.flatMap SItm.vals), .own (.slice y.2.2.2.2.2.1 y.2.2.2.1.length y.2.2.2.2.2.2) 3 1 y.2.2.2.1.length (y.2.2.2.1.map nv), .blk b2 24 2 [.int .i64 0, .slice none 0 0], .blk b1 24 2 [.int .i64 0, .slice none 0 0]]) (fun y => (y.2.1 ≤ (h1S s).length ∧ (h1S s).length - y.2.1 ≤ y.1) ∧ inL (h1S s) (h2S s) (h1S s).length 16 [] x.2.1 = inL (h1S s) (h2S s) y.1 y.2.1 y.2.2.1 y.2.2.2.1 ∧ y.2.2.1.length ≤ y.2.1 ∧ y.2.2.2.1.length ≤ y.2.1 ∧ ∀ q ∈ y.2.2.1, q.by_.length ≤ 100000) (fun y => (h1S s).length - y.2.1) ((h1S s).length, 16, [], x.2.1, (none, 0), x.2.2) ⟨by (try simp only []); omega, rfl, Nat.zero_le _, by (try simp only []); omega, fun q hq => by cases hq⟩ aSx (fun w h => (h.own_nil 50 2).ent aEt) (fun ⟨ff, p, l, dm, gl, gd⟩ hy => ?_)
          dsimp only
          obtain ⟨⟨hk0, hk1⟩, hk2, hk3, hk4, hk5⟩ := hy
          simp only [] at hk0 hk1 hk2 hk3 hk4 hk5
          refine s_seq ?_
          refine s_seq ?_
          refine s_region ?_
          refine o_p (p_pure rfl) rfl ?_
          refine o_p (p_pure rfl) rfl ?_
          refine o_p (p_pure rfl) rfl ?_
          refine o_nil ?_
          refine s_cond rfl (fun h18 => ?_) (fun h18 => ?_)
          · try simp only [decide_eq_true_eq, decide_eq_false_iff_not, Bool.not_eq_true', Bool.not_eq_false', Bool.and_eq_true, Bool.or_eq_true, Bool.and_eq_false_iff, Bool.or_eq_false_iff, Bool.not_true, Bool.not_false] at h18
            have hk : p < (h1S s).length := by omega
            obtain ⟨f, rfl⟩ : ∃ f, ff = f + 1 := ⟨ff - 1, by omega⟩
            refine s_skip ?_
            refine s_block ?_
            refine s_seq ?_
            refine s_region ?_
            refine o_p (p_pure rfl) rfl ?_
            refine o_p (p_pure rfl) rfl ?_
            refine o_p (p_pure rfl) rfl ?_
            refine o_q (q_call rfl fn_36 rfl (fun w1 h1 => c36 w1 s (h1S s) 0 p (by omega) (seg_1 (by omega)) (by omega))) rfl ?_
            refine o_p (p_pure rfl) rfl ?_
            refine o_p (p_pure rfl) rfl ?_
            refine o_p (p_pure rfl) rfl ?_
            refine o_p (p_pure rfl) rfl ?_
            refine o_h (h_alloc rfl zr_50) rfl (fun b19 _ => ?_)
            refine o_h0 (h_store rfl rfl rfl sz_50 rfl aPt (by simp only [setMany_length, List.length_set, List.length_cons, List.length_nil, List.length_map]; omega) rfl) (fun _ _ => ?_)
            refine o_p (p_pure rfl) rfl ?_
            refine o_p (p_pure rfl) rfl ?_
            refine o_nil ?_
            refine s_seq ?_
            refine s_seq ?_
            refine s_region ?_
            refine o_p (p_pure rfl) rfl ?_
            refine o_p (p_pure rfl) rfl ?_
            refine o_nil ?_
            refine s_weaken (L' := [(0, _), (2, _), (5, _), (7, _), (9, _), (11, _), (12, _), (13, _), (14, _), (15, _), (74, _)]) aSx (fun _ h => h) ?_
            refine s_cutI (α := ItR × List Int × (Option Addr × Nat)) [7, 14, 15, 75, 76, 77, 78, 79, 80, 81, 82, 83, 84, 85, 86, 87, 88] (fun z => [(14, .int .i64 z.1.n), (15, .bool z.1.ok), (7, .slice z.2.2.1 z.2.1.length z.2.2.2)]) (fun z => HS w [] [.blk b19 50 2 [.int .i64 z.1.x.id, .string (bs z.1.x.by_)], .blk b17 24 2 [.int .i64 (at4 x.1 4), .slice gl.1 l.length gl.2], .own (.slice gl.1 l.length gl.2) 50 2 l.length (l.flatMap SItm.vals), .own (.slice z.2.2.1 z.2.1.length z.2.2.2) 3 1 z.2.1.length (z.2.1.map nv), .blk b2 24 2 [.int .i64 0, .slice none 0 0], .blk b1 24 2 [.int .i64 0, .slice none 0 0]]) (fun z => TookR (h1S s) (h2S s) f p l dm z.1 z.2.1) ?_ ?_
            · skip
              refine s_cond rfl (fun h20 => ?_) (fun h20 => ?_)
              · try simp only [decide_eq_true_eq, decide_eq_false_iff_not, Bool.not_eq_true', Bool.not_eq_false', Bool.and_eq_true, Bool.or_eq_true, Bool.and_eq_false_iff, Bool.or_eq_false_iff, Bool.not_true, Bool.not_false] at h20
                have ho1 : (itR (h1S s) p).ok = false := by have hq := h20; simpa using hq
                refine s_seq ?_
                refine s_region ?_
                refine o_p (p_pure rfl) rfl ?_
                refine o_p (p_fieldAddr rfl rfl fd_24_1 sz_22 rfl) rfl ?_
                refine o_q (q_load rfl rfl sz_22 aPk rfl) rfl ?_
                refine o_p (p_len_slice rfl rfl Tryz.underlying22) rfl ?_
                refine o_h (h_buildSlice (cs := [_]) rfl rfl sl_31 zr_3 rfl rfl rfl) rfl (fun b21 _ => ?_)
                refine o_h (h_appendS [_] rfl rfl rfl sl_31 Tryz.underlying31 zr_3 rfl aPk (src_blk aPk) rfl (by intro u hu; simp only [List.mem_cons, List.mem_nil_iff, or_false] at hu; subst hu; rfl) (by omega) (by simp only [maxLen]; omega)) rfl (fun b22 _ => ?_)
                refine o_p (p_pure rfl) rfl ?_
                refine o_nil ?_
                refine s_region ?_
                refine o_p (p_pure rfl) rfl ?_
                refine o_p (p_pure rfl) rfl ?_
                refine o_p (p_pure rfl) rfl ?_
                refine o_q (q_call rfl fn_36 rfl (fun w1 h1 => by have h9 := c36 w1 s (h2S s) 8192 p (by omega) (seg_2 (by omega)) (by omega); rw [hl21] at h9; exact h9)) rfl ?_
                refine o_p (p_pure rfl) rfl ?_
                refine o_p (p_pure rfl) rfl ?_
                refine o_p (p_pure rfl) rfl ?_
                refine o_p (p_pure rfl) rfl ?_
                refine o_h0 (h_store rfl rfl rfl sz_50 rfl aPt (by simp only [setMany_length, List.length_set, List.length_cons, List.length_nil, List.length_map]; omega) rfl) (fun _ _ => ?_)
                refine o_p (p_pure rfl) rfl ?_
                refine o_p (p_pure rfl) rfl ?_
                refine o_nil ?_
                exact s_joinI (itR (h2S s) p, dm ++ [(l.length : Int)], b22) (tookR_2 hk hl21 ho1) (by dsimp only; rw [List.length_append]; exact aSx) (fun w h => by dsimp only; rw [List.length_append, List.map_append]; exact h.ent aEt)
              · try simp only [decide_eq_true_eq, decide_eq_false_iff_not, Bool.not_eq_true', Bool.not_eq_false', Bool.and_eq_true, Bool.or_eq_true, Bool.and_eq_false_iff, Bool.or_eq_false_iff, Bool.not_true, Bool.not_false] at h20
                have ho1 : (itR (h1S s) p).ok = true := by have hq := h20; simpa using hq
                refine s_skip ?_
                exact s_joinI (itR (h1S s) p, dm, gd) (tookR_1 hk ho1) aSx (fun w h => h.ent aEt)
            · intro z hz
              refine s_seq ?_
              refine s_seq ?_
              refine s_region ?_
              refine o_p (p_pure rfl) rfl ?_
              refine o_p (p_pure rfl) rfl ?_
              refine o_nil ?_
              refine s_cond rfl (fun h23 => ?_) (fun h23 => ?_)
              · try simp only [decide_eq_true_eq, decide_eq_false_iff_not, Bool.not_eq_true', Bool.not_eq_false', Bool.and_eq_true, Bool.or_eq_true, Bool.and_eq_false_iff, Bool.or_eq_false_iff, Bool.not_true, Bool.not_false] at h23
                have ho2 : z.1.ok = false := by have hq := h23; simpa using hq
                have hT : inS s = inE 31 := hx4.trans (inB_none h8 (hk2.trans (tookR_no hz ho2)))
                refine s_seq ?_
                refine s_region ?_
                refine o_q (q_loadn rfl rfl sz_24 aPk rfl) rfl ?_
                refine o_h0 (h_store rfl rfl rfl sz_24 rfl aPt (by simp only [setMany_length, List.length_set, List.length_cons, List.length_nil, List.length_map]; omega) rfl) (fun _ _ => ?_)
                refine o_p (p_pure rfl) rfl ?_
                refine o_p (p_pure rfl) rfl ?_
                refine o_nil ?_
                exact s_retv (rs := [.cell 2 24, .tmp 3, .tmp 4]) rfl (.cell rfl sz_24 aPk rfl (.tmp rfl (.tmp rfl (.nil)))) (fun w' h' => ⟨((none, 0), (none, 0)), by rw [hT]; rfl, trivial, by rw [hT]; exact ((h'.own_nil 50 2).own_nil 3 1).ent aEt⟩)
              · try simp only [decide_eq_true_eq, decide_eq_false_iff_not, Bool.not_eq_true', Bool.not_eq_false', Bool.and_eq_true, Bool.or_eq_true, Bool.and_eq_false_iff, Bool.or_eq_false_iff, Bool.not_true, Bool.not_false] at h23
                have ho2 : z.1.ok = true := by have hq := h23; simpa using hq
                obtain ⟨ht1, ht2, ht3, ht4, ht5⟩ := tookR_ok hz ho2
                refine s_skip ?_
                refine s_seq ?_
                refine s_region ?_
                refine o_p (p_fieldAddr rfl rfl fd_24_1 sz_22 rfl) rfl ?_
                refine o_q (q_load rfl rfl sz_22 aPk rfl) rfl ?_
                refine o_q (q_loadn rfl rfl sz_50 aPk rfl) rfl ?_
                refine o_h (h_buildSlice (cs := [_, _]) rfl rfl sl_22 zr_50 rfl rfl rfl) rfl (fun b24 _ => ?_)
                refine o_h (h_appendS [_, _] rfl rfl rfl sl_22 Tryz.underlying22 zr_50 rfl aPk (src_blk aPk) rfl (sv1 z.1.x) (by omega) (by simp only [maxLen]; omega)) rfl (fun b25 _ => ?_)
                refine o_p (p_fieldAddr rfl rfl fd_24_1 sz_22 rfl) rfl ?_
                refine o_h0 (h_store rfl rfl rfl sz_22 rfl aPt (by simp only [setMany_length, List.length_set, List.length_cons, List.length_nil, List.length_map]; omega) rfl) (fun _ _ => ?_)
                refine o_nil ?_
                refine s_region ?_
                refine o_p (p_pure rfl) rfl ?_
                refine o_p (p_pure rfl) rfl ?_
                refine o_p (p_pure rfl) rfl ?_
                try (refine o_slot (i64w (by omega) (by omega)) ?_)
                refine o_p (p_pure rfl) rfl ?_
                refine o_nil ?_
                refine s_blk ?_
                exact s_backI (f, p + z.1.n.toNat, l ++ [z.1.x], z.2.1, b25, z.2.2) (by (try simp only []); omega) ⟨by (try simp only []); omega, by simp only []; rw [hk2]; exact ht1, by simp only [List.length_append, List.length_cons, List.length_nil]; omega, by (try simp only []); omega, fun q hq => by rcases List.mem_append.1 hq with hq | hq; exact hk5 q hq; rw [List.mem_singleton.1 hq]; omega⟩ (by dsimp only; rw [show ((p + z.1.n.toNat : Nat) : Int) = (p : Int) + z.1.n from by omega]; exact aSx) (fun w h => by dsimp only; rw [List.length_append, flat_append]; exact h.ent aEt)
          · try simp only [decide_eq_true_eq, decide_eq_false_iff_not, Bool.not_eq_true', Bool.not_eq_false', Bool.and_eq_true, Bool.or_eq_true, Bool.and_eq_false_iff, Bool.or_eq_false_iff, Bool.not_true, Bool.not_false] at h18
            have hk : ¬ p < (h1S s).length := by omega
            have hE := hk2.trans (inL_end hk)
            refine s_exit_to rfl ?_
            refine s_seq ?_
            refine s_seq ?_
            refine s_region ?_
            refine o_q (q_loadn rfl rfl sz_24 aPk rfl) rfl ?_
            refine o_q (q_call rfl fn_13 rfl (fun w1 h1 => c13 w1 (at4 x.1 4) gl.1 gl.2 l (HS.rw_own (a := gl.1) (l := l) sv2 h1 aPk rfl) (by omega) hk5)) rfl ?_
            refine o_p (p_pure rfl) rfl ?_
            refine o_nil ?_
            refine s_seq ?_
            refine s_region ?_
            refine o_p (p_pure rfl) rfl ?_
            refine o_p (p_pure rfl) rfl ?_
            refine o_nil ?_
            refine s_cond rfl (fun h26 => ?_) (fun h26 => ?_)
            · try simp only [decide_eq_true_eq, decide_eq_false_iff_not, Bool.not_eq_true', Bool.not_eq_false', Bool.and_eq_true, Bool.or_eq_true, Bool.and_eq_false_iff, Bool.or_eq_false_iff, Bool.not_true, Bool.not_false] at h26
              have he9 : ¬ (stoE (at4 x.1 4) l).2 = 0 := h26
              have hT : inS s = inE (stoE (at4 x.1 4) l).2 := hx4.trans (inB_bad h8 hE he9)
              refine s_seq ?_
              refine s_region ?_
              refine o_q (q_loadn rfl rfl sz_24 aPk rfl) rfl ?_
              refine o_p (p_pure rfl) rfl ?_
              refine o_h0 (h_store rfl rfl rfl sz_24 rfl aPt (by simp only [setMany_length, List.length_set, List.length_cons, List.length_nil, List.length_map]; omega) rfl) (fun _ _ => ?_)
              refine o_p (p_pure rfl) rfl ?_
              refine o_p (p_pure rfl) rfl ?_
              refine o_nil ?_
              exact s_retv (rs := [.cell 2 24, .tmp 3, .tmp 4]) rfl (.cell rfl sz_24 aPk rfl (.tmp rfl (.tmp rfl (.nil)))) (fun w' h' => ⟨((none, 0), (none, 0)), by rw [hT]; rfl, trivial, by rw [hT]; exact ((h'.own_nil 50 2).own_nil 3 1).ent aEt⟩)
            · try simp only [decide_eq_true_eq, decide_eq_false_iff_not, Bool.not_eq_true', Bool.not_eq_false', Bool.and_eq_true, Bool.or_eq_true, Bool.and_eq_false_iff, Bool.or_eq_false_iff, Bool.not_true, Bool.not_false] at h26
              have he9 : (stoE (at4 x.1 4) l).2 = 0 := h26
              have hT : inS s = ⟨at4 x.1 4, l, dm, 0⟩ := hx4.trans (inB_ok h8 hE he9)
              refine s_skip ?_
              refine s_seq ?_
              refine s_region ?_
              refine o_q (q_loadn rfl rfl sz_24 aPk rfl) rfl ?_
              refine o_p (p_pure rfl) rfl ?_
              refine o_h0 (h_store rfl rfl rfl sz_24 rfl aPt (by simp only [setMany_length, List.length_set, List.length_cons, List.length_nil, List.length_map]; omega) rfl) (fun _ _ => ?_)
              refine o_p (p_pure rfl) rfl ?_
              refine o_p (p_pure rfl) rfl ?_
              refine o_nil ?_
              exact s_retv (rs := [.cell 2 24, .tmp 3, .tmp 4]) rfl (.cell rfl sz_24 aPk rfl (.tmp rfl (.tmp rfl (.nil)))) (fun w' h' => ⟨(gl, gd), by rw [hT]; rfl, trivial, by rw [hT]; exact h'.ent aEt⟩)

set_option maxRecDepth 20000 in
set_option maxHeartbeats 2000000 in
theorem c14 (w : World) (nx : Int) (a : Option Addr) (cap : Nat) (l : List SItm) (hs : Rw SItm.vals 2 w [] a l) (hm : l.length ≤ 100000) (hb : ∀ x ∈ l, x.by_.length ≤ 100000) (hst0 : (stoE nx l).2 = 0) : Calls Tryz.prog 14 #[.agg #[.int .i64 nx, .slice a l.length cap]] w fun en w' => en = .returned (.string (bs (streamS nx l))) ∧ Below w.heap.size w w' := by
  obtain ⟨hnx, hl60, hit9, hpl9⟩ := sto_ok hst0
  have hple := pls_le' hb
  have hsu := sumS_le (hd0 nx (plsI l).2)
  have hhl := halfS_len nx l
  have hd0l : (hd0 nx (plsI l).2).length = 12 := rfl
  have hhsl : (headS nx (plsI l).2).length = 16 := rfl
  have hpl5 := pls_len' l
  refine enter (args := [_]) Tryz.func14 Tryz.ntmps14 rfl rfl (HS.refl w []) ?_
  refine s_seq ?_
  refine s_region ?_
  refine o_h (h_box rfl rfl) rfl (fun b1 _ => ?_)
  refine o_p (p_pure rfl) rfl ?_
  refine o_nil ?_
  refine s_seq ?_
  refine s_region ?_
  refine o_q (q_loadn rfl rfl sz_24 aPk rfl) rfl ?_
  refine o_h (h_call rfl fn_15 rfl (fun w1 h1 => c15 w1 nx a cap l (hs.later h1) hm hb)) rfl (fun gp _ => ?_)
  refine o_p (p_pure rfl) rfl ?_
  refine o_p (p_pure rfl) rfl ?_
  refine o_p (p_pure rfl) rfl ?_
  refine o_p (p_pure rfl) rfl ?_
  refine o_p (p_pure rfl) rfl ?_
  refine o_nil ?_
  refine s_seq ?_
  refine s_region ?_
  refine o_p (p_fieldAddr rfl rfl fd_24_0 sz_3 rfl) rfl ?_
  refine o_q (q_load rfl rfl sz_3 aPk rfl) rfl ?_
  refine o_q (q_call rfl fn_18 rfl (fun w1 h1 => by have h9 := c18 w1 nx 4 (by omega) (by omega); rw [litB_4] at h9; exact h9)) rfl ?_
  refine o_p (p_str_add rfl rfl rfl (by (try simp only [List.length_append, List.length_cons, List.length_nil, List.length_replicate, List.length_take, List.length_drop, List.length_append, List.length_replicate, nmB_len, List.length_cons, List.length_nil, show signB.length = 4 from rfl, show ∀ x, (le4 x).length = 4 from fun _ => rfl]); omega)) rfl ?_
  refine o_p (p_pure rfl) rfl ?_
  refine o_q (q_call rfl fn_18 rfl (fun w1 h1 => by have h9 := c18 w1 (plsI l).2 4 (by omega) (by omega); rw [litB_4] at h9; exact h9)) rfl ?_
  refine o_p (p_str_add rfl rfl rfl (by (try simp only [List.length_append, List.length_cons, List.length_nil, List.length_replicate, List.length_take, List.length_drop, List.length_append, List.length_replicate, nmB_len, List.length_cons, List.length_nil, show signB.length = 4 from rfl, show ∀ x, (le4 x).length = 4 from fun _ => rfl]); omega)) rfl ?_
  refine o_slot (show _ = Value.string (bs (hd0 nx (plsI l).2)) from by unfold hd0 nmB; simp only [List.flatMap_cons, List.flatMap_nil, List.append_nil, List.append_assoc]; rfl) ?_
  refine o_p (p_pure rfl) rfl ?_
  refine o_nil ?_
  refine s_seq ?_
  refine s_region ?_
  refine o_p (p_pure rfl) rfl ?_
  refine o_p (p_pure rfl) rfl ?_
  refine o_q (q_call rfl fn_38 rfl (fun w1 h1 => c38 w1 (hd0 nx (plsI l).2) (by omega))) rfl ?_
  refine o_q (q_call rfl fn_18 rfl (fun w1 h1 => by have h9 := c18 w1 (sumS (hd0 nx (plsI l).2)) 4 (by omega) (by omega); rw [litB_4] at h9; exact h9)) rfl ?_
  refine o_p (p_str_add rfl rfl rfl (by (try simp only [List.length_append, List.length_cons, List.length_nil, List.length_replicate, List.length_take, List.length_drop, List.length_append, List.length_replicate, nmB_len, List.length_cons, List.length_nil, show signB.length = 4 from rfl, show ∀ x, (le4 x).length = 4 from fun _ => rfl]); omega)) rfl ?_
  refine o_slot (show _ = Value.string (bs (headS nx (plsI l).2)) from by unfold headS nmB; simp only [List.flatMap_cons, List.flatMap_nil, List.append_nil]) ?_
  refine o_p (p_pure rfl) rfl ?_
  refine o_nil ?_
  refine s_seq ?_
  refine s_seq ?_
  refine s_region ?_
  refine o_p (p_pure rfl) rfl ?_
  refine o_nil ?_
  refine s_block ?_
  refine s_weaken (L' := [(1, _), (2, _), (3, _), (4, _), (6, _), (7, _)]) aSx (fun _ h => h) ?_
  refine s_loopI (α := Nat) [6, 7, 8, 9, 27, 28, 29, 30, 31, 32, 33, 34, 35, 36, 37, 38, 39, 40, 41, 42, 43, 44, 45, 46, 47, 48, 49, 50, 51, 52, 53, 54, 55, 56, 57, 58, 59, 60, 61, 62, 63, 64, 65, 66, 67, 68, 69, 70, 71, 72] (fun k => [(7, .int .i64 (k : Int)), (6, .string (bs (halfK nx l k)))]) (fun k => HS w [] [.own (.slice gp.1 l.length gp.2) 3 1 l.length ((plsI l).1.map nv), .blk b1 24 2 [.int .i64 nx, .slice a l.length cap]]) (fun k => k ≤ l.length) (fun k => l.length - k) 0 (Nat.zero_le _) (by rw [show halfK nx l 0 = headS nx (plsI l).2 from by unfold halfK; exact List.append_nil _]; exact aSx) (fun w h => h.ent aEt) (fun k hk1 => ?_)
  refine s_seq ?_
  refine s_seq ?_
  refine s_region ?_
  refine o_p (p_pure rfl) rfl ?_
  refine o_p (p_fieldAddr rfl rfl fd_24_1 sz_22 rfl) rfl ?_
  refine o_q (q_load rfl rfl sz_22 aPk rfl) rfl ?_
  refine o_p (p_len_slice rfl rfl Tryz.underlying22) rfl ?_
  refine o_p (p_pure rfl) rfl ?_
  refine o_nil ?_
  refine s_cond rfl (fun h2 => ?_) (fun h2 => ?_)
  · try simp only [decide_eq_true_eq, decide_eq_false_iff_not, Bool.not_eq_true', Bool.not_eq_false', Bool.and_eq_true, Bool.or_eq_true, Bool.and_eq_false_iff, Bool.or_eq_false_iff, Bool.not_true, Bool.not_false] at h2
    have hk : k < l.length := by omega
    have hrg := (itm_rng (hit9 k hk)).1
    have hbk : (nth l k).by_.length ≤ 100000 := hb _ (getD_mem hk)
    have hpk := pls_le hb k (by omega)
    have hpm := pls_mono hb l.length (Nat.le_refl _) k (by omega)
    rw [List.take_length] at hpm
    have hhk := halfK_len nx l k (by omega)
    have hha := hashS_le (nth l k).by_
    have hup : upT (ilen (nth l k)) - ilen (nth l k) = ((padN (ilen (nth l k)) : Nat) : Int) ∧ padN (ilen (nth l k)) ≤ 16 := by have := upT_le (ilen (nth l k)); unfold padN; omega
    have hil : ilen (nth l k) = 16 + ((nth l k).by_.length : Int) := rfl
    have hS1 : ((nmB [hashS (nth l k).by_, (nth l k).id, (plsI (l.take k)).2, ilen (nth l k)] ++ (nth l k).by_).length : Int) = ilen (nth l k) := by rw [List.length_append, nmB_len]; simp only [List.length_cons, List.length_nil]; omega
    have hsc : halfK nx l (k + 1) = (halfK nx l k) ++ (nmB [hashS (nth l k).by_, (nth l k).id, (plsI (l.take k)).2, ilen (nth l k)] ++ (nth l k).by_) ++ (List.replicate (padN (ilen (nth l k))) (0 : UInt8)) := by rw [halfK_succ]; unfold itmS; rw [← List.append_assoc]
    refine s_fact (fun w h => Vl.some (HS.vl_own (a := gp.1) (t := 3) h aPk) (by rw [List.length_map]; omega)) fun hsm => ?_
    refine s_skip ?_
    refine s_seq ?_
    refine s_block ?_
    refine s_seq ?_
    refine s_region ?_
    refine o_p (p_fieldAddr rfl rfl fd_24_1 sz_22 rfl) rfl ?_
    refine o_q (q_load rfl rfl sz_22 aPk rfl) rfl ?_
    refine o_p (p_pure rfl) rfl ?_
    refine o_p (p_indexAddr rfl rfl rfl sl_22 (k) (by omega) (by omega) (Rw.some hs (by omega))) rfl ?_
    refine o_q (q_load_oldn _ rfl rfl sz_50 rfl (Rw.rd hs hk)) rfl ?_
    refine o_h (h_alloc rfl zr_50) rfl (fun b3 _ => ?_)
    refine o_h0 (h_store rfl rfl rfl sz_50 rfl aPt (by simp only [setMany_length, List.length_set, List.length_cons, List.length_nil, List.length_map]; omega) rfl) (fun _ _ => ?_)
    refine o_nil ?_
    refine s_seq ?_
    refine s_draw [] mixed ?_
    refine d_p 0 rfl (p_fieldAddr rfl rfl fd_50_1 sz_9 rfl) (by kernel_rfl) rfl rfl ?_
    refine d_q 1 [] rfl (q_load rfl rfl sz_9 aPk rfl) (by kernel_rfl) (by kernel_rfl) (by kernel_rfl) rfl ?_
    refine d_q 2 [] rfl (q_call rfl fn_39 rfl (fun w1 h1 => c39 w1 (nth l k).by_ (by omega))) (by kernel_rfl) (by kernel_rfl) (by kernel_rfl) rfl ?_
    refine d_q 3 [] rfl (q_call rfl fn_18 rfl (fun w1 h1 => by have h9 := c18 w1 (hashS (nth l k).by_) 4 (by omega) (by omega); rw [litB_4] at h9; exact h9)) (by kernel_rfl) (by kernel_rfl) (by kernel_rfl) rfl ?_
    refine d_p 4 rfl (p_fieldAddr rfl rfl fd_50_0 sz_3 rfl) (by kernel_rfl) rfl rfl ?_
    refine d_q 5 [] rfl (q_load rfl rfl sz_3 aPk rfl) (by kernel_rfl) (by kernel_rfl) (by kernel_rfl) rfl ?_
    refine d_q 6 [] rfl (q_call rfl fn_18 rfl (fun w1 h1 => by have h9 := c18 w1 (nth l k).id 4 (by omega) (by omega); rw [litB_4] at h9; exact h9)) (by kernel_rfl) (by kernel_rfl) (by kernel_rfl) rfl ?_
    refine d_p 7 rfl (p_str_add rfl rfl rfl (by (try simp only [List.length_append, List.length_cons, List.length_nil, List.length_replicate, List.length_take, List.length_drop, List.length_append, List.length_replicate, nmB_len, List.length_cons, List.length_nil, show signB.length = 4 from rfl, show ∀ x, (le4 x).length = 4 from fun _ => rfl]); omega)) (by kernel_rfl) rfl rfl ?_
    refine d_p 8 rfl (p_pure rfl) (by kernel_rfl) rfl rfl ?_
    refine d_p 9 rfl (p_pure rfl) (by kernel_rfl) rfl rfl ?_
    refine d_p 10 rfl (p_indexAddr rfl rfl rfl sl_31 (k) (by omega) (by omega) hsm) (by kernel_rfl) rfl rfl ?_
    refine d_q 11 [] rfl (q_load_at rfl rfl sz_3 (fun w h => (HS.vl_own (a := gp.1) (t := 3) h aPk).rd (nv_get (k := k) (by omega)))) (by kernel_rfl) (by kernel_rfl) (by kernel_rfl) rfl ?_
    refine d_slot (show _ = Value.int .i64 (plsI (l.take k)).2 from by rw [pls_get hk]) ?_
    refine d_q 12 [] rfl (q_call rfl fn_18 rfl (fun w1 h1 => by have h9 := c18 w1 (plsI (l.take k)).2 4 (by omega) (by omega); rw [litB_4] at h9; exact h9)) (by kernel_rfl) (by kernel_rfl) (by kernel_rfl) rfl ?_
    refine d_p 13 rfl (p_str_add rfl rfl rfl (by (try simp only [List.length_append, List.length_cons, List.length_nil, List.length_replicate, List.length_take, List.length_drop, List.length_append, List.length_replicate, nmB_len, List.length_cons, List.length_nil, show signB.length = 4 from rfl, show ∀ x, (le4 x).length = 4 from fun _ => rfl]); omega)) (by kernel_rfl) rfl rfl ?_
    refine d_p 14 rfl (p_fieldAddr rfl rfl fd_50_1 sz_9 rfl) (by kernel_rfl) rfl rfl ?_
    refine d_q 15 [] rfl (q_load rfl rfl sz_9 aPk rfl) (by kernel_rfl) (by kernel_rfl) (by kernel_rfl) rfl ?_
    refine d_p 16 rfl (p_len_str rfl rfl Tryz.underlying9) (by kernel_rfl) rfl rfl ?_
    refine d_p 17 rfl (p_pure rfl) (by kernel_rfl) rfl rfl ?_
    try (refine d_slot (i64w (by omega) (by omega)) ?_)
    refine d_slot (show _ = Value.int .i64 (ilen (nth l k)) from rfl) ?_
    refine d_q 18 [] rfl (q_call rfl fn_18 rfl (fun w1 h1 => by have h9 := c18 w1 (ilen (nth l k)) 4 (by omega) (by omega); rw [litB_4] at h9; exact h9)) (by kernel_rfl) (by kernel_rfl) (by kernel_rfl) rfl ?_
    refine d_p 19 rfl (p_str_add rfl rfl rfl (by (try simp only [List.length_append, List.length_cons, List.length_nil, List.length_replicate, List.length_take, List.length_drop, List.length_append, List.length_replicate, nmB_len, List.length_cons, List.length_nil, show signB.length = 4 from rfl, show ∀ x, (le4 x).length = 4 from fun _ => rfl]); omega)) (by kernel_rfl) rfl rfl ?_
    refine d_p 20 rfl (p_fieldAddr rfl rfl fd_50_1 sz_9 rfl) (by kernel_rfl) rfl rfl ?_
    refine d_q 21 [] rfl (q_load rfl rfl sz_9 aPk rfl) (by kernel_rfl) (by kernel_rfl) (by kernel_rfl) rfl ?_
    refine d_p 22 rfl (p_str_add rfl rfl rfl (by (try simp only [List.length_append, List.length_cons, List.length_nil, List.length_replicate, List.length_take, List.length_drop, List.length_append, List.length_replicate, nmB_len, List.length_cons, List.length_nil, show signB.length = 4 from rfl, show ∀ x, (le4 x).length = 4 from fun _ => rfl]); omega)) (by kernel_rfl) rfl rfl ?_
    refine d_slot (show _ = Value.string (bs (nmB [hashS (nth l k).by_, (nth l k).id, (plsI (l.take k)).2, ilen (nth l k)] ++ (nth l k).by_)) from by unfold nmB; simp only [List.flatMap_cons, List.flatMap_nil, List.append_nil, List.append_assoc]) ?_
    refine d_p 23 rfl (p_pure rfl) (by kernel_rfl) rfl rfl ?_
    refine d_nil (by kernel_rfl) (fun w h => by first | exact h | exact h.ent aEt) ?_
    refine s_weaken (L' := [(1, _), (2, _), (3, _), (4, _), (6, _), (7, _), (9, _)]) aSx (fun _ h => h) ?_
    refine s_region ?_
    refine o_p (p_pure rfl) rfl ?_
    refine o_p (p_pure rfl) rfl ?_
    refine o_p (p_str_add rfl rfl rfl (by (try simp only [List.length_append, List.length_cons, List.length_nil, List.length_replicate, List.length_take, List.length_drop, List.length_append, List.length_replicate, nmB_len, List.length_cons, List.length_nil, show signB.length = 4 from rfl, show ∀ x, (le4 x).length = 4 from fun _ => rfl]); omega)) rfl ?_
    refine o_p (p_pure rfl) rfl ?_
    refine o_p (p_len_str rfl rfl Tryz.underlying9) rfl ?_
    refine o_slot (show _ = Value.int .i64 (ilen (nth l k)) from congrArg (Value.int .i64) hS1) ?_
    refine o_q (q_call rfl fn_41 rfl (fun w1 h1 => c41 w1 (ilen (nth l k)) (by omega))) rfl ?_
    refine o_p (p_pure rfl) rfl ?_
    refine o_p (p_len_str rfl rfl Tryz.underlying9) rfl ?_
    refine o_slot (show _ = Value.int .i64 (ilen (nth l k)) from congrArg (Value.int .i64) hS1) ?_
    refine o_p (p_pure rfl) rfl ?_
    try (refine o_slot (i64w (by omega) (by omega)) ?_)
    refine o_slot (show _ = Value.int .i64 ((padN (ilen (nth l k)) : Nat) : Int) from by rw [hup.1]) ?_
    refine o_q (q_call rfl fn_40 rfl (fun w1 h1 => c40 w1 (padN (ilen (nth l k))) (by omega))) rfl ?_
    refine o_p (p_str_add rfl rfl rfl (by (try simp only [List.length_append, List.length_cons, List.length_nil, List.length_replicate, List.length_take, List.length_drop, List.length_append, List.length_replicate, nmB_len, List.length_cons, List.length_nil, show signB.length = 4 from rfl, show ∀ x, (le4 x).length = 4 from fun _ => rfl]); omega)) rfl ?_
    refine o_slot (show _ = Value.string (bs (halfK nx l (k + 1))) from by rw [hsc]) ?_
    refine o_p (p_pure rfl) rfl ?_
    refine o_nil ?_
    refine s_blk ?_
    refine s_region ?_
    refine o_p (p_pure rfl) rfl ?_
    refine o_p (p_pure rfl) rfl ?_
    try (refine o_slot (i64w (by omega) (by omega)) ?_)
    refine o_p (p_pure rfl) rfl ?_
    refine o_nil ?_
    exact s_backI (k + 1) (by omega) (by omega) aSx (fun w h => h.ent aEt)
  · try simp only [decide_eq_true_eq, decide_eq_false_iff_not, Bool.not_eq_true', Bool.not_eq_false', Bool.and_eq_true, Bool.or_eq_true, Bool.and_eq_false_iff, Bool.or_eq_false_iff, Bool.not_true, Bool.not_false] at h2
    obtain rfl : k = l.length := by omega
    rw [show halfK nx l l.length = halfS nx l from by unfold halfS; rfl]
    refine s_exit_to rfl ?_
    refine s_seq ?_
    refine s_region ?_
    refine o_p (p_pure rfl) rfl ?_
    refine o_p (p_pure rfl) rfl ?_
    refine o_p (p_pure rfl) rfl ?_
    try (refine o_slot (i64w (by omega) (by omega)) ?_)
    refine o_slot (show _ = Value.int .i64 ((8192 - (halfS nx l).length : Nat) : Int) from congrArg (Value.int .i64) (by omega)) ?_
    refine o_q (q_call rfl fn_40 rfl (fun w1 h1 => c40 w1 (8192 - (halfS nx l).length) (by omega))) rfl ?_
    refine o_p (p_str_add rfl rfl rfl (by (try simp only [List.length_append, List.length_cons, List.length_nil, List.length_replicate, List.length_take, List.length_drop, List.length_append, List.length_replicate, nmB_len, List.length_cons, List.length_nil, show signB.length = 4 from rfl, show ∀ x, (le4 x).length = 4 from fun _ => rfl]); omega)) rfl ?_
    refine o_p (p_pure rfl) rfl ?_
    refine o_p (p_str_add rfl rfl rfl (by (try simp only [List.length_append, List.length_cons, List.length_nil, List.length_replicate, List.length_take, List.length_drop, List.length_append, List.length_replicate, nmB_len, List.length_cons, List.length_nil, show signB.length = 4 from rfl, show ∀ x, (le4 x).length = 4 from fun _ => rfl]); omega)) rfl ?_
    refine o_slot (show _ = Value.string (bs (streamS nx l)) from by rw [streamS]) ?_
    refine o_p (p_pure rfl) rfl ?_
    refine o_nil ?_
    exact s_retv (rs := [.tmp 2]) rfl (.tmp rfl (.nil)) (fun w' h' => ⟨by rfl, h'.below⟩)

end Go.Proofs

/- Chapter 18, plain: what is written is read. Nothing of a program is named here. -/
namespace Gx
set_option linter.unusedSimpArgs false
set_option linter.unusedVariables false
open Go Go.RowKit
theorem at1_app (u v : List UInt8) (i : Nat) : at1 (u ++ v) (u.length + i) = at1 v i := by
  unfold at1
  rw [List.getD_eq_getElem?_getD, List.getD_eq_getElem?_getD, List.getElem?_append_right (by omega), show u.length + i - u.length = i by omega]
theorem at4_app (u v : List UInt8) (i : Nat) : at4 (u ++ v) (u.length + i) = at4 v i := by
  unfold at4 at2
  rw [show u.length + i + 1 = u.length + (i + 1) by omega, show u.length + i + 2 = u.length + (i + 2) by omega, show u.length + (i + 2) + 1 = u.length + (i + 2 + 1) by omega, at1_app, at1_app, at1_app, at1_app]
theorem at4_le4 {x : Int} (r : List UInt8) (h : 0 ≤ x ∧ x < 4294967296) : at4 (le4 x ++ r) 0 = x := by
  have e : le4 x ++ r = by8 x :: by8 (x / 256) :: by8 (x / 65536) :: by8 (x / 16777216) :: r := rfl
  rw [e]
  unfold at4 at2
  simp only [at1_s, at1_0, by8_toNat, Nat.zero_add, show (2 : Nat) = 0 + 1 + 1 from rfl, show (3 : Nat) = 0 + 1 + 1 + 1 from rfl]
  omega
theorem at4_u {u : List UInt8} {x : Int} (r : List UInt8) (h : 0 ≤ x ∧ x < 4294967296) : at4 (u ++ (le4 x ++ r)) u.length = x := by
  have := at4_app u (le4 x ++ r) 0
  rw [Nat.add_zero] at this
  rw [this, at4_le4 r h]
theorem pls_mod (l : List SItm) : ∀ k, k ≤ l.length → (plsI (l.take k)).2 % 16 = 0
  | 0, _ => rfl
  | k + 1, h => by
    rw [pls_succ (by omega)]
    have := pls_mod l k (by omega)
    unfold upT
    simp only []
    omega
theorem pls_mod' (l : List SItm) : (plsI l).2 % 16 = 0 := by
  have := pls_mod l l.length (Nat.le_refl _)
  rwa [List.take_length] at this
theorem range_split {n k : Nat} (h : k < n) : ∃ r, (List.range n) = List.range k ++ k :: r := by
  refine ⟨(List.range n).drop (k + 1), ?_⟩
  conv => lhs; rw [← List.take_append_drop k (List.range n)]
  rw [List.take_range, Nat.min_eq_left (by omega), List.drop_eq_getElem_cons (by simpa using h)]
  simp
theorem half_split (nx : Int) (l : List SItm) {k : Nat} (h : k < l.length) : ∃ r, halfS nx l = halfK nx l k ++ (itmS l k ++ r) := by
  obtain ⟨r, hr⟩ := range_split h
  refine ⟨r.flatMap (itmS l), ?_⟩
  unfold halfS halfK
  rw [hr, List.flatMap_append, List.flatMap_cons]
  simp only [List.append_assoc]
theorem allZ_rep (n : Nat) : allZ (List.replicate n 0) = true := by
  unfold allZ; rw [List.all_replicate]; simp
section
variable {nx : Int} {l : List SItm}
/-- What is read at the place of an item. -/
theorem itA_at (hst : (stoE nx l).2 = 0) {k : Nat} (hk : k < l.length) (hb : (nth l k).by_.length ≤ 100000) {p : Nat} (hp : (p : Int) = (plsI (l.take k)).2) (hpl : (plsI (l.take k)).2 + upT (ilen (nth l k)) ≤ (halfS nx l).length) (hp9 : (p : Int) ≤ 8192) : itA (halfS nx l) p = ⟨nth l k, ilen (nth l k), true⟩ := by
  obtain ⟨h1, h2, h3, h4⟩ := sto_ok hst
  obtain ⟨r, hr⟩ := half_split nx l hk
  have hlen := halfK_len nx l k (Nat.le_of_lt hk)
  have hpu : p = (halfK nx l k).length := by omega
  have hid := (itm_rng (h3 k hk)).1
  have hha := hashS_le (nth l k).by_
  have hu := upT_le (ilen (nth l k))
  have hil : ilen (nth l k) = 16 + ((nth l k).by_.length : Int) := rfl
  have hpad : upT (ilen (nth l k)) = ilen (nth l k) + ((padN (ilen (nth l k)) : Nat) : Int) := by unfold padN; omega
  obtain ⟨B, hB⟩ : ∃ B, halfS nx l = halfK nx l k ++ (le4 (hashS (nth l k).by_) ++ (le4 (nth l k).id ++ (le4 (plsI (l.take k)).2 ++ (le4 (ilen (nth l k)) ++ ((nth l k).by_ ++ (List.replicate (padN (ilen (nth l k))) 0 ++ B)))))) := ⟨r, by
    rw [hr]; unfold itmS nmB
    simp only [List.flatMap_cons, List.flatMap_nil, List.append_nil, List.append_assoc]⟩
  have a0 : at4 (halfS nx l) p = hashS (nth l k).by_ := by
    rw [hB, hpu]; exact at4_u _ (by omega)
  have a4 : at4 (halfS nx l) (p + 4) = (nth l k).id := by
    rw [hB, hpu, at4_app]
    exact at4_u (u := le4 _) _ (by omega)
  have a8 : at4 (halfS nx l) (p + 8) = p := by
    rw [hB, hpu, at4_app, ← List.append_assoc]
    rw [show (8 : Nat) = (le4 (hashS (nth l k).by_) ++ le4 (nth l k).id).length from rfl, at4_u _ (by omega)]
    omega
  have a12 : at4 (halfS nx l) (p + 12) = ilen (nth l k) := by
    rw [hB, hpu, at4_app, ← List.append_assoc, ← List.append_assoc]
    rw [show (12 : Nat) = (le4 (hashS (nth l k).by_) ++ le4 (nth l k).id ++ le4 (plsI (l.take k)).2).length from rfl, at4_u _ (by omega)]
  have hd16 : (halfS nx l).drop (p + 16) = (nth l k).by_ ++ (List.replicate (padN (ilen (nth l k))) 0 ++ B) := by
    rw [hB, hpu, ← List.drop_drop, List.drop_left' rfl]
    rfl
  have hbody : bodyI (halfS nx l) p = (nth l k).by_ := by
    unfold bodyI
    rw [a12, hd16, show (ilen (nth l k)).toNat - 16 = (nth l k).by_.length by omega, List.take_left' rfl]
  have hpadI : padI (halfS nx l) p = List.replicate (padN (ilen (nth l k))) 0 := by
    unfold padI
    rw [a12, show p + (ilen (nth l k)).toNat = p + 16 + (nth l k).by_.length by omega, ← List.drop_drop, hd16, List.drop_left' rfl, List.take_left' (by simp)]
  have hshp : shpI (halfS nx l) p = true := by
    unfold shpI
    rw [a8, a12, decide_eq_true (show (p : Int) + 16 ≤ _ from by omega), decide_eq_true (show (p : Int) = p from rfl), decide_eq_true (show (16 : Int) ≤ ilen (nth l k) from by omega), decide_eq_true (show (p : Int) + upT (ilen (nth l k)) ≤ _ from by omega)]
    rfl
  unfold itA
  rw [if_pos hshp, hbody, hpadI, a0, a4, a12, allZ_rep]
  simp
theorem half_head (hst : (stoE nx l).2 = 0) (hb : ∀ x ∈ l, x.by_.length ≤ 100000) : isHd (halfS nx l) = true ∧ at4 (halfS nx l) 4 = nx ∧ at4 (halfS nx l) 8 = (halfS nx l).length := by
  obtain ⟨h1, h2, h3, h4⟩ := sto_ok hst
  have hple := pls_le' hb
  have hsu := sumS_le (hd0 nx (plsI l).2)
  have hhl := halfS_len nx l
  obtain ⟨B, hB⟩ : ∃ B, halfS nx l = hd0 nx (plsI l).2 ++ (le4 (sumS (hd0 nx (plsI l).2)) ++ B) := ⟨(List.range l.length).flatMap (itmS l), by
    unfold halfS halfK headS nmB
    simp only [List.flatMap_cons, List.flatMap_nil, List.append_nil, List.append_assoc]⟩
  have t12 : (halfS nx l).take 12 = hd0 nx (plsI l).2 := by rw [hB, List.take_left' (show (hd0 nx (plsI l).2).length = 12 from rfl)]
  have t4 : (halfS nx l).take 4 = signB := by rw [hB]; rfl
  have a12 : at4 (halfS nx l) 12 = sumS (hd0 nx (plsI l).2) := by rw [hB]; exact at4_u (u := hd0 nx (plsI l).2) _ (by omega)
  obtain ⟨B2, hB2⟩ : ∃ B2, halfS nx l = signB ++ (le4 nx ++ (le4 (plsI l).2 ++ B2)) := ⟨_, by rw [hB]; unfold hd0 nmB; simp only [List.flatMap_cons, List.flatMap_nil, List.append_nil, List.append_assoc]; rfl⟩
  refine ⟨?_, ?_, ?_⟩
  · unfold isHd
    rw [t4, t12, a12]
    simp
  · rw [hB2]; exact at4_u (u := signB) _ (by omega)
  · have : at4 (halfS nx l) 8 = (plsI l).2 := by
      rw [hB2, ← List.append_assoc]
      exact at4_u (u := signB ++ le4 nx) _ (by omega)
    omega
theorem inL_back (hst : (stoE nx l).2 = 0) (hb : ∀ x ∈ l, x.by_.length ≤ 100000) (h : List UInt8) : ∀ (f k p : Nat), k ≤ l.length → (p : Int) = (plsI (l.take k)).2 → (halfS nx l).length - p ≤ f → inL (halfS nx l) h f p (l.take k) [] = some (l, [])
  | f, k, p, hk, hp, hf => by
    obtain ⟨h1, h2, h3, h4⟩ := sto_ok hst
    have hhl := halfS_len nx l
    have hm := pls_mono hb l.length (Nat.le_refl _) k hk
    rw [List.take_length] at hm
    rcases Nat.lt_or_ge k l.length with hkl | hkl
    · have hs := pls_succ hkl
      have hm2 := pls_mono hb l.length (Nat.le_refl _) (k + 1) (by omega)
      rw [List.take_length, hs] at hm2
      have hpk := pls_le hb k hk
      have hul := upT_le (ilen (nth l k))
      have hil : ilen (nth l k) = 16 + ((nth l k).by_.length : Int) := rfl
      simp only [] at hm2
      rw [← hil] at hm2
      have hA := itA_at hst hkl (hb _ (getD_mem hkl)) hp (by omega) (by omega)
      obtain ⟨f', rfl⟩ : ∃ f', f = f' + 1 := ⟨f - 1, by omega⟩
      rw [inL_1 (by omega) (by rw [hA]), hA]
      simp only []
      have e : l.take k ++ [nth l k] = l.take (k + 1) := (take_succ_getD (d := default) hkl).symm
      rw [e]
      refine inL_back hst hb h f' (k + 1) _ (by omega) ?_ (by omega)
      rw [hs]
      simp only []
      rw [← hil]
      omega
    · obtain rfl : k = l.length := by omega
      rw [List.take_length] at hp
      rw [inL_end (by omega), List.take_length]
termination_by f => f
/-- What is written is read. -/
theorem str_le (hst : (stoE nx l).2 = 0) : (streamS nx l).length = 8192 + (halfS nx l).length ∧ (halfS nx l).length ≤ 8192 := by
  obtain ⟨h1, h2, h3, h4⟩ := sto_ok hst
  have hhl := halfS_len nx l
  unfold streamS
  rw [List.length_append, List.length_append, List.length_replicate]
  omega
theorem in_back (hst : (stoE nx l).2 = 0) (hb : ∀ x ∈ l, x.by_.length ≤ 100000) : inS (streamS nx l) = ⟨nx, l, [], 0⟩ := by
  obtain ⟨h1, h2, h3, h4⟩ := sto_ok hst
  have hple := pls_le' hb
  have hhl := halfS_len nx l
  have hmod := pls_mod' l
  obtain ⟨hh1, hh2, hh3⟩ := half_head hst hb
  have hsl : (streamS nx l).length = 8192 + (halfS nx l).length := by
    unfold streamS
    rw [List.length_append, List.length_append, List.length_replicate]
    omega
  have e1 : h1S (streamS nx l) = halfS nx l := by
    unfold h1S
    rw [hsl, show 8192 + (halfS nx l).length - 8192 = (halfS nx l).length by omega]
    unfold streamS
    rw [List.append_assoc, List.take_left' rfl]
  have e2 : h2S (streamS nx l) = halfS nx l := by
    unfold h2S streamS
    rw [List.drop_left' (by rw [List.length_append, List.length_replicate]; omega)]
  have e0 : strE (streamS nx l) = 0 := by
    unfold strE
    rw [hsl, if_pos (by omega)]
  rw [inS_1 e0 (by rw [e1]; exact hh1), e1, e2]
  have hI := inL_back hst hb (halfS nx l) (halfS nx l).length 0 16 (Nat.zero_le _) rfl (by omega)
  rw [List.take_zero] at hI
  rw [inB_ok hh3 hI (by rw [hh2]; exact hst), hh2]
end
theorem inL_len {g h : List UInt8} : ∀ (f p : Nat) (l : List SItm) (dm : List Int) (l' : List SItm) (dm' : List Int), inL g h f p l dm = some (l', dm') → l'.length ≤ l.length + f ∧ dm'.length ≤ dm.length + f
  | 0, p, l, dm, l', dm', e => by
    injection e with e; injection e with e1 e2; subst e1 e2; exact ⟨Nat.le_refl _, Nat.le_refl _⟩
  | f + 1, p, l, dm, l', dm', e => by
    rw [inL] at e
    split at e
    · split at e
      · have := inL_len f _ _ _ _ _ e
        simp only [List.length_append, List.length_cons, List.length_nil] at this
        omega
      · split at e
        · have := inL_len f _ _ _ _ _ e
          simp only [List.length_append, List.length_cons, List.length_nil] at this
          omega
        · cases e
    · injection e with e; injection e with e1 e2; subst e1 e2; omega
theorem inB_len {g h hd : List UInt8} {dm0 : List Int} (h0 : dm0.length ≤ 1) : (inB g h hd dm0).l.length ≤ g.length ∧ (inB g h hd dm0).dm.length ≤ g.length + 1 := by
  unfold inB
  split
  · split
    · exact ⟨Nat.zero_le _, Nat.zero_le _⟩
    · rename_i l dm hI
      have := inL_len _ _ _ _ _ _ hI
      simp only [List.length_nil] at this
      split
      · show l.length ≤ _ ∧ dm.length ≤ _; omega
      · exact ⟨Nat.zero_le _, Nat.zero_le _⟩
  · exact ⟨Nat.zero_le _, Nat.zero_le _⟩
theorem inS_len (s : List UInt8) : (inS s).l.length ≤ s.length ∧ (inS s).dm.length ≤ s.length + 1 := by
  have hl : (h1S s).length ≤ s.length := by unfold h1S; rw [List.length_take]; omega
  unfold inS
  split
  · split
    · have := inB_len (g := h1S s) (h := h2S s) (hd := h1S s) (dm0 := []) (Nat.zero_le _); omega
    · split
      · have := inB_len (g := h1S s) (h := h2S s) (hd := h2S s) (dm0 := [-1]) (Nat.le_refl _); omega
      · exact ⟨Nat.zero_le _, Nat.zero_le _⟩
  · exact ⟨Nat.zero_le _, Nat.zero_le _⟩
end Gx

namespace Go.Proofs
open Go Go.RowKit Gx
set_option linter.unusedVariables false
set_option linter.unusedSimpArgs false
attribute [local irreducible] Go.Calls Gx.S Gx.O Gx.D Gx.OpP Gx.OpQ Gx.OpH

theorem fn_5 : isFn Tryz.prog 5 = true := by kernel_rfl
theorem fn_6 : isFn Tryz.prog 6 = true := by kernel_rfl
theorem fn_8 : isFn Tryz.prog 8 = true := by kernel_rfl
theorem fn_9 : isFn Tryz.prog 9 = true := by kernel_rfl
theorem fn_10 : isFn Tryz.prog 10 = true := by kernel_rfl
theorem fn_11 : isFn Tryz.prog 11 = true := by kernel_rfl
theorem fn_14 : isFn Tryz.prog 14 = true := by kernel_rfl


attribute [local irreducible] Gx.inS Gx.streamS Gx.stoE

set_option maxRecDepth 20000 in
set_option maxHeartbeats 4000000 in
theorem c3 (w : World) (nx : Int) (a : Option Addr) (cap : Nat) (l : List SItm) (s : List UInt8) (hs : Rw SItm.vals 2 w [] a l) (hmM : l.length ≤ 9223372036854775807) (hbM : ∀ x ∈ l, x.by_.length ≤ 9223372036854775807) : Calls Tryz.prog 3 #[.agg #[.int .i64 nx, .slice a l.length cap], .string (bs s)] w fun en w' => en = .returned (.bool true) ∧ Below w.heap.size w w' := by
  refine enter (args := [_, _]) Tryz.func3 Tryz.ntmps3 rfl rfl (HS.refl w []) ?_
  refine s_seq ?_
  refine s_region ?_
  refine o_h (h_box rfl rfl) rfl (fun b1 _ => ?_)
  refine o_p (p_pure rfl) rfl ?_
  refine o_nil ?_
  refine s_seq ?_
  refine s_seq ?_
  refine s_region ?_
  refine o_q (q_call rfl fn_5 rfl (fun w1 h1 => c5 w1)) rfl ?_
  refine o_p (p_pure rfl) rfl ?_
  refine o_nil ?_
  refine s_cond rfl (fun h2 => ?_) (fun h2 => ?_)
  · try simp only [decide_eq_true_eq, decide_eq_false_iff_not, Bool.not_eq_true', Bool.not_eq_false', Bool.and_eq_true, Bool.or_eq_true, Bool.and_eq_false_iff, Bool.or_eq_false_iff, Bool.not_true, Bool.not_false] at h2
    exfalso; first | omega | (simp at h2; done) | (simp_all; done)
  · try simp only [decide_eq_true_eq, decide_eq_false_iff_not, Bool.not_eq_true', Bool.not_eq_false', Bool.and_eq_true, Bool.or_eq_true, Bool.and_eq_false_iff, Bool.or_eq_false_iff, Bool.not_true, Bool.not_false] at h2
    refine s_skip ?_
    refine s_seq ?_
    refine s_seq ?_
    refine s_region ?_
    refine o_q (q_loadn rfl rfl sz_24 aPk rfl) rfl ?_
    refine o_q (q_call rfl fn_6 rfl (fun w1 h1 => c6 w1 nx a cap l (hs.later h1) hmM hbM)) rfl ?_
    refine o_p (p_pure rfl) rfl ?_
    refine o_p (p_pure rfl) rfl ?_
    refine o_or 4 21 25 _ _ rfl
      (by
        intro hg3
        have hs4 := hg3; try simp only [decide_eq_true_eq, decide_eq_false_iff_not, Bool.not_eq_true', Bool.not_eq_false', Bool.and_eq_true, Bool.or_eq_true, Bool.and_eq_false_iff, Bool.or_eq_false_iff, Bool.not_true, Bool.not_false] at hs4
        refine o_on 21 _ rfl rfl hg3 ?_
        refine o_p (p_pure rfl) rfl ?_
        refine o_on 21 _ rfl rfl hg3 ?_
        refine o_p (p_len_str rfl rfl Tryz.underlying9) rfl ?_
        refine o_on 21 _ rfl rfl hg3 ?_
        refine o_p (p_pure rfl) rfl ?_
        refine o_p (p_pickf rfl rfl hg3 rfl) rfl ?_
        refine o_nil ?_
        exact s_joinN 4 25 _ rfl rfl rfl (fun w h => by first | exact h | exact h.ent aEt))
      (by
        intro hg5
        have hs6 := hg5; try simp only [decide_eq_true_eq, decide_eq_false_iff_not, Bool.not_eq_true', Bool.not_eq_false', Bool.and_eq_true, Bool.or_eq_true, Bool.and_eq_false_iff, Bool.or_eq_false_iff, Bool.not_true, Bool.not_false] at hs6
        refine o_off 21 _ rfl rfl hg5 rfl ?_
        refine o_off 21 _ rfl rfl hg5 rfl ?_
        refine o_off 21 _ rfl rfl hg5 rfl ?_
        refine o_p (p_pickt rfl rfl hg5 rfl) rfl ?_
        refine o_nil ?_
        exact s_joinN 4 25 _ rfl rfl rfl (fun w h => by first | exact h | exact h.ent aEt)) ?_
    refine o_nil ?_
    refine s_cond rfl (fun h7 => ?_) (fun h7 => ?_)
    · try simp only [decide_eq_true_eq, decide_eq_false_iff_not, Bool.not_eq_true', Bool.not_eq_false', Bool.and_eq_true, Bool.or_eq_true, Bool.and_eq_false_iff, Bool.or_eq_false_iff, Bool.not_true, Bool.not_false] at h7
      refine s_seq ?_
      refine s_region ?_
      refine o_p (p_pure rfl) rfl ?_
      refine o_nil ?_
      exact s_retv (rs := [.tmp 4]) rfl (.tmp rfl (.nil)) (fun w' h' => ⟨by rfl, h'.below⟩)
    · try simp only [decide_eq_true_eq, decide_eq_false_iff_not, Bool.not_eq_true', Bool.not_eq_false', Bool.and_eq_true, Bool.or_eq_true, Bool.and_eq_false_iff, Bool.or_eq_false_iff, Bool.not_true, Bool.not_false] at h7
      have hfw : fewS l = true := by have hq := h7; first | exact hq.1 | (simp at hq; exact hq.1)
      obtain ⟨hm62, hb300⟩ := fewS_ok hfw
      have hm : l.length ≤ 100000 := by omega
      have hb : ∀ x ∈ l, x.by_.length ≤ 100000 := fun x hx => by have := hb300 x hx; omega
      have hs4 : s.length ≤ 12400 := by have hq := h7; simp at hq; omega
      obtain ⟨hil1, hil2⟩ := inS_len s
      refine s_skip ?_
      refine s_seq ?_
      refine s_region ?_
      refine o_q (q_loadn rfl rfl sz_24 aPk rfl) rfl ?_
      refine o_h (h_call rfl fn_8 rfl (fun w1 h1 => c8 w1 nx a cap l (hs.later h1) hm hb)) rfl (fun gS _ => ?_)
      refine o_q (q_call rfl fn_7 rfl (fun w1 h1 => c7 w1 nx gS.1 gS.2 l (HS.rw_own (a := gS.1) (l := l) sv2 h1 aPk rfl) hm hb)) rfl ?_
      refine o_p (p_pure rfl) rfl ?_
      refine o_p (p_pure rfl) rfl ?_
      refine o_p (p_pure rfl) rfl ?_
      refine o_p (p_pure rfl) rfl ?_
      refine o_p (p_pure rfl) rfl ?_
      refine o_nil ?_
      refine s_seq ?_
      refine s_region ?_
      refine o_p (p_pure rfl) rfl ?_
      refine o_h (h_call rfl fn_9 rfl (fun w1 h1 => c9 w1 s (by omega))) rfl (fun gX _ => ?_)
      refine o_p (p_pure rfl) rfl ?_
      refine o_p (p_pure rfl) rfl ?_
      refine o_p (p_pure rfl) rfl ?_
      refine o_p (p_pure rfl) rfl ?_
      refine o_h (h_alloc rfl zr_24) rfl (fun b8 _ => ?_)
      refine o_h0 (h_store rfl rfl rfl sz_24 rfl aPt (by simp only [setMany_length, List.length_set, List.length_cons, List.length_nil, List.length_map]; omega) rfl) (fun _ _ => ?_)
      refine o_p (p_pure rfl) rfl ?_
      refine o_p (p_pure rfl) rfl ?_
      refine o_nil ?_
      refine s_seq ?_
      refine s_region ?_
      refine o_p (p_pure rfl) rfl ?_
      refine o_h (h_call rfl fn_10 rfl (fun w1 h1 => c10 w1 s (by omega))) rfl (fun gR _ => ?_)
      refine o_p (p_pure rfl) rfl ?_
      refine o_p (p_pure rfl) rfl ?_
      refine o_p (p_pure rfl) rfl ?_
      refine o_p (p_pure rfl) rfl ?_
      refine o_h (h_alloc rfl zr_24) rfl (fun b9 _ => ?_)
      refine o_h0 (h_store rfl rfl rfl sz_24 rfl aPt (by simp only [setMany_length, List.length_set, List.length_cons, List.length_nil, List.length_map]; omega) rfl) (fun _ _ => ?_)
      refine o_p (p_pure rfl) rfl ?_
      refine o_p (p_pure rfl) rfl ?_
      refine o_nil ?_
      refine s_seq ?_
      refine s_seq ?_
      refine s_weaken (L' := [(2, _), (4, _), (5, _), (6, _), (7, _), (8, _), (9, _), (10, _), (11, _), (12, _)]) aSx (fun _ h => h) ?_
      refine s_region ?_
      refine o_p (p_pure rfl) rfl ?_
      refine o_p (p_pure rfl) rfl ?_
      refine o_p (p_pure rfl) rfl ?_
      refine o_p (p_pure rfl) rfl ?_
      refine o_or 5 47 52 _ _ rfl
        (by
          intro hg10
          have hs11 := hg10; try simp only [decide_eq_true_eq, decide_eq_false_iff_not, Bool.not_eq_true', Bool.not_eq_false', Bool.and_eq_true, Bool.or_eq_true, Bool.and_eq_false_iff, Bool.or_eq_false_iff, Bool.not_true, Bool.not_false] at hs11
          refine o_on 47 _ rfl rfl hg10 ?_
          refine o_q (q_loadn rfl rfl sz_24 aPk rfl) rfl ?_
          refine o_on 47 _ rfl rfl hg10 ?_
          refine o_q (q_loadn rfl rfl sz_24 aPk rfl) rfl ?_
          refine o_on 47 _ rfl rfl hg10 ?_
          refine o_q (q_call rfl fn_11 rfl (fun w1 h1 => c11 w1 (inS s).nx gX.1.1 gX.1.2 gR.1.1 gR.1.2 (inS s).l (HS.rw_own (a := gX.1.1) (l := (inS s).l) sv2 h1 aPk rfl) (HS.rw_own (a := gR.1.1) (l := (inS s).l) sv2 h1 aPk rfl) (by omega))) rfl ?_
          refine o_on 47 _ rfl rfl hg10 ?_
          refine o_p (p_pure rfl) rfl ?_
          refine o_p (p_pickf rfl rfl hg10 rfl) rfl ?_
          refine o_nil ?_
          exact s_joinN 5 52 _ rfl rfl rfl (fun w h => by first | exact h | exact h.ent aEt))
        (by
          intro hg12
          have hs13 := hg12; try simp only [decide_eq_true_eq, decide_eq_false_iff_not, Bool.not_eq_true', Bool.not_eq_false', Bool.and_eq_true, Bool.or_eq_true, Bool.and_eq_false_iff, Bool.or_eq_false_iff, Bool.not_true, Bool.not_false] at hs13
          refine o_off 47 _ rfl rfl hg12 rfl ?_
          refine o_off 47 _ rfl rfl hg12 rfl ?_
          refine o_off 47 _ rfl rfl hg12 rfl ?_
          refine o_off 47 _ rfl rfl hg12 rfl ?_
          refine o_p (p_pickt rfl rfl hg12 rfl) rfl ?_
          refine o_nil ?_
          exact s_joinN 5 52 _ rfl rfl rfl (fun w h => by first | exact h | exact h.ent aEt)) ?_
      refine o_p (p_pure rfl) rfl ?_
      refine o_or 5 53 58 _ _ rfl
        (by
          intro hg14
          have hs15 := hg14; try simp only [decide_eq_true_eq, decide_eq_false_iff_not, Bool.not_eq_true', Bool.not_eq_false', Bool.and_eq_true, Bool.or_eq_true, Bool.and_eq_false_iff, Bool.or_eq_false_iff, Bool.not_true, Bool.not_false] at hs15
          refine o_on 53 _ rfl rfl hg14 ?_
          refine o_p (p_pure rfl) rfl ?_
          refine o_on 53 _ rfl rfl hg14 ?_
          refine o_p (p_pure rfl) rfl ?_
          refine o_on 53 _ rfl rfl hg14 ?_
          refine o_q (q_call rfl fn_12 rfl (fun w1 h1 => c12 w1 gX.2.1 gX.2.2 gR.2.1 gR.2.2 (inS s).dm (HS.vl_own (a := gX.2.1) (t := 3) (cs := (inS s).dm.map nv) h1 aPk) (HS.vl_own (a := gR.2.1) (t := 3) (cs := (inS s).dm.map nv) h1 aPk) (by omega))) rfl ?_
          refine o_on 53 _ rfl rfl hg14 ?_
          refine o_p (p_pure rfl) rfl ?_
          refine o_p (p_pickf rfl rfl hg14 rfl) rfl ?_
          refine o_nil ?_
          exact s_joinN 5 58 _ rfl rfl rfl (fun w h => by first | exact h | exact h.ent aEt))
        (by
          intro hg16
          have hs17 := hg16; try simp only [decide_eq_true_eq, decide_eq_false_iff_not, Bool.not_eq_true', Bool.not_eq_false', Bool.and_eq_true, Bool.or_eq_true, Bool.and_eq_false_iff, Bool.or_eq_false_iff, Bool.not_true, Bool.not_false] at hs17
          refine o_off 53 _ rfl rfl hg16 rfl ?_
          refine o_off 53 _ rfl rfl hg16 rfl ?_
          refine o_off 53 _ rfl rfl hg16 rfl ?_
          refine o_off 53 _ rfl rfl hg16 rfl ?_
          refine o_p (p_pickt rfl rfl hg16 rfl) rfl ?_
          refine o_nil ?_
          exact s_joinN 5 58 _ rfl rfl rfl (fun w h => by first | exact h | exact h.ent aEt)) ?_
      refine o_nil ?_
      refine s_cond rfl (fun h18 => ?_) (fun h18 => ?_)
      · try simp only [decide_eq_true_eq, decide_eq_false_iff_not, Bool.not_eq_true', Bool.not_eq_false', Bool.and_eq_true, Bool.or_eq_true, Bool.and_eq_false_iff, Bool.or_eq_false_iff, Bool.not_true, Bool.not_false] at h18
        exfalso; have hq := h18; simp at hq
      · try simp only [decide_eq_true_eq, decide_eq_false_iff_not, Bool.not_eq_true', Bool.not_eq_false', Bool.and_eq_true, Bool.or_eq_true, Bool.and_eq_false_iff, Bool.or_eq_false_iff, Bool.not_true, Bool.not_false] at h18
        refine s_skip ?_
        refine s_seq ?_
        refine s_seq ?_
        refine s_region ?_
        refine o_q (q_loadn rfl rfl sz_24 aPk rfl) rfl ?_
        refine o_q (q_call rfl fn_13 rfl (fun w1 h1 => c13 w1 nx a cap l (hs.later h1) hm hb)) rfl ?_
        refine o_p (p_pure rfl) rfl ?_
        refine o_nil ?_
        refine s_seq ?_
        refine s_region ?_
        refine o_p (p_pure rfl) rfl ?_
        refine o_p (p_pure rfl) rfl ?_
        refine o_nil ?_
        refine s_cond rfl (fun h19 => ?_) (fun h19 => ?_)
        · try simp only [decide_eq_true_eq, decide_eq_false_iff_not, Bool.not_eq_true', Bool.not_eq_false', Bool.and_eq_true, Bool.or_eq_true, Bool.and_eq_false_iff, Bool.or_eq_false_iff, Bool.not_true, Bool.not_false] at h19
          have h0 : ¬ (stoE nx l).2 = 0 := h19
          rw [if_neg h0]
          refine s_seq ?_
          refine s_region ?_
          refine o_p (p_pure rfl) rfl ?_
          refine o_p (p_pure rfl) rfl ?_
          refine o_p (p_pure rfl) rfl ?_
          refine o_p (p_pure rfl) rfl ?_
          refine o_and 3 66 69 _ _ rfl
            (by
              intro hg20
              have hs21 := hg20; try simp only [decide_eq_true_eq, decide_eq_false_iff_not, Bool.not_eq_true', Bool.not_eq_false', Bool.and_eq_true, Bool.or_eq_true, Bool.and_eq_false_iff, Bool.or_eq_false_iff, Bool.not_true, Bool.not_false] at hs21
              refine o_on 66 _ rfl rfl hg20 ?_
              refine o_p (p_pure rfl) rfl ?_
              refine o_on 66 _ rfl rfl hg20 ?_
              refine o_p (p_pure rfl) rfl ?_
              refine o_p (p_pickt rfl rfl hg20 rfl) rfl ?_
              refine o_nil ?_
              exact s_joinN 3 69 _ rfl rfl rfl (fun w h => by first | exact h | exact h.ent aEt))
            (by
              intro hg22
              have hs23 := hg22; try simp only [decide_eq_true_eq, decide_eq_false_iff_not, Bool.not_eq_true', Bool.not_eq_false', Bool.and_eq_true, Bool.or_eq_true, Bool.and_eq_false_iff, Bool.or_eq_false_iff, Bool.not_true, Bool.not_false] at hs23
              refine o_off 66 _ rfl rfl hg22 rfl ?_
              refine o_off 66 _ rfl rfl hg22 rfl ?_
              refine o_p (p_pickf rfl rfl hg22 rfl) rfl ?_
              refine o_nil ?_
              exact s_joinN 3 69 _ rfl rfl rfl (fun w h => by first | exact h | exact h.ent aEt)) ?_
          refine o_p (p_pure rfl) rfl ?_
          refine o_nil ?_
          exact s_retv (rs := [.tmp 4]) rfl (.tmp rfl (.nil)) (fun w' h' => ⟨by simp [retV, h0], h'.below⟩)
        · try simp only [decide_eq_true_eq, decide_eq_false_iff_not, Bool.not_eq_true', Bool.not_eq_false', Bool.and_eq_true, Bool.or_eq_true, Bool.and_eq_false_iff, Bool.or_eq_false_iff, Bool.not_true, Bool.not_false] at h19
          have h0 : (stoE nx l).2 = 0 := h19
          rw [if_pos h0]
          have hbk9 : inS (streamS nx l) = ⟨nx, l, [], 0⟩ := in_back h0 hb
          obtain ⟨hsl9, hsh9⟩ := str_le h0
          refine s_skip ?_
          refine s_seq ?_
          refine s_region ?_
          refine o_p (p_pure rfl) rfl ?_
          refine o_h (h_call rfl fn_9 rfl (fun w1 h1 => hbk9 ▸ c9 w1 (streamS nx l) (by omega))) rfl (fun gY _ => ?_)
          refine o_p (p_pure rfl) rfl ?_
          refine o_p (p_pure rfl) rfl ?_
          refine o_p (p_pure rfl) rfl ?_
          refine o_p (p_pure rfl) rfl ?_
          refine o_h (h_alloc rfl zr_24) rfl (fun b24 _ => ?_)
          refine o_h0 (h_store rfl rfl rfl sz_24 rfl aPt (by simp only [setMany_length, List.length_set, List.length_cons, List.length_nil, List.length_map]; omega) rfl) (fun _ _ => ?_)
          refine o_p (p_pure rfl) rfl ?_
          refine o_p (p_pure rfl) rfl ?_
          refine o_nil ?_
          refine s_seq ?_
          refine s_weaken (L' := [(2, _), (4, _), (5, _), (6, _), (13, _), (14, _), (15, _)]) aSx (fun _ h => h) ?_
          refine s_region ?_
          refine o_p (p_pure rfl) rfl ?_
          refine o_p (p_pure rfl) rfl ?_
          refine o_p (p_pure rfl) rfl ?_
          refine o_and 5 78 83 _ _ rfl
            (by
              intro hg25
              have hs26 := hg25; try simp only [decide_eq_true_eq, decide_eq_false_iff_not, Bool.not_eq_true', Bool.not_eq_false', Bool.and_eq_true, Bool.or_eq_true, Bool.and_eq_false_iff, Bool.or_eq_false_iff, Bool.not_true, Bool.not_false] at hs26
              refine o_on 78 _ rfl rfl hg25 ?_
              refine o_p (p_pure rfl) rfl ?_
              refine o_on 78 _ rfl rfl hg25 ?_
              refine o_q (q_loadn rfl rfl sz_24 aPk rfl) rfl ?_
              refine o_on 78 _ rfl rfl hg25 ?_
              refine o_q (q_call rfl fn_14 rfl (fun w1 h1 => c14 w1 nx a cap l (hs.later h1) hm hb h0)) rfl ?_
              refine o_on 78 _ rfl rfl hg25 ?_
              refine o_p (p_pure rfl) rfl ?_
              refine o_p (p_pickt rfl rfl hg25 rfl) rfl ?_
              refine o_nil ?_
              exact s_joinN 5 83 _ rfl rfl rfl (fun w h => by first | exact h | exact h.ent aEt))
            (by
              intro hg27
              have hs28 := hg27; try simp only [decide_eq_true_eq, decide_eq_false_iff_not, Bool.not_eq_true', Bool.not_eq_false', Bool.and_eq_true, Bool.or_eq_true, Bool.and_eq_false_iff, Bool.or_eq_false_iff, Bool.not_true, Bool.not_false] at hs28
              refine o_off 78 _ rfl rfl hg27 rfl ?_
              refine o_off 78 _ rfl rfl hg27 rfl ?_
              refine o_off 78 _ rfl rfl hg27 rfl ?_
              refine o_off 78 _ rfl rfl hg27 rfl ?_
              refine o_p (p_pickf rfl rfl hg27 rfl) rfl ?_
              refine o_nil ?_
              exact s_joinN 5 83 _ rfl rfl rfl (fun w h => by first | exact h | exact h.ent aEt)) ?_
          refine o_p (p_pure rfl) rfl ?_
          refine o_and 3 84 87 _ _ rfl
            (by
              intro hg29
              have hs30 := hg29; try simp only [decide_eq_true_eq, decide_eq_false_iff_not, Bool.not_eq_true', Bool.not_eq_false', Bool.and_eq_true, Bool.or_eq_true, Bool.and_eq_false_iff, Bool.or_eq_false_iff, Bool.not_true, Bool.not_false] at hs30
              refine o_on 84 _ rfl rfl hg29 ?_
              refine o_p (p_pure rfl) rfl ?_
              refine o_on 84 _ rfl rfl hg29 ?_
              refine o_p (p_pure rfl) rfl ?_
              refine o_p (p_pickt rfl rfl hg29 rfl) rfl ?_
              refine o_nil ?_
              exact s_joinN 3 87 _ rfl rfl rfl (fun w h => by first | exact h | exact h.ent aEt))
            (by
              intro hg31
              have hs32 := hg31; try simp only [decide_eq_true_eq, decide_eq_false_iff_not, Bool.not_eq_true', Bool.not_eq_false', Bool.and_eq_true, Bool.or_eq_true, Bool.and_eq_false_iff, Bool.or_eq_false_iff, Bool.not_true, Bool.not_false] at hs32
              refine o_off 84 _ rfl rfl hg31 rfl ?_
              refine o_off 84 _ rfl rfl hg31 rfl ?_
              refine o_p (p_pickf rfl rfl hg31 rfl) rfl ?_
              refine o_nil ?_
              exact s_joinN 3 87 _ rfl rfl rfl (fun w h => by first | exact h | exact h.ent aEt)) ?_
          refine o_p (p_pure rfl) rfl ?_
          refine o_and 4 88 92 _ _ rfl
            (by
              intro hg33
              have hs34 := hg33; try simp only [decide_eq_true_eq, decide_eq_false_iff_not, Bool.not_eq_true', Bool.not_eq_false', Bool.and_eq_true, Bool.or_eq_true, Bool.and_eq_false_iff, Bool.or_eq_false_iff, Bool.not_true, Bool.not_false] at hs34
              refine o_on 88 _ rfl rfl hg33 ?_
              refine o_q (q_loadn rfl rfl sz_24 aPk rfl) rfl ?_
              refine o_on 88 _ rfl rfl hg33 ?_
              refine o_q (q_loadn rfl rfl sz_24 aPk rfl) rfl ?_
              refine o_on 88 _ rfl rfl hg33 ?_
              refine o_q (q_call rfl fn_11 rfl (fun w1 h1 => c11 w1 nx gY.1.1 gY.1.2 a cap l (HS.rw_own (a := gY.1.1) (l := l) sv2 h1 aPk rfl) (hs.later h1) (by omega))) rfl ?_
              refine o_p (p_pickt rfl rfl hg33 rfl) rfl ?_
              refine o_nil ?_
              exact s_joinN 4 92 _ rfl rfl rfl (fun w h => by first | exact h | exact h.ent aEt))
            (by
              intro hg35
              have hs36 := hg35; try simp only [decide_eq_true_eq, decide_eq_false_iff_not, Bool.not_eq_true', Bool.not_eq_false', Bool.and_eq_true, Bool.or_eq_true, Bool.and_eq_false_iff, Bool.or_eq_false_iff, Bool.not_true, Bool.not_false] at hs36
              refine o_off 88 _ rfl rfl hg35 rfl ?_
              refine o_off 88 _ rfl rfl hg35 rfl ?_
              refine o_off 88 _ rfl rfl hg35 rfl ?_
              refine o_p (p_pickf rfl rfl hg35 rfl) rfl ?_
              refine o_nil ?_
              exact s_joinN 4 92 _ rfl rfl rfl (fun w h => by first | exact h | exact h.ent aEt)) ?_
          refine o_p (p_pure rfl) rfl ?_
          refine o_and 4 93 97 _ _ rfl
            (by
              intro hg37
              have hs38 := hg37; try simp only [decide_eq_true_eq, decide_eq_false_iff_not, Bool.not_eq_true', Bool.not_eq_false', Bool.and_eq_true, Bool.or_eq_true, Bool.and_eq_false_iff, Bool.or_eq_false_iff, Bool.not_true, Bool.not_false] at hs38
              refine o_on 93 _ rfl rfl hg37 ?_
              refine o_p (p_pure rfl) rfl ?_
              refine o_on 93 _ rfl rfl hg37 ?_
              refine o_p (p_len_slice rfl rfl Tryz.underlying31) rfl ?_
              refine o_on 93 _ rfl rfl hg37 ?_
              refine o_p (p_pure rfl) rfl ?_
              refine o_p (p_pickt rfl rfl hg37 rfl) rfl ?_
              refine o_nil ?_
              exact s_joinN 4 97 _ rfl rfl rfl (fun w h => by first | exact h | exact h.ent aEt))
            (by
              intro hg39
              have hs40 := hg39; try simp only [decide_eq_true_eq, decide_eq_false_iff_not, Bool.not_eq_true', Bool.not_eq_false', Bool.and_eq_true, Bool.or_eq_true, Bool.and_eq_false_iff, Bool.or_eq_false_iff, Bool.not_true, Bool.not_false] at hs40
              refine o_off 93 _ rfl rfl hg39 rfl ?_
              refine o_off 93 _ rfl rfl hg39 rfl ?_
              refine o_off 93 _ rfl rfl hg39 rfl ?_
              refine o_p (p_pickf rfl rfl hg39 rfl) rfl ?_
              refine o_nil ?_
              exact s_joinN 4 97 _ rfl rfl rfl (fun w h => by first | exact h | exact h.ent aEt)) ?_
          refine o_p (p_pure rfl) rfl ?_
          refine o_nil ?_
          exact s_retv (rs := [.tmp 4]) rfl (.tmp rfl (.nil)) (fun w' h' => ⟨by simp [retV, h0], h'.below⟩)

end Go.Proofs

