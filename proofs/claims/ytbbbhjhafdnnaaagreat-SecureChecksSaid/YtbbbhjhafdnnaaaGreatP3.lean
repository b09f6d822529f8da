/- Contracts of the program's functions, proved by walking them with the rules of the Gx texts; without conditions beyond those that each contract names. -/
import Derived.WalkKit
import Derived.Deep.Draws
import Derived.TacticsIn
import Derived.OrdersIn
import Derived.RangeFuncLeaves
import Derived.Lib.Strings
import Derived.Laws.BytesArg
import Derived.Laws.IdiomStrings
import Derived.Deep.Quiet
import Derived.Laws.StructEq
import Derived.ChangeKeysEq
import Derived.Laws.Externs
import Derived.Lib.Overlaps
import Derived.Carry
import Derived.Laws.Small
import Derived.Lib.Bytealg
import Derived.Test.YtbbbhjhafdnnaaaGreatProg
import Derived.KernelRfl
import Derived.RangeFuncRecord
import Derived.ProofKit
import Derived.OpenShut
import Derived.Lib.Builder
import Derived.Lib.UnsafeStr
import Derived.Laws.Pointers
import Derived.LaidEqlPtr
import Derived.Shelf.Strings.Builder1
import Derived.Shelf.Strings.Builder2
import Derived.Shelf.Strings.BuilderF
import Derived.Shelf.Strings.Prefix
import Derived.Shelf.Bits.Mul64
import Derived.Shelf.Strings.Repeat
import Derived.Test.YtbbbhjhafdnnaaaGreatP2
namespace Go.Proofs
open Go Go.RowKit Gx
set_option linter.unusedVariables false
set_option linter.unusedSimpArgs false
attribute [local irreducible] Go.Calls Gx.S Gx.O Gx.D Gx.OpP Gx.OpQ Gx.OpH

theorem fd_131_0 : tfd Tryz.prog 131 0 = some (0, 129) := by kernel_rfl
theorem sz_129 : tsz Tryz.prog 129 = some (1, false) := by kernel_rfl
theorem sz_131 : tsz Tryz.prog 131 = some (2, true) := by kernel_rfl
theorem ipt_129 : isPt Tryz.prog 129 131 := isPt_of Tryz.underlying129 sz_131 (by decide)
theorem ne_117 : isNE Tryz.prog 117 := ⟨_, Tryz.func117, rfl, rfl, by kernel_rfl, by kernel_rfl⟩
theorem fn_104 : isFn Tryz.prog 104 = true := by kernel_rfl
theorem fd_131_1 : tfd Tryz.prog 131 1 = some (1, 112) := by kernel_rfl


set_option maxRecDepth 20000 in
theorem c104a (w : World) (b : Nat) (v : Value) (hw : HS w (fps [.blk b 131 2 [.pointer none, v]]) [.blk b 131 2 [.pointer none, v]] w) : Calls Tryz.prog 104 #[.pointer (some ⟨b, 0, none⟩)] w fun en w' => ∃ g : Unit, en = .returned (.tuple #[]) ∧ True ∧ HS w (fps [.blk b 131 2 [.pointer none, v]]) [.blk b 131 2 [.pointer (some ⟨b, 0, none⟩), v]] w' := by
  refine enter (args := [_]) Tryz.func104 Tryz.ntmps104 rfl rfl hw ?_
  refine s_seq ?_
  refine s_region ?_
  refine o_p (p_pure rfl) rfl ?_
  refine o_p (p_pure rfl) rfl ?_
  refine o_p (p_fieldAddr rfl rfl fd_131_0 sz_129 rfl) rfl ?_
  refine o_q (q_load rfl rfl sz_129 aPk rfl) rfl ?_
  refine o_p (p_ptr_nil rfl rfl rfl ipt_129) rfl ?_
  refine o_nil ?_
  refine s_cond rfl (fun h1 => ?_) (fun h1 => ?_)
  · try simp only [decide_eq_true_eq, decide_eq_false_iff_not, Bool.not_eq_true', Bool.not_eq_false', Bool.and_eq_true, Bool.or_eq_true, Bool.and_eq_false_iff, Bool.or_eq_false_iff, Bool.not_true, Bool.not_false] at h1
    refine s_region ?_
    refine o_p (p_pure rfl) rfl ?_
    refine o_p (p_pure rfl) rfl ?_
    refine o_q (q_to_unsafe rfl rfl ipt_129 Tryz.underlying159 aPk (by decide)) rfl ?_
    refine o_q (q_noEscape rfl rfl ne_117) rfl ?_
    refine o_q (q_from_unsafe rfl rfl Tryz.underlying159 ipt_129 aPk (by kernel_rfl)) rfl ?_
    refine o_p (p_pure rfl) rfl ?_
    refine o_p (p_fieldAddr rfl rfl fd_131_0 sz_129 rfl) rfl ?_
    refine o_h0 (h_store rfl rfl rfl sz_129 rfl aPt (by simp only [setMany_length, List.length_set, List.length_cons, List.length_nil, List.length_map]; omega) rfl) (fun _ _ => ?_)
    refine o_nil ?_
    exact s_end0 rfl (fun w' h' => ⟨(), rfl, trivial, h'.ent aEt⟩)
  · try simp only [decide_eq_true_eq, decide_eq_false_iff_not, Bool.not_eq_true', Bool.not_eq_false', Bool.and_eq_true, Bool.or_eq_true, Bool.and_eq_false_iff, Bool.or_eq_false_iff, Bool.not_true, Bool.not_false] at h1
    exfalso; first | omega | (simp at h1; done) | (simp_all; done)

set_option maxRecDepth 20000 in
theorem c104b (w : World) (b : Nat) (v : Value) (hw : HS w (fps [.blk b 131 2 [.pointer (some ⟨b, 0, none⟩), v]]) [.blk b 131 2 [.pointer (some ⟨b, 0, none⟩), v]] w) : Calls Tryz.prog 104 #[.pointer (some ⟨b, 0, none⟩)] w fun en w' => ∃ g : Unit, en = .returned (.tuple #[]) ∧ True ∧ HS w (fps [.blk b 131 2 [.pointer (some ⟨b, 0, none⟩), v]]) [.blk b 131 2 [.pointer (some ⟨b, 0, none⟩), v]] w' := by
  refine enter (args := [_]) Tryz.func104 Tryz.ntmps104 rfl rfl hw ?_
  refine s_seq ?_
  refine s_region ?_
  refine o_p (p_pure rfl) rfl ?_
  refine o_p (p_pure rfl) rfl ?_
  refine o_p (p_fieldAddr rfl rfl fd_131_0 sz_129 rfl) rfl ?_
  refine o_q (q_load rfl rfl sz_129 aPk rfl) rfl ?_
  refine o_p (p_ptr_nil rfl rfl rfl ipt_129) rfl ?_
  refine o_nil ?_
  refine s_cond rfl (fun h1 => ?_) (fun h1 => ?_)
  · try simp only [decide_eq_true_eq, decide_eq_false_iff_not, Bool.not_eq_true', Bool.not_eq_false', Bool.and_eq_true, Bool.or_eq_true, Bool.and_eq_false_iff, Bool.or_eq_false_iff, Bool.not_true, Bool.not_false] at h1
    exfalso; first | omega | (simp at h1; done) | (simp_all; done)
  · try simp only [decide_eq_true_eq, decide_eq_false_iff_not, Bool.not_eq_true', Bool.not_eq_false', Bool.and_eq_true, Bool.or_eq_true, Bool.and_eq_false_iff, Bool.or_eq_false_iff, Bool.not_true, Bool.not_false] at h1
    refine s_seq ?_
    refine s_region ?_
    refine o_p (p_pure rfl) rfl ?_
    refine o_p (p_pure rfl) rfl ?_
    refine o_p (p_fieldAddr rfl rfl fd_131_0 sz_129 rfl) rfl ?_
    refine o_q (q_load rfl rfl sz_129 aPk rfl) rfl ?_
    refine o_p (p_pure rfl) rfl ?_
    refine o_p (p_ptr_neq_same rfl rfl rfl ipt_129) rfl ?_
    refine o_nil ?_
    refine s_cond rfl (fun h2 => ?_) (fun h2 => ?_)
    · try simp only [decide_eq_true_eq, decide_eq_false_iff_not, Bool.not_eq_true', Bool.not_eq_false', Bool.and_eq_true, Bool.or_eq_true, Bool.and_eq_false_iff, Bool.or_eq_false_iff, Bool.not_true, Bool.not_false] at h2
      exfalso; first | omega | (simp at h2; done) | (simp_all; done)
    · try simp only [decide_eq_true_eq, decide_eq_false_iff_not, Bool.not_eq_true', Bool.not_eq_false', Bool.and_eq_true, Bool.or_eq_true, Bool.and_eq_false_iff, Bool.or_eq_false_iff, Bool.not_true, Bool.not_false] at h2
      refine s_skip ?_
      exact s_end0 rfl (fun w' h' => ⟨(), rfl, trivial, h'.ent aEt⟩)

set_option maxRecDepth 20000 in
theorem c87a (w : World) (b : Nat) (a : Option Addr) (n cap : Nat) (xs : List Value) (s : List UInt8) (hw : HS w (fps [.blk b 131 2 [.pointer none, .slice a n cap], .own (.slice a n cap) 5 1 n xs]) [.blk b 131 2 [.pointer none, .slice a n cap], .own (.slice a n cap) 5 1 n xs] w) (hl : n + s.length ≤ 1000000000) : Calls Tryz.prog 87 #[.pointer (some ⟨b, 0, none⟩), .string (bs s)] w fun en w' => ∃ g : Option Addr × Nat, en = .returned (.tuple #[.int .i64 (s.length : Int), .nilIface]) ∧ True ∧ HS w (fps [.blk b 131 2 [.pointer none, .slice a n cap], .own (.slice a n cap) 5 1 n xs]) [.blk b 131 2 [.pointer (some ⟨b, 0, none⟩), .slice g.1 (n + s.length) g.2], .own (.slice g.1 (n + s.length) g.2) 5 1 (n + s.length) (xs ++ s.map bv)] w' := by
  refine enter (args := [_, _]) Tryz.func87 Tryz.ntmps87 rfl rfl hw ?_
  refine s_seq ?_
  refine s_region ?_
  refine o_p (p_pure rfl) rfl ?_
  refine o_p (p_pure rfl) rfl ?_
  refine o_nil ?_
  refine s_seq ?_
  refine s_region ?_
  refine o_p (p_pure rfl) rfl ?_
  refine o_h (h_callF (Cs := [.blk b 131 2 [.pointer none, .slice a n cap]]) rfl fn_104 rfl aPs (fun w1 h1 hf => c104a w1 b _ hf)) rfl (fun _ _ => ?_)
  refine o_nil ?_
  refine s_seq ?_
  refine s_region ?_
  refine o_p (p_pure rfl) rfl ?_
  refine o_p (p_pure rfl) rfl ?_
  refine o_p (p_pure rfl) rfl ?_
  refine o_p (p_fieldAddr rfl rfl fd_131_1 sz_112 rfl) rfl ?_
  refine o_q (q_load rfl rfl sz_112 aPk rfl) rfl ?_
  refine o_p (p_pure rfl) rfl ?_
  refine o_h (h_append_strS rfl rfl rfl sl_112 Tryz.underlying9 zr_5 rfl aPk (by omega) (by simp only [maxLen]; omega)) rfl (fun b1 _ => ?_)
  refine o_p (p_pure rfl) rfl ?_
  refine o_p (p_fieldAddr rfl rfl fd_131_1 sz_112 rfl) rfl ?_
  refine o_h0 (h_store rfl rfl rfl sz_112 rfl aPt (by simp only [setMany_length, List.length_set, List.length_cons, List.length_nil, List.length_map]; omega) rfl) (fun _ _ => ?_)
  refine o_nil ?_
  refine s_seq ?_
  refine s_region ?_
  refine o_p (p_pure rfl) rfl ?_
  refine o_p (p_len_str rfl rfl Tryz.underlying9) rfl ?_
  refine o_p (p_pure rfl) rfl ?_
  refine o_p (p_pure rfl) rfl ?_
  refine o_nil ?_
  exact s_retv (rs := [.tmp 4, .tmp 5]) rfl (.tmp rfl (.tmp rfl (.nil))) (fun w' h' => ⟨b1, rfl, trivial, h'.ent aEt⟩)

set_option maxRecDepth 20000 in
theorem c87b (w : World) (b : Nat) (a : Option Addr) (n cap : Nat) (xs : List Value) (s : List UInt8) (hw : HS w (fps [.blk b 131 2 [.pointer (some ⟨b, 0, none⟩), .slice a n cap], .own (.slice a n cap) 5 1 n xs]) [.blk b 131 2 [.pointer (some ⟨b, 0, none⟩), .slice a n cap], .own (.slice a n cap) 5 1 n xs] w) (hl : n + s.length ≤ 1000000000) : Calls Tryz.prog 87 #[.pointer (some ⟨b, 0, none⟩), .string (bs s)] w fun en w' => ∃ g : Option Addr × Nat, en = .returned (.tuple #[.int .i64 (s.length : Int), .nilIface]) ∧ True ∧ HS w (fps [.blk b 131 2 [.pointer (some ⟨b, 0, none⟩), .slice a n cap], .own (.slice a n cap) 5 1 n xs]) [.blk b 131 2 [.pointer (some ⟨b, 0, none⟩), .slice g.1 (n + s.length) g.2], .own (.slice g.1 (n + s.length) g.2) 5 1 (n + s.length) (xs ++ s.map bv)] w' := by
  refine enter (args := [_, _]) Tryz.func87 Tryz.ntmps87 rfl rfl hw ?_
  refine s_seq ?_
  refine s_region ?_
  refine o_p (p_pure rfl) rfl ?_
  refine o_p (p_pure rfl) rfl ?_
  refine o_nil ?_
  refine s_seq ?_
  refine s_region ?_
  refine o_p (p_pure rfl) rfl ?_
  refine o_h (h_callF (Cs := [.blk b 131 2 [.pointer (some ⟨b, 0, none⟩), .slice a n cap]]) rfl fn_104 rfl aPs (fun w1 h1 hf => c104b w1 b _ hf)) rfl (fun _ _ => ?_)
  refine o_nil ?_
  refine s_seq ?_
  refine s_region ?_
  refine o_p (p_pure rfl) rfl ?_
  refine o_p (p_pure rfl) rfl ?_
  refine o_p (p_pure rfl) rfl ?_
  refine o_p (p_fieldAddr rfl rfl fd_131_1 sz_112 rfl) rfl ?_
  refine o_q (q_load rfl rfl sz_112 aPk rfl) rfl ?_
  refine o_p (p_pure rfl) rfl ?_
  refine o_h (h_append_strS rfl rfl rfl sl_112 Tryz.underlying9 zr_5 rfl aPk (by omega) (by simp only [maxLen]; omega)) rfl (fun b1 _ => ?_)
  refine o_p (p_pure rfl) rfl ?_
  refine o_p (p_fieldAddr rfl rfl fd_131_1 sz_112 rfl) rfl ?_
  refine o_h0 (h_store rfl rfl rfl sz_112 rfl aPt (by simp only [setMany_length, List.length_set, List.length_cons, List.length_nil, List.length_map]; omega) rfl) (fun _ _ => ?_)
  refine o_nil ?_
  refine s_seq ?_
  refine s_region ?_
  refine o_p (p_pure rfl) rfl ?_
  refine o_p (p_len_str rfl rfl Tryz.underlying9) rfl ?_
  refine o_p (p_pure rfl) rfl ?_
  refine o_p (p_pure rfl) rfl ?_
  refine o_nil ?_
  exact s_retv (rs := [.tmp 4, .tmp 5]) rfl (.tmp rfl (.tmp rfl (.nil))) (fun w' h' => ⟨b1, rfl, trivial, h'.ent aEt⟩)

set_option maxRecDepth 20000 in
theorem d89 (w : World) (b q cap : Nat) (l : List UInt8) (hw : HS w (fps [.blk b 131 2 [.pointer (some ⟨b, 0, none⟩), .slice (some ⟨q, 0, none⟩) l.length cap], .own (.slice (some ⟨q, 0, none⟩) l.length cap) 5 1 l.length (l.map bv)]) [.blk b 131 2 [.pointer (some ⟨b, 0, none⟩), .slice (some ⟨q, 0, none⟩) l.length cap], .own (.slice (some ⟨q, 0, none⟩) l.length cap) 5 1 l.length (l.map bv)] w) (h0 : l ≠ []) (hcap : l.length ≤ cap) : Calls Tryz.prog 89 #[.pointer (some ⟨b, 0, none⟩)] w fun en w' => ∃ g : Unit, en = .returned (.string (bs l)) ∧ True ∧ HS w (fps [.blk b 131 2 [.pointer (some ⟨b, 0, none⟩), .slice (some ⟨q, 0, none⟩) l.length cap], .own (.slice (some ⟨q, 0, none⟩) l.length cap) 5 1 l.length (l.map bv)]) [] w' := by
  have hl0 : 0 < l.length := by cases l with | nil => exact absurd rfl h0 | cons => simp
  refine enter (args := [_]) Tryz.func89 Tryz.ntmps89 rfl rfl hw ?_
  refine s_seq ?_
  refine s_region ?_
  refine o_p (p_pure rfl) rfl ?_
  refine o_nil ?_
  refine s_seq ?_
  refine s_draw [10] mixed ?_
  refine d_p 0 rfl (p_pure rfl) (by kernel_rfl) rfl rfl ?_
  refine d_p 1 rfl (p_pure rfl) (by kernel_rfl) rfl rfl ?_
  refine d_p 2 rfl (p_fieldAddr rfl rfl fd_131_1 sz_112 rfl) (by kernel_rfl) rfl rfl ?_
  refine d_q 3 [[4]] rfl (q_load rfl rfl sz_112 aPk rfl) (by kernel_rfl) (by kernel_rfl) (by kernel_rfl) rfl ?_
  refine d_p 4 rfl (p_sliceData rfl rfl (by omega)) (by kernel_rfl) rfl rfl ?_
  refine d_p 5 rfl (p_pure rfl) (by kernel_rfl) rfl rfl ?_
  refine d_p 6 rfl (p_pure rfl) (by kernel_rfl) rfl rfl ?_
  refine d_p 7 rfl (p_fieldAddr rfl rfl fd_131_1 sz_112 rfl) (by kernel_rfl) rfl rfl ?_
  refine d_q 8 [[9]] rfl (q_load rfl rfl sz_112 aPk rfl) (by kernel_rfl) (by kernel_rfl) (by kernel_rfl) rfl ?_
  refine d_p 9 rfl (p_len_slice rfl rfl Tryz.underlying112) (by kernel_rfl) rfl rfl ?_
  refine d_h 10 rfl (h_unsafeString rfl rfl rfl Tryz.underlying149 (by kernel_rfl) h0 aPk) (by kernel_rfl) (fun w h => h.ent aEt) rfl (fun _ _ => ?_)
  refine d_turn [] (by kernel_rfl) ?_
  refine d_p 11 rfl (p_pure rfl) (by kernel_rfl) rfl rfl ?_
  refine d_nil (by kernel_rfl) (fun w h => by first | exact h | exact h.ent aEt) ?_
  exact s_retv (rs := [.tmp 2]) rfl (.tmp rfl (.nil)) (fun w' h' => ⟨(), rfl, trivial, h'.nil⟩)

theorem c89 (w : World) (b : Nat) (a : Option Addr) (cap : Nat) (l : List UInt8) (hw : HS w (fps [.blk b 131 2 [.pointer (some ⟨b, 0, none⟩), .slice a l.length cap], .own (.slice a l.length cap) 5 1 l.length (l.map bv)]) [.blk b 131 2 [.pointer (some ⟨b, 0, none⟩), .slice a l.length cap], .own (.slice a l.length cap) 5 1 l.length (l.map bv)] w) (h0 : l ≠ []) : Calls Tryz.prog 89 #[.pointer (some ⟨b, 0, none⟩)] w fun en w' => ∃ g : Unit, en = .returned (.string (bs l)) ∧ True ∧ HS w (fps [.blk b 131 2 [.pointer (some ⟨b, 0, none⟩), .slice a l.length cap], .own (.slice a l.length cap) 5 1 l.length (l.map bv)]) [] w' := by
  have hl : 0 < l.length := by cases l with | nil => exact absurd rfl h0 | cons => simp
  obtain ⟨q, rfl, _, h1, _, _, hb⟩ := HS.own_blk hl (As' := [.blk b 131 2 [.pointer (some ⟨b, 0, none⟩), .slice a l.length cap]]) aPk hw
  exact d89 w b q cap l hw h0 h1

theorem c66 (w : World) (c : Nat) (hc : c ≤ 100000) : Calls Tryz.prog 66 #[.string (bs [0]), .int .i64 (c : Int)] w fun en w' => en = .returned (.string (bs (List.replicate c 0))) ∧ Below w.heap.size w w' := by
  have h := Tryz.strings_Repeat (bs [0]) c w (by omega) (by simp; omega)
  have e : Lib.repeatL (bs [0]).data.toList c = List.replicate c 0 := by
    have := Lib.repeatL_replicate 0 1 c
    simpa using this
  rw [e] at h
  exact h

end Go.Proofs

/- Plain data of chapter 18: the bytes of a half and of a stream. Nothing of a program is named here. -/
namespace Gx
set_option linter.unusedSimpArgs false
set_option linter.unusedVariables false
open Go Go.RowKit
def nmB (u : List Int) : List UInt8 := u.flatMap le4
theorem nmB_len (u : List Int) : (nmB u).length = 4 * u.length := by
  unfold nmB
  induction u with
  | nil => rfl
  | cons x u ih => rw [List.flatMap_cons, List.length_append, ih, List.length_cons]; show 4 + _ = _; omega
theorem nmB_succ {u : List Int} {k : Nat} (h : k < u.length) : nmB (u.take (k + 1)) = nmB (u.take k) ++ le4 (u.getD k 0) := by
  unfold nmB
  rw [take_succ_getD (d := 0) h, List.flatMap_append]; simp
def signB : List UInt8 := [83, 68, 83, 72]
def hd0 (nx n : Int) : List UInt8 := signB ++ nmB [nx, n]
def headS (nx n : Int) : List UInt8 := hd0 nx n ++ nmB [sumS (hd0 nx n)]
def padN (m : Int) : Nat := (upT m - m).toNat
def ilen (x : SItm) : Int := 16 + (x.by_.length : Int)
def itmS (l : List SItm) (k : Nat) : List UInt8 := nmB [hashS (nth l k).by_, (nth l k).id, (plsI (l.take k)).2, ilen (nth l k)] ++ (nth l k).by_ ++ List.replicate (padN (ilen (nth l k))) 0
def halfK (nx : Int) (l : List SItm) (k : Nat) : List UInt8 := headS nx (plsI l).2 ++ (List.range k).flatMap (itmS l)
def halfS (nx : Int) (l : List SItm) : List UInt8 := halfK nx l l.length
theorem itmS_len (l : List SItm) (k : Nat) : ((itmS l k).length : Int) = upT (16 + ((nth l k).by_.length : Int)) := by
  unfold itmS padN ilen
  rw [List.length_append, List.length_append, nmB_len, List.length_replicate]
  unfold upT
  simp only [List.length_cons, List.length_nil]
  omega
theorem halfK_succ (nx : Int) (l : List SItm) (k : Nat) : halfK nx l (k + 1) = halfK nx l k ++ itmS l k := by
  unfold halfK
  rw [List.range_succ, List.flatMap_append, ← List.append_assoc]
  simp
theorem halfK_len (nx : Int) (l : List SItm) : ∀ k, k ≤ l.length → ((halfK nx l k).length : Int) = (plsI (l.take k)).2
  | 0, _ => rfl
  | k + 1, h => by
    rw [halfK_succ, List.length_append, pls_succ (by omega)]
    have h1 := halfK_len nx l k (by omega)
    have h2 := itmS_len l k
    simp only []
    omega
theorem halfS_len (nx : Int) (l : List SItm) : ((halfS nx l).length : Int) = (plsI l).2 := by
  have := halfK_len nx l l.length (Nat.le_refl _)
  rwa [List.take_length] at this
theorem pls_get' {l : List SItm} : ∀ n, n ≤ l.length → ∀ k, k < n → (plsI (l.take n)).1.getD k 0 = (plsI (l.take k)).2
  | 0, _, k, hk => absurd hk (Nat.not_lt_zero _)
  | n + 1, hn, k, hk => by
    rw [pls_succ (by omega)]
    have hl := pls_len n l (by omega)
    rcases Nat.lt_or_ge k n with h | h
    · rw [List.getD_eq_getElem?_getD, List.getElem?_append_left (by omega), ← List.getD_eq_getElem?_getD]
      exact pls_get' n (by omega) k h
    · obtain rfl : k = n := by omega
      rw [List.getD_eq_getElem?_getD, List.getElem?_append_right (by omega), hl]
      simp
theorem pls_get {l : List SItm} {k : Nat} (h : k < l.length) : (plsI l).1.getD k 0 = (plsI (l.take k)).2 := by
  have := pls_get' (l := l) l.length (Nat.le_refl _) k h
  rwa [List.take_length] at this
def streamS (nx : Int) (l : List SItm) : List UInt8 := halfS nx l ++ List.replicate (8192 - (halfS nx l).length) 0 ++ halfS nx l
/-- Bounds of a valid store's parts. -/
theorem pls_mono {l : List SItm} (hb : ∀ x ∈ l, x.by_.length ≤ 100000) : ∀ n, n ≤ l.length → ∀ k, k ≤ n → (plsI (l.take k)).2 ≤ (plsI (l.take n)).2
  | 0, _, k, hk => by obtain rfl : k = 0 := by omega
                      exact Int.le_refl _
  | n + 1, hn, k, hk => by
    rcases Nat.lt_or_ge k (n + 1) with h | h
    · have h1 := pls_mono hb n (by omega) k (by omega)
      rw [pls_succ (show n < l.length by omega)]
      unfold upT
      simp only []
      omega
    · obtain rfl : k = n + 1 := by omega
      exact Int.le_refl _
end Gx

namespace Go.Proofs
open Go Go.RowKit Gx
set_option linter.unusedVariables false
set_option linter.unusedSimpArgs false
attribute [local irreducible] Go.Calls Gx.S Gx.O Gx.D Gx.OpP Gx.OpQ Gx.OpH

theorem fn_103 : isFn Tryz.prog 103 = true := by kernel_rfl
theorem fn_86 : isFn Tryz.prog 86 = true := by kernel_rfl
theorem zr_131 : tzero Tryz.prog 131 = some [.pointer none, .slice none 0 0] := by kernel_rfl
theorem fn_88 : isFn Tryz.prog 88 = true := by kernel_rfl
theorem fn_87 : isFn Tryz.prog 87 = true := by kernel_rfl
theorem fn_66 : isFn Tryz.prog 66 = true := by kernel_rfl
theorem fn_89 : isFn Tryz.prog 89 = true := by kernel_rfl


set_option maxRecDepth 20000 in
theorem c86 (w : World) (ua : Option Addr) (uc : Nat) (u : List Int) (hu : Vl w ua (u.map nv)) (hum : u.length ≤ 1000) (hur : ∀ x ∈ u, 0 ≤ x ∧ x < 4294967296) : Calls Tryz.prog 86 #[.slice ua u.length uc] w fun en w' => en = .returned (.string (bs (nmB u))) ∧ Below w.heap.size w w' := by
  refine enter (args := [_]) Tryz.func86 Tryz.ntmps86 rfl rfl (HS.refl w []) ?_
  refine s_seq ?_
  refine s_region ?_
  refine o_p (p_pure rfl) rfl ?_
  refine o_nil ?_
  refine s_seq ?_
  refine s_region ?_
  refine o_p (p_pure rfl) rfl ?_
  refine o_nil ?_
  refine s_seq ?_
  refine s_seq ?_
  refine s_region ?_
  refine o_p (p_pure rfl) rfl ?_
  refine o_p (p_len_slice rfl rfl Tryz.underlying25) rfl ?_
  refine o_p (p_pure rfl) rfl ?_
  refine o_nil ?_
  refine s_block ?_
  refine s_loopI (α := Nat × Option Addr × Nat) [3, 5, 8, 9, 10, 11, 12, 13, 14, 15, 16] (fun y => [(8, .int .i64 (y.1 : Int)), (3, .slice y.2.1 (nmB (u.take y.1)).length y.2.2)]) (fun y => HS w [] [.own (.slice y.2.1 (nmB (u.take y.1)).length y.2.2) 5 1 ((nmB (u.take y.1)).length) (((nmB (u.take y.1))).map bv)]) (fun y => y.1 ≤ u.length) (fun y => u.length - y.1) (0, none, 0) (Nat.zero_le _) aSx (fun w h => (h.own_nil 5 1).ent aEt) (fun ⟨k, ga⟩ hk1 => ?_)
  dsimp only
  simp only [] at hk1
  refine s_seq ?_
  refine s_region ?_
  refine o_p (p_pure rfl) rfl ?_
  refine o_nil ?_
  refine s_seq ?_
  refine s_cond rfl (fun h1 => ?_) (fun h1 => ?_)
  · try simp only [decide_eq_true_eq, decide_eq_false_iff_not, Bool.not_eq_true', Bool.not_eq_false', Bool.and_eq_true, Bool.or_eq_true, Bool.and_eq_false_iff, Bool.or_eq_false_iff, Bool.not_true, Bool.not_false] at h1
    have hk : k < u.length := by omega
    have hst := nmB_succ hk
    have hnl := nmB_len (u.take k)
    rw [List.length_take] at hnl
    have hr9 := hur _ (getD_mem (d := 0) hk)
    refine s_skip ?_
    refine s_seq ?_
    refine s_block ?_
    refine s_seq ?_
    refine s_region ?_
    refine o_p (p_indexAddr rfl rfl rfl sl_25 (k) (by omega) (by omega) (hu.some (by rw [List.length_map]; omega))) rfl ?_
    refine o_q (q_load_old rfl rfl sz_3 ((hu.rd (nv_get hk)))) rfl ?_
    refine o_p (p_pure rfl) rfl ?_
    refine o_nil ?_
    refine s_region ?_
    refine o_p (p_pure rfl) rfl ?_
    refine o_p (p_pure rfl) rfl ?_
    refine o_p (p_conv_int rfl rfl ki_3 ki_114) rfl ?_
    refine o_slot (show _ = Value.int .u32 (u.getD k 0) from by rw [u32wM, Int.emod_eq_of_lt (by omega) (by omega)]) ?_
    refine o_h (h_callF (Cs := [.own (.slice ga.1 (nmB (u.take k)).length ga.2) 5 1 ((nmB (u.take k)).length) (((nmB (u.take k))).map bv)]) rfl fn_103 rfl aPs (fun w1 h1 hf => c103 w1 ga.1 ga.2 (nmB (u.take k)) (u.getD k 0) hf (by omega) (by omega))) rfl (fun gn _ => ?_)
    refine o_p (p_pure rfl) rfl ?_
    refine o_nil ?_
    refine s_blk ?_
    refine s_region ?_
    refine o_p (p_pure rfl) rfl ?_
    try (refine o_slot (i64w (by omega) (by omega)) ?_)
    refine o_p (p_pure rfl) rfl ?_
    refine o_nil ?_
    exact s_backI (k + 1, gn) (by (try simp only []); omega) (by (try simp only []); omega) (by dsimp only; rw [hst]; exact aSx) (fun w h => by dsimp only; rw [hst]; exact h.ent aEt)
  · try simp only [decide_eq_true_eq, decide_eq_false_iff_not, Bool.not_eq_true', Bool.not_eq_false', Bool.and_eq_true, Bool.or_eq_true, Bool.and_eq_false_iff, Bool.or_eq_false_iff, Bool.not_true, Bool.not_false] at h1
    obtain rfl : k = u.length := by omega
    rw [List.take_length]
    refine s_exit_to rfl ?_
    refine s_seq ?_
    refine s_region ?_
    refine o_p (p_pure rfl) rfl ?_
    refine o_q (q_string_own rfl rfl Tryz.underlying112 Tryz.underlying9 Tryz.underlying5 aPk (isU8_bv _)) rfl ?_
    refine o_p (p_pure rfl) rfl ?_
    refine o_nil ?_
    exact s_retv (rs := [.tmp 2]) rfl (.tmp rfl (.nil)) (fun w' h' => ⟨by rw [vByte_bv]; rfl, h'.below⟩)

set_option maxRecDepth 20000 in
set_option maxHeartbeats 2000000 in
theorem c65 (w : World) (nx : Int) (a : Option Addr) (cap : Nat) (l : List SItm) (hs : Rw SItm.vals 2 w [] a l) (hm : l.length ≤ 100000) (hb : ∀ x ∈ l, x.by_.length ≤ 100000) (hst0 : (stoE nx l).2 = 0) : Calls Tryz.prog 65 #[.agg #[.int .i64 nx, .slice a l.length cap]] w fun en w' => en = .returned (.string (bs (halfS nx l))) ∧ Below w.heap.size w w' := by
  obtain ⟨hnx, hl60, hit9, hpl9⟩ := sto_ok hst0
  have hple := pls_le' hb
  have hsu := sumS_le (hd0 nx (plsI l).2)
  have hhl := halfS_len nx l
  have hd0l : (hd0 nx (plsI l).2).length = 12 := rfl
  have hhsl : (headS nx (plsI l).2).length = 16 := rfl
  refine enter (args := [_]) Tryz.func65 Tryz.ntmps65 rfl rfl (HS.refl w []) ?_
  refine s_seq ?_
  refine s_region ?_
  refine o_h (h_box rfl rfl) rfl (fun b1 _ => ?_)
  refine o_p (p_pure rfl) rfl ?_
  refine o_nil ?_
  refine s_seq ?_
  refine s_region ?_
  refine o_p (p_fieldAddr rfl rfl fd_24_1 sz_22 rfl) rfl ?_
  refine o_q (q_load rfl rfl sz_22 aPk rfl) rfl ?_
  refine o_h (h_call rfl fn_54 rfl (fun w1 h1 => c54 w1 a cap l (hs.later h1) hm hb)) rfl (fun gp _ => ?_)
  refine o_p (p_pure rfl) rfl ?_
  refine o_p (p_pure rfl) rfl ?_
  refine o_p (p_pure rfl) rfl ?_
  refine o_p (p_pure rfl) rfl ?_
  refine o_p (p_pure rfl) rfl ?_
  refine o_nil ?_
  refine s_seq ?_
  refine s_region ?_
  refine o_p (p_fieldAddr rfl rfl fd_24_0 sz_3 rfl) rfl ?_
  refine o_q (q_load rfl rfl sz_3 aPk rfl) rfl ?_
  refine o_p (p_pure rfl) rfl ?_
  refine o_h (h_buildSlice (cs := [_, _]) rfl rfl sl_25 zr_3 rfl rfl rfl) rfl (fun b2 _ => ?_)
  refine o_q (q_call rfl fn_86 rfl (fun w1 h1 => c86 w1 _ _ [nx, (plsI l).2] (h1.vl_blk aPk) (by simp) (by intro x hx; simp only [List.mem_cons, List.mem_nil_iff, or_false] at hx; rcases hx with rfl | rfl <;> omega))) rfl ?_
  refine o_p (p_str_add rfl rfl rfl (by (try simp only [List.length_append, List.length_cons, List.length_nil, List.length_replicate, List.length_take, List.length_drop, nmB_len, List.length_cons]); omega)) rfl ?_
  refine o_slot (show _ = Value.string (bs (hd0 nx (plsI l).2)) from rfl) ?_
  refine o_p (p_pure rfl) rfl ?_
  refine o_nil ?_
  refine s_seq ?_
  refine s_region ?_
  refine o_h (h_alloc rfl zr_131) rfl (fun b3 _ => ?_)
  refine o_class (C' := HS w [] [.own (.slice none 0 0) 5 1 0 [], .blk b3 131 2 [.pointer none, .slice none 0 0], .own (.slice gp.1 l.length gp.2) 3 1 l.length ((plsI l).1.map nv), .blk b1 24 2 [.int .i64 nx, .slice a l.length cap]]) (fun w h => (h.own_nil 5 1).ent aEt) ?_
  refine o_nil ?_
  refine s_seq ?_
  refine s_region ?_
  refine o_p (p_pure rfl) rfl ?_
  refine o_p (p_pure rfl) rfl ?_
  refine o_q (q_call rfl fn_88 rfl (fun w1 h1 => c88 w1 (hd0 nx (plsI l).2) (by omega))) rfl ?_
  refine o_h (h_buildSlice (cs := [_]) rfl rfl sl_25 zr_3 rfl rfl rfl) rfl (fun b4 _ => ?_)
  refine o_q (q_call rfl fn_86 rfl (fun w1 h1 => c86 w1 _ _ [sumS (hd0 nx (plsI l).2)] (h1.vl_blk aPk) (by simp) (by intro x hx; simp only [List.mem_cons, List.mem_nil_iff, or_false] at hx; rcases hx with rfl <;> omega))) rfl ?_
  refine o_p (p_str_add rfl rfl rfl (by (try simp only [List.length_append, List.length_cons, List.length_nil, List.length_replicate, List.length_take, List.length_drop, nmB_len, List.length_cons]); omega)) rfl ?_
  refine o_slot (show _ = Value.string (bs (headS nx (plsI l).2)) from rfl) ?_
  refine o_h (h_callF (Cs := [.blk b3 131 2 [.pointer none, .slice none 0 0], .own (.slice none 0 0) 5 1 0 []]) rfl fn_87 rfl aPs (fun w1 h1 hf => c87a w1 b3 none 0 0 [] (headS nx (plsI l).2) hf (by omega))) rfl (fun g1 _ => ?_)
  refine o_nil ?_
  refine s_seq ?_
  refine s_seq ?_
  refine s_region ?_
  refine o_p (p_fieldAddr rfl rfl fd_24_1 sz_22 rfl) rfl ?_
  refine o_q (q_load rfl rfl sz_22 aPk rfl) rfl ?_
  refine o_p (p_len_slice rfl rfl Tryz.underlying22) rfl ?_
  refine o_p (p_pure rfl) rfl ?_
  refine o_nil ?_
  refine s_block ?_
  refine s_weaken (L' := [(2, _), (3, _), (6, _), (30, _), (31, _), (32, _)]) aSx (fun _ h => h) ?_
  refine s_loopI (α := Nat × Option Addr × Nat) [7, 8, 9, 32, 33, 34, 35, 36, 37, 38, 39, 40, 41, 42, 43, 44, 45, 46, 47, 48, 49, 50, 51, 52, 53, 54, 55, 56, 57, 58, 59, 60, 61, 62, 63] (fun y => [(32, .int .i64 (y.1 : Int))]) (fun y => HS w [] [.blk b3 131 2 [.pointer (some ⟨b3, 0, none⟩), .slice y.2.1 (halfK nx l y.1).length y.2.2], .own (.slice y.2.1 (halfK nx l y.1).length y.2.2) 5 1 (halfK nx l y.1).length ((halfK nx l y.1).map bv), .own (.slice gp.1 l.length gp.2) 3 1 l.length ((plsI l).1.map nv), .blk b1 24 2 [.int .i64 nx, .slice a l.length cap]]) (fun y => y.1 ≤ l.length) (fun y => l.length - y.1) (0, g1.1, g1.2) (Nat.zero_le _) aSx (fun w h => by dsimp only; rw [show (halfK nx l 0) = headS nx (plsI l).2 from List.append_nil _]; exact h.ent aEt) (fun ⟨k, ga⟩ hk1 => ?_)
  dsimp only
  simp only [] at hk1
  refine s_seq ?_
  refine s_region ?_
  refine o_p (p_pure rfl) rfl ?_
  refine o_nil ?_
  refine s_seq ?_
  refine s_cond rfl (fun h5 => ?_) (fun h5 => ?_)
  · try simp only [decide_eq_true_eq, decide_eq_false_iff_not, Bool.not_eq_true', Bool.not_eq_false', Bool.and_eq_true, Bool.or_eq_true, Bool.and_eq_false_iff, Bool.or_eq_false_iff, Bool.not_true, Bool.not_false] at h5
    have hk : k < l.length := by omega
    have hrg := (itm_rng (hit9 k hk)).1
    have hbk : (nth l k).by_.length ≤ 100000 := hb _ (getD_mem hk)
    have hpk := pls_le hb k (by omega)
    have hpm := pls_mono hb l.length (Nat.le_refl _) k (by omega)
    rw [List.take_length] at hpm
    have hhk := halfK_len nx l k (by omega)
    have hha := hashS_le (nth l k).by_
    have hup : upT (ilen (nth l k)) - ilen (nth l k) = ((padN (ilen (nth l k)) : Nat) : Int) ∧ padN (ilen (nth l k)) ≤ 16 := by unfold padN upT ilen; omega
    have hil : ilen (nth l k) = 16 + ((nth l k).by_.length : Int) := rfl
    have hpl5 := pls_len' l
    have hsc : halfK nx l (k + 1) = ((halfK nx l k) ++ (nmB [hashS (nth l k).by_, (nth l k).id, (plsI (l.take k)).2, ilen (nth l k)] ++ (nth l k).by_)) ++ (List.replicate (padN (ilen (nth l k))) (0 : UInt8)) := by rw [halfK_succ]; unfold itmS; rw [← List.append_assoc]
    refine s_fact (fun w h => Vl.some (HS.vl_own (a := gp.1) (t := 3) h aPk) (by rw [List.length_map]; omega)) fun hsm => ?_
    refine s_skip ?_
    refine s_seq ?_
    refine s_block ?_
    refine s_seq ?_
    refine s_region ?_
    refine o_p (p_pure rfl) rfl ?_
    refine o_p (p_indexAddr rfl rfl rfl sl_22 (k) (by omega) (by omega) (Rw.some hs (by omega))) rfl ?_
    refine o_q (q_load_oldn _ rfl rfl sz_77 rfl (Rw.rd hs hk)) rfl ?_
    refine o_h (h_alloc rfl zr_77) rfl (fun b6 _ => ?_)
    refine o_p (p_pure rfl) rfl ?_
    refine o_h0 (h_store rfl rfl rfl sz_77 rfl aPt (by simp only [setMany_length, List.length_set, List.length_cons, List.length_nil, List.length_map]; omega) rfl) (fun _ _ => ?_)
    refine o_nil ?_
    refine s_seq ?_
    refine s_region ?_
    refine o_p (p_fieldAddr rfl rfl fd_77_1 sz_9 rfl) rfl ?_
    refine o_q (q_load rfl rfl sz_9 aPk rfl) rfl ?_
    refine o_p (p_len_str rfl rfl Tryz.underlying9) rfl ?_
    refine o_p (p_pure rfl) rfl ?_
    try (refine o_slot (i64w (by omega) (by omega)) ?_)
    refine o_slot (show _ = Value.int .i64 (ilen (nth l k)) from rfl) ?_
    refine o_p (p_pure rfl) rfl ?_
    refine o_nil ?_
    refine s_seq ?_
    refine s_draw [15] mixed ?_
    refine d_p 0 rfl (p_fieldAddr rfl rfl fd_77_1 sz_9 rfl) (by kernel_rfl) rfl rfl ?_
    refine d_q 1 [[11, 2]] rfl (q_load rfl rfl sz_9 aPk rfl) (by kernel_rfl) (by kernel_rfl) (by kernel_rfl) rfl ?_
    refine d_q 2 [[11]] rfl (q_call rfl fn_48 rfl (fun w1 h1 => c48 w1 (nth l k).by_ (by omega))) (by kernel_rfl) (by kernel_rfl) (by kernel_rfl) rfl ?_
    refine d_p 3 rfl (p_fieldAddr rfl rfl fd_77_0 sz_3 rfl) (by kernel_rfl) rfl rfl ?_
    refine d_q 4 [[11, 10]] rfl (q_load rfl rfl sz_3 aPk rfl) (by kernel_rfl) (by kernel_rfl) (by kernel_rfl) rfl ?_
    refine d_p 5 rfl (p_pure rfl) (by kernel_rfl) rfl rfl ?_
    refine d_p 6 rfl (p_pure rfl) (by kernel_rfl) rfl rfl ?_
    refine d_p 7 rfl (p_indexAddr rfl rfl rfl sl_25 (k) (by omega) (by omega) hsm) (by kernel_rfl) rfl rfl ?_
    refine d_q 8 [[11, 10]] rfl (q_load_at rfl rfl sz_3 (fun w h => (HS.vl_own (a := gp.1) (t := 3) h aPk).rd (nv_get (k := k) (by omega)))) (by kernel_rfl) (by kernel_rfl) (by kernel_rfl) rfl ?_
    refine d_slot (show _ = Value.int .i64 (plsI (l.take k)).2 from by rw [pls_get hk]) ?_
    refine d_p 9 rfl (p_pure rfl) (by kernel_rfl) rfl rfl ?_
    refine d_p 12 rfl (p_fieldAddr rfl rfl fd_77_1 sz_9 rfl) (by kernel_rfl) rfl rfl ?_
    refine d_q 13 [[14]] rfl (q_load rfl rfl sz_9 aPk rfl) (by kernel_rfl) (by kernel_rfl) (by kernel_rfl) rfl ?_
    refine d_h 10 rfl (h_buildSlice (cs := [_, _, _, _]) rfl rfl sl_25 zr_3 rfl rfl rfl) (by kernel_rfl) (fun w h => h.ent aEt) rfl (fun b7 _ => ?_)
    refine d_base (fun w h => h.ent aEt) ?_
    refine d_q 11 [[]] rfl (q_call rfl fn_86 rfl (fun w1 h1 => c86 w1 _ _ [hashS (nth l k).by_, (nth l k).id, (plsI (l.take k)).2, ilen (nth l k)] (h1.vl_blk aPk) (by simp) (by intro x hx; simp only [List.mem_cons, List.mem_nil_iff, or_false] at hx; rcases hx with rfl | rfl | rfl | rfl <;> omega))) (by kernel_rfl) (by kernel_rfl) (by kernel_rfl) rfl ?_
    refine d_p 14 rfl (p_str_add rfl rfl rfl (by (try simp only [List.length_append, List.length_cons, List.length_nil, List.length_replicate, List.length_take, List.length_drop, nmB_len, List.length_cons]); omega)) (by kernel_rfl) rfl rfl ?_
    refine d_slot (show _ = Value.string (bs (nmB [hashS (nth l k).by_, (nth l k).id, (plsI (l.take k)).2, ilen (nth l k)] ++ (nth l k).by_)) from rfl) ?_
    refine d_h 15 rfl (h_callF (Cs := [.blk b3 131 2 [.pointer (some ⟨b3, 0, none⟩), .slice ga.1 (halfK nx l k).length ga.2], .own (.slice ga.1 (halfK nx l k).length ga.2) 5 1 (halfK nx l k).length ((halfK nx l k).map bv)]) rfl fn_87 rfl aPs (fun w1 h1 hf => c87b w1 b3 ga.1 (halfK nx l k).length ga.2 ((halfK nx l k).map bv) (nmB [hashS (nth l k).by_, (nth l k).id, (plsI (l.take k)).2, ilen (nth l k)] ++ (nth l k).by_) hf (by simp only [List.length_append, List.length_replicate, nmB_len, List.length_cons, List.length_nil]; omega))) (by kernel_rfl) (fun w h => h.ent aEt) rfl (fun g2 _ => ?_)
    refine d_turn [] (by kernel_rfl) ?_
    refine d_nil (by kernel_rfl) (fun w h => by first | exact h | exact h.ent aEt) ?_
    refine s_weaken (L' := [(2, _), (3, _), (6, _), (9, _), (30, _), (31, _), (32, _)]) aSx (fun _ h => h) ?_
    refine s_region ?_
    refine o_p (p_pure rfl) rfl ?_
    refine o_class (C' := HS w [] [.blk b3 131 2 [.pointer (some ⟨b3, 0, none⟩), .slice g2.1 ((halfK nx l k) ++ (nmB [hashS (nth l k).by_, (nth l k).id, (plsI (l.take k)).2, ilen (nth l k)] ++ (nth l k).by_)).length g2.2], .own (.slice g2.1 ((halfK nx l k) ++ (nmB [hashS (nth l k).by_, (nth l k).id, (plsI (l.take k)).2, ilen (nth l k)] ++ (nth l k).by_)).length g2.2) 5 1 ((halfK nx l k) ++ (nmB [hashS (nth l k).by_, (nth l k).id, (plsI (l.take k)).2, ilen (nth l k)] ++ (nth l k).by_)).length (((halfK nx l k) ++ (nmB [hashS (nth l k).by_, (nth l k).id, (plsI (l.take k)).2, ilen (nth l k)] ++ (nth l k).by_)).map bv), .blk b6 77 2 [.int .i64 (nth l k).id, .string (bs (nth l k).by_)], .own (.slice gp.1 l.length gp.2) 3 1 l.length ((plsI l).1.map nv), .blk b1 24 2 [.int .i64 nx, .slice a l.length cap]]) (fun w h => by rw [List.map_append (l₁ := (halfK nx l k)), @List.length_append _ (halfK nx l k) (nmB [hashS (nth l k).by_, (nth l k).id, (plsI (l.take k)).2, ilen (nth l k)] ++ (nth l k).by_)]; exact h.ent aEt) ?_
    refine o_q (q_call rfl fn_80 rfl (fun w1 h1 => c80 w1 (ilen (nth l k)) (by omega))) rfl ?_
    refine o_p (p_pure rfl) rfl ?_
    refine o_p (p_pure rfl) rfl ?_
    try (refine o_slot (i64w (by omega) (by omega)) ?_)
    refine o_slot (show _ = Value.int .i64 ((padN (ilen (nth l k)) : Nat) : Int) from by rw [hup.1]) ?_
    refine o_q (q_call rfl fn_66 rfl (fun w1 h1 => c66 w1 (padN (ilen (nth l k))) (by omega))) rfl ?_
    refine o_h (h_callF (Cs := [.blk b3 131 2 [.pointer (some ⟨b3, 0, none⟩), .slice g2.1 ((halfK nx l k) ++ (nmB [hashS (nth l k).by_, (nth l k).id, (plsI (l.take k)).2, ilen (nth l k)] ++ (nth l k).by_)).length g2.2], .own (.slice g2.1 ((halfK nx l k) ++ (nmB [hashS (nth l k).by_, (nth l k).id, (plsI (l.take k)).2, ilen (nth l k)] ++ (nth l k).by_)).length g2.2) 5 1 ((halfK nx l k) ++ (nmB [hashS (nth l k).by_, (nth l k).id, (plsI (l.take k)).2, ilen (nth l k)] ++ (nth l k).by_)).length (((halfK nx l k) ++ (nmB [hashS (nth l k).by_, (nth l k).id, (plsI (l.take k)).2, ilen (nth l k)] ++ (nth l k).by_)).map bv)]) rfl fn_87 rfl aPs (fun w1 h1 hf => c87b w1 b3 g2.1 ((halfK nx l k) ++ (nmB [hashS (nth l k).by_, (nth l k).id, (plsI (l.take k)).2, ilen (nth l k)] ++ (nth l k).by_)).length g2.2 (((halfK nx l k) ++ (nmB [hashS (nth l k).by_, (nth l k).id, (plsI (l.take k)).2, ilen (nth l k)] ++ (nth l k).by_)).map bv) (List.replicate (padN (ilen (nth l k))) (0 : UInt8)) hf (by simp only [List.length_append, List.length_replicate, nmB_len, List.length_cons, List.length_nil]; omega))) rfl (fun g3 _ => ?_)
    refine o_class (C' := HS w [] [.blk b3 131 2 [.pointer (some ⟨b3, 0, none⟩), .slice g3.1 (((halfK nx l k) ++ (nmB [hashS (nth l k).by_, (nth l k).id, (plsI (l.take k)).2, ilen (nth l k)] ++ (nth l k).by_)) ++ (List.replicate (padN (ilen (nth l k))) (0 : UInt8))).length g3.2], .own (.slice g3.1 (((halfK nx l k) ++ (nmB [hashS (nth l k).by_, (nth l k).id, (plsI (l.take k)).2, ilen (nth l k)] ++ (nth l k).by_)) ++ (List.replicate (padN (ilen (nth l k))) (0 : UInt8))).length g3.2) 5 1 (((halfK nx l k) ++ (nmB [hashS (nth l k).by_, (nth l k).id, (plsI (l.take k)).2, ilen (nth l k)] ++ (nth l k).by_)) ++ (List.replicate (padN (ilen (nth l k))) (0 : UInt8))).length ((((halfK nx l k) ++ (nmB [hashS (nth l k).by_, (nth l k).id, (plsI (l.take k)).2, ilen (nth l k)] ++ (nth l k).by_)) ++ (List.replicate (padN (ilen (nth l k))) (0 : UInt8))).map bv), .own (.slice gp.1 l.length gp.2) 3 1 l.length ((plsI l).1.map nv), .blk b1 24 2 [.int .i64 nx, .slice a l.length cap]]) (fun w h => by rw [List.map_append (l₁ := ((halfK nx l k) ++ (nmB [hashS (nth l k).by_, (nth l k).id, (plsI (l.take k)).2, ilen (nth l k)] ++ (nth l k).by_))), @List.length_append _ ((halfK nx l k) ++ (nmB [hashS (nth l k).by_, (nth l k).id, (plsI (l.take k)).2, ilen (nth l k)] ++ (nth l k).by_)) (List.replicate (padN (ilen (nth l k))) (0 : UInt8))]; exact h.ent aEt) ?_
    refine o_nil ?_
    refine s_blk ?_
    refine s_region ?_
    refine o_p (p_pure rfl) rfl ?_
    try (refine o_slot (i64w (by omega) (by omega)) ?_)
    refine o_p (p_pure rfl) rfl ?_
    refine o_nil ?_
    exact s_backI (k + 1, g3) (by (try simp only []); omega) (by (try simp only []); omega) aSx (fun w h => by dsimp only; rw [hsc]; exact h.ent aEt)
  · try simp only [decide_eq_true_eq, decide_eq_false_iff_not, Bool.not_eq_true', Bool.not_eq_false', Bool.and_eq_true, Bool.or_eq_true, Bool.and_eq_false_iff, Bool.or_eq_false_iff, Bool.not_true, Bool.not_false] at h5
    obtain rfl : k = l.length := by omega
    refine s_exit_to rfl ?_
    refine s_seq ?_
    refine s_region ?_
    refine o_h (h_callF (Cs := [.blk b3 131 2 [.pointer (some ⟨b3, 0, none⟩), .slice ga.1 (halfS nx l).length ga.2], .own (.slice ga.1 (halfS nx l).length ga.2) 5 1 (halfS nx l).length ((halfS nx l).map bv)]) rfl fn_89 rfl aPs (fun w1 h1 hf => c89 w1 b3 ga.1 ga.2 (halfS nx l) hf (by intro e9; rw [e9] at hhl; simp at hhl; omega))) rfl (fun _ _ => ?_)
    refine o_p (p_pure rfl) rfl ?_
    refine o_nil ?_
    exact s_retv (rs := [.tmp 2]) rfl (.tmp rfl (.nil)) (fun w' h' => ⟨by rfl, h'.below⟩)

end Go.Proofs

namespace Go.Proofs
open Go Go.RowKit Gx
set_option linter.unusedVariables false
set_option linter.unusedSimpArgs false
attribute [local irreducible] Go.Calls Gx.S Gx.O Gx.D Gx.OpP Gx.OpQ Gx.OpH

theorem fn_65 : isFn Tryz.prog 65 = true := by kernel_rfl
theorem fn_23 : isFn Tryz.prog 23 = true := by kernel_rfl
theorem fn_9 : isFn Tryz.prog 9 = true := by kernel_rfl


set_option maxRecDepth 20000 in
theorem c38 (w : World) (nx : Int) (a : Option Addr) (cap : Nat) (l : List SItm) (hs : Rw SItm.vals 2 w [] a l) (hm : l.length ≤ 100000) (hb : ∀ x ∈ l, x.by_.length ≤ 100000) : Calls Tryz.prog 38 #[.agg #[.int .i64 nx, .slice a l.length cap]] w fun en w' => en = .returned (.tuple #[.string (bs (if (stoE nx l).2 = 0 then streamS nx l else [])), .int .i64 (stoE nx l).2]) ∧ Below w.heap.size w w' := by
  refine enter (args := [_]) Tryz.func38 Tryz.ntmps38 rfl rfl (HS.refl w []) ?_
  refine s_seq ?_
  refine s_region ?_
  refine o_h (h_box rfl rfl) rfl (fun b1 _ => ?_)
  refine o_p (p_pure rfl) rfl ?_
  refine o_p (p_pure rfl) rfl ?_
  refine o_nil ?_
  refine s_seq ?_
  refine s_seq ?_
  refine s_region ?_
  refine o_q (q_loadn rfl rfl sz_24 aPk rfl) rfl ?_
  refine o_q (q_call rfl fn_39 rfl (fun w1 h1 => c39 w1 nx a cap l (hs.later h1) hm hb)) rfl ?_
  refine o_p (p_pure rfl) rfl ?_
  refine o_nil ?_
  refine s_seq ?_
  refine s_region ?_
  refine o_p (p_pure rfl) rfl ?_
  refine o_p (p_pure rfl) rfl ?_
  refine o_nil ?_
  refine s_cond rfl (fun h2 => ?_) (fun h2 => ?_)
  · try simp only [decide_eq_true_eq, decide_eq_false_iff_not, Bool.not_eq_true', Bool.not_eq_false', Bool.and_eq_true, Bool.or_eq_true, Bool.and_eq_false_iff, Bool.or_eq_false_iff, Bool.not_true, Bool.not_false] at h2
    have h0 : ¬ (stoE nx l).2 = 0 := h2
    refine s_seq ?_
    refine s_region ?_
    refine o_p (p_pure rfl) rfl ?_
    refine o_p (p_pure rfl) rfl ?_
    refine o_p (p_pure rfl) rfl ?_
    refine o_nil ?_
    exact s_retv (rs := [.tmp 2, .tmp 3]) rfl (.tmp rfl (.tmp rfl (.nil))) (fun w' h' => ⟨by rw [if_neg h0]; rfl, h'.below⟩)
  · try simp only [decide_eq_true_eq, decide_eq_false_iff_not, Bool.not_eq_true', Bool.not_eq_false', Bool.and_eq_true, Bool.or_eq_true, Bool.and_eq_false_iff, Bool.or_eq_false_iff, Bool.not_true, Bool.not_false] at h2
    have h0 : (stoE nx l).2 = 0 := h2
    obtain ⟨hnx, hl60, hit9, hpl9⟩ := sto_ok h0
    have hhl := halfS_len nx l
    refine s_skip ?_
    refine s_seq ?_
    refine s_region ?_
    refine o_q (q_loadn rfl rfl sz_24 aPk rfl) rfl ?_
    refine o_q (q_call rfl fn_65 rfl (fun w1 h1 => c65 w1 nx a cap l (hs.later h1) hm hb h0)) rfl ?_
    refine o_p (p_pure rfl) rfl ?_
    refine o_nil ?_
    refine s_seq ?_
    refine s_region ?_
    refine o_p (p_pure rfl) rfl ?_
    refine o_p (p_pure rfl) rfl ?_
    refine o_p (p_len_str rfl rfl Tryz.underlying9) rfl ?_
    refine o_p (p_pure rfl) rfl ?_
    try (refine o_slot (i64w (by omega) (by omega)) ?_)
    refine o_slot (show _ = Value.int .i64 ((8192 - (halfS nx l).length : Nat) : Int) from congrArg (Value.int .i64) (by omega)) ?_
    refine o_q (q_call rfl fn_66 rfl (fun w1 h1 => c66 w1 (8192 - (halfS nx l).length) (by omega))) rfl ?_
    refine o_p (p_str_add rfl rfl rfl (by (try simp only [List.length_append, List.length_cons, List.length_nil, List.length_replicate, List.length_take, List.length_drop, List.length_append, List.length_replicate]); omega)) rfl ?_
    refine o_p (p_pure rfl) rfl ?_
    refine o_p (p_str_add rfl rfl rfl (by (try simp only [List.length_append, List.length_cons, List.length_nil, List.length_replicate, List.length_take, List.length_drop, List.length_append, List.length_replicate]); omega)) rfl ?_
    refine o_slot (show _ = Value.string (bs (streamS nx l)) from by rw [streamS]) ?_
    refine o_p (p_pure rfl) rfl ?_
    refine o_p (p_pure rfl) rfl ?_
    refine o_nil ?_
    exact s_retv (rs := [.tmp 2, .tmp 3]) rfl (.tmp rfl (.tmp rfl (.nil))) (fun w' h' => ⟨by rw [if_pos h0, h0]; rfl, h'.below⟩)

end Go.Proofs

/- Plain facts of chapter 18: the examples of 'awake'. Nothing of a program is named here. -/
namespace Gx
open Go Go.RowKit
def dA : Dsc := ⟨10, 10, false, false, [], []⟩
def dB : Dsc := ⟨10, 10, false, true, [⟨0, 0, 1, 1⟩], []⟩
def bA : List UInt8 := [1, 0, 0, 0, 10, 0, 0, 0, 10, 0, 0, 0]
def bB : List UInt8 := [1, 2, 1, 0, 10, 0, 0, 0, 10, 0, 0, 0, 0, 0, 1, 0, 1, 0, 0, 0]
def lA : List SItm := [⟨256, bA⟩]
def lB : List SItm := [⟨256, bA⟩, ⟨257, bB⟩]
theorem aw_1 : addT 256 [] dA = ⟨257, lA, 256, 0⟩ := by kernel_rfl
theorem aw_2 : addT 257 lA dB = ⟨258, lB, 257, 0⟩ := by kernel_rfl
theorem aw_3 : (stoE 258 lB).2 = 0 := by kernel_rfl
theorem aw_4 : plsI lB = ([16, 48], 96) := by kernel_rfl
theorem aw_5 : (stoE 257 lA).2 = 0 := by kernel_rfl
theorem aw_6 : colE 258 lB [257] = 0 := by kernel_rfl
theorem aw_7 : colT 258 lB [257] = ⟨258, [⟨257, bB⟩], [256]⟩ := by kernel_rfl
theorem aw_8 : (streamS 257 lA).length = 8240 := by
  have h := halfS_len 257 lA
  rw [show (plsI lA).2 = 48 by kernel_rfl] at h
  unfold streamS
  rw [List.length_append, List.length_append, List.length_replicate]
  omega
end Gx

namespace Go.Proofs
open Go Go.RowKit Gx
set_option linter.unusedVariables false
set_option linter.unusedSimpArgs false
attribute [local irreducible] Go.Calls Gx.S Gx.O Gx.D Gx.OpP Gx.OpQ Gx.OpH

theorem fn_26 : isFn Tryz.prog 26 = true := by kernel_rfl
theorem fn_36 : isFn Tryz.prog 36 = true := by kernel_rfl
theorem fn_28 : isFn Tryz.prog 28 = true := by kernel_rfl
theorem fn_37 : isFn Tryz.prog 37 = true := by kernel_rfl
theorem fn_20 : isFn Tryz.prog 20 = true := by kernel_rfl
theorem fn_38 : isFn Tryz.prog 38 = true := by kernel_rfl
theorem fn_8 : isFn Tryz.prog 8 = true := by kernel_rfl
theorem fn_15 : isFn Tryz.prog 15 = true := by kernel_rfl


theorem rw_nil {α : Type} [Inhabited α] {vals : α → List Value} {sz : Nat} {w : World} : Rw vals sz w [] none ([] : List α) := ⟨fun h => absurd h (Nat.lt_irrefl 0)⟩

set_option maxRecDepth 20000 in
set_option maxHeartbeats 2000000 in
theorem c6 (w : World)  : Calls Tryz.prog 6 #[] w fun en w' => en = .returned (.bool true) ∧ Below w.heap.size w w' := by
  refine enter (args := []) Tryz.func6 Tryz.ntmps6 rfl rfl (HS.refl w []) ?_
  refine s_seq ?_
  refine s_region ?_
  refine o_p (p_pure rfl) rfl ?_
  refine o_nil ?_
  refine s_seq ?_
  refine s_region ?_
  refine o_q (q_call rfl fn_26 rfl (fun w1 h1 => c26 w1)) rfl ?_
  refine o_q (q_call rfl fn_36 rfl (fun w1 h1 => c36 w1)) rfl ?_
  refine o_h (h_call rfl fn_28 rfl (fun w1 h1 => by have h9 := c28 w1 256 none 0 [] dA none 0 none 0 rw_nil (by decide) (by intro x hx; cases hx) rw_nil rw_nil (by decide) (by decide); rw [aw_1] at h9; exact h9)) rfl (fun gA _ => ?_)
  refine o_p (p_pure rfl) rfl ?_
  refine o_p (p_pure rfl) rfl ?_
  refine o_p (p_pure rfl) rfl ?_
  refine o_p (p_pure rfl) rfl ?_
  refine o_h (h_alloc rfl zr_24) rfl (fun b1 _ => ?_)
  refine o_h0 (h_store rfl rfl rfl sz_24 rfl aPt (by simp only [setMany_length, List.length_set, List.length_cons, List.length_nil, List.length_map]; omega) rfl) (fun _ _ => ?_)
  refine o_p (p_pure rfl) rfl ?_
  refine o_p (p_pure rfl) rfl ?_
  refine o_nil ?_
  refine s_seq ?_
  refine s_cutI (α := Nat × Option Addr × Nat) [4, 5, 6, 22, 23, 24, 25, 26, 27, 28] (fun x => [(4, .pointer (some ⟨x.1, 0, none⟩)), (5, .int .i64 257), (6, .int .i64 0)]) (fun x => HS w [] [.blk x.1 24 2 [.int .i64 258, .slice x.2.1 2 x.2.2], .own (.slice x.2.1 lB.length x.2.2) 77 2 lB.length (lB.flatMap SItm.vals), .blk b1 24 2 [.int .i64 257, .slice gA.1 1 gA.2], .own (.slice gA.1 lA.length gA.2) 77 2 lA.length (lA.flatMap SItm.vals)]) (fun _ => True) ?_ ?_
  · skip
    refine s_draw [8] mixed ?_
    refine d_q 0 [[]] rfl (q_loadn rfl rfl sz_24 aPk rfl) (by kernel_rfl) (by kernel_rfl) (by kernel_rfl) rfl ?_
    refine d_two 1 7 rfl rfl  (h_call rfl fn_37 rfl (fun w1 h1 => c37 w1)) (h_alloc rfl zr_24) (by kernel_rfl) (fun w h => h.ent aEt) rfl rfl  (fun gO _ => ?_) (fun b2 _ => ?_)
    · skip
      refine d_base (fun w h => h.ent aEt) ?_
      refine d_two 2 7 rfl rfl  (h_call rfl fn_28 rfl (fun w1 h1 => by have h9 := c28 w1 257 gA.1 gA.2 lA dB gO.1 gO.2 none 0 (HS.rw_own (l := lA) sv2 h1 aPk rfl) (by decide) (by intro x hx; simp only [lA, lB, List.mem_cons, List.mem_nil_iff, or_false] at hx; subst hx <;> decide) (HS.rw_own (l := dB.en) av4 h1 aPk rfl) rw_nil (by decide) (by decide); rw [aw_2] at h9; exact h9)) (h_alloc rfl zr_24) (by kernel_rfl) (fun w h => h.ent aEt) rfl rfl  (fun gB _ => ?_) (fun b3 _ => ?_)
      · skip
        refine d_base (fun w h => h.ent aEt) ?_
        refine d_p 3 rfl (p_pure rfl) (by kernel_rfl) rfl rfl ?_
        refine d_p 4 rfl (p_pure rfl) (by kernel_rfl) rfl rfl ?_
        refine d_p 5 rfl (p_pure rfl) (by kernel_rfl) rfl rfl ?_
        refine d_p 6 rfl (p_pure rfl) (by kernel_rfl) rfl rfl ?_
        refine d_h 7 rfl (h_alloc rfl zr_24) (by kernel_rfl) (fun w h => h.ent aEt) rfl (fun b4 _ => ?_)
        refine d_base (fun w h => h.ent aEt) ?_
        refine d_h0 8 rfl (h_store rfl rfl rfl sz_24 rfl aPt (by simp only [setMany_length, List.length_set, List.length_cons, List.length_nil, List.length_map]; omega) rfl) (by kernel_rfl) (fun w h => h.ent aEt) (fun _ _ => ?_)
        refine d_turn [] (by kernel_rfl) ?_
        refine d_p 9 rfl (p_pure rfl) (by kernel_rfl) rfl rfl ?_
        refine d_p 10 rfl (p_pure rfl) (by kernel_rfl) rfl rfl ?_
        refine d_nil (by kernel_rfl) (fun w h => by first | exact h | exact h.ent aEt) ?_
        exact s_joinI (b4, gB) trivial aSx (fun w h => h.ent aEt)
      · skip
        refine d_base (fun w h => h.ent aEt) ?_
        refine d_h 2 rfl (h_call rfl fn_28 rfl (fun w1 h1 => by have h9 := c28 w1 257 gA.1 gA.2 lA dB gO.1 gO.2 none 0 (HS.rw_own (l := lA) sv2 h1 aPk rfl) (by decide) (by intro x hx; simp only [lA, lB, List.mem_cons, List.mem_nil_iff, or_false] at hx; subst hx <;> decide) (HS.rw_own (l := dB.en) av4 h1 aPk rfl) rw_nil (by decide) (by decide); rw [aw_2] at h9; exact h9)) (by kernel_rfl) (fun w h => h.ent aEt) rfl (fun gB _ => ?_)
        refine d_base (fun w h => h.ent aEt) ?_
        refine d_p 3 rfl (p_pure rfl) (by kernel_rfl) rfl rfl ?_
        refine d_p 4 rfl (p_pure rfl) (by kernel_rfl) rfl rfl ?_
        refine d_p 5 rfl (p_pure rfl) (by kernel_rfl) rfl rfl ?_
        refine d_p 6 rfl (p_pure rfl) (by kernel_rfl) rfl rfl ?_
        refine d_h0 8 rfl (h_store rfl rfl rfl sz_24 rfl aPt (by simp only [setMany_length, List.length_set, List.length_cons, List.length_nil, List.length_map]; omega) rfl) (by kernel_rfl) (fun w h => h.ent aEt) (fun _ _ => ?_)
        refine d_turn [] (by kernel_rfl) ?_
        refine d_p 9 rfl (p_pure rfl) (by kernel_rfl) rfl rfl ?_
        refine d_p 10 rfl (p_pure rfl) (by kernel_rfl) rfl rfl ?_
        refine d_nil (by kernel_rfl) (fun w h => by first | exact h | exact h.ent aEt) ?_
        exact s_joinI (b3, gB) trivial aSx (fun w h => h.ent aEt)
    · skip
      refine d_base (fun w h => h.ent aEt) ?_
      refine d_h 1 rfl (h_call rfl fn_37 rfl (fun w1 h1 => c37 w1)) (by kernel_rfl) (fun w h => h.ent aEt) rfl (fun gO _ => ?_)
      refine d_base (fun w h => h.ent aEt) ?_
      refine d_h 2 rfl (h_call rfl fn_28 rfl (fun w1 h1 => by have h9 := c28 w1 257 gA.1 gA.2 lA dB gO.1 gO.2 none 0 (HS.rw_own (l := lA) sv2 h1 aPk rfl) (by decide) (by intro x hx; simp only [lA, lB, List.mem_cons, List.mem_nil_iff, or_false] at hx; subst hx <;> decide) (HS.rw_own (l := dB.en) av4 h1 aPk rfl) rw_nil (by decide) (by decide); rw [aw_2] at h9; exact h9)) (by kernel_rfl) (fun w h => h.ent aEt) rfl (fun gB _ => ?_)
      refine d_base (fun w h => h.ent aEt) ?_
      refine d_p 3 rfl (p_pure rfl) (by kernel_rfl) rfl rfl ?_
      refine d_p 4 rfl (p_pure rfl) (by kernel_rfl) rfl rfl ?_
      refine d_p 5 rfl (p_pure rfl) (by kernel_rfl) rfl rfl ?_
      refine d_p 6 rfl (p_pure rfl) (by kernel_rfl) rfl rfl ?_
      refine d_h0 8 rfl (h_store rfl rfl rfl sz_24 rfl aPt (by simp only [setMany_length, List.length_set, List.length_cons, List.length_nil, List.length_map]; omega) rfl) (by kernel_rfl) (fun w h => h.ent aEt) (fun _ _ => ?_)
      refine d_turn [] (by kernel_rfl) ?_
      refine d_p 9 rfl (p_pure rfl) (by kernel_rfl) rfl rfl ?_
      refine d_p 10 rfl (p_pure rfl) (by kernel_rfl) rfl rfl ?_
      refine d_nil (by kernel_rfl) (fun w h => by first | exact h | exact h.ent aEt) ?_
      exact s_joinI (b2, gB) trivial aSx (fun w h => h.ent aEt)
  · intro x hx
    refine s_seq ?_
    refine s_region ?_
    refine o_q (q_loadn rfl rfl sz_24 aPk rfl) rfl ?_
    refine o_h (h_call rfl fn_20 rfl (fun w1 h1 => by have h9 := c20 w1 258 x.2.1 x.2.2 lB (HS.rw_own (l := lB) sv2 h1 aPk rfl) (by decide) (by intro x hx; simp only [lA, lB, List.mem_cons, List.mem_nil_iff, or_false] at hx; rcases hx with rfl | rfl <;> decide); rw [if_pos aw_3, aw_3, aw_4] at h9; exact h9)) rfl (fun gP _ => ?_)
    refine o_p (p_pure rfl) rfl ?_
    refine o_p (p_pure rfl) rfl ?_
    refine o_p (p_pure rfl) rfl ?_
    refine o_p (p_pure rfl) rfl ?_
    refine o_p (p_pure rfl) rfl ?_
    refine o_p (p_pure rfl) rfl ?_
    refine o_p (p_pure rfl) rfl ?_
    refine o_nil ?_
    refine s_seq ?_
    refine s_region ?_
    refine o_q (q_loadn rfl rfl sz_24 aPk rfl) rfl ?_
    refine o_q (q_call rfl fn_38 rfl (fun w1 h1 => by have h9 := c38 w1 257 gA.1 gA.2 lA (HS.rw_own (l := lA) sv2 h1 aPk rfl) (by decide) (by intro x hx; simp only [lA, lB, List.mem_cons, List.mem_nil_iff, or_false] at hx; subst hx <;> decide); rw [if_pos aw_5, aw_5] at h9; exact h9)) rfl ?_
    refine o_p (p_pure rfl) rfl ?_
    refine o_p (p_pure rfl) rfl ?_
    refine o_p (p_pure rfl) rfl ?_
    refine o_p (p_pure rfl) rfl ?_
    refine o_p (p_pure rfl) rfl ?_
    refine o_nil ?_
    refine s_seq ?_
    refine s_weaken (L' := [(0, _), (2, _), (3, _), (4, _), (5, _), (6, _), (7, _), (8, _), (9, _), (10, _), (11, _)]) aSx (fun _ h => h) ?_
    refine s_region ?_
    refine o_q (q_loadn rfl rfl sz_24 aPk rfl) rfl ?_
    refine o_h (h_buildSlice (cs := [_]) rfl rfl sl_25 zr_3 rfl rfl rfl) rfl (fun b5 _ => ?_)
    refine o_h (h_call rfl fn_8 rfl (fun w1 h1 => by have h9 := c8 w1 258 x.2.1 x.2.2 lB (some ⟨b5, 0, none⟩) 1 [257] (HS.rw_own (l := lB) sv2 h1 aPk rfl) (by decide) (by intro x hx; simp only [lA, lB, List.mem_cons, List.mem_nil_iff, or_false] at hx; rcases hx with rfl | rfl <;> decide) (h1.vl_blk aPk) (by decide) (by intro x hx; simp only [List.mem_cons, List.mem_nil_iff, or_false] at hx; subst hx; decide); rw [aw_6, aw_7] at h9; exact h9)) rfl (fun gC _ => ?_)
    refine o_p (p_pure rfl) rfl ?_
    refine o_p (p_pure rfl) rfl ?_
    refine o_p (p_pure rfl) rfl ?_
    refine o_p (p_pure rfl) rfl ?_
    refine o_h (h_alloc rfl zr_24) rfl (fun b6 _ => ?_)
    refine o_h0 (h_store rfl rfl rfl sz_24 rfl aPt (by simp only [setMany_length, List.length_set, List.length_cons, List.length_nil, List.length_map]; omega) rfl) (fun _ _ => ?_)
    refine o_p (p_pure rfl) rfl ?_
    refine o_p (p_pure rfl) rfl ?_
    refine o_nil ?_
    refine s_seq ?_
    refine s_region ?_
    refine o_p (p_pure rfl) rfl ?_
    refine o_p (p_pure rfl) rfl ?_
    refine o_p (p_pure rfl) rfl ?_
    refine o_and 3 49 52 _ _ rfl
      (by
        intro hg7
        have hs8 := hg7; try simp only [decide_eq_true_eq, decide_eq_false_iff_not, Bool.not_eq_true', Bool.not_eq_false', Bool.and_eq_true, Bool.or_eq_true, Bool.and_eq_false_iff, Bool.or_eq_false_iff, Bool.not_true, Bool.not_false] at hs8
        refine o_on 49 _ rfl rfl hg7 ?_
        refine o_p (p_pure rfl) rfl ?_
        refine o_on 49 _ rfl rfl hg7 ?_
        refine o_p (p_pure rfl) rfl ?_
        refine o_p (p_pickt rfl rfl hg7 rfl) rfl ?_
        refine o_nil ?_
        exact s_joinN 3 52 _ rfl rfl rfl (fun w h => by first | exact h | exact h.ent aEt))
      (by
        intro hg9
        have hs10 := hg9; try simp only [decide_eq_true_eq, decide_eq_false_iff_not, Bool.not_eq_true', Bool.not_eq_false', Bool.and_eq_true, Bool.or_eq_true, Bool.and_eq_false_iff, Bool.or_eq_false_iff, Bool.not_true, Bool.not_false] at hs10
        refine o_off 49 _ rfl rfl hg9 rfl ?_
        refine o_off 49 _ rfl rfl hg9 rfl ?_
        refine o_p (p_pickf rfl rfl hg9 rfl) rfl ?_
        refine o_nil ?_
        exact s_joinN 3 52 _ rfl rfl rfl (fun w h => by first | exact h | exact h.ent aEt)) ?_
    refine o_p (p_pure rfl) rfl ?_
    refine o_and 3 53 56 _ _ rfl
      (by
        intro hg11
        have hs12 := hg11; try simp only [decide_eq_true_eq, decide_eq_false_iff_not, Bool.not_eq_true', Bool.not_eq_false', Bool.and_eq_true, Bool.or_eq_true, Bool.and_eq_false_iff, Bool.or_eq_false_iff, Bool.not_true, Bool.not_false] at hs12
        refine o_on 53 _ rfl rfl hg11 ?_
        refine o_p (p_pure rfl) rfl ?_
        refine o_on 53 _ rfl rfl hg11 ?_
        refine o_p (p_pure rfl) rfl ?_
        refine o_p (p_pickt rfl rfl hg11 rfl) rfl ?_
        refine o_nil ?_
        exact s_joinN 3 56 _ rfl rfl rfl (fun w h => by first | exact h | exact h.ent aEt))
      (by
        intro hg13
        have hs14 := hg13; try simp only [decide_eq_true_eq, decide_eq_false_iff_not, Bool.not_eq_true', Bool.not_eq_false', Bool.and_eq_true, Bool.or_eq_true, Bool.and_eq_false_iff, Bool.or_eq_false_iff, Bool.not_true, Bool.not_false] at hs14
        refine o_off 53 _ rfl rfl hg13 rfl ?_
        refine o_off 53 _ rfl rfl hg13 rfl ?_
        refine o_p (p_pickf rfl rfl hg13 rfl) rfl ?_
        refine o_nil ?_
        exact s_joinN 3 56 _ rfl rfl rfl (fun w h => by first | exact h | exact h.ent aEt)) ?_
    refine o_p (p_pure rfl) rfl ?_
    refine o_and 3 57 60 _ _ rfl
      (by
        intro hg15
        have hs16 := hg15; try simp only [decide_eq_true_eq, decide_eq_false_iff_not, Bool.not_eq_true', Bool.not_eq_false', Bool.and_eq_true, Bool.or_eq_true, Bool.and_eq_false_iff, Bool.or_eq_false_iff, Bool.not_true, Bool.not_false] at hs16
        refine o_on 57 _ rfl rfl hg15 ?_
        refine o_p (p_pure rfl) rfl ?_
        refine o_on 57 _ rfl rfl hg15 ?_
        refine o_p (p_pure rfl) rfl ?_
        refine o_p (p_pickt rfl rfl hg15 rfl) rfl ?_
        refine o_nil ?_
        exact s_joinN 3 60 _ rfl rfl rfl (fun w h => by first | exact h | exact h.ent aEt))
      (by
        intro hg17
        have hs18 := hg17; try simp only [decide_eq_true_eq, decide_eq_false_iff_not, Bool.not_eq_true', Bool.not_eq_false', Bool.and_eq_true, Bool.or_eq_true, Bool.and_eq_false_iff, Bool.or_eq_false_iff, Bool.not_true, Bool.not_false] at hs18
        refine o_off 57 _ rfl rfl hg17 rfl ?_
        refine o_off 57 _ rfl rfl hg17 rfl ?_
        refine o_p (p_pickf rfl rfl hg17 rfl) rfl ?_
        refine o_nil ?_
        exact s_joinN 3 60 _ rfl rfl rfl (fun w h => by first | exact h | exact h.ent aEt)) ?_
    refine o_p (p_pure rfl) rfl ?_
    refine o_and 3 61 64 _ _ rfl
      (by
        intro hg19
        have hs20 := hg19; try simp only [decide_eq_true_eq, decide_eq_false_iff_not, Bool.not_eq_true', Bool.not_eq_false', Bool.and_eq_true, Bool.or_eq_true, Bool.and_eq_false_iff, Bool.or_eq_false_iff, Bool.not_true, Bool.not_false] at hs20
        refine o_on 61 _ rfl rfl hg19 ?_
        refine o_p (p_pure rfl) rfl ?_
        refine o_on 61 _ rfl rfl hg19 ?_
        refine o_p (p_pure rfl) rfl ?_
        refine o_p (p_pickt rfl rfl hg19 rfl) rfl ?_
        refine o_nil ?_
        exact s_joinN 3 64 _ rfl rfl rfl (fun w h => by first | exact h | exact h.ent aEt))
      (by
        intro hg21
        have hs22 := hg21; try simp only [decide_eq_true_eq, decide_eq_false_iff_not, Bool.not_eq_true', Bool.not_eq_false', Bool.and_eq_true, Bool.or_eq_true, Bool.and_eq_false_iff, Bool.or_eq_false_iff, Bool.not_true, Bool.not_false] at hs22
        refine o_off 61 _ rfl rfl hg21 rfl ?_
        refine o_off 61 _ rfl rfl hg21 rfl ?_
        refine o_p (p_pickf rfl rfl hg21 rfl) rfl ?_
        refine o_nil ?_
        exact s_joinN 3 64 _ rfl rfl rfl (fun w h => by first | exact h | exact h.ent aEt)) ?_
    refine o_p (p_pure rfl) rfl ?_
    refine o_and 4 65 69 _ _ rfl
      (by
        intro hg23
        have hs24 := hg23; try simp only [decide_eq_true_eq, decide_eq_false_iff_not, Bool.not_eq_true', Bool.not_eq_false', Bool.and_eq_true, Bool.or_eq_true, Bool.and_eq_false_iff, Bool.or_eq_false_iff, Bool.not_true, Bool.not_false] at hs24
        refine o_on 65 _ rfl rfl hg23 ?_
        refine o_p (p_pure rfl) rfl ?_
        refine o_on 65 _ rfl rfl hg23 ?_
        refine o_h (h_buildSlice (cs := [_, _]) rfl rfl sl_25 zr_3 rfl rfl rfl) rfl (fun b25 _ => ?_)
        refine o_on 65 _ rfl rfl hg23 ?_
        refine o_q (q_call rfl fn_15 rfl (fun w1 h1 => c15 w1 gP.1 gP.2 (some ⟨b25, 0, none⟩) 2 [16, 48] (HS.vl_own (cs := [.int .i64 16, .int .i64 48]) h1 aPk) (h1.vl_blk aPk) (by decide))) rfl ?_
        refine o_p (p_pickt rfl rfl hg23 rfl) rfl ?_
        refine o_nil ?_
        exact s_joinN 4 69 _ rfl rfl rfl (fun w h => by first | exact h | exact h.ent aEt))
      (by
        intro hg26
        have hs27 := hg26; try simp only [decide_eq_true_eq, decide_eq_false_iff_not, Bool.not_eq_true', Bool.not_eq_false', Bool.and_eq_true, Bool.or_eq_true, Bool.and_eq_false_iff, Bool.or_eq_false_iff, Bool.not_true, Bool.not_false] at hs27
        refine o_off 65 _ rfl rfl hg26 rfl ?_
        refine o_off 65 _ rfl rfl hg26 rfl ?_
        refine o_off 65 _ rfl rfl hg26 rfl ?_
        refine o_p (p_pickf rfl rfl hg26 rfl) rfl ?_
        refine o_nil ?_
        exact s_joinN 4 69 _ rfl rfl rfl (fun w h => by first | exact h | exact h.ent aEt)) ?_
    refine o_p (p_pure rfl) rfl ?_
    refine o_and 3 70 73 _ _ rfl
      (by
        intro hg28
        have hs29 := hg28; try simp only [decide_eq_true_eq, decide_eq_false_iff_not, Bool.not_eq_true', Bool.not_eq_false', Bool.and_eq_true, Bool.or_eq_true, Bool.and_eq_false_iff, Bool.or_eq_false_iff, Bool.not_true, Bool.not_false] at hs29
        refine o_on 70 _ rfl rfl hg28 ?_
        refine o_p (p_pure rfl) rfl ?_
        refine o_on 70 _ rfl rfl hg28 ?_
        refine o_p (p_pure rfl) rfl ?_
        refine o_p (p_pickt rfl rfl hg28 rfl) rfl ?_
        refine o_nil ?_
        exact s_joinN 3 73 _ rfl rfl rfl (fun w h => by first | exact h | exact h.ent aEt))
      (by
        intro hg30
        have hs31 := hg30; try simp only [decide_eq_true_eq, decide_eq_false_iff_not, Bool.not_eq_true', Bool.not_eq_false', Bool.and_eq_true, Bool.or_eq_true, Bool.and_eq_false_iff, Bool.or_eq_false_iff, Bool.not_true, Bool.not_false] at hs31
        refine o_off 70 _ rfl rfl hg30 rfl ?_
        refine o_off 70 _ rfl rfl hg30 rfl ?_
        refine o_p (p_pickf rfl rfl hg30 rfl) rfl ?_
        refine o_nil ?_
        exact s_joinN 3 73 _ rfl rfl rfl (fun w h => by first | exact h | exact h.ent aEt)) ?_
    refine o_p (p_pure rfl) rfl ?_
    refine o_and 3 74 77 _ _ rfl
      (by
        intro hg32
        have hs33 := hg32; try simp only [decide_eq_true_eq, decide_eq_false_iff_not, Bool.not_eq_true', Bool.not_eq_false', Bool.and_eq_true, Bool.or_eq_true, Bool.and_eq_false_iff, Bool.or_eq_false_iff, Bool.not_true, Bool.not_false] at hs33
        refine o_on 74 _ rfl rfl hg32 ?_
        refine o_p (p_pure rfl) rfl ?_
        refine o_on 74 _ rfl rfl hg32 ?_
        refine o_p (p_pure rfl) rfl ?_
        refine o_p (p_pickt rfl rfl hg32 rfl) rfl ?_
        refine o_nil ?_
        exact s_joinN 3 77 _ rfl rfl rfl (fun w h => by first | exact h | exact h.ent aEt))
      (by
        intro hg34
        have hs35 := hg34; try simp only [decide_eq_true_eq, decide_eq_false_iff_not, Bool.not_eq_true', Bool.not_eq_false', Bool.and_eq_true, Bool.or_eq_true, Bool.and_eq_false_iff, Bool.or_eq_false_iff, Bool.not_true, Bool.not_false] at hs35
        refine o_off 74 _ rfl rfl hg34 rfl ?_
        refine o_off 74 _ rfl rfl hg34 rfl ?_
        refine o_p (p_pickf rfl rfl hg34 rfl) rfl ?_
        refine o_nil ?_
        exact s_joinN 3 77 _ rfl rfl rfl (fun w h => by first | exact h | exact h.ent aEt)) ?_
    refine o_p (p_pure rfl) rfl ?_
    refine o_and 4 78 82 _ _ rfl
      (by
        intro hg36
        have hs37 := hg36; try simp only [decide_eq_true_eq, decide_eq_false_iff_not, Bool.not_eq_true', Bool.not_eq_false', Bool.and_eq_true, Bool.or_eq_true, Bool.and_eq_false_iff, Bool.or_eq_false_iff, Bool.not_true, Bool.not_false] at hs37
        refine o_on 78 _ rfl rfl hg36 ?_
        refine o_p (p_pure rfl) rfl ?_
        refine o_on 78 _ rfl rfl hg36 ?_
        refine o_p (p_len_str rfl rfl Tryz.underlying9) rfl ?_
        refine o_slot (show _ = Value.int .i64 8240 from by rw [aw_8]; rfl) ?_
        refine o_on 78 _ rfl rfl hg36 ?_
        refine o_p (p_pure rfl) rfl ?_
        refine o_p (p_pickt rfl rfl hg36 rfl) rfl ?_
        refine o_nil ?_
        exact s_joinN 4 82 _ rfl rfl rfl (fun w h => by first | exact h | exact h.ent aEt))
      (by
        intro hg38
        have hs39 := hg38; try simp only [decide_eq_true_eq, decide_eq_false_iff_not, Bool.not_eq_true', Bool.not_eq_false', Bool.and_eq_true, Bool.or_eq_true, Bool.and_eq_false_iff, Bool.or_eq_false_iff, Bool.not_true, Bool.not_false] at hs39
        refine o_off 78 _ rfl rfl hg38 rfl ?_
        refine o_off 78 _ rfl rfl hg38 rfl ?_
        refine o_off 78 _ rfl rfl hg38 rfl ?_
        refine o_p (p_pickf rfl rfl hg38 rfl) rfl ?_
        refine o_nil ?_
        exact s_joinN 4 82 _ rfl rfl rfl (fun w h => by first | exact h | exact h.ent aEt)) ?_
    refine o_p (p_pure rfl) rfl ?_
    refine o_and 3 83 86 _ _ rfl
      (by
        intro hg40
        have hs41 := hg40; try simp only [decide_eq_true_eq, decide_eq_false_iff_not, Bool.not_eq_true', Bool.not_eq_false', Bool.and_eq_true, Bool.or_eq_true, Bool.and_eq_false_iff, Bool.or_eq_false_iff, Bool.not_true, Bool.not_false] at hs41
        refine o_on 83 _ rfl rfl hg40 ?_
        refine o_p (p_pure rfl) rfl ?_
        refine o_on 83 _ rfl rfl hg40 ?_
        refine o_p (p_pure rfl) rfl ?_
        refine o_p (p_pickt rfl rfl hg40 rfl) rfl ?_
        refine o_nil ?_
        exact s_joinN 3 86 _ rfl rfl rfl (fun w h => by first | exact h | exact h.ent aEt))
      (by
        intro hg42
        have hs43 := hg42; try simp only [decide_eq_true_eq, decide_eq_false_iff_not, Bool.not_eq_true', Bool.not_eq_false', Bool.and_eq_true, Bool.or_eq_true, Bool.and_eq_false_iff, Bool.or_eq_false_iff, Bool.not_true, Bool.not_false] at hs43
        refine o_off 83 _ rfl rfl hg42 rfl ?_
        refine o_off 83 _ rfl rfl hg42 rfl ?_
        refine o_p (p_pickf rfl rfl hg42 rfl) rfl ?_
        refine o_nil ?_
        exact s_joinN 3 86 _ rfl rfl rfl (fun w h => by first | exact h | exact h.ent aEt)) ?_
    refine o_p (p_pure rfl) rfl ?_
    refine o_and 4 87 91 _ _ rfl
      (by
        intro hg44
        have hs45 := hg44; try simp only [decide_eq_true_eq, decide_eq_false_iff_not, Bool.not_eq_true', Bool.not_eq_false', Bool.and_eq_true, Bool.or_eq_true, Bool.and_eq_false_iff, Bool.or_eq_false_iff, Bool.not_true, Bool.not_false] at hs45
        refine o_on 87 _ rfl rfl hg44 ?_
        refine o_p (p_pure rfl) rfl ?_
        refine o_on 87 _ rfl rfl hg44 ?_
        refine o_h (h_buildSlice (cs := [_]) rfl rfl sl_25 zr_3 rfl rfl rfl) rfl (fun b46 _ => ?_)
        refine o_on 87 _ rfl rfl hg44 ?_
        refine o_q (q_call rfl fn_15 rfl (fun w1 h1 => c15 w1 gC.2.1 gC.2.2 (some ⟨b46, 0, none⟩) 1 [256] (HS.vl_own (cs := [.int .i64 256]) h1 aPk) (h1.vl_blk aPk) (by decide))) rfl ?_
        refine o_p (p_pickt rfl rfl hg44 rfl) rfl ?_
        refine o_nil ?_
        exact s_joinN 4 91 _ rfl rfl rfl (fun w h => by first | exact h | exact h.ent aEt))
      (by
        intro hg47
        have hs48 := hg47; try simp only [decide_eq_true_eq, decide_eq_false_iff_not, Bool.not_eq_true', Bool.not_eq_false', Bool.and_eq_true, Bool.or_eq_true, Bool.and_eq_false_iff, Bool.or_eq_false_iff, Bool.not_true, Bool.not_false] at hs48
        refine o_off 87 _ rfl rfl hg47 rfl ?_
        refine o_off 87 _ rfl rfl hg47 rfl ?_
        refine o_off 87 _ rfl rfl hg47 rfl ?_
        refine o_p (p_pickf rfl rfl hg47 rfl) rfl ?_
        refine o_nil ?_
        exact s_joinN 4 91 _ rfl rfl rfl (fun w h => by first | exact h | exact h.ent aEt)) ?_
    refine o_p (p_pure rfl) rfl ?_
    refine o_and 4 92 96 _ _ rfl
      (by
        intro hg49
        have hs50 := hg49; try simp only [decide_eq_true_eq, decide_eq_false_iff_not, Bool.not_eq_true', Bool.not_eq_false', Bool.and_eq_true, Bool.or_eq_true, Bool.and_eq_false_iff, Bool.or_eq_false_iff, Bool.not_true, Bool.not_false] at hs50
        refine o_on 92 _ rfl rfl hg49 ?_
        refine o_p (p_fieldAddr rfl rfl fd_24_0 sz_3 rfl) rfl ?_
        refine o_on 92 _ rfl rfl hg49 ?_
        refine o_q (q_load rfl rfl sz_3 aPk rfl) rfl ?_
        refine o_on 92 _ rfl rfl hg49 ?_
        refine o_p (p_pure rfl) rfl ?_
        refine o_p (p_pickt rfl rfl hg49 rfl) rfl ?_
        refine o_nil ?_
        exact s_joinN 4 96 _ rfl rfl rfl (fun w h => by first | exact h | exact h.ent aEt))
      (by
        intro hg51
        have hs52 := hg51; try simp only [decide_eq_true_eq, decide_eq_false_iff_not, Bool.not_eq_true', Bool.not_eq_false', Bool.and_eq_true, Bool.or_eq_true, Bool.and_eq_false_iff, Bool.or_eq_false_iff, Bool.not_true, Bool.not_false] at hs52
        refine o_off 92 _ rfl rfl hg51 rfl ?_
        refine o_off 92 _ rfl rfl hg51 rfl ?_
        refine o_off 92 _ rfl rfl hg51 rfl ?_
        refine o_p (p_pickf rfl rfl hg51 rfl) rfl ?_
        refine o_nil ?_
        exact s_joinN 4 96 _ rfl rfl rfl (fun w h => by first | exact h | exact h.ent aEt)) ?_
    refine o_p (p_pure rfl) rfl ?_
    refine o_nil ?_
    exact s_retv (rs := [.tmp 0]) rfl (.tmp rfl (.nil)) (fun w' h' => ⟨by rfl, h'.below⟩)

end Go.Proofs

namespace Go.Proofs
open Go Go.RowKit Gx
set_option linter.unusedVariables false
set_option linter.unusedSimpArgs false
attribute [local irreducible] Go.Calls Gx.S Gx.O Gx.D Gx.OpP Gx.OpQ Gx.OpH

theorem fn_6 : isFn Tryz.prog 6 = true := by kernel_rfl
theorem fn_7 : isFn Tryz.prog 7 = true := by kernel_rfl
theorem fn_13 : isFn Tryz.prog 13 = true := by kernel_rfl
end Go.Proofs

namespace Go.Proofs
open Go Go.RowKit Gx
set_option linter.unusedVariables false
set_option linter.unusedSimpArgs false
attribute [local irreducible] Go.Calls Gx.S Gx.O Gx.D Gx.OpP Gx.OpQ Gx.OpH

theorem fn_16 : isFn Tryz.prog 16 = true := by kernel_rfl
theorem fn_18 : isFn Tryz.prog 18 = true := by kernel_rfl
theorem fn_17 : isFn Tryz.prog 17 = true := by kernel_rfl
theorem fn_22 : isFn Tryz.prog 22 = true := by kernel_rfl
theorem fn_27 : isFn Tryz.prog 27 = true := by kernel_rfl


set_option maxRecDepth 20000 in
set_option maxHeartbeats 4000000 in
theorem c4 (w : World) (nx : Int) (a : Option Addr) (cap : Nat) (l : List SItm) (d : Dsc) (ea : Option Addr) (eac : Nat) (aa : Option Addr) (aac : Nat) (hs : Rw SItm.vals 2 w [] a l) (hmM : l.length ≤ 9223372036854775807) (hbM : ∀ x ∈ l, x.by_.length ≤ 9223372036854775807) (hse : Rw Ace.vals 4 w [] ea d.en) (hsa : Rw Ace.vals 4 w [] aa d.au) : Calls Tryz.prog 4 #[.agg #[.int .i64 nx, .slice a l.length cap], .agg #[.int .i64 d.ow, .int .i64 d.gr, .bool d.pr, .bool d.he, .slice ea d.en.length eac, .slice aa d.au.length aac]] w fun en w' => en = .returned (.bool true) ∧ Below w.heap.size w w' := by
  refine enter (args := [_, _]) Tryz.func4 Tryz.ntmps4 rfl rfl (HS.refl w []) ?_
  refine s_seq ?_
  refine s_region ?_
  refine o_h (h_box rfl rfl) rfl (fun b1 _ => ?_)
  refine o_h (h_box rfl rfl) rfl (fun b2 _ => ?_)
  refine o_p (p_pure rfl) rfl ?_
  refine o_nil ?_
  refine s_seq ?_
  refine s_seq ?_
  refine s_region ?_
  refine o_q (q_call rfl fn_6 rfl (fun w1 h1 => c6 w1)) rfl ?_
  refine o_p (p_pure rfl) rfl ?_
  refine o_nil ?_
  refine s_cond rfl (fun h3 => ?_) (fun h3 => ?_)
  · try simp only [decide_eq_true_eq, decide_eq_false_iff_not, Bool.not_eq_true', Bool.not_eq_false', Bool.and_eq_true, Bool.or_eq_true, Bool.and_eq_false_iff, Bool.or_eq_false_iff, Bool.not_true, Bool.not_false] at h3
    exfalso; first | omega | (simp at h3; done) | (simp_all; done)
  · try simp only [decide_eq_true_eq, decide_eq_false_iff_not, Bool.not_eq_true', Bool.not_eq_false', Bool.and_eq_true, Bool.or_eq_true, Bool.and_eq_false_iff, Bool.or_eq_false_iff, Bool.not_true, Bool.not_false] at h3
    refine s_skip ?_
    refine s_seq ?_
    refine s_seq ?_
    refine s_region ?_
    refine o_q (q_loadn rfl rfl sz_24 aPk rfl) rfl ?_
    refine o_q (q_call rfl fn_7 rfl (fun w1 h1 => c7 w1 nx a cap l (hs.later h1) hmM hbM)) rfl ?_
    refine o_p (p_pure rfl) rfl ?_
    refine o_p (p_pure rfl) rfl ?_
    refine o_or 4 22 26 _ _ rfl
      (by
        intro hg4
        have hs5 := hg4; try simp only [decide_eq_true_eq, decide_eq_false_iff_not, Bool.not_eq_true', Bool.not_eq_false', Bool.and_eq_true, Bool.or_eq_true, Bool.and_eq_false_iff, Bool.or_eq_false_iff, Bool.not_true, Bool.not_false] at hs5
        refine o_on 22 _ rfl rfl hg4 ?_
        refine o_q (q_loadn rfl rfl sz_42 aPk rfl) rfl ?_
        refine o_on 22 _ rfl rfl hg4 ?_
        refine o_q (q_call rfl fn_16 rfl (fun w1 h1 => c16 w1 d ea eac aa aac)) rfl ?_
        refine o_on 22 _ rfl rfl hg4 ?_
        refine o_p (p_pure rfl) rfl ?_
        refine o_p (p_pickf rfl rfl hg4 rfl) rfl ?_
        refine o_nil ?_
        exact s_joinN 4 26 _ rfl rfl rfl (fun w h => by first | exact h | exact h.ent aEt))
      (by
        intro hg6
        have hs7 := hg6; try simp only [decide_eq_true_eq, decide_eq_false_iff_not, Bool.not_eq_true', Bool.not_eq_false', Bool.and_eq_true, Bool.or_eq_true, Bool.and_eq_false_iff, Bool.or_eq_false_iff, Bool.not_true, Bool.not_false] at hs7
        refine o_off 22 _ rfl rfl hg6 rfl ?_
        refine o_off 22 _ rfl rfl hg6 rfl ?_
        refine o_off 22 _ rfl rfl hg6 rfl ?_
        refine o_p (p_pickt rfl rfl hg6 rfl) rfl ?_
        refine o_nil ?_
        exact s_joinN 4 26 _ rfl rfl rfl (fun w h => by first | exact h | exact h.ent aEt)) ?_
    refine o_nil ?_
    refine s_cond rfl (fun h8 => ?_) (fun h8 => ?_)
    · try simp only [decide_eq_true_eq, decide_eq_false_iff_not, Bool.not_eq_true', Bool.not_eq_false', Bool.and_eq_true, Bool.or_eq_true, Bool.and_eq_false_iff, Bool.or_eq_false_iff, Bool.not_true, Bool.not_false] at h8
      refine s_seq ?_
      refine s_region ?_
      refine o_p (p_pure rfl) rfl ?_
      refine o_nil ?_
      exact s_retv (rs := [.tmp 4]) rfl (.tmp rfl (.nil)) (fun w' h' => ⟨by rfl, h'.below⟩)
    · try simp only [decide_eq_true_eq, decide_eq_false_iff_not, Bool.not_eq_true', Bool.not_eq_false', Bool.and_eq_true, Bool.or_eq_true, Bool.and_eq_false_iff, Bool.or_eq_false_iff, Bool.not_true, Bool.not_false] at h8
      have hfw : fewS l = true := by have hq := h8; first | exact hq.1 | (simp at hq; exact hq.1)
      obtain ⟨hm62, hb300⟩ := fewS_ok hfw
      have hm : l.length ≤ 100000 := by omega
      have hb : ∀ x ∈ l, x.by_.length ≤ 100000 := fun x hx => by have := hb300 x hx; omega
      have hq8 := h8
      have hfd : fewD d = true := by first | exact hq8.2 | (simp at hq8; exact hq8.2)
      obtain ⟨he20, ha20⟩ : d.en.length ≤ 20 ∧ d.au.length ≤ 20 := by unfold fewD at hfd; simpa using hfd
      have hme : d.en.length ≤ 100000 := by omega
      have hma : d.au.length ≤ 100000 := by omega
      refine s_skip ?_
      refine s_seq ?_
      refine s_region ?_
      refine o_q (q_loadn rfl rfl sz_42 aPk rfl) rfl ?_
      refine o_h (h_call rfl fn_18 rfl (fun w1 h1 => c18 w1 d ea eac aa aac (hse.later h1) (hsa.later h1) hme hma)) rfl (fun gD _ => ?_)
      refine o_q (q_call rfl fn_17 rfl (fun w1 h1 => c17 w1 d gD.1.1 gD.1.2 gD.2.1 gD.2.2 (HS.rw_own (a := gD.1.1) (l := d.en) av4 h1 aPk rfl) (HS.rw_own (a := gD.2.1) (l := d.au) av4 h1 aPk rfl) hme hma)) rfl ?_
      refine o_p (p_pure rfl) rfl ?_
      refine o_p (p_pure rfl) rfl ?_
      refine o_p (p_pure rfl) rfl ?_
      refine o_p (p_pure rfl) rfl ?_
      refine o_p (p_pure rfl) rfl ?_
      refine o_nil ?_
      refine s_seq ?_
      refine s_region ?_
      refine o_q (q_loadn rfl rfl sz_24 aPk rfl) rfl ?_
      refine o_h (h_call rfl fn_9 rfl (fun w1 h1 => c9 w1 nx a cap l (hs.later h1) hm hb)) rfl (fun gS _ => ?_)
      refine o_q (q_call rfl fn_19 rfl (fun w1 h1 => c19 w1 nx gS.1 gS.2 l (HS.rw_own (a := gS.1) (l := l) sv2 h1 aPk rfl) hm hb)) rfl ?_
      refine o_p (p_pure rfl) rfl ?_
      refine o_p (p_pure rfl) rfl ?_
      refine o_p (p_pure rfl) rfl ?_
      refine o_p (p_pure rfl) rfl ?_
      refine o_p (p_pure rfl) rfl ?_
      refine o_nil ?_
      refine s_seq ?_
      refine s_region ?_
      refine o_q (q_loadn rfl rfl sz_24 aPk rfl) rfl ?_
      refine o_h (h_call rfl fn_9 rfl (fun w1 h1 => c9 w1 nx a cap l (hs.later h1) hm hb)) rfl (fun gV _ => ?_)
      refine o_h (h_call rfl fn_20 rfl (fun w1 h1 => c20 w1 nx gV.1 gV.2 l (HS.rw_own (a := gV.1) (l := l) sv2 h1 aPk rfl) hm hb)) rfl (fun gP _ => ?_)
      refine o_p (p_pure rfl) rfl ?_
      refine o_p (p_pure rfl) rfl ?_
      refine o_p (p_pure rfl) rfl ?_
      refine o_p (p_pure rfl) rfl ?_
      refine o_p (p_pure rfl) rfl ?_
      refine o_p (p_pure rfl) rfl ?_
      refine o_p (p_pure rfl) rfl ?_
      refine o_nil ?_
      refine s_seq ?_
      refine s_seq ?_
      refine s_weaken (L' := [(2, _), (3, _), (4, _), (5, _), (6, _), (7, _), (8, _), (9, _), (10, _), (11, _)]) aSx (fun _ h => h) ?_
      refine s_region ?_
      refine o_q (q_loadn rfl rfl sz_42 aPk rfl) rfl ?_
      refine o_q (q_call rfl fn_21 rfl (fun w1 h1 => c21 w1 d ea eac aa aac (hse.later h1) (hsa.later h1) hme hma)) rfl ?_
      refine o_p (p_pure rfl) rfl ?_
      refine o_nil ?_
      refine s_seq ?_
      refine s_region ?_
      refine o_p (p_pure rfl) rfl ?_
      refine o_p (p_pure rfl) rfl ?_
      refine o_p (p_pure rfl) rfl ?_
      refine o_and 8 50 58 _ _ rfl
        (by
          intro hg9
          have hs10 := hg9; try simp only [decide_eq_true_eq, decide_eq_false_iff_not, Bool.not_eq_true', Bool.not_eq_false', Bool.and_eq_true, Bool.or_eq_true, Bool.and_eq_false_iff, Bool.or_eq_false_iff, Bool.not_true, Bool.not_false] at hs10
          refine o_on 50 _ rfl rfl hg9 ?_
          refine o_p (p_pure rfl) rfl ?_
          refine o_on 50 _ rfl rfl hg9 ?_
          refine o_p (p_pure rfl) rfl ?_
          refine o_on 50 _ rfl rfl hg9 ?_
          refine o_p (p_pure rfl) rfl ?_
          refine o_on 50 _ rfl rfl hg9 ?_
          refine o_p (p_pure rfl) rfl ?_
          refine o_or 3 54 57 _ _ rfl
            (by
              intro hg11
              have hs12 := hg11; try simp only [decide_eq_true_eq, decide_eq_false_iff_not, Bool.not_eq_true', Bool.not_eq_false', Bool.and_eq_true, Bool.or_eq_true, Bool.and_eq_false_iff, Bool.or_eq_false_iff, Bool.not_true, Bool.not_false] at hs12
              refine o_on 54 _ rfl rfl hg11 ?_
              refine o_p (p_pure rfl) rfl ?_
              refine o_on 54 _ rfl rfl hg11 ?_
              refine o_p (p_pure rfl) rfl ?_
              refine o_on 50 _ rfl rfl hg9 ?_
              refine o_p (p_pickf rfl rfl hg11 rfl) rfl ?_
              refine o_nil ?_
              exact s_joinN 3 57 _ rfl rfl rfl (fun w h => by first | exact h | exact h.ent aEt))
            (by
              intro hg13
              have hs14 := hg13; try simp only [decide_eq_true_eq, decide_eq_false_iff_not, Bool.not_eq_true', Bool.not_eq_false', Bool.and_eq_true, Bool.or_eq_true, Bool.and_eq_false_iff, Bool.or_eq_false_iff, Bool.not_true, Bool.not_false] at hs14
              refine o_off 54 _ rfl rfl hg13 rfl ?_
              refine o_off 54 _ rfl rfl hg13 rfl ?_
              refine o_on 50 _ rfl rfl hg9 ?_
              refine o_p (p_pickt rfl rfl hg13 rfl) rfl ?_
              refine o_nil ?_
              exact s_joinN 3 57 _ rfl rfl rfl (fun w h => by first | exact h | exact h.ent aEt)) ?_
          refine o_p (p_pickt rfl rfl hg9 rfl) rfl ?_
          refine o_nil ?_
          exact s_joinN 6 58 _ rfl rfl rfl (fun w h => by first | exact h | exact h.ent aEt))
        (by
          intro hg15
          have hs16 := hg15; try simp only [decide_eq_true_eq, decide_eq_false_iff_not, Bool.not_eq_true', Bool.not_eq_false', Bool.and_eq_true, Bool.or_eq_true, Bool.and_eq_false_iff, Bool.or_eq_false_iff, Bool.not_true, Bool.not_false] at hs16
          refine o_off 50 _ rfl rfl hg15 rfl ?_
          refine o_off 50 _ rfl rfl hg15 rfl ?_
          refine o_off 50 _ rfl rfl hg15 rfl ?_
          refine o_off 50 _ rfl rfl hg15 rfl ?_
          refine o_off' 54 rfl rfl rfl ?_
          refine o_off' 54 rfl rfl rfl ?_
          refine o_off 50 _ rfl rfl hg15 rfl ?_
          refine o_p (p_pickf rfl rfl hg15 rfl) rfl ?_
          refine o_nil ?_
          exact s_joinN 8 58 _ rfl rfl rfl (fun w h => by first | exact h | exact h.ent aEt)) ?_
      refine o_p (p_pure rfl) rfl ?_
      refine o_or 14 59 73 _ _ rfl
        (by
          intro hg17
          have hs18 := hg17; try simp only [decide_eq_true_eq, decide_eq_false_iff_not, Bool.not_eq_true', Bool.not_eq_false', Bool.and_eq_true, Bool.or_eq_true, Bool.and_eq_false_iff, Bool.or_eq_false_iff, Bool.not_true, Bool.not_false] at hs18
          refine o_on 59 _ rfl rfl hg17 ?_
          refine o_p (p_pure rfl) rfl ?_
          refine o_on 59 _ rfl rfl hg17 ?_
          refine o_p (p_pure rfl) rfl ?_
          refine o_on 59 _ rfl rfl hg17 ?_
          refine o_p (p_pure rfl) rfl ?_
          refine o_and 10 62 72 _ _ rfl
            (by
              intro hg19
              have hs20 := hg19; try simp only [decide_eq_true_eq, decide_eq_false_iff_not, Bool.not_eq_true', Bool.not_eq_false', Bool.and_eq_true, Bool.or_eq_true, Bool.and_eq_false_iff, Bool.or_eq_false_iff, Bool.not_true, Bool.not_false] at hs20
              refine o_on 62 _ rfl rfl hg19 ?_
              refine o_p (p_pure rfl) rfl ?_
              refine o_on 62 _ rfl rfl hg19 ?_
              refine o_p (p_pure rfl) rfl ?_
              refine o_on 62 _ rfl rfl hg19 ?_
              refine o_p (p_pure rfl) rfl ?_
              refine o_or 6 65 71 _ _ rfl
                (by
                  intro hg21
                  have hs22 := hg21; try simp only [decide_eq_true_eq, decide_eq_false_iff_not, Bool.not_eq_true', Bool.not_eq_false', Bool.and_eq_true, Bool.or_eq_true, Bool.and_eq_false_iff, Bool.or_eq_false_iff, Bool.not_true, Bool.not_false] at hs22
                  refine o_on 65 _ rfl rfl hg21 ?_
                  refine o_p (p_pure rfl) rfl ?_
                  refine o_on 65 _ rfl rfl hg21 ?_
                  refine o_q (q_loadn rfl rfl sz_42 aPk rfl) rfl ?_
                  refine o_on 65 _ rfl rfl hg21 ?_
                  refine o_q (q_call rfl fn_23 rfl (fun w1 h1 => c23 w1 d ea eac aa aac (hse.later h1) (hsa.later h1) hme hma (by have hq := hg21; simpa using hq))) rfl ?_
                  refine o_on 65 _ rfl rfl hg21 ?_
                  refine o_q (q_call rfl fn_22 rfl (fun w1 h1 => c22 w1 (encD d) (by have := encD_len d; omega))) rfl ?_
                  refine o_on 65 _ rfl rfl hg21 ?_
                  refine o_p (p_pure rfl) rfl ?_
                  refine o_on 62 _ rfl rfl hg19 ?_
                  refine o_p (p_pickf rfl rfl hg21 rfl) rfl ?_
                  refine o_nil ?_
                  exact s_joinN 6 71 _ rfl rfl rfl (fun w h => by first | exact h | exact h.ent aEt))
                (by
                  intro hg23
                  have hs24 := hg23; try simp only [decide_eq_true_eq, decide_eq_false_iff_not, Bool.not_eq_true', Bool.not_eq_false', Bool.and_eq_true, Bool.or_eq_true, Bool.and_eq_false_iff, Bool.or_eq_false_iff, Bool.not_true, Bool.not_false] at hs24
                  refine o_off 65 _ rfl rfl hg23 rfl ?_
                  refine o_off 65 _ rfl rfl hg23 rfl ?_
                  refine o_off 65 _ rfl rfl hg23 rfl ?_
                  refine o_off 65 _ rfl rfl hg23 rfl ?_
                  refine o_off 65 _ rfl rfl hg23 rfl ?_
                  refine o_on 62 _ rfl rfl hg19 ?_
                  refine o_p (p_pickt rfl rfl hg23 rfl) rfl ?_
                  refine o_nil ?_
                  exact s_joinN 6 71 _ rfl rfl rfl (fun w h => by first | exact h | exact h.ent aEt)) ?_
              refine o_on 59 _ rfl rfl hg17 ?_
              refine o_p (p_pickt rfl rfl hg19 rfl) rfl ?_
              refine o_nil ?_
              exact s_joinN 5 72 _ rfl rfl rfl (fun w h => by first | exact h | exact h.ent aEt))
            (by
              intro hg25
              have hs26 := hg25; try simp only [decide_eq_true_eq, decide_eq_false_iff_not, Bool.not_eq_true', Bool.not_eq_false', Bool.and_eq_true, Bool.or_eq_true, Bool.and_eq_false_iff, Bool.or_eq_false_iff, Bool.not_true, Bool.not_false] at hs26
              refine o_off 62 _ rfl rfl hg25 rfl ?_
              refine o_off 62 _ rfl rfl hg25 rfl ?_
              refine o_off 62 _ rfl rfl hg25 rfl ?_
              refine o_off' 65 rfl rfl rfl ?_
              refine o_off' 65 rfl rfl rfl ?_
              refine o_off' 65 rfl rfl rfl ?_
              refine o_off' 65 rfl rfl rfl ?_
              refine o_off' 65 rfl rfl rfl ?_
              refine o_off 62 _ rfl rfl hg25 rfl ?_
              refine o_on 59 _ rfl rfl hg17 ?_
              refine o_p (p_pickf rfl rfl hg25 rfl) rfl ?_
              refine o_nil ?_
              exact s_joinN 10 72 _ rfl rfl rfl (fun w h => by first | exact h | exact h.ent aEt)) ?_
          refine o_p (p_pickf rfl rfl hg17 rfl) rfl ?_
          refine o_nil ?_
          exact s_joinN 5 73 _ rfl rfl rfl (fun w h => by first | exact h | exact h.ent aEt))
        (by
          intro hg27
          have hs28 := hg27; try simp only [decide_eq_true_eq, decide_eq_false_iff_not, Bool.not_eq_true', Bool.not_eq_false', Bool.and_eq_true, Bool.or_eq_true, Bool.and_eq_false_iff, Bool.or_eq_false_iff, Bool.not_true, Bool.not_false] at hs28
          refine o_off 59 _ rfl rfl hg27 rfl ?_
          refine o_off 59 _ rfl rfl hg27 rfl ?_
          refine o_off 59 _ rfl rfl hg27 rfl ?_
          refine o_off' 62 rfl rfl rfl ?_
          refine o_off' 62 rfl rfl rfl ?_
          refine o_off' 62 rfl rfl rfl ?_
          refine o_off' 65 rfl rfl rfl ?_
          refine o_off' 65 rfl rfl rfl ?_
          refine o_off' 65 rfl rfl rfl ?_
          refine o_off' 65 rfl rfl rfl ?_
          refine o_off' 65 rfl rfl rfl ?_
          refine o_off' 62 rfl rfl rfl ?_
          refine o_off 59 _ rfl rfl hg27 rfl ?_
          refine o_p (p_pickt rfl rfl hg27 rfl) rfl ?_
          refine o_nil ?_
          exact s_joinN 14 73 _ rfl rfl rfl (fun w h => by first | exact h | exact h.ent aEt)) ?_
      refine o_nil ?_
      refine s_cond rfl (fun h29 => ?_) (fun h29 => ?_)
      · try simp only [decide_eq_true_eq, decide_eq_false_iff_not, Bool.not_eq_true', Bool.not_eq_false', Bool.and_eq_true, Bool.or_eq_true, Bool.and_eq_false_iff, Bool.or_eq_false_iff, Bool.not_true, Bool.not_false] at h29
        exfalso; have hq := h29; by_cases hX : (dscE d).2 = 0 <;> simp [hX] at hq
      · try simp only [decide_eq_true_eq, decide_eq_false_iff_not, Bool.not_eq_true', Bool.not_eq_false', Bool.and_eq_true, Bool.or_eq_true, Bool.and_eq_false_iff, Bool.or_eq_false_iff, Bool.not_true, Bool.not_false] at h29
        refine s_skip ?_
        refine s_seq ?_
        refine s_region ?_
        refine o_q (q_loadn rfl rfl sz_24 aPk rfl) rfl ?_
        refine o_q (q_call rfl fn_24 rfl (fun w1 h1 => c24 w1 nx a cap l (hs.later h1) hm hb)) rfl ?_
        refine o_p (p_pure rfl) rfl ?_
        refine o_p (p_pure rfl) rfl ?_
        refine o_p (p_pure rfl) rfl ?_
        refine o_p (p_pure rfl) rfl ?_
        refine o_p (p_pure rfl) rfl ?_
        refine o_nil ?_
        refine s_seq ?_
        refine s_seq ?_
        refine s_region ?_
        refine o_p (p_pure rfl) rfl ?_
        refine o_p (p_pure rfl) rfl ?_
        refine o_p (p_pure rfl) rfl ?_
        refine o_p (p_pure rfl) rfl ?_
        refine o_or 4 82 86 _ _ rfl
          (by
            intro hg30
            have hs31 := hg30; try simp only [decide_eq_true_eq, decide_eq_false_iff_not, Bool.not_eq_true', Bool.not_eq_false', Bool.and_eq_true, Bool.or_eq_true, Bool.and_eq_false_iff, Bool.or_eq_false_iff, Bool.not_true, Bool.not_false] at hs31
            refine o_on 82 _ rfl rfl hg30 ?_
            refine o_p (p_pure rfl) rfl ?_
            refine o_on 82 _ rfl rfl hg30 ?_
            refine o_p (p_pure rfl) rfl ?_
            refine o_on 82 _ rfl rfl hg30 ?_
            refine o_p (p_pure rfl) rfl ?_
            refine o_p (p_pickf rfl rfl hg30 rfl) rfl ?_
            refine o_nil ?_
            exact s_joinN 4 86 _ rfl rfl rfl (fun w h => by first | exact h | exact h.ent aEt))
          (by
            intro hg32
            have hs33 := hg32; try simp only [decide_eq_true_eq, decide_eq_false_iff_not, Bool.not_eq_true', Bool.not_eq_false', Bool.and_eq_true, Bool.or_eq_true, Bool.and_eq_false_iff, Bool.or_eq_false_iff, Bool.not_true, Bool.not_false] at hs33
            refine o_off 82 _ rfl rfl hg32 rfl ?_
            refine o_off 82 _ rfl rfl hg32 rfl ?_
            refine o_off 82 _ rfl rfl hg32 rfl ?_
            refine o_p (p_pickt rfl rfl hg32 rfl) rfl ?_
            refine o_nil ?_
            exact s_joinN 4 86 _ rfl rfl rfl (fun w h => by first | exact h | exact h.ent aEt)) ?_
        refine o_nil ?_
        refine s_cond rfl (fun h34 => ?_) (fun h34 => ?_)
        · try simp only [decide_eq_true_eq, decide_eq_false_iff_not, Bool.not_eq_true', Bool.not_eq_false', Bool.and_eq_true, Bool.or_eq_true, Bool.and_eq_false_iff, Bool.or_eq_false_iff, Bool.not_true, Bool.not_false] at h34
          exfalso; have hq := h34; simp at hq
        · try simp only [decide_eq_true_eq, decide_eq_false_iff_not, Bool.not_eq_true', Bool.not_eq_false', Bool.and_eq_true, Bool.or_eq_true, Bool.and_eq_false_iff, Bool.or_eq_false_iff, Bool.not_true, Bool.not_false] at h34
          refine s_skip ?_
          refine s_seq ?_
          refine s_seq ?_
          refine s_weaken (L' := [(2, _), (4, _), (9, _), (10, _), (11, _), (14, _)]) aSx (fun _ h => h) ?_
          refine s_region ?_
          refine o_p (p_pure rfl) rfl ?_
          refine o_p (p_pure rfl) rfl ?_
          refine o_nil ?_
          refine s_cond rfl (fun h35 => ?_) (fun h35 => ?_)
          · try simp only [decide_eq_true_eq, decide_eq_false_iff_not, Bool.not_eq_true', Bool.not_eq_false', Bool.and_eq_true, Bool.or_eq_true, Bool.and_eq_false_iff, Bool.or_eq_false_iff, Bool.not_true, Bool.not_false] at h35
            have h0 : ¬ (stoE nx l).2 = 0 := h35
            refine s_seq ?_
            refine s_region ?_
            refine o_p (p_pure rfl) rfl ?_
            refine o_p (p_pure rfl) rfl ?_
            refine o_p (p_pure rfl) rfl ?_
            refine o_p (p_pure rfl) rfl ?_
            refine o_and 4 92 96 _ _ rfl
              (by
                intro hg36
                have hs37 := hg36; try simp only [decide_eq_true_eq, decide_eq_false_iff_not, Bool.not_eq_true', Bool.not_eq_false', Bool.and_eq_true, Bool.or_eq_true, Bool.and_eq_false_iff, Bool.or_eq_false_iff, Bool.not_true, Bool.not_false] at hs37
                refine o_on 92 _ rfl rfl hg36 ?_
                refine o_p (p_pure rfl) rfl ?_
                refine o_on 92 _ rfl rfl hg36 ?_
                refine o_p (p_len_slice rfl rfl Tryz.underlying25) rfl ?_
                refine o_on 92 _ rfl rfl hg36 ?_
                refine o_p (p_pure rfl) rfl ?_
                refine o_p (p_pickt rfl rfl hg36 rfl) rfl ?_
                refine o_nil ?_
                exact s_joinN 4 96 _ rfl rfl rfl (fun w h => by first | exact h | exact h.ent aEt))
              (by
                intro hg38
                have hs39 := hg38; try simp only [decide_eq_true_eq, decide_eq_false_iff_not, Bool.not_eq_true', Bool.not_eq_false', Bool.and_eq_true, Bool.or_eq_true, Bool.and_eq_false_iff, Bool.or_eq_false_iff, Bool.not_true, Bool.not_false] at hs39
                refine o_off 92 _ rfl rfl hg38 rfl ?_
                refine o_off 92 _ rfl rfl hg38 rfl ?_
                refine o_off 92 _ rfl rfl hg38 rfl ?_
                refine o_p (p_pickf rfl rfl hg38 rfl) rfl ?_
                refine o_nil ?_
                exact s_joinN 4 96 _ rfl rfl rfl (fun w h => by first | exact h | exact h.ent aEt)) ?_
            refine o_p (p_pure rfl) rfl ?_
            refine o_and 3 97 100 _ _ rfl
              (by
                intro hg40
                have hs41 := hg40; try simp only [decide_eq_true_eq, decide_eq_false_iff_not, Bool.not_eq_true', Bool.not_eq_false', Bool.and_eq_true, Bool.or_eq_true, Bool.and_eq_false_iff, Bool.or_eq_false_iff, Bool.not_true, Bool.not_false] at hs41
                refine o_on 97 _ rfl rfl hg40 ?_
                refine o_p (p_pure rfl) rfl ?_
                refine o_on 97 _ rfl rfl hg40 ?_
                refine o_p (p_pure rfl) rfl ?_
                refine o_p (p_pickt rfl rfl hg40 rfl) rfl ?_
                refine o_nil ?_
                exact s_joinN 3 100 _ rfl rfl rfl (fun w h => by first | exact h | exact h.ent aEt))
              (by
                intro hg42
                have hs43 := hg42; try simp only [decide_eq_true_eq, decide_eq_false_iff_not, Bool.not_eq_true', Bool.not_eq_false', Bool.and_eq_true, Bool.or_eq_true, Bool.and_eq_false_iff, Bool.or_eq_false_iff, Bool.not_true, Bool.not_false] at hs43
                refine o_off 97 _ rfl rfl hg42 rfl ?_
                refine o_off 97 _ rfl rfl hg42 rfl ?_
                refine o_p (p_pickf rfl rfl hg42 rfl) rfl ?_
                refine o_nil ?_
                exact s_joinN 3 100 _ rfl rfl rfl (fun w h => by first | exact h | exact h.ent aEt)) ?_
            refine o_p (p_pure rfl) rfl ?_
            refine o_nil ?_
            exact s_retv (rs := [.tmp 4]) rfl (.tmp rfl (.nil)) (fun w' h' => ⟨by simp [retV, h0], h'.below⟩)
          · try simp only [decide_eq_true_eq, decide_eq_false_iff_not, Bool.not_eq_true', Bool.not_eq_false', Bool.and_eq_true, Bool.or_eq_true, Bool.and_eq_false_iff, Bool.or_eq_false_iff, Bool.not_true, Bool.not_false] at h35
            have h0 : (stoE nx l).2 = 0 := h35
            rw [if_pos h0]
            refine s_skip ?_
            refine s_seq ?_
            refine s_region ?_
            refine o_q (q_loadn rfl rfl sz_24 aPk rfl) rfl ?_
            refine o_h (h_call rfl fn_25 rfl (fun w1 h1 => c25 w1 nx a cap l (hs.later h1) hm hb)) rfl (fun gR _ => ?_)
            refine o_p (p_pure rfl) rfl ?_
            refine o_p (p_pure rfl) rfl ?_
            refine o_p (p_pure rfl) rfl ?_
            refine o_p (p_pure rfl) rfl ?_
            refine o_p (p_pure rfl) rfl ?_
            refine o_nil ?_
            refine s_seq ?_
            refine s_region ?_
            refine o_p (p_pure rfl) rfl ?_
            refine o_p (p_pure rfl) rfl ?_
            refine o_p (p_pure rfl) rfl ?_
            refine o_and 4 108 112 _ _ rfl
              (by
                intro hg44
                have hs45 := hg44; try simp only [decide_eq_true_eq, decide_eq_false_iff_not, Bool.not_eq_true', Bool.not_eq_false', Bool.and_eq_true, Bool.or_eq_true, Bool.and_eq_false_iff, Bool.or_eq_false_iff, Bool.not_true, Bool.not_false] at hs45
                refine o_on 108 _ rfl rfl hg44 ?_
                refine o_p (p_pure rfl) rfl ?_
                refine o_on 108 _ rfl rfl hg44 ?_
                refine o_p (p_pure rfl) rfl ?_
                refine o_on 108 _ rfl rfl hg44 ?_
                refine o_q (q_call rfl fn_15 rfl (fun w1 h1 => by have h9 := c15 w1 gP.1 gP.2 gR.1 gR.2 (plsI l).1 (HS.vl_own (a := gP.1) (t := 3) (cs := (plsI l).1.map nv) h1 aPk) (by have hq := HS.vl_own (a := gR.1) (t := 3) (cs := (plsI l).1.map nv) h1 aPk; exact hq) (by rw [pls_len']; omega); rw [pls_len'] at h9; rw [pls_len']; exact h9)) rfl ?_
                refine o_p (p_pickt rfl rfl hg44 rfl) rfl ?_
                refine o_nil ?_
                exact s_joinN 4 112 _ rfl rfl rfl (fun w h => by first | exact h | exact h.ent aEt))
              (by
                intro hg46
                have hs47 := hg46; try simp only [decide_eq_true_eq, decide_eq_false_iff_not, Bool.not_eq_true', Bool.not_eq_false', Bool.and_eq_true, Bool.or_eq_true, Bool.and_eq_false_iff, Bool.or_eq_false_iff, Bool.not_true, Bool.not_false] at hs47
                refine o_off 108 _ rfl rfl hg46 rfl ?_
                refine o_off 108 _ rfl rfl hg46 rfl ?_
                refine o_off 108 _ rfl rfl hg46 rfl ?_
                refine o_p (p_pickf rfl rfl hg46 rfl) rfl ?_
                refine o_nil ?_
                exact s_joinN 4 112 _ rfl rfl rfl (fun w h => by first | exact h | exact h.ent aEt)) ?_
            refine o_p (p_pure rfl) rfl ?_
            refine o_and 4 113 117 _ _ rfl
              (by
                intro hg48
                have hs49 := hg48; try simp only [decide_eq_true_eq, decide_eq_false_iff_not, Bool.not_eq_true', Bool.not_eq_false', Bool.and_eq_true, Bool.or_eq_true, Bool.and_eq_false_iff, Bool.or_eq_false_iff, Bool.not_true, Bool.not_false] at hs49
                refine o_on 113 _ rfl rfl hg48 ?_
                refine o_p (p_pure rfl) rfl ?_
                refine o_on 113 _ rfl rfl hg48 ?_
                refine o_p (p_pure rfl) rfl ?_
                refine o_on 113 _ rfl rfl hg48 ?_
                refine o_p (p_pure rfl) rfl ?_
                refine o_p (p_pickt rfl rfl hg48 rfl) rfl ?_
                refine o_nil ?_
                exact s_joinN 4 117 _ rfl rfl rfl (fun w h => by first | exact h | exact h.ent aEt))
              (by
                intro hg50
                have hs51 := hg50; try simp only [decide_eq_true_eq, decide_eq_false_iff_not, Bool.not_eq_true', Bool.not_eq_false', Bool.and_eq_true, Bool.or_eq_true, Bool.and_eq_false_iff, Bool.or_eq_false_iff, Bool.not_true, Bool.not_false] at hs51
                refine o_off 113 _ rfl rfl hg50 rfl ?_
                refine o_off 113 _ rfl rfl hg50 rfl ?_
                refine o_off 113 _ rfl rfl hg50 rfl ?_
                refine o_p (p_pickf rfl rfl hg50 rfl) rfl ?_
                refine o_nil ?_
                exact s_joinN 4 117 _ rfl rfl rfl (fun w h => by first | exact h | exact h.ent aEt)) ?_
            refine o_p (p_pure rfl) rfl ?_
            refine o_and 4 118 122 _ _ rfl
              (by
                intro hg52
                have hs53 := hg52; try simp only [decide_eq_true_eq, decide_eq_false_iff_not, Bool.not_eq_true', Bool.not_eq_false', Bool.and_eq_true, Bool.or_eq_true, Bool.and_eq_false_iff, Bool.or_eq_false_iff, Bool.not_true, Bool.not_false] at hs53
                refine o_on 118 _ rfl rfl hg52 ?_
                refine o_q (q_call rfl fn_26 rfl (fun w1 h1 => c26 w1)) rfl ?_
                refine o_on 118 _ rfl rfl hg52 ?_
                refine o_q (q_call rfl fn_27 rfl (fun w1 h1 => c27 w1)) rfl ?_
                refine o_on 118 _ rfl rfl hg52 ?_
                refine o_q (q_call rfl fn_13 rfl (fun w1 h1 => c13 w1 256 none 0 none 0 [] rw_nil rw_nil (by decide))) rfl ?_
                refine o_p (p_pickt rfl rfl hg52 rfl) rfl ?_
                refine o_nil ?_
                exact s_joinN 4 122 _ rfl rfl rfl (fun w h => by first | exact h | exact h.ent aEt))
              (by
                intro hg54
                have hs55 := hg54; try simp only [decide_eq_true_eq, decide_eq_false_iff_not, Bool.not_eq_true', Bool.not_eq_false', Bool.and_eq_true, Bool.or_eq_true, Bool.and_eq_false_iff, Bool.or_eq_false_iff, Bool.not_true, Bool.not_false] at hs55
                refine o_off 118 _ rfl rfl hg54 rfl ?_
                refine o_off 118 _ rfl rfl hg54 rfl ?_
                refine o_off 118 _ rfl rfl hg54 rfl ?_
                refine o_p (p_pickf rfl rfl hg54 rfl) rfl ?_
                refine o_nil ?_
                exact s_joinN 4 122 _ rfl rfl rfl (fun w h => by first | exact h | exact h.ent aEt)) ?_
            refine o_p (p_pure rfl) rfl ?_
            refine o_nil ?_
            exact s_retv (rs := [.tmp 4]) rfl (.tmp rfl (.nil)) (fun w' h' => ⟨by simp [retV, h0], h'.below⟩)

end Go.Proofs

