/- Contracts of the program's functions, proved by walking them with the rules of the Gx texts; without conditions beyond those that each contract names. -/
import Derived.WalkKit
import Derived.Deep.Draws
import Derived.Lib.Strings
import Derived.Laws.BytesArg
import Derived.Laws.IdiomStrings
import Derived.Deep.Quiet
import Derived.Laws.StructEq
import Derived.ChangeKeysEq
import Derived.Laws.Externs
import Derived.Lib.Overlaps
import Derived.Carry
import Derived.Test.YtgdigngojonbhaaProg
import Derived.KernelRfl
import Derived.Laws.Small
import Derived.ProofKit
import Derived.OpenShut
import Derived.Test.YtgdigngojonbhaaP1
namespace Go.Proofs
open Go Go.RowKit Gx
set_option linter.unusedVariables false
set_option linter.unusedSimpArgs false
attribute [local irreducible] Go.Calls Gx.S Gx.O Gx.D Gx.OpP Gx.OpQ Gx.OpH

theorem fd_106_0 : tfd Try.prog 106 0 = some (0, 26) := by kernel_rfl
theorem sz_26 : tsz Try.prog 26 = some (2, true) := by kernel_rfl
theorem ki_175 : tki Try.prog 175 = some .u64 := by kernel_rfl
theorem fn_125 : isFn Try.prog 125 = true := by kernel_rfl


def ixO (l : List Opn) (h : Int) : Nat := ixB (l.map fun o => decide (o.hd = h))
def findF : List Fil → Int → Nat → Nat × Nat × Int
  | [], _, _ => (0, 0, 6)
  | f :: r, h, i => if ixO f.op h < f.op.length then (i, ixO f.op h, 0) else findF r h (i + 1)
theorem findF_drop {L : List Fil} {h : Int} {k : Nat} (hk : k < L.length) : findF (L.drop k) h k = if ixO (nth L k).op h < (nth L k).op.length then (k, ixO (nth L k).op h, 0) else findF (L.drop (k + 1)) h (k + 1) := by
  rw [drop_nth hk, findF]
theorem findF_end {L : List Fil} {h : Int} {k : Nat} (hk : L.length ≤ k) : findF (L.drop k) h k = (0, 0, 6) := by rw [List.drop_of_length_le hk]; rfl
def trV (p : Nat × Nat × Int) : Value := .tuple #[.int .i64 (p.1 : Int), .int .i64 (p.2.1 : Int), .int .i64 p.2.2]
theorem ixO_pl (l : List LOpn) (h : Int) : ixB (l.map fun o => decide (o.hd = h)) = ixO (plo l) h := by
  unfold ixO plo
  rw [List.map_map]
  rfl
def cmps (L : List Fil) (rc sq : Int) : List Int := L.map fun f => cmp2 (f.rc, f.sq) (rc, sq)

set_option maxRecDepth 20000 in
theorem c123 (w : World) (b : Nat) (o : LOpn) (h : Int) (hr : Rd w [] b 0 (.int .i64 h)) : Calls Try.prog 123 #[.agg #[.int .i64 o.hd, .int .i64 o.ac, .int .i64 o.sh, .bool o.dl, .slice o.la o.lk.length o.lc], .pointer (some ⟨b, 0, none⟩)] w fun en w' => en = .returned (.bool (decide (o.hd = h))) ∧ Below w.heap.size w w' := by
  refine enter (args := [_, _]) Try.func123 Try.ntmps123 rfl rfl (HS.refl w []) ?_
  refine s_seq ?_
  refine s_region ?_
  refine o_h (h_box rfl rfl) rfl (fun b1 _ => ?_)
  refine o_p (p_pure rfl) rfl ?_
  refine o_nil ?_
  refine s_seq ?_
  refine s_region ?_
  refine o_p (p_fieldAddr rfl rfl fd_48_0 sz_3 rfl) rfl ?_
  first | refine o_q (q_load rfl rfl sz_3 (by repeat (first | exact .here | apply Pick.there)) rfl) rfl ?_ | refine o_q (q_load_old rfl rfl sz_3 (hr)) rfl ?_
  first | refine o_q (q_load rfl rfl sz_3 (by repeat (first | exact .here | apply Pick.there)) rfl) rfl ?_ | refine o_q (q_load_old rfl rfl sz_3 (hr)) rfl ?_
  refine o_p (p_pure rfl) rfl ?_
  refine o_p (p_pure rfl) rfl ?_
  refine o_nil ?_
  exact s_retv (rs := [.tmp 3]) rfl (.tmp rfl (.nil)) (fun w' h' => ⟨rfl, h'.below⟩)

set_option maxRecDepth 20000 in
theorem c100 (w : World) (bt : Nat) (a : Option Addr) (cap : Nat) (L : List LFil) (h : Int) (ht1 : Rd w [] bt 1 (.slice a L.length cap)) (hs : Ft w [] a L) (hm : L.length ≤ 1000) (hmo : ∀ f ∈ L, f.op.length ≤ 1000) : Calls Try.prog 100 #[.pointer (some ⟨bt, 0, none⟩), .int .i64 h] w fun en w' => en = .returned (trV (findF (pls L) h 0)) ∧ Below w.heap.size w w' := by
  have hpl : (pls L).length = L.length := by simp
  refine enter (args := [_, _]) Try.func100 Try.ntmps100 rfl rfl (HS.refl w []) ?_
  refine s_seq ?_
  refine s_region ?_
  refine o_h (h_box rfl rfl) rfl (fun b1 _ => ?_)
  refine o_p (p_pure rfl) rfl ?_
  refine o_p (p_pure rfl) rfl ?_
  refine o_p (p_pure rfl) rfl ?_
  refine o_nil ?_
  refine s_seq ?_
  refine s_seq ?_
  refine s_region ?_
  refine o_p (p_pure rfl) rfl ?_
  refine o_p (p_pure rfl) rfl ?_
  refine o_p (p_fieldAddr rfl rfl fd_106_0 sz_26 rfl) rfl ?_
  refine o_p (p_fieldAddr rfl rfl fd_26_1 sz_24 rfl) rfl ?_
  first | refine o_q (q_load rfl rfl sz_24 (by repeat (first | exact .here | apply Pick.there)) rfl) rfl ?_ | refine o_q (q_load_old rfl rfl sz_24 (ht1)) rfl ?_ | refine o_q (q_load_old rfl rfl sz_24 (rfl (Rw.rd hs.1 (i := k) (by omega)))) rfl ?_
  first | refine o_p (p_len_slice rfl rfl Try.underlying24) rfl ?_ | refine o_q (q_len_own rfl rfl Try.underlying24 (by repeat (first | exact .here | apply Pick.there))) rfl ?_
  refine o_p (p_pure rfl) rfl ?_
  refine o_nil ?_
  refine s_block ?_
  refine s_loopI (α := Nat) [4, 5, 6, 7, 8, 9, 16, 17, 18, 19, 20, 21, 22, 23, 24, 25, 26, 27, 28, 29] (fun k => [(16, .int .i64 (k : Int))]) (fun _ => HS w [] [.blk b1 3 1 [.int .i64 h]]) (fun k => k ≤ L.length ∧ findF (pls L) h 0 = findF ((pls L).drop k) h k) (fun k => L.length - k) 0 ⟨by simp, rfl⟩ (by repeat (first | exact sl_n | refine sl_c rfl ?_)) (fun w h => h.ent (by repeat (first | exact .nil | refine .cons (by repeat (first | exact .here | apply Pick.there)) ?_))) (fun k hk => ?_)
  obtain ⟨hk1, hk2⟩ := hk
  refine s_seq ?_
  refine s_region ?_
  refine o_p (p_pure rfl) rfl ?_
  refine o_nil ?_
  refine s_seq ?_
  refine s_cond rfl (fun h2 => ?_) (fun h2 => ?_)
  · try simp only [decide_eq_true_eq, decide_eq_false_iff_not, Bool.not_eq_true', Bool.not_eq_false', Bool.and_eq_true, Bool.or_eq_true, Bool.and_eq_false_iff, Bool.or_eq_false_iff, Bool.not_true, Bool.not_false] at h2
    have hkl : k < L.length := by omega
    refine s_skip ?_
    refine s_seq ?_
    refine s_block ?_
    refine s_seq ?_
    refine s_region ?_
    refine o_p (p_pure rfl) rfl ?_
    first | refine o_p (p_indexAddr rfl rfl rfl sl_24 (k) (by omega) (by omega) rfl) rfl ?_ | refine o_p (p_indexAddr rfl rfl rfl sl_24 (k) (by omega) (by omega) (Rw.some hs.1 (by omega))) rfl ?_
    first | refine o_q (q_loadn rfl rfl sz_77 (by repeat (first | exact .here | apply Pick.there)) rfl) rfl ?_ | refine o_q (q_load_oldn _ rfl rfl sz_77 ht1) rfl ?_ | refine o_q (q_load_oldn _ rfl rfl sz_77 rfl (Rw.rd hs.1 (i := k) (by omega))) rfl ?_
    refine o_h (h_alloc rfl zr_77) rfl (fun b3 _ => ?_)
    refine o_p (p_pure rfl) rfl ?_
    refine o_h0 (h_store rfl rfl rfl sz_77 rfl (by repeat (first | exact .here | apply Put.there)) (by simp only [setMany_length, List.length_set, List.length_cons, List.length_nil, List.length_map]; omega) rfl) (fun _ _ => ?_)
    refine o_nil ?_
    refine s_seq ?_
    refine s_region ?_
    refine o_p (p_fieldAddr rfl rfl fd_77_2 sz_75 rfl) rfl ?_
    first | refine o_q (q_load rfl rfl sz_75 (by repeat (first | exact .here | apply Pick.there)) rfl) rfl ?_ | refine o_q (q_load_old rfl rfl sz_75 (ht1)) rfl ?_ | refine o_q (q_load_old rfl rfl sz_75 (rfl (Rw.rd hs.1 (i := k) (by omega)))) rfl ?_
    refine o_p (p_pure rfl) rfl ?_
    refine o_q (q_call rfl fn_120 rfl (fun w1 h1 => c120 w1 (nth L k).oa (nth L k).oc (nth L k).op 123 #[.pointer (some ⟨b1, 0, none⟩)] ((nth L k).op.map fun o => decide (o.hd = h)) ((hs.at hkl).1.later h1) (by have := hmo _ (mem_nth hkl); omega) (by kernel_rfl) (by simp) (fun j w2 hj h2 => by rw [map_getD_nthB hj]; exact c123 w2 b1 _ h ((h1.rd_blk (Mc := []) (by repeat (first | exact .here | apply Pick.there)) rfl (by simp)).next h2)))) rfl ?_
    refine o_p (p_pure rfl) rfl ?_
    refine o_nil ?_
    refine s_seq ?_
    refine s_region ?_
    refine o_p (p_pure rfl) rfl ?_
    refine o_p (p_pure rfl) rfl ?_
    refine o_nil ?_
    refine s_cond rfl (fun h4 => ?_) (fun h4 => ?_)
    · try simp only [decide_eq_true_eq, decide_eq_false_iff_not, Bool.not_eq_true', Bool.not_eq_false', Bool.and_eq_true, Bool.or_eq_true, Bool.and_eq_false_iff, Bool.or_eq_false_iff, Bool.not_true, Bool.not_false] at h4
      have hix : ixO (nth L k).pl.op h < (nth L k).op.length ∧ ixI ((nth L k).op.map fun o => decide (o.hd = h)) = (ixO (nth L k).pl.op h : Int) := by have hq := h4; unfold ixI at hq ⊢; rw [List.length_map, ixO_pl] at hq ⊢; split at hq <;> first | (rename_i h9; exact ⟨h9, by rw [if_pos h9]; rfl⟩) | omega
      refine s_seq ?_
      refine s_region ?_
      refine o_p (p_pure rfl) rfl ?_
      refine o_p (p_pure rfl) rfl ?_
      refine o_p (p_pure rfl) rfl ?_
      refine o_p (p_pure rfl) rfl ?_
      refine o_p (p_pure rfl) rfl ?_
      refine o_nil ?_
      exact s_retv (rs := [.tmp 4, .tmp 5, .tmp 6]) rfl (.tmp rfl (.tmp rfl (.tmp rfl (.nil)))) (fun w' h' => ⟨by rw [hk2, findF_drop (by omega), nth_pls hkl, if_pos (by simp only [LFil.pl, List.length_map]; exact hix.1), hix.2]; rfl, h'.below⟩)
    · try simp only [decide_eq_true_eq, decide_eq_false_iff_not, Bool.not_eq_true', Bool.not_eq_false', Bool.and_eq_true, Bool.or_eq_true, Bool.and_eq_false_iff, Bool.or_eq_false_iff, Bool.not_true, Bool.not_false] at h4
      have hno : ¬ ixO (nth L k).pl.op h < (nth L k).op.length := by have hq := h4; unfold ixI at hq; rw [List.length_map, ixO_pl] at hq; intro h9; have h8 : ixO (plo (nth L k).op) h < (nth L k).op.length := h9; rw [if_pos h8] at hq; omega
      refine s_skip ?_
      refine s_blk ?_
      refine s_region ?_
      refine o_p (p_pure rfl) rfl ?_
      try (refine o_slot (i64w (by omega) (by omega)) ?_)
      refine o_p (p_pure rfl) rfl ?_
      refine o_nil ?_
      exact s_backI (k + 1) (by omega) ⟨by omega, by rw [hk2, findF_drop (by omega), if_neg (by rw [nth_pls hkl]; simp only [LFil.pl, List.length_map]; exact hno)]⟩ (by repeat (first | exact sl_n | refine sl_c rfl ?_)) (fun w h => h.ent (by repeat (first | exact .nil | refine .cons (by repeat (first | exact .here | apply Pick.there)) ?_)))
  · try simp only [decide_eq_true_eq, decide_eq_false_iff_not, Bool.not_eq_true', Bool.not_eq_false', Bool.and_eq_true, Bool.or_eq_true, Bool.and_eq_false_iff, Bool.or_eq_false_iff, Bool.not_true, Bool.not_false] at h2
    refine s_exit_to rfl ?_
    refine s_seq ?_
    refine s_region ?_
    refine o_p (p_pure rfl) rfl ?_
    refine o_p (p_pure rfl) rfl ?_
    refine o_p (p_pure rfl) rfl ?_
    refine o_nil ?_
    exact s_retv (rs := [.tmp 4, .tmp 5, .tmp 6]) rfl (.tmp rfl (.tmp rfl (.tmp rfl (.nil)))) (fun w' h' => ⟨by rw [hk2, findF_end (by omega)]; rfl, h'.below⟩)

set_option maxRecDepth 20000 in
theorem c126 (w : World) (f : LFil) (rc sq : Int) : Calls Try.prog 126 #[.agg #[.int .i64 f.rc, .int .i64 f.sq, .bool f.pd, .slice f.oa f.op.length f.oc], .agg #[.int .i64 rc, .int .i64 sq]] w fun en w' => en = .returned (.int .i64 (cmp2 (f.rc, f.sq) (rc, sq))) ∧ Below w.heap.size w w' := by
  refine enter (args := [_, _]) Try.func126 Try.ntmps126 rfl rfl (HS.refl w []) ?_
  refine s_seq ?_
  refine s_region ?_
  refine o_h (h_box rfl rfl) rfl (fun b1 _ => ?_)
  refine o_h (h_box rfl rfl) rfl (fun b2 _ => ?_)
  refine o_p (p_pure rfl) rfl ?_
  refine o_nil ?_
  refine s_seq ?_
  refine s_region ?_
  refine o_p (p_fieldAddr rfl rfl fd_77_0 sz_42 rfl) rfl ?_
  refine o_q (q_loadn rfl rfl sz_42 (by repeat (first | exact .here | apply Pick.there)) rfl) rfl ?_
  refine o_q (q_loadn rfl rfl sz_42 (by repeat (first | exact .here | apply Pick.there)) rfl) rfl ?_
  refine o_q (q_call rfl fn_56 rfl (fun w1 h1 => c56 w1 _ _ _ _)) rfl ?_
  refine o_p (p_pure rfl) rfl ?_
  refine o_nil ?_
  exact s_retv (rs := [.tmp 4]) rfl (.tmp rfl (.nil)) (fun w' h' => ⟨rfl, h'.below⟩)

set_option maxRecDepth 20000 in
theorem c125 (w : World) (a : Option Addr) (cap : Nat) (l : List LFil) (q : Nat) (cv : Array Value) (cs : List Int) (rc sq : Int) (hs : Rw LFil.vals 4 w [] a l) (hm : l.length ≤ 1000000) (hq : isFn Try.prog q = true) (hb : cs.length = l.length) (hc : ∀ k w1, k < l.length → HS w [] [] w1 → Calls Try.prog q (#[] ++ [.agg (LFil.vals (nth l k)).toArray, .agg #[.int .i64 rc, .int .i64 sq]].toArray ++ cv) w1 fun en w2 => en = .returned (.int .i64 (cs.getD k 0)) ∧ Below w1.heap.size w1 w2) : Calls Try.prog 125 #[.slice a l.length cap, .agg #[.int .i64 rc, .int .i64 sq], .func (.func q) #[] cv] w fun en w' => en = .returned (.tuple #[.int .i64 (bsL cs : Int), .bool (bsF' cs)]) ∧ Below w.heap.size w w' := by
  refine enter (args := [_, _, _]) Try.func125 Try.ntmps125 rfl rfl (HS.refl w []) ?_
  refine s_seq ?_
  refine s_region ?_
  refine o_h (h_box rfl rfl) rfl (fun b1 _ => ?_)
  refine o_p (p_pure rfl) rfl ?_
  refine o_p (p_pure rfl) rfl ?_
  refine o_nil ?_
  refine s_seq ?_
  refine s_region ?_
  refine o_p (p_pure rfl) rfl ?_
  first | refine o_p (p_len_slice rfl rfl Try.underlying24) rfl ?_ | refine o_q (q_len_own rfl rfl Try.underlying24 (by repeat (first | exact .here | apply Pick.there))) rfl ?_
  refine o_p (p_pure rfl) rfl ?_
  refine o_nil ?_
  refine s_seq ?_
  refine s_region ?_
  refine o_p (p_pure rfl) rfl ?_
  refine o_p (p_pure rfl) rfl ?_
  refine o_p (p_pure rfl) rfl ?_
  refine o_nil ?_
  refine s_seq ?_
  refine s_block ?_
  refine s_loopI (α := Nat × Nat × Nat) [9, 10, 11, 15, 16, 17, 18, 19, 20, 21, 22, 23, 24, 25, 26, 27, 28, 29, 30, 31, 32, 33, 34] (fun x => [(9, .int .i64 (x.2.1 : Int)), (10, .int .i64 (x.2.2 : Int))]) (fun _ => HS w [] [.blk b1 42 2 [.int .i64 rc, .int .i64 sq]]) (fun x => x.2.1 ≤ x.2.2 ∧ x.2.2 ≤ l.length ∧ x.2.2 - x.2.1 ≤ x.1 ∧ bsC cs x.1 x.2.1 x.2.2 = bsL cs) (fun x => x.1) (l.length, 0, l.length) ⟨by simp, by simp, by simp, by rw [← hb]; rfl⟩ (by repeat (first | exact sl_n | refine sl_c rfl ?_)) (fun w h => h.ent (by repeat (first | exact .nil | refine .cons (by repeat (first | exact .here | apply Pick.there)) ?_))) (fun ⟨m, lo, hi⟩ hx => ?_)
  dsimp only
  obtain ⟨hx1, hx2, hx3, hx4⟩ := hx
  simp only [] at hx1 hx2 hx3 hx4
  refine s_seq ?_
  refine s_seq ?_
  refine s_region ?_
  refine o_p (p_pure rfl) rfl ?_
  refine o_p (p_pure rfl) rfl ?_
  refine o_p (p_pure rfl) rfl ?_
  refine o_nil ?_
  refine s_cond rfl (fun h2 => ?_) (fun h2 => ?_)
  · try simp only [decide_eq_true_eq, decide_eq_false_iff_not, Bool.not_eq_true', Bool.not_eq_false', Bool.and_eq_true, Bool.or_eq_true, Bool.and_eq_false_iff, Bool.or_eq_false_iff, Bool.not_true, Bool.not_false] at h2
    refine s_skip ?_
    refine s_block ?_
    refine s_seq ?_
    refine s_region ?_
    refine o_p (p_pure rfl) rfl ?_
    refine o_p (p_pure rfl) rfl ?_
    refine o_p (p_pure rfl) rfl ?_
    try (refine o_slot (i64w (by omega) (by omega)) ?_)
    refine o_p (p_conv_int rfl rfl ki_3 ki_175) rfl ?_
    rw [show IntKind.u64.wrap ((lo : Int) + (hi : Int)) = ((lo + hi : Nat) : Int) from u64w32 _ (by omega)]
    refine o_p (p_shr rfl rfl rfl (by decide) 1 rfl) rfl ?_
    refine o_p (p_conv_int rfl rfl ki_175 ki_3) rfl ?_
    try (refine o_slot (i64w (by omega) (by omega)) ?_)
    refine o_slot (show _ = Value.int .i64 (((lo + hi) / 2 : Nat) : Int) from by congr 1) ?_
    obtain ⟨q2, hq1, hq2⟩ := bsC_step (cs := cs) (show lo < hi by omega) hx3
    refine o_p (p_pure rfl) rfl ?_
    refine o_nil ?_
    refine s_seq ?_
    refine s_draw [] mixed ?_
    refine d_p 0 rfl (p_pure rfl) (by kernel_rfl) rfl rfl ?_
    refine d_p 1 rfl (p_pure rfl) (by kernel_rfl) rfl rfl ?_
    refine d_p 2 rfl (p_pure rfl) (by kernel_rfl) rfl rfl ?_
    first | refine d_p 3 rfl (p_indexAddr rfl rfl rfl sl_24 ((lo + hi) / 2) (by omega) (by omega) rfl) (by kernel_rfl) rfl rfl ?_ | refine d_p 3 rfl (p_indexAddr rfl rfl rfl sl_24 ((lo + hi) / 2) (by omega) (by omega) (Rw.some hs (by omega))) (by kernel_rfl) rfl rfl ?_
    first | refine d_q 4 [] rfl (q_loadn rfl rfl sz_77 (by repeat (first | exact .here | apply Pick.there)) rfl) (by kernel_rfl) (by kernel_rfl) (by kernel_rfl) rfl ?_ | refine d_q 4 [] rfl (q_load_oldn _ rfl rfl sz_77 rfl (Rw.rd hs (i := (lo + hi) / 2) (by omega))) (by kernel_rfl) (by kernel_rfl) (by kernel_rfl) rfl ?_ | refine d_q 4 [] rfl (q_load_oldn _ rfl rfl sz_77 rfl (Rw.rd hs (i := lo) (by omega))) (by kernel_rfl) (by kernel_rfl) (by kernel_rfl) rfl ?_
    first | refine d_q 5 [] rfl (q_loadn rfl rfl sz_42 (by repeat (first | exact .here | apply Pick.there)) rfl) (by kernel_rfl) (by kernel_rfl) (by kernel_rfl) rfl ?_ | refine d_q 5 [] rfl (q_load_oldn _ rfl rfl sz_42 rfl (Rw.rd hs (i := (lo + hi) / 2) (by omega))) (by kernel_rfl) (by kernel_rfl) (by kernel_rfl) rfl ?_ | refine d_q 5 [] rfl (q_load_oldn _ rfl rfl sz_42 rfl (Rw.rd hs (i := lo) (by omega))) (by kernel_rfl) (by kernel_rfl) (by kernel_rfl) rfl ?_
    refine d_q 6 [] rfl (q_callv rfl rfl hq rfl (fun w1 h1 => hc ((lo + hi) / 2) w1 (by omega) (h1.ent (by repeat (first | exact .nil | refine .cons (by repeat (first | exact .here | apply Pick.there)) ?_))))) (by kernel_rfl) (by kernel_rfl) (by kernel_rfl) rfl ?_
    refine d_p 7 rfl (p_pure rfl) (by kernel_rfl) rfl rfl ?_
    refine d_nil (by kernel_rfl) (fun w h => h.ent (by repeat (first | exact .nil | refine .cons (by repeat (first | exact .here | apply Pick.there)) ?_))) ?_
    refine s_cond rfl (fun h3 => ?_) (fun h3 => ?_)
    · try simp only [decide_eq_true_eq, decide_eq_false_iff_not, Bool.not_eq_true', Bool.not_eq_false', Bool.and_eq_true, Bool.or_eq_true, Bool.and_eq_false_iff, Bool.or_eq_false_iff, Bool.not_true, Bool.not_false] at h3
      refine s_weaken (L' := [(0, _), (1, _), (2, _), (4, _), (6, _), (7, _), (8, _), (9, _), (10, _), (11, _), (12, _), (13, _), (14, _)]) (by repeat (first | exact sl_n | refine sl_c rfl ?_)) (fun _ h => h) ?_
      refine s_region ?_
      refine o_p (p_pure rfl) rfl ?_
      refine o_p (p_pure rfl) rfl ?_
      try (refine o_slot (i64w (by omega) (by omega)) ?_)
      refine o_p (p_pure rfl) rfl ?_
      refine o_nil ?_
      refine s_blk ?_
      exact s_backI (q2, (lo + hi) / 2 + 1, hi) (by (try simp only []); omega) ⟨by (try simp only []); omega, hx2, by (try simp only []); omega, by simp only []; rw [← hx4, hq2, if_pos h3]⟩ (by refine sl_c (congrArg (fun e => some (Value.int .i64 e)) (show (((lo + hi) / 2 : Nat) : Int) + 1 = (((lo + hi) / 2 + 1 : Nat) : Int) by omega)) ?_; repeat (first | exact sl_n | refine sl_c rfl ?_)) (fun w h => h.ent (by repeat (first | exact .nil | refine .cons (by repeat (first | exact .here | apply Pick.there)) ?_)))
    · try simp only [decide_eq_true_eq, decide_eq_false_iff_not, Bool.not_eq_true', Bool.not_eq_false', Bool.and_eq_true, Bool.or_eq_true, Bool.and_eq_false_iff, Bool.or_eq_false_iff, Bool.not_true, Bool.not_false] at h3
      refine s_weaken (L' := [(0, _), (1, _), (2, _), (4, _), (6, _), (7, _), (8, _), (9, _), (10, _), (11, _), (12, _), (13, _), (14, _)]) (by repeat (first | exact sl_n | refine sl_c rfl ?_)) (fun _ h => h) ?_
      refine s_region ?_
      refine o_p (p_pure rfl) rfl ?_
      refine o_p (p_pure rfl) rfl ?_
      refine o_nil ?_
      refine s_blk ?_
      exact s_backI (q2, lo, (lo + hi) / 2) (by (try simp only []); omega) ⟨by (try simp only []); omega, by (try simp only []); omega, by (try simp only []); omega, by simp only []; rw [← hx4, hq2, if_neg h3]⟩ (by repeat (first | exact sl_n | refine sl_c rfl ?_)) (fun w h => h.ent (by repeat (first | exact .nil | refine .cons (by repeat (first | exact .here | apply Pick.there)) ?_)))
  · try simp only [decide_eq_true_eq, decide_eq_false_iff_not, Bool.not_eq_true', Bool.not_eq_false', Bool.and_eq_true, Bool.or_eq_true, Bool.and_eq_false_iff, Bool.or_eq_false_iff, Bool.not_true, Bool.not_false] at h2
    refine s_exit_to rfl ?_
    refine s_seq ?_
    refine s_draw [] mixed ?_
    refine d_p 0 rfl (p_pure rfl) (by kernel_rfl) rfl rfl ?_
    have hlo : bsL cs = lo := by rw [← hx4, bsC_end _ _ _ _ (by omega)]
    refine d_p 1 rfl (p_pure rfl) (by kernel_rfl) rfl rfl ?_
    refine d_p 2 rfl (p_pure rfl) (by kernel_rfl) rfl rfl ?_
    refine d_p 3 rfl (p_pure rfl) (by kernel_rfl) rfl rfl ?_
    refine d_p 4 rfl (p_pure rfl) (by kernel_rfl) rfl rfl ?_
    apply d_split 39
    · exact rfl
    · intro hg4
      have hs5 := hg4; try simp only [decide_eq_true_eq, decide_eq_false_iff_not, Bool.not_eq_true', Bool.not_eq_false', Bool.and_eq_true, Bool.or_eq_true, Bool.and_eq_false_iff, Bool.or_eq_false_iff, Bool.not_true, Bool.not_false] at hs5
      refine d_pon 5 39 rfl rfl rfl hg4 (p_pure rfl) (by kernel_rfl) rfl rfl ?_
      refine d_pon 6 39 rfl rfl rfl hg4 (p_pure rfl) (by kernel_rfl) rfl rfl ?_
      refine d_pon 7 39 rfl rfl rfl hg4 (p_pure rfl) (by kernel_rfl) rfl rfl ?_
      first | refine d_pon 8 39 rfl rfl rfl hg4 (p_indexAddr rfl rfl rfl sl_24 (lo) (by omega) (by omega) rfl) (by kernel_rfl) rfl rfl ?_ | refine d_pon 8 39 rfl rfl rfl hg4 (p_indexAddr rfl rfl rfl sl_24 (lo) (by omega) (by omega) (Rw.some hs (by omega))) (by kernel_rfl) rfl rfl ?_
      first | refine d_qon 9 39 [] rfl rfl rfl hg4 (q_loadn rfl rfl sz_77 (by repeat (first | exact .here | apply Pick.there)) rfl) (by kernel_rfl) (by kernel_rfl) (by kernel_rfl) rfl ?_ | refine d_qon 9 39 [] rfl rfl rfl hg4 (q_load_oldn _ rfl rfl sz_77 rfl (Rw.rd hs (i := (lo + hi) / 2) (by omega))) (by kernel_rfl) (by kernel_rfl) (by kernel_rfl) rfl ?_ | refine d_qon 9 39 [] rfl rfl rfl hg4 (q_load_oldn _ rfl rfl sz_77 rfl (Rw.rd hs (i := lo) (by omega))) (by kernel_rfl) (by kernel_rfl) (by kernel_rfl) rfl ?_
      first | refine d_qon 10 39 [] rfl rfl rfl hg4 (q_loadn rfl rfl sz_42 (by repeat (first | exact .here | apply Pick.there)) rfl) (by kernel_rfl) (by kernel_rfl) (by kernel_rfl) rfl ?_ | refine d_qon 10 39 [] rfl rfl rfl hg4 (q_load_oldn _ rfl rfl sz_42 rfl (Rw.rd hs (i := (lo + hi) / 2) (by omega))) (by kernel_rfl) (by kernel_rfl) (by kernel_rfl) rfl ?_ | refine d_qon 10 39 [] rfl rfl rfl hg4 (q_load_oldn _ rfl rfl sz_42 rfl (Rw.rd hs (i := lo) (by omega))) (by kernel_rfl) (by kernel_rfl) (by kernel_rfl) rfl ?_
      refine d_qon 11 39 [] rfl rfl rfl hg4 (q_callv rfl rfl hq rfl (fun w1 h1 => hc lo w1 (by omega) (h1.ent (by repeat (first | exact .nil | refine .cons (by repeat (first | exact .here | apply Pick.there)) ?_))))) (by kernel_rfl) (by kernel_rfl) (by kernel_rfl) rfl ?_
      refine d_pon 12 39 rfl rfl rfl hg4 (p_pure rfl) (by kernel_rfl) rfl rfl ?_
      refine d_p 13 rfl (p_pickt rfl rfl hg4 rfl) (by kernel_rfl) rfl rfl ?_
      refine d_p 14 rfl (p_pure rfl) (by kernel_rfl) rfl rfl ?_
      refine d_p 15 rfl (p_pure rfl) (by kernel_rfl) rfl rfl ?_
      refine d_nil (by kernel_rfl) (fun w h => h.ent (by repeat (first | exact .nil | refine .cons (by repeat (first | exact .here | apply Pick.there)) ?_))) ?_
      exact s_retv (rs := [.tmp 6, .tmp 7]) rfl (.tmp rfl (.tmp rfl (.nil))) (fun w' h' => ⟨by simp only [retV, bsF', hlo]; first | (have : ¬ lo < cs.length := (by omega); simp [this]; done) | (have : lo < cs.length := (by omega); simp [this]; done), h'.below⟩)
    · intro hg6
      have hs7 := hg6; try simp only [decide_eq_true_eq, decide_eq_false_iff_not, Bool.not_eq_true', Bool.not_eq_false', Bool.and_eq_true, Bool.or_eq_true, Bool.and_eq_false_iff, Bool.or_eq_false_iff, Bool.not_true, Bool.not_false] at hs7
      refine d_off 5 39 rfl rfl rfl hg6 (by kernel_rfl) rfl rfl ?_
      refine d_off 6 39 rfl rfl rfl hg6 (by kernel_rfl) rfl rfl ?_
      refine d_off 7 39 rfl rfl rfl hg6 (by kernel_rfl) rfl rfl ?_
      refine d_off 8 39 rfl rfl rfl hg6 (by kernel_rfl) rfl rfl ?_
      refine d_off 9 39 rfl rfl rfl hg6 (by kernel_rfl) rfl rfl ?_
      refine d_off 10 39 rfl rfl rfl hg6 (by kernel_rfl) rfl rfl ?_
      refine d_off 11 39 rfl rfl rfl hg6 (by kernel_rfl) rfl rfl ?_
      refine d_off 12 39 rfl rfl rfl hg6 (by kernel_rfl) rfl rfl ?_
      refine d_p 13 rfl (p_pickf rfl rfl hg6 rfl) (by kernel_rfl) rfl rfl ?_
      refine d_p 14 rfl (p_pure rfl) (by kernel_rfl) rfl rfl ?_
      refine d_p 15 rfl (p_pure rfl) (by kernel_rfl) rfl rfl ?_
      refine d_nil (by kernel_rfl) (fun w h => h.ent (by repeat (first | exact .nil | refine .cons (by repeat (first | exact .here | apply Pick.there)) ?_))) ?_
      exact s_retv (rs := [.tmp 6, .tmp 7]) rfl (.tmp rfl (.tmp rfl (.nil))) (fun w' h' => ⟨by simp only [retV, bsF', hlo]; first | (have : ¬ lo < cs.length := (by omega); simp [this]; done) | (have : lo < cs.length := (by omega); simp [this]; done), h'.below⟩)

set_option maxRecDepth 20000 in
theorem c114 (w : World) (bt : Nat) (a : Option Addr) (cap : Nat) (L : List LFil) (rc sq : Int) (ht1 : Rd w [] bt 1 (.slice a L.length cap)) (hs : Ft w [] a L) (hm : L.length ≤ 1000) (hmo : ∀ f ∈ L, f.op.length ≤ 1000) : Calls Try.prog 114 #[.pointer (some ⟨bt, 0, none⟩), .agg #[.int .i64 rc, .int .i64 sq]] w fun en w' => en = .returned (.tuple #[.int .i64 (bsL (cmps (pls L) rc sq) : Int), .bool (bsF' (cmps (pls L) rc sq))]) ∧ Below w.heap.size w w' := by
  refine enter (args := [_, _]) Try.func114 Try.ntmps114 rfl rfl (HS.refl w []) ?_
  refine s_seq ?_
  refine s_region ?_
  refine o_h (h_box rfl rfl) rfl (fun b1 _ => ?_)
  refine o_p (p_pure rfl) rfl ?_
  refine o_p (p_pure rfl) rfl ?_
  refine o_nil ?_
  refine s_seq ?_
  refine s_draw [] mixed ?_
  refine d_p 0 rfl (p_pure rfl) (by kernel_rfl) rfl rfl ?_
  refine d_p 1 rfl (p_pure rfl) (by kernel_rfl) rfl rfl ?_
  refine d_p 2 rfl (p_fieldAddr rfl rfl fd_106_0 sz_26 rfl) (by kernel_rfl) rfl rfl ?_
  refine d_p 3 rfl (p_fieldAddr rfl rfl fd_26_1 sz_24 rfl) (by kernel_rfl) rfl rfl ?_
  first | refine d_q 4 [] rfl (q_load rfl rfl sz_24 (by repeat (first | exact .here | apply Pick.there)) rfl) (by kernel_rfl) (by kernel_rfl) (by kernel_rfl) rfl ?_ | refine d_q 4 [] rfl (q_load_old rfl rfl sz_24 (ht1)) (by kernel_rfl) (by kernel_rfl) (by kernel_rfl) rfl ?_
  first | refine d_q 5 [] rfl (q_loadn rfl rfl sz_42 (by repeat (first | exact .here | apply Pick.there)) rfl) (by kernel_rfl) (by kernel_rfl) (by kernel_rfl) rfl ?_ | refine d_q 5 [] rfl (q_load_oldn _ rfl rfl sz_42 ht1) (by kernel_rfl) (by kernel_rfl) (by kernel_rfl) rfl ?_
  refine d_q 6 [] rfl (q_call rfl fn_125 rfl (fun w1 h1 => c125 w1 a cap L 126 #[] (cmps (pls L) rc sq) rc sq (hs.1.later h1) (by omega) (by kernel_rfl) (by simp [cmps]) (fun j w2 hj h2 => by have e : (cmps (pls L) rc sq).getD j 0 = cmp2 ((nth L j).rc, (nth L j).sq) (rc, sq) := (by unfold cmps pls; rw [List.map_map]; exact map_getD_nth hj); rw [e]; exact c126 w2 _ _ _))) (by kernel_rfl) (by kernel_rfl) (by kernel_rfl) rfl ?_
  refine d_p 7 rfl (p_pure rfl) (by kernel_rfl) rfl rfl ?_
  refine d_p 8 rfl (p_pure rfl) (by kernel_rfl) rfl rfl ?_
  refine d_p 9 rfl (p_pure rfl) (by kernel_rfl) rfl rfl ?_
  refine d_p 10 rfl (p_pure rfl) (by kernel_rfl) rfl rfl ?_
  refine d_nil (by kernel_rfl) (fun w h => h.ent (by repeat (first | exact .nil | refine .cons (by repeat (first | exact .here | apply Pick.there)) ?_))) ?_
  exact s_retv (rs := [.tmp 4, .tmp 5]) rfl (.tmp rfl (.tmp rfl (.nil))) (fun w' h' => ⟨rfl, h'.below⟩)

end Go.Proofs

namespace Go.Proofs
open Go Go.RowKit Gx
set_option linter.unusedVariables false
set_option linter.unusedSimpArgs false
attribute [local irreducible] Go.Calls Gx.S Gx.O Gx.D Gx.OpP Gx.OpQ Gx.OpH

theorem fn_100 : isFn Try.prog 100 = true := by kernel_rfl
theorem fd_77_1 : tfd Try.prog 77 1 = some (2, 4) := by kernel_rfl


theorem and_all : ((List.range 8).all fun n => ((decide (Gx.bits .and .i64 (n : Int) 4 = 0)) == !decide (n / 4 % 2 = 1)) && ((decide (Gx.bits .and .i64 (n : Int) 2 = 0)) == !decide (n / 2 % 2 = 1)) && ((decide (Gx.bits .and .i64 (n : Int) 1 = 0)) == !decide (n / 1 % 2 = 1)) && ((decide (Gx.bits .and .i64 (n : Int) 3 = 0)) == !(decide (n / 1 % 2 = 1) || decide (n / 2 % 2 = 1)))) = true := by decide +kernel
theorem and_8 {x : Int} (hx : 0 ≤ x ∧ x ≤ 7) : decide (Gx.bits .and .i64 x 4 = 0) = !hasB x 4 ∧ decide (Gx.bits .and .i64 x 2 = 0) = !hasB x 2 ∧ decide (Gx.bits .and .i64 x 1 = 0) = !hasB x 1 ∧ decide (Gx.bits .and .i64 x 3 = 0) = !(hasB x 1 || hasB x 2) := by
  have h := and_all
  rw [List.all_eq_true] at h
  have h1 := h x.toNat (List.mem_range.2 (by omega))
  rw [Int.toNat_of_nonneg hx.1] at h1
  simp only [Bool.and_eq_true, beq_iff_eq] at h1
  exact ⟨h1.1.1.1, h1.1.1.2, h1.1.2, h1.2⟩
theorem findF_spec {h : Int} : ∀ {L : List Fil} {j : Nat}, (findF L h j).2.2 = 0 → ∃ i k, findF L h j = (j + i, k, 0) ∧ i < L.length ∧ k < (nth L i).op.length ∧ k = ixO (nth L i).op h
  | [], j, e => by cases e
  | f :: L, j, e => by
    unfold findF at e ⊢
    split
    · rename_i h1
      exact ⟨0, _, rfl, by simp, by simpa [nth] using h1, by simp [nth]⟩
    · rename_i h1
      rw [if_neg h1] at e
      obtain ⟨i, k, h2, h3, h4, h5⟩ := findF_spec e
      exact ⟨i + 1, k, by rw [h2]; congr 1; omega, by simpa using h3, by simpa [nth] using h4, by simpa [nth] using h5⟩
theorem findF_err {h : Int} : ∀ {L : List Fil} {j : Nat}, (findF L h j).2.2 = 0 ∨ findF L h j = (0, 0, 6)
  | [], j => .inr rfl
  | f :: L, j => by
    unfold findF
    split
    · exact .inl rfl
    · exact findF_err
theorem VW.at {L : List LFil} (hV : VW (pls L)) {i k : Nat} (hi : i < L.length) (hk : k < (nth L i).op.length) : openE (nth (nth L i).op k).ac (nth (nth L i).op k).sh = 0 ∧ okL (nth (nth L i).op k).lk ∧ (nth (nth L i).op k).lk.length ≤ 16 :=
  hV.op (nth L i).pl (List.mem_map.2 ⟨_, mem_nth hi, rfl⟩) (nth (nth L i).op k).pl (List.mem_map.2 ⟨_, mem_nth hk, rfl⟩)
theorem VW.lens {L : List LFil} (hV : VW (pls L)) : L.length ≤ 32 ∧ ∀ f ∈ L, f.op.length ≤ 32 := by
  refine ⟨by simpa using hV.len, fun f hf => ?_⟩
  have h9 := cntT_mem (List.mem_map.2 ⟨f, hf, rfl⟩ : f.pl ∈ pls L)
  have h8 : cntT (L.map LFil.pl) ≤ 32 := hV.cnt
  simp only [LFil.pl, List.length_map] at h9
  omega
theorem findF_some {L : List LFil} {h : Int} (hV : VW (pls L)) (e : (findF (pls L) h 0).2.2 = 0) : ∃ i k, findF (pls L) h 0 = (i, k, 0) ∧ i < L.length ∧ k < (nth L i).op.length ∧ openE (nth (nth L i).op k).ac (nth (nth L i).op k).sh = 0 ∧ okL (nth (nth L i).op k).lk ∧ (nth (nth L i).op k).lk.length ≤ 16 := by
  obtain ⟨i, k, h1, h2, h3, _⟩ := findF_spec e
  have hi : i < L.length := by simpa using h2
  rw [nth_pls hi] at h3
  have hk : k < (nth L i).op.length := by simpa [LFil.pl] using h3
  exact ⟨i, k, by rw [h1, Nat.zero_add], hi, hk, VW.at hV hi hk⟩
def updF (L : List Fil) (i : Nat) (u : Fil → Fil) : List Fil := L.set i (u (nth L i))
def updO (L : List Fil) (i k : Nat) (u : Opn → Opn) : List Fil := updF L i fun f => { f with op := f.op.set k (u (nth f.op k)) }
theorem pls_set {L : List LFil} {i : Nat} {f : LFil} : pls (L.set i f) = (pls L).set i f.pl := by simp [pls, List.map_set]
def markT (L : List Fil) (h : Int) (d : Bool) : List Fil × Int :=
  if (findF L h 0).2.2 = 0 then if hasB (nth (nth L (findF L h 0).1).op (findF L h 0).2.1).ac 4 = true then (updF L (findF L h 0).1 fun f => { f with pd := d }, 0) else (L, 27) else (L, (findF L h 0).2.2)
def anyK (f : Fil) (q : Lock) : Bool := f.op.any fun o => o.lk.any (clsh · q)
def lockE (L : List Fil) (i k : Nat) (q : Lock) : Int :=
  if (hasB (nth (nth L i).op k).ac 1 || hasB (nth (nth L i).op k).ac 2) = true then if (nth (nth L i).op k).lk.length < 16 then if anyK (nth L i) q = true then 29 else 0 else 16 else 27
def lockT (L : List Fil) (h : Int) (q : Lock) : List Fil × Int :=
  if (findF L h 0).2.2 = 0 then if rngE q.fr q.cnt = 0 then if lockE L (findF L h 0).1 (findF L h 0).2.1 q = 0 then (updO L (findF L h 0).1 (findF L h 0).2.1 fun o => { o with lk := o.lk ++ [q] }, 0) else (L, lockE L (findF L h 0).1 (findF L h 0).2.1 q) else (L, rngE q.fr q.cnt) else (L, (findF L h 0).2.2)
theorem lockE_first {L : List Fil} {i k : Nat} {q : Lock} : firstV [.int .i64 (bif !!(hasB (nth (nth L i).op k).ac 1 || hasB (nth (nth L i).op k).ac 2) then 0 else 27), .int .i64 (bif decide (((nth (nth L i).op k).lk.length : Int) < 16) then 0 else 16), .int .i64 (bif !anyK (nth L i) q then 0 else 29)] = lockE L i k q := by
  simp only [firstV, lockE, cond_eq_ite, decide_eq_true_eq, Bool.not_not, Bool.not_eq_true']
  grind

set_option maxRecDepth 20000 in
theorem c84 (w : World) (bt : Nat) (next : Int) (a : Option Addr) (cap : Nat) (L : List LFil) (h : Int) (d : Bool) (hw : HS w (fps [.blk bt 106 2 [.int .i64 (next), .slice a (L).length cap], .files a cap (L)]) [.blk bt 106 2 [.int .i64 (next), .slice a (L).length cap], .files a cap (L)] w) (hV : VW (pls L)) : Calls Try.prog 84 #[.pointer (some ⟨bt, 0, none⟩), .int .i64 h, .bool d] w fun en w' => ∃ g : (Option Addr × Nat) × List LFil, en = .returned (.int .i64 (markT (pls L) h d).2) ∧ pls g.2 = (markT (pls L) h d).1 ∧ HS w (fps [.blk bt 106 2 [.int .i64 (next), .slice a (L).length cap], .files a cap (L)]) [.blk bt 106 2 [.int .i64 (next), .slice g.1.1 (g.2).length g.1.2], .files g.1.1 g.1.2 (g.2)] w' := by
  refine enter (args := [_, _, _]) Try.func84 Try.ntmps84 rfl rfl hw ?_
  refine s_seq ?_
  refine s_region ?_
  refine o_p (p_pure rfl) rfl ?_
  refine o_nil ?_
  refine s_seq ?_
  refine s_region ?_
  refine o_p (p_pure rfl) rfl ?_
  refine o_p (p_pure rfl) rfl ?_
  refine o_q (q_call rfl fn_100 rfl (fun w1 h1 => c100 w1 bt _ _ L h (h1.rd_blk (Mc := []) (by repeat (first | exact .here | apply Pick.there)) rfl (by simp)) (h1.ft (by repeat (first | exact .here | apply Pick.there))) (by have := (VW.lens hV).1; omega) (fun f hf => by have := (VW.lens hV).2 f hf; omega))) rfl ?_
  refine o_p (p_pure rfl) rfl ?_
  refine o_p (p_pure rfl) rfl ?_
  refine o_p (p_pure rfl) rfl ?_
  refine o_p (p_pure rfl) rfl ?_
  refine o_p (p_pure rfl) rfl ?_
  refine o_p (p_pure rfl) rfl ?_
  refine o_p (p_pure rfl) rfl ?_
  refine o_nil ?_
  refine s_seq ?_
  refine s_seq ?_
  refine s_region ?_
  refine o_p (p_pure rfl) rfl ?_
  refine o_p (p_pure rfl) rfl ?_
  refine o_nil ?_
  refine s_cond rfl (fun h1 => ?_) (fun h1 => ?_)
  · try simp only [decide_eq_true_eq, decide_eq_false_iff_not, Bool.not_eq_true', Bool.not_eq_false', Bool.and_eq_true, Bool.or_eq_true, Bool.and_eq_false_iff, Bool.or_eq_false_iff, Bool.not_true, Bool.not_false] at h1
    refine s_seq ?_
    refine s_region ?_
    refine o_p (p_pure rfl) rfl ?_
    refine o_p (p_pure rfl) rfl ?_
    refine o_nil ?_
    exact s_retv (rs := [.tmp 6]) rfl (.tmp rfl (.nil)) (fun w' h' => ⟨((a, cap), L), by rw [markT, if_neg h1]; rfl, by rw [markT, if_neg h1], h'.ent (by repeat (first | exact .nil | refine .cons (by repeat (first | exact .here | apply Pick.there)) ?_))⟩)
  · try simp only [decide_eq_true_eq, decide_eq_false_iff_not, Bool.not_eq_true', Bool.not_eq_false', Bool.and_eq_true, Bool.or_eq_true, Bool.and_eq_false_iff, Bool.or_eq_false_iff, Bool.not_true, Bool.not_false] at h1
    obtain ⟨i, k, hfe, hi, hk, hV3⟩ := findF_some hV h1
    rw [hfe]
    obtain ⟨ga, rfl, hcap, hcm⟩ := files_addr (by omega) hw (.there .here)
    obtain ⟨go, hoa, hoc, hom⟩ := file_addr hi (by omega) hw (.there .here)
    dsimp only
    refine s_skip ?_
    refine s_seq ?_
    refine s_seq ?_
    refine s_region ?_
    refine o_p (p_pure rfl) rfl ?_
    refine o_p (p_pure rfl) rfl ?_
    refine o_p (p_fieldAddr rfl rfl fd_106_0 sz_26 rfl) rfl ?_
    refine o_p (p_fieldAddr rfl rfl fd_26_1 sz_24 rfl) rfl ?_
    first | refine o_q (q_load rfl rfl sz_24 (by repeat (first | exact .here | apply Pick.there)) rfl) rfl ?_ | refine o_q (q_load_at rfl rfl sz_24 (fun w h => (h.rd_blk (Mc := []) (by repeat (first | exact .here | apply Pick.there)) rfl (by simp)))) rfl ?_ | refine o_q (q_load_at rfl rfl sz_24 (fun w h => (HS.ft (a := some ⟨ga, 0, none⟩) (cap := cap) (l := L) h (by repeat (first | exact .here | apply Pick.there))).1.rdj 3 hi rfl)) rfl ?_ | refine o_q (q_load_at rfl rfl sz_24 (fun w h => by have h9 := ((HS.ft (a := some ⟨ga, 0, none⟩) (cap := cap) (l := L) h (by repeat (first | exact .here | apply Pick.there))).at hi).1.rdj 1 hk rfl; rw [hoa] at h9; exact h9)) rfl ?_ | refine o_q (q_load_at rfl rfl sz_24 (fun w h => by have h9 := ((HS.ft (a := some ⟨ga, 0, none⟩) (cap := cap) (l := L) h (by repeat (first | exact .here | apply Pick.there))).at hi).1.rdj 4 hk rfl; rw [hoa] at h9; exact h9)) rfl ?_
    refine o_p (p_pure rfl) rfl ?_
    first | refine o_p (p_indexAddr rfl rfl rfl sl_24 (i) (by omega) (by omega) rfl) rfl ?_ | refine o_p (p_indexAddr rfl rfl rfl sl_24 (i) (by omega) (by omega) hoa) rfl ?_
    refine o_p (p_fieldAddr rfl rfl fd_77_2 sz_75 rfl) rfl ?_
    first | refine o_q (q_load rfl rfl sz_75 (by repeat (first | exact .here | apply Pick.there)) rfl) rfl ?_ | refine o_q (q_load_at rfl rfl sz_75 (fun w h => (h.rd_blk (Mc := []) (by repeat (first | exact .here | apply Pick.there)) rfl (by simp)))) rfl ?_ | refine o_q (q_load_at rfl rfl sz_75 (fun w h => (HS.ft (a := some ⟨ga, 0, none⟩) (cap := cap) (l := L) h (by repeat (first | exact .here | apply Pick.there))).1.rdj 3 hi rfl)) rfl ?_ | refine o_q (q_load_at rfl rfl sz_75 (fun w h => by have h9 := ((HS.ft (a := some ⟨ga, 0, none⟩) (cap := cap) (l := L) h (by repeat (first | exact .here | apply Pick.there))).at hi).1.rdj 1 hk rfl; rw [hoa] at h9; exact h9)) rfl ?_ | refine o_q (q_load_at rfl rfl sz_75 (fun w h => by have h9 := ((HS.ft (a := some ⟨ga, 0, none⟩) (cap := cap) (l := L) h (by repeat (first | exact .here | apply Pick.there))).at hi).1.rdj 4 hk rfl; rw [hoa] at h9; exact h9)) rfl ?_
    refine o_p (p_pure rfl) rfl ?_
    first | refine o_p (p_indexAddr rfl rfl rfl sl_75 (k) (by omega) (by omega) rfl) rfl ?_ | refine o_p (p_indexAddr rfl rfl rfl sl_75 (k) (by omega) (by omega) hoa) rfl ?_
    refine o_p (p_fieldAddr rfl rfl fd_48_1 sz_3 rfl) rfl ?_
    first | refine o_q (q_load rfl rfl sz_3 (by repeat (first | exact .here | apply Pick.there)) rfl) rfl ?_ | refine o_q (q_load_at rfl rfl sz_3 (fun w h => (h.rd_blk (Mc := []) (by repeat (first | exact .here | apply Pick.there)) rfl (by simp)))) rfl ?_ | refine o_q (q_load_at rfl rfl sz_3 (fun w h => (HS.ft (a := some ⟨ga, 0, none⟩) (cap := cap) (l := L) h (by repeat (first | exact .here | apply Pick.there))).1.rdj 3 hi rfl)) rfl ?_ | refine o_q (q_load_at rfl rfl sz_3 (fun w h => by have h9 := ((HS.ft (a := some ⟨ga, 0, none⟩) (cap := cap) (l := L) h (by repeat (first | exact .here | apply Pick.there))).at hi).1.rdj 1 hk rfl; rw [hoa] at h9; exact h9)) rfl ?_ | refine o_q (q_load_at rfl rfl sz_3 (fun w h => by have h9 := ((HS.ft (a := some ⟨ga, 0, none⟩) (cap := cap) (l := L) h (by repeat (first | exact .here | apply Pick.there))).at hi).1.rdj 4 hk rfl; rw [hoa] at h9; exact h9)) rfl ?_
    refine o_p (p_pure rfl) rfl ?_
    refine o_p (p_pure rfl) rfl ?_
    refine o_nil ?_
    refine s_cond rfl (fun h2 => ?_) (fun h2 => ?_)
    · try simp only [decide_eq_true_eq, decide_eq_false_iff_not, Bool.not_eq_true', Bool.not_eq_false', Bool.and_eq_true, Bool.or_eq_true, Bool.and_eq_false_iff, Bool.or_eq_false_iff, Bool.not_true, Bool.not_false] at h2
      have hno : hasB (nth (nth L i).op k).ac 4 = false := by have hq := h2; have h9 := (and_8 (x := (nth (nth L i).op k).ac) (by have := openE_r hV3.1; omega)).1; rw [hq] at h9; simpa using h9.symm
      refine s_seq ?_
      refine s_weaken (L' := [(0, _), (2, _), (6, _), (7, _)]) (by repeat (first | exact sl_n | refine sl_c rfl ?_)) (fun _ h => h) ?_
      refine s_region ?_
      refine o_p (p_pure rfl) rfl ?_
      refine o_nil ?_
      exact s_retv (rs := [.tmp 6]) rfl (.tmp rfl (.nil)) (fun w' h' => ⟨((some ⟨ga, 0, none⟩, cap), L), by rw [markT, hfe]; simp only [if_true]; rw [nth_pls hi, LFil.pl, nth_plo hk, if_neg (by simp only [LOpn.pl]; rw [hno]; decide)]; rfl, by rw [markT, hfe]; simp only [if_true]; rw [nth_pls hi, LFil.pl, nth_plo hk, if_neg (by simp only [LOpn.pl]; rw [hno]; decide)], h'.ent (by repeat (first | exact .nil | refine .cons (by repeat (first | exact .here | apply Pick.there)) ?_))⟩)
    · try simp only [decide_eq_true_eq, decide_eq_false_iff_not, Bool.not_eq_true', Bool.not_eq_false', Bool.and_eq_true, Bool.or_eq_true, Bool.and_eq_false_iff, Bool.or_eq_false_iff, Bool.not_true, Bool.not_false] at h2
      have hyes : hasB (nth (nth L i).op k).ac 4 = true := by have hq := h2; have h9 := (and_8 (x := (nth (nth L i).op k).ac) (by have := openE_r hV3.1; omega)).1; rw [decide_eq_false hq] at h9; simpa using h9.symm
      refine s_class (fun w h => HS.file_at hi h (by repeat (first | exact .here | apply Pick.there))) ?_
      refine s_skip ?_
      refine s_seq ?_
      refine s_weaken (L' := [(0, _), (2, _), (6, _), (7, _)]) (by repeat (first | exact sl_n | refine sl_c rfl ?_)) (fun _ h => h) ?_
      refine s_region ?_
      refine o_p (p_pure rfl) rfl ?_
      refine o_p (p_pure rfl) rfl ?_
      refine o_p (p_fieldAddr rfl rfl fd_106_0 sz_26 rfl) rfl ?_
      refine o_p (p_fieldAddr rfl rfl fd_26_1 sz_24 rfl) rfl ?_
      first | refine o_q (q_load rfl rfl sz_24 (by repeat (first | exact .here | apply Pick.there)) rfl) rfl ?_ | refine o_q (q_load_at rfl rfl sz_24 (fun w h => (h.rd_blk (Mc := []) (by repeat (first | exact .here | apply Pick.there)) rfl (by simp)))) rfl ?_ | refine o_q (q_load_at rfl rfl sz_24 (fun w h => (HS.ft (a := some ⟨ga, 0, none⟩) (cap := cap) (l := L) h (by repeat (first | exact .here | apply Pick.there))).1.rdj 3 hi rfl)) rfl ?_ | refine o_q (q_load_at rfl rfl sz_24 (fun w h => by have h9 := ((HS.ft (a := some ⟨ga, 0, none⟩) (cap := cap) (l := L) h (by repeat (first | exact .here | apply Pick.there))).at hi).1.rdj 1 hk rfl; rw [hoa] at h9; exact h9)) rfl ?_ | refine o_q (q_load_at rfl rfl sz_24 (fun w h => by have h9 := ((HS.ft (a := some ⟨ga, 0, none⟩) (cap := cap) (l := L) h (by repeat (first | exact .here | apply Pick.there))).at hi).1.rdj 4 hk rfl; rw [hoa] at h9; exact h9)) rfl ?_
      refine o_p (p_pure rfl) rfl ?_
      refine o_p (p_pure rfl) rfl ?_
      first | refine o_p (p_indexAddr rfl rfl rfl sl_24 (i) (by omega) (by omega) rfl) rfl ?_ | refine o_p (p_indexAddr rfl rfl rfl sl_24 (i) (by omega) (by omega) hoa) rfl ?_
      refine o_slot (show _ = Value.pointer (some ⟨ga, i * 4, none⟩) from by rw [Nat.zero_add]) ?_
      refine o_p (p_fieldAddr rfl rfl fd_77_1 sz_4 rfl) rfl ?_
      refine o_h0 (h_store rfl rfl rfl sz_4 rfl (by repeat (first | exact .here | apply Put.there)) (by rw [flat_length fv4]; omega) rfl) (fun _ _ => ?_)
      refine o_nil ?_
      refine s_seq ?_
      refine s_region ?_
      refine o_p (p_pure rfl) rfl ?_
      refine o_nil ?_
      exact s_retv (rs := [.tmp 6]) rfl (.tmp rfl (.nil)) (fun w' h' => ⟨((some ⟨ga, 0, none⟩, cap), L.set i { nth L i with pd := d }), by rw [markT, hfe]; simp only [if_true]; rw [nth_pls hi, LFil.pl, nth_plo hk, if_pos (by simp only [LOpn.pl]; exact hyes)]; rfl, by rw [markT, hfe]; simp only [if_true]; rw [nth_pls hi, LFil.pl, nth_plo hk, if_pos (by simp only [LOpn.pl]; exact hyes), pls_set, updF, nth_pls hi]; rfl, by have h2 := HS.file_put (f := { nth L i with pd := d }) hi (h'.ent (Bs := [.blk ga 77 (cap * 4) _, .opens (nth L i).oa (nth L i).oc (nth L i).op, .star ((others L i).map subF), .blk bt 106 2 [.int .i64 next, .slice (some ⟨ga, 0, none⟩) L.length cap]]) (by repeat (first | exact .nil | refine .cons (by repeat (first | exact .here | apply Pick.there)) ?_))) (flat_set fv4 L i 2 [.bool d] (nth L i) _ (nth_get hi) rfl (by simp)) hcap hcm; rw [List.length_set]; exact h2.ent (by repeat (first | exact .nil | refine .cons (by repeat (first | exact .here | apply Pick.there)) ?_))⟩)

end Go.Proofs

namespace Go.Proofs
open Go Go.RowKit Gx
set_option linter.unusedVariables false
set_option linter.unusedSimpArgs false
attribute [local irreducible] Go.Calls Gx.S Gx.O Gx.D Gx.OpP Gx.OpQ Gx.OpH



theorem any_locks (l : List LOpn) (q : Lock) : (l.any fun o => o.lk.any (clsh · q)) = ((plo l).any fun o => o.lk.any (clsh · q)) := by
  unfold plo
  rw [List.any_map]
  rfl
theorem lockE_loc {L : List LFil} {i k : Nat} {q : Lock} (hi : i < L.length) (hk : k < (nth L i).op.length) : firstV [.int .i64 (bif !!(hasB (nth (nth L i).op k).ac 1 || hasB (nth (nth L i).op k).ac 2) then 0 else 27), .int .i64 (bif decide (((nth (nth L i).op k).lk.length : Int) < 16) then 0 else 16), .int .i64 (bif !((nth L i).op.any fun o => o.lk.any (clsh · q)) then 0 else 29)] = lockE (pls L) i k q := by
  rw [← lockE_first, nth_pls hi, LFil.pl, nth_plo hk, anyK, any_locks]
  rfl
theorem lockE_pos {L : List Fil} {i k : Nat} {q : Lock} (h : lockE L i k q = 0) : (nth (nth L i).op k).lk.length < 16 ∧ anyK (nth L i) q = false := by
  unfold lockE at h
  grind
theorem upd_lk {L : List LFil} {i k : Nat} {u : Opn → Opn} {o : LOpn} (hi : i < L.length) (hk : k < (nth L i).op.length) (ho : o.pl = u (nth (nth L i).op k).pl) : pls (L.set i { nth L i with op := (nth L i).op.set k o }) = updO (pls L) i k u := by
  rw [pls_set, updO, updF, nth_pls hi]
  congr 1
  have e : (((nth L i).op.set k o).map LOpn.pl) = ((nth L i).op.map LOpn.pl).set k (u (nth ((nth L i).op.map LOpn.pl) k)) := by
    rw [List.map_set, ho]
    congr 2
    exact (nth_plo hk).symm
  simp only [LFil.pl]
  rw [e]
theorem lockT_e {L : List Fil} {h : Int} {q : Lock} (hn : ¬ firstV [.int .i64 (findF L h 0).2.2, .int .i64 (rngE q.fr q.cnt)] = 0) : lockT L h q = (L, firstV [.int .i64 (findF L h 0).2.2, .int .i64 (rngE q.fr q.cnt)]) := by
  have e : firstV [.int .i64 (findF L h 0).2.2, .int .i64 (rngE q.fr q.cnt)] = if (findF L h 0).2.2 = 0 then rngE q.fr q.cnt else (findF L h 0).2.2 := by
    simp only [firstV]
    grind
  rw [e] at hn ⊢
  unfold lockT
  grind
theorem firstV2 {a b : Int} : firstV [.int .i64 a, .int .i64 b] = if a = 0 then b else a := by
  simp only [firstV]
  grind

set_option maxRecDepth 20000 in
theorem c102 (w : World) (b : Nat) (h k : Lock) (hr : ∀ j v, k.vals[j]? = some v → Rd w [] b (0 + j) v) (ha : rngE h.fr h.cnt = 0) (hb : rngE k.fr k.cnt = 0) : Calls Try.prog 102 #[.agg #[.int .i64 h.fr, .int .i64 h.cnt, .bool h.ex], .pointer (some ⟨b, 0, none⟩)] w fun en w' => en = .returned (.bool (clsh h k)) ∧ Below w.heap.size w w' := by
  refine enter (args := [_, _]) Try.func102 Try.ntmps102 rfl rfl (HS.refl w []) ?_
  refine s_seq ?_
  refine s_region ?_
  refine o_h (h_box rfl rfl) rfl (fun b1 _ => ?_)
  refine o_p (p_pure rfl) rfl ?_
  refine o_nil ?_
  refine s_seq ?_
  refine s_region ?_
  first | refine o_q (q_loadn rfl rfl sz_62 (by repeat (first | exact .here | apply Pick.there)) rfl) rfl ?_ | refine o_q (q_load_oldn _ rfl rfl sz_62 rfl hr) rfl ?_
  first | refine o_q (q_loadn rfl rfl sz_62 (by repeat (first | exact .here | apply Pick.there)) rfl) rfl ?_ | refine o_q (q_load_oldn _ rfl rfl sz_62 rfl hr) rfl ?_
  refine o_q (q_call rfl fn_103 rfl (fun w1 h1 => c103 w1 h k ha hb)) rfl ?_
  refine o_p (p_pure rfl) rfl ?_
  refine o_nil ?_
  exact s_retv (rs := [.tmp 3]) rfl (.tmp rfl (.nil)) (fun w' h' => ⟨rfl, h'.below⟩)

set_option maxRecDepth 20000 in
theorem c101 (w : World) (b : Nat) (y : LOpn) (k : Lock) (hr : ∀ j v, k.vals[j]? = some v → Rd w [] b (0 + j) v) (hy : Kt w [] y.la y.lk) (ha : okL y.lk) (hm : y.lk.length ≤ 1000) (hb : rngE k.fr k.cnt = 0) : Calls Try.prog 101 #[.agg #[.int .i64 y.hd, .int .i64 y.ac, .int .i64 y.sh, .bool y.dl, .slice y.la y.lk.length y.lc], .pointer (some ⟨b, 0, none⟩)] w fun en w' => en = .returned (.bool (y.lk.any (clsh · k))) ∧ Below w.heap.size w w' := by
  refine enter (args := [_, _]) Try.func101 Try.ntmps101 rfl rfl (HS.refl w []) ?_
  refine s_seq ?_
  refine s_region ?_
  refine o_h (h_box rfl rfl) rfl (fun b1 _ => ?_)
  refine o_p (p_pure rfl) rfl ?_
  refine o_nil ?_
  refine s_seq ?_
  refine s_region ?_
  refine o_p (p_fieldAddr rfl rfl fd_48_4 sz_46 rfl) rfl ?_
  refine o_q (q_load rfl rfl sz_46 (by repeat (first | exact .here | apply Pick.there)) rfl) rfl ?_
  refine o_p (p_pure rfl) rfl ?_
  refine o_q (q_call rfl fn_87 rfl (fun w1 h1 => by have h9 := c87 w1 y.la y.lc y.lk 102 #[.pointer (some ⟨b, 0, none⟩)] (y.lk.map (clsh · k)) (hy.later h1) (by omega) (by kernel_rfl) (by simp) (fun j w2 hj h2 => by rw [map_getD_nthB hj]; exact c102 w2 b (nth y.lk j) k (fun q v hv => ((hr q v hv).next h1).next h2) (okL_nth ha hj) hb); rw [any_map_id] at h9; exact h9)) rfl ?_
  refine o_p (p_pure rfl) rfl ?_
  refine o_nil ?_
  exact s_retv (rs := [.tmp 3]) rfl (.tmp rfl (.nil)) (fun w' h' => ⟨rfl, h'.below⟩)

set_option maxRecDepth 20000 in
theorem c67 (w : World) (bt : Nat) (next : Int) (a : Option Addr) (cap : Nat) (L : List LFil) (h : Int) (q : Lock) (hw : HS w (fps [.blk bt 106 2 [.int .i64 (next), .slice a (L).length cap], .files a cap (L)]) [.blk bt 106 2 [.int .i64 (next), .slice a (L).length cap], .files a cap (L)] w) (hV : VW (pls L)) : Calls Try.prog 67 #[.pointer (some ⟨bt, 0, none⟩), .int .i64 h, .agg #[.int .i64 q.fr, .int .i64 q.cnt, .bool q.ex]] w fun en w' => ∃ g : (Option Addr × Nat) × List LFil, en = .returned (.int .i64 (lockT (pls L) h q).2) ∧ pls g.2 = (lockT (pls L) h q).1 ∧ HS w (fps [.blk bt 106 2 [.int .i64 (next), .slice a (L).length cap], .files a cap (L)]) [.blk bt 106 2 [.int .i64 (next), .slice g.1.1 (g.2).length g.1.2], .files g.1.1 g.1.2 (g.2)] w' := by
  refine enter (args := [_, _, _]) Try.func67 Try.ntmps67 rfl rfl hw ?_
  refine s_seq ?_
  refine s_region ?_
  refine o_h (h_box rfl rfl) rfl (fun b1 _ => ?_)
  refine o_p (p_pure rfl) rfl ?_
  refine o_nil ?_
  refine s_seq ?_
  refine s_region ?_
  refine o_p (p_pure rfl) rfl ?_
  refine o_p (p_pure rfl) rfl ?_
  refine o_q (q_call rfl fn_100 rfl (fun w1 h1 => c100 w1 bt _ _ L h (h1.rd_blk (Mc := []) (by repeat (first | exact .here | apply Pick.there)) rfl (by simp)) (h1.ft (by repeat (first | exact .here | apply Pick.there))) (by have := (VW.lens hV).1; omega) (fun f hf => by have := (VW.lens hV).2 f hf; omega))) rfl ?_
  refine o_p (p_pure rfl) rfl ?_
  refine o_p (p_pure rfl) rfl ?_
  refine o_p (p_pure rfl) rfl ?_
  refine o_p (p_pure rfl) rfl ?_
  refine o_p (p_pure rfl) rfl ?_
  refine o_p (p_pure rfl) rfl ?_
  refine o_p (p_pure rfl) rfl ?_
  refine o_nil ?_
  refine s_seq ?_
  refine s_seq ?_
  refine s_region ?_
  refine o_p (p_pure rfl) rfl ?_
  refine o_p (p_fieldAddr rfl rfl fd_62_0 sz_3 rfl) rfl ?_
  first | refine o_q (q_load rfl rfl sz_3 (by repeat (first | exact .here | apply Pick.there)) rfl) rfl ?_ | refine o_q (q_load_at rfl rfl sz_3 (fun w h => (h.rd_blk (Mc := []) (by repeat (first | exact .here | apply Pick.there)) rfl (by simp)))) rfl ?_ | refine o_q (q_load_at rfl rfl sz_3 (fun w h => (HS.ft (a := some ⟨ga, 0, none⟩) (cap := cap) (l := L) h (by repeat (first | exact .here | apply Pick.there))).1.rdj 3 hi rfl)) rfl ?_ | refine o_q (q_load_at rfl rfl sz_3 (fun w h => by have h9 := ((HS.ft (a := some ⟨ga, 0, none⟩) (cap := cap) (l := L) h (by repeat (first | exact .here | apply Pick.there))).at hi).1.rdj 1 hk rfl; rw [hoa] at h9; exact h9)) rfl ?_ | refine o_q (q_load_at rfl rfl sz_3 (fun w h => by have h9 := ((HS.ft (a := some ⟨ga, 0, none⟩) (cap := cap) (l := L) h (by repeat (first | exact .here | apply Pick.there))).at hi).1.rdj 4 hk rfl; rw [hoa] at h9; exact h9)) rfl ?_ | refine o_q (q_load_at rfl rfl sz_3 (fun w h => (h.rd_blk (Mc := []) (b := go) (by repeat (first | exact .here | apply Pick.there)) (by rw [flat_get ov5 _ k 4 _ (nth_get hk) (by decide)]; rfl) (by simp)))) rfl ?_
  refine o_p (p_fieldAddr rfl rfl fd_62_1 sz_3 rfl) rfl ?_
  first | refine o_q (q_load rfl rfl sz_3 (by repeat (first | exact .here | apply Pick.there)) rfl) rfl ?_ | refine o_q (q_load_at rfl rfl sz_3 (fun w h => (h.rd_blk (Mc := []) (by repeat (first | exact .here | apply Pick.there)) rfl (by simp)))) rfl ?_ | refine o_q (q_load_at rfl rfl sz_3 (fun w h => (HS.ft (a := some ⟨ga, 0, none⟩) (cap := cap) (l := L) h (by repeat (first | exact .here | apply Pick.there))).1.rdj 3 hi rfl)) rfl ?_ | refine o_q (q_load_at rfl rfl sz_3 (fun w h => by have h9 := ((HS.ft (a := some ⟨ga, 0, none⟩) (cap := cap) (l := L) h (by repeat (first | exact .here | apply Pick.there))).at hi).1.rdj 1 hk rfl; rw [hoa] at h9; exact h9)) rfl ?_ | refine o_q (q_load_at rfl rfl sz_3 (fun w h => by have h9 := ((HS.ft (a := some ⟨ga, 0, none⟩) (cap := cap) (l := L) h (by repeat (first | exact .here | apply Pick.there))).at hi).1.rdj 4 hk rfl; rw [hoa] at h9; exact h9)) rfl ?_ | refine o_q (q_load_at rfl rfl sz_3 (fun w h => (h.rd_blk (Mc := []) (b := go) (by repeat (first | exact .here | apply Pick.there)) (by rw [flat_get ov5 _ k 4 _ (nth_get hk) (by decide)]; rfl) (by simp)))) rfl ?_
  refine o_q (q_call rfl fn_94 rfl (fun w1 h1 => c94 w1 _ _)) rfl ?_
  refine o_h (h_buildSlice (cs := [_, _]) rfl rfl sl_146 zr_28 rfl rfl rfl) rfl (fun b2 _ => ?_)
  refine o_q (q_call rfl fn_52 rfl (fun w1 h1 => f52 h1 (by repeat (first | exact .here | apply Pick.there)) (by rfl) (by rfl) (by decide))) rfl ?_
  refine o_p (p_pure rfl) rfl ?_
  refine o_nil ?_
  refine s_seq ?_
  refine s_region ?_
  refine o_p (p_pure rfl) rfl ?_
  refine o_p (p_pure rfl) rfl ?_
  refine o_nil ?_
  refine s_cond rfl (fun h3 => ?_) (fun h3 => ?_)
  · try simp only [decide_eq_true_eq, decide_eq_false_iff_not, Bool.not_eq_true', Bool.not_eq_false', Bool.and_eq_true, Bool.or_eq_true, Bool.and_eq_false_iff, Bool.or_eq_false_iff, Bool.not_true, Bool.not_false] at h3
    have hq0 := h3
    rw [firstV2] at hq0
    refine s_seq ?_
    refine s_region ?_
    refine o_p (p_pure rfl) rfl ?_
    refine o_p (p_pure rfl) rfl ?_
    refine o_nil ?_
    exact s_retv (rs := [.tmp 6]) rfl (.tmp rfl (.nil)) (fun w' h' => ⟨((a, cap), L), by rw [lockT_e h3]; rfl, by rw [lockT_e h3], h'.ent (by repeat (first | exact .nil | refine .cons (by repeat (first | exact .here | apply Pick.there)) ?_))⟩)
  · try simp only [decide_eq_true_eq, decide_eq_false_iff_not, Bool.not_eq_true', Bool.not_eq_false', Bool.and_eq_true, Bool.or_eq_true, Bool.and_eq_false_iff, Bool.or_eq_false_iff, Bool.not_true, Bool.not_false] at h3
    have hz : (findF (pls L) h 0).2.2 = 0 ∧ rngE q.fr q.cnt = 0 := by have hq := h3; rw [firstV2] at hq; split at hq <;> first | exact ⟨by assumption, hq⟩ | contradiction
    obtain ⟨i, k, hfe, hi, hk, hV3⟩ := findF_some hV hz.1
    rw [hfe]
    obtain ⟨ga, rfl, hcap, hcm⟩ := files_addr (by omega) hw (.there .here)
    obtain ⟨go, hoa, hoc, hom⟩ := file_addr hi (by omega) hw (.there .here)
    dsimp only
    refine s_skip ?_
    refine s_seq ?_
    refine s_region ?_
    refine o_p (p_pure rfl) rfl ?_
    refine o_p (p_pure rfl) rfl ?_
    refine o_p (p_fieldAddr rfl rfl fd_106_0 sz_26 rfl) rfl ?_
    refine o_p (p_fieldAddr rfl rfl fd_26_1 sz_24 rfl) rfl ?_
    first | refine o_q (q_load rfl rfl sz_24 (by repeat (first | exact .here | apply Pick.there)) rfl) rfl ?_ | refine o_q (q_load_at rfl rfl sz_24 (fun w h => (h.rd_blk (Mc := []) (by repeat (first | exact .here | apply Pick.there)) rfl (by simp)))) rfl ?_ | refine o_q (q_load_at rfl rfl sz_24 (fun w h => (HS.ft (a := some ⟨ga, 0, none⟩) (cap := cap) (l := L) h (by repeat (first | exact .here | apply Pick.there))).1.rdj 3 hi rfl)) rfl ?_ | refine o_q (q_load_at rfl rfl sz_24 (fun w h => by have h9 := ((HS.ft (a := some ⟨ga, 0, none⟩) (cap := cap) (l := L) h (by repeat (first | exact .here | apply Pick.there))).at hi).1.rdj 1 hk rfl; rw [hoa] at h9; exact h9)) rfl ?_ | refine o_q (q_load_at rfl rfl sz_24 (fun w h => by have h9 := ((HS.ft (a := some ⟨ga, 0, none⟩) (cap := cap) (l := L) h (by repeat (first | exact .here | apply Pick.there))).at hi).1.rdj 4 hk rfl; rw [hoa] at h9; exact h9)) rfl ?_ | refine o_q (q_load_at rfl rfl sz_24 (fun w h => (h.rd_blk (Mc := []) (b := go) (by repeat (first | exact .here | apply Pick.there)) (by rw [flat_get ov5 _ k 4 _ (nth_get hk) (by decide)]; rfl) (by simp)))) rfl ?_
    refine o_p (p_pure rfl) rfl ?_
    first | refine o_p (p_indexAddr rfl rfl rfl sl_24 (i) (by omega) (by omega) rfl) rfl ?_ | refine o_p (p_indexAddr rfl rfl rfl sl_24 (i) (by omega) (by omega) hoa) rfl ?_
    refine o_q (q_load_atn _ rfl rfl sz_77 rfl (fun w h => Rw.rd (HS.ft (a := some ⟨ga, 0, none⟩) (cap := cap) (l := L) h (by repeat (first | exact .here | apply Pick.there))).1 hi)) rfl ?_
    refine o_h (h_alloc rfl zr_77) rfl (fun b4 _ => ?_)
    refine o_h0 (h_store rfl rfl rfl sz_77 rfl (by repeat (first | exact .here | apply Put.there)) (by simp only [setMany_length, List.length_set, List.length_cons, List.length_nil, List.length_map]; omega) rfl) (fun _ _ => ?_)
    refine o_nil ?_
    refine s_seq ?_
    refine s_weaken (L' := [(5, _), (6, _), (8, _), (10, _)]) (by repeat (first | exact sl_n | refine sl_c rfl ?_)) (fun _ h => h) ?_
    refine s_region ?_
    refine o_p (p_fieldAddr rfl rfl fd_77_2 sz_75 rfl) rfl ?_
    first | refine o_q (q_load rfl rfl sz_75 (by repeat (first | exact .here | apply Pick.there)) rfl) rfl ?_ | refine o_q (q_load_at rfl rfl sz_75 (fun w h => (h.rd_blk (Mc := []) (by repeat (first | exact .here | apply Pick.there)) rfl (by simp)))) rfl ?_ | refine o_q (q_load_at rfl rfl sz_75 (fun w h => (HS.ft (a := some ⟨ga, 0, none⟩) (cap := cap) (l := L) h (by repeat (first | exact .here | apply Pick.there))).1.rdj 3 hi rfl)) rfl ?_ | refine o_q (q_load_at rfl rfl sz_75 (fun w h => by have h9 := ((HS.ft (a := some ⟨ga, 0, none⟩) (cap := cap) (l := L) h (by repeat (first | exact .here | apply Pick.there))).at hi).1.rdj 1 hk rfl; rw [hoa] at h9; exact h9)) rfl ?_ | refine o_q (q_load_at rfl rfl sz_75 (fun w h => by have h9 := ((HS.ft (a := some ⟨ga, 0, none⟩) (cap := cap) (l := L) h (by repeat (first | exact .here | apply Pick.there))).at hi).1.rdj 4 hk rfl; rw [hoa] at h9; exact h9)) rfl ?_ | refine o_q (q_load_at rfl rfl sz_75 (fun w h => (h.rd_blk (Mc := []) (b := go) (by repeat (first | exact .here | apply Pick.there)) (by rw [flat_get ov5 _ k 4 _ (nth_get hk) (by decide)]; rfl) (by simp)))) rfl ?_
    refine o_p (p_pure rfl) rfl ?_
    first | refine o_p (p_indexAddr rfl rfl rfl sl_75 (k) (by omega) (by omega) rfl) rfl ?_ | refine o_p (p_indexAddr rfl rfl rfl sl_75 (k) (by omega) (by omega) hoa) rfl ?_
    refine o_p (p_pure rfl) rfl ?_
    refine o_nil ?_
    refine s_seq ?_
    refine s_region ?_
    refine o_p (p_fieldAddr rfl rfl fd_77_2 sz_75 rfl) rfl ?_
    first | refine o_q (q_load rfl rfl sz_75 (by repeat (first | exact .here | apply Pick.there)) rfl) rfl ?_ | refine o_q (q_load_at rfl rfl sz_75 (fun w h => (h.rd_blk (Mc := []) (by repeat (first | exact .here | apply Pick.there)) rfl (by simp)))) rfl ?_ | refine o_q (q_load_at rfl rfl sz_75 (fun w h => (HS.ft (a := some ⟨ga, 0, none⟩) (cap := cap) (l := L) h (by repeat (first | exact .here | apply Pick.there))).1.rdj 3 hi rfl)) rfl ?_ | refine o_q (q_load_at rfl rfl sz_75 (fun w h => by have h9 := ((HS.ft (a := some ⟨ga, 0, none⟩) (cap := cap) (l := L) h (by repeat (first | exact .here | apply Pick.there))).at hi).1.rdj 1 hk rfl; rw [hoa] at h9; exact h9)) rfl ?_ | refine o_q (q_load_at rfl rfl sz_75 (fun w h => by have h9 := ((HS.ft (a := some ⟨ga, 0, none⟩) (cap := cap) (l := L) h (by repeat (first | exact .here | apply Pick.there))).at hi).1.rdj 4 hk rfl; rw [hoa] at h9; exact h9)) rfl ?_ | refine o_q (q_load_at rfl rfl sz_75 (fun w h => (h.rd_blk (Mc := []) (b := go) (by repeat (first | exact .here | apply Pick.there)) (by rw [flat_get ov5 _ k 4 _ (nth_get hk) (by decide)]; rfl) (by simp)))) rfl ?_
    refine o_p (p_pure rfl) rfl ?_
    refine o_q (q_call rfl fn_95 rfl (fun w1 h1 => by have hot := (HS.ft (a := some ⟨ga, 0, none⟩) (cap := cap) (l := L) h1 (by repeat (first | exact .here | apply Pick.there))).at hi; have h9 := c95 w1 _ (nth L i).oc (nth L i).op 101 #[.pointer (some ⟨b1, 0, none⟩)] ((nth L i).op.map fun o => o.lk.any (clsh · q)) hot.1 (by have := (VW.lens hV).2 _ (mem_nth hi); omega) (by kernel_rfl) (by simp) (fun j w2 hj h2 => by rw [map_getD_nthB hj]; exact c101 w2 b1 _ q (fun p v hv => by rw [Nat.zero_add]; exact (h1.rd_blk (Mc := []) (by repeat (first | exact .here | apply Pick.there)) hv (by simp)).next h2) ((hot.at hj).later h2) (VW.at hV hi hj).2.1 (by have := (VW.at hV hi hj).2.2; omega) hz.2); rw [any_map_id] at h9; exact h9)) rfl ?_
    refine o_p (p_pure rfl) rfl ?_
    refine o_nil ?_
    refine s_seq ?_
    refine s_seq ?_
    refine s_draw [] mixed ?_
    refine d_p 0 rfl (p_pure rfl) (by kernel_rfl) rfl rfl ?_
    refine d_p 1 rfl (p_pure rfl) (by kernel_rfl) rfl rfl ?_
    refine d_p 2 rfl (p_fieldAddr rfl rfl fd_48_1 sz_3 rfl) (by kernel_rfl) rfl rfl ?_
    first | refine d_q 3 [] rfl (q_load rfl rfl sz_3 (by repeat (first | exact .here | apply Pick.there)) rfl) (by kernel_rfl) (by kernel_rfl) (by kernel_rfl) rfl ?_ | refine d_q 3 [] rfl (q_load_at rfl rfl sz_3 (fun w h => (h.rd_blk (Mc := []) (by repeat (first | exact .here | apply Pick.there)) rfl (by simp)))) (by kernel_rfl) (by kernel_rfl) (by kernel_rfl) rfl ?_ | refine d_q 3 [] rfl (q_load_at rfl rfl sz_3 (fun w h => (HS.ft (a := some ⟨ga, 0, none⟩) (cap := cap) (l := L) h (by repeat (first | exact .here | apply Pick.there))).1.rdj 3 hi rfl)) (by kernel_rfl) (by kernel_rfl) (by kernel_rfl) rfl ?_ | refine d_q 3 [] rfl (q_load_at rfl rfl sz_3 (fun w h => by have h9 := ((HS.ft (a := some ⟨ga, 0, none⟩) (cap := cap) (l := L) h (by repeat (first | exact .here | apply Pick.there))).at hi).1.rdj 1 hk rfl; rw [hoa] at h9; exact h9)) (by kernel_rfl) (by kernel_rfl) (by kernel_rfl) rfl ?_ | refine d_q 3 [] rfl (q_load_at rfl rfl sz_3 (fun w h => by have h9 := ((HS.ft (a := some ⟨ga, 0, none⟩) (cap := cap) (l := L) h (by repeat (first | exact .here | apply Pick.there))).at hi).1.rdj 4 hk rfl; rw [hoa] at h9; exact h9)) (by kernel_rfl) (by kernel_rfl) (by kernel_rfl) rfl ?_ | refine d_q 3 [] rfl (q_load_at rfl rfl sz_3 (fun w h => (h.rd_blk (Mc := []) (b := go) (by repeat (first | exact .here | apply Pick.there)) (by rw [flat_get ov5 _ k 4 _ (nth_get hk) (by decide)]; rfl) (by simp)))) (by kernel_rfl) (by kernel_rfl) (by kernel_rfl) rfl ?_
    refine d_p 4 rfl (p_pure rfl) (by kernel_rfl) rfl rfl ?_
    refine d_p 5 rfl (p_pure rfl) (by kernel_rfl) rfl rfl ?_
    refine d_slot (show _ = Value.bool (!!(hasB (nth (nth L i).op k).ac 1 || hasB (nth (nth L i).op k).ac 2)) from by rw [(and_8 (x := (nth (nth L i).op k).ac) (by have := openE_r hV3.1; omega)).2.2.2]) ?_
    refine d_q 6 [] rfl (q_call rfl fn_48 rfl (fun w1 h1 => c48 w1 _ _)) (by kernel_rfl) (by kernel_rfl) (by kernel_rfl) rfl ?_
    refine d_p 7 rfl (p_pure rfl) (by kernel_rfl) rfl rfl ?_
    refine d_p 8 rfl (p_pure rfl) (by kernel_rfl) rfl rfl ?_
    refine d_p 9 rfl (p_fieldAddr rfl rfl fd_48_4 sz_46 rfl) (by kernel_rfl) rfl rfl ?_
    first | refine d_q 10 [] rfl (q_load rfl rfl sz_46 (by repeat (first | exact .here | apply Pick.there)) rfl) (by kernel_rfl) (by kernel_rfl) (by kernel_rfl) rfl ?_ | refine d_q 10 [] rfl (q_load_at rfl rfl sz_46 (fun w h => (h.rd_blk (Mc := []) (by repeat (first | exact .here | apply Pick.there)) rfl (by simp)))) (by kernel_rfl) (by kernel_rfl) (by kernel_rfl) rfl ?_ | refine d_q 10 [] rfl (q_load_at rfl rfl sz_46 (fun w h => (HS.ft (a := some ⟨ga, 0, none⟩) (cap := cap) (l := L) h (by repeat (first | exact .here | apply Pick.there))).1.rdj 3 hi rfl)) (by kernel_rfl) (by kernel_rfl) (by kernel_rfl) rfl ?_ | refine d_q 10 [] rfl (q_load_at rfl rfl sz_46 (fun w h => by have h9 := ((HS.ft (a := some ⟨ga, 0, none⟩) (cap := cap) (l := L) h (by repeat (first | exact .here | apply Pick.there))).at hi).1.rdj 1 hk rfl; rw [hoa] at h9; exact h9)) (by kernel_rfl) (by kernel_rfl) (by kernel_rfl) rfl ?_ | refine d_q 10 [] rfl (q_load_at rfl rfl sz_46 (fun w h => by have h9 := ((HS.ft (a := some ⟨ga, 0, none⟩) (cap := cap) (l := L) h (by repeat (first | exact .here | apply Pick.there))).at hi).1.rdj 4 hk rfl; rw [hoa] at h9; exact h9)) (by kernel_rfl) (by kernel_rfl) (by kernel_rfl) rfl ?_ | refine d_q 10 [] rfl (q_load_at rfl rfl sz_46 (fun w h => (h.rd_blk (Mc := []) (b := go) (by repeat (first | exact .here | apply Pick.there)) (by rw [flat_get ov5 _ k 4 _ (nth_get hk) (by decide)]; rfl) (by simp)))) (by kernel_rfl) (by kernel_rfl) (by kernel_rfl) rfl ?_
    first | refine d_p 11 rfl (p_len_slice rfl rfl Try.underlying46) (by kernel_rfl) rfl rfl ?_ | refine d_q 11 [] rfl (q_len_own rfl rfl Try.underlying46 (by repeat (first | exact .here | apply Pick.there))) (by kernel_rfl) (by kernel_rfl) (by kernel_rfl) rfl ?_
    refine d_p 12 rfl (p_pure rfl) (by kernel_rfl) rfl rfl ?_
    refine d_q 13 [] rfl (q_call rfl fn_48 rfl (fun w1 h1 => c48 w1 _ _)) (by kernel_rfl) (by kernel_rfl) (by kernel_rfl) rfl ?_
    refine d_p 14 rfl (p_pure rfl) (by kernel_rfl) rfl rfl ?_
    refine d_p 15 rfl (p_pure rfl) (by kernel_rfl) rfl rfl ?_
    refine d_q 16 [] rfl (q_call rfl fn_48 rfl (fun w1 h1 => c48 w1 _ _)) (by kernel_rfl) (by kernel_rfl) (by kernel_rfl) rfl ?_
    refine d_h 17 rfl (h_buildSlice (cs := [_, _, _]) rfl rfl sl_146 zr_28 rfl rfl rfl) (by kernel_rfl) (fun w h => h.ent (by repeat (first | exact .nil | refine .cons (by repeat (first | exact .here | apply Pick.there)) ?_))) rfl (fun b5 _ => ?_)
    refine d_base (fun w h => h.ent (by repeat (first | exact .nil | refine .cons (by repeat (first | exact .here | apply Pick.there)) ?_))) ?_
    refine d_q 18 [] rfl (q_call rfl fn_52 rfl (fun w1 h1 => f52 h1 (by repeat (first | exact .here | apply Pick.there)) (by rfl) (by rfl) (by decide))) (by kernel_rfl) (by kernel_rfl) (by kernel_rfl) rfl ?_
    refine d_p 19 rfl (p_pure rfl) (by kernel_rfl) rfl rfl ?_
    refine d_nil (by kernel_rfl) (fun w h => h.ent (by repeat (first | exact .nil | refine .cons (by repeat (first | exact .here | apply Pick.there)) ?_))) ?_
    refine s_seq ?_
    refine s_weaken (L' := [(5, _), (6, _), (11, _), (13, _)]) (by repeat (first | exact sl_n | refine sl_c rfl ?_)) (fun _ h => h) ?_
    refine s_region ?_
    refine o_p (p_pure rfl) rfl ?_
    refine o_p (p_pure rfl) rfl ?_
    refine o_nil ?_
    refine s_cond rfl (fun h6 => ?_) (fun h6 => ?_)
    · try simp only [decide_eq_true_eq, decide_eq_false_iff_not, Bool.not_eq_true', Bool.not_eq_false', Bool.and_eq_true, Bool.or_eq_true, Bool.and_eq_false_iff, Bool.or_eq_false_iff, Bool.not_true, Bool.not_false] at h6
      have hle : ¬ lockE (pls L) i k q = 0 := by rw [← lockE_loc hi hk]; exact h6
      refine s_seq ?_
      refine s_region ?_
      refine o_p (p_pure rfl) rfl ?_
      refine o_p (p_pure rfl) rfl ?_
      refine o_nil ?_
      exact s_retv (rs := [.tmp 6]) rfl (.tmp rfl (.nil)) (fun w' h' => ⟨((some ⟨ga, 0, none⟩, cap), L), by rw [lockT, hfe]; simp only [if_true]; rw [if_pos hz.2, if_neg hle, ← lockE_loc hi hk]; rfl, by rw [lockT, hfe]; simp only [if_true]; rw [if_pos hz.2, if_neg hle], h'.ent (by repeat (first | exact .nil | refine .cons (by repeat (first | exact .here | apply Pick.there)) ?_))⟩)
    · try simp only [decide_eq_true_eq, decide_eq_false_iff_not, Bool.not_eq_true', Bool.not_eq_false', Bool.and_eq_true, Bool.or_eq_true, Bool.and_eq_false_iff, Bool.or_eq_false_iff, Bool.not_true, Bool.not_false] at h6
      have hle : lockE (pls L) i k q = 0 := by rw [← lockE_loc hi hk]; exact h6
      have hlp := lockE_pos hle
      have hl16 : (nth (nth L i).op k).lk.length ≤ 16 := hV3.2.2
      refine s_class (fun w h => HS.lock_at hi hk hoa h (by repeat (first | exact .here | apply Pick.there))) ?_
      refine s_skip ?_
      refine s_seq ?_
      refine s_draw [7, 10] mixed ?_
      refine d_p 0 rfl (p_pure rfl) (by kernel_rfl) rfl rfl ?_
      refine d_p 1 rfl (p_pure rfl) (by kernel_rfl) rfl rfl ?_
      refine d_p 2 rfl (p_pure rfl) (by kernel_rfl) rfl rfl ?_
      refine d_p 3 rfl (p_fieldAddr rfl rfl fd_48_4 sz_46 rfl) (by kernel_rfl) rfl rfl ?_
      refine d_slot (show _ = Value.pointer (some ⟨go, k * 5 + 4, none⟩) from by rw [Nat.zero_add]) ?_
      first | refine d_q 4 [[], []] rfl (q_load rfl rfl sz_46 (by repeat (first | exact .here | apply Pick.there)) rfl) (by kernel_rfl) (by kernel_rfl) (by kernel_rfl) rfl ?_ | refine d_q 4 [[], []] rfl (q_load_at rfl rfl sz_46 (fun w h => (h.rd_blk (Mc := []) (by repeat (first | exact .here | apply Pick.there)) rfl (by simp)))) (by kernel_rfl) (by kernel_rfl) (by kernel_rfl) rfl ?_ | refine d_q 4 [[], []] rfl (q_load_at rfl rfl sz_46 (fun w h => (HS.ft (a := some ⟨ga, 0, none⟩) (cap := cap) (l := L) h (by repeat (first | exact .here | apply Pick.there))).1.rdj 3 hi rfl)) (by kernel_rfl) (by kernel_rfl) (by kernel_rfl) rfl ?_ | refine d_q 4 [[], []] rfl (q_load_at rfl rfl sz_46 (fun w h => by have h9 := ((HS.ft (a := some ⟨ga, 0, none⟩) (cap := cap) (l := L) h (by repeat (first | exact .here | apply Pick.there))).at hi).1.rdj 1 hk rfl; rw [hoa] at h9; exact h9)) (by kernel_rfl) (by kernel_rfl) (by kernel_rfl) rfl ?_ | refine d_q 4 [[], []] rfl (q_load_at rfl rfl sz_46 (fun w h => by have h9 := ((HS.ft (a := some ⟨ga, 0, none⟩) (cap := cap) (l := L) h (by repeat (first | exact .here | apply Pick.there))).at hi).1.rdj 4 hk rfl; rw [hoa] at h9; exact h9)) (by kernel_rfl) (by kernel_rfl) (by kernel_rfl) rfl ?_ | refine d_q 4 [[], []] rfl (q_load_at rfl rfl sz_46 (fun w h => (h.rd_blk (Mc := []) (b := go) (by repeat (first | exact .here | apply Pick.there)) (by rw [flat_get ov5 _ k 4 _ (nth_get hk) (by decide)]; rfl) (by simp)))) (by kernel_rfl) (by kernel_rfl) (by kernel_rfl) rfl ?_
      first | refine d_q 5 [[6], []] rfl (q_loadn rfl rfl sz_62 (by repeat (first | exact .here | apply Pick.there)) rfl) (by kernel_rfl) (by kernel_rfl) (by kernel_rfl) rfl ?_ | refine d_q 5 [[6], []] rfl (q_load_atn _ rfl rfl sz_62 fun w h => (h.rd_blk (Mc := []) (by repeat (first | exact .here | apply Pick.there)) rfl (by simp))) (by kernel_rfl) (by kernel_rfl) (by kernel_rfl) rfl ?_ | refine d_q 5 [[6], []] rfl (q_load_atn _ rfl rfl sz_62 fun w h => (HS.ft (a := some ⟨ga, 0, none⟩) (cap := cap) (l := L) h (by repeat (first | exact .here | apply Pick.there))).1.rdj 3 hi rfl) (by kernel_rfl) (by kernel_rfl) (by kernel_rfl) rfl ?_ | refine d_q 5 [[6], []] rfl (q_load_atn _ rfl rfl sz_62 fun w h => by have h9 := ((HS.ft (a := some ⟨ga, 0, none⟩) (cap := cap) (l := L) h (by repeat (first | exact .here | apply Pick.there))).at hi).1.rdj 1 hk rfl; rw [hoa] at h9; exact h9) (by kernel_rfl) (by kernel_rfl) (by kernel_rfl) rfl ?_ | refine d_q 5 [[6], []] rfl (q_load_atn _ rfl rfl sz_62 fun w h => by have h9 := ((HS.ft (a := some ⟨ga, 0, none⟩) (cap := cap) (l := L) h (by repeat (first | exact .here | apply Pick.there))).at hi).1.rdj 4 hk rfl; rw [hoa] at h9; exact h9) (by kernel_rfl) (by kernel_rfl) (by kernel_rfl) rfl ?_ | refine d_q 5 [[6], []] rfl (q_load_atn _ rfl rfl sz_62 fun w h => (h.rd_blk (Mc := []) (b := go) (by repeat (first | exact .here | apply Pick.there)) (by rw [flat_get ov5 _ k 4 _ (nth_get hk) (by decide)]; rfl) (by simp))) (by kernel_rfl) (by kernel_rfl) (by kernel_rfl) rfl ?_
      refine d_h 6 rfl (h_buildSlice (cs := [_, _, _]) rfl rfl sl_46 zr_62 rfl rfl rfl) (by kernel_rfl) (fun w h => h.ent (by repeat (first | exact .nil | refine .cons (by repeat (first | exact .here | apply Pick.there)) ?_))) rfl (fun b7 _ => ?_)
      refine d_base (fun w h => h.ent (by repeat (first | exact .nil | refine .cons (by repeat (first | exact .here | apply Pick.there)) ?_))) ?_
      refine d_h 7 rfl (h_appendS (n := (nth (nth L i).op k).lk.length) q.vals rfl rfl rfl sl_46 Try.underlying46 zr_62 rfl (by repeat (first | exact .here | apply Pick.there)) (src_blk (by repeat (first | exact .here | apply Pick.there))) rfl (lv1 q) (by omega) (by simp only [maxLen]; omega)) (by kernel_rfl) (fun w h => h.ent (by repeat (first | exact .nil | refine .cons (by repeat (first | exact .here | apply Pick.there)) ?_))) rfl (fun b8 _ => ?_)
      refine d_turn [10] (by kernel_rfl) ?_
      refine d_p 8 rfl (p_pure rfl) (by kernel_rfl) rfl rfl ?_
      refine d_p 9 rfl (p_fieldAddr rfl rfl fd_48_4 sz_46 rfl) (by kernel_rfl) rfl rfl ?_
      refine d_slot (show _ = Value.pointer (some ⟨go, k * 5 + 4, none⟩) from by rw [Nat.zero_add]) ?_
      refine d_h0 10 rfl (h_store rfl rfl rfl sz_46 rfl (by repeat (first | exact .here | apply Put.there)) (by rw [flat_length ov5]; omega) rfl) (by kernel_rfl) (fun w h => h.ent (by repeat (first | exact .nil | refine .cons (by repeat (first | exact .here | apply Pick.there)) ?_))) (fun _ _ => ?_)
      refine d_turn [] (by kernel_rfl) ?_
      refine d_nil (by kernel_rfl) (fun w h => h.ent (by repeat (first | exact .nil | refine .cons (by repeat (first | exact .here | apply Pick.there)) ?_))) ?_
      refine s_seq ?_
      refine s_region ?_
      refine o_p (p_pure rfl) rfl ?_
      refine o_nil ?_
      exact s_retv (rs := [.tmp 6]) rfl (.tmp rfl (.nil)) (fun w' h' => ⟨((some ⟨ga, 0, none⟩, cap), L.set i { nth L i with op := (nth L i).op.set k { (nth (nth L i).op k) with la := b8.1, lc := b8.2, lk := (nth (nth L i).op k).lk ++ [q] } }), by rw [lockT, hfe]; simp only [if_true]; rw [if_pos hz.2, if_pos hle]; rfl, by rw [lockT, hfe]; simp only [if_true]; rw [if_pos hz.2, if_pos hle]; exact upd_lk (o := { (nth (nth L i).op k) with la := b8.1, lc := b8.2, lk := (nth (nth L i).op k).lk ++ [q] }) (u := fun o => { o with lk := o.lk ++ [q] }) hi hk rfl, by have h2 := HS.lock_put (o := { (nth (nth L i).op k) with la := b8.1, lc := b8.2, lk := (nth (nth L i).op k).lk ++ [q] }) hi hk hoa (h'.ent (Bs := [.blk go 48 ((nth L i).oc * 5) _, .own (.slice b8.1 ((nth (nth L i).op k).lk.length + 1) b8.2) 62 3 ((nth (nth L i).op k).lk.length + 1) ((nth (nth L i).op k).lk.flatMap Lock.vals ++ q.vals), .star ((others (nth L i).op k).map subO), .blk ga 77 (cap * 4) (L.flatMap LFil.vals), .star ((others L i).map subF), .blk bt 106 2 [.int .i64 next, .slice (some ⟨ga, 0, none⟩) L.length cap]]) (by repeat (first | exact .nil | refine .cons (by repeat (first | exact .here | apply Pick.there)) ?_)) |> fun hh => by simpa [HA.locks, List.flatMap_append] using hh) (flat_set ov5 (nth L i).op k 4 [.slice b8.1 ((nth (nth L i).op k).lk.length + 1) b8.2] (nth (nth L i).op k) _ (nth_get hk) (by simp [LOpn.vals, setMany]) (by simp)) hoc hom hcap hcm; rw [List.length_set]; exact h2.ent (by repeat (first | exact .nil | refine .cons (by repeat (first | exact .here | apply Pick.there)) ?_))⟩)

end Go.Proofs

namespace Go.Proofs
open Go Go.RowKit Gx
set_option linter.unusedVariables false
set_option linter.unusedSimpArgs false
attribute [local irreducible] Go.Calls Gx.S Gx.O Gx.D Gx.OpP Gx.OpQ Gx.OpH

theorem ov_127 : isOv Try.prog 127 24 4 := ⟨_, Try.func127, rfl, rfl, by kernel_rfl, by kernel_rfl⟩
theorem fn_107 : isFn Try.prog 107 = true := by kernel_rfl
theorem fn_108 : isFn Try.prog 108 = true := by kernel_rfl


set_option maxRecDepth 20000 in
theorem c107b (w : World) (gg i j n cap : Nat) (xs : List Value) (M : List Nat) (hw : HS w M [.blk gg 62 (cap * 3) xs] w) (hnc : n ≤ cap) (hcm : cap ≤ maxLen) (hxl : xs.length = n * 3) (hx1 : ∀ u ∈ xs, u.oneCell' = true) (hmx : n ≤ 9223372036854775807) (hij : i < j) (hjn : j ≤ n) : Calls Try.prog 107 #[.slice (some ⟨gg, 0, none⟩) n cap, .int .i64 i, .int .i64 j] w fun en w' => en = .returned (.slice (some ⟨gg, 0, none⟩) (n - (j - i)) cap) ∧ HS w M [.own (.slice (some ⟨gg, 0, none⟩) (n - (j - i)) cap) 62 3 (n - (j - i)) (xs.take (i * 3) ++ xs.drop (j * 3))] w' := by
  refine enter (args := [_, _, _]) Try.func107 Try.ntmps107 rfl rfl hw ?_
  refine s_seq ?_
  refine s_region ?_
  refine o_p (p_pure rfl) rfl ?_
  refine o_nil ?_
  refine s_seq ?_
  refine s_region ?_
  refine o_p (p_pure rfl) rfl ?_
  refine o_p (p_pure rfl) rfl ?_
  refine o_p (p_pure rfl) rfl ?_
  refine o_p (p_pure rfl) rfl ?_
  first | refine o_p (p_len_slice rfl rfl Try.underlying46) rfl ?_ | refine o_q (q_len_own rfl rfl Try.underlying46 (by repeat (first | exact .here | apply Pick.there))) rfl ?_
  refine o_p (p_slice3 i j n rfl rfl rfl rfl rfl sl_46 rfl rfl rfl (by omega) (by omega) (by omega)) rfl ?_
  refine o_nil ?_
  refine s_seq ?_
  refine s_seq ?_
  refine s_region ?_
  refine o_p (p_pure rfl) rfl ?_
  refine o_p (p_pure rfl) rfl ?_
  refine o_p (p_pure rfl) rfl ?_
  refine o_nil ?_
  refine s_cond rfl (fun h1 => ?_) (fun h1 => ?_)
  · try simp only [decide_eq_true_eq, decide_eq_false_iff_not, Bool.not_eq_true', Bool.not_eq_false', Bool.and_eq_true, Bool.or_eq_true, Bool.and_eq_false_iff, Bool.or_eq_false_iff, Bool.not_true, Bool.not_false] at h1
    exfalso; first | omega | (simp at h1; done) | (simp_all; done)
  · try simp only [decide_eq_true_eq, decide_eq_false_iff_not, Bool.not_eq_true', Bool.not_eq_false', Bool.and_eq_true, Bool.or_eq_true, Bool.and_eq_false_iff, Bool.or_eq_false_iff, Bool.not_true, Bool.not_false] at h1
    refine s_skip ?_
    refine s_seq ?_
    refine s_region ?_
    refine o_p (p_pure rfl) rfl ?_
    first | refine o_p (p_len_slice rfl rfl Try.underlying46) rfl ?_ | refine o_q (q_len_own rfl rfl Try.underlying46 (by repeat (first | exact .here | apply Pick.there))) rfl ?_
    refine o_p (p_pure rfl) rfl ?_
    refine o_nil ?_
    refine s_seq ?_
    refine s_draw [6] mixed ?_
    refine d_p 0 rfl (p_pure rfl) (by kernel_rfl) rfl rfl ?_
    refine d_p 1 rfl (p_pure rfl) (by kernel_rfl) rfl rfl ?_
    refine d_p 2 rfl (p_slice _ _ 0 i rfl rfl sl_46 rfl ⟨_, _, rfl, rfl⟩ (by omega) (by omega)) (by kernel_rfl) rfl rfl ?_
    refine d_slot (show _ = Value.slice (some ⟨gg, 0, none⟩) i cap from by rw [subA_zero] <;> (congr 1 <;> omega)) ?_
    refine d_p 3 rfl (p_pure rfl) (by kernel_rfl) rfl rfl ?_
    refine d_p 4 rfl (p_pure rfl) (by kernel_rfl) rfl rfl ?_
    refine d_p 5 rfl (p_slice _ _ j n rfl rfl sl_46 ⟨_, _, rfl, rfl⟩ rfl (by omega) (by omega)) (by kernel_rfl) rfl rfl ?_
    refine d_h 6 rfl (h_append_in (cut xs (j * 3) ((n - j) * 3)) rfl rfl rfl sl_46 Try.underlying46 (by repeat (first | exact .here | apply Put.there)) (by omega) (src_cut (j * 3) ((n - j) * 3) (fun hk => subA_lt (by omega)) (by repeat (first | exact .here | apply Pick.there))) (cut_length _ _ _ (by omega)) (by rw [cut_length _ _ _ (by omega)]; omega) (cut_one hx1 _ _)) (by kernel_rfl) (fun w h => h.ent (by repeat (first | exact .nil | refine .cons (by repeat (first | exact .here | apply Pick.there)) ?_))) rfl (fun _ _ => ?_)
    refine d_turn [] (by kernel_rfl) ?_
    refine d_slot (show _ = Value.slice (some ⟨gg, 0, none⟩) (n - (j - i)) cap from by first | rfl | (congr 1 <;> first | rfl | omega)) ?_
    refine d_p 7 rfl (p_pure rfl) (by kernel_rfl) rfl rfl ?_
    refine d_nil (by kernel_rfl) (fun w h => h.ent (by repeat (first | exact .nil | refine .cons (by repeat (first | exact .here | apply Pick.there)) ?_))) ?_
    refine s_seq ?_
    refine s_region ?_
    refine o_p (p_pure rfl) rfl ?_
    refine o_p (p_pure rfl) rfl ?_
    first | refine o_p (p_len_slice rfl rfl Try.underlying46) rfl ?_ | refine o_q (q_len_own rfl rfl Try.underlying46 (by repeat (first | exact .here | apply Pick.there))) rfl ?_
    refine o_p (p_pure rfl) rfl ?_
    refine o_p (p_slice _ _ (n - (j - i)) n rfl rfl sl_46 ⟨_, _, rfl, (by omega)⟩ ⟨_, _, rfl, rfl⟩ (by omega) (by omega)) rfl ?_
    refine o_slot (show _ = Value.slice (some ⟨gg, (n - (j - i)) * 3, none⟩) (j - i) (cap - (n - (j - i))) from by rw [subA_lt (by omega)] <;> (congr 1 <;> omega)) ?_
    refine o_h0 (h_clear rfl rfl sl_46 zr_62 rfl rfl (by simp) (by repeat (first | exact .here | apply Put.there)) (fun _ => rfl) (by simp only [setMany_length]; omega)) (fun _ _ => ?_)
    refine o_nil ?_
    refine s_seq ?_
    refine s_region ?_
    refine o_p (p_pure rfl) rfl ?_
    refine o_p (p_pure rfl) rfl ?_
    refine o_nil ?_
    exact s_retv (rs := [.tmp 6]) rfl (.tmp rfl (.nil)) (fun w' h' => ⟨rfl, (HS.to_own (n := n - (j - i)) (xs := xs.take (i * 3) ++ xs.drop (j * 3)) (ds := zrow [.int .i64 0, .int .i64 0, .bool false] ((j - i) * 3)) (by repeat (first | exact .here | apply Pick.there)) h' (by have hq := del_in (xs := xs) (zs := zrow [.int .i64 0, .int .i64 0, .bool false] ((j - i) * 3)) (p := i * 3) (q := j * 3) (N := n * 3) hxl (by omega) (by omega) (by rw [zrow_length]; omega); rw [show (n - j) * 3 = n * 3 - j * 3 from by omega, show (n - (j - i)) * 3 = n * 3 - (j * 3 - i * 3) from by omega]; exact hq) (by simp only [List.length_append, List.length_take, List.length_drop]; omega) (by omega) (by omega)).ent (by repeat (first | exact .nil | refine .cons (by repeat (first | exact .here | apply Pick.there)) ?_))⟩)

theorem c107 (w : World) (a : Option Addr) (i j n cap : Nat) (xs : List Value) (hw : HS w (fps [.own (.slice a n cap) 62 3 n xs]) [.own (.slice a n cap) 62 3 n xs] w) (hx1 : ∀ u ∈ xs, u.oneCell' = true) (hmx : n ≤ 9223372036854775807) (hij : i < j) (hjn : j ≤ n) : Calls Try.prog 107 #[.slice a n cap, .int .i64 i, .int .i64 j] w fun en w' => ∃ g : Unit, en = .returned (.slice a (n - (j - i)) cap) ∧ True ∧ HS w (fps [.own (.slice a n cap) 62 3 n xs]) [.own (.slice a (n - (j - i)) cap) 62 3 (n - (j - i)) (xs.take (i * 3) ++ xs.drop (j * 3))] w' := by
  obtain ⟨gg, rfl, _, hnc, hcm, hxl, hb⟩ := hw.own_blk (by omega) .here
  exact (c107b w gg i j n cap xs _ hb hnc hcm hxl hx1 hmx hij hjn).mono fun en w' h => ⟨(), h.1, trivial, h.2⟩

set_option maxRecDepth 20000 in
theorem c117b (w : World) (gg i j n cap : Nat) (xs : List Value) (M : List Nat) (hw : HS w M [.blk gg 48 (cap * 5) xs] w) (hnc : n ≤ cap) (hcm : cap ≤ maxLen) (hxl : xs.length = n * 5) (hx1 : ∀ u ∈ xs, u.oneCell' = true) (hmx : n ≤ 9223372036854775807) (hij : i < j) (hjn : j ≤ n) : Calls Try.prog 117 #[.slice (some ⟨gg, 0, none⟩) n cap, .int .i64 i, .int .i64 j] w fun en w' => en = .returned (.slice (some ⟨gg, 0, none⟩) (n - (j - i)) cap) ∧ HS w M [.own (.slice (some ⟨gg, 0, none⟩) (n - (j - i)) cap) 48 5 (n - (j - i)) (xs.take (i * 5) ++ xs.drop (j * 5))] w' := by
  refine enter (args := [_, _, _]) Try.func117 Try.ntmps117 rfl rfl hw ?_
  refine s_seq ?_
  refine s_region ?_
  refine o_p (p_pure rfl) rfl ?_
  refine o_nil ?_
  refine s_seq ?_
  refine s_region ?_
  refine o_p (p_pure rfl) rfl ?_
  refine o_p (p_pure rfl) rfl ?_
  refine o_p (p_pure rfl) rfl ?_
  refine o_p (p_pure rfl) rfl ?_
  first | refine o_p (p_len_slice rfl rfl Try.underlying75) rfl ?_ | refine o_q (q_len_own rfl rfl Try.underlying75 (by repeat (first | exact .here | apply Pick.there))) rfl ?_
  refine o_p (p_slice3 i j n rfl rfl rfl rfl rfl sl_75 rfl rfl rfl (by omega) (by omega) (by omega)) rfl ?_
  refine o_nil ?_
  refine s_seq ?_
  refine s_seq ?_
  refine s_region ?_
  refine o_p (p_pure rfl) rfl ?_
  refine o_p (p_pure rfl) rfl ?_
  refine o_p (p_pure rfl) rfl ?_
  refine o_nil ?_
  refine s_cond rfl (fun h1 => ?_) (fun h1 => ?_)
  · try simp only [decide_eq_true_eq, decide_eq_false_iff_not, Bool.not_eq_true', Bool.not_eq_false', Bool.and_eq_true, Bool.or_eq_true, Bool.and_eq_false_iff, Bool.or_eq_false_iff, Bool.not_true, Bool.not_false] at h1
    exfalso; first | omega | (simp at h1; done) | (simp_all; done)
  · try simp only [decide_eq_true_eq, decide_eq_false_iff_not, Bool.not_eq_true', Bool.not_eq_false', Bool.and_eq_true, Bool.or_eq_true, Bool.and_eq_false_iff, Bool.or_eq_false_iff, Bool.not_true, Bool.not_false] at h1
    refine s_skip ?_
    refine s_seq ?_
    refine s_region ?_
    refine o_p (p_pure rfl) rfl ?_
    first | refine o_p (p_len_slice rfl rfl Try.underlying75) rfl ?_ | refine o_q (q_len_own rfl rfl Try.underlying75 (by repeat (first | exact .here | apply Pick.there))) rfl ?_
    refine o_p (p_pure rfl) rfl ?_
    refine o_nil ?_
    refine s_seq ?_
    refine s_draw [6] mixed ?_
    refine d_p 0 rfl (p_pure rfl) (by kernel_rfl) rfl rfl ?_
    refine d_p 1 rfl (p_pure rfl) (by kernel_rfl) rfl rfl ?_
    refine d_p 2 rfl (p_slice _ _ 0 i rfl rfl sl_75 rfl ⟨_, _, rfl, rfl⟩ (by omega) (by omega)) (by kernel_rfl) rfl rfl ?_
    refine d_slot (show _ = Value.slice (some ⟨gg, 0, none⟩) i cap from by rw [subA_zero] <;> (congr 1 <;> omega)) ?_
    refine d_p 3 rfl (p_pure rfl) (by kernel_rfl) rfl rfl ?_
    refine d_p 4 rfl (p_pure rfl) (by kernel_rfl) rfl rfl ?_
    refine d_p 5 rfl (p_slice _ _ j n rfl rfl sl_75 ⟨_, _, rfl, rfl⟩ rfl (by omega) (by omega)) (by kernel_rfl) rfl rfl ?_
    refine d_h 6 rfl (h_append_in (cut xs (j * 5) ((n - j) * 5)) rfl rfl rfl sl_75 Try.underlying75 (by repeat (first | exact .here | apply Put.there)) (by omega) (src_cut (j * 5) ((n - j) * 5) (fun hk => subA_lt (by omega)) (by repeat (first | exact .here | apply Pick.there))) (cut_length _ _ _ (by omega)) (by rw [cut_length _ _ _ (by omega)]; omega) (cut_one hx1 _ _)) (by kernel_rfl) (fun w h => h.ent (by repeat (first | exact .nil | refine .cons (by repeat (first | exact .here | apply Pick.there)) ?_))) rfl (fun _ _ => ?_)
    refine d_turn [] (by kernel_rfl) ?_
    refine d_slot (show _ = Value.slice (some ⟨gg, 0, none⟩) (n - (j - i)) cap from by first | rfl | (congr 1 <;> first | rfl | omega)) ?_
    refine d_p 7 rfl (p_pure rfl) (by kernel_rfl) rfl rfl ?_
    refine d_nil (by kernel_rfl) (fun w h => h.ent (by repeat (first | exact .nil | refine .cons (by repeat (first | exact .here | apply Pick.there)) ?_))) ?_
    refine s_seq ?_
    refine s_region ?_
    refine o_p (p_pure rfl) rfl ?_
    refine o_p (p_pure rfl) rfl ?_
    first | refine o_p (p_len_slice rfl rfl Try.underlying75) rfl ?_ | refine o_q (q_len_own rfl rfl Try.underlying75 (by repeat (first | exact .here | apply Pick.there))) rfl ?_
    refine o_p (p_pure rfl) rfl ?_
    refine o_p (p_slice _ _ (n - (j - i)) n rfl rfl sl_75 ⟨_, _, rfl, (by omega)⟩ ⟨_, _, rfl, rfl⟩ (by omega) (by omega)) rfl ?_
    refine o_slot (show _ = Value.slice (some ⟨gg, (n - (j - i)) * 5, none⟩) (j - i) (cap - (n - (j - i))) from by rw [subA_lt (by omega)] <;> (congr 1 <;> omega)) ?_
    refine o_h0 (h_clear rfl rfl sl_75 zr_48 rfl rfl (by simp) (by repeat (first | exact .here | apply Put.there)) (fun _ => rfl) (by simp only [setMany_length]; omega)) (fun _ _ => ?_)
    refine o_nil ?_
    refine s_seq ?_
    refine s_region ?_
    refine o_p (p_pure rfl) rfl ?_
    refine o_p (p_pure rfl) rfl ?_
    refine o_nil ?_
    exact s_retv (rs := [.tmp 6]) rfl (.tmp rfl (.nil)) (fun w' h' => ⟨rfl, (HS.to_own (n := n - (j - i)) (xs := xs.take (i * 5) ++ xs.drop (j * 5)) (ds := zrow [.int .i64 0, .int .i64 0, .int .i64 0, .bool false, .slice none 0 0] ((j - i) * 5)) (by repeat (first | exact .here | apply Pick.there)) h' (by have hq := del_in (xs := xs) (zs := zrow [.int .i64 0, .int .i64 0, .int .i64 0, .bool false, .slice none 0 0] ((j - i) * 5)) (p := i * 5) (q := j * 5) (N := n * 5) hxl (by omega) (by omega) (by rw [zrow_length]; omega); rw [show (n - j) * 5 = n * 5 - j * 5 from by omega, show (n - (j - i)) * 5 = n * 5 - (j * 5 - i * 5) from by omega]; exact hq) (by simp only [List.length_append, List.length_take, List.length_drop]; omega) (by omega) (by omega)).ent (by repeat (first | exact .nil | refine .cons (by repeat (first | exact .here | apply Pick.there)) ?_))⟩)

theorem c117 (w : World) (a : Option Addr) (i j n cap : Nat) (xs : List Value) (hw : HS w (fps [.own (.slice a n cap) 48 5 n xs]) [.own (.slice a n cap) 48 5 n xs] w) (hx1 : ∀ u ∈ xs, u.oneCell' = true) (hmx : n ≤ 9223372036854775807) (hij : i < j) (hjn : j ≤ n) : Calls Try.prog 117 #[.slice a n cap, .int .i64 i, .int .i64 j] w fun en w' => ∃ g : Unit, en = .returned (.slice a (n - (j - i)) cap) ∧ True ∧ HS w (fps [.own (.slice a n cap) 48 5 n xs]) [.own (.slice a (n - (j - i)) cap) 48 5 (n - (j - i)) (xs.take (i * 5) ++ xs.drop (j * 5))] w' := by
  obtain ⟨gg, rfl, _, hnc, hcm, hxl, hb⟩ := hw.own_blk (by omega) .here
  exact (c117b w gg i j n cap xs _ hb hnc hcm hxl hx1 hmx hij hjn).mono fun en w' h => ⟨(), h.1, trivial, h.2⟩

set_option maxRecDepth 20000 in
theorem c118b (w : World) (gg i j n cap : Nat) (xs : List Value) (M : List Nat) (hw : HS w M [.blk gg 77 (cap * 4) xs] w) (hnc : n ≤ cap) (hcm : cap ≤ maxLen) (hxl : xs.length = n * 4) (hx1 : ∀ u ∈ xs, u.oneCell' = true) (hmx : n ≤ 9223372036854775807) (hij : i < j) (hjn : j ≤ n) : Calls Try.prog 118 #[.slice (some ⟨gg, 0, none⟩) n cap, .int .i64 i, .int .i64 j] w fun en w' => en = .returned (.slice (some ⟨gg, 0, none⟩) (n - (j - i)) cap) ∧ HS w M [.own (.slice (some ⟨gg, 0, none⟩) (n - (j - i)) cap) 77 4 (n - (j - i)) (xs.take (i * 4) ++ xs.drop (j * 4))] w' := by
  refine enter (args := [_, _, _]) Try.func118 Try.ntmps118 rfl rfl hw ?_
  refine s_seq ?_
  refine s_region ?_
  refine o_p (p_pure rfl) rfl ?_
  refine o_nil ?_
  refine s_seq ?_
  refine s_region ?_
  refine o_p (p_pure rfl) rfl ?_
  refine o_p (p_pure rfl) rfl ?_
  refine o_p (p_pure rfl) rfl ?_
  refine o_p (p_pure rfl) rfl ?_
  first | refine o_p (p_len_slice rfl rfl Try.underlying24) rfl ?_ | refine o_q (q_len_own rfl rfl Try.underlying24 (by repeat (first | exact .here | apply Pick.there))) rfl ?_
  refine o_p (p_slice3 i j n rfl rfl rfl rfl rfl sl_24 rfl rfl rfl (by omega) (by omega) (by omega)) rfl ?_
  refine o_nil ?_
  refine s_seq ?_
  refine s_seq ?_
  refine s_region ?_
  refine o_p (p_pure rfl) rfl ?_
  refine o_p (p_pure rfl) rfl ?_
  refine o_p (p_pure rfl) rfl ?_
  refine o_nil ?_
  refine s_cond rfl (fun h1 => ?_) (fun h1 => ?_)
  · try simp only [decide_eq_true_eq, decide_eq_false_iff_not, Bool.not_eq_true', Bool.not_eq_false', Bool.and_eq_true, Bool.or_eq_true, Bool.and_eq_false_iff, Bool.or_eq_false_iff, Bool.not_true, Bool.not_false] at h1
    exfalso; first | omega | (simp at h1; done) | (simp_all; done)
  · try simp only [decide_eq_true_eq, decide_eq_false_iff_not, Bool.not_eq_true', Bool.not_eq_false', Bool.and_eq_true, Bool.or_eq_true, Bool.and_eq_false_iff, Bool.or_eq_false_iff, Bool.not_true, Bool.not_false] at h1
    refine s_skip ?_
    refine s_seq ?_
    refine s_region ?_
    refine o_p (p_pure rfl) rfl ?_
    first | refine o_p (p_len_slice rfl rfl Try.underlying24) rfl ?_ | refine o_q (q_len_own rfl rfl Try.underlying24 (by repeat (first | exact .here | apply Pick.there))) rfl ?_
    refine o_p (p_pure rfl) rfl ?_
    refine o_nil ?_
    refine s_seq ?_
    refine s_draw [6] mixed ?_
    refine d_p 0 rfl (p_pure rfl) (by kernel_rfl) rfl rfl ?_
    refine d_p 1 rfl (p_pure rfl) (by kernel_rfl) rfl rfl ?_
    refine d_p 2 rfl (p_slice _ _ 0 i rfl rfl sl_24 rfl ⟨_, _, rfl, rfl⟩ (by omega) (by omega)) (by kernel_rfl) rfl rfl ?_
    refine d_slot (show _ = Value.slice (some ⟨gg, 0, none⟩) i cap from by rw [subA_zero] <;> (congr 1 <;> omega)) ?_
    refine d_p 3 rfl (p_pure rfl) (by kernel_rfl) rfl rfl ?_
    refine d_p 4 rfl (p_pure rfl) (by kernel_rfl) rfl rfl ?_
    refine d_p 5 rfl (p_slice _ _ j n rfl rfl sl_24 ⟨_, _, rfl, rfl⟩ rfl (by omega) (by omega)) (by kernel_rfl) rfl rfl ?_
    refine d_h 6 rfl (h_append_in (cut xs (j * 4) ((n - j) * 4)) rfl rfl rfl sl_24 Try.underlying24 (by repeat (first | exact .here | apply Put.there)) (by omega) (src_cut (j * 4) ((n - j) * 4) (fun hk => subA_lt (by omega)) (by repeat (first | exact .here | apply Pick.there))) (cut_length _ _ _ (by omega)) (by rw [cut_length _ _ _ (by omega)]; omega) (cut_one hx1 _ _)) (by kernel_rfl) (fun w h => h.ent (by repeat (first | exact .nil | refine .cons (by repeat (first | exact .here | apply Pick.there)) ?_))) rfl (fun _ _ => ?_)
    refine d_turn [] (by kernel_rfl) ?_
    refine d_slot (show _ = Value.slice (some ⟨gg, 0, none⟩) (n - (j - i)) cap from by first | rfl | (congr 1 <;> first | rfl | omega)) ?_
    refine d_p 7 rfl (p_pure rfl) (by kernel_rfl) rfl rfl ?_
    refine d_nil (by kernel_rfl) (fun w h => h.ent (by repeat (first | exact .nil | refine .cons (by repeat (first | exact .here | apply Pick.there)) ?_))) ?_
    refine s_seq ?_
    refine s_region ?_
    refine o_p (p_pure rfl) rfl ?_
    refine o_p (p_pure rfl) rfl ?_
    first | refine o_p (p_len_slice rfl rfl Try.underlying24) rfl ?_ | refine o_q (q_len_own rfl rfl Try.underlying24 (by repeat (first | exact .here | apply Pick.there))) rfl ?_
    refine o_p (p_pure rfl) rfl ?_
    refine o_p (p_slice _ _ (n - (j - i)) n rfl rfl sl_24 ⟨_, _, rfl, (by omega)⟩ ⟨_, _, rfl, rfl⟩ (by omega) (by omega)) rfl ?_
    refine o_slot (show _ = Value.slice (some ⟨gg, (n - (j - i)) * 4, none⟩) (j - i) (cap - (n - (j - i))) from by rw [subA_lt (by omega)] <;> (congr 1 <;> omega)) ?_
    refine o_h0 (h_clear rfl rfl sl_24 zr_77 rfl rfl (by simp) (by repeat (first | exact .here | apply Put.there)) (fun _ => rfl) (by simp only [setMany_length]; omega)) (fun _ _ => ?_)
    refine o_nil ?_
    refine s_seq ?_
    refine s_region ?_
    refine o_p (p_pure rfl) rfl ?_
    refine o_p (p_pure rfl) rfl ?_
    refine o_nil ?_
    exact s_retv (rs := [.tmp 6]) rfl (.tmp rfl (.nil)) (fun w' h' => ⟨rfl, (HS.to_own (n := n - (j - i)) (xs := xs.take (i * 4) ++ xs.drop (j * 4)) (ds := zrow [.int .i64 0, .int .i64 0, .bool false, .slice none 0 0] ((j - i) * 4)) (by repeat (first | exact .here | apply Pick.there)) h' (by have hq := del_in (xs := xs) (zs := zrow [.int .i64 0, .int .i64 0, .bool false, .slice none 0 0] ((j - i) * 4)) (p := i * 4) (q := j * 4) (N := n * 4) hxl (by omega) (by omega) (by rw [zrow_length]; omega); rw [show (n - j) * 4 = n * 4 - j * 4 from by omega, show (n - (j - i)) * 4 = n * 4 - (j * 4 - i * 4) from by omega]; exact hq) (by simp only [List.length_append, List.length_take, List.length_drop]; omega) (by omega) (by omega)).ent (by repeat (first | exact .nil | refine .cons (by repeat (first | exact .here | apply Pick.there)) ?_))⟩)

theorem c118 (w : World) (a : Option Addr) (i j n cap : Nat) (xs : List Value) (hw : HS w (fps [.own (.slice a n cap) 77 4 n xs]) [.own (.slice a n cap) 77 4 n xs] w) (hx1 : ∀ u ∈ xs, u.oneCell' = true) (hmx : n ≤ 9223372036854775807) (hij : i < j) (hjn : j ≤ n) : Calls Try.prog 118 #[.slice a n cap, .int .i64 i, .int .i64 j] w fun en w' => ∃ g : Unit, en = .returned (.slice a (n - (j - i)) cap) ∧ True ∧ HS w (fps [.own (.slice a n cap) 77 4 n xs]) [.own (.slice a (n - (j - i)) cap) 77 4 (n - (j - i)) (xs.take (i * 4) ++ xs.drop (j * 4))] w' := by
  obtain ⟨gg, rfl, _, hnc, hcm, hxl, hb⟩ := hw.own_blk (by omega) .here
  exact (c118b w gg i j n cap xs _ hb hnc hcm hxl hx1 hmx hij hjn).mono fun en w' h => ⟨(), h.1, trivial, h.2⟩

set_option maxRecDepth 20000 in
theorem c116a (w : World) (a : Option Addr) (i n m cap : Nat) (xs news : List Value) (b0 c0 tot2 : Nat) (hw : HS w (fps [.own (.slice a n cap) 77 4 n xs, .blk b0 77 tot2 news]) [.own (.slice a n cap) 77 4 n xs, .blk b0 77 tot2 news] w) (hm0 : 0 < m) (hl : news.length = m * 4) (hn1 : ∀ u ∈ news, u.oneCell' = true) (hx1 : ∀ u ∈ xs, u.oneCell' = true) (hmax : (n + m) * 48 ≤ 140737488355328) (hi : i = n) : Calls Try.prog 116 #[.slice a n cap, .int .i64 i, .slice (some ⟨b0, 0, none⟩) m c0] w fun en w' => ∃ g : Option Addr × Nat, en = .returned (.slice g.1 (n + m) g.2) ∧ True ∧ HS w (fps [.own (.slice a n cap) 77 4 n xs, .blk b0 77 tot2 news]) [.own (.slice g.1 (n + m) g.2) 77 4 (n + m) (xs.take (i * 4) ++ news ++ xs.drop (i * 4)), .blk b0 77 tot2 news] w' := by
  obtain ⟨_, hnc, hcm, hxl⟩ := hw.own_facts .here
  refine enter (args := [_, _, _]) Try.func116 Try.ntmps116 rfl rfl hw ?_
  refine s_seq ?_
  refine s_region ?_
  refine o_p (p_pure rfl) rfl ?_
  refine o_nil ?_
  refine s_seq ?_
  refine s_region ?_
  refine o_p (p_pure rfl) rfl ?_
  refine o_p (p_pure rfl) rfl ?_
  refine o_p (p_slice _ _ i n rfl rfl sl_24 ⟨_, _, rfl, rfl⟩ rfl (by omega) (by omega)) rfl ?_
  refine o_nil ?_
  refine s_seq ?_
  refine s_region ?_
  refine o_p (p_pure rfl) rfl ?_
  first | refine o_p (p_len_slice rfl rfl Try.underlying24) rfl ?_ | refine o_q (q_len_own rfl rfl Try.underlying24 (by repeat (first | exact .here | apply Pick.there))) rfl ?_
  refine o_p (p_pure rfl) rfl ?_
  refine o_nil ?_
  refine s_seq ?_
  refine s_seq ?_
  refine s_region ?_
  refine o_p (p_pure rfl) rfl ?_
  refine o_p (p_pure rfl) rfl ?_
  refine o_nil ?_
  refine s_cond rfl (fun h1 => ?_) (fun h1 => ?_)
  · try simp only [decide_eq_true_eq, decide_eq_false_iff_not, Bool.not_eq_true', Bool.not_eq_false', Bool.and_eq_true, Bool.or_eq_true, Bool.and_eq_false_iff, Bool.or_eq_false_iff, Bool.not_true, Bool.not_false] at h1
    exfalso; first | omega | (simp at h1; done) | (simp_all; done)
  · try simp only [decide_eq_true_eq, decide_eq_false_iff_not, Bool.not_eq_true', Bool.not_eq_false', Bool.and_eq_true, Bool.or_eq_true, Bool.and_eq_false_iff, Bool.or_eq_false_iff, Bool.not_true, Bool.not_false] at h1
    refine s_skip ?_
    refine s_seq ?_
    refine s_region ?_
    refine o_p (p_pure rfl) rfl ?_
    first | refine o_p (p_len_slice rfl rfl Try.underlying24) rfl ?_ | refine o_q (q_len_own rfl rfl Try.underlying24 (by repeat (first | exact .here | apply Pick.there))) rfl ?_
    refine o_p (p_pure rfl) rfl ?_
    refine o_nil ?_
    refine s_seq ?_
    refine s_seq ?_
    refine s_region ?_
    refine o_p (p_pure rfl) rfl ?_
    refine o_p (p_pure rfl) rfl ?_
    refine o_p (p_pure rfl) rfl ?_
    refine o_nil ?_
    refine s_cond rfl (fun h2 => ?_) (fun h2 => ?_)
    · try simp only [decide_eq_true_eq, decide_eq_false_iff_not, Bool.not_eq_true', Bool.not_eq_false', Bool.and_eq_true, Bool.or_eq_true, Bool.and_eq_false_iff, Bool.or_eq_false_iff, Bool.not_true, Bool.not_false] at h2
      refine s_seq ?_
      refine s_region ?_
      refine o_p (p_pure rfl) rfl ?_
      refine o_p (p_pure rfl) rfl ?_
      refine o_h (h_appendS news rfl rfl rfl sl_24 Try.underlying24 zr_77 rfl (by repeat (first | exact .here | apply Pick.there)) (src_blk (by repeat (first | exact .here | apply Pick.there))) hl hn1 (by omega) (by simp only [maxLen]; omega)) rfl (fun b3 _ => ?_)
      refine o_p (p_pure rfl) rfl ?_
      refine o_nil ?_
      exact s_retv (rs := [.tmp 6]) rfl (.tmp rfl (.nil)) (fun w' h' => ⟨(_, _), rfl, trivial, by subst hi; rw [List.take_of_length_le (by omega), List.drop_eq_nil_of_le (by omega), List.append_nil]; exact h'.ent (by repeat (first | exact .nil | refine .cons (by repeat (first | exact .here | apply Pick.there)) ?_))⟩)
    · try simp only [decide_eq_true_eq, decide_eq_false_iff_not, Bool.not_eq_true', Bool.not_eq_false', Bool.and_eq_true, Bool.or_eq_true, Bool.and_eq_false_iff, Bool.or_eq_false_iff, Bool.not_true, Bool.not_false] at h2
      exfalso; first | omega | (simp at h2; done) | (simp_all; done)

set_option maxRecDepth 20000 in
theorem c116b (w : World) (gg i n m cap : Nat) (xs news : List Value) (b0 c0 tot2 : Nat) (M : List Nat) (hw : HS w M [.blk gg 77 (cap * 4) xs, .blk b0 77 tot2 news] w) (hnc : n ≤ cap) (hcm : cap ≤ maxLen) (hxl : xs.length = n * 4) (hm0 : 0 < m) (hl : news.length = m * 4) (hn1 : ∀ u ∈ news, u.oneCell' = true) (hx1 : ∀ u ∈ xs, u.oneCell' = true) (hmax : (n + m) * 48 ≤ 140737488355328) (hi : i < n) : Calls Try.prog 116 #[.slice (some ⟨gg, 0, none⟩) n cap, .int .i64 i, .slice (some ⟨b0, 0, none⟩) m c0] w fun en w' => ∃ g : Option Addr × Nat, en = .returned (.slice g.1 (n + m) g.2) ∧ True ∧ HS w M [.own (.slice g.1 (n + m) g.2) 77 4 (n + m) (xs.take (i * 4) ++ news ++ xs.drop (i * 4)), .blk b0 77 tot2 news] w' := by
  have ht2 := (hw.blk_get (.there .here)).len_le
  have hcl : (cut xs 0 (i * 4)).length = i * 4 := cut_length _ _ _ (by omega)
  refine enter (args := [_, _, _]) Try.func116 Try.ntmps116 rfl rfl hw ?_
  refine s_seq ?_
  refine s_region ?_
  refine o_p (p_pure rfl) rfl ?_
  refine o_nil ?_
  refine s_seq ?_
  refine s_region ?_
  refine o_p (p_pure rfl) rfl ?_
  refine o_p (p_pure rfl) rfl ?_
  refine o_p (p_slice _ _ i n rfl rfl sl_24 ⟨_, _, rfl, rfl⟩ rfl (by omega) (by omega)) rfl ?_
  refine o_nil ?_
  refine s_seq ?_
  refine s_region ?_
  refine o_p (p_pure rfl) rfl ?_
  first | refine o_p (p_len_slice rfl rfl Try.underlying24) rfl ?_ | refine o_q (q_len_own rfl rfl Try.underlying24 (by repeat (first | exact .here | apply Pick.there))) rfl ?_
  refine o_p (p_pure rfl) rfl ?_
  refine o_nil ?_
  refine s_seq ?_
  refine s_seq ?_
  refine s_region ?_
  refine o_p (p_pure rfl) rfl ?_
  refine o_p (p_pure rfl) rfl ?_
  refine o_nil ?_
  refine s_cond rfl (fun h1 => ?_) (fun h1 => ?_)
  · try simp only [decide_eq_true_eq, decide_eq_false_iff_not, Bool.not_eq_true', Bool.not_eq_false', Bool.and_eq_true, Bool.or_eq_true, Bool.and_eq_false_iff, Bool.or_eq_false_iff, Bool.not_true, Bool.not_false] at h1
    exfalso; first | omega | (simp at h1; done) | (simp_all; done)
  · try simp only [decide_eq_true_eq, decide_eq_false_iff_not, Bool.not_eq_true', Bool.not_eq_false', Bool.and_eq_true, Bool.or_eq_true, Bool.and_eq_false_iff, Bool.or_eq_false_iff, Bool.not_true, Bool.not_false] at h1
    refine s_skip ?_
    refine s_seq ?_
    refine s_region ?_
    refine o_p (p_pure rfl) rfl ?_
    first | refine o_p (p_len_slice rfl rfl Try.underlying24) rfl ?_ | refine o_q (q_len_own rfl rfl Try.underlying24 (by repeat (first | exact .here | apply Pick.there))) rfl ?_
    refine o_p (p_pure rfl) rfl ?_
    refine o_nil ?_
    refine s_seq ?_
    refine s_seq ?_
    refine s_region ?_
    refine o_p (p_pure rfl) rfl ?_
    refine o_p (p_pure rfl) rfl ?_
    refine o_p (p_pure rfl) rfl ?_
    refine o_nil ?_
    refine s_cond rfl (fun h2 => ?_) (fun h2 => ?_)
    · try simp only [decide_eq_true_eq, decide_eq_false_iff_not, Bool.not_eq_true', Bool.not_eq_false', Bool.and_eq_true, Bool.or_eq_true, Bool.and_eq_false_iff, Bool.or_eq_false_iff, Bool.not_true, Bool.not_false] at h2
      exfalso; first | omega | (simp at h2; done) | (simp_all; done)
    · try simp only [decide_eq_true_eq, decide_eq_false_iff_not, Bool.not_eq_true', Bool.not_eq_false', Bool.and_eq_true, Bool.or_eq_true, Bool.and_eq_false_iff, Bool.or_eq_false_iff, Bool.not_true, Bool.not_false] at h2
      refine s_skip ?_
      refine s_seq ?_
      refine s_seq ?_
      refine s_region ?_
      refine o_p (p_pure rfl) rfl ?_
      refine o_p (p_pure rfl) rfl ?_
      refine o_p (p_pure rfl) rfl ?_
      try (refine o_slot (i64w (by omega) (by omega)) ?_)
      refine o_p (p_pure rfl) rfl ?_
      refine o_p (p_cap rfl rfl Try.underlying24) rfl ?_
      refine o_p (p_pure rfl) rfl ?_
      refine o_nil ?_
      refine s_cond rfl (fun h3 => ?_) (fun h3 => ?_)
      · try simp only [decide_eq_true_eq, decide_eq_false_iff_not, Bool.not_eq_true', Bool.not_eq_false', Bool.and_eq_true, Bool.or_eq_true, Bool.and_eq_false_iff, Bool.or_eq_false_iff, Bool.not_true, Bool.not_false] at h3
        refine s_seq ?_
        refine s_region ?_
        refine o_p (p_pure rfl) rfl ?_
        refine o_p (p_pure rfl) rfl ?_
        refine o_p (p_slice _ _ 0 i rfl rfl sl_24 rfl ⟨_, _, rfl, rfl⟩ (by omega) (by omega)) rfl ?_
        refine o_slot (show _ = Value.slice (some ⟨gg, 0, none⟩) (i) (cap) from by rw [subA_zero] <;> (congr 1 <;> omega)) ?_
        refine o_p (p_pure rfl) rfl ?_
        refine o_p (p_pure rfl) rfl ?_
        refine o_p (p_pure rfl) rfl ?_
        try (refine o_slot (i64w (by omega) (by omega)) ?_)
        refine o_p (p_pure rfl) rfl ?_
        refine o_p (p_pure rfl) rfl ?_
        try (refine o_slot (i64w (by omega) (by omega)) ?_)
        refine o_slot (show _ = Value.int .i64 ((n + m - i : Nat) : Int) from by first | rfl | (congr 1 <;> first | rfl | omega)) ?_
        refine o_h (h_append_zeros (m := n + m - i) (olds := cut xs 0 (i * 4)) rfl rfl rfl sl_24 ki_3 zr_77 rfl (by decide) (by omega) (by omega) (src_cut 0 (i * 4) (fun _ => rfl) (by repeat (first | exact .here | apply Pick.there))) hcl (by omega) (by simp only [maxLen]; omega)) rfl (fun ⟨b4, c5⟩ ⟨h6, k7⟩ => ?_)
        refine o_slot (show _ = Value.slice (some ⟨b4, 0, none⟩) (n + m) c5 from by first | rfl | (congr 1 <;> first | rfl | omega)) ?_
        refine o_p (p_pure rfl) rfl ?_
        refine o_nil ?_
        refine s_seq ?_
        refine s_weaken (L' := [(0, _), (1, _), (2, _), (6, _), (7, _), (8, _), (9, _)]) (by repeat (first | exact sl_n | refine sl_c rfl ?_)) (fun _ h => h) ?_
        refine s_region ?_
        refine o_p (p_pure rfl) rfl ?_
        refine o_p (p_pure rfl) rfl ?_
        refine o_p (p_slice _ _ i (n + m) rfl rfl sl_24 ⟨_, _, rfl, rfl⟩ rfl (by omega) (by omega)) rfl ?_
        refine o_slot (show _ = Value.slice (some ⟨b4, i * 4, none⟩) (n + m - i) (c5 - i) from by rw [subA_lt (by omega)] <;> (congr 1 <;> omega)) ?_
        refine o_p (p_pure rfl) rfl ?_
        refine o_h (h_copy m news rfl rfl rfl sl_24 (by repeat (first | exact .here | apply Put.there)) (by omega) hl (fun _ => rfl) (by simp only [zrow_length, List.length_append, setMany_length]; omega) (src_blk (by repeat (first | exact .here | apply Pick.there))) hn1) rfl (fun _ _ => ?_)
        refine o_nil ?_
        refine s_seq ?_
        refine s_draw [8] mixed ?_
        refine d_p 0 rfl (p_pure rfl) (by kernel_rfl) rfl rfl ?_
        refine d_p 1 rfl (p_pure rfl) (by kernel_rfl) rfl rfl ?_
        refine d_p 2 rfl (p_pure rfl) (by kernel_rfl) rfl rfl ?_
        refine d_p 3 rfl (p_pure rfl) (by kernel_rfl) rfl rfl ?_
        try (refine d_slot (i64w (by omega) (by omega)) ?_)
        refine d_p 4 rfl (p_slice _ _ (i + m) (n + m) rfl rfl sl_24 ⟨_, _, rfl, (by omega)⟩ rfl (by omega) (by omega)) (by kernel_rfl) rfl rfl ?_
        refine d_slot (show _ = Value.slice (some ⟨b4, (i + m) * 4, none⟩) (n - i) (c5 - (i + m)) from by rw [subA_lt (by omega)] <;> (congr 1 <;> omega)) ?_
        refine d_p 5 rfl (p_pure rfl) (by kernel_rfl) rfl rfl ?_
        refine d_p 6 rfl (p_pure rfl) (by kernel_rfl) rfl rfl ?_
        refine d_p 7 rfl (p_slice _ _ i n rfl rfl sl_24 ⟨_, _, rfl, rfl⟩ rfl (by omega) (by omega)) (by kernel_rfl) rfl rfl ?_
        refine d_slot (show _ = Value.slice (some ⟨gg, i * 4, none⟩) (n - i) (cap - i) from by rw [subA_lt (by omega)] <;> (congr 1 <;> omega)) ?_
        refine d_h 8 rfl (h_copy (n - i) (cut xs (i * 4) ((n - i) * 4)) rfl rfl rfl sl_24 (by repeat (first | exact .here | apply Put.there)) (by omega) (cut_length _ _ _ (by omega)) (fun _ => rfl) (by rw [cut_length _ _ _ (by omega)]; simp only [zrow_length, List.length_append, setMany_length]; omega) (src_cut (i * 4) ((n - i) * 4) (fun _ => rfl) (by repeat (first | exact .here | apply Pick.there))) (cut_one hx1 _ _)) (by kernel_rfl) (fun w h => h.ent (by repeat (first | exact .nil | refine .cons (by repeat (first | exact .here | apply Pick.there)) ?_))) rfl (fun _ _ => ?_)
        refine d_turn [] (by kernel_rfl) ?_
        refine d_nil (by kernel_rfl) (fun w h => h.ent (by repeat (first | exact .nil | refine .cons (by repeat (first | exact .here | apply Pick.there)) ?_))) ?_
        refine s_seq ?_
        refine s_region ?_
        refine o_p (p_pure rfl) rfl ?_
        refine o_p (p_pure rfl) rfl ?_
        refine o_nil ?_
        exact s_retv (rs := [.tmp 6]) rfl (.tmp rfl (.nil)) (fun w' h' => ⟨(some ⟨b4, 0, none⟩, c5), rfl, trivial, (HS.to_own (n := n + m) (xs := xs.take (i * 4) ++ news ++ xs.drop (i * 4)) (ds := []) (by repeat (first | exact .here | apply Pick.there)) h' (by have hq := ins_grow (xs := xs) (news := news) (z := zrow [.int .i64 0, .int .i64 0, .bool false, .slice none 0 0] ((n + m - i) * 4)) (p := i * 4) (q := m * 4) (N := n * 4) hxl (by omega) hl (by rw [zrow_length]; omega); rw [List.append_nil]; rw [show (i + m) * 4 = i * 4 + m * 4 from by omega, show (n - i) * 4 = n * 4 - i * 4 from by omega]; exact hq) (by simp only [List.length_append, List.length_take, List.length_drop]; omega) (by omega) (by omega)).ent (by repeat (first | exact .nil | refine .cons (by repeat (first | exact .here | apply Pick.there)) ?_))⟩)
      · try simp only [decide_eq_true_eq, decide_eq_false_iff_not, Bool.not_eq_true', Bool.not_eq_false', Bool.and_eq_true, Bool.or_eq_true, Bool.and_eq_false_iff, Bool.or_eq_false_iff, Bool.not_true, Bool.not_false] at h3
        refine s_skip ?_
        refine s_seq ?_
        refine s_region ?_
        refine o_p (p_pure rfl) rfl ?_
        refine o_p (p_pure rfl) rfl ?_
        refine o_p (p_pure rfl) rfl ?_
        refine o_p (p_pure rfl) rfl ?_
        try (refine o_slot (i64w (by omega) (by omega)) ?_)
        refine o_p (p_slice _ _ 0 (n + m) rfl rfl sl_24 rfl ⟨_, _, rfl, (by omega)⟩ (by omega) (by omega)) rfl ?_
        refine o_slot (show _ = Value.slice (some ⟨gg, 0, none⟩) (n + m) cap from by rw [subA_zero] <;> (congr 1 <;> omega)) ?_
        refine o_ex (fun w h => HS.blk_full (b := gg) (by repeat (first | exact .here | apply Pick.there)) h) fun ds => ?_
        refine o_fact (fun w h => h.1) fun hds => ?_
        refine o_class (fun w h => h.2) ?_
        refine o_p (p_pure rfl) rfl ?_
        refine o_nil ?_
        refine s_seq ?_
        refine s_seq ?_
        refine s_region ?_
        refine o_p (p_pure rfl) rfl ?_
        refine o_p (p_pure rfl) rfl ?_
        refine o_p (p_pure rfl) rfl ?_
        refine o_p (p_pure rfl) rfl ?_
        refine o_p (p_pure rfl) rfl ?_
        try (refine o_slot (i64w (by omega) (by omega)) ?_)
        refine o_p (p_slice _ _ (i + m) (n + m) rfl rfl sl_24 ⟨_, _, rfl, (by omega)⟩ rfl (by omega) (by omega)) rfl ?_
        refine o_slot (show _ = Value.slice (some ⟨gg, (i + m) * 4, none⟩) (n - i) (cap - (i + m)) from by rw [subA_lt (by omega)] <;> (congr 1 <;> omega)) ?_
        refine o_q (q_overlaps rfl ov_127 rfl rfl sl_24 (hp := (by repeat (first | exact .here | apply Pick.there))) (hp' := (by repeat (first | exact .here | apply Pick.there))) (by decide) (by omega) (by omega)) rfl ?_
        refine o_p (p_pure rfl) rfl ?_
        refine o_nil ?_
        refine s_cond rfl (fun h8 => ?_) (fun h8 => ?_)
        · try simp only [decide_eq_true_eq, decide_eq_false_iff_not, Bool.not_eq_true', Bool.not_eq_false', Bool.and_eq_true, Bool.or_eq_true, Bool.and_eq_false_iff, Bool.or_eq_false_iff, Bool.not_true, Bool.not_false] at h8
          refine s_seq ?_
          refine s_weaken (L' := [(0, _), (1, _), (2, _), (6, _), (7, _), (8, _)]) (by repeat (first | exact sl_n | refine sl_c rfl ?_)) (fun _ h => h) ?_
          refine s_draw [8] mixed ?_
          refine d_p 0 rfl (p_pure rfl) (by kernel_rfl) rfl rfl ?_
          refine d_p 1 rfl (p_pure rfl) (by kernel_rfl) rfl rfl ?_
          refine d_p 2 rfl (p_pure rfl) (by kernel_rfl) rfl rfl ?_
          refine d_p 3 rfl (p_pure rfl) (by kernel_rfl) rfl rfl ?_
          try (refine d_slot (i64w (by omega) (by omega)) ?_)
          refine d_p 4 rfl (p_slice _ _ (i + m) (n + m) rfl rfl sl_24 ⟨_, _, rfl, (by omega)⟩ rfl (by omega) (by omega)) (by kernel_rfl) rfl rfl ?_
          refine d_slot (show _ = Value.slice (some ⟨gg, (i + m) * 4, none⟩) (n - i) (cap - (i + m)) from by rw [subA_lt (by omega)] <;> (congr 1 <;> omega)) ?_
          refine d_p 5 rfl (p_pure rfl) (by kernel_rfl) rfl rfl ?_
          refine d_p 6 rfl (p_pure rfl) (by kernel_rfl) rfl rfl ?_
          refine d_p 7 rfl (p_slice _ _ i (n + m) rfl rfl sl_24 ⟨_, _, rfl, rfl⟩ rfl (by omega) (by omega)) (by kernel_rfl) rfl rfl ?_
          refine d_slot (show _ = Value.slice (some ⟨gg, i * 4, none⟩) (n + m - i) (cap - i) from by rw [subA_lt (by omega)] <;> (congr 1 <;> omega)) ?_
          refine d_h 8 rfl (h_copy (n - i) (cut (xs ++ ds) (i * 4) ((n - i) * 4)) rfl rfl rfl sl_24 (by repeat (first | exact .here | apply Put.there)) (by omega) (cut_length _ _ _ (by simp only [zrow_length, List.length_append, setMany_length]; omega)) (fun _ => rfl) (by rw [cut_length _ _ _ (by simp only [zrow_length, List.length_append, setMany_length]; omega)]; simp only [zrow_length, List.length_append, setMany_length]; omega) (src_cut (i * 4) ((n - i) * 4) (fun _ => rfl) (by repeat (first | exact .here | apply Pick.there))) (ins_one hx1 (by omega))) (by kernel_rfl) (fun w h => h.ent (by repeat (first | exact .nil | refine .cons (by repeat (first | exact .here | apply Pick.there)) ?_))) rfl (fun _ _ => ?_)
          refine d_turn [] (by kernel_rfl) ?_
          refine d_nil (by kernel_rfl) (fun w h => h.ent (by repeat (first | exact .nil | refine .cons (by repeat (first | exact .here | apply Pick.there)) ?_))) ?_
          refine s_seq ?_
          refine s_region ?_
          refine o_p (p_pure rfl) rfl ?_
          refine o_p (p_pure rfl) rfl ?_
          refine o_p (p_slice _ _ i (n + m) rfl rfl sl_24 ⟨_, _, rfl, rfl⟩ rfl (by omega) (by omega)) rfl ?_
          refine o_slot (show _ = Value.slice (some ⟨gg, i * 4, none⟩) (n + m - i) (cap - i) from by rw [subA_lt (by omega)] <;> (congr 1 <;> omega)) ?_
          refine o_p (p_pure rfl) rfl ?_
          refine o_h (h_copy m news rfl rfl rfl sl_24 (by repeat (first | exact .here | apply Put.there)) (by omega) hl (fun _ => rfl) (by simp only [zrow_length, List.length_append, setMany_length]; omega) (src_blk (by repeat (first | exact .here | apply Pick.there))) hn1) rfl (fun _ _ => ?_)
          refine o_nil ?_
          refine s_seq ?_
          refine s_region ?_
          refine o_p (p_pure rfl) rfl ?_
          refine o_p (p_pure rfl) rfl ?_
          refine o_nil ?_
          exact s_retv (rs := [.tmp 6]) rfl (.tmp rfl (.nil)) (fun w' h' => ⟨(some ⟨gg, 0, none⟩, cap), rfl, trivial, (HS.to_own (n := n + m) (xs := xs.take (i * 4) ++ news ++ xs.drop (i * 4)) (ds := ds.drop (m * 4)) (by repeat (first | exact .here | apply Pick.there)) h' (by have hq := ins_in (xs := xs) (ds := ds) (news := news) (p := i * 4) (q := m * 4) (N := n * 4) hxl (by omega) hl (by omega); rw [show (i + m) * 4 = i * 4 + m * 4 from by omega, show (n - i) * 4 = n * 4 - i * 4 from by omega]; exact hq) (by simp only [List.length_append, List.length_take, List.length_drop]; omega) (by omega) (by omega)).ent (by repeat (first | exact .nil | refine .cons (by repeat (first | exact .here | apply Pick.there)) ?_))⟩)
        · try simp only [decide_eq_true_eq, decide_eq_false_iff_not, Bool.not_eq_true', Bool.not_eq_false', Bool.and_eq_true, Bool.or_eq_true, Bool.and_eq_false_iff, Bool.or_eq_false_iff, Bool.not_true, Bool.not_false] at h8
          exfalso; first | omega | (simp at h8; done) | (simp_all; done)

theorem c116 (w : World) (a : Option Addr) (i n m cap : Nat) (xs news : List Value) (b0 c0 tot2 : Nat) (hw : HS w (fps [.own (.slice a n cap) 77 4 n xs, .blk b0 77 tot2 news]) [.own (.slice a n cap) 77 4 n xs, .blk b0 77 tot2 news] w) (hm0 : 0 < m) (hl : news.length = m * 4) (hn1 : ∀ u ∈ news, u.oneCell' = true) (hx1 : ∀ u ∈ xs, u.oneCell' = true) (hmax : (n + m) * 48 ≤ 140737488355328) (hi : i ≤ n) : Calls Try.prog 116 #[.slice a n cap, .int .i64 i, .slice (some ⟨b0, 0, none⟩) m c0] w fun en w' => ∃ g : Option Addr × Nat, en = .returned (.slice g.1 (n + m) g.2) ∧ True ∧ HS w (fps [.own (.slice a n cap) 77 4 n xs, .blk b0 77 tot2 news]) [.own (.slice g.1 (n + m) g.2) 77 4 (n + m) (xs.take (i * 4) ++ news ++ xs.drop (i * 4)), .blk b0 77 tot2 news] w' := by
  rcases Nat.lt_or_ge i n with h | h
  · obtain ⟨gg, rfl, _, hnc, hcm, hxl, hb⟩ := hw.own_blk (by omega) .here
    exact c116b w gg i n m cap xs news b0 c0 tot2 _ hb hnc hcm hxl hm0 hl hn1 hx1 hmax h
  · exact c116a w a i n m cap xs news b0 c0 tot2 hw hm0 hl hn1 hx1 hmax (by omega)

def eqK (fr cnt : Int) (k : Lock) : Bool := decide (k.fr = fr) && decide (k.cnt = cnt)
def unlockT (L : List Fil) (h fr cnt : Int) : List Fil × Int :=
  if (findF L h 0).2.2 = 0 then if rngE fr cnt = 0 then
    if ixB ((nth (nth L (findF L h 0).1).op (findF L h 0).2.1).lk.map (eqK fr cnt)) < (nth (nth L (findF L h 0).1).op (findF L h 0).2.1).lk.length then (updO L (findF L h 0).1 (findF L h 0).2.1 fun o => { o with lk := others o.lk (ixB (o.lk.map (eqK fr cnt))) }, 0) else (L, 6)
  else (L, rngE fr cnt) else (L, (findF L h 0).2.2)
theorem unlockT_e {L : List Fil} {h fr cnt : Int} (hn : ¬ firstV [.int .i64 (findF L h 0).2.2, .int .i64 (rngE fr cnt)] = 0) : unlockT L h fr cnt = (L, firstV [.int .i64 (findF L h 0).2.2, .int .i64 (rngE fr cnt)]) := by
  have e : firstV [.int .i64 (findF L h 0).2.2, .int .i64 (rngE fr cnt)] = if (findF L h 0).2.2 = 0 then rngE fr cnt else (findF L h 0).2.2 := by
    simp only [firstV]
    grind
  rw [e] at hn ⊢
  unfold unlockT
  grind
theorem first2_0 {a b : Int} (h : firstV [.int .i64 a, .int .i64 b] = 0) : a = 0 ∧ b = 0 := by
  simp only [firstV] at h
  grind
theorem others_len {α : Type} {l : List α} {i : Nat} (h : i < l.length) : (others l i).length = l.length - 1 := by
  simp only [others, List.length_append, List.length_take, List.length_drop]
  omega
theorem others_flat {α : Type} {vals : α → List Value} {sz : Nat} (hv : ∀ x, (vals x).length = sz) (l : List α) (i : Nat) : (l.flatMap vals).take (i * sz) ++ (l.flatMap vals).drop ((i + 1) * sz) = (others l i).flatMap vals := by
  rw [flat_take hv, flat_drop hv, others, flat_append]
def mayB (ops : List Opn) (k : Nat) (q : Lock) (kp : Bool → Bool → Bool) : Bool := (List.range ops.length).any fun n => (nth ops n).lk.any fun h => ovl h q && kp h.ex (decide (n ≠ k))
theorem mayB_hit {ops : List Opn} {k n m : Nat} {q : Lock} {kp : Bool → Bool → Bool} (hn : n < ops.length) (hm : m < (nth ops n).lk.length) (h : (ovl (nth (nth ops n).lk m) q && kp (nth (nth ops n).lk m).ex (decide (n ≠ k))) = true) : mayB ops k q kp = true := by
  unfold mayB
  rw [List.any_eq_true]
  refine ⟨n, List.mem_range.2 hn, ?_⟩
  rw [List.any_eq_true]
  exact ⟨_, mem_nth hm, h⟩
theorem mayB_no {ops : List Opn} {k : Nat} {q : Lock} {kp : Bool → Bool → Bool} (h : ∀ n, n < ops.length → ∀ m, m < (nth ops n).lk.length → (ovl (nth (nth ops n).lk m) q && kp (nth (nth ops n).lk m).ex (decide (n ≠ k))) = false) : mayB ops k q kp = false := by
  unfold mayB
  rw [List.any_eq_false]
  intro n hn
  rw [List.mem_range] at hn
  have : ((nth ops n).lk.any fun h => ovl h q && kp h.ex (decide (n ≠ k))) = false := by
    rw [List.any_eq_false]
    intro x hx
    obtain ⟨m, hm, e⟩ := List.getElem_of_mem hx
    have e2 : nth (nth ops n).lk m = x := nth_eq (by rw [List.getElem?_eq_getElem hm, e])
    have := h n hn m hm
    rw [e2] at this
    rw [this]
    decide
  rw [this]
  decide
def mayT (L : List Fil) (h : Int) (q : Lock) (acc : Nat) (kp : Bool → Bool → Bool) : Int :=
  if (findF L h 0).2.2 = 0 then if rngE q.fr q.cnt = 0 then if hasB (nth (nth L (findF L h 0).1).op (findF L h 0).2.1).ac acc = true then if mayB (nth L (findF L h 0).1).op (findF L h 0).2.1 q kp = true then 29 else 0 else 27 else rngE q.fr q.cnt else (findF L h 0).2.2
theorem mayT_e {L : List Fil} {h : Int} {q : Lock} {acc : Nat} {kp : Bool → Bool → Bool} (hn : ¬ firstV [.int .i64 (findF L h 0).2.2, .int .i64 (rngE q.fr q.cnt)] = 0) : mayT L h q acc kp = firstV [.int .i64 (findF L h 0).2.2, .int .i64 (rngE q.fr q.cnt)] := by
  have e : firstV [.int .i64 (findF L h 0).2.2, .int .i64 (rngE q.fr q.cnt)] = if (findF L h 0).2.2 = 0 then rngE q.fr q.cnt else (findF L h 0).2.2 := by
    simp only [firstV]
    grind
  rw [e] at hn ⊢
  unfold mayT
  grind
def rdK (ex oth : Bool) : Bool := ex && oth
def wrK (ex oth : Bool) : Bool := !ex || oth

set_option maxRecDepth 20000 in
theorem c106 (w : World) (b b2 : Nat) (k : Lock) (fr cnt : Int) (hr : Rd w [] b 0 (.int .i64 fr)) (hr2 : Rd w [] b2 0 (.int .i64 cnt)) : Calls Try.prog 106 #[.agg #[.int .i64 k.fr, .int .i64 k.cnt, .bool k.ex], .pointer (some ⟨b, 0, none⟩), .pointer (some ⟨b2, 0, none⟩)] w fun en w' => en = .returned (.bool (eqK fr cnt k)) ∧ Below w.heap.size w w' := by
  refine enter (args := [_, _, _]) Try.func106 Try.ntmps106 rfl rfl (HS.refl w []) ?_
  refine s_seq ?_
  refine s_region ?_
  refine o_h (h_box rfl rfl) rfl (fun b1 _ => ?_)
  refine o_p (p_pure rfl) rfl ?_
  refine o_nil ?_
  refine s_seq ?_
  refine s_region ?_
  refine o_p (p_fieldAddr rfl rfl fd_62_0 sz_3 rfl) rfl ?_
  first | refine o_q (q_load rfl rfl sz_3 (by repeat (first | exact .here | apply Pick.there)) rfl) rfl ?_ | refine o_q (q_load_old rfl rfl sz_3 (hr)) rfl ?_ | refine o_q (q_load_old rfl rfl sz_3 (hr2)) rfl ?_
  first | refine o_q (q_load rfl rfl sz_3 (by repeat (first | exact .here | apply Pick.there)) rfl) rfl ?_ | refine o_q (q_load_old rfl rfl sz_3 (hr)) rfl ?_ | refine o_q (q_load_old rfl rfl sz_3 (hr2)) rfl ?_
  refine o_p (p_pure rfl) rfl ?_
  refine o_p (p_pure rfl) rfl ?_
  refine o_and 5 9 14 _ _ rfl
    (by
      intro hg2
      have hs3 := hg2; try simp only [decide_eq_true_eq, decide_eq_false_iff_not, Bool.not_eq_true', Bool.not_eq_false', Bool.and_eq_true, Bool.or_eq_true, Bool.and_eq_false_iff, Bool.or_eq_false_iff, Bool.not_true, Bool.not_false] at hs3
      refine o_on 9 _ rfl rfl hg2 ?_
      refine o_p (p_fieldAddr rfl rfl fd_62_1 sz_3 rfl) rfl ?_
      refine o_on 9 _ rfl rfl hg2 ?_
      first | refine o_q (q_load rfl rfl sz_3 (by repeat (first | exact .here | apply Pick.there)) rfl) rfl ?_ | refine o_q (q_load_old rfl rfl sz_3 (hr)) rfl ?_ | refine o_q (q_load_old rfl rfl sz_3 (hr2)) rfl ?_
      refine o_on 9 _ rfl rfl hg2 ?_
      first | refine o_q (q_load rfl rfl sz_3 (by repeat (first | exact .here | apply Pick.there)) rfl) rfl ?_ | refine o_q (q_load_old rfl rfl sz_3 (hr)) rfl ?_ | refine o_q (q_load_old rfl rfl sz_3 (hr2)) rfl ?_
      refine o_on 9 _ rfl rfl hg2 ?_
      refine o_p (p_pure rfl) rfl ?_
      refine o_p (p_pickt rfl rfl hg2 rfl) rfl ?_
      refine o_nil ?_
      exact s_joinN 5 14 _ rfl rfl rfl (fun w h => by first | exact h | exact h.ent (by repeat (first | exact .nil | refine .cons (by repeat (first | exact .here | apply Pick.there)) ?_))))
    (by
      intro hg4
      have hs5 := hg4; try simp only [decide_eq_true_eq, decide_eq_false_iff_not, Bool.not_eq_true', Bool.not_eq_false', Bool.and_eq_true, Bool.or_eq_true, Bool.and_eq_false_iff, Bool.or_eq_false_iff, Bool.not_true, Bool.not_false] at hs5
      refine o_off 9 _ rfl rfl hg4 rfl ?_
      refine o_off 9 _ rfl rfl hg4 rfl ?_
      refine o_off 9 _ rfl rfl hg4 rfl ?_
      refine o_off 9 _ rfl rfl hg4 rfl ?_
      refine o_p (p_pickf rfl rfl hg4 rfl) rfl ?_
      refine o_nil ?_
      exact s_joinN 5 14 _ rfl rfl rfl (fun w h => by first | exact h | exact h.ent (by repeat (first | exact .nil | refine .cons (by repeat (first | exact .here | apply Pick.there)) ?_)))) ?_
  refine o_p (p_pure rfl) rfl ?_
  refine o_nil ?_
  exact s_retv (rs := [.tmp 4]) rfl (.tmp rfl (.nil)) (fun w' h' => ⟨by simp only [retV, eqK], h'.below⟩)

set_option maxRecDepth 20000 in
theorem c74 (w : World) (bt : Nat) (next : Int) (a : Option Addr) (cap : Nat) (L : List LFil) (h fr cnt : Int) (hw : HS w (fps [.blk bt 106 2 [.int .i64 (next), .slice a (L).length cap], .files a cap (L)]) [.blk bt 106 2 [.int .i64 (next), .slice a (L).length cap], .files a cap (L)] w) (hV : VW (pls L)) : Calls Try.prog 74 #[.pointer (some ⟨bt, 0, none⟩), .int .i64 h, .int .i64 fr, .int .i64 cnt] w fun en w' => ∃ g : (Option Addr × Nat) × List LFil, en = .returned (.int .i64 (unlockT (pls L) h fr cnt).2) ∧ pls g.2 = (unlockT (pls L) h fr cnt).1 ∧ HS w (fps [.blk bt 106 2 [.int .i64 (next), .slice a (L).length cap], .files a cap (L)]) [.blk bt 106 2 [.int .i64 (next), .slice g.1.1 (g.2).length g.1.2], .files g.1.1 g.1.2 (g.2)] w' := by
  refine enter (args := [_, _, _, _]) Try.func74 Try.ntmps74 rfl rfl hw ?_
  refine s_seq ?_
  refine s_region ?_
  refine o_h (h_box rfl rfl) rfl (fun b1 _ => ?_)
  refine o_h (h_box rfl rfl) rfl (fun b2 _ => ?_)
  refine o_p (p_pure rfl) rfl ?_
  refine o_nil ?_
  refine s_seq ?_
  refine s_region ?_
  refine o_p (p_pure rfl) rfl ?_
  refine o_p (p_pure rfl) rfl ?_
  refine o_q (q_call rfl fn_100 rfl (fun w1 h1 => c100 w1 bt _ _ L h (h1.rd_blk (Mc := []) (by repeat (first | exact .here | apply Pick.there)) rfl (by simp)) (h1.ft (by repeat (first | exact .here | apply Pick.there))) (by have := (VW.lens hV).1; omega) (fun f hf => by have := (VW.lens hV).2 f hf; omega))) rfl ?_
  refine o_p (p_pure rfl) rfl ?_
  refine o_p (p_pure rfl) rfl ?_
  refine o_p (p_pure rfl) rfl ?_
  refine o_p (p_pure rfl) rfl ?_
  refine o_p (p_pure rfl) rfl ?_
  refine o_p (p_pure rfl) rfl ?_
  refine o_p (p_pure rfl) rfl ?_
  refine o_nil ?_
  refine s_seq ?_
  refine s_seq ?_
  refine s_region ?_
  refine o_p (p_pure rfl) rfl ?_
  first | refine o_q (q_load rfl rfl sz_3 (by repeat (first | exact .here | apply Pick.there)) rfl) rfl ?_ | refine o_q (q_load_at rfl rfl sz_3 (fun w h => (h.rd_blk (Mc := []) (by repeat (first | exact .here | apply Pick.there)) rfl (by simp)))) rfl ?_ | refine o_q (q_load_at rfl rfl sz_3 (fun w h => (HS.ft (a := some ⟨ga, 0, none⟩) (cap := cap) (l := L) h (by repeat (first | exact .here | apply Pick.there))).1.rdj 3 hi rfl)) rfl ?_ | refine o_q (q_load_at rfl rfl sz_3 (fun w h => by have h9 := ((HS.ft (a := some ⟨ga, 0, none⟩) (cap := cap) (l := L) h (by repeat (first | exact .here | apply Pick.there))).at hi).1.rdj 1 hk rfl; rw [hoa] at h9; exact h9)) rfl ?_ | refine o_q (q_load_at rfl rfl sz_3 (fun w h => by have h9 := ((HS.ft (a := some ⟨ga, 0, none⟩) (cap := cap) (l := L) h (by repeat (first | exact .here | apply Pick.there))).at hi).1.rdj 4 hk rfl; rw [hoa] at h9; exact h9)) rfl ?_ | refine o_q (q_load_at rfl rfl sz_3 (fun w h => (h.rd_blk (Mc := []) (b := go) (by repeat (first | exact .here | apply Pick.there)) (by rw [flat_get ov5 _ k 4 _ (nth_get hk) (by decide)]; rfl) (by simp)))) rfl ?_
  first | refine o_q (q_load rfl rfl sz_3 (by repeat (first | exact .here | apply Pick.there)) rfl) rfl ?_ | refine o_q (q_load_at rfl rfl sz_3 (fun w h => (h.rd_blk (Mc := []) (by repeat (first | exact .here | apply Pick.there)) rfl (by simp)))) rfl ?_ | refine o_q (q_load_at rfl rfl sz_3 (fun w h => (HS.ft (a := some ⟨ga, 0, none⟩) (cap := cap) (l := L) h (by repeat (first | exact .here | apply Pick.there))).1.rdj 3 hi rfl)) rfl ?_ | refine o_q (q_load_at rfl rfl sz_3 (fun w h => by have h9 := ((HS.ft (a := some ⟨ga, 0, none⟩) (cap := cap) (l := L) h (by repeat (first | exact .here | apply Pick.there))).at hi).1.rdj 1 hk rfl; rw [hoa] at h9; exact h9)) rfl ?_ | refine o_q (q_load_at rfl rfl sz_3 (fun w h => by have h9 := ((HS.ft (a := some ⟨ga, 0, none⟩) (cap := cap) (l := L) h (by repeat (first | exact .here | apply Pick.there))).at hi).1.rdj 4 hk rfl; rw [hoa] at h9; exact h9)) rfl ?_ | refine o_q (q_load_at rfl rfl sz_3 (fun w h => (h.rd_blk (Mc := []) (b := go) (by repeat (first | exact .here | apply Pick.there)) (by rw [flat_get ov5 _ k 4 _ (nth_get hk) (by decide)]; rfl) (by simp)))) rfl ?_
  refine o_q (q_call rfl fn_94 rfl (fun w1 h1 => c94 w1 _ _)) rfl ?_
  refine o_h (h_buildSlice (cs := [_, _]) rfl rfl sl_146 zr_28 rfl rfl rfl) rfl (fun b3 _ => ?_)
  refine o_q (q_call rfl fn_52 rfl (fun w1 h1 => f52 h1 (by repeat (first | exact .here | apply Pick.there)) (by rfl) (by rfl) (by decide))) rfl ?_
  refine o_p (p_pure rfl) rfl ?_
  refine o_nil ?_
  refine s_seq ?_
  refine s_region ?_
  refine o_p (p_pure rfl) rfl ?_
  refine o_p (p_pure rfl) rfl ?_
  refine o_nil ?_
  refine s_cond rfl (fun h4 => ?_) (fun h4 => ?_)
  · try simp only [decide_eq_true_eq, decide_eq_false_iff_not, Bool.not_eq_true', Bool.not_eq_false', Bool.and_eq_true, Bool.or_eq_true, Bool.and_eq_false_iff, Bool.or_eq_false_iff, Bool.not_true, Bool.not_false] at h4
    refine s_seq ?_
    refine s_region ?_
    refine o_p (p_pure rfl) rfl ?_
    refine o_p (p_pure rfl) rfl ?_
    refine o_nil ?_
    exact s_retv (rs := [.tmp 8]) rfl (.tmp rfl (.nil)) (fun w' h' => ⟨((a, cap), L), by rw [unlockT_e h4]; rfl, by rw [unlockT_e h4], h'.ent (by repeat (first | exact .nil | refine .cons (by repeat (first | exact .here | apply Pick.there)) ?_))⟩)
  · try simp only [decide_eq_true_eq, decide_eq_false_iff_not, Bool.not_eq_true', Bool.not_eq_false', Bool.and_eq_true, Bool.or_eq_true, Bool.and_eq_false_iff, Bool.or_eq_false_iff, Bool.not_true, Bool.not_false] at h4
    have hz := first2_0 h4
    obtain ⟨i, k, hfe, hi, hk, hV3⟩ := findF_some hV hz.1
    rw [hfe]
    obtain ⟨ga, rfl, hcap, hcm⟩ := files_addr (by omega) hw (.there .here)
    obtain ⟨go, hoa, hoc, hom⟩ := file_addr hi (by omega) hw (.there .here)
    dsimp only
    refine s_skip ?_
    refine s_seq ?_
    refine s_region ?_
    refine o_p (p_pure rfl) rfl ?_
    refine o_p (p_pure rfl) rfl ?_
    refine o_p (p_fieldAddr rfl rfl fd_106_0 sz_26 rfl) rfl ?_
    refine o_p (p_fieldAddr rfl rfl fd_26_1 sz_24 rfl) rfl ?_
    first | refine o_q (q_load rfl rfl sz_24 (by repeat (first | exact .here | apply Pick.there)) rfl) rfl ?_ | refine o_q (q_load_at rfl rfl sz_24 (fun w h => (h.rd_blk (Mc := []) (by repeat (first | exact .here | apply Pick.there)) rfl (by simp)))) rfl ?_ | refine o_q (q_load_at rfl rfl sz_24 (fun w h => (HS.ft (a := some ⟨ga, 0, none⟩) (cap := cap) (l := L) h (by repeat (first | exact .here | apply Pick.there))).1.rdj 3 hi rfl)) rfl ?_ | refine o_q (q_load_at rfl rfl sz_24 (fun w h => by have h9 := ((HS.ft (a := some ⟨ga, 0, none⟩) (cap := cap) (l := L) h (by repeat (first | exact .here | apply Pick.there))).at hi).1.rdj 1 hk rfl; rw [hoa] at h9; exact h9)) rfl ?_ | refine o_q (q_load_at rfl rfl sz_24 (fun w h => by have h9 := ((HS.ft (a := some ⟨ga, 0, none⟩) (cap := cap) (l := L) h (by repeat (first | exact .here | apply Pick.there))).at hi).1.rdj 4 hk rfl; rw [hoa] at h9; exact h9)) rfl ?_ | refine o_q (q_load_at rfl rfl sz_24 (fun w h => (h.rd_blk (Mc := []) (b := go) (by repeat (first | exact .here | apply Pick.there)) (by rw [flat_get ov5 _ k 4 _ (nth_get hk) (by decide)]; rfl) (by simp)))) rfl ?_
    refine o_p (p_pure rfl) rfl ?_
    first | refine o_p (p_indexAddr rfl rfl rfl sl_24 (i) (by omega) (by omega) rfl) rfl ?_ | refine o_p (p_indexAddr rfl rfl rfl sl_24 (i) (by omega) (by omega) hoa) rfl ?_
    refine o_p (p_fieldAddr rfl rfl fd_77_2 sz_75 rfl) rfl ?_
    first | refine o_q (q_load rfl rfl sz_75 (by repeat (first | exact .here | apply Pick.there)) rfl) rfl ?_ | refine o_q (q_load_at rfl rfl sz_75 (fun w h => (h.rd_blk (Mc := []) (by repeat (first | exact .here | apply Pick.there)) rfl (by simp)))) rfl ?_ | refine o_q (q_load_at rfl rfl sz_75 (fun w h => (HS.ft (a := some ⟨ga, 0, none⟩) (cap := cap) (l := L) h (by repeat (first | exact .here | apply Pick.there))).1.rdj 3 hi rfl)) rfl ?_ | refine o_q (q_load_at rfl rfl sz_75 (fun w h => by have h9 := ((HS.ft (a := some ⟨ga, 0, none⟩) (cap := cap) (l := L) h (by repeat (first | exact .here | apply Pick.there))).at hi).1.rdj 1 hk rfl; rw [hoa] at h9; exact h9)) rfl ?_ | refine o_q (q_load_at rfl rfl sz_75 (fun w h => by have h9 := ((HS.ft (a := some ⟨ga, 0, none⟩) (cap := cap) (l := L) h (by repeat (first | exact .here | apply Pick.there))).at hi).1.rdj 4 hk rfl; rw [hoa] at h9; exact h9)) rfl ?_ | refine o_q (q_load_at rfl rfl sz_75 (fun w h => (h.rd_blk (Mc := []) (b := go) (by repeat (first | exact .here | apply Pick.there)) (by rw [flat_get ov5 _ k 4 _ (nth_get hk) (by decide)]; rfl) (by simp)))) rfl ?_
    refine o_p (p_pure rfl) rfl ?_
    first | refine o_p (p_indexAddr rfl rfl rfl sl_75 (k) (by omega) (by omega) rfl) rfl ?_ | refine o_p (p_indexAddr rfl rfl rfl sl_75 (k) (by omega) (by omega) hoa) rfl ?_
    refine o_p (p_pure rfl) rfl ?_
    refine o_nil ?_
    refine s_seq ?_
    refine s_weaken (L' := [(6, _), (7, _), (8, _), (12, _)]) (by repeat (first | exact sl_n | refine sl_c rfl ?_)) (fun _ h => h) ?_
    refine s_region ?_
    refine o_p (p_pure rfl) rfl ?_
    refine o_p (p_pure rfl) rfl ?_
    refine o_p (p_fieldAddr rfl rfl fd_48_4 sz_46 rfl) rfl ?_
    first | refine o_q (q_load rfl rfl sz_46 (by repeat (first | exact .here | apply Pick.there)) rfl) rfl ?_ | refine o_q (q_load_at rfl rfl sz_46 (fun w h => (h.rd_blk (Mc := []) (by repeat (first | exact .here | apply Pick.there)) rfl (by simp)))) rfl ?_ | refine o_q (q_load_at rfl rfl sz_46 (fun w h => (HS.ft (a := some ⟨ga, 0, none⟩) (cap := cap) (l := L) h (by repeat (first | exact .here | apply Pick.there))).1.rdj 3 hi rfl)) rfl ?_ | refine o_q (q_load_at rfl rfl sz_46 (fun w h => by have h9 := ((HS.ft (a := some ⟨ga, 0, none⟩) (cap := cap) (l := L) h (by repeat (first | exact .here | apply Pick.there))).at hi).1.rdj 1 hk rfl; rw [hoa] at h9; exact h9)) rfl ?_ | refine o_q (q_load_at rfl rfl sz_46 (fun w h => by have h9 := ((HS.ft (a := some ⟨ga, 0, none⟩) (cap := cap) (l := L) h (by repeat (first | exact .here | apply Pick.there))).at hi).1.rdj 4 hk rfl; rw [hoa] at h9; exact h9)) rfl ?_ | refine o_q (q_load_at rfl rfl sz_46 (fun w h => (h.rd_blk (Mc := []) (b := go) (by repeat (first | exact .here | apply Pick.there)) (by rw [flat_get ov5 _ k 4 _ (nth_get hk) (by decide)]; rfl) (by simp)))) rfl ?_
    refine o_p (p_pure rfl) rfl ?_
    refine o_q (q_call rfl fn_105 rfl (fun w1 h1 => c105 w1 (nth (nth L i).op k).la (nth (nth L i).op k).lc (nth (nth L i).op k).lk 106 #[.pointer (some ⟨b1, 0, none⟩), .pointer (some ⟨b2, 0, none⟩)] ((nth (nth L i).op k).lk.map (eqK fr cnt)) (((HS.ft (a := some ⟨ga, 0, none⟩) (cap := cap) (l := L) h1 (by repeat (first | exact .here | apply Pick.there))).at hi).at hk) (by have := hV3.2.2; omega) (by kernel_rfl) (by simp) (fun j w2 hj h2 => by rw [map_getD_nthB hj]; exact c106 w2 b1 b2 _ fr cnt ((h1.rd_blk (Mc := []) (b := b1) (by repeat (first | exact .here | apply Pick.there)) rfl (by simp)).next h2) ((h1.rd_blk (Mc := []) (b := b2) (by repeat (first | exact .here | apply Pick.there)) rfl (by simp)).next h2)))) rfl ?_
    refine o_p (p_pure rfl) rfl ?_
    refine o_nil ?_
    refine s_seq ?_
    refine s_seq ?_
    refine s_region ?_
    refine o_p (p_pure rfl) rfl ?_
    refine o_p (p_pure rfl) rfl ?_
    refine o_nil ?_
    refine s_cond rfl (fun h5 => ?_) (fun h5 => ?_)
    · try simp only [decide_eq_true_eq, decide_eq_false_iff_not, Bool.not_eq_true', Bool.not_eq_false', Bool.and_eq_true, Bool.or_eq_true, Bool.and_eq_false_iff, Bool.or_eq_false_iff, Bool.not_true, Bool.not_false] at h5
      have hix : ¬ (ixB ((nth (nth L i).op k).lk.map (eqK fr cnt))) < (nth (nth L i).op k).lk.length := by have hq := h5; unfold ixI at hq; rw [List.length_map] at hq; intro h9; rw [if_pos h9] at hq; omega
      refine s_seq ?_
      refine s_region ?_
      refine o_p (p_pure rfl) rfl ?_
      refine o_nil ?_
      exact s_retv (rs := [.tmp 8]) rfl (.tmp rfl (.nil)) (fun w' h' => ⟨((some ⟨ga, 0, none⟩, cap), L), by rw [unlockT, hfe]; simp only [if_true]; rw [if_pos hz.2, nth_pls hi, LFil.pl, nth_plo hk]; skip; rw [if_neg (by simp only [LOpn.pl]; exact hix)]; rfl, by rw [unlockT, hfe]; simp only [if_true]; rw [if_pos hz.2, nth_pls hi, LFil.pl, nth_plo hk]; skip; rw [if_neg (by simp only [LOpn.pl]; exact hix)], h'.ent (by repeat (first | exact .nil | refine .cons (by repeat (first | exact .here | apply Pick.there)) ?_))⟩)
    · try simp only [decide_eq_true_eq, decide_eq_false_iff_not, Bool.not_eq_true', Bool.not_eq_false', Bool.and_eq_true, Bool.or_eq_true, Bool.and_eq_false_iff, Bool.or_eq_false_iff, Bool.not_true, Bool.not_false] at h5
      have hix : (ixB ((nth (nth L i).op k).lk.map (eqK fr cnt))) < (nth (nth L i).op k).lk.length := by have hq := h5; unfold ixI at hq; rw [List.length_map] at hq; split at hq <;> first | assumption | omega
      have hixi : ixI ((nth (nth L i).op k).lk.map (eqK fr cnt)) = ((ixB ((nth (nth L i).op k).lk.map (eqK fr cnt))) : Int) := by unfold ixI; rw [List.length_map, if_pos hix]
      rw [hixi]
      have hl16 : (nth (nth L i).op k).lk.length ≤ 16 := hV3.2.2
      refine s_class (fun w h => HS.lock_at hi hk hoa h (by repeat (first | exact .here | apply Pick.there))) ?_
      refine s_skip ?_
      refine s_seq ?_
      refine s_region ?_
      refine o_p (p_pure rfl) rfl ?_
      refine o_p (p_pure rfl) rfl ?_
      refine o_p (p_pure rfl) rfl ?_
      refine o_p (p_fieldAddr rfl rfl fd_48_4 sz_46 rfl) rfl ?_
      refine o_slot (show _ = Value.pointer (some ⟨go, k * 5 + 4, none⟩) from by rw [Nat.zero_add]) ?_
      first | refine o_q (q_load rfl rfl sz_46 (by repeat (first | exact .here | apply Pick.there)) rfl) rfl ?_ | refine o_q (q_load_at rfl rfl sz_46 (fun w h => (h.rd_blk (Mc := []) (by repeat (first | exact .here | apply Pick.there)) rfl (by simp)))) rfl ?_ | refine o_q (q_load_at rfl rfl sz_46 (fun w h => (HS.ft (a := some ⟨ga, 0, none⟩) (cap := cap) (l := L) h (by repeat (first | exact .here | apply Pick.there))).1.rdj 3 hi rfl)) rfl ?_ | refine o_q (q_load_at rfl rfl sz_46 (fun w h => by have h9 := ((HS.ft (a := some ⟨ga, 0, none⟩) (cap := cap) (l := L) h (by repeat (first | exact .here | apply Pick.there))).at hi).1.rdj 1 hk rfl; rw [hoa] at h9; exact h9)) rfl ?_ | refine o_q (q_load_at rfl rfl sz_46 (fun w h => by have h9 := ((HS.ft (a := some ⟨ga, 0, none⟩) (cap := cap) (l := L) h (by repeat (first | exact .here | apply Pick.there))).at hi).1.rdj 4 hk rfl; rw [hoa] at h9; exact h9)) rfl ?_ | refine o_q (q_load_at rfl rfl sz_46 (fun w h => (h.rd_blk (Mc := []) (b := go) (by repeat (first | exact .here | apply Pick.there)) (by rw [flat_get ov5 _ k 4 _ (nth_get hk) (by decide)]; rfl) (by simp)))) rfl ?_
      refine o_p (p_pure rfl) rfl ?_
      refine o_p (p_pure rfl) rfl ?_
      refine o_p (p_pure rfl) rfl ?_
      try (refine o_slot (i64w (by omega) (by omega)) ?_)
      refine o_h (h_callF (Cs := [.own (.slice (nth (nth L i).op k).la (nth (nth L i).op k).lk.length (nth (nth L i).op k).lc) 62 3 (nth (nth L i).op k).lk.length ((nth (nth L i).op k).lk.flatMap Lock.vals)]) rfl fn_107 rfl (by repeat (first | exact Picks.nil | (apply Picks.cons; · (repeat (first | exact .here | apply Pick.there))))) (fun w1 h1 hf => by have h9 := c107 w1 (nth (nth L i).op k).la (ixB ((nth (nth L i).op k).lk.map (eqK fr cnt))) ((ixB ((nth (nth L i).op k).lk.map (eqK fr cnt))) + 1) (nth (nth L i).op k).lk.length (nth (nth L i).op k).lc ((nth (nth L i).op k).lk.flatMap Lock.vals) hf (flat_one lv1 _) (by omega) (by omega) (by omega); rw [others_flat lv3, show (nth (nth L i).op k).lk.length - ((ixB ((nth (nth L i).op k).lk.map (eqK fr cnt))) + 1 - (ixB ((nth (nth L i).op k).lk.map (eqK fr cnt)))) = (others (nth (nth L i).op k).lk (ixB ((nth (nth L i).op k).lk.map (eqK fr cnt)))).length by rw [others_len hix]; omega] at h9; exact h9)) rfl (fun _ _ => ?_)
      refine o_p (p_pure rfl) rfl ?_
      refine o_p (p_fieldAddr rfl rfl fd_48_4 sz_46 rfl) rfl ?_
      refine o_slot (show _ = Value.pointer (some ⟨go, k * 5 + 4, none⟩) from by rw [Nat.zero_add]) ?_
      refine o_h0 (h_store rfl rfl rfl sz_46 rfl (by repeat (first | exact .here | apply Put.there)) (by rw [flat_length ov5]; omega) rfl) (fun _ _ => ?_)
      refine o_nil ?_
      refine s_seq ?_
      refine s_region ?_
      refine o_p (p_pure rfl) rfl ?_
      refine o_nil ?_
      exact s_retv (rs := [.tmp 8]) rfl (.tmp rfl (.nil)) (fun w' h' => ⟨((some ⟨ga, 0, none⟩, cap), L.set i { nth L i with op := (nth L i).op.set k { (nth (nth L i).op k) with lk := others (nth (nth L i).op k).lk (ixB ((nth (nth L i).op k).lk.map (eqK fr cnt))) } }), by rw [unlockT, hfe]; simp only [if_true]; rw [if_pos hz.2, nth_pls hi, LFil.pl, nth_plo hk]; skip; rw [if_pos (by simp only [LOpn.pl]; exact hix)]; rfl, by rw [unlockT, hfe]; simp only [if_true]; rw [if_pos hz.2, nth_pls hi, LFil.pl, nth_plo hk]; skip; rw [if_pos (by simp only [LOpn.pl]; exact hix)]; exact upd_lk (o := { (nth (nth L i).op k) with lk := others (nth (nth L i).op k).lk (ixB ((nth (nth L i).op k).lk.map (eqK fr cnt))) }) (u := fun o => { o with lk := others o.lk (ixB (o.lk.map (eqK fr cnt))) }) hi hk rfl, by have h2 := HS.lock_put (o := { (nth (nth L i).op k) with lk := others (nth (nth L i).op k).lk (ixB ((nth (nth L i).op k).lk.map (eqK fr cnt))) }) hi hk hoa (h'.ent (Bs := [.blk go 48 ((nth L i).oc * 5) _, .locks (nth (nth L i).op k).la (nth (nth L i).op k).lc (others (nth (nth L i).op k).lk (ixB ((nth (nth L i).op k).lk.map (eqK fr cnt)))), .star ((others (nth L i).op k).map subO), .blk ga 77 (cap * 4) (L.flatMap LFil.vals), .star ((others L i).map subF), .blk bt 106 2 [.int .i64 next, .slice (some ⟨ga, 0, none⟩) L.length cap]]) (by repeat (first | exact .nil | refine .cons (by repeat (first | exact .here | apply Pick.there)) ?_))) (flat_set ov5 (nth L i).op k 4 [.slice (nth (nth L i).op k).la (others (nth (nth L i).op k).lk (ixB ((nth (nth L i).op k).lk.map (eqK fr cnt)))).length (nth (nth L i).op k).lc] (nth (nth L i).op k) _ (nth_get hk) (by simp [LOpn.vals, setMany]) (by simp)) hoc hom hcap hcm; rw [List.length_set]; exact h2.ent (by repeat (first | exact .nil | refine .cons (by repeat (first | exact .here | apply Pick.there)) ?_))⟩)

set_option maxRecDepth 20000 in
theorem c109 (w : World) (k : Lock) (o : Bool) : Calls Try.prog 109 #[.agg #[.int .i64 k.fr, .int .i64 k.cnt, .bool k.ex], .bool o] w fun en w' => en = .returned (.bool (rdK k.ex o)) ∧ Below w.heap.size w w' := by
  refine enter (args := [_, _]) Try.func109 Try.ntmps109 rfl rfl (HS.refl w []) ?_
  refine s_seq ?_
  refine s_region ?_
  refine o_h (h_box rfl rfl) rfl (fun b1 _ => ?_)
  refine o_p (p_pure rfl) rfl ?_
  refine o_nil ?_
  refine s_seq ?_
  refine s_region ?_
  refine o_p (p_fieldAddr rfl rfl fd_62_2 sz_4 rfl) rfl ?_
  refine o_q (q_load rfl rfl sz_4 (by repeat (first | exact .here | apply Pick.there)) rfl) rfl ?_
  refine o_p (p_pure rfl) rfl ?_
  refine o_and 2 7 9 _ _ rfl
    (by
      intro hg2
      have hs3 := hg2; try simp only [decide_eq_true_eq, decide_eq_false_iff_not, Bool.not_eq_true', Bool.not_eq_false', Bool.and_eq_true, Bool.or_eq_true, Bool.and_eq_false_iff, Bool.or_eq_false_iff, Bool.not_true, Bool.not_false] at hs3
      refine o_on 7 _ rfl rfl hg2 ?_
      refine o_p (p_pure rfl) rfl ?_
      refine o_p (p_pickt rfl rfl hg2 rfl) rfl ?_
      refine o_nil ?_
      exact s_joinN 2 9 _ rfl rfl rfl (fun w h => by first | exact h | exact h.ent (by repeat (first | exact .nil | refine .cons (by repeat (first | exact .here | apply Pick.there)) ?_))))
    (by
      intro hg4
      have hs5 := hg4; try simp only [decide_eq_true_eq, decide_eq_false_iff_not, Bool.not_eq_true', Bool.not_eq_false', Bool.and_eq_true, Bool.or_eq_true, Bool.and_eq_false_iff, Bool.or_eq_false_iff, Bool.not_true, Bool.not_false] at hs5
      refine o_off 7 _ rfl rfl hg4 rfl ?_
      refine o_p (p_pickf rfl rfl hg4 rfl) rfl ?_
      refine o_nil ?_
      exact s_joinN 2 9 _ rfl rfl rfl (fun w h => by first | exact h | exact h.ent (by repeat (first | exact .nil | refine .cons (by repeat (first | exact .here | apply Pick.there)) ?_)))) ?_
  refine o_p (p_pure rfl) rfl ?_
  refine o_nil ?_
  exact s_retv (rs := [.tmp 4]) rfl (.tmp rfl (.nil)) (fun w' h' => ⟨by simp only [retV, rdK], h'.below⟩)

set_option maxRecDepth 20000 in
theorem c110 (w : World) (k : Lock) (o : Bool) : Calls Try.prog 110 #[.agg #[.int .i64 k.fr, .int .i64 k.cnt, .bool k.ex], .bool o] w fun en w' => en = .returned (.bool (wrK k.ex o)) ∧ Below w.heap.size w w' := by
  refine enter (args := [_, _]) Try.func110 Try.ntmps110 rfl rfl (HS.refl w []) ?_
  refine s_seq ?_
  refine s_region ?_
  refine o_h (h_box rfl rfl) rfl (fun b1 _ => ?_)
  refine o_p (p_pure rfl) rfl ?_
  refine o_nil ?_
  refine s_seq ?_
  refine s_region ?_
  refine o_p (p_fieldAddr rfl rfl fd_62_2 sz_4 rfl) rfl ?_
  refine o_q (q_load rfl rfl sz_4 (by repeat (first | exact .here | apply Pick.there)) rfl) rfl ?_
  refine o_p (p_pure rfl) rfl ?_
  refine o_p (p_pure rfl) rfl ?_
  refine o_or 2 8 10 _ _ rfl
    (by
      intro hg2
      have hs3 := hg2; try simp only [decide_eq_true_eq, decide_eq_false_iff_not, Bool.not_eq_true', Bool.not_eq_false', Bool.and_eq_true, Bool.or_eq_true, Bool.and_eq_false_iff, Bool.or_eq_false_iff, Bool.not_true, Bool.not_false] at hs3
      refine o_on 8 _ rfl rfl hg2 ?_
      refine o_p (p_pure rfl) rfl ?_
      refine o_p (p_pickf rfl rfl hg2 rfl) rfl ?_
      refine o_nil ?_
      exact s_joinN 2 10 _ rfl rfl rfl (fun w h => by first | exact h | exact h.ent (by repeat (first | exact .nil | refine .cons (by repeat (first | exact .here | apply Pick.there)) ?_))))
    (by
      intro hg4
      have hs5 := hg4; try simp only [decide_eq_true_eq, decide_eq_false_iff_not, Bool.not_eq_true', Bool.not_eq_false', Bool.and_eq_true, Bool.or_eq_true, Bool.and_eq_false_iff, Bool.or_eq_false_iff, Bool.not_true, Bool.not_false] at hs5
      refine o_off 8 _ rfl rfl hg4 rfl ?_
      refine o_p (p_pickt rfl rfl hg4 rfl) rfl ?_
      refine o_nil ?_
      exact s_joinN 2 10 _ rfl rfl rfl (fun w h => by first | exact h | exact h.ent (by repeat (first | exact .nil | refine .cons (by repeat (first | exact .here | apply Pick.there)) ?_)))) ?_
  refine o_p (p_pure rfl) rfl ?_
  refine o_nil ?_
  exact s_retv (rs := [.tmp 4]) rfl (.tmp rfl (.nil)) (fun w' h' => ⟨by simp only [retV, wrK], h'.below⟩)

set_option maxRecDepth 20000 in
theorem c108 (w : World) (bt : Nat) (a : Option Addr) (cap : Nat) (L : List LFil) (h : Int) (q : Lock) (acc f : Nat) (kp : Bool → Bool → Bool) (ht1 : Rd w [] bt 1 (.slice a L.length cap)) (hs : Ft w [] a L) (hV : VW (pls L)) (hf : isFn Try.prog f = true) (hacc : acc = 1 ∨ acc = 2) (hk0 : ∀ (k : Lock) (o : Bool) w1, Calls Try.prog f #[.agg #[.int .i64 k.fr, .int .i64 k.cnt, .bool k.ex], .bool o] w1 fun en w2 => en = .returned (.bool (kp k.ex o)) ∧ Below w1.heap.size w1 w2) : Calls Try.prog 108 #[.pointer (some ⟨bt, 0, none⟩), .int .i64 h, .agg #[.int .i64 q.fr, .int .i64 q.cnt, .bool q.ex], .int .i64 (acc : Int), .func (.func f) #[] #[]] w fun en w' => en = .returned (.int .i64 (mayT (pls L) h q acc kp)) ∧ Below w.heap.size w w' := by
  refine enter (args := [_, _, _, _, _]) Try.func108 Try.ntmps108 rfl rfl (HS.refl w []) ?_
  refine s_seq ?_
  refine s_region ?_
  refine o_h (h_box rfl rfl) rfl (fun b1 _ => ?_)
  refine o_p (p_pure rfl) rfl ?_
  refine o_nil ?_
  refine s_seq ?_
  refine s_region ?_
  refine o_p (p_pure rfl) rfl ?_
  refine o_p (p_pure rfl) rfl ?_
  refine o_q (q_call rfl fn_100 rfl (fun w1 h1 => c100 w1 bt a cap L h (ht1.next h1) (hs.later h1) (by have := (VW.lens hV).1; omega) (fun f hf => by have := (VW.lens hV).2 f hf; omega))) rfl ?_
  refine o_p (p_pure rfl) rfl ?_
  refine o_p (p_pure rfl) rfl ?_
  refine o_p (p_pure rfl) rfl ?_
  refine o_p (p_pure rfl) rfl ?_
  refine o_p (p_pure rfl) rfl ?_
  refine o_p (p_pure rfl) rfl ?_
  refine o_p (p_pure rfl) rfl ?_
  refine o_nil ?_
  refine s_seq ?_
  refine s_seq ?_
  refine s_region ?_
  refine o_p (p_pure rfl) rfl ?_
  refine o_p (p_fieldAddr rfl rfl fd_62_0 sz_3 rfl) rfl ?_
  first | refine o_q (q_load rfl rfl sz_3 (by repeat (first | exact .here | apply Pick.there)) rfl) rfl ?_ | refine o_q (q_load_old rfl rfl sz_3 (ht1)) rfl ?_ | refine o_q (q_load_old rfl rfl sz_3 (rfl (Rw.rd hs.1 hi))) rfl ?_ | refine o_q (q_load_old rfl rfl sz_3 (((hs.at hi).1.rdj 1 hk rfl))) rfl ?_ | refine o_q (q_load_old rfl rfl sz_3 (rfl (Rw.rd (hs.at hi).1 hnl))) rfl ?_ | refine o_q (q_load_old rfl rfl sz_3 (rfl (Rw.rd ((hs.at hi).at hnl) hml))) rfl ?_
  refine o_p (p_fieldAddr rfl rfl fd_62_1 sz_3 rfl) rfl ?_
  first | refine o_q (q_load rfl rfl sz_3 (by repeat (first | exact .here | apply Pick.there)) rfl) rfl ?_ | refine o_q (q_load_old rfl rfl sz_3 (ht1)) rfl ?_ | refine o_q (q_load_old rfl rfl sz_3 (rfl (Rw.rd hs.1 hi))) rfl ?_ | refine o_q (q_load_old rfl rfl sz_3 (((hs.at hi).1.rdj 1 hk rfl))) rfl ?_ | refine o_q (q_load_old rfl rfl sz_3 (rfl (Rw.rd (hs.at hi).1 hnl))) rfl ?_ | refine o_q (q_load_old rfl rfl sz_3 (rfl (Rw.rd ((hs.at hi).at hnl) hml))) rfl ?_
  refine o_q (q_call rfl fn_94 rfl (fun w1 h1 => c94 w1 _ _)) rfl ?_
  refine o_h (h_buildSlice (cs := [_, _]) rfl rfl sl_146 zr_28 rfl rfl rfl) rfl (fun b2 _ => ?_)
  refine o_q (q_call rfl fn_52 rfl (fun w1 h1 => f52 h1 (by repeat (first | exact .here | apply Pick.there)) (by rfl) (by rfl) (by decide))) rfl ?_
  refine o_p (p_pure rfl) rfl ?_
  refine o_nil ?_
  refine s_seq ?_
  refine s_region ?_
  refine o_p (p_pure rfl) rfl ?_
  refine o_p (p_pure rfl) rfl ?_
  refine o_nil ?_
  refine s_cond rfl (fun h3 => ?_) (fun h3 => ?_)
  · try simp only [decide_eq_true_eq, decide_eq_false_iff_not, Bool.not_eq_true', Bool.not_eq_false', Bool.and_eq_true, Bool.or_eq_true, Bool.and_eq_false_iff, Bool.or_eq_false_iff, Bool.not_true, Bool.not_false] at h3
    refine s_seq ?_
    refine s_region ?_
    refine o_p (p_pure rfl) rfl ?_
    refine o_p (p_pure rfl) rfl ?_
    refine o_nil ?_
    exact s_retv (rs := [.tmp 10]) rfl (.tmp rfl (.nil)) (fun w' h' => ⟨by rw [mayT_e h3]; rfl, h'.below⟩)
  · try simp only [decide_eq_true_eq, decide_eq_false_iff_not, Bool.not_eq_true', Bool.not_eq_false', Bool.and_eq_true, Bool.or_eq_true, Bool.and_eq_false_iff, Bool.or_eq_false_iff, Bool.not_true, Bool.not_false] at h3
    have hz := first2_0 h3
    obtain ⟨i, k, hfe, hi, hk, hV3⟩ := findF_some hV hz.1
    rw [hfe]
    dsimp only
    have h8 := and_8 (x := (nth (nth L i).op k).ac) (by have := openE_r hV3.1; omega)
    have h10 : decide (Gx.bits .and .i64 (nth (nth L i).op k).ac (acc : Int) = 0) = !hasB (nth (nth L i).op k).ac acc := by rcases hacc with rfl | rfl <;> first | exact h8.2.2.1 | exact h8.2.1
    refine s_skip ?_
    refine s_seq ?_
    refine s_region ?_
    refine o_p (p_pure rfl) rfl ?_
    refine o_p (p_pure rfl) rfl ?_
    refine o_p (p_fieldAddr rfl rfl fd_106_0 sz_26 rfl) rfl ?_
    refine o_p (p_fieldAddr rfl rfl fd_26_1 sz_24 rfl) rfl ?_
    first | refine o_q (q_load rfl rfl sz_24 (by repeat (first | exact .here | apply Pick.there)) rfl) rfl ?_ | refine o_q (q_load_old rfl rfl sz_24 (ht1)) rfl ?_ | refine o_q (q_load_old rfl rfl sz_24 (rfl (Rw.rd hs.1 hi))) rfl ?_ | refine o_q (q_load_old rfl rfl sz_24 (((hs.at hi).1.rdj 1 hk rfl))) rfl ?_ | refine o_q (q_load_old rfl rfl sz_24 (rfl (Rw.rd (hs.at hi).1 hnl))) rfl ?_ | refine o_q (q_load_old rfl rfl sz_24 (rfl (Rw.rd ((hs.at hi).at hnl) hml))) rfl ?_
    refine o_p (p_pure rfl) rfl ?_
    first | refine o_p (p_indexAddr rfl rfl rfl sl_24 (i) (by omega) (by omega) rfl) rfl ?_ | refine o_p (p_indexAddr rfl rfl rfl sl_24 (i) (by omega) (by omega) (Rw.some hs.1 (by omega))) rfl ?_ | refine o_p (p_indexAddr rfl rfl rfl sl_24 (i) (by omega) (by omega) (Rw.some (hs.at hi).1 (by omega))) rfl ?_ | refine o_p (p_indexAddr rfl rfl rfl sl_24 (i) (by omega) (by omega) (Rw.some ((hs.at hi).at hnl) (by omega))) rfl ?_
    first | refine o_q (q_loadn rfl rfl sz_77 (by repeat (first | exact .here | apply Pick.there)) rfl) rfl ?_ | refine o_q (q_load_oldn _ rfl rfl sz_77 ht1) rfl ?_ | refine o_q (q_load_oldn _ rfl rfl sz_77 rfl (Rw.rd hs.1 hi)) rfl ?_ | refine o_q (q_load_oldn _ rfl rfl sz_77 ((hs.at hi).1.rdj 1 hk rfl)) rfl ?_ | refine o_q (q_load_oldn _ rfl rfl sz_77 rfl (Rw.rd (hs.at hi).1 hnl)) rfl ?_ | refine o_q (q_load_oldn _ rfl rfl sz_77 rfl (Rw.rd ((hs.at hi).at hnl) hml)) rfl ?_
    refine o_h (h_alloc rfl zr_77) rfl (fun b4 _ => ?_)
    refine o_h0 (h_store rfl rfl rfl sz_77 rfl (by repeat (first | exact .here | apply Put.there)) (by simp only [setMany_length, List.length_set, List.length_cons, List.length_nil, List.length_map]; omega) rfl) (fun _ _ => ?_)
    refine o_nil ?_
    refine s_seq ?_
    refine s_seq ?_
    refine s_weaken (L' := [(3, _), (4, _), (7, _), (10, _), (12, _), (14, _)]) (by repeat (first | exact sl_n | refine sl_c rfl ?_)) (fun _ h => h) ?_
    refine s_region ?_
    refine o_p (p_fieldAddr rfl rfl fd_77_2 sz_75 rfl) rfl ?_
    first | refine o_q (q_load rfl rfl sz_75 (by repeat (first | exact .here | apply Pick.there)) rfl) rfl ?_ | refine o_q (q_load_old rfl rfl sz_75 (ht1)) rfl ?_ | refine o_q (q_load_old rfl rfl sz_75 (rfl (Rw.rd hs.1 hi))) rfl ?_ | refine o_q (q_load_old rfl rfl sz_75 (((hs.at hi).1.rdj 1 hk rfl))) rfl ?_ | refine o_q (q_load_old rfl rfl sz_75 (rfl (Rw.rd (hs.at hi).1 hnl))) rfl ?_ | refine o_q (q_load_old rfl rfl sz_75 (rfl (Rw.rd ((hs.at hi).at hnl) hml))) rfl ?_
    refine o_p (p_pure rfl) rfl ?_
    first | refine o_p (p_indexAddr rfl rfl rfl sl_75 (k) (by omega) (by omega) rfl) rfl ?_ | refine o_p (p_indexAddr rfl rfl rfl sl_75 (k) (by omega) (by omega) (Rw.some hs.1 (by omega))) rfl ?_ | refine o_p (p_indexAddr rfl rfl rfl sl_75 (k) (by omega) (by omega) (Rw.some (hs.at hi).1 (by omega))) rfl ?_ | refine o_p (p_indexAddr rfl rfl rfl sl_75 (k) (by omega) (by omega) (Rw.some ((hs.at hi).at hnl) (by omega))) rfl ?_
    refine o_p (p_fieldAddr rfl rfl fd_48_1 sz_3 rfl) rfl ?_
    first | refine o_q (q_load rfl rfl sz_3 (by repeat (first | exact .here | apply Pick.there)) rfl) rfl ?_ | refine o_q (q_load_old rfl rfl sz_3 (ht1)) rfl ?_ | refine o_q (q_load_old rfl rfl sz_3 (rfl (Rw.rd hs.1 hi))) rfl ?_ | refine o_q (q_load_old rfl rfl sz_3 (((hs.at hi).1.rdj 1 hk rfl))) rfl ?_ | refine o_q (q_load_old rfl rfl sz_3 (rfl (Rw.rd (hs.at hi).1 hnl))) rfl ?_ | refine o_q (q_load_old rfl rfl sz_3 (rfl (Rw.rd ((hs.at hi).at hnl) hml))) rfl ?_
    refine o_p (p_pure rfl) rfl ?_
    refine o_p (p_pure rfl) rfl ?_
    refine o_p (p_pure rfl) rfl ?_
    refine o_nil ?_
    refine s_cond rfl (fun h5 => ?_) (fun h5 => ?_)
    · try simp only [decide_eq_true_eq, decide_eq_false_iff_not, Bool.not_eq_true', Bool.not_eq_false', Bool.and_eq_true, Bool.or_eq_true, Bool.and_eq_false_iff, Bool.or_eq_false_iff, Bool.not_true, Bool.not_false] at h5
      have hno : hasB (nth (nth L i).op k).ac acc = false := by have hq := h5; have h9 := h10; rw [decide_eq_true hq] at h9; simpa using h9.symm
      have hno2 : ¬ hasB (nth (nth L i).op k).pl.ac acc = true := by show ¬ hasB (nth (nth L i).op k).ac acc = true; rw [hno]; decide
      refine s_seq ?_
      refine s_region ?_
      refine o_p (p_pure rfl) rfl ?_
      refine o_nil ?_
      exact s_retv (rs := [.tmp 10]) rfl (.tmp rfl (.nil)) (fun w' h' => ⟨by rw [mayT, hfe]; simp only [if_true]; rw [if_pos hz.2, nth_pls hi, LFil.pl, nth_plo hk]; skip; rw [if_neg hno2]; rfl, h'.below⟩)
    · try simp only [decide_eq_true_eq, decide_eq_false_iff_not, Bool.not_eq_true', Bool.not_eq_false', Bool.and_eq_true, Bool.or_eq_true, Bool.and_eq_false_iff, Bool.or_eq_false_iff, Bool.not_true, Bool.not_false] at h5
      have hyes : hasB (nth (nth L i).op k).ac acc = true := by have hq := h5; have h9 := h10; rw [decide_eq_false hq] at h9; simpa using h9.symm
      have hyes2 : hasB (nth (nth L i).op k).pl.ac acc = true := hyes
      have hl32 := (VW.lens hV).2 _ (mem_nth hi)
      refine s_skip ?_
      refine s_seq ?_
      refine s_seq ?_
      refine s_region ?_
      refine o_p (p_fieldAddr rfl rfl fd_77_2 sz_75 rfl) rfl ?_
      first | refine o_q (q_load rfl rfl sz_75 (by repeat (first | exact .here | apply Pick.there)) rfl) rfl ?_ | refine o_q (q_load_old rfl rfl sz_75 (ht1)) rfl ?_ | refine o_q (q_load_old rfl rfl sz_75 (rfl (Rw.rd hs.1 hi))) rfl ?_ | refine o_q (q_load_old rfl rfl sz_75 (((hs.at hi).1.rdj 1 hk rfl))) rfl ?_ | refine o_q (q_load_old rfl rfl sz_75 (rfl (Rw.rd (hs.at hi).1 hnl))) rfl ?_ | refine o_q (q_load_old rfl rfl sz_75 (rfl (Rw.rd ((hs.at hi).at hnl) hml))) rfl ?_
      first | refine o_p (p_len_slice rfl rfl Try.underlying75) rfl ?_ | refine o_q (q_len_own rfl rfl Try.underlying75 (by repeat (first | exact .here | apply Pick.there))) rfl ?_
      refine o_p (p_pure rfl) rfl ?_
      refine o_nil ?_
      refine s_block ?_
      refine s_weaken (L' := [(4, _), (7, _), (10, _), (12, _), (55, _), (56, _), (57, _)]) (by repeat (first | exact sl_n | refine sl_c rfl ?_)) (fun _ h => h) ?_
      refine s_loopI (α := Nat) [10, 15, 16, 18, 57, 58, 59, 60, 61, 62, 63, 64, 65, 66, 67, 68, 69, 70, 71, 72, 73, 74, 75, 76, 77, 78, 79, 80, 81] (fun n => [(57, .int .i64 (n : Int))]) (fun _ => HS w [] [.blk b1 62 3 q.vals]) (fun n => n ≤ (nth L i).op.length ∧ ∀ n2, n2 < n → ∀ m, m < (nth (nth L i).op n2).lk.length → (ovl (nth (nth (nth L i).op n2).lk m) q && kp (nth (nth (nth L i).op n2).lk m).ex (decide (n2 ≠ k))) = false) (fun n => (nth L i).op.length - n) 0 ⟨by omega, fun n2 h2 => absurd h2 (Nat.not_lt_zero n2)⟩ (by repeat (first | exact sl_n | refine sl_c rfl ?_)) (fun w h => h.ent (by repeat (first | exact .nil | refine .cons (by repeat (first | exact .here | apply Pick.there)) ?_))) (fun n hn => ?_)
      obtain ⟨hn1, hn2⟩ := hn
      refine s_seq ?_
      refine s_region ?_
      refine o_p (p_pure rfl) rfl ?_
      refine o_nil ?_
      refine s_seq ?_
      refine s_cond rfl (fun h6 => ?_) (fun h6 => ?_)
      · try simp only [decide_eq_true_eq, decide_eq_false_iff_not, Bool.not_eq_true', Bool.not_eq_false', Bool.and_eq_true, Bool.or_eq_true, Bool.and_eq_false_iff, Bool.or_eq_false_iff, Bool.not_true, Bool.not_false] at h6
        have hnl : n < (nth L i).op.length := by omega
        have hv9 := VW.at hV hi hnl
        refine s_skip ?_
        refine s_seq ?_
        refine s_block ?_
        refine s_seq ?_
        refine s_region ?_
        refine o_p (p_pure rfl) rfl ?_
        first | refine o_p (p_indexAddr rfl rfl rfl sl_75 (n) (by omega) (by omega) rfl) rfl ?_ | refine o_p (p_indexAddr rfl rfl rfl sl_75 (n) (by omega) (by omega) (Rw.some hs.1 (by omega))) rfl ?_ | refine o_p (p_indexAddr rfl rfl rfl sl_75 (n) (by omega) (by omega) (Rw.some (hs.at hi).1 (by omega))) rfl ?_ | refine o_p (p_indexAddr rfl rfl rfl sl_75 (n) (by omega) (by omega) (Rw.some ((hs.at hi).at hnl) (by omega))) rfl ?_
        first | refine o_q (q_loadn rfl rfl sz_48 (by repeat (first | exact .here | apply Pick.there)) rfl) rfl ?_ | refine o_q (q_load_oldn _ rfl rfl sz_48 ht1) rfl ?_ | refine o_q (q_load_oldn _ rfl rfl sz_48 rfl (Rw.rd hs.1 hi)) rfl ?_ | refine o_q (q_load_oldn _ rfl rfl sz_48 ((hs.at hi).1.rdj 1 hk rfl)) rfl ?_ | refine o_q (q_load_oldn _ rfl rfl sz_48 rfl (Rw.rd (hs.at hi).1 hnl)) rfl ?_ | refine o_q (q_load_oldn _ rfl rfl sz_48 rfl (Rw.rd ((hs.at hi).at hnl) hml)) rfl ?_
        refine o_h (h_alloc rfl zr_48) rfl (fun b7 _ => ?_)
        refine o_p (p_pure rfl) rfl ?_
        refine o_h0 (h_store rfl rfl rfl sz_48 rfl (by repeat (first | exact .here | apply Put.there)) (by simp only [setMany_length, List.length_set, List.length_cons, List.length_nil, List.length_map]; omega) rfl) (fun _ _ => ?_)
        refine o_nil ?_
        refine s_seq ?_
        refine s_region ?_
        refine o_p (p_fieldAddr rfl rfl fd_48_4 sz_46 rfl) rfl ?_
        first | refine o_q (q_load rfl rfl sz_46 (by repeat (first | exact .here | apply Pick.there)) rfl) rfl ?_ | refine o_q (q_load_old rfl rfl sz_46 (ht1)) rfl ?_ | refine o_q (q_load_old rfl rfl sz_46 (rfl (Rw.rd hs.1 hi))) rfl ?_ | refine o_q (q_load_old rfl rfl sz_46 (((hs.at hi).1.rdj 1 hk rfl))) rfl ?_ | refine o_q (q_load_old rfl rfl sz_46 (rfl (Rw.rd (hs.at hi).1 hnl))) rfl ?_ | refine o_q (q_load_old rfl rfl sz_46 (rfl (Rw.rd ((hs.at hi).at hnl) hml))) rfl ?_
        first | refine o_p (p_len_slice rfl rfl Try.underlying46) rfl ?_ | refine o_q (q_len_own rfl rfl Try.underlying46 (by repeat (first | exact .here | apply Pick.there))) rfl ?_
        refine o_p (p_pure rfl) rfl ?_
        refine o_nil ?_
        refine s_block ?_
        refine s_loopI (α := Nat) [10, 18, 65, 66, 67, 68, 69, 70, 71, 72, 73, 74, 75, 76, 77, 78, 79, 80] (fun m => [(65, .int .i64 (m : Int))]) (fun _ => HS w [] [.blk b7 48 5 (nth (nth L i).op n).vals, .blk b1 62 3 q.vals]) (fun m => m ≤ (nth (nth L i).op n).lk.length ∧ ∀ m2, m2 < m → (ovl (nth (nth (nth L i).op n).lk m2) q && kp (nth (nth (nth L i).op n).lk m2).ex (decide (n ≠ k))) = false) (fun m => (nth (nth L i).op n).lk.length - m) 0 ⟨by omega, fun n2 h2 => absurd h2 (Nat.not_lt_zero n2)⟩ (by repeat (first | exact sl_n | refine sl_c rfl ?_)) (fun w h => h.ent (by repeat (first | exact .nil | refine .cons (by repeat (first | exact .here | apply Pick.there)) ?_))) (fun m hm => ?_)
        obtain ⟨hm1, hm3⟩ := hm
        refine s_seq ?_
        refine s_region ?_
        refine o_p (p_pure rfl) rfl ?_
        refine o_nil ?_
        refine s_seq ?_
        refine s_cond rfl (fun h8 => ?_) (fun h8 => ?_)
        · try simp only [decide_eq_true_eq, decide_eq_false_iff_not, Bool.not_eq_true', Bool.not_eq_false', Bool.and_eq_true, Bool.or_eq_true, Bool.and_eq_false_iff, Bool.or_eq_false_iff, Bool.not_true, Bool.not_false] at h8
          have hml : m < (nth (nth L i).op n).lk.length := by omega
          refine s_skip ?_
          refine s_seq ?_
          refine s_block ?_
          refine s_seq ?_
          refine s_region ?_
          first | refine o_p (p_indexAddr rfl rfl rfl sl_46 (m) (by omega) (by omega) rfl) rfl ?_ | refine o_p (p_indexAddr rfl rfl rfl sl_46 (m) (by omega) (by omega) (Rw.some hs.1 (by omega))) rfl ?_ | refine o_p (p_indexAddr rfl rfl rfl sl_46 (m) (by omega) (by omega) (Rw.some (hs.at hi).1 (by omega))) rfl ?_ | refine o_p (p_indexAddr rfl rfl rfl sl_46 (m) (by omega) (by omega) (Rw.some ((hs.at hi).at hnl) (by omega))) rfl ?_
          first | refine o_q (q_loadn rfl rfl sz_62 (by repeat (first | exact .here | apply Pick.there)) rfl) rfl ?_ | refine o_q (q_load_oldn _ rfl rfl sz_62 ht1) rfl ?_ | refine o_q (q_load_oldn _ rfl rfl sz_62 rfl (Rw.rd hs.1 hi)) rfl ?_ | refine o_q (q_load_oldn _ rfl rfl sz_62 ((hs.at hi).1.rdj 1 hk rfl)) rfl ?_ | refine o_q (q_load_oldn _ rfl rfl sz_62 rfl (Rw.rd (hs.at hi).1 hnl)) rfl ?_ | refine o_q (q_load_oldn _ rfl rfl sz_62 rfl (Rw.rd ((hs.at hi).at hnl) hml)) rfl ?_
          refine o_h (h_alloc rfl zr_62) rfl (fun b9 _ => ?_)
          refine o_h0 (h_store rfl rfl rfl sz_62 rfl (by repeat (first | exact .here | apply Put.there)) (by simp only [setMany_length, List.length_set, List.length_cons, List.length_nil, List.length_map]; omega) rfl) (fun _ _ => ?_)
          refine o_nil ?_
          refine s_seq ?_
          refine s_region ?_
          first | refine o_q (q_loadn rfl rfl sz_62 (by repeat (first | exact .here | apply Pick.there)) rfl) rfl ?_ | refine o_q (q_load_oldn _ rfl rfl sz_62 ht1) rfl ?_ | refine o_q (q_load_oldn _ rfl rfl sz_62 rfl (Rw.rd hs.1 hi)) rfl ?_ | refine o_q (q_load_oldn _ rfl rfl sz_62 ((hs.at hi).1.rdj 1 hk rfl)) rfl ?_ | refine o_q (q_load_oldn _ rfl rfl sz_62 rfl (Rw.rd (hs.at hi).1 hnl)) rfl ?_ | refine o_q (q_load_oldn _ rfl rfl sz_62 rfl (Rw.rd ((hs.at hi).at hnl) hml)) rfl ?_
          first | refine o_q (q_loadn rfl rfl sz_62 (by repeat (first | exact .here | apply Pick.there)) rfl) rfl ?_ | refine o_q (q_load_oldn _ rfl rfl sz_62 ht1) rfl ?_ | refine o_q (q_load_oldn _ rfl rfl sz_62 rfl (Rw.rd hs.1 hi)) rfl ?_ | refine o_q (q_load_oldn _ rfl rfl sz_62 ((hs.at hi).1.rdj 1 hk rfl)) rfl ?_ | refine o_q (q_load_oldn _ rfl rfl sz_62 rfl (Rw.rd (hs.at hi).1 hnl)) rfl ?_ | refine o_q (q_load_oldn _ rfl rfl sz_62 rfl (Rw.rd ((hs.at hi).at hnl) hml)) rfl ?_
          refine o_q (q_call rfl fn_124 rfl (fun w1 h1 => c124 w1 _ q (okL_nth hv9.2.1 hml) hz.2)) rfl ?_
          refine o_p (p_pure rfl) rfl ?_
          refine o_and 7 72 79 _ _ rfl
            (by
              intro hg10
              have hs11 := hg10; try simp only [decide_eq_true_eq, decide_eq_false_iff_not, Bool.not_eq_true', Bool.not_eq_false', Bool.and_eq_true, Bool.or_eq_true, Bool.and_eq_false_iff, Bool.or_eq_false_iff, Bool.not_true, Bool.not_false] at hs11
              refine o_on 72 _ rfl rfl hg10 ?_
              refine o_p (p_pure rfl) rfl ?_
              refine o_on 72 _ rfl rfl hg10 ?_
              first | refine o_q (q_loadn rfl rfl sz_62 (by repeat (first | exact .here | apply Pick.there)) rfl) rfl ?_ | refine o_q (q_load_oldn _ rfl rfl sz_62 ht1) rfl ?_ | refine o_q (q_load_oldn _ rfl rfl sz_62 rfl (Rw.rd hs.1 hi)) rfl ?_ | refine o_q (q_load_oldn _ rfl rfl sz_62 ((hs.at hi).1.rdj 1 hk rfl)) rfl ?_ | refine o_q (q_load_oldn _ rfl rfl sz_62 rfl (Rw.rd (hs.at hi).1 hnl)) rfl ?_ | refine o_q (q_load_oldn _ rfl rfl sz_62 rfl (Rw.rd ((hs.at hi).at hnl) hml)) rfl ?_
              refine o_on 72 _ rfl rfl hg10 ?_
              refine o_p (p_pure rfl) rfl ?_
              refine o_on 72 _ rfl rfl hg10 ?_
              refine o_p (p_pure rfl) rfl ?_
              refine o_on 72 _ rfl rfl hg10 ?_
              refine o_p (p_pure rfl) rfl ?_
              refine o_slot (show _ = Value.bool (decide (n ≠ k)) from by congr 1; have e9 : ((n : Int) = (k : Int)) ↔ n = k := Int.ofNat_inj; simp [e9]) ?_
              refine o_on 72 _ rfl rfl hg10 ?_
              refine o_q (q_callv rfl rfl hf rfl (fun w1 h1 => hk0 (nth (nth (nth L i).op n).lk m) (decide (n ≠ k)) w1)) rfl ?_
              refine o_p (p_pickt rfl rfl hg10 rfl) rfl ?_
              refine o_nil ?_
              exact s_joinN 7 79 _ rfl rfl rfl (fun w h => by first | exact h | exact h.ent (by repeat (first | exact .nil | refine .cons (by repeat (first | exact .here | apply Pick.there)) ?_))))
            (by
              intro hg12
              have hs13 := hg12; try simp only [decide_eq_true_eq, decide_eq_false_iff_not, Bool.not_eq_true', Bool.not_eq_false', Bool.and_eq_true, Bool.or_eq_true, Bool.and_eq_false_iff, Bool.or_eq_false_iff, Bool.not_true, Bool.not_false] at hs13
              refine o_off 72 _ rfl rfl hg12 rfl ?_
              refine o_off 72 _ rfl rfl hg12 rfl ?_
              refine o_off 72 _ rfl rfl hg12 rfl ?_
              refine o_off 72 _ rfl rfl hg12 rfl ?_
              refine o_off 72 _ rfl rfl hg12 rfl ?_
              refine o_off 72 _ rfl rfl hg12 rfl ?_
              refine o_p (p_pickf rfl rfl hg12 rfl) rfl ?_
              refine o_nil ?_
              exact s_joinN 7 79 _ rfl rfl rfl (fun w h => by first | exact h | exact h.ent (by repeat (first | exact .nil | refine .cons (by repeat (first | exact .here | apply Pick.there)) ?_)))) ?_
          refine o_nil ?_
          refine s_cond rfl (fun h14 => ?_) (fun h14 => ?_)
          · try simp only [decide_eq_true_eq, decide_eq_false_iff_not, Bool.not_eq_true', Bool.not_eq_false', Bool.and_eq_true, Bool.or_eq_true, Bool.and_eq_false_iff, Bool.or_eq_false_iff, Bool.not_true, Bool.not_false] at h14
            have hhit : (ovl (nth (nth (nth L i).op n).lk m) q && kp (nth (nth (nth L i).op n).lk m).ex (decide (n ≠ k))) = true := by have hq := h14; simpa using hq
            refine s_seq ?_
            refine s_region ?_
            refine o_p (p_pure rfl) rfl ?_
            refine o_nil ?_
            exact s_retv (rs := [.tmp 10]) rfl (.tmp rfl (.nil)) (fun w' h' => ⟨by rw [mayT, hfe]; simp only [if_true]; rw [if_pos hz.2, nth_pls hi, LFil.pl, nth_plo hk]; skip; rw [if_pos hyes2, if_pos (mayB_hit (n := n) (m := m) (by simp; omega) (by rw [nth_plo hnl]; exact hml) (by rw [nth_plo hnl]; exact hhit))]; rfl, h'.below⟩)
          · try simp only [decide_eq_true_eq, decide_eq_false_iff_not, Bool.not_eq_true', Bool.not_eq_false', Bool.and_eq_true, Bool.or_eq_true, Bool.and_eq_false_iff, Bool.or_eq_false_iff, Bool.not_true, Bool.not_false] at h14
            have hmiss : (ovl (nth (nth (nth L i).op n).lk m) q && kp (nth (nth (nth L i).op n).lk m).ex (decide (n ≠ k))) = false := by have hq := h14; (try simp only [Bool.and_eq_false_iff] at hq ⊢); first | exact hq | simpa using hq
            refine s_skip ?_
            refine s_blk ?_
            refine s_region ?_
            refine o_p (p_pure rfl) rfl ?_
            try (refine o_slot (i64w (by omega) (by omega)) ?_)
            refine o_p (p_pure rfl) rfl ?_
            refine o_nil ?_
            exact s_backI (m + 1) (by omega) ⟨by omega, fun m2 h2 => (Nat.lt_or_ge m2 m).elim (hm3 m2) (fun h3 => by obtain rfl : m2 = m := (by omega); exact hmiss)⟩ (by repeat (first | exact sl_n | refine sl_c rfl ?_)) (fun w h => h.ent (by repeat (first | exact .nil | refine .cons (by repeat (first | exact .here | apply Pick.there)) ?_)))
        · try simp only [decide_eq_true_eq, decide_eq_false_iff_not, Bool.not_eq_true', Bool.not_eq_false', Bool.and_eq_true, Bool.or_eq_true, Bool.and_eq_false_iff, Bool.or_eq_false_iff, Bool.not_true, Bool.not_false] at h8
          refine s_exit_to rfl ?_
          refine s_blk ?_
          refine s_region ?_
          refine o_p (p_pure rfl) rfl ?_
          try (refine o_slot (i64w (by omega) (by omega)) ?_)
          refine o_p (p_pure rfl) rfl ?_
          refine o_nil ?_
          exact s_backI (n + 1) (by omega) ⟨by omega, fun n2 h2 m2 hm2 => (Nat.lt_or_ge n2 n).elim (fun h3 => hn2 n2 h3 m2 hm2) (fun h3 => by obtain rfl : n2 = n := (by omega); exact hm3 m2 (by omega))⟩ (by repeat (first | exact sl_n | refine sl_c rfl ?_)) (fun w h => h.ent (by repeat (first | exact .nil | refine .cons (by repeat (first | exact .here | apply Pick.there)) ?_)))
      · try simp only [decide_eq_true_eq, decide_eq_false_iff_not, Bool.not_eq_true', Bool.not_eq_false', Bool.and_eq_true, Bool.or_eq_true, Bool.and_eq_false_iff, Bool.or_eq_false_iff, Bool.not_true, Bool.not_false] at h6
        refine s_exit_to rfl ?_
        refine s_seq ?_
        refine s_region ?_
        refine o_p (p_pure rfl) rfl ?_
        refine o_nil ?_
        exact s_retv (rs := [.tmp 10]) rfl (.tmp rfl (.nil)) (fun w' h' => ⟨by rw [mayT, hfe]; simp only [if_true]; rw [if_pos hz.2, nth_pls hi, LFil.pl, nth_plo hk]; skip; rw [if_pos hyes2, if_neg (by rw [mayB_no (fun n9 h9 m9 h8 => by rw [List.length_map] at h9; rw [nth_plo h9] at h8 ⊢; exact hn2 n9 (by omega) m9 h8)]; decide)]; rfl, h'.below⟩)

set_option maxRecDepth 20000 in
theorem c76 (w : World) (bt : Nat) (a : Option Addr) (cap : Nat) (L : List LFil) (h : Int) (q : Lock) (ht1 : Rd w [] bt 1 (.slice a L.length cap)) (hs : Ft w [] a L) (hV : VW (pls L)) : Calls Try.prog 76 #[.pointer (some ⟨bt, 0, none⟩), .int .i64 h, .agg #[.int .i64 q.fr, .int .i64 q.cnt, .bool q.ex]] w fun en w' => en = .returned (.int .i64 (mayT (pls L) h q 1 rdK)) ∧ Below w.heap.size w w' := by
  refine enter (args := [_, _, _]) Try.func76 Try.ntmps76 rfl rfl (HS.refl w []) ?_
  refine s_seq ?_
  refine s_region ?_
  refine o_h (h_box rfl rfl) rfl (fun b1 _ => ?_)
  refine o_p (p_pure rfl) rfl ?_
  refine o_nil ?_
  refine s_seq ?_
  refine s_region ?_
  refine o_p (p_pure rfl) rfl ?_
  refine o_p (p_pure rfl) rfl ?_
  refine o_q (q_loadn rfl rfl sz_62 (by repeat (first | exact .here | apply Pick.there)) rfl) rfl ?_
  refine o_q (q_call rfl fn_108 rfl (fun w1 h1 => c108 w1 bt a cap L h q 1 109 rdK (ht1.next h1) (hs.later h1) hV (by kernel_rfl) (by simp) (fun k o w2 => c109 w2 k o))) rfl ?_
  refine o_p (p_pure rfl) rfl ?_
  refine o_nil ?_
  exact s_retv (rs := [.tmp 6]) rfl (.tmp rfl (.nil)) (fun w' h' => ⟨rfl, h'.below⟩)

set_option maxRecDepth 20000 in
theorem c78 (w : World) (bt : Nat) (a : Option Addr) (cap : Nat) (L : List LFil) (h : Int) (q : Lock) (ht1 : Rd w [] bt 1 (.slice a L.length cap)) (hs : Ft w [] a L) (hV : VW (pls L)) : Calls Try.prog 78 #[.pointer (some ⟨bt, 0, none⟩), .int .i64 h, .agg #[.int .i64 q.fr, .int .i64 q.cnt, .bool q.ex]] w fun en w' => en = .returned (.int .i64 (mayT (pls L) h q 2 wrK)) ∧ Below w.heap.size w w' := by
  refine enter (args := [_, _, _]) Try.func78 Try.ntmps78 rfl rfl (HS.refl w []) ?_
  refine s_seq ?_
  refine s_region ?_
  refine o_h (h_box rfl rfl) rfl (fun b1 _ => ?_)
  refine o_p (p_pure rfl) rfl ?_
  refine o_nil ?_
  refine s_seq ?_
  refine s_region ?_
  refine o_p (p_pure rfl) rfl ?_
  refine o_p (p_pure rfl) rfl ?_
  refine o_q (q_loadn rfl rfl sz_62 (by repeat (first | exact .here | apply Pick.there)) rfl) rfl ?_
  refine o_q (q_call rfl fn_108 rfl (fun w1 h1 => c108 w1 bt a cap L h q 2 110 wrK (ht1.next h1) (hs.later h1) hV (by kernel_rfl) (by simp) (fun k o w2 => c110 w2 k o))) rfl ?_
  refine o_p (p_pure rfl) rfl ?_
  refine o_nil ?_
  exact s_retv (rs := [.tmp 6]) rfl (.tmp rfl (.nil)) (fun w' h' => ⟨rfl, h'.below⟩)

end Go.Proofs

namespace Go.Proofs
open Go Go.RowKit Gx
set_option linter.unusedVariables false
set_option linter.unusedSimpArgs false
attribute [local irreducible] Go.Calls Gx.S Gx.O Gx.D Gx.OpP Gx.OpQ Gx.OpH

theorem fd_48_3 : tfd Try.prog 48 3 = some (3, 4) := by kernel_rfl
theorem fn_117 : isFn Try.prog 117 = true := by kernel_rfl
theorem fn_118 : isFn Try.prog 118 = true := by kernel_rfl


def closF (f : Fil) (k : Nat) : Fil := { f with pd := f.pd || (nth f.op k).dl, op := others f.op k }
def closeT (L : List Fil) (h : Int) : List Fil × Bool × Int :=
  if (findF L h 0).2.2 = 0 then
    if 0 < (closF (nth L (findF L h 0).1) (findF L h 0).2.1).op.length then (updF L (findF L h 0).1 fun f => closF f (findF L h 0).2.1, false, 0)
    else (others L (findF L h 0).1, (closF (nth L (findF L h 0).1) (findF L h 0).2.1).pd, 0)
  else (L, false, (findF L h 0).2.2)
def closL (f : LFil) (k : Nat) : LFil := { f with pd := f.pd || (nth f.op k).dl, op := others f.op k }
theorem closL_pl {f : LFil} {k : Nat} (hk : k < f.op.length) : (closL f k).pl = closF f.pl k := by
  unfold closL closF LFil.pl
  simp only [nth_plo hk]
  simp [others, LOpn.pl, List.map_take, List.map_drop]
theorem pls_others {L : List LFil} {i : Nat} : pls (others L i) = others (pls L) i := by simp [pls, others, List.map_take, List.map_drop]

set_option maxRecDepth 20000 in
set_option maxHeartbeats 1000000 in
theorem c82 (w : World) (bt : Nat) (next : Int) (a : Option Addr) (cap : Nat) (L : List LFil) (h : Int) (hw : HS w (fps [.blk bt 106 2 [.int .i64 (next), .slice a (L).length cap], .files a cap (L)]) [.blk bt 106 2 [.int .i64 (next), .slice a (L).length cap], .files a cap (L)] w) (hV : VW (pls L)) : Calls Try.prog 82 #[.pointer (some ⟨bt, 0, none⟩), .int .i64 h] w fun en w' => ∃ g : (Option Addr × Nat) × List LFil, en = .returned (.tuple #[.bool (closeT (pls L) h).2.1, .int .i64 (closeT (pls L) h).2.2]) ∧ pls g.2 = (closeT (pls L) h).1 ∧ HS w (fps [.blk bt 106 2 [.int .i64 (next), .slice a (L).length cap], .files a cap (L)]) [.blk bt 106 2 [.int .i64 (next), .slice g.1.1 (g.2).length g.1.2], .files g.1.1 g.1.2 (g.2)] w' := by
  refine enter (args := [_, _]) Try.func82 Try.ntmps82 rfl rfl hw ?_
  refine s_seq ?_
  refine s_region ?_
  refine o_p (p_pure rfl) rfl ?_
  refine o_p (p_pure rfl) rfl ?_
  refine o_nil ?_
  refine s_seq ?_
  refine s_region ?_
  refine o_p (p_pure rfl) rfl ?_
  refine o_p (p_pure rfl) rfl ?_
  refine o_q (q_call rfl fn_100 rfl (fun w1 h1 => c100 w1 bt _ _ L h (h1.rd_blk (Mc := []) (by repeat (first | exact .here | apply Pick.there)) rfl (by simp)) (h1.ft (by repeat (first | exact .here | apply Pick.there))) (by have := (VW.lens hV).1; omega) (fun f hf => by have := (VW.lens hV).2 f hf; omega))) rfl ?_
  refine o_p (p_pure rfl) rfl ?_
  refine o_p (p_pure rfl) rfl ?_
  refine o_p (p_pure rfl) rfl ?_
  refine o_p (p_pure rfl) rfl ?_
  refine o_p (p_pure rfl) rfl ?_
  refine o_p (p_pure rfl) rfl ?_
  refine o_p (p_pure rfl) rfl ?_
  refine o_nil ?_
  refine s_seq ?_
  refine s_seq ?_
  refine s_region ?_
  refine o_p (p_pure rfl) rfl ?_
  refine o_p (p_pure rfl) rfl ?_
  refine o_nil ?_
  refine s_cond rfl (fun h1 => ?_) (fun h1 => ?_)
  · try simp only [decide_eq_true_eq, decide_eq_false_iff_not, Bool.not_eq_true', Bool.not_eq_false', Bool.and_eq_true, Bool.or_eq_true, Bool.and_eq_false_iff, Bool.or_eq_false_iff, Bool.not_true, Bool.not_false] at h1
    refine s_seq ?_
    refine s_region ?_
    refine o_p (p_pure rfl) rfl ?_
    refine o_p (p_pure rfl) rfl ?_
    refine o_p (p_pure rfl) rfl ?_
    refine o_nil ?_
    exact s_retv (rs := [.tmp 4, .tmp 5]) rfl (.tmp rfl (.tmp rfl (.nil))) (fun w' h' => ⟨((a, cap), L), by rw [closeT, if_neg h1]; rfl, by rw [closeT, if_neg h1], h'.ent (by repeat (first | exact .nil | refine .cons (by repeat (first | exact .here | apply Pick.there)) ?_))⟩)
  · try simp only [decide_eq_true_eq, decide_eq_false_iff_not, Bool.not_eq_true', Bool.not_eq_false', Bool.and_eq_true, Bool.or_eq_true, Bool.and_eq_false_iff, Bool.or_eq_false_iff, Bool.not_true, Bool.not_false] at h1
    obtain ⟨i, k, hfe, hi, hk, hV3⟩ := findF_some hV h1
    rw [hfe]
    obtain ⟨ga, rfl, hcap, hcm⟩ := files_addr (by omega) hw (.there .here)
    obtain ⟨go, hoa, hoc, hom⟩ := file_addr hi (by omega) hw (.there .here)
    dsimp only
    have hl32 := (VW.lens hV).2 _ (mem_nth hi)
    have hL32 := (VW.lens hV).1
    refine s_class (fun w h => HS.file_at hi h (by repeat (first | exact .here | apply Pick.there))) ?_
    refine s_skip ?_
    refine s_seq ?_
    refine s_region ?_
    refine o_p (p_pure rfl) rfl ?_
    refine o_p (p_pure rfl) rfl ?_
    refine o_p (p_fieldAddr rfl rfl fd_106_0 sz_26 rfl) rfl ?_
    refine o_p (p_fieldAddr rfl rfl fd_26_1 sz_24 rfl) rfl ?_
    first | refine o_q (q_load rfl rfl sz_24 (by repeat (first | exact .here | apply Pick.there)) rfl) rfl ?_ | refine o_q (q_load_at rfl rfl sz_24 (fun w h => (h.rd_blk (Mc := []) (b := bt) (by repeat (first | exact .here | apply Pick.there)) rfl (by simp)))) rfl ?_ | refine o_q (q_load_at rfl rfl sz_24 (fun w h => (h.rd_blk (Mc := []) (b := ga) (by repeat (first | exact .here | apply Pick.there)) (by rw [flat_get fv4 _ i 2 _ (nth_get hi) (by decide)]; rfl) (by simp)))) rfl ?_ | refine o_q (q_load_at rfl rfl sz_24 (fun w h => (h.rd_blk (Mc := []) (b := ga) (by repeat (first | exact .here | apply Pick.there)) (by rw [flat_get fv4 _ i 3 _ (nth_get hi) (by decide)]; rfl) (by simp)))) rfl ?_ | refine o_q (q_load_at rfl rfl sz_24 (fun w h => (h.rd_blk (Mc := []) (b := ga) (by repeat (first | exact .here | apply Pick.there)) (by rw [flat_get fv4 _ i 3 _ (List.getElem?_set_self hi) (by decide)]; rfl) (by simp)))) rfl ?_ | refine o_q (q_load_at rfl rfl sz_24 (fun w h => (h.rd_blk (Mc := []) (b := ga) (by repeat (first | exact .here | apply Pick.there)) (by rw [flat_get fv4 _ i 3 _ (List.getElem?_set_self (by rw [List.length_set]; exact hi)) (by decide)]; rfl) (by simp)))) rfl ?_ | refine o_q (q_load_at rfl rfl sz_24 (fun w h => (h.rd_blk (Mc := []) (b := ga) (by repeat (first | exact .here | apply Pick.there)) (by rw [flat_get fv4 _ i 2 _ (List.getElem?_set_self (by rw [List.length_set]; exact hi)) (by decide)]; rfl) (by simp)))) rfl ?_ | refine o_q (q_load_at rfl rfl sz_24 (fun w h => by have h9 := (HS.ot (a := (nth L i).oa) (cap := (nth L i).oc) (l := (nth L i).op) h (by repeat (first | exact .here | apply Pick.there))).1.rdj 3 hk rfl; rw [hoa] at h9; exact h9)) rfl ?_
    refine o_p (p_pure rfl) rfl ?_
    first | refine o_p (p_indexAddr rfl rfl rfl sl_24 (i) (by omega) (by omega) rfl) rfl ?_ | refine o_p (p_indexAddr rfl rfl rfl sl_24 (i) (by omega) (by omega) hoa) rfl ?_
    refine o_slot (show _ = Value.pointer (some ⟨ga, i * 4, none⟩) from by rw [Nat.zero_add]) ?_
    refine o_p (p_pure rfl) rfl ?_
    refine o_nil ?_
    refine s_seq ?_
    refine s_region ?_
    refine o_p (p_pure rfl) rfl ?_
    refine o_p (p_pure rfl) rfl ?_
    refine o_p (p_pure rfl) rfl ?_
    refine o_p (p_fieldAddr rfl rfl fd_77_1 sz_4 rfl) rfl ?_
    first | refine o_q (q_load rfl rfl sz_4 (by repeat (first | exact .here | apply Pick.there)) rfl) rfl ?_ | refine o_q (q_load_at rfl rfl sz_4 (fun w h => (h.rd_blk (Mc := []) (b := bt) (by repeat (first | exact .here | apply Pick.there)) rfl (by simp)))) rfl ?_ | refine o_q (q_load_at rfl rfl sz_4 (fun w h => (h.rd_blk (Mc := []) (b := ga) (by repeat (first | exact .here | apply Pick.there)) (by rw [flat_get fv4 _ i 2 _ (nth_get hi) (by decide)]; rfl) (by simp)))) rfl ?_ | refine o_q (q_load_at rfl rfl sz_4 (fun w h => (h.rd_blk (Mc := []) (b := ga) (by repeat (first | exact .here | apply Pick.there)) (by rw [flat_get fv4 _ i 3 _ (nth_get hi) (by decide)]; rfl) (by simp)))) rfl ?_ | refine o_q (q_load_at rfl rfl sz_4 (fun w h => (h.rd_blk (Mc := []) (b := ga) (by repeat (first | exact .here | apply Pick.there)) (by rw [flat_get fv4 _ i 3 _ (List.getElem?_set_self hi) (by decide)]; rfl) (by simp)))) rfl ?_ | refine o_q (q_load_at rfl rfl sz_4 (fun w h => (h.rd_blk (Mc := []) (b := ga) (by repeat (first | exact .here | apply Pick.there)) (by rw [flat_get fv4 _ i 3 _ (List.getElem?_set_self (by rw [List.length_set]; exact hi)) (by decide)]; rfl) (by simp)))) rfl ?_ | refine o_q (q_load_at rfl rfl sz_4 (fun w h => (h.rd_blk (Mc := []) (b := ga) (by repeat (first | exact .here | apply Pick.there)) (by rw [flat_get fv4 _ i 2 _ (List.getElem?_set_self (by rw [List.length_set]; exact hi)) (by decide)]; rfl) (by simp)))) rfl ?_ | refine o_q (q_load_at rfl rfl sz_4 (fun w h => by have h9 := (HS.ot (a := (nth L i).oa) (cap := (nth L i).oc) (l := (nth L i).op) h (by repeat (first | exact .here | apply Pick.there))).1.rdj 3 hk rfl; rw [hoa] at h9; exact h9)) rfl ?_
    refine o_p (p_pure rfl) rfl ?_
    refine o_or 9 33 42 _ _ rfl
      (by
        intro hg2
        have hs3 := hg2; try simp only [decide_eq_true_eq, decide_eq_false_iff_not, Bool.not_eq_true', Bool.not_eq_false', Bool.and_eq_true, Bool.or_eq_true, Bool.and_eq_false_iff, Bool.or_eq_false_iff, Bool.not_true, Bool.not_false] at hs3
        refine o_on 33 _ rfl rfl hg2 ?_
        refine o_p (p_pure rfl) rfl ?_
        refine o_on 33 _ rfl rfl hg2 ?_
        refine o_p (p_pure rfl) rfl ?_
        refine o_on 33 _ rfl rfl hg2 ?_
        refine o_p (p_fieldAddr rfl rfl fd_77_2 sz_75 rfl) rfl ?_
        refine o_on 33 _ rfl rfl hg2 ?_
        first | refine o_q (q_load rfl rfl sz_75 (by repeat (first | exact .here | apply Pick.there)) rfl) rfl ?_ | refine o_q (q_load_at rfl rfl sz_75 (fun w h => (h.rd_blk (Mc := []) (b := bt) (by repeat (first | exact .here | apply Pick.there)) rfl (by simp)))) rfl ?_ | refine o_q (q_load_at rfl rfl sz_75 (fun w h => (h.rd_blk (Mc := []) (b := ga) (by repeat (first | exact .here | apply Pick.there)) (by rw [flat_get fv4 _ i 2 _ (nth_get hi) (by decide)]; rfl) (by simp)))) rfl ?_ | refine o_q (q_load_at rfl rfl sz_75 (fun w h => (h.rd_blk (Mc := []) (b := ga) (by repeat (first | exact .here | apply Pick.there)) (by rw [flat_get fv4 _ i 3 _ (nth_get hi) (by decide)]; rfl) (by simp)))) rfl ?_ | refine o_q (q_load_at rfl rfl sz_75 (fun w h => (h.rd_blk (Mc := []) (b := ga) (by repeat (first | exact .here | apply Pick.there)) (by rw [flat_get fv4 _ i 3 _ (List.getElem?_set_self hi) (by decide)]; rfl) (by simp)))) rfl ?_ | refine o_q (q_load_at rfl rfl sz_75 (fun w h => (h.rd_blk (Mc := []) (b := ga) (by repeat (first | exact .here | apply Pick.there)) (by rw [flat_get fv4 _ i 3 _ (List.getElem?_set_self (by rw [List.length_set]; exact hi)) (by decide)]; rfl) (by simp)))) rfl ?_ | refine o_q (q_load_at rfl rfl sz_75 (fun w h => (h.rd_blk (Mc := []) (b := ga) (by repeat (first | exact .here | apply Pick.there)) (by rw [flat_get fv4 _ i 2 _ (List.getElem?_set_self (by rw [List.length_set]; exact hi)) (by decide)]; rfl) (by simp)))) rfl ?_ | refine o_q (q_load_at rfl rfl sz_75 (fun w h => by have h9 := (HS.ot (a := (nth L i).oa) (cap := (nth L i).oc) (l := (nth L i).op) h (by repeat (first | exact .here | apply Pick.there))).1.rdj 3 hk rfl; rw [hoa] at h9; exact h9)) rfl ?_
        refine o_on 33 _ rfl rfl hg2 ?_
        refine o_p (p_pure rfl) rfl ?_
        refine o_on 33 _ rfl rfl hg2 ?_
        first | refine o_p (p_indexAddr rfl rfl rfl sl_75 (k) (by omega) (by omega) rfl) rfl ?_ | refine o_p (p_indexAddr rfl rfl rfl sl_75 (k) (by omega) (by omega) hoa) rfl ?_
        refine o_on 33 _ rfl rfl hg2 ?_
        refine o_p (p_fieldAddr rfl rfl fd_48_3 sz_4 rfl) rfl ?_
        refine o_on 33 _ rfl rfl hg2 ?_
        first | refine o_q (q_load rfl rfl sz_4 (by repeat (first | exact .here | apply Pick.there)) rfl) rfl ?_ | refine o_q (q_load_at rfl rfl sz_4 (fun w h => (h.rd_blk (Mc := []) (b := bt) (by repeat (first | exact .here | apply Pick.there)) rfl (by simp)))) rfl ?_ | refine o_q (q_load_at rfl rfl sz_4 (fun w h => (h.rd_blk (Mc := []) (b := ga) (by repeat (first | exact .here | apply Pick.there)) (by rw [flat_get fv4 _ i 2 _ (nth_get hi) (by decide)]; rfl) (by simp)))) rfl ?_ | refine o_q (q_load_at rfl rfl sz_4 (fun w h => (h.rd_blk (Mc := []) (b := ga) (by repeat (first | exact .here | apply Pick.there)) (by rw [flat_get fv4 _ i 3 _ (nth_get hi) (by decide)]; rfl) (by simp)))) rfl ?_ | refine o_q (q_load_at rfl rfl sz_4 (fun w h => (h.rd_blk (Mc := []) (b := ga) (by repeat (first | exact .here | apply Pick.there)) (by rw [flat_get fv4 _ i 3 _ (List.getElem?_set_self hi) (by decide)]; rfl) (by simp)))) rfl ?_ | refine o_q (q_load_at rfl rfl sz_4 (fun w h => (h.rd_blk (Mc := []) (b := ga) (by repeat (first | exact .here | apply Pick.there)) (by rw [flat_get fv4 _ i 3 _ (List.getElem?_set_self (by rw [List.length_set]; exact hi)) (by decide)]; rfl) (by simp)))) rfl ?_ | refine o_q (q_load_at rfl rfl sz_4 (fun w h => (h.rd_blk (Mc := []) (b := ga) (by repeat (first | exact .here | apply Pick.there)) (by rw [flat_get fv4 _ i 2 _ (List.getElem?_set_self (by rw [List.length_set]; exact hi)) (by decide)]; rfl) (by simp)))) rfl ?_ | refine o_q (q_load_at rfl rfl sz_4 (fun w h => by have h9 := (HS.ot (a := (nth L i).oa) (cap := (nth L i).oc) (l := (nth L i).op) h (by repeat (first | exact .here | apply Pick.there))).1.rdj 3 hk rfl; rw [hoa] at h9; exact h9)) rfl ?_
        refine o_p (p_pickf rfl rfl hg2 rfl) rfl ?_
        refine o_nil ?_
        exact s_joinN 9 42 _ rfl rfl rfl (fun w h => by first | exact h | exact h.ent (by repeat (first | exact .nil | refine .cons (by repeat (first | exact .here | apply Pick.there)) ?_))))
      (by
        intro hg4
        have hs5 := hg4; try simp only [decide_eq_true_eq, decide_eq_false_iff_not, Bool.not_eq_true', Bool.not_eq_false', Bool.and_eq_true, Bool.or_eq_true, Bool.and_eq_false_iff, Bool.or_eq_false_iff, Bool.not_true, Bool.not_false] at hs5
        refine o_off 33 _ rfl rfl hg4 rfl ?_
        refine o_off 33 _ rfl rfl hg4 rfl ?_
        refine o_off 33 _ rfl rfl hg4 rfl ?_
        refine o_off 33 _ rfl rfl hg4 rfl ?_
        refine o_off 33 _ rfl rfl hg4 rfl ?_
        refine o_off 33 _ rfl rfl hg4 rfl ?_
        refine o_off 33 _ rfl rfl hg4 rfl ?_
        refine o_off 33 _ rfl rfl hg4 rfl ?_
        refine o_p (p_pickt rfl rfl hg4 rfl) rfl ?_
        refine o_nil ?_
        exact s_joinN 9 42 _ rfl rfl rfl (fun w h => by first | exact h | exact h.ent (by repeat (first | exact .nil | refine .cons (by repeat (first | exact .here | apply Pick.there)) ?_)))) ?_
    refine o_p (p_pure rfl) rfl ?_
    refine o_p (p_fieldAddr rfl rfl fd_77_1 sz_4 rfl) rfl ?_
    refine o_h0 (h_store rfl rfl rfl sz_4 rfl (by repeat (first | exact .here | apply Put.there)) (by rw [flat_length fv4]; omega) rfl) (fun _ _ => ?_)
    refine o_nil ?_
    refine s_seq ?_
    refine s_weaken (L' := [(0, _), (4, _), (5, _), (6, _), (7, _), (9, _)]) (by repeat (first | exact sl_n | refine sl_c rfl ?_)) (fun _ h => h) ?_
    refine s_region ?_
    refine o_p (p_pure rfl) rfl ?_
    refine o_class (fun w h => HS.blk_to h (b := ga) (by repeat (first | exact .here | apply Pick.there)) (flat_set fv4 L i 2 [.bool ((nth L i).pd || (nth (nth L i).op k).dl)] (nth L i) { nth L i with pd := ((nth L i).pd || (nth (nth L i).op k).dl) } (nth_get hi) rfl (by simp))) ?_
    refine o_class (fun w h => HS.opens_split (a := (nth L i).oa) (cap := (nth L i).oc) (l := (nth L i).op) h (by repeat (first | exact .here | apply Pick.there))) ?_
    refine o_p (p_pure rfl) rfl ?_
    refine o_p (p_pure rfl) rfl ?_
    refine o_p (p_fieldAddr rfl rfl fd_77_2 sz_75 rfl) rfl ?_
    first | refine o_q (q_load rfl rfl sz_75 (by repeat (first | exact .here | apply Pick.there)) rfl) rfl ?_ | refine o_q (q_load_at rfl rfl sz_75 (fun w h => (h.rd_blk (Mc := []) (b := bt) (by repeat (first | exact .here | apply Pick.there)) rfl (by simp)))) rfl ?_ | refine o_q (q_load_at rfl rfl sz_75 (fun w h => (h.rd_blk (Mc := []) (b := ga) (by repeat (first | exact .here | apply Pick.there)) (by rw [flat_get fv4 _ i 2 _ (nth_get hi) (by decide)]; rfl) (by simp)))) rfl ?_ | refine o_q (q_load_at rfl rfl sz_75 (fun w h => (h.rd_blk (Mc := []) (b := ga) (by repeat (first | exact .here | apply Pick.there)) (by rw [flat_get fv4 _ i 3 _ (nth_get hi) (by decide)]; rfl) (by simp)))) rfl ?_ | refine o_q (q_load_at rfl rfl sz_75 (fun w h => (h.rd_blk (Mc := []) (b := ga) (by repeat (first | exact .here | apply Pick.there)) (by rw [flat_get fv4 _ i 3 _ (List.getElem?_set_self hi) (by decide)]; rfl) (by simp)))) rfl ?_ | refine o_q (q_load_at rfl rfl sz_75 (fun w h => (h.rd_blk (Mc := []) (b := ga) (by repeat (first | exact .here | apply Pick.there)) (by rw [flat_get fv4 _ i 3 _ (List.getElem?_set_self (by rw [List.length_set]; exact hi)) (by decide)]; rfl) (by simp)))) rfl ?_ | refine o_q (q_load_at rfl rfl sz_75 (fun w h => (h.rd_blk (Mc := []) (b := ga) (by repeat (first | exact .here | apply Pick.there)) (by rw [flat_get fv4 _ i 2 _ (List.getElem?_set_self (by rw [List.length_set]; exact hi)) (by decide)]; rfl) (by simp)))) rfl ?_ | refine o_q (q_load_at rfl rfl sz_75 (fun w h => by have h9 := (HS.ot (a := (nth L i).oa) (cap := (nth L i).oc) (l := (nth L i).op) h (by repeat (first | exact .here | apply Pick.there))).1.rdj 3 hk rfl; rw [hoa] at h9; exact h9)) rfl ?_
    refine o_p (p_pure rfl) rfl ?_
    refine o_p (p_pure rfl) rfl ?_
    refine o_p (p_pure rfl) rfl ?_
    try (refine o_slot (i64w (by omega) (by omega)) ?_)
    refine o_h (h_callF (Cs := [.own (.slice (nth L i).oa (nth L i).op.length (nth L i).oc) 48 5 (nth L i).op.length ((nth L i).op.flatMap LOpn.vals)]) rfl fn_117 rfl (by repeat (first | exact Picks.nil | (apply Picks.cons; · (repeat (first | exact .here | apply Pick.there))))) (fun w1 h1 hf => by have h9 := c117 w1 (nth L i).oa k (k + 1) (nth L i).op.length (nth L i).oc ((nth L i).op.flatMap LOpn.vals) hf (flat_one ov1 _) (by omega) (by omega) (by omega); rw [others_flat ov5, show (nth L i).op.length - (k + 1 - k) = (others (nth L i).op k).length by rw [others_len hk]; omega] at h9; exact h9)) rfl (fun _ _ => ?_)
    refine o_p (p_pure rfl) rfl ?_
    refine o_p (p_fieldAddr rfl rfl fd_77_2 sz_75 rfl) rfl ?_
    refine o_h0 (h_store rfl rfl rfl sz_75 rfl (by repeat (first | exact .here | apply Put.there)) (by rw [flat_length fv4, List.length_set]; omega) rfl) (fun _ _ => ?_)
    refine o_nil ?_
    refine s_seq ?_
    refine s_seq ?_
    refine s_region ?_
    refine o_p (p_pure rfl) rfl ?_
    refine o_class (fun w h => HS.blk_to h (b := ga) (by repeat (first | exact .here | apply Pick.there)) (flat_set fv4 (L.set i { nth L i with pd := ((nth L i).pd || (nth (nth L i).op k).dl) }) i 3 [.slice (nth L i).oa (others (nth L i).op k).length (nth L i).oc] _ (closL (nth L i) k) (List.getElem?_set_self hi) rfl (by simp))) ?_
    refine o_p (p_pure rfl) rfl ?_
    refine o_p (p_fieldAddr rfl rfl fd_77_2 sz_75 rfl) rfl ?_
    first | refine o_q (q_load rfl rfl sz_75 (by repeat (first | exact .here | apply Pick.there)) rfl) rfl ?_ | refine o_q (q_load_at rfl rfl sz_75 (fun w h => (h.rd_blk (Mc := []) (b := bt) (by repeat (first | exact .here | apply Pick.there)) rfl (by simp)))) rfl ?_ | refine o_q (q_load_at rfl rfl sz_75 (fun w h => (h.rd_blk (Mc := []) (b := ga) (by repeat (first | exact .here | apply Pick.there)) (by rw [flat_get fv4 _ i 2 _ (nth_get hi) (by decide)]; rfl) (by simp)))) rfl ?_ | refine o_q (q_load_at rfl rfl sz_75 (fun w h => (h.rd_blk (Mc := []) (b := ga) (by repeat (first | exact .here | apply Pick.there)) (by rw [flat_get fv4 _ i 3 _ (nth_get hi) (by decide)]; rfl) (by simp)))) rfl ?_ | refine o_q (q_load_at rfl rfl sz_75 (fun w h => (h.rd_blk (Mc := []) (b := ga) (by repeat (first | exact .here | apply Pick.there)) (by rw [flat_get fv4 _ i 3 _ (List.getElem?_set_self hi) (by decide)]; rfl) (by simp)))) rfl ?_ | refine o_q (q_load_at rfl rfl sz_75 (fun w h => (h.rd_blk (Mc := []) (b := ga) (by repeat (first | exact .here | apply Pick.there)) (by rw [flat_get fv4 _ i 3 _ (List.getElem?_set_self (by rw [List.length_set]; exact hi)) (by decide)]; rfl) (by simp)))) rfl ?_ | refine o_q (q_load_at rfl rfl sz_75 (fun w h => (h.rd_blk (Mc := []) (b := ga) (by repeat (first | exact .here | apply Pick.there)) (by rw [flat_get fv4 _ i 2 _ (List.getElem?_set_self (by rw [List.length_set]; exact hi)) (by decide)]; rfl) (by simp)))) rfl ?_ | refine o_q (q_load_at rfl rfl sz_75 (fun w h => by have h9 := (HS.ot (a := (nth L i).oa) (cap := (nth L i).oc) (l := (nth L i).op) h (by repeat (first | exact .here | apply Pick.there))).1.rdj 3 hk rfl; rw [hoa] at h9; exact h9)) rfl ?_
    first | refine o_p (p_len_slice rfl rfl Try.underlying75) rfl ?_ | refine o_q (q_len_own rfl rfl Try.underlying75 (by repeat (first | exact .here | apply Pick.there))) rfl ?_
    refine o_p (p_pure rfl) rfl ?_
    refine o_nil ?_
    refine s_cond rfl (fun h6 => ?_) (fun h6 => ?_)
    · try simp only [decide_eq_true_eq, decide_eq_false_iff_not, Bool.not_eq_true', Bool.not_eq_false', Bool.and_eq_true, Bool.or_eq_true, Bool.and_eq_false_iff, Bool.or_eq_false_iff, Bool.not_true, Bool.not_false] at h6
      have hcl : 0 < (closL (nth L i) k).op.length := by have hq := h6; omega
      refine s_seq ?_
      refine s_region ?_
      refine o_p (p_pure rfl) rfl ?_
      refine o_p (p_pure rfl) rfl ?_
      refine o_nil ?_
      exact s_retv (rs := [.tmp 4, .tmp 5]) rfl (.tmp rfl (.tmp rfl (.nil))) (fun w' h' => ⟨((some ⟨ga, 0, none⟩, cap), L.set i (closL (nth L i) k)), by rw [closeT, hfe]; simp only [if_true]; rw [nth_pls hi, ← closL_pl hk]; skip; rw [if_pos (by simpa [LFil.pl] using hcl)]; rfl, by rw [closeT, hfe]; simp only [if_true]; rw [nth_pls hi, ← closL_pl hk]; skip; rw [if_pos (by simpa [LFil.pl] using hcl), pls_set, updF, nth_pls hi, closL_pl hk], by have h2 := HS.opens_less (k := k) (l := (nth L i).op) hk (h'.ent (Bs := [.own (.slice (nth L i).oa (others (nth L i).op k).length (nth L i).oc) 48 5 (others (nth L i).op k).length ((others (nth L i).op k).flatMap LOpn.vals), .star ((nth L i).op.map subO), .blk ga 77 (cap * 4) _, .star ((others L i).map subF), .blk bt 106 2 [.int .i64 next, .slice (some ⟨ga, 0, none⟩) L.length cap]]) (by repeat (first | exact .nil | refine .cons (by repeat (first | exact .here | apply Pick.there)) ?_))) rfl rfl; have h3 := HS.file_put (f := (closL (nth L i) k)) (cap := cap) hi (h2.perm (List.Perm.swap ..)) (by rw [List.set_set]) hcap hcm; rw [List.length_set]; exact h3.ent (by repeat (first | exact .nil | refine .cons (by repeat (first | exact .here | apply Pick.there)) ?_))⟩)
    · try simp only [decide_eq_true_eq, decide_eq_false_iff_not, Bool.not_eq_true', Bool.not_eq_false', Bool.and_eq_true, Bool.or_eq_true, Bool.and_eq_false_iff, Bool.or_eq_false_iff, Bool.not_true, Bool.not_false] at h6
      have hcl : ¬ 0 < (closL (nth L i) k).op.length := by have hq := h6; omega
      refine s_skip ?_
      refine s_seq ?_
      refine s_region ?_
      refine o_p (p_pure rfl) rfl ?_
      refine o_p (p_pure rfl) rfl ?_
      refine o_p (p_fieldAddr rfl rfl fd_77_1 sz_4 rfl) rfl ?_
      first | refine o_q (q_load rfl rfl sz_4 (by repeat (first | exact .here | apply Pick.there)) rfl) rfl ?_ | refine o_q (q_load_at rfl rfl sz_4 (fun w h => (h.rd_blk (Mc := []) (b := bt) (by repeat (first | exact .here | apply Pick.there)) rfl (by simp)))) rfl ?_ | refine o_q (q_load_at rfl rfl sz_4 (fun w h => (h.rd_blk (Mc := []) (b := ga) (by repeat (first | exact .here | apply Pick.there)) (by rw [flat_get fv4 _ i 2 _ (nth_get hi) (by decide)]; rfl) (by simp)))) rfl ?_ | refine o_q (q_load_at rfl rfl sz_4 (fun w h => (h.rd_blk (Mc := []) (b := ga) (by repeat (first | exact .here | apply Pick.there)) (by rw [flat_get fv4 _ i 3 _ (nth_get hi) (by decide)]; rfl) (by simp)))) rfl ?_ | refine o_q (q_load_at rfl rfl sz_4 (fun w h => (h.rd_blk (Mc := []) (b := ga) (by repeat (first | exact .here | apply Pick.there)) (by rw [flat_get fv4 _ i 3 _ (List.getElem?_set_self hi) (by decide)]; rfl) (by simp)))) rfl ?_ | refine o_q (q_load_at rfl rfl sz_4 (fun w h => (h.rd_blk (Mc := []) (b := ga) (by repeat (first | exact .here | apply Pick.there)) (by rw [flat_get fv4 _ i 3 _ (List.getElem?_set_self (by rw [List.length_set]; exact hi)) (by decide)]; rfl) (by simp)))) rfl ?_ | refine o_q (q_load_at rfl rfl sz_4 (fun w h => (h.rd_blk (Mc := []) (b := ga) (by repeat (first | exact .here | apply Pick.there)) (by rw [flat_get fv4 _ i 2 _ (List.getElem?_set_self (by rw [List.length_set]; exact hi)) (by decide)]; rfl) (by simp)))) rfl ?_ | refine o_q (q_load_at rfl rfl sz_4 (fun w h => by have h9 := (HS.ot (a := (nth L i).oa) (cap := (nth L i).oc) (l := (nth L i).op) h (by repeat (first | exact .here | apply Pick.there))).1.rdj 3 hk rfl; rw [hoa] at h9; exact h9)) rfl ?_
      refine o_p (p_pure rfl) rfl ?_
      refine o_nil ?_
      refine s_seq ?_
      refine s_region ?_
      refine o_p (p_pure rfl) rfl ?_
      refine o_class (fun w h => HS.own_shut (n := L.length) (h.pick (show Pick _ (.blk ga 77 (cap * 4) (((L.set i { nth L i with pd := ((nth L i).pd || (nth (nth L i).op k).dl) }).set i (closL (nth L i) k)).flatMap LFil.vals)) _ from (by repeat (first | exact .here | apply Pick.there)))) (by rw [flat_length fv4, List.length_set, List.length_set]) hcap hcm) ?_
      refine o_p (p_pure rfl) rfl ?_
      refine o_p (p_pure rfl) rfl ?_
      refine o_p (p_fieldAddr rfl rfl fd_106_0 sz_26 rfl) rfl ?_
      refine o_p (p_fieldAddr rfl rfl fd_26_1 sz_24 rfl) rfl ?_
      first | refine o_q (q_load rfl rfl sz_24 (by repeat (first | exact .here | apply Pick.there)) rfl) rfl ?_ | refine o_q (q_load_at rfl rfl sz_24 (fun w h => (h.rd_blk (Mc := []) (b := bt) (by repeat (first | exact .here | apply Pick.there)) rfl (by simp)))) rfl ?_ | refine o_q (q_load_at rfl rfl sz_24 (fun w h => (h.rd_blk (Mc := []) (b := ga) (by repeat (first | exact .here | apply Pick.there)) (by rw [flat_get fv4 _ i 2 _ (nth_get hi) (by decide)]; rfl) (by simp)))) rfl ?_ | refine o_q (q_load_at rfl rfl sz_24 (fun w h => (h.rd_blk (Mc := []) (b := ga) (by repeat (first | exact .here | apply Pick.there)) (by rw [flat_get fv4 _ i 3 _ (nth_get hi) (by decide)]; rfl) (by simp)))) rfl ?_ | refine o_q (q_load_at rfl rfl sz_24 (fun w h => (h.rd_blk (Mc := []) (b := ga) (by repeat (first | exact .here | apply Pick.there)) (by rw [flat_get fv4 _ i 3 _ (List.getElem?_set_self hi) (by decide)]; rfl) (by simp)))) rfl ?_ | refine o_q (q_load_at rfl rfl sz_24 (fun w h => (h.rd_blk (Mc := []) (b := ga) (by repeat (first | exact .here | apply Pick.there)) (by rw [flat_get fv4 _ i 3 _ (List.getElem?_set_self (by rw [List.length_set]; exact hi)) (by decide)]; rfl) (by simp)))) rfl ?_ | refine o_q (q_load_at rfl rfl sz_24 (fun w h => (h.rd_blk (Mc := []) (b := ga) (by repeat (first | exact .here | apply Pick.there)) (by rw [flat_get fv4 _ i 2 _ (List.getElem?_set_self (by rw [List.length_set]; exact hi)) (by decide)]; rfl) (by simp)))) rfl ?_ | refine o_q (q_load_at rfl rfl sz_24 (fun w h => by have h9 := (HS.ot (a := (nth L i).oa) (cap := (nth L i).oc) (l := (nth L i).op) h (by repeat (first | exact .here | apply Pick.there))).1.rdj 3 hk rfl; rw [hoa] at h9; exact h9)) rfl ?_
      refine o_p (p_pure rfl) rfl ?_
      refine o_p (p_pure rfl) rfl ?_
      refine o_p (p_pure rfl) rfl ?_
      try (refine o_slot (i64w (by omega) (by omega)) ?_)
      refine o_h (h_callF (Cs := [.own (.slice (some ⟨ga, 0, none⟩) L.length cap) 77 4 L.length (((L.set i { nth L i with pd := ((nth L i).pd || (nth (nth L i).op k).dl) }).set i (closL (nth L i) k)).flatMap LFil.vals)]) rfl fn_118 rfl (by repeat (first | exact Picks.nil | (apply Picks.cons; · (repeat (first | exact .here | apply Pick.there))))) (fun w1 h1 hf => by have h9 := c118 w1 (some ⟨ga, 0, none⟩) i (i + 1) L.length cap (((L.set i { nth L i with pd := ((nth L i).pd || (nth (nth L i).op k).dl) }).set i (closL (nth L i) k)).flatMap LFil.vals) hf (flat_one fv1 _) (by omega) (by omega) (by omega); rw [others_flat fv4, others_set, others_set, show L.length - (i + 1 - i) = (others L i).length by rw [others_len hi]; omega] at h9; exact h9)) rfl (fun _ _ => ?_)
      refine o_p (p_pure rfl) rfl ?_
      refine o_p (p_fieldAddr rfl rfl fd_106_0 sz_26 rfl) rfl ?_
      refine o_p (p_fieldAddr rfl rfl fd_26_1 sz_24 rfl) rfl ?_
      refine o_h0 (h_store rfl rfl rfl sz_24 rfl (by repeat (first | exact .here | apply Put.there)) (by simp only [setMany_length, List.length_set, List.length_cons, List.length_nil, List.length_map]; omega) rfl) (fun _ _ => ?_)
      refine o_nil ?_
      refine s_seq ?_
      refine s_weaken (L' := [(4, _), (5, _), (10, _)]) (by repeat (first | exact sl_n | refine sl_c rfl ?_)) (fun _ h => h) ?_
      refine s_region ?_
      refine o_p (p_pure rfl) rfl ?_
      refine o_p (p_pure rfl) rfl ?_
      refine o_p (p_pure rfl) rfl ?_
      refine o_nil ?_
      exact s_retv (rs := [.tmp 4, .tmp 5]) rfl (.tmp rfl (.tmp rfl (.nil))) (fun w' h' => ⟨((some ⟨ga, 0, none⟩, cap), others L i), by rw [closeT, hfe]; simp only [if_true]; rw [nth_pls hi, ← closL_pl hk]; skip; rw [if_neg (by simpa [LFil.pl] using hcl)]; rfl, by rw [closeT, hfe]; simp only [if_true]; rw [nth_pls hi, ← closL_pl hk]; skip; rw [if_neg (by simpa [LFil.pl] using hcl)]; exact pls_others, by have h2 := HS.files_shut (l := others L i) (h'.ent (Bs := [.own (.slice (some ⟨ga, 0, none⟩) (others L i).length cap) 77 4 (others L i).length ((others L i).flatMap LFil.vals), .star ((others L i).map subF), .blk bt 106 2 _]) (by repeat (first | exact .nil | refine .cons (by repeat (first | exact .here | apply Pick.there)) ?_))) rfl rfl; exact h2.ent (by repeat (first | exact .nil | refine .cons (by repeat (first | exact .here | apply Pick.there)) ?_))⟩)

end Go.Proofs

namespace Go.Proofs
open Go Go.RowKit Gx
set_option linter.unusedVariables false
set_option linter.unusedSimpArgs false
attribute [local irreducible] Go.Calls Gx.S Gx.O Gx.D Gx.OpP Gx.OpQ Gx.OpH

theorem fn_114 : isFn Try.prog 114 = true := by kernel_rfl
theorem pl_77 : tplaces Try.prog 77 = some [(0, 2), (2, 1), (3, 1)] := by kernel_rfl
theorem fn_116 : isFn Try.prog 116 = true := by kernel_rfl


section
variable {w0 w : World} {M : List Nat} {As As' : List HA} {a : Option Addr} {cap : Nat}
theorem HS.opens_none (h : HS w0 M As w) : HS w0 M (.opens none 0 [] :: As) w := HS.row_shut (n := 0) (xs := []) (h.star_nil.own_nil 48 5) rfl rfl
theorem HS.locks_none (h : HS w0 M As w) : HS w0 M (.locks none 0 [] :: As) w := h.own_nil 62 3
def newF (rc sq : Int) : LFil := ⟨rc, sq, false, none, 0, []⟩
def newO (x : LOpn) (next : Int) : LOpn := { x with hd := next, la := none, lc := 0, lk := [] }
theorem HS.files_ins {l : List LFil} {i n : Nat} {rc sq : Int} {xs : List Value} (h : HS w0 M (.own (.slice a n cap) 77 4 n xs :: .star (l.map subF) :: As) w) (hn : n = (insAt l i (newF rc sq)).length) (hx : xs = (insAt l i (newF rc sq)).flatMap LFil.vals) : HS w0 M (.files a cap (insAt l i (newF rc sq)) :: As) w := by
  have h1 : HS w0 M (subF (newF rc sq) :: .own (.slice a n cap) 77 4 n xs :: .star (l.map subF) :: As) w := HS.opens_none h
  have h2 : HS w0 M (.star ((insAt l i (newF rc sq)).map subF) :: .own (.slice a n cap) 77 4 n xs :: As) w := HS.sub_ins i (h1.perm (List.Perm.cons _ (List.Perm.swap ..)))
  exact HS.files_shut (h2.perm (List.Perm.swap ..)) hn hx
theorem HS.opens_app {l : List LOpn} {x : LOpn} {next : Int} {n : Nat} {xs : List Value} (h : HS w0 M (.own (.slice a n cap) 48 5 n xs :: .star (l.map subO) :: As) w) (hn : n = (l ++ [newO x next]).length) (hx : xs = (l ++ [newO x next]).flatMap LOpn.vals) : HS w0 M (.opens a cap (l ++ [newO x next]) :: As) w := by
  have h1 : HS w0 M (subO (newO x next) :: .own (.slice a n cap) 48 5 n xs :: .star (l.map subO) :: As) w := HS.locks_none h
  exact HS.opens_more (h1.perm ((List.Perm.swap ..).trans (List.Perm.cons _ (List.Perm.swap ..)))) hn hx
end
theorem ins_len {α : Type} {l : List α} {i : Nat} {x : α} (h : i ≤ l.length) : (insAt l i x).length = l.length + 1 := by
  simp only [insAt, List.length_append, List.length_take, List.length_cons, List.length_drop]
  omega
theorem ins_nth {α : Type} [Inhabited α] {l : List α} {i : Nat} {x : α} (h : i ≤ l.length) : nth (insAt l i x) i = x := nth_eq (by
  unfold insAt
  rw [List.getElem?_append_right (by rw [List.length_take]; omega), List.length_take, Nat.min_eq_left h, Nat.sub_self]
  rfl)
theorem ins_set {α : Type} {l : List α} {i : Nat} {x y : α} (h : i ≤ l.length) : (insAt l i x).set i y = insAt l i y := by
  unfold insAt
  rw [List.set_append_right _ _ (by rw [List.length_take]; omega), List.length_take, Nat.min_eq_left h, Nat.sub_self]
  rfl
theorem ins_flat {α : Type} {vals : α → List Value} {sz : Nat} (hv : ∀ x, (vals x).length = sz) (l : List α) (i : Nat) (x : α) : (l.flatMap vals).take (i * sz) ++ vals x ++ (l.flatMap vals).drop (i * sz) = (insAt l i x).flatMap vals := by
  rw [flat_take hv, flat_drop hv, insAt, flat_append, List.flatMap_cons, List.append_assoc]
theorem pls_ins {l : List LFil} {i : Nat} {x : LFil} : pls (insAt l i x) = insAt (pls l) i x.pl := by simp [pls, insAt, List.map_take, List.map_drop]
theorem ins_le {α : Type} {l : List α} {i : Nat} {x : α} : ∀ y ∈ insAt l i x, y = x ∨ y ∈ l := by
  intro y hy
  unfold insAt at hy
  rcases List.mem_append.1 hy with h | h
  · exact .inr (List.mem_of_mem_take h)
  · rcases List.mem_cons.1 h with h | h
    · exact .inl h
    · exact .inr (List.mem_of_mem_drop h)
theorem bsC_le (cs : List Int) : ∀ (n lo hi : Nat), lo ≤ hi → hi ≤ cs.length → bsC cs n lo hi ≤ cs.length
  | 0, lo, hi, h, h2 => by rw [bsC]; omega
  | n + 1, lo, hi, h, h2 => by
    rw [bsC]
    split
    · split
      · exact bsC_le cs n _ _ (by omega) h2
      · exact bsC_le cs n _ _ (by omega) (by omega)
    · omega
theorem bsL_le {L : List LFil} {rc sq : Int} : bsL (cmps (pls L) rc sq) ≤ L.length := by
  have h := bsC_le (cmps (pls L) rc sq) (cmps (pls L) rc sq).length 0 (cmps (pls L) rc sq).length (by omega) (by omega)
  have e : (cmps (pls L) rc sq).length = L.length := by simp [cmps, pls]
  unfold bsL
  omega
theorem bsF_lt {L : List LFil} {rc sq : Int} (h : bsF' (cmps (pls L) rc sq) = true) : bsL (cmps (pls L) rc sq) < L.length := by
  unfold bsF' at h
  simp only [Bool.and_eq_true, decide_eq_true_eq] at h
  have e : (cmps (pls L) rc sq).length = L.length := by simp [cmps, pls]
  omega
def oldE (f : Fil) (x : Opn) : Int := if f.pd = true then 30 else if f.op.any (cfl x) = true then 28 else 0
def putO (f : Fil) (x : Opn) (next : Int) : Fil := { f with op := f.op ++ [{ x with hd := next, lk := [] }] }
def opnE (next : Int) (L : List Fil) (rc sq : Int) (x : Opn) : Int := if refE rc sq = 0 then if openE x.ac x.sh = 0 then if cntT L < 32 ∧ next < 2147483647 then 0 else 16 else openE x.ac x.sh else refE rc sq
/-- The files, the next number, the handle, the error. -/
def openT (next : Int) (L : List Fil) (rc sq : Int) (x : Opn) : List Fil × Int × Int × Int :=
  if opnE next L rc sq x = 0 then
    if bsF' (cmps L rc sq) = true then
      if oldE (nth L (bsL (cmps L rc sq))) x = 0 then (updF L (bsL (cmps L rc sq)) fun f => putO f x next, next + 1, next, 0) else (L, next, 0, oldE (nth L (bsL (cmps L rc sq))) x)
    else (insAt L (bsL (cmps L rc sq)) (putO ⟨rc, sq, false, []⟩ x next), next + 1, next, 0)
  else (L, next, 0, opnE next L rc sq x)
theorem opnE_first {next : Int} {L : List Fil} {rc sq : Int} {x : Opn} : firstV [.int .i64 (refE rc sq), .int .i64 (openE x.ac x.sh), .int .i64 (bif decide ((cntT L : Int) < 32) && decide (next < 2147483647) then 0 else 16)] = opnE next L rc sq x := by
  simp only [firstV, opnE, cond_eq_ite]
  grind
theorem oldE_first {f : LFil} {x : LOpn} : firstV [.int .i64 (bif !f.pd then 0 else 30), .int .i64 (bif !(f.op.any fun y => cfl x.pl y.pl) then 0 else 28)] = oldE f.pl x.pl := by
  simp only [firstV, oldE, LFil.pl, cond_eq_ite, List.any_map, Function.comp_def]
  grind
theorem opnE_pos {next : Int} {L : List Fil} {rc sq : Int} {x : Opn} (h : opnE next L rc sq x = 0) : refE rc sq = 0 ∧ openE x.ac x.sh = 0 ∧ cntT L < 32 ∧ next < 2147483647 := by
  unfold opnE at h
  grind
theorem openT_old {next : Int} {L : List LFil} {rc sq : Int} {x : LOpn} {f : LFil} (h : opnE next (pls L) rc sq x.pl = 0) (hb : bsF' (cmps (pls L) rc sq) = true) (ho : oldE (nth L (bsL (cmps (pls L) rc sq))).pl x.pl = 0) (hf : f.pl = putO (nth L (bsL (cmps (pls L) rc sq))).pl x.pl next) : openT next (pls L) rc sq x.pl = (pls (L.set (bsL (cmps (pls L) rc sq)) f), next + 1, next, 0) := by
  have hi := bsF_lt hb
  unfold openT
  rw [if_pos h, if_pos hb, nth_pls hi, if_pos ho, updF, nth_pls hi, pls_set, hf]
theorem openT_new {next : Int} {L : List LFil} {rc sq : Int} {x : LOpn} {f : LFil} (h : opnE next (pls L) rc sq x.pl = 0) (hb : ¬ bsF' (cmps (pls L) rc sq) = true) (hf : f.pl = putO (newF rc sq).pl x.pl next) : openT next (pls L) rc sq x.pl = (pls ((insAt L (bsL (cmps (pls L) rc sq)) (newF rc sq)).set (bsL (cmps (pls L) rc sq)) f), next + 1, next, 0) := by
  unfold openT
  rw [if_pos h, if_neg hb, ins_set bsL_le, pls_ins, hf]
  rfl

set_option maxRecDepth 20000 in
theorem c115 (w : World) (b : Nat) (x y : LOpn) (hr : ∀ j v, x.vals[j]? = some v → Rd w [] b (0 + j) v) (ha : openE x.ac x.sh = 0) (hb : openE y.ac y.sh = 0) : Calls Try.prog 115 #[.agg #[.int .i64 y.hd, .int .i64 y.ac, .int .i64 y.sh, .bool y.dl, .slice y.la y.lk.length y.lc], .pointer (some ⟨b, 0, none⟩)] w fun en w' => en = .returned (.bool (cfl x.pl y.pl)) ∧ Below w.heap.size w w' := by
  refine enter (args := [_, _]) Try.func115 Try.ntmps115 rfl rfl (HS.refl w []) ?_
  refine s_seq ?_
  refine s_region ?_
  refine o_h (h_box rfl rfl) rfl (fun b1 _ => ?_)
  refine o_p (p_pure rfl) rfl ?_
  refine o_nil ?_
  refine s_seq ?_
  refine s_region ?_
  first | refine o_q (q_loadn rfl rfl sz_48 (by repeat (first | exact .here | apply Pick.there)) rfl) rfl ?_ | refine o_q (q_load_oldn _ rfl rfl sz_48 rfl hr) rfl ?_
  first | refine o_q (q_loadn rfl rfl sz_48 (by repeat (first | exact .here | apply Pick.there)) rfl) rfl ?_ | refine o_q (q_load_oldn _ rfl rfl sz_48 rfl hr) rfl ?_
  refine o_q (q_call rfl fn_63 rfl (fun w1 h1 => c63 w1 x y ha hb)) rfl ?_
  refine o_p (p_pure rfl) rfl ?_
  refine o_nil ?_
  exact s_retv (rs := [.tmp 3]) rfl (.tmp rfl (.nil)) (fun w' h' => ⟨rfl, h'.below⟩)

set_option maxRecDepth 20000 in
set_option maxHeartbeats 1000000 in
theorem c81 (w : World) (bt : Nat) (next : Int) (a : Option Addr) (cap : Nat) (L : List LFil) (rc sq : Int) (x : LOpn) (hw : HS w (fps [.blk bt 106 2 [.int .i64 (next), .slice a (L).length cap], .files a cap (L)]) [.blk bt 106 2 [.int .i64 (next), .slice a (L).length cap], .files a cap (L)] w) (hV : VW (pls L)) (hn0 : 0 ≤ next ∧ next ≤ 2147483647) : Calls Try.prog 81 #[.pointer (some ⟨bt, 0, none⟩), .agg #[.int .i64 rc, .int .i64 sq], .agg #[.int .i64 x.hd, .int .i64 x.ac, .int .i64 x.sh, .bool x.dl, .slice x.la x.lk.length x.lc]] w fun en w' => ∃ g : (Option Addr × Nat) × List LFil, en = .returned (.tuple #[.int .i64 (openT next (pls L) rc sq x.pl).2.2.1, .int .i64 (openT next (pls L) rc sq x.pl).2.2.2]) ∧ pls g.2 = (openT next (pls L) rc sq x.pl).1 ∧ HS w (fps [.blk bt 106 2 [.int .i64 (next), .slice a (L).length cap], .files a cap (L)]) [.blk bt 106 2 [.int .i64 ((openT next (pls L) rc sq x.pl).2.1), .slice g.1.1 (g.2).length g.1.2], .files g.1.1 g.1.2 (g.2)] w' := by
  have hL32 := (VW.lens hV).1
  have hll := (VW.lens hV).2
  have hcl := cntT_le (fun f hf => by have := hll f hf; omega) L.length (Nat.le_refl _)
  have hpl : (pls L).length = L.length := by simp
  refine enter (args := [_, _, _]) Try.func81 Try.ntmps81 rfl rfl hw ?_
  refine s_seq ?_
  refine s_region ?_
  refine o_h (h_box rfl rfl) rfl (fun b1 _ => ?_)
  refine o_h (h_box rfl rfl) rfl (fun b2 _ => ?_)
  refine o_p (p_pure rfl) rfl ?_
  refine o_p (p_pure rfl) rfl ?_
  refine o_nil ?_
  refine s_seq ?_
  refine s_region ?_
  refine o_p (p_pure rfl) rfl ?_
  refine o_nil ?_
  refine s_seq ?_
  refine s_seq ?_
  refine s_region ?_
  refine o_p (p_pure rfl) rfl ?_
  refine o_p (p_pure rfl) rfl ?_
  refine o_p (p_fieldAddr rfl rfl fd_106_0 sz_26 rfl) rfl ?_
  refine o_p (p_fieldAddr rfl rfl fd_26_1 sz_24 rfl) rfl ?_
  first | refine o_q (q_load rfl rfl sz_24 (by repeat (first | exact .here | apply Pick.there)) rfl) rfl ?_ | refine o_q (q_load_at rfl rfl sz_24 (fun w h => (h.rd_blk (Mc := []) (b := bt) (by repeat (first | exact .here | apply Pick.there)) rfl (by simp)))) rfl ?_ | refine o_q (q_load_at rfl rfl sz_24 (rfl (fun w h => Rw.rd (HS.ft (a := some ⟨ga, 0, none⟩) (cap := cap) (l := L) h (by repeat (first | exact .here | apply Pick.there))).1 hkl))) rfl ?_ | refine o_q (q_load_at rfl rfl sz_24 (rfl (fun w h => Rw.rd (HS.ft (a := some ⟨ga, 0, none⟩) (cap := cap) (l := L) h (by repeat (first | exact .here | apply Pick.there))).1 hi))) rfl ?_ | refine o_q (q_load_at rfl rfl sz_24 (fun w h => (h.rd_blk (Mc := []) (b := ga) (by repeat (first | exact .here | apply Pick.there)) (by rw [flat_get fv4 _ (bsL (cmps (pls L) rc sq)) 3 _ (nth_get hy1) (by decide)]; rfl) (by simp)))) rfl ?_
  first | refine o_p (p_len_slice rfl rfl Try.underlying24) rfl ?_ | refine o_q (q_len_own rfl rfl Try.underlying24 (by repeat (first | exact .here | apply Pick.there))) rfl ?_
  refine o_p (p_pure rfl) rfl ?_
  refine o_nil ?_
  refine s_block ?_
  refine s_loopI (α := Nat) [8, 10, 23, 24, 25, 26, 27, 28, 29, 30, 31, 32] (fun k => [(23, .int .i64 (k : Int)), (8, .int .i64 (cntT (pls (L.take k)) : Int))]) (fun _ => HS w (fps [.blk bt 106 2 [.int .i64 (next), .slice a (L).length cap], .files a cap (L)]) [.blk bt 106 2 [.int .i64 (next), .slice a (L).length cap], .files a cap (L), .blk b2 48 5 x.vals, .blk b1 42 2 [.int .i64 rc, .int .i64 sq]]) (fun k => k ≤ L.length) (fun k => L.length - k) 0 (by simp) (sl_c rfl (sl_c (congrArg (fun e => some (Value.int .i64 e)) (by simp [cntT, pls])) (by repeat (first | exact sl_n | refine sl_c rfl ?_)))) (fun w h => h.ent (by repeat (first | exact .nil | refine .cons (by repeat (first | exact .here | apply Pick.there)) ?_))) (fun k hk => ?_)
  have hck := cntT_le (fun f hf => by have := hll f hf; omega) k hk
  refine s_seq ?_
  refine s_region ?_
  refine o_p (p_pure rfl) rfl ?_
  refine o_nil ?_
  refine s_seq ?_
  refine s_cond rfl (fun h3 => ?_) (fun h3 => ?_)
  · try simp only [decide_eq_true_eq, decide_eq_false_iff_not, Bool.not_eq_true', Bool.not_eq_false', Bool.and_eq_true, Bool.or_eq_true, Bool.and_eq_false_iff, Bool.or_eq_false_iff, Bool.not_true, Bool.not_false] at h3
    have hkl : k < L.length := by omega
    have hlk9 := hll _ (mem_nth hkl)
    refine s_fact (fun w h => files_addr (l := L) (a := a) (cap := cap) (by omega) h (by repeat (first | exact .here | apply Pick.there))) (fun hga => ?_)
    obtain ⟨ga, rfl, hcap, hcm⟩ := hga
    refine s_skip ?_
    refine s_seq ?_
    refine s_block ?_
    refine s_seq ?_
    refine s_region ?_
    refine o_p (p_indexAddr rfl rfl rfl sl_24 (k) (by omega) (by omega) rfl) rfl ?_
    first | refine o_q (q_loadn rfl rfl sz_77 (by repeat (first | exact .here | apply Pick.there)) rfl) rfl ?_ | refine o_q (q_load_atn _ rfl rfl sz_77 fun w h => (h.rd_blk (Mc := []) (b := bt) (by repeat (first | exact .here | apply Pick.there)) rfl (by simp))) rfl ?_ | refine o_q (q_load_atn _ rfl rfl sz_77 rfl (fun w h => Rw.rd (HS.ft (a := some ⟨ga, 0, none⟩) (cap := cap) (l := L) h (by repeat (first | exact .here | apply Pick.there))).1 hkl)) rfl ?_ | refine o_q (q_load_atn _ rfl rfl sz_77 rfl (fun w h => Rw.rd (HS.ft (a := some ⟨ga, 0, none⟩) (cap := cap) (l := L) h (by repeat (first | exact .here | apply Pick.there))).1 hi)) rfl ?_ | refine o_q (q_load_atn _ rfl rfl sz_77 fun w h => (h.rd_blk (Mc := []) (b := ga) (by repeat (first | exact .here | apply Pick.there)) (by rw [flat_get fv4 _ (bsL (cmps (pls L) rc sq)) 3 _ (nth_get hy1) (by decide)]; rfl) (by simp))) rfl ?_
    refine o_h (h_alloc rfl zr_77) rfl (fun b4 _ => ?_)
    refine o_h0 (h_store rfl rfl rfl sz_77 rfl (by repeat (first | exact .here | apply Put.there)) (by simp only [setMany_length, List.length_set, List.length_cons, List.length_nil, List.length_map]; omega) rfl) (fun _ _ => ?_)
    refine o_nil ?_
    refine s_region ?_
    refine o_p (p_pure rfl) rfl ?_
    refine o_p (p_fieldAddr rfl rfl fd_77_2 sz_75 rfl) rfl ?_
    first | refine o_q (q_load rfl rfl sz_75 (by repeat (first | exact .here | apply Pick.there)) rfl) rfl ?_ | refine o_q (q_load_at rfl rfl sz_75 (fun w h => (h.rd_blk (Mc := []) (b := bt) (by repeat (first | exact .here | apply Pick.there)) rfl (by simp)))) rfl ?_ | refine o_q (q_load_at rfl rfl sz_75 (rfl (fun w h => Rw.rd (HS.ft (a := some ⟨ga, 0, none⟩) (cap := cap) (l := L) h (by repeat (first | exact .here | apply Pick.there))).1 hkl))) rfl ?_ | refine o_q (q_load_at rfl rfl sz_75 (rfl (fun w h => Rw.rd (HS.ft (a := some ⟨ga, 0, none⟩) (cap := cap) (l := L) h (by repeat (first | exact .here | apply Pick.there))).1 hi))) rfl ?_ | refine o_q (q_load_at rfl rfl sz_75 (fun w h => (h.rd_blk (Mc := []) (b := ga) (by repeat (first | exact .here | apply Pick.there)) (by rw [flat_get fv4 _ (bsL (cmps (pls L) rc sq)) 3 _ (nth_get hy1) (by decide)]; rfl) (by simp)))) rfl ?_
    first | refine o_p (p_len_slice rfl rfl Try.underlying75) rfl ?_ | refine o_q (q_len_own rfl rfl Try.underlying75 (by repeat (first | exact .here | apply Pick.there))) rfl ?_
    refine o_p (p_pure rfl) rfl ?_
    try (refine o_slot (i64w (by omega) (by omega)) ?_)
    refine o_p (p_pure rfl) rfl ?_
    refine o_nil ?_
    refine s_blk ?_
    refine s_region ?_
    refine o_p (p_pure rfl) rfl ?_
    try (refine o_slot (i64w (by omega) (by omega)) ?_)
    refine o_p (p_pure rfl) rfl ?_
    refine o_nil ?_
    exact s_backI (k + 1) (by omega) (by omega) (sl_c rfl (sl_c (congrArg (fun e => some (Value.int .i64 e)) (by rw [cntT_succ (by omega)]; omega)) (by repeat (first | exact sl_n | refine sl_c rfl ?_)))) (fun w h => h.ent (by repeat (first | exact .nil | refine .cons (by repeat (first | exact .here | apply Pick.there)) ?_)))
  · try simp only [decide_eq_true_eq, decide_eq_false_iff_not, Bool.not_eq_true', Bool.not_eq_false', Bool.and_eq_true, Bool.or_eq_true, Bool.and_eq_false_iff, Bool.or_eq_false_iff, Bool.not_true, Bool.not_false] at h3
    obtain rfl : k = L.length := by omega
    rw [List.take_length]
    refine s_exit_to rfl ?_
    refine s_seq ?_
    refine s_seq ?_
    refine s_cutI (α := Unit) [11, 33, 34, 35, 36, 37, 38, 39, 40, 41, 42, 43, 44, 45, 46, 47, 48, 49] (fun _ => [(11, .int .i64 (opnE next (pls L) rc sq x.pl))]) (fun _ => HS w (fps [.blk bt 106 2 [.int .i64 (next), .slice a (L).length cap], .files a cap (L)]) [.blk bt 106 2 [.int .i64 (next), .slice a (L).length cap], .files a cap (L), .blk b2 48 5 x.vals, .blk b1 42 2 [.int .i64 rc, .int .i64 sq]]) (fun _ => True) ?_ ?_
    · skip
      refine s_draw [] mixed ?_
      first | refine d_q 0 [] rfl (q_loadn rfl rfl sz_42 (by repeat (first | exact .here | apply Pick.there)) rfl) (by kernel_rfl) (by kernel_rfl) (by kernel_rfl) rfl ?_ | refine d_q 0 [] rfl (q_load_atn _ rfl rfl sz_42 fun w h => (h.rd_blk (Mc := []) (b := bt) (by repeat (first | exact .here | apply Pick.there)) rfl (by simp))) (by kernel_rfl) (by kernel_rfl) (by kernel_rfl) rfl ?_ | refine d_q 0 [] rfl (q_load_atn _ rfl rfl sz_42 rfl (fun w h => Rw.rd (HS.ft (a := some ⟨ga, 0, none⟩) (cap := cap) (l := L) h (by repeat (first | exact .here | apply Pick.there))).1 hkl)) (by kernel_rfl) (by kernel_rfl) (by kernel_rfl) rfl ?_ | refine d_q 0 [] rfl (q_load_atn _ rfl rfl sz_42 rfl (fun w h => Rw.rd (HS.ft (a := some ⟨ga, 0, none⟩) (cap := cap) (l := L) h (by repeat (first | exact .here | apply Pick.there))).1 hi)) (by kernel_rfl) (by kernel_rfl) (by kernel_rfl) rfl ?_ | refine d_q 0 [] rfl (q_load_atn _ rfl rfl sz_42 fun w h => (h.rd_blk (Mc := []) (b := ga) (by repeat (first | exact .here | apply Pick.there)) (by rw [flat_get fv4 _ (bsL (cmps (pls L) rc sq)) 3 _ (nth_get hy1) (by decide)]; rfl) (by simp))) (by kernel_rfl) (by kernel_rfl) (by kernel_rfl) rfl ?_
      refine d_q 1 [] rfl (q_call rfl fn_55 rfl (fun w1 h1 => c55 w1 rc sq)) (by kernel_rfl) (by kernel_rfl) (by kernel_rfl) rfl ?_
      first | refine d_q 2 [] rfl (q_loadn rfl rfl sz_48 (by repeat (first | exact .here | apply Pick.there)) rfl) (by kernel_rfl) (by kernel_rfl) (by kernel_rfl) rfl ?_ | refine d_q 2 [] rfl (q_load_atn _ rfl rfl sz_48 fun w h => (h.rd_blk (Mc := []) (b := bt) (by repeat (first | exact .here | apply Pick.there)) rfl (by simp))) (by kernel_rfl) (by kernel_rfl) (by kernel_rfl) rfl ?_ | refine d_q 2 [] rfl (q_load_atn _ rfl rfl sz_48 rfl (fun w h => Rw.rd (HS.ft (a := some ⟨ga, 0, none⟩) (cap := cap) (l := L) h (by repeat (first | exact .here | apply Pick.there))).1 hkl)) (by kernel_rfl) (by kernel_rfl) (by kernel_rfl) rfl ?_ | refine d_q 2 [] rfl (q_load_atn _ rfl rfl sz_48 rfl (fun w h => Rw.rd (HS.ft (a := some ⟨ga, 0, none⟩) (cap := cap) (l := L) h (by repeat (first | exact .here | apply Pick.there))).1 hi)) (by kernel_rfl) (by kernel_rfl) (by kernel_rfl) rfl ?_ | refine d_q 2 [] rfl (q_load_atn _ rfl rfl sz_48 fun w h => (h.rd_blk (Mc := []) (b := ga) (by repeat (first | exact .here | apply Pick.there)) (by rw [flat_get fv4 _ (bsL (cmps (pls L) rc sq)) 3 _ (nth_get hy1) (by decide)]; rfl) (by simp))) (by kernel_rfl) (by kernel_rfl) (by kernel_rfl) rfl ?_
      refine d_q 3 [] rfl (q_call rfl fn_62 rfl (fun w1 h1 => c62 w1 x)) (by kernel_rfl) (by kernel_rfl) (by kernel_rfl) rfl ?_
      refine d_p 4 rfl (p_pure rfl) (by kernel_rfl) rfl rfl ?_
      refine d_p 5 rfl (p_pure rfl) (by kernel_rfl) rfl rfl ?_
      refine d_p 6 rfl (p_pure rfl) (by kernel_rfl) rfl rfl ?_
      apply d_split 39
      · exact rfl
      · intro hg5
        have hs6 := hg5; try simp only [decide_eq_true_eq, decide_eq_false_iff_not, Bool.not_eq_true', Bool.not_eq_false', Bool.and_eq_true, Bool.or_eq_true, Bool.and_eq_false_iff, Bool.or_eq_false_iff, Bool.not_true, Bool.not_false] at hs6
        refine d_pon 7 39 rfl rfl rfl hg5 (p_pure rfl) (by kernel_rfl) rfl rfl ?_
        refine d_pon 8 39 rfl rfl rfl hg5 (p_pure rfl) (by kernel_rfl) rfl rfl ?_
        refine d_pon 9 39 rfl rfl rfl hg5 (p_fieldAddr rfl rfl fd_106_0 sz_26 rfl) (by kernel_rfl) rfl rfl ?_
        refine d_pon 10 39 rfl rfl rfl hg5 (p_fieldAddr rfl rfl fd_26_0 sz_3 rfl) (by kernel_rfl) rfl rfl ?_
        first | refine d_qon 11 39 [] rfl rfl rfl hg5 (q_load rfl rfl sz_3 (by repeat (first | exact .here | apply Pick.there)) rfl) (by kernel_rfl) (by kernel_rfl) (by kernel_rfl) rfl ?_ | refine d_qon 11 39 [] rfl rfl rfl hg5 (q_load_at rfl rfl sz_3 (fun w h => (h.rd_blk (Mc := []) (b := bt) (by repeat (first | exact .here | apply Pick.there)) rfl (by simp)))) (by kernel_rfl) (by kernel_rfl) (by kernel_rfl) rfl ?_ | refine d_qon 11 39 [] rfl rfl rfl hg5 (q_load_at rfl rfl sz_3 (rfl (fun w h => Rw.rd (HS.ft (a := some ⟨ga, 0, none⟩) (cap := cap) (l := L) h (by repeat (first | exact .here | apply Pick.there))).1 hkl))) (by kernel_rfl) (by kernel_rfl) (by kernel_rfl) rfl ?_ | refine d_qon 11 39 [] rfl rfl rfl hg5 (q_load_at rfl rfl sz_3 (rfl (fun w h => Rw.rd (HS.ft (a := some ⟨ga, 0, none⟩) (cap := cap) (l := L) h (by repeat (first | exact .here | apply Pick.there))).1 hi))) (by kernel_rfl) (by kernel_rfl) (by kernel_rfl) rfl ?_ | refine d_qon 11 39 [] rfl rfl rfl hg5 (q_load_at rfl rfl sz_3 (fun w h => (h.rd_blk (Mc := []) (b := ga) (by repeat (first | exact .here | apply Pick.there)) (by rw [flat_get fv4 _ (bsL (cmps (pls L) rc sq)) 3 _ (nth_get hy1) (by decide)]; rfl) (by simp)))) (by kernel_rfl) (by kernel_rfl) (by kernel_rfl) rfl ?_
        refine d_pon 12 39 rfl rfl rfl hg5 (p_pure rfl) (by kernel_rfl) rfl rfl ?_
        refine d_p 13 rfl (p_pickt rfl rfl hg5 rfl) (by kernel_rfl) rfl rfl ?_
        refine d_q 14 [] rfl (q_call rfl fn_48 rfl (fun w1 h1 => c48 w1 _ _)) (by kernel_rfl) (by kernel_rfl) (by kernel_rfl) rfl ?_
        refine d_h 15 rfl (h_buildSlice (cs := [_, _, _]) rfl rfl sl_146 zr_28 rfl rfl rfl) (by kernel_rfl) (fun w h => h.ent (by repeat (first | exact .nil | refine .cons (by repeat (first | exact .here | apply Pick.there)) ?_))) rfl (fun b7 _ => ?_)
        refine d_base (fun w h => h.ent (by repeat (first | exact .nil | refine .cons (by repeat (first | exact .here | apply Pick.there)) ?_))) ?_
        refine d_q 16 [] rfl (q_call rfl fn_52 rfl (fun w1 h1 => f52 h1 (by repeat (first | exact .here | apply Pick.there)) (by rfl) (by rfl) (by decide))) (by kernel_rfl) (by kernel_rfl) (by kernel_rfl) rfl ?_
        refine d_p 17 rfl (p_pure rfl) (by kernel_rfl) rfl rfl ?_
        refine d_nil (by kernel_rfl) (fun w h => h.ent (by repeat (first | exact .nil | refine .cons (by repeat (first | exact .here | apply Pick.there)) ?_))) ?_
        exact s_joinI () trivial (sl_c (congrArg (fun e => some (Value.int .i64 e)) (by rw [← opnE_first (x := x.pl), hg5]; rfl)) (by repeat (first | exact sl_n | refine sl_c rfl ?_))) (fun w h => h.ent (by repeat (first | exact .nil | refine .cons (by repeat (first | exact .here | apply Pick.there)) ?_)))
      · intro hg8
        have hs9 := hg8; try simp only [decide_eq_true_eq, decide_eq_false_iff_not, Bool.not_eq_true', Bool.not_eq_false', Bool.and_eq_true, Bool.or_eq_true, Bool.and_eq_false_iff, Bool.or_eq_false_iff, Bool.not_true, Bool.not_false] at hs9
        refine d_off 7 39 rfl rfl rfl hg8 (by kernel_rfl) rfl rfl ?_
        refine d_off 8 39 rfl rfl rfl hg8 (by kernel_rfl) rfl rfl ?_
        refine d_off 9 39 rfl rfl rfl hg8 (by kernel_rfl) rfl rfl ?_
        refine d_off 10 39 rfl rfl rfl hg8 (by kernel_rfl) rfl rfl ?_
        refine d_off 11 39 rfl rfl rfl hg8 (by kernel_rfl) rfl rfl ?_
        refine d_off 12 39 rfl rfl rfl hg8 (by kernel_rfl) rfl rfl ?_
        refine d_p 13 rfl (p_pickf rfl rfl hg8 rfl) (by kernel_rfl) rfl rfl ?_
        refine d_q 14 [] rfl (q_call rfl fn_48 rfl (fun w1 h1 => c48 w1 _ _)) (by kernel_rfl) (by kernel_rfl) (by kernel_rfl) rfl ?_
        refine d_h 15 rfl (h_buildSlice (cs := [_, _, _]) rfl rfl sl_146 zr_28 rfl rfl rfl) (by kernel_rfl) (fun w h => h.ent (by repeat (first | exact .nil | refine .cons (by repeat (first | exact .here | apply Pick.there)) ?_))) rfl (fun b10 _ => ?_)
        refine d_base (fun w h => h.ent (by repeat (first | exact .nil | refine .cons (by repeat (first | exact .here | apply Pick.there)) ?_))) ?_
        refine d_q 16 [] rfl (q_call rfl fn_52 rfl (fun w1 h1 => f52 h1 (by repeat (first | exact .here | apply Pick.there)) (by rfl) (by rfl) (by decide))) (by kernel_rfl) (by kernel_rfl) (by kernel_rfl) rfl ?_
        refine d_p 17 rfl (p_pure rfl) (by kernel_rfl) rfl rfl ?_
        refine d_nil (by kernel_rfl) (fun w h => h.ent (by repeat (first | exact .nil | refine .cons (by repeat (first | exact .here | apply Pick.there)) ?_))) ?_
        exact s_joinI () trivial (sl_c (congrArg (fun e => some (Value.int .i64 e)) (by rw [← opnE_first (x := x.pl), hg8]; rfl)) (by repeat (first | exact sl_n | refine sl_c rfl ?_))) (fun w h => h.ent (by repeat (first | exact .nil | refine .cons (by repeat (first | exact .here | apply Pick.there)) ?_)))
    · intro _ _
      refine s_seq ?_
      refine s_region ?_
      refine o_p (p_pure rfl) rfl ?_
      refine o_p (p_pure rfl) rfl ?_
      refine o_nil ?_
      refine s_cond rfl (fun h11 => ?_) (fun h11 => ?_)
      · try simp only [decide_eq_true_eq, decide_eq_false_iff_not, Bool.not_eq_true', Bool.not_eq_false', Bool.and_eq_true, Bool.or_eq_true, Bool.and_eq_false_iff, Bool.or_eq_false_iff, Bool.not_true, Bool.not_false] at h11
        have hne : ¬ opnE next (pls L) rc sq x.pl = 0 := h11
        refine s_seq ?_
        refine s_region ?_
        refine o_p (p_pure rfl) rfl ?_
        refine o_p (p_pure rfl) rfl ?_
        refine o_p (p_pure rfl) rfl ?_
        refine o_nil ?_
        exact s_retv (rs := [.tmp 6, .tmp 7]) rfl (.tmp rfl (.tmp rfl (.nil))) (fun w' h' => ⟨((a, cap), L), by rw [openT, if_neg hne]; rfl, by rw [openT, if_neg hne], by rw [openT, if_neg hne]; exact h'.ent (by repeat (first | exact .nil | refine .cons (by repeat (first | exact .here | apply Pick.there)) ?_))⟩)
      · try simp only [decide_eq_true_eq, decide_eq_false_iff_not, Bool.not_eq_true', Bool.not_eq_false', Bool.and_eq_true, Bool.or_eq_true, Bool.and_eq_false_iff, Bool.or_eq_false_iff, Bool.not_true, Bool.not_false] at h11
        have hz : opnE next (pls L) rc sq x.pl = 0 := h11
        obtain ⟨hz1, hz2, hz3, hz4⟩ := opnE_pos hz
        refine s_skip ?_
        refine s_seq ?_
        refine s_region ?_
        refine o_p (p_pure rfl) rfl ?_
        first | refine o_q (q_loadn rfl rfl sz_42 (by repeat (first | exact .here | apply Pick.there)) rfl) rfl ?_ | refine o_q (q_load_atn _ rfl rfl sz_42 fun w h => (h.rd_blk (Mc := []) (b := bt) (by repeat (first | exact .here | apply Pick.there)) rfl (by simp))) rfl ?_ | refine o_q (q_load_atn _ rfl rfl sz_42 rfl (fun w h => Rw.rd (HS.ft (a := some ⟨ga, 0, none⟩) (cap := cap) (l := L) h (by repeat (first | exact .here | apply Pick.there))).1 hkl)) rfl ?_ | refine o_q (q_load_atn _ rfl rfl sz_42 rfl (fun w h => Rw.rd (HS.ft (a := some ⟨ga, 0, none⟩) (cap := cap) (l := L) h (by repeat (first | exact .here | apply Pick.there))).1 hi)) rfl ?_ | refine o_q (q_load_atn _ rfl rfl sz_42 fun w h => (h.rd_blk (Mc := []) (b := ga) (by repeat (first | exact .here | apply Pick.there)) (by rw [flat_get fv4 _ (bsL (cmps (pls L) rc sq)) 3 _ (nth_get hy1) (by decide)]; rfl) (by simp))) rfl ?_
        refine o_q (q_call rfl fn_114 rfl (fun w1 h1 => c114 w1 bt a cap L rc sq (h1.rd_blk (Mc := []) (b := bt) (by repeat (first | exact .here | apply Pick.there)) rfl (by simp)) (h1.ft (by repeat (first | exact .here | apply Pick.there))) (by omega) (fun f hf => by have := hll f hf; omega))) rfl ?_
        refine o_p (p_pure rfl) rfl ?_
        refine o_p (p_pure rfl) rfl ?_
        refine o_p (p_pure rfl) rfl ?_
        refine o_p (p_pure rfl) rfl ?_
        refine o_p (p_pure rfl) rfl ?_
        refine o_nil ?_
        refine s_seq ?_
        refine s_seq ?_
        refine s_region ?_
        refine o_p (p_pure rfl) rfl ?_
        refine o_nil ?_
        refine s_weaken (L' := [(0, _), (1, _), (2, _), (4, _), (5, _), (6, _), (7, _), (8, _), (12, _), (17, _), (18, _), (19, _), (20, _), (21, _), (22, _), (23, _), (59, _)]) (by repeat (first | exact sl_n | refine sl_c rfl ?_)) (fun _ h => h) ?_
        refine s_cutI (α := (Option Addr × Nat) × List LFil) [6, 7, 14, 15, 16, 60, 61, 62, 63, 64, 65, 66, 67, 68, 69, 70, 71, 72, 73, 74, 75, 76, 77, 78, 79, 80, 81, 82, 83, 84, 85, 86, 87, 88, 89, 90, 91, 92, 93, 94, 95, 96, 97] (fun _ => []) (fun y : (Option Addr × Nat) × List LFil => HS w (fps [.blk bt 106 2 [.int .i64 (next), .slice a (L).length cap], .files a cap (L)]) [.blk bt 106 2 [.int .i64 (next), .slice y.1.1 y.2.length y.1.2], .files y.1.1 y.1.2 y.2, .blk b2 48 5 x.vals]) (fun y : (Option Addr × Nat) × List LFil => (bsL (cmps (pls L) rc sq)) < y.2.length ∧ (nth y.2 (bsL (cmps (pls L) rc sq))).op.length ≤ 32 ∧ y.2.length ≤ 33 ∧ opnE next (pls L) rc sq x.pl = 0 ∧ ∀ f : LFil, f.pl = putO (nth y.2 (bsL (cmps (pls L) rc sq))).pl x.pl next → (openT next (pls L) rc sq x.pl) = (pls (y.2.set (bsL (cmps (pls L) rc sq)) f), next + 1, next, 0)) ?_ ?_
        · skip
          refine s_cond rfl (fun h12 => ?_) (fun h12 => ?_)
          · try simp only [decide_eq_true_eq, decide_eq_false_iff_not, Bool.not_eq_true', Bool.not_eq_false', Bool.and_eq_true, Bool.or_eq_true, Bool.and_eq_false_iff, Bool.or_eq_false_iff, Bool.not_true, Bool.not_false] at h12
            have hbF := h12
            have hi := bsF_lt h12
            obtain ⟨ga, rfl, hcap, hcm⟩ := files_addr (by omega) hw (.there .here)
            refine s_seq ?_
            refine s_region ?_
            refine o_p (p_pure rfl) rfl ?_
            refine o_p (p_pure rfl) rfl ?_
            refine o_p (p_fieldAddr rfl rfl fd_106_0 sz_26 rfl) rfl ?_
            refine o_p (p_fieldAddr rfl rfl fd_26_1 sz_24 rfl) rfl ?_
            first | refine o_q (q_load rfl rfl sz_24 (by repeat (first | exact .here | apply Pick.there)) rfl) rfl ?_ | refine o_q (q_load_at rfl rfl sz_24 (fun w h => (h.rd_blk (Mc := []) (b := bt) (by repeat (first | exact .here | apply Pick.there)) rfl (by simp)))) rfl ?_ | refine o_q (q_load_at rfl rfl sz_24 (rfl (fun w h => Rw.rd (HS.ft (a := some ⟨ga, 0, none⟩) (cap := cap) (l := L) h (by repeat (first | exact .here | apply Pick.there))).1 hkl))) rfl ?_ | refine o_q (q_load_at rfl rfl sz_24 (rfl (fun w h => Rw.rd (HS.ft (a := some ⟨ga, 0, none⟩) (cap := cap) (l := L) h (by repeat (first | exact .here | apply Pick.there))).1 hi))) rfl ?_ | refine o_q (q_load_at rfl rfl sz_24 (fun w h => (h.rd_blk (Mc := []) (b := ga) (by repeat (first | exact .here | apply Pick.there)) (by rw [flat_get fv4 _ (bsL (cmps (pls L) rc sq)) 3 _ (nth_get hy1) (by decide)]; rfl) (by simp)))) rfl ?_
            refine o_p (p_pure rfl) rfl ?_
            refine o_p (p_indexAddr rfl rfl rfl sl_24 ((bsL (cmps (pls L) rc sq))) (by omega) (by omega) rfl) rfl ?_
            first | refine o_q (q_loadn rfl rfl sz_77 (by repeat (first | exact .here | apply Pick.there)) rfl) rfl ?_ | refine o_q (q_load_atn _ rfl rfl sz_77 fun w h => (h.rd_blk (Mc := []) (b := bt) (by repeat (first | exact .here | apply Pick.there)) rfl (by simp))) rfl ?_ | refine o_q (q_load_atn _ rfl rfl sz_77 rfl (fun w h => Rw.rd (HS.ft (a := some ⟨ga, 0, none⟩) (cap := cap) (l := L) h (by repeat (first | exact .here | apply Pick.there))).1 hkl)) rfl ?_ | refine o_q (q_load_atn _ rfl rfl sz_77 rfl (fun w h => Rw.rd (HS.ft (a := some ⟨ga, 0, none⟩) (cap := cap) (l := L) h (by repeat (first | exact .here | apply Pick.there))).1 hi)) rfl ?_ | refine o_q (q_load_atn _ rfl rfl sz_77 fun w h => (h.rd_blk (Mc := []) (b := ga) (by repeat (first | exact .here | apply Pick.there)) (by rw [flat_get fv4 _ (bsL (cmps (pls L) rc sq)) 3 _ (nth_get hy1) (by decide)]; rfl) (by simp))) rfl ?_
            refine o_h (h_alloc rfl zr_77) rfl (fun b13 _ => ?_)
            refine o_h0 (h_store rfl rfl rfl sz_77 rfl (by repeat (first | exact .here | apply Put.there)) (by simp only [setMany_length, List.length_set, List.length_cons, List.length_nil, List.length_map]; omega) rfl) (fun _ _ => ?_)
            refine o_nil ?_
            refine s_seq ?_
            refine s_region ?_
            refine o_p (p_fieldAddr rfl rfl fd_77_2 sz_75 rfl) rfl ?_
            first | refine o_q (q_load rfl rfl sz_75 (by repeat (first | exact .here | apply Pick.there)) rfl) rfl ?_ | refine o_q (q_load_at rfl rfl sz_75 (fun w h => (h.rd_blk (Mc := []) (b := bt) (by repeat (first | exact .here | apply Pick.there)) rfl (by simp)))) rfl ?_ | refine o_q (q_load_at rfl rfl sz_75 (rfl (fun w h => Rw.rd (HS.ft (a := some ⟨ga, 0, none⟩) (cap := cap) (l := L) h (by repeat (first | exact .here | apply Pick.there))).1 hkl))) rfl ?_ | refine o_q (q_load_at rfl rfl sz_75 (rfl (fun w h => Rw.rd (HS.ft (a := some ⟨ga, 0, none⟩) (cap := cap) (l := L) h (by repeat (first | exact .here | apply Pick.there))).1 hi))) rfl ?_ | refine o_q (q_load_at rfl rfl sz_75 (fun w h => (h.rd_blk (Mc := []) (b := ga) (by repeat (first | exact .here | apply Pick.there)) (by rw [flat_get fv4 _ (bsL (cmps (pls L) rc sq)) 3 _ (nth_get hy1) (by decide)]; rfl) (by simp)))) rfl ?_
            refine o_p (p_pure rfl) rfl ?_
            refine o_q (q_call rfl fn_95 rfl (fun w1 h1 => by have hot := (HS.ft (a := some ⟨ga, 0, none⟩) (cap := cap) (l := L) h1 (by repeat (first | exact .here | apply Pick.there))).at hi; have h9 := c95 w1 _ (nth L (bsL (cmps (pls L) rc sq))).oc (nth L (bsL (cmps (pls L) rc sq))).op 115 #[.pointer (some ⟨b2, 0, none⟩)] ((nth L (bsL (cmps (pls L) rc sq))).op.map fun y => cfl x.pl y.pl) hot.1 (by have := hll _ (mem_nth hi); omega) (by kernel_rfl) (by simp) (fun j w2 hj h2 => by rw [map_getD_nthB hj]; exact c115 w2 b2 x _ (fun p v hv => by rw [Nat.zero_add]; exact (h1.rd_blk (Mc := []) (by repeat (first | exact .here | apply Pick.there)) hv (by simp)).next h2) hz2 (VW.at hV hi hj).1); rw [any_map_id] at h9; exact h9)) rfl ?_
            refine o_p (p_pure rfl) rfl ?_
            refine o_p (p_pure rfl) rfl ?_
            refine o_nil ?_
            refine s_seq ?_
            refine s_weaken (L' := [(0, _), (1, _), (2, _), (4, _), (5, _), (6, _), (7, _), (8, _), (12, _), (14, _), (15, _), (17, _), (18, _), (19, _), (20, _), (21, _), (22, _), (23, _), (59, _)]) (by repeat (first | exact sl_n | refine sl_c rfl ?_)) (fun _ h => h) ?_
            refine s_region ?_
            refine o_p (p_fieldAddr rfl rfl fd_77_1 sz_4 rfl) rfl ?_
            first | refine o_q (q_load rfl rfl sz_4 (by repeat (first | exact .here | apply Pick.there)) rfl) rfl ?_ | refine o_q (q_load_at rfl rfl sz_4 (fun w h => (h.rd_blk (Mc := []) (b := bt) (by repeat (first | exact .here | apply Pick.there)) rfl (by simp)))) rfl ?_ | refine o_q (q_load_at rfl rfl sz_4 (rfl (fun w h => Rw.rd (HS.ft (a := some ⟨ga, 0, none⟩) (cap := cap) (l := L) h (by repeat (first | exact .here | apply Pick.there))).1 hkl))) rfl ?_ | refine o_q (q_load_at rfl rfl sz_4 (rfl (fun w h => Rw.rd (HS.ft (a := some ⟨ga, 0, none⟩) (cap := cap) (l := L) h (by repeat (first | exact .here | apply Pick.there))).1 hi))) rfl ?_ | refine o_q (q_load_at rfl rfl sz_4 (fun w h => (h.rd_blk (Mc := []) (b := ga) (by repeat (first | exact .here | apply Pick.there)) (by rw [flat_get fv4 _ (bsL (cmps (pls L) rc sq)) 3 _ (nth_get hy1) (by decide)]; rfl) (by simp)))) rfl ?_
            refine o_p (p_pure rfl) rfl ?_
            refine o_q (q_call rfl fn_48 rfl (fun w1 h1 => c48 w1 _ _)) rfl ?_
            refine o_p (p_pure rfl) rfl ?_
            refine o_q (q_call rfl fn_48 rfl (fun w1 h1 => c48 w1 _ _)) rfl ?_
            refine o_h (h_buildSlice (cs := [_, _]) rfl rfl sl_146 zr_28 rfl rfl rfl) rfl (fun b14 _ => ?_)
            refine o_q (q_call rfl fn_52 rfl (fun w1 h1 => f52 h1 (by repeat (first | exact .here | apply Pick.there)) (by rfl) (by rfl) (by decide))) rfl ?_
            refine o_p (p_pure rfl) rfl ?_
            refine o_nil ?_
            refine s_seq ?_
            refine s_region ?_
            refine o_p (p_pure rfl) rfl ?_
            refine o_p (p_pure rfl) rfl ?_
            refine o_nil ?_
            refine s_cond rfl (fun h15 => ?_) (fun h15 => ?_)
            · try simp only [decide_eq_true_eq, decide_eq_false_iff_not, Bool.not_eq_true', Bool.not_eq_false', Bool.and_eq_true, Bool.or_eq_true, Bool.and_eq_false_iff, Bool.or_eq_false_iff, Bool.not_true, Bool.not_false] at h15
              have hold : ¬ oldE (nth L (bsL (cmps (pls L) rc sq))).pl x.pl = 0 := by rw [← oldE_first]; exact h15
              refine s_seq ?_
              refine s_weaken (L' := [(0, _), (1, _), (2, _), (4, _), (5, _), (6, _), (7, _), (8, _), (12, _), (16, _), (17, _), (18, _), (19, _), (20, _), (21, _), (22, _), (23, _), (59, _)]) (by repeat (first | exact sl_n | refine sl_c rfl ?_)) (fun _ h => h) ?_
              refine s_region ?_
              refine o_p (p_pure rfl) rfl ?_
              refine o_p (p_pure rfl) rfl ?_
              refine o_p (p_pure rfl) rfl ?_
              refine o_nil ?_
              exact s_retv (rs := [.tmp 6, .tmp 7]) rfl (.tmp rfl (.tmp rfl (.nil))) (fun w' h' => ⟨((some ⟨ga, 0, none⟩, cap), L), by rw [openT, if_pos hz, if_pos hbF, nth_pls hi, if_neg hold, oldE_first]; rfl, by rw [openT, if_pos hz, if_pos hbF, nth_pls hi, if_neg hold], by rw [openT, if_pos hz, if_pos hbF, nth_pls hi, if_neg hold]; exact h'.ent (by repeat (first | exact .nil | refine .cons (by repeat (first | exact .here | apply Pick.there)) ?_))⟩)
            · try simp only [decide_eq_true_eq, decide_eq_false_iff_not, Bool.not_eq_true', Bool.not_eq_false', Bool.and_eq_true, Bool.or_eq_true, Bool.and_eq_false_iff, Bool.or_eq_false_iff, Bool.not_true, Bool.not_false] at h15
              have hold : oldE (nth L (bsL (cmps (pls L) rc sq))).pl x.pl = 0 := by rw [← oldE_first]; exact h15
              refine s_skip ?_
              exact s_joinI ((some ⟨ga, 0, none⟩, cap), L) ⟨hi, hll _ (mem_nth hi), by show L.length ≤ 33; omega, hz, fun f hf => openT_old hz hbF hold hf⟩ (by repeat (first | exact sl_n | refine sl_c rfl ?_)) (fun w h => h.ent (by repeat (first | exact .nil | refine .cons (by repeat (first | exact .here | apply Pick.there)) ?_)))
          · try simp only [decide_eq_true_eq, decide_eq_false_iff_not, Bool.not_eq_true', Bool.not_eq_false', Bool.and_eq_true, Bool.or_eq_true, Bool.and_eq_false_iff, Bool.or_eq_false_iff, Bool.not_true, Bool.not_false] at h12
            have hnF := h12
            have hib : (bsL (cmps (pls L) rc sq)) ≤ L.length := bsL_le
            refine s_class (fun w h => HS.files_open h (by repeat (first | exact .here | apply Pick.there))) ?_
            refine s_draw [10, 14] mixed ?_
            refine d_p 0 rfl (p_pure rfl) (by kernel_rfl) rfl rfl ?_
            refine d_p 1 rfl (p_pure rfl) (by kernel_rfl) rfl rfl ?_
            refine d_p 2 rfl (p_pure rfl) (by kernel_rfl) rfl rfl ?_
            refine d_p 3 rfl (p_fieldAddr rfl rfl fd_106_0 sz_26 rfl) (by kernel_rfl) rfl rfl ?_
            refine d_p 4 rfl (p_fieldAddr rfl rfl fd_26_1 sz_24 rfl) (by kernel_rfl) rfl rfl ?_
            first | refine d_q 5 [[], []] rfl (q_load rfl rfl sz_24 (by repeat (first | exact .here | apply Pick.there)) rfl) (by kernel_rfl) (by kernel_rfl) (by kernel_rfl) rfl ?_ | refine d_q 5 [[], []] rfl (q_load_at rfl rfl sz_24 (fun w h => (h.rd_blk (Mc := []) (b := bt) (by repeat (first | exact .here | apply Pick.there)) rfl (by simp)))) (by kernel_rfl) (by kernel_rfl) (by kernel_rfl) rfl ?_ | refine d_q 5 [[], []] rfl (q_load_at rfl rfl sz_24 (rfl (fun w h => Rw.rd (HS.ft (a := some ⟨ga, 0, none⟩) (cap := cap) (l := L) h (by repeat (first | exact .here | apply Pick.there))).1 hkl))) (by kernel_rfl) (by kernel_rfl) (by kernel_rfl) rfl ?_ | refine d_q 5 [[], []] rfl (q_load_at rfl rfl sz_24 (rfl (fun w h => Rw.rd (HS.ft (a := some ⟨ga, 0, none⟩) (cap := cap) (l := L) h (by repeat (first | exact .here | apply Pick.there))).1 hi))) (by kernel_rfl) (by kernel_rfl) (by kernel_rfl) rfl ?_ | refine d_q 5 [[], []] rfl (q_load_at rfl rfl sz_24 (fun w h => (h.rd_blk (Mc := []) (b := ga) (by repeat (first | exact .here | apply Pick.there)) (by rw [flat_get fv4 _ (bsL (cmps (pls L) rc sq)) 3 _ (nth_get hy1) (by decide)]; rfl) (by simp)))) (by kernel_rfl) (by kernel_rfl) (by kernel_rfl) rfl ?_
            refine d_p 6 rfl (p_pure rfl) (by kernel_rfl) rfl rfl ?_
            first | refine d_q 7 [[9, 8], []] rfl (q_loadn rfl rfl sz_42 (by repeat (first | exact .here | apply Pick.there)) rfl) (by kernel_rfl) (by kernel_rfl) (by kernel_rfl) rfl ?_ | refine d_q 7 [[9, 8], []] rfl (q_load_atn _ rfl rfl sz_42 fun w h => (h.rd_blk (Mc := []) (b := bt) (by repeat (first | exact .here | apply Pick.there)) rfl (by simp))) (by kernel_rfl) (by kernel_rfl) (by kernel_rfl) rfl ?_ | refine d_q 7 [[9, 8], []] rfl (q_load_atn _ rfl rfl sz_42 rfl (fun w h => Rw.rd (HS.ft (a := some ⟨ga, 0, none⟩) (cap := cap) (l := L) h (by repeat (first | exact .here | apply Pick.there))).1 hkl)) (by kernel_rfl) (by kernel_rfl) (by kernel_rfl) rfl ?_ | refine d_q 7 [[9, 8], []] rfl (q_load_atn _ rfl rfl sz_42 rfl (fun w h => Rw.rd (HS.ft (a := some ⟨ga, 0, none⟩) (cap := cap) (l := L) h (by repeat (first | exact .here | apply Pick.there))).1 hi)) (by kernel_rfl) (by kernel_rfl) (by kernel_rfl) rfl ?_ | refine d_q 7 [[9, 8], []] rfl (q_load_atn _ rfl rfl sz_42 fun w h => (h.rd_blk (Mc := []) (b := ga) (by repeat (first | exact .here | apply Pick.there)) (by rw [flat_get fv4 _ (bsL (cmps (pls L) rc sq)) 3 _ (nth_get hy1) (by decide)]; rfl) (by simp))) (by kernel_rfl) (by kernel_rfl) (by kernel_rfl) rfl ?_
            refine d_p 8 rfl (p_build (cs := [_, _, _, _]) rfl rfl pl_77 zr_77 rfl) (by kernel_rfl) rfl rfl ?_
            refine d_h 9 rfl (h_buildSlice (cs := [_, _, _, _]) rfl rfl sl_24 zr_77 rfl rfl rfl) (by kernel_rfl) (fun w h => h.ent (by repeat (first | exact .nil | refine .cons (by repeat (first | exact .here | apply Pick.there)) ?_))) rfl (fun b16 _ => ?_)
            refine d_base (fun w h => h.ent (by repeat (first | exact .nil | refine .cons (by repeat (first | exact .here | apply Pick.there)) ?_))) ?_
            refine d_h 10 rfl (h_callF (Cs := [.own (.slice a L.length cap) 77 4 L.length (L.flatMap LFil.vals), .blk b16 77 4 (newF rc sq).vals]) rfl fn_116 rfl (by repeat (first | exact Picks.nil | (apply Picks.cons; · (repeat (first | exact .here | apply Pick.there))))) (fun w1 h1 hf => c116 w1 a (bsL (cmps (pls L) rc sq)) L.length 1 cap _ _ b16 1 4 hf (by omega) rfl (fv1 (newF rc sq)) (flat_one fv1 _) (by omega) hib)) (by kernel_rfl) (fun w h => h.ent (by repeat (first | exact .nil | refine .cons (by repeat (first | exact .here | apply Pick.there)) ?_))) rfl (fun gn _ => ?_)
            refine d_turn [14] (by kernel_rfl) ?_
            refine d_p 11 rfl (p_pure rfl) (by kernel_rfl) rfl rfl ?_
            refine d_p 12 rfl (p_fieldAddr rfl rfl fd_106_0 sz_26 rfl) (by kernel_rfl) rfl rfl ?_
            refine d_p 13 rfl (p_fieldAddr rfl rfl fd_26_1 sz_24 rfl) (by kernel_rfl) rfl rfl ?_
            refine d_h0 14 rfl (h_store rfl rfl rfl sz_24 rfl (by repeat (first | exact .here | apply Put.there)) (by simp only [setMany_length, List.length_set, List.length_cons, List.length_nil, List.length_map]; omega) rfl) (by kernel_rfl) (fun w h => h.ent (by repeat (first | exact .nil | refine .cons (by repeat (first | exact .here | apply Pick.there)) ?_))) (fun _ _ => ?_)
            refine d_turn [] (by kernel_rfl) ?_
            refine d_nil (by kernel_rfl) (fun w h => h.ent (by repeat (first | exact .nil | refine .cons (by repeat (first | exact .here | apply Pick.there)) ?_))) ?_
            exact s_joinI ((gn.1, gn.2), insAt L (bsL (cmps (pls L) rc sq)) (newF rc sq)) ⟨by rw [ins_len hib]; omega, by rw [ins_nth hib]; simp [newF], by rw [ins_len hib]; omega, hz, fun f hf => openT_new hz (by rw [hnF]; decide) (by rw [ins_nth hib] at hf; exact hf)⟩ (by repeat (first | exact sl_n | refine sl_c rfl ?_)) (fun w h => by have h2 := HS.files_ins (i := (bsL (cmps (pls L) rc sq))) (rc := rc) (sq := sq) (h.ent (Bs := [.own (.slice gn.1 (L.length + 1) gn.2) 77 4 (L.length + 1) _, .star (L.map subF), .blk bt 106 2 _, .blk b2 48 5 x.vals]) (by repeat (first | exact .nil | refine .cons (by repeat (first | exact .here | apply Pick.there)) ?_))) (by rw [ins_len hib]) (ins_flat fv4 L (bsL (cmps (pls L) rc sq)) (newF rc sq)); rw [ins_len hib]; exact h2.ent (by repeat (first | exact .nil | refine .cons (by repeat (first | exact .here | apply Pick.there)) ?_)))
        · intro ⟨⟨ya, yc⟩, N⟩ hy
          dsimp only at hy ⊢
          obtain ⟨hy1, hy2, hy3, hz, hy4⟩ := hy
          obtain ⟨_, hz2, _, hz4⟩ := opnE_pos hz
          refine s_fact (fun w h => files_addr (l := N) (a := ya) (cap := yc) (by omega) h (by repeat (first | exact .here | apply Pick.there))) (fun hga => ?_)
          obtain ⟨ga, rfl, hcap, hcm⟩ := hga
          refine s_class (fun w h => HS.file_at hy1 h (by repeat (first | exact .here | apply Pick.there))) ?_
          refine s_class (fun w h => HS.opens_split (a := (nth N (bsL (cmps (pls L) rc sq))).oa) (cap := (nth N (bsL (cmps (pls L) rc sq))).oc) (l := (nth N (bsL (cmps (pls L) rc sq))).op) h (by repeat (first | exact .here | apply Pick.there))) ?_
          refine s_seq ?_
          refine s_region ?_
          refine o_p (p_pure rfl) rfl ?_
          refine o_p (p_pure rfl) rfl ?_
          refine o_p (p_fieldAddr rfl rfl fd_106_0 sz_26 rfl) rfl ?_
          refine o_p (p_fieldAddr rfl rfl fd_26_0 sz_3 rfl) rfl ?_
          first | refine o_q (q_load rfl rfl sz_3 (by repeat (first | exact .here | apply Pick.there)) rfl) rfl ?_ | refine o_q (q_load_at rfl rfl sz_3 (fun w h => (h.rd_blk (Mc := []) (b := bt) (by repeat (first | exact .here | apply Pick.there)) rfl (by simp)))) rfl ?_ | refine o_q (q_load_at rfl rfl sz_3 (rfl (fun w h => Rw.rd (HS.ft (a := some ⟨ga, 0, none⟩) (cap := cap) (l := L) h (by repeat (first | exact .here | apply Pick.there))).1 hkl))) rfl ?_ | refine o_q (q_load_at rfl rfl sz_3 (rfl (fun w h => Rw.rd (HS.ft (a := some ⟨ga, 0, none⟩) (cap := cap) (l := L) h (by repeat (first | exact .here | apply Pick.there))).1 hi))) rfl ?_ | refine o_q (q_load_at rfl rfl sz_3 (fun w h => (h.rd_blk (Mc := []) (b := ga) (by repeat (first | exact .here | apply Pick.there)) (by rw [flat_get fv4 _ (bsL (cmps (pls L) rc sq)) 3 _ (nth_get hy1) (by decide)]; rfl) (by simp)))) rfl ?_
          refine o_p (p_fieldAddr rfl rfl fd_48_0 sz_3 rfl) rfl ?_
          refine o_h0 (h_store rfl rfl rfl sz_3 rfl (by repeat (first | exact .here | apply Put.there)) (by first | (rw [ov5]; omega) | (rw [setMany_length, ov5]; omega) | decide) rfl) (fun _ _ => ?_)
          refine o_p (p_fieldAddr rfl rfl fd_48_4 sz_46 rfl) rfl ?_
          refine o_h0 (h_store rfl rfl rfl sz_46 rfl (by repeat (first | exact .here | apply Put.there)) (by first | (rw [ov5]; omega) | (rw [setMany_length, ov5]; omega) | decide) rfl) (fun _ _ => ?_)
          refine o_nil ?_
          refine s_seq ?_
          refine s_region ?_
          refine o_p (p_pure rfl) rfl ?_
          refine o_class (fun w h => HS.blk_to h (b := b2) (by repeat (first | exact .here | apply Pick.there)) (show _ = (newO x next).vals from rfl)) ?_
          refine o_p (p_pure rfl) rfl ?_
          refine o_p (p_fieldAddr rfl rfl fd_106_0 sz_26 rfl) rfl ?_
          refine o_p (p_fieldAddr rfl rfl fd_26_0 sz_3 rfl) rfl ?_
          first | refine o_q (q_load rfl rfl sz_3 (by repeat (first | exact .here | apply Pick.there)) rfl) rfl ?_ | refine o_q (q_load_at rfl rfl sz_3 (fun w h => (h.rd_blk (Mc := []) (b := bt) (by repeat (first | exact .here | apply Pick.there)) rfl (by simp)))) rfl ?_ | refine o_q (q_load_at rfl rfl sz_3 (rfl (fun w h => Rw.rd (HS.ft (a := some ⟨ga, 0, none⟩) (cap := cap) (l := L) h (by repeat (first | exact .here | apply Pick.there))).1 hkl))) rfl ?_ | refine o_q (q_load_at rfl rfl sz_3 (rfl (fun w h => Rw.rd (HS.ft (a := some ⟨ga, 0, none⟩) (cap := cap) (l := L) h (by repeat (first | exact .here | apply Pick.there))).1 hi))) rfl ?_ | refine o_q (q_load_at rfl rfl sz_3 (fun w h => (h.rd_blk (Mc := []) (b := ga) (by repeat (first | exact .here | apply Pick.there)) (by rw [flat_get fv4 _ (bsL (cmps (pls L) rc sq)) 3 _ (nth_get hy1) (by decide)]; rfl) (by simp)))) rfl ?_
          refine o_p (p_pure rfl) rfl ?_
          try (refine o_slot (i64w (by omega) (by omega)) ?_)
          refine o_p (p_pure rfl) rfl ?_
          refine o_p (p_fieldAddr rfl rfl fd_106_0 sz_26 rfl) rfl ?_
          refine o_p (p_fieldAddr rfl rfl fd_26_0 sz_3 rfl) rfl ?_
          refine o_h0 (h_store rfl rfl rfl sz_3 rfl (by repeat (first | exact .here | apply Put.there)) (by simp only [setMany_length, List.length_set, List.length_cons, List.length_nil, List.length_map]; omega) rfl) (fun _ _ => ?_)
          refine o_nil ?_
          refine s_seq ?_
          refine s_weaken (L' := [(0, _), (1, _), (2, _), (4, _), (5, _), (8, _), (12, _), (17, _), (18, _), (19, _), (20, _), (21, _), (22, _), (23, _)]) (by repeat (first | exact sl_n | refine sl_c rfl ?_)) (fun _ h => h) ?_
          refine s_drawB [.blk bt 106 2 [.int .i64 (next + 1), .slice (some ⟨ga, 0, none⟩) N.length yc], .blk ga 77 (yc * 4) (N.flatMap LFil.vals), .blk b2 48 5 (newO x next).vals, .star ((others N (bsL (cmps (pls L) rc sq))).map subF)] [20] mixed ?_
          refine d_p 0 rfl (p_pure rfl) (by kernel_rfl) rfl rfl ?_
          refine d_p 1 rfl (p_pure rfl) (by kernel_rfl) rfl rfl ?_
          refine d_p 2 rfl (p_fieldAddr rfl rfl fd_106_0 sz_26 rfl) (by kernel_rfl) rfl rfl ?_
          refine d_p 3 rfl (p_fieldAddr rfl rfl fd_26_1 sz_24 rfl) (by kernel_rfl) rfl rfl ?_
          first | refine d_q 4 [[]] rfl (q_load rfl rfl sz_24 (by repeat (first | exact .here | apply Pick.there)) rfl) (by kernel_rfl) (by kernel_rfl) (by kernel_rfl) rfl ?_ | refine d_q 4 [[]] rfl (q_load_at rfl rfl sz_24 (fun w h => (h.rd_blk (Mc := []) (b := bt) (by repeat (first | exact .here | apply Pick.there)) rfl (by simp)))) (by kernel_rfl) (by kernel_rfl) (by kernel_rfl) rfl ?_ | refine d_q 4 [[]] rfl (q_load_at rfl rfl sz_24 (rfl (fun w h => Rw.rd (HS.ft (a := some ⟨ga, 0, none⟩) (cap := cap) (l := L) h (by repeat (first | exact .here | apply Pick.there))).1 hkl))) (by kernel_rfl) (by kernel_rfl) (by kernel_rfl) rfl ?_ | refine d_q 4 [[]] rfl (q_load_at rfl rfl sz_24 (rfl (fun w h => Rw.rd (HS.ft (a := some ⟨ga, 0, none⟩) (cap := cap) (l := L) h (by repeat (first | exact .here | apply Pick.there))).1 hi))) (by kernel_rfl) (by kernel_rfl) (by kernel_rfl) rfl ?_ | refine d_q 4 [[]] rfl (q_load_at rfl rfl sz_24 (fun w h => (h.rd_blk (Mc := []) (b := ga) (by repeat (first | exact .here | apply Pick.there)) (by rw [flat_get fv4 _ (bsL (cmps (pls L) rc sq)) 3 _ (nth_get hy1) (by decide)]; rfl) (by simp)))) (by kernel_rfl) (by kernel_rfl) (by kernel_rfl) rfl ?_
          refine d_p 5 rfl (p_pure rfl) (by kernel_rfl) rfl rfl ?_
          refine d_p 6 rfl (p_pure rfl) (by kernel_rfl) rfl rfl ?_
          refine d_p 7 rfl (p_pure rfl) (by kernel_rfl) rfl rfl ?_
          refine d_p 8 rfl (p_fieldAddr rfl rfl fd_106_0 sz_26 rfl) (by kernel_rfl) rfl rfl ?_
          refine d_p 9 rfl (p_fieldAddr rfl rfl fd_26_1 sz_24 rfl) (by kernel_rfl) rfl rfl ?_
          first | refine d_q 10 [[]] rfl (q_load rfl rfl sz_24 (by repeat (first | exact .here | apply Pick.there)) rfl) (by kernel_rfl) (by kernel_rfl) (by kernel_rfl) rfl ?_ | refine d_q 10 [[]] rfl (q_load_at rfl rfl sz_24 (fun w h => (h.rd_blk (Mc := []) (b := bt) (by repeat (first | exact .here | apply Pick.there)) rfl (by simp)))) (by kernel_rfl) (by kernel_rfl) (by kernel_rfl) rfl ?_ | refine d_q 10 [[]] rfl (q_load_at rfl rfl sz_24 (rfl (fun w h => Rw.rd (HS.ft (a := some ⟨ga, 0, none⟩) (cap := cap) (l := L) h (by repeat (first | exact .here | apply Pick.there))).1 hkl))) (by kernel_rfl) (by kernel_rfl) (by kernel_rfl) rfl ?_ | refine d_q 10 [[]] rfl (q_load_at rfl rfl sz_24 (rfl (fun w h => Rw.rd (HS.ft (a := some ⟨ga, 0, none⟩) (cap := cap) (l := L) h (by repeat (first | exact .here | apply Pick.there))).1 hi))) (by kernel_rfl) (by kernel_rfl) (by kernel_rfl) rfl ?_ | refine d_q 10 [[]] rfl (q_load_at rfl rfl sz_24 (fun w h => (h.rd_blk (Mc := []) (b := ga) (by repeat (first | exact .here | apply Pick.there)) (by rw [flat_get fv4 _ (bsL (cmps (pls L) rc sq)) 3 _ (nth_get hy1) (by decide)]; rfl) (by simp)))) (by kernel_rfl) (by kernel_rfl) (by kernel_rfl) rfl ?_
          refine d_p 11 rfl (p_pure rfl) (by kernel_rfl) rfl rfl ?_
          refine d_p 12 rfl (p_indexAddr rfl rfl rfl sl_24 ((bsL (cmps (pls L) rc sq))) (by omega) (by omega) rfl) (by kernel_rfl) rfl rfl ?_
          refine d_slot (show _ = Value.pointer (some ⟨ga, (bsL (cmps (pls L) rc sq)) * 4, none⟩) from by rw [Nat.zero_add]) ?_
          refine d_p 13 rfl (p_fieldAddr rfl rfl fd_77_2 sz_75 rfl) (by kernel_rfl) rfl rfl ?_
          first | refine d_q 14 [[]] rfl (q_load rfl rfl sz_75 (by repeat (first | exact .here | apply Pick.there)) rfl) (by kernel_rfl) (by kernel_rfl) (by kernel_rfl) rfl ?_ | refine d_q 14 [[]] rfl (q_load_at rfl rfl sz_75 (fun w h => (h.rd_blk (Mc := []) (b := bt) (by repeat (first | exact .here | apply Pick.there)) rfl (by simp)))) (by kernel_rfl) (by kernel_rfl) (by kernel_rfl) rfl ?_ | refine d_q 14 [[]] rfl (q_load_at rfl rfl sz_75 (rfl (fun w h => Rw.rd (HS.ft (a := some ⟨ga, 0, none⟩) (cap := cap) (l := L) h (by repeat (first | exact .here | apply Pick.there))).1 hkl))) (by kernel_rfl) (by kernel_rfl) (by kernel_rfl) rfl ?_ | refine d_q 14 [[]] rfl (q_load_at rfl rfl sz_75 (rfl (fun w h => Rw.rd (HS.ft (a := some ⟨ga, 0, none⟩) (cap := cap) (l := L) h (by repeat (first | exact .here | apply Pick.there))).1 hi))) (by kernel_rfl) (by kernel_rfl) (by kernel_rfl) rfl ?_ | refine d_q 14 [[]] rfl (q_load_at rfl rfl sz_75 (fun w h => (h.rd_blk (Mc := []) (b := ga) (by repeat (first | exact .here | apply Pick.there)) (by rw [flat_get fv4 _ (bsL (cmps (pls L) rc sq)) 3 _ (nth_get hy1) (by decide)]; rfl) (by simp)))) (by kernel_rfl) (by kernel_rfl) (by kernel_rfl) rfl ?_
          first | refine d_q 15 [[]] rfl (q_loadn rfl rfl sz_48 (by repeat (first | exact .here | apply Pick.there)) rfl) (by kernel_rfl) (by kernel_rfl) (by kernel_rfl) rfl ?_ | refine d_q 15 [[]] rfl (q_load_atn _ rfl rfl sz_48 fun w h => (h.rd_blk (Mc := []) (b := bt) (by repeat (first | exact .here | apply Pick.there)) rfl (by simp))) (by kernel_rfl) (by kernel_rfl) (by kernel_rfl) rfl ?_ | refine d_q 15 [[]] rfl (q_load_atn _ rfl rfl sz_48 rfl (fun w h => Rw.rd (HS.ft (a := some ⟨ga, 0, none⟩) (cap := cap) (l := L) h (by repeat (first | exact .here | apply Pick.there))).1 hkl)) (by kernel_rfl) (by kernel_rfl) (by kernel_rfl) rfl ?_ | refine d_q 15 [[]] rfl (q_load_atn _ rfl rfl sz_48 rfl (fun w h => Rw.rd (HS.ft (a := some ⟨ga, 0, none⟩) (cap := cap) (l := L) h (by repeat (first | exact .here | apply Pick.there))).1 hi)) (by kernel_rfl) (by kernel_rfl) (by kernel_rfl) rfl ?_ | refine d_q 15 [[]] rfl (q_load_atn _ rfl rfl sz_48 fun w h => (h.rd_blk (Mc := []) (b := ga) (by repeat (first | exact .here | apply Pick.there)) (by rw [flat_get fv4 _ (bsL (cmps (pls L) rc sq)) 3 _ (nth_get hy1) (by decide)]; rfl) (by simp))) (by kernel_rfl) (by kernel_rfl) (by kernel_rfl) rfl ?_
          refine d_h 16 rfl (h_buildSlice (cs := [_, _, _, _, _]) rfl rfl sl_75 zr_48 rfl rfl rfl) (by kernel_rfl) (fun w h => h.ent (by repeat (first | exact .nil | refine .cons (by repeat (first | exact .here | apply Pick.there)) ?_))) rfl (fun b17 _ => ?_)
          refine d_h 17 rfl (h_appendS (n := (nth N (bsL (cmps (pls L) rc sq))).op.length) (newO x next).vals rfl rfl rfl sl_75 Try.underlying75 zr_48 rfl (by repeat (first | exact .here | apply Pick.there)) (src_blk (by repeat (first | exact .here | apply Pick.there))) rfl (ov1 (newO x next)) (by omega) (by simp only [maxLen]; omega)) (by kernel_rfl) (fun w h => h.ent (by repeat (first | exact .nil | refine .cons (by repeat (first | exact .here | apply Pick.there)) ?_))) rfl (fun b18 _ => ?_)
          refine d_p 18 rfl (p_indexAddr rfl rfl rfl sl_24 ((bsL (cmps (pls L) rc sq))) (by omega) (by omega) rfl) (by kernel_rfl) rfl rfl ?_
          refine d_slot (show _ = Value.pointer (some ⟨ga, (bsL (cmps (pls L) rc sq)) * 4, none⟩) from by rw [Nat.zero_add]) ?_
          refine d_p 19 rfl (p_fieldAddr rfl rfl fd_77_2 sz_75 rfl) (by kernel_rfl) rfl rfl ?_
          refine d_h0 20 rfl (h_store rfl rfl rfl sz_75 rfl (by repeat (first | exact .here | apply Put.there)) (by rw [flat_length fv4]; omega) rfl) (by kernel_rfl) (fun w h => h.ent (by repeat (first | exact .nil | refine .cons (by repeat (first | exact .here | apply Pick.there)) ?_))) (fun _ _ => ?_)
          refine d_turn [] (by kernel_rfl) ?_
          refine d_nil (by kernel_rfl) (fun w h => h.ent (by repeat (first | exact .nil | refine .cons (by repeat (first | exact .here | apply Pick.there)) ?_))) ?_
          refine s_seq ?_
          refine s_weaken (L' := [(0, _), (1, _), (2, _), (4, _), (5, _), (8, _), (17, _), (18, _), (19, _), (20, _), (21, _), (22, _), (23, _)]) (by repeat (first | exact sl_n | refine sl_c rfl ?_)) (fun _ h => h) ?_
          refine s_region ?_
          refine o_p (p_fieldAddr rfl rfl fd_48_0 sz_3 rfl) rfl ?_
          first | refine o_q (q_load rfl rfl sz_3 (by repeat (first | exact .here | apply Pick.there)) rfl) rfl ?_ | refine o_q (q_load_at rfl rfl sz_3 (fun w h => (h.rd_blk (Mc := []) (b := bt) (by repeat (first | exact .here | apply Pick.there)) rfl (by simp)))) rfl ?_ | refine o_q (q_load_at rfl rfl sz_3 (rfl (fun w h => Rw.rd (HS.ft (a := some ⟨ga, 0, none⟩) (cap := cap) (l := L) h (by repeat (first | exact .here | apply Pick.there))).1 hkl))) rfl ?_ | refine o_q (q_load_at rfl rfl sz_3 (rfl (fun w h => Rw.rd (HS.ft (a := some ⟨ga, 0, none⟩) (cap := cap) (l := L) h (by repeat (first | exact .here | apply Pick.there))).1 hi))) rfl ?_ | refine o_q (q_load_at rfl rfl sz_3 (fun w h => (h.rd_blk (Mc := []) (b := ga) (by repeat (first | exact .here | apply Pick.there)) (by rw [flat_get fv4 _ (bsL (cmps (pls L) rc sq)) 3 _ (nth_get hy1) (by decide)]; rfl) (by simp)))) rfl ?_
          refine o_p (p_pure rfl) rfl ?_
          refine o_p (p_pure rfl) rfl ?_
          refine o_nil ?_
          exact s_retv (rs := [.tmp 6, .tmp 7]) rfl (.tmp rfl (.tmp rfl (.nil))) (fun w' h' => by have hf := hy4 { nth N (bsL (cmps (pls L) rc sq)) with oa := b18.1, oc := b18.2, op := (nth N (bsL (cmps (pls L) rc sq))).op ++ [newO x next] } (by simp [LFil.pl, putO, newO, LOpn.pl]); exact ⟨((some ⟨ga, 0, none⟩, yc), N.set (bsL (cmps (pls L) rc sq)) { nth N (bsL (cmps (pls L) rc sq)) with oa := b18.1, oc := b18.2, op := (nth N (bsL (cmps (pls L) rc sq))).op ++ [newO x next] }), by rw [hf]; rfl, by rw [hf], by rw [hf]; have h2 := HS.opens_app (next := next) (x := x) (l := (nth N (bsL (cmps (pls L) rc sq))).op) (h'.ent (Bs := [.own (.slice b18.1 ((nth N (bsL (cmps (pls L) rc sq))).op.length + 1) b18.2) 48 5 ((nth N (bsL (cmps (pls L) rc sq))).op.length + 1) _, .star ((nth N (bsL (cmps (pls L) rc sq))).op.map subO), .blk ga 77 (yc * 4) _, .star ((others N (bsL (cmps (pls L) rc sq))).map subF), .blk bt 106 2 [.int .i64 (next + 1), .slice (some ⟨ga, 0, none⟩) N.length yc]]) (by repeat (first | exact .nil | refine .cons (by repeat (first | exact .here | apply Pick.there)) ?_))) (by simp) (by rw [flat_append]; rfl); have h3 := HS.file_put (f := { nth N (bsL (cmps (pls L) rc sq)) with oa := b18.1, oc := b18.2, op := (nth N (bsL (cmps (pls L) rc sq))).op ++ [newO x next] }) hy1 (h2.perm (List.Perm.swap ..)) (flat_set fv4 N (bsL (cmps (pls L) rc sq)) 3 [.slice b18.1 ((nth N (bsL (cmps (pls L) rc sq))).op.length + 1) b18.2] (nth N (bsL (cmps (pls L) rc sq))) { nth N (bsL (cmps (pls L) rc sq)) with oa := b18.1, oc := b18.2, op := (nth N (bsL (cmps (pls L) rc sq))).op ++ [newO x next] } (nth_get hy1) (by simp [LFil.vals, setMany]) (by simp)) hcap hcm; rw [List.length_set]; exact h3.ent (by repeat (first | exact .nil | refine .cons (by repeat (first | exact .here | apply Pick.there)) ?_))⟩)

end Go.Proofs

