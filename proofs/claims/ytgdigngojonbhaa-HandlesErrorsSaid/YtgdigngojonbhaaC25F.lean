/- Contracts of the program's functions, proved by walking them with the rules of the Gx texts; without conditions beyond those that each contract names. -/
import Derived.Test.YtgdigngojonbhaaC25E
import Derived.Test.YtgdigngojonbhaaGxSearch
namespace Go.Proofs
open Go Go.RowKit Gx
set_option linter.unusedVariables false
set_option linter.unusedSimpArgs false
attribute [local irreducible] Go.Calls Gx.S Gx.O Gx.D Gx.OpP Gx.OpQ Gx.OpH

theorem fd_106_0 : tfd Try.prog 106 0 = some (0, 26) := by kernel_rfl
theorem sz_26 : tsz Try.prog 26 = some (2, true) := by kernel_rfl
theorem ki_175 : tki Try.prog 175 = some .u64 := by kernel_rfl
theorem fn_125 : isFn Try.prog 125 = true := by kernel_rfl


def ixO (l : List Opn) (h : Int) : Nat := ixB (l.map fun o => decide (o.hd = h))
def findF : List Fil → Int → Nat → Nat × Nat × Int
  | [], _, _ => (0, 0, 6)
  | f :: r, h, i => if ixO f.op h < f.op.length then (i, ixO f.op h, 0) else findF r h (i + 1)
theorem findF_drop {L : List Fil} {h : Int} {k : Nat} (hk : k < L.length) : findF (L.drop k) h k = if ixO (nth L k).op h < (nth L k).op.length then (k, ixO (nth L k).op h, 0) else findF (L.drop (k + 1)) h (k + 1) := by
  rw [drop_nth hk, findF]
theorem findF_end {L : List Fil} {h : Int} {k : Nat} (hk : L.length ≤ k) : findF (L.drop k) h k = (0, 0, 6) := by rw [List.drop_of_length_le hk]; rfl
def trV (p : Nat × Nat × Int) : Value := .tuple #[.int .i64 (p.1 : Int), .int .i64 (p.2.1 : Int), .int .i64 p.2.2]
theorem ixO_pl (l : List LOpn) (h : Int) : ixB (l.map fun o => decide (o.hd = h)) = ixO (plo l) h := by
  unfold ixO plo
  rw [List.map_map]
  rfl
def cmps (L : List Fil) (rc sq : Int) : List Int := L.map fun f => cmp2 (f.rc, f.sq) (rc, sq)

set_option maxRecDepth 20000 in
theorem c123 (w : World) (b : Nat) (o : LOpn) (h : Int) (hr : Rd w [] b 0 (.int .i64 h)) : Calls Try.prog 123 #[.agg #[.int .i64 o.hd, .int .i64 o.ac, .int .i64 o.sh, .bool o.dl, .slice o.la o.lk.length o.lc], .pointer (some ⟨b, 0, none⟩)] w fun en w' => en = .returned (.bool (decide (o.hd = h))) ∧ Below w.heap.size w w' := by
  refine enter (args := [_, _]) Try.func123 Try.ntmps123 rfl rfl (HS.refl w []) ?_
  refine s_seq ?_
  refine s_region ?_
  refine o_h (h_box rfl rfl) rfl (fun b1 _ => ?_)
  refine o_p (p_pure rfl) rfl ?_
  refine o_nil ?_
  refine s_seq ?_
  refine s_region ?_
  refine o_p (p_fieldAddr rfl rfl fd_48_0 sz_3 rfl) rfl ?_
  first | refine o_q (q_load rfl rfl sz_3 (by repeat (first | exact .here | apply Pick.there)) rfl) rfl ?_ | refine o_q (q_load_old rfl rfl sz_3 (hr)) rfl ?_
  first | refine o_q (q_load rfl rfl sz_3 (by repeat (first | exact .here | apply Pick.there)) rfl) rfl ?_ | refine o_q (q_load_old rfl rfl sz_3 (hr)) rfl ?_
  refine o_p (p_pure rfl) rfl ?_
  refine o_p (p_pure rfl) rfl ?_
  refine o_nil ?_
  exact s_retv (rs := [.tmp 3]) rfl (.tmp rfl (.nil)) (fun w' h' => ⟨rfl, h'.below⟩)

set_option maxRecDepth 20000 in
theorem c100 (w : World) (bt : Nat) (a : Option Addr) (cap : Nat) (L : List LFil) (h : Int) (ht1 : Rd w [] bt 1 (.slice a L.length cap)) (hs : Ft w [] a L) (hm : L.length ≤ 1000) (hmo : ∀ f ∈ L, f.op.length ≤ 1000) : Calls Try.prog 100 #[.pointer (some ⟨bt, 0, none⟩), .int .i64 h] w fun en w' => en = .returned (trV (findF (pls L) h 0)) ∧ Below w.heap.size w w' := by
  have hpl : (pls L).length = L.length := by simp
  refine enter (args := [_, _]) Try.func100 Try.ntmps100 rfl rfl (HS.refl w []) ?_
  refine s_seq ?_
  refine s_region ?_
  refine o_h (h_box rfl rfl) rfl (fun b1 _ => ?_)
  refine o_p (p_pure rfl) rfl ?_
  refine o_p (p_pure rfl) rfl ?_
  refine o_p (p_pure rfl) rfl ?_
  refine o_nil ?_
  refine s_seq ?_
  refine s_seq ?_
  refine s_region ?_
  refine o_p (p_pure rfl) rfl ?_
  refine o_p (p_pure rfl) rfl ?_
  refine o_p (p_fieldAddr rfl rfl fd_106_0 sz_26 rfl) rfl ?_
  refine o_p (p_fieldAddr rfl rfl fd_26_1 sz_24 rfl) rfl ?_
  first | refine o_q (q_load rfl rfl sz_24 (by repeat (first | exact .here | apply Pick.there)) rfl) rfl ?_ | refine o_q (q_load_old rfl rfl sz_24 (ht1)) rfl ?_ | refine o_q (q_load_old rfl rfl sz_24 (rfl (Rw.rd hs.1 (i := k) (by omega)))) rfl ?_
  first | refine o_p (p_len_slice rfl rfl Try.underlying24) rfl ?_ | refine o_q (q_len_own rfl rfl Try.underlying24 (by repeat (first | exact .here | apply Pick.there))) rfl ?_
  refine o_p (p_pure rfl) rfl ?_
  refine o_nil ?_
  refine s_block ?_
  refine s_loopI (α := Nat) [4, 5, 6, 7, 8, 9, 16, 17, 18, 19, 20, 21, 22, 23, 24, 25, 26, 27, 28, 29] (fun k => [(16, .int .i64 (k : Int))]) (fun _ => HS w [] [.blk b1 3 1 [.int .i64 h]]) (fun k => k ≤ L.length ∧ findF (pls L) h 0 = findF ((pls L).drop k) h k) (fun k => L.length - k) 0 ⟨by simp, rfl⟩ (by repeat (first | exact sl_n | refine sl_c rfl ?_)) (fun w h => h.ent (by repeat (first | exact .nil | refine .cons (by repeat (first | exact .here | apply Pick.there)) ?_))) (fun k hk => ?_)
  obtain ⟨hk1, hk2⟩ := hk
  refine s_seq ?_
  refine s_region ?_
  refine o_p (p_pure rfl) rfl ?_
  refine o_nil ?_
  refine s_seq ?_
  refine s_cond rfl (fun h2 => ?_) (fun h2 => ?_)
  · try simp only [decide_eq_true_eq, decide_eq_false_iff_not, Bool.not_eq_true', Bool.not_eq_false', Bool.and_eq_true, Bool.or_eq_true, Bool.and_eq_false_iff, Bool.or_eq_false_iff, Bool.not_true, Bool.not_false] at h2
    have hkl : k < L.length := by omega
    refine s_skip ?_
    refine s_seq ?_
    refine s_block ?_
    refine s_seq ?_
    refine s_region ?_
    refine o_p (p_pure rfl) rfl ?_
    first | refine o_p (p_indexAddr rfl rfl rfl sl_24 (k) (by omega) (by omega) rfl) rfl ?_ | refine o_p (p_indexAddr rfl rfl rfl sl_24 (k) (by omega) (by omega) (Rw.some hs.1 (by omega))) rfl ?_
    first | refine o_q (q_loadn rfl rfl sz_77 (by repeat (first | exact .here | apply Pick.there)) rfl) rfl ?_ | refine o_q (q_load_oldn _ rfl rfl sz_77 ht1) rfl ?_ | refine o_q (q_load_oldn _ rfl rfl sz_77 rfl (Rw.rd hs.1 (i := k) (by omega))) rfl ?_
    refine o_h (h_alloc rfl zr_77) rfl (fun b3 _ => ?_)
    refine o_p (p_pure rfl) rfl ?_
    refine o_h0 (h_store rfl rfl rfl sz_77 rfl (by repeat (first | exact .here | apply Put.there)) (by simp only [setMany_length, List.length_set, List.length_cons, List.length_nil, List.length_map]; omega) rfl) (fun _ _ => ?_)
    refine o_nil ?_
    refine s_seq ?_
    refine s_region ?_
    refine o_p (p_fieldAddr rfl rfl fd_77_2 sz_75 rfl) rfl ?_
    first | refine o_q (q_load rfl rfl sz_75 (by repeat (first | exact .here | apply Pick.there)) rfl) rfl ?_ | refine o_q (q_load_old rfl rfl sz_75 (ht1)) rfl ?_ | refine o_q (q_load_old rfl rfl sz_75 (rfl (Rw.rd hs.1 (i := k) (by omega)))) rfl ?_
    refine o_p (p_pure rfl) rfl ?_
    refine o_q (q_call rfl fn_120 rfl (fun w1 h1 => c120 w1 (nth L k).oa (nth L k).oc (nth L k).op 123 #[.pointer (some ⟨b1, 0, none⟩)] ((nth L k).op.map fun o => decide (o.hd = h)) ((hs.at hkl).1.later h1) (by have := hmo _ (mem_nth hkl); omega) (by kernel_rfl) (by simp) (fun j w2 hj h2 => by rw [map_getD_nthB hj]; exact c123 w2 b1 _ h ((h1.rd_blk (Mc := []) (by repeat (first | exact .here | apply Pick.there)) rfl (by simp)).next h2)))) rfl ?_
    refine o_p (p_pure rfl) rfl ?_
    refine o_nil ?_
    refine s_seq ?_
    refine s_region ?_
    refine o_p (p_pure rfl) rfl ?_
    refine o_p (p_pure rfl) rfl ?_
    refine o_nil ?_
    refine s_cond rfl (fun h4 => ?_) (fun h4 => ?_)
    · try simp only [decide_eq_true_eq, decide_eq_false_iff_not, Bool.not_eq_true', Bool.not_eq_false', Bool.and_eq_true, Bool.or_eq_true, Bool.and_eq_false_iff, Bool.or_eq_false_iff, Bool.not_true, Bool.not_false] at h4
      have hix : ixO (nth L k).pl.op h < (nth L k).op.length ∧ ixI ((nth L k).op.map fun o => decide (o.hd = h)) = (ixO (nth L k).pl.op h : Int) := by have hq := h4; unfold ixI at hq ⊢; rw [List.length_map, ixO_pl] at hq ⊢; split at hq <;> first | (rename_i h9; exact ⟨h9, by rw [if_pos h9]; rfl⟩) | omega
      refine s_seq ?_
      refine s_region ?_
      refine o_p (p_pure rfl) rfl ?_
      refine o_p (p_pure rfl) rfl ?_
      refine o_p (p_pure rfl) rfl ?_
      refine o_p (p_pure rfl) rfl ?_
      refine o_p (p_pure rfl) rfl ?_
      refine o_nil ?_
      exact s_retv (rs := [.tmp 4, .tmp 5, .tmp 6]) rfl (.tmp rfl (.tmp rfl (.tmp rfl (.nil)))) (fun w' h' => ⟨by rw [hk2, findF_drop (by omega), nth_pls hkl, if_pos (by simp only [LFil.pl, List.length_map]; exact hix.1), hix.2]; rfl, h'.below⟩)
    · try simp only [decide_eq_true_eq, decide_eq_false_iff_not, Bool.not_eq_true', Bool.not_eq_false', Bool.and_eq_true, Bool.or_eq_true, Bool.and_eq_false_iff, Bool.or_eq_false_iff, Bool.not_true, Bool.not_false] at h4
      have hno : ¬ ixO (nth L k).pl.op h < (nth L k).op.length := by have hq := h4; unfold ixI at hq; rw [List.length_map, ixO_pl] at hq; intro h9; have h8 : ixO (plo (nth L k).op) h < (nth L k).op.length := h9; rw [if_pos h8] at hq; omega
      refine s_skip ?_
      refine s_blk ?_
      refine s_region ?_
      refine o_p (p_pure rfl) rfl ?_
      try (refine o_slot (i64w (by omega) (by omega)) ?_)
      refine o_p (p_pure rfl) rfl ?_
      refine o_nil ?_
      exact s_backI (k + 1) (by omega) ⟨by omega, by rw [hk2, findF_drop (by omega), if_neg (by rw [nth_pls hkl]; simp only [LFil.pl, List.length_map]; exact hno)]⟩ (by repeat (first | exact sl_n | refine sl_c rfl ?_)) (fun w h => h.ent (by repeat (first | exact .nil | refine .cons (by repeat (first | exact .here | apply Pick.there)) ?_)))
  · try simp only [decide_eq_true_eq, decide_eq_false_iff_not, Bool.not_eq_true', Bool.not_eq_false', Bool.and_eq_true, Bool.or_eq_true, Bool.and_eq_false_iff, Bool.or_eq_false_iff, Bool.not_true, Bool.not_false] at h2
    refine s_exit_to rfl ?_
    refine s_seq ?_
    refine s_region ?_
    refine o_p (p_pure rfl) rfl ?_
    refine o_p (p_pure rfl) rfl ?_
    refine o_p (p_pure rfl) rfl ?_
    refine o_nil ?_
    exact s_retv (rs := [.tmp 4, .tmp 5, .tmp 6]) rfl (.tmp rfl (.tmp rfl (.tmp rfl (.nil)))) (fun w' h' => ⟨by rw [hk2, findF_end (by omega)]; rfl, h'.below⟩)

set_option maxRecDepth 20000 in
theorem c126 (w : World) (f : LFil) (rc sq : Int) : Calls Try.prog 126 #[.agg #[.int .i64 f.rc, .int .i64 f.sq, .bool f.pd, .slice f.oa f.op.length f.oc], .agg #[.int .i64 rc, .int .i64 sq]] w fun en w' => en = .returned (.int .i64 (cmp2 (f.rc, f.sq) (rc, sq))) ∧ Below w.heap.size w w' := by
  refine enter (args := [_, _]) Try.func126 Try.ntmps126 rfl rfl (HS.refl w []) ?_
  refine s_seq ?_
  refine s_region ?_
  refine o_h (h_box rfl rfl) rfl (fun b1 _ => ?_)
  refine o_h (h_box rfl rfl) rfl (fun b2 _ => ?_)
  refine o_p (p_pure rfl) rfl ?_
  refine o_nil ?_
  refine s_seq ?_
  refine s_region ?_
  refine o_p (p_fieldAddr rfl rfl fd_77_0 sz_42 rfl) rfl ?_
  refine o_q (q_loadn rfl rfl sz_42 (by repeat (first | exact .here | apply Pick.there)) rfl) rfl ?_
  refine o_q (q_loadn rfl rfl sz_42 (by repeat (first | exact .here | apply Pick.there)) rfl) rfl ?_
  refine o_q (q_call rfl fn_56 rfl (fun w1 h1 => c56 w1 _ _ _ _)) rfl ?_
  refine o_p (p_pure rfl) rfl ?_
  refine o_nil ?_
  exact s_retv (rs := [.tmp 4]) rfl (.tmp rfl (.nil)) (fun w' h' => ⟨rfl, h'.below⟩)

set_option maxRecDepth 20000 in
theorem c125 (w : World) (a : Option Addr) (cap : Nat) (l : List LFil) (q : Nat) (cv : Array Value) (cs : List Int) (rc sq : Int) (hs : Rw LFil.vals 4 w [] a l) (hm : l.length ≤ 1000000) (hq : isFn Try.prog q = true) (hb : cs.length = l.length) (hc : ∀ k w1, k < l.length → HS w [] [] w1 → Calls Try.prog q (#[] ++ [.agg (LFil.vals (nth l k)).toArray, .agg #[.int .i64 rc, .int .i64 sq]].toArray ++ cv) w1 fun en w2 => en = .returned (.int .i64 (cs.getD k 0)) ∧ Below w1.heap.size w1 w2) : Calls Try.prog 125 #[.slice a l.length cap, .agg #[.int .i64 rc, .int .i64 sq], .func (.func q) #[] cv] w fun en w' => en = .returned (.tuple #[.int .i64 (bsL cs : Int), .bool (bsF' cs)]) ∧ Below w.heap.size w w' := by
  refine enter (args := [_, _, _]) Try.func125 Try.ntmps125 rfl rfl (HS.refl w []) ?_
  refine s_seq ?_
  refine s_region ?_
  refine o_h (h_box rfl rfl) rfl (fun b1 _ => ?_)
  refine o_p (p_pure rfl) rfl ?_
  refine o_p (p_pure rfl) rfl ?_
  refine o_nil ?_
  refine s_seq ?_
  refine s_region ?_
  refine o_p (p_pure rfl) rfl ?_
  first | refine o_p (p_len_slice rfl rfl Try.underlying24) rfl ?_ | refine o_q (q_len_own rfl rfl Try.underlying24 (by repeat (first | exact .here | apply Pick.there))) rfl ?_
  refine o_p (p_pure rfl) rfl ?_
  refine o_nil ?_
  refine s_seq ?_
  refine s_region ?_
  refine o_p (p_pure rfl) rfl ?_
  refine o_p (p_pure rfl) rfl ?_
  refine o_p (p_pure rfl) rfl ?_
  refine o_nil ?_
  refine s_seq ?_
  refine s_block ?_
  refine s_loopI (α := Nat × Nat × Nat) [9, 10, 11, 15, 16, 17, 18, 19, 20, 21, 22, 23, 24, 25, 26, 27, 28, 29, 30, 31, 32, 33, 34] (fun x => [(9, .int .i64 (x.2.1 : Int)), (10, .int .i64 (x.2.2 : Int))]) (fun _ => HS w [] [.blk b1 42 2 [.int .i64 rc, .int .i64 sq]]) (fun x => x.2.1 ≤ x.2.2 ∧ x.2.2 ≤ l.length ∧ x.2.2 - x.2.1 ≤ x.1 ∧ bsC cs x.1 x.2.1 x.2.2 = bsL cs) (fun x => x.1) (l.length, 0, l.length) ⟨by simp, by simp, by simp, by rw [← hb]; rfl⟩ (by repeat (first | exact sl_n | refine sl_c rfl ?_)) (fun w h => h.ent (by repeat (first | exact .nil | refine .cons (by repeat (first | exact .here | apply Pick.there)) ?_))) (fun ⟨m, lo, hi⟩ hx => ?_)
  dsimp only
  obtain ⟨hx1, hx2, hx3, hx4⟩ := hx
  simp only [] at hx1 hx2 hx3 hx4
  refine s_seq ?_
  refine s_seq ?_
  refine s_region ?_
  refine o_p (p_pure rfl) rfl ?_
  refine o_p (p_pure rfl) rfl ?_
  refine o_p (p_pure rfl) rfl ?_
  refine o_nil ?_
  refine s_cond rfl (fun h2 => ?_) (fun h2 => ?_)
  · try simp only [decide_eq_true_eq, decide_eq_false_iff_not, Bool.not_eq_true', Bool.not_eq_false', Bool.and_eq_true, Bool.or_eq_true, Bool.and_eq_false_iff, Bool.or_eq_false_iff, Bool.not_true, Bool.not_false] at h2
    refine s_skip ?_
    refine s_block ?_
    refine s_seq ?_
    refine s_region ?_
    refine o_p (p_pure rfl) rfl ?_
    refine o_p (p_pure rfl) rfl ?_
    refine o_p (p_pure rfl) rfl ?_
    try (refine o_slot (i64w (by omega) (by omega)) ?_)
    refine o_p (p_conv_int rfl rfl ki_3 ki_175) rfl ?_
    rw [show IntKind.u64.wrap ((lo : Int) + (hi : Int)) = ((lo + hi : Nat) : Int) from u64w32 _ (by omega)]
    refine o_p (p_shr rfl rfl rfl (by decide) 1 rfl) rfl ?_
    refine o_p (p_conv_int rfl rfl ki_175 ki_3) rfl ?_
    try (refine o_slot (i64w (by omega) (by omega)) ?_)
    refine o_slot (show _ = Value.int .i64 (((lo + hi) / 2 : Nat) : Int) from by congr 1) ?_
    obtain ⟨q2, hq1, hq2⟩ := bsC_step (cs := cs) (show lo < hi by omega) hx3
    refine o_p (p_pure rfl) rfl ?_
    refine o_nil ?_
    refine s_seq ?_
    refine s_draw [] mixed ?_
    refine d_p 0 rfl (p_pure rfl) (by kernel_rfl) rfl rfl ?_
    refine d_p 1 rfl (p_pure rfl) (by kernel_rfl) rfl rfl ?_
    refine d_p 2 rfl (p_pure rfl) (by kernel_rfl) rfl rfl ?_
    first | refine d_p 3 rfl (p_indexAddr rfl rfl rfl sl_24 ((lo + hi) / 2) (by omega) (by omega) rfl) (by kernel_rfl) rfl rfl ?_ | refine d_p 3 rfl (p_indexAddr rfl rfl rfl sl_24 ((lo + hi) / 2) (by omega) (by omega) (Rw.some hs (by omega))) (by kernel_rfl) rfl rfl ?_
    first | refine d_q 4 [] rfl (q_loadn rfl rfl sz_77 (by repeat (first | exact .here | apply Pick.there)) rfl) (by kernel_rfl) (by kernel_rfl) (by kernel_rfl) rfl ?_ | refine d_q 4 [] rfl (q_load_oldn _ rfl rfl sz_77 rfl (Rw.rd hs (i := (lo + hi) / 2) (by omega))) (by kernel_rfl) (by kernel_rfl) (by kernel_rfl) rfl ?_ | refine d_q 4 [] rfl (q_load_oldn _ rfl rfl sz_77 rfl (Rw.rd hs (i := lo) (by omega))) (by kernel_rfl) (by kernel_rfl) (by kernel_rfl) rfl ?_
    first | refine d_q 5 [] rfl (q_loadn rfl rfl sz_42 (by repeat (first | exact .here | apply Pick.there)) rfl) (by kernel_rfl) (by kernel_rfl) (by kernel_rfl) rfl ?_ | refine d_q 5 [] rfl (q_load_oldn _ rfl rfl sz_42 rfl (Rw.rd hs (i := (lo + hi) / 2) (by omega))) (by kernel_rfl) (by kernel_rfl) (by kernel_rfl) rfl ?_ | refine d_q 5 [] rfl (q_load_oldn _ rfl rfl sz_42 rfl (Rw.rd hs (i := lo) (by omega))) (by kernel_rfl) (by kernel_rfl) (by kernel_rfl) rfl ?_
    refine d_q 6 [] rfl (q_callv rfl rfl hq rfl (fun w1 h1 => hc ((lo + hi) / 2) w1 (by omega) (h1.ent (by repeat (first | exact .nil | refine .cons (by repeat (first | exact .here | apply Pick.there)) ?_))))) (by kernel_rfl) (by kernel_rfl) (by kernel_rfl) rfl ?_
    refine d_p 7 rfl (p_pure rfl) (by kernel_rfl) rfl rfl ?_
    refine d_nil (by kernel_rfl) (fun w h => h.ent (by repeat (first | exact .nil | refine .cons (by repeat (first | exact .here | apply Pick.there)) ?_))) ?_
    refine s_cond rfl (fun h3 => ?_) (fun h3 => ?_)
    · try simp only [decide_eq_true_eq, decide_eq_false_iff_not, Bool.not_eq_true', Bool.not_eq_false', Bool.and_eq_true, Bool.or_eq_true, Bool.and_eq_false_iff, Bool.or_eq_false_iff, Bool.not_true, Bool.not_false] at h3
      refine s_weaken (L' := [(0, _), (1, _), (2, _), (4, _), (6, _), (7, _), (8, _), (9, _), (10, _), (11, _), (12, _), (13, _), (14, _)]) (by repeat (first | exact sl_n | refine sl_c rfl ?_)) (fun _ h => h) ?_
      refine s_region ?_
      refine o_p (p_pure rfl) rfl ?_
      refine o_p (p_pure rfl) rfl ?_
      try (refine o_slot (i64w (by omega) (by omega)) ?_)
      refine o_p (p_pure rfl) rfl ?_
      refine o_nil ?_
      refine s_blk ?_
      exact s_backI (q2, (lo + hi) / 2 + 1, hi) (by (try simp only []); omega) ⟨by (try simp only []); omega, hx2, by (try simp only []); omega, by simp only []; rw [← hx4, hq2, if_pos h3]⟩ (by refine sl_c (congrArg (fun e => some (Value.int .i64 e)) (show (((lo + hi) / 2 : Nat) : Int) + 1 = (((lo + hi) / 2 + 1 : Nat) : Int) by omega)) ?_; repeat (first | exact sl_n | refine sl_c rfl ?_)) (fun w h => h.ent (by repeat (first | exact .nil | refine .cons (by repeat (first | exact .here | apply Pick.there)) ?_)))
    · try simp only [decide_eq_true_eq, decide_eq_false_iff_not, Bool.not_eq_true', Bool.not_eq_false', Bool.and_eq_true, Bool.or_eq_true, Bool.and_eq_false_iff, Bool.or_eq_false_iff, Bool.not_true, Bool.not_false] at h3
      refine s_weaken (L' := [(0, _), (1, _), (2, _), (4, _), (6, _), (7, _), (8, _), (9, _), (10, _), (11, _), (12, _), (13, _), (14, _)]) (by repeat (first | exact sl_n | refine sl_c rfl ?_)) (fun _ h => h) ?_
      refine s_region ?_
      refine o_p (p_pure rfl) rfl ?_
      refine o_p (p_pure rfl) rfl ?_
      refine o_nil ?_
      refine s_blk ?_
      exact s_backI (q2, lo, (lo + hi) / 2) (by (try simp only []); omega) ⟨by (try simp only []); omega, by (try simp only []); omega, by (try simp only []); omega, by simp only []; rw [← hx4, hq2, if_neg h3]⟩ (by repeat (first | exact sl_n | refine sl_c rfl ?_)) (fun w h => h.ent (by repeat (first | exact .nil | refine .cons (by repeat (first | exact .here | apply Pick.there)) ?_)))
  · try simp only [decide_eq_true_eq, decide_eq_false_iff_not, Bool.not_eq_true', Bool.not_eq_false', Bool.and_eq_true, Bool.or_eq_true, Bool.and_eq_false_iff, Bool.or_eq_false_iff, Bool.not_true, Bool.not_false] at h2
    refine s_exit_to rfl ?_
    refine s_seq ?_
    refine s_draw [] mixed ?_
    refine d_p 0 rfl (p_pure rfl) (by kernel_rfl) rfl rfl ?_
    have hlo : bsL cs = lo := by rw [← hx4, bsC_end _ _ _ _ (by omega)]
    refine d_p 1 rfl (p_pure rfl) (by kernel_rfl) rfl rfl ?_
    refine d_p 2 rfl (p_pure rfl) (by kernel_rfl) rfl rfl ?_
    refine d_p 3 rfl (p_pure rfl) (by kernel_rfl) rfl rfl ?_
    refine d_p 4 rfl (p_pure rfl) (by kernel_rfl) rfl rfl ?_
    apply d_split 39
    · exact rfl
    · intro hg4
      have hs5 := hg4; try simp only [decide_eq_true_eq, decide_eq_false_iff_not, Bool.not_eq_true', Bool.not_eq_false', Bool.and_eq_true, Bool.or_eq_true, Bool.and_eq_false_iff, Bool.or_eq_false_iff, Bool.not_true, Bool.not_false] at hs5
      refine d_pon 5 39 rfl rfl rfl hg4 (p_pure rfl) (by kernel_rfl) rfl rfl ?_
      refine d_pon 6 39 rfl rfl rfl hg4 (p_pure rfl) (by kernel_rfl) rfl rfl ?_
      refine d_pon 7 39 rfl rfl rfl hg4 (p_pure rfl) (by kernel_rfl) rfl rfl ?_
      first | refine d_pon 8 39 rfl rfl rfl hg4 (p_indexAddr rfl rfl rfl sl_24 (lo) (by omega) (by omega) rfl) (by kernel_rfl) rfl rfl ?_ | refine d_pon 8 39 rfl rfl rfl hg4 (p_indexAddr rfl rfl rfl sl_24 (lo) (by omega) (by omega) (Rw.some hs (by omega))) (by kernel_rfl) rfl rfl ?_
      first | refine d_qon 9 39 [] rfl rfl rfl hg4 (q_loadn rfl rfl sz_77 (by repeat (first | exact .here | apply Pick.there)) rfl) (by kernel_rfl) (by kernel_rfl) (by kernel_rfl) rfl ?_ | refine d_qon 9 39 [] rfl rfl rfl hg4 (q_load_oldn _ rfl rfl sz_77 rfl (Rw.rd hs (i := (lo + hi) / 2) (by omega))) (by kernel_rfl) (by kernel_rfl) (by kernel_rfl) rfl ?_ | refine d_qon 9 39 [] rfl rfl rfl hg4 (q_load_oldn _ rfl rfl sz_77 rfl (Rw.rd hs (i := lo) (by omega))) (by kernel_rfl) (by kernel_rfl) (by kernel_rfl) rfl ?_
      first | refine d_qon 10 39 [] rfl rfl rfl hg4 (q_loadn rfl rfl sz_42 (by repeat (first | exact .here | apply Pick.there)) rfl) (by kernel_rfl) (by kernel_rfl) (by kernel_rfl) rfl ?_ | refine d_qon 10 39 [] rfl rfl rfl hg4 (q_load_oldn _ rfl rfl sz_42 rfl (Rw.rd hs (i := (lo + hi) / 2) (by omega))) (by kernel_rfl) (by kernel_rfl) (by kernel_rfl) rfl ?_ | refine d_qon 10 39 [] rfl rfl rfl hg4 (q_load_oldn _ rfl rfl sz_42 rfl (Rw.rd hs (i := lo) (by omega))) (by kernel_rfl) (by kernel_rfl) (by kernel_rfl) rfl ?_
      refine d_qon 11 39 [] rfl rfl rfl hg4 (q_callv rfl rfl hq rfl (fun w1 h1 => hc lo w1 (by omega) (h1.ent (by repeat (first | exact .nil | refine .cons (by repeat (first | exact .here | apply Pick.there)) ?_))))) (by kernel_rfl) (by kernel_rfl) (by kernel_rfl) rfl ?_
      refine d_pon 12 39 rfl rfl rfl hg4 (p_pure rfl) (by kernel_rfl) rfl rfl ?_
      refine d_p 13 rfl (p_pickt rfl rfl hg4 rfl) (by kernel_rfl) rfl rfl ?_
      refine d_p 14 rfl (p_pure rfl) (by kernel_rfl) rfl rfl ?_
      refine d_p 15 rfl (p_pure rfl) (by kernel_rfl) rfl rfl ?_
      refine d_nil (by kernel_rfl) (fun w h => h.ent (by repeat (first | exact .nil | refine .cons (by repeat (first | exact .here | apply Pick.there)) ?_))) ?_
      exact s_retv (rs := [.tmp 6, .tmp 7]) rfl (.tmp rfl (.tmp rfl (.nil))) (fun w' h' => ⟨by simp only [retV, bsF', hlo]; first | (have : ¬ lo < cs.length := (by omega); simp [this]; done) | (have : lo < cs.length := (by omega); simp [this]; done), h'.below⟩)
    · intro hg6
      have hs7 := hg6; try simp only [decide_eq_true_eq, decide_eq_false_iff_not, Bool.not_eq_true', Bool.not_eq_false', Bool.and_eq_true, Bool.or_eq_true, Bool.and_eq_false_iff, Bool.or_eq_false_iff, Bool.not_true, Bool.not_false] at hs7
      refine d_off 5 39 rfl rfl rfl hg6 (by kernel_rfl) rfl rfl ?_
      refine d_off 6 39 rfl rfl rfl hg6 (by kernel_rfl) rfl rfl ?_
      refine d_off 7 39 rfl rfl rfl hg6 (by kernel_rfl) rfl rfl ?_
      refine d_off 8 39 rfl rfl rfl hg6 (by kernel_rfl) rfl rfl ?_
      refine d_off 9 39 rfl rfl rfl hg6 (by kernel_rfl) rfl rfl ?_
      refine d_off 10 39 rfl rfl rfl hg6 (by kernel_rfl) rfl rfl ?_
      refine d_off 11 39 rfl rfl rfl hg6 (by kernel_rfl) rfl rfl ?_
      refine d_off 12 39 rfl rfl rfl hg6 (by kernel_rfl) rfl rfl ?_
      refine d_p 13 rfl (p_pickf rfl rfl hg6 rfl) (by kernel_rfl) rfl rfl ?_
      refine d_p 14 rfl (p_pure rfl) (by kernel_rfl) rfl rfl ?_
      refine d_p 15 rfl (p_pure rfl) (by kernel_rfl) rfl rfl ?_
      refine d_nil (by kernel_rfl) (fun w h => h.ent (by repeat (first | exact .nil | refine .cons (by repeat (first | exact .here | apply Pick.there)) ?_))) ?_
      exact s_retv (rs := [.tmp 6, .tmp 7]) rfl (.tmp rfl (.tmp rfl (.nil))) (fun w' h' => ⟨by simp only [retV, bsF', hlo]; first | (have : ¬ lo < cs.length := (by omega); simp [this]; done) | (have : lo < cs.length := (by omega); simp [this]; done), h'.below⟩)

set_option maxRecDepth 20000 in
theorem c114 (w : World) (bt : Nat) (a : Option Addr) (cap : Nat) (L : List LFil) (rc sq : Int) (ht1 : Rd w [] bt 1 (.slice a L.length cap)) (hs : Ft w [] a L) (hm : L.length ≤ 1000) (hmo : ∀ f ∈ L, f.op.length ≤ 1000) : Calls Try.prog 114 #[.pointer (some ⟨bt, 0, none⟩), .agg #[.int .i64 rc, .int .i64 sq]] w fun en w' => en = .returned (.tuple #[.int .i64 (bsL (cmps (pls L) rc sq) : Int), .bool (bsF' (cmps (pls L) rc sq))]) ∧ Below w.heap.size w w' := by
  refine enter (args := [_, _]) Try.func114 Try.ntmps114 rfl rfl (HS.refl w []) ?_
  refine s_seq ?_
  refine s_region ?_
  refine o_h (h_box rfl rfl) rfl (fun b1 _ => ?_)
  refine o_p (p_pure rfl) rfl ?_
  refine o_p (p_pure rfl) rfl ?_
  refine o_nil ?_
  refine s_seq ?_
  refine s_draw [] mixed ?_
  refine d_p 0 rfl (p_pure rfl) (by kernel_rfl) rfl rfl ?_
  refine d_p 1 rfl (p_pure rfl) (by kernel_rfl) rfl rfl ?_
  refine d_p 2 rfl (p_fieldAddr rfl rfl fd_106_0 sz_26 rfl) (by kernel_rfl) rfl rfl ?_
  refine d_p 3 rfl (p_fieldAddr rfl rfl fd_26_1 sz_24 rfl) (by kernel_rfl) rfl rfl ?_
  first | refine d_q 4 [] rfl (q_load rfl rfl sz_24 (by repeat (first | exact .here | apply Pick.there)) rfl) (by kernel_rfl) (by kernel_rfl) (by kernel_rfl) rfl ?_ | refine d_q 4 [] rfl (q_load_old rfl rfl sz_24 (ht1)) (by kernel_rfl) (by kernel_rfl) (by kernel_rfl) rfl ?_
  first | refine d_q 5 [] rfl (q_loadn rfl rfl sz_42 (by repeat (first | exact .here | apply Pick.there)) rfl) (by kernel_rfl) (by kernel_rfl) (by kernel_rfl) rfl ?_ | refine d_q 5 [] rfl (q_load_oldn _ rfl rfl sz_42 ht1) (by kernel_rfl) (by kernel_rfl) (by kernel_rfl) rfl ?_
  refine d_q 6 [] rfl (q_call rfl fn_125 rfl (fun w1 h1 => c125 w1 a cap L 126 #[] (cmps (pls L) rc sq) rc sq (hs.1.later h1) (by omega) (by kernel_rfl) (by simp [cmps]) (fun j w2 hj h2 => by have e : (cmps (pls L) rc sq).getD j 0 = cmp2 ((nth L j).rc, (nth L j).sq) (rc, sq) := (by unfold cmps pls; rw [List.map_map]; exact map_getD_nth hj); rw [e]; exact c126 w2 _ _ _))) (by kernel_rfl) (by kernel_rfl) (by kernel_rfl) rfl ?_
  refine d_p 7 rfl (p_pure rfl) (by kernel_rfl) rfl rfl ?_
  refine d_p 8 rfl (p_pure rfl) (by kernel_rfl) rfl rfl ?_
  refine d_p 9 rfl (p_pure rfl) (by kernel_rfl) rfl rfl ?_
  refine d_p 10 rfl (p_pure rfl) (by kernel_rfl) rfl rfl ?_
  refine d_nil (by kernel_rfl) (fun w h => h.ent (by repeat (first | exact .nil | refine .cons (by repeat (first | exact .here | apply Pick.there)) ?_))) ?_
  exact s_retv (rs := [.tmp 4, .tmp 5]) rfl (.tmp rfl (.tmp rfl (.nil))) (fun w' h' => ⟨rfl, h'.below⟩)

end Go.Proofs
