/- Contracts of the program's functions, proved by walking them with the rules of the Gx texts; without conditions beyond those that each contract names. -/
import Derived.Test.YtgdigngojonbhaaC25D
namespace Go.Proofs
open Go Go.RowKit Gx
set_option linter.unusedVariables false
set_option linter.unusedSimpArgs false
attribute [local irreducible] Go.Calls Gx.S Gx.O Gx.D Gx.OpP Gx.OpQ Gx.OpH

theorem sz_111 : tsz Try.prog 111 = some (1, false) := by kernel_rfl
theorem fd_77_2 : tfd Try.prog 77 2 = some (3, 75) := by kernel_rfl
theorem sz_75 : tsz Try.prog 75 = some (1, false) := by kernel_rfl
theorem fn_59 : isFn Try.prog 59 = true := by kernel_rfl
theorem fd_77_0 : tfd Try.prog 77 0 = some (0, 42) := by kernel_rfl
theorem sz_42 : tsz Try.prog 42 = some (2, true) := by kernel_rfl
theorem fn_55 : isFn Try.prog 55 = true := by kernel_rfl
theorem fd_26_1 : tfd Try.prog 26 1 = some (1, 24) := by kernel_rfl
theorem sz_24 : tsz Try.prog 24 = some (1, false) := by kernel_rfl
theorem fn_56 : isFn Try.prog 56 = true := by kernel_rfl
theorem fn_57 : isFn Try.prog 57 = true := by kernel_rfl
theorem sz_77 : tsz Try.prog 77 = some (4, true) := by kernel_rfl
theorem fn_54 : isFn Try.prog 54 = true := by kernel_rfl
theorem fd_26_0 : tfd Try.prog 26 0 = some (0, 3) := by kernel_rfl
theorem pl_114 : tplaces Try.prog 114 = some [(0, 1), (1, 1)] := by kernel_rfl
theorem zr_114 : tzero Try.prog 114 = some [.int .i64 0, .map none] := by kernel_rfl
theorem zr_111 : tzero Try.prog 111 = some [.pointer none] := by kernel_rfl
theorem fn_53 : isFn Try.prog 53 = true := by kernel_rfl


theorem hdlE_congr {next : Int} {k1 k2 : List Int} {ops : List Opn} {k : Nat} (h : ∀ x, x ∈ k1 ↔ x ∈ k2) : hdlE next k1 ops k = hdlE next k2 ops k := by
  unfold hdlE
  simp only [h]
theorem hdlsE_congr {next : Int} {k1 k2 : List Int} {ops : List Opn} (h : ∀ x, x ∈ k1 ↔ x ∈ k2) : hdlsE next k1 ops = hdlsE next k2 ops := by
  unfold hdlsE
  congr 2
  apply List.map_congr_left
  intro k _
  exact hdlE_congr h
def hdlEs (next : Int) (ks : List Int) (ops : List Opn) : List Int := (List.range ops.length).map (hdlE next ks ops)
theorem hdlEs_get {next : Int} {ks : List Int} {ops : List Opn} {k : Nat} (h : k < ops.length) : (hdlEs next ks ops).getD k 0 = hdlE next ks ops k := by
  simp [hdlEs, List.getD_eq_getElem?_getD, h]
def filEs (next : Int) (L : List Fil) : List Int := (List.range L.length).map (filE next L)
theorem filEs_get {next : Int} {L : List Fil} {k : Nat} (h : k < L.length) : (filEs next L).getD k 0 = filE next L k := by
  simp [filEs, List.getD_eq_getElem?_getD, h]
theorem nth_pls {l : List LFil} {k : Nat} (h : k < l.length) : nth (pls l) k = (nth l k).pl := by
  simp only [nth, pls, List.getD_eq_getElem?_getD, List.getElem?_map, List.getElem?_eq_getElem h, Option.map_some, Option.getD_some]
def filE1 (L : List Fil) (i : Nat) : Int :=
  if refE (nth L i).rc (nth L i).sq = 0 then if i = 0 ∨ refLt ((nth L (i - 1)).rc, (nth L (i - 1)).sq) ((nth L i).rc, (nth L i).sq) = true then if 0 < (nth L i).op.length then 0 else 17 else 9 else refE (nth L i).rc (nth L i).sq
theorem filE_1 (next : Int) (L : List Fil) (i : Nat) : filE next L i = if filE1 L i = 0 then hdlsE next (hds (L.take i)) (nth L i).op else filE1 L i := by
  unfold filE filE1
  simp only []
  grind
theorem fil_way {L : List Fil} {i : Nat} {b : Bool} (hb : b = decide (i = 0 ∨ refLt ((nth L (i - 1)).rc, (nth L (i - 1)).sq) ((nth L i).rc, (nth L i).sq) = true)) :
    firstV [.int .i64 (refE (nth L i).rc (nth L i).sq), .int .i64 (bif b then 0 else 9), .int .i64 (bif decide ((0 : Int) < ((nth L i).op.length : Int)) then 0 else 17)] = filE1 L i := by
  subst hb
  simp only [firstV, cond_eq_ite, decide_eq_true_eq, filE1]
  grind
theorem hds_take {L : List Fil} {i : Nat} (h : i < L.length) (x : Int) : x ∈ hds (L.take (i + 1)) ↔ x ∈ hds (L.take i) ∨ x ∈ (nth L i).op.map Opn.hd := by
  rw [take_succ_nth h]
  unfold hds
  rw [List.flatMap_append, List.mem_append]
  simp
open Classical in
theorem mem_insK' {α : Type} {ks : List α} {a x : α} : x ∈ insK' ks a ↔ x ∈ ks ∨ x = a := by
  unfold insK'
  split
  · rename_i h
    constructor
    · exact .inl
    · rintro (h2 | rfl)
      · exact h2
      · exact h
  · simp
theorem plo_take_hd {l : List LOpn} {k : Nat} (h : k < l.length) (x : Int) : x ∈ ((l.take (k + 1)).map LOpn.hd) ↔ x ∈ ((l.take k).map LOpn.hd) ∨ x = (nth l k).hd := by
  rw [take_succ_nth h]
  simp
theorem cntT_succ {l : List LFil} {k : Nat} (h : k < l.length) : cntT (pls (l.take (k + 1))) = cntT (pls (l.take k)) + (nth l k).op.length := by
  rw [take_succ_nth h]
  simp [cntT, pls, LFil.pl]
theorem cntT_le {l : List LFil} (hl : ∀ f ∈ l, f.op.length ≤ 1000) : ∀ k, k ≤ l.length → cntT (pls (l.take k)) ≤ 1000 * k
  | 0, _ => by simp [cntT, pls]
  | k + 1, h => by
    have h1 := cntT_le hl k (by omega)
    have h2 := hl _ (mem_nth (show k < l.length by omega))
    rw [cntT_succ (by omega)]
    omega
theorem sum_mem : ∀ {l : List Nat} {n : Nat}, n ∈ l → n ≤ l.sum
  | [], _, h => by cases h
  | m :: l, n, h => by
    rw [List.sum_cons]
    rcases List.mem_cons.1 h with rfl | h
    · omega
    · have := sum_mem h; omega
theorem cntT_mem {L : List Fil} {f : Fil} (h : f ∈ L) : f.op.length ≤ cntT L := by
  unfold cntT
  exact sum_mem (List.mem_map.2 ⟨f, h, rfl⟩)
theorem chk_first {next : Int} {L : List Fil} : firstV [.int .i64 (bif decide (1 ≤ next) && decide (next ≤ 2147483647) then 0 else 2), .int .i64 (bif decide ((if (L.length : Int) > (cntT L : Int) then (L.length : Int) else (cntT L : Int)) ≤ 32) then 0 else 8)] = if 1 ≤ next ∧ next ≤ 2147483647 then if L.length ≤ 32 ∧ cntT L ≤ 32 then 0 else 8 else 2 := by
  simp only [firstV, cond_eq_ite, decide_eq_true_eq, Bool.and_eq_true]
  grind

set_option maxRecDepth 20000 in
theorem c58 (w : World) (bv bf bc r : Nat) (next : Int) (known : List Int) (a : Option Addr) (cap : Nat) (l : List LOpn) (i : Nat) (x : LOpn) (hv0 : Rd w [] bv 0 (.pointer (some ⟨bc, 0, none⟩))) (hf3 : Rd w [] bf 3 (.slice a l.length cap)) (hb0 : Rd w [] bc 0 (.int .i64 next)) (hb1 : Rd w [] bc 1 (.map (some r))) (hr : MpR w [] r KI known) (hs : Ot w [] a l) (hi : i < l.length) (hcap : l.length ≤ cap) (hm : l.length ≤ 500) (hn : 1 ≤ next ∧ next ≤ 2147483647) (hv : ∀ j, j < i → hdlE next known (plo l) j = 0) : Calls Try.prog 58 #[.int .i64 (i : Int), .agg #[.int .i64 x.hd, .int .i64 x.ac, .int .i64 x.sh, .bool x.dl, .slice x.la x.lk.length x.lc], .pointer (some ⟨bv, 0, none⟩), .pointer (some ⟨bf, 0, none⟩)] w fun en w' => en = .returned (.int .i64 (hdlE next known (plo l) i)) ∧ Below w.heap.size w w' := by
  refine enter (args := [_, _, _, _]) Try.func58 Try.ntmps58 rfl rfl (HS.refl w []) ?_
  refine s_seq ?_
  refine s_region ?_
  refine o_h (h_box rfl rfl) rfl (fun b1 _ => ?_)
  refine o_p (p_pure rfl) rfl ?_
  refine o_nil ?_
  refine s_seq ?_
  refine s_region ?_
  first | refine o_q (q_load rfl rfl sz_111 (by repeat (first | exact .here | apply Pick.there)) rfl) rfl ?_ | refine o_q (q_load_old rfl rfl sz_111 (hv0)) rfl ?_ | refine o_q (q_load_old rfl rfl sz_111 (hf3)) rfl ?_
  refine o_p (p_fieldAddr rfl rfl fd_77_2 sz_75 rfl) rfl ?_
  first | refine o_q (q_load rfl rfl sz_75 (by repeat (first | exact .here | apply Pick.there)) rfl) rfl ?_ | refine o_q (q_load_old rfl rfl sz_75 (hv0)) rfl ?_ | refine o_q (q_load_old rfl rfl sz_75 (hf3)) rfl ?_
  refine o_p (p_pure rfl) rfl ?_
  refine o_q (q_call rfl fn_59 rfl (fun w1 h1 => c59 w1 bc r next known a cap l i (hb0.next h1) (hb1.next h1) (hr.later h1) (hs.later h1) hi hcap hm hn hv)) rfl ?_
  refine o_p (p_pure rfl) rfl ?_
  refine o_nil ?_
  exact s_retv (rs := [.tmp 6]) rfl (.tmp rfl (.nil)) (fun w' h' => ⟨rfl, h'.below⟩)

set_option maxRecDepth 20000 in
theorem c54 (w : World) (bt bv bc r : Nat) (next : Int) (ks : List Int) (a : Option Addr) (cap : Nat) (L : List LFil) (i : Nat) (hw : HS w (fps [.mp r KI ks]) [.mp r KI ks] w) (ht1 : Rd w (fps [.mp r KI ks]) bt 1 (.slice a L.length cap)) (hv0 : Rd w (fps [.mp r KI ks]) bv 0 (.pointer (some ⟨bc, 0, none⟩))) (hb0 : Rd w (fps [.mp r KI ks]) bc 0 (.int .i64 next)) (hb1 : Rd w (fps [.mp r KI ks]) bc 1 (.map (some r))) (hs : Ft w (fps [.mp r KI ks]) a L) (hi : i < L.length) (hm : L.length ≤ 500) (hmo : ∀ f ∈ L, f.op.length ≤ 500) (hn : 1 ≤ next ∧ next ≤ 2147483647) (hk : ∀ x, x ∈ ks ↔ x ∈ hds ((pls L).take i)) : Calls Try.prog 54 #[.int .i64 (i : Int), .agg #[.int .i64 (nth L i).rc, .int .i64 (nth L i).sq, .bool (nth L i).pd, .slice (nth L i).oa (nth L i).op.length (nth L i).oc], .pointer (some ⟨bt, 0, none⟩), .pointer (some ⟨bv, 0, none⟩)] w fun en w' => ∃ g : List Int, en = .returned (.int .i64 (filE next (pls L) i)) ∧ (∀ x, x ∈ g ↔ x ∈ hds ((pls L).take (i + 1))) ∧ HS w (fps [.mp r KI ks]) [.mp r KI g] w' := by
  have ep := nth_pls hi
  have hmi := hmo _ (mem_nth hi)
  have hpl : i < (pls L).length := by simpa using hi
  refine enter (args := [_, _, _, _]) Try.func54 Try.ntmps54 rfl rfl hw ?_
  refine s_seq ?_
  refine s_region ?_
  refine o_h (h_box rfl rfl) rfl (fun b1 _ => ?_)
  refine o_p (p_pure rfl) rfl ?_
  refine o_nil ?_
  refine s_seq ?_
  refine s_cutI (α := Unit) [7, 10, 11, 12, 13, 14, 15, 16, 17, 18, 19, 20, 21, 22, 23, 24, 25, 26, 27, 28, 29, 30, 31, 32, 33, 34, 35, 36] (fun _ => [(7, .int .i64 (filE1 (pls L) i))]) (fun _ => HS w (fps [.mp r KI ks]) [.mp r KI ks, .blk b1 77 4 [.int .i64 (nth L i).rc, .int .i64 (nth L i).sq, .bool (nth L i).pd, .slice (nth L i).oa (nth L i).op.length (nth L i).oc]]) (fun _ => True) ?_ ?_
  · skip
    refine s_draw [] mixed ?_
    refine d_p 0 rfl (p_fieldAddr rfl rfl fd_77_0 sz_42 rfl) (by kernel_rfl) rfl rfl ?_
    first | refine d_q 1 [] rfl (q_loadn rfl rfl sz_42 (by repeat (first | exact .here | apply Pick.there)) rfl) (by kernel_rfl) (by kernel_rfl) (by kernel_rfl) rfl ?_ | refine d_q 1 [] rfl (q_load_oldn _ rfl rfl sz_42 ht1) (by kernel_rfl) (by kernel_rfl) (by kernel_rfl) rfl ?_ | refine d_q 1 [] rfl (q_load_oldn _ rfl rfl sz_42 hv0) (by kernel_rfl) (by kernel_rfl) (by kernel_rfl) rfl ?_ | refine d_q 1 [] rfl (q_load_oldn _ rfl rfl sz_42 hb0) (by kernel_rfl) (by kernel_rfl) (by kernel_rfl) rfl ?_ | refine d_q 1 [] rfl (q_load_oldn _ rfl rfl sz_42 hb1) (by kernel_rfl) (by kernel_rfl) (by kernel_rfl) rfl ?_ | refine d_q 1 [] rfl (q_load_oldn _ rfl rfl sz_42 rfl (Rw.rd (hs.at hi).1 (i := k) (by omega))) (by kernel_rfl) (by kernel_rfl) (by kernel_rfl) rfl ?_
    refine d_q 2 [] rfl (q_call rfl fn_55 rfl (fun w1 h1 => c55 w1 _ _)) (by kernel_rfl) (by kernel_rfl) (by kernel_rfl) rfl ?_
    refine d_p 3 rfl (p_pure rfl) (by kernel_rfl) rfl rfl ?_
    refine d_p 4 rfl (p_pure rfl) (by kernel_rfl) rfl rfl ?_
    refine d_p 5 rfl (p_pure rfl) (by kernel_rfl) rfl rfl ?_
    apply d_split 15
    · exact rfl
    · intro hg2
      have hs3 := hg2; try simp only [decide_eq_true_eq, decide_eq_false_iff_not, Bool.not_eq_true', Bool.not_eq_false', Bool.and_eq_true, Bool.or_eq_true, Bool.and_eq_false_iff, Bool.or_eq_false_iff, Bool.not_true, Bool.not_false] at hs3
      refine d_off 6 15 rfl rfl rfl hg2 (by kernel_rfl) rfl rfl ?_
      refine d_off 7 15 rfl rfl rfl hg2 (by kernel_rfl) rfl rfl ?_
      refine d_off 8 15 rfl rfl rfl hg2 (by kernel_rfl) rfl rfl ?_
      refine d_off 9 15 rfl rfl rfl hg2 (by kernel_rfl) rfl rfl ?_
      refine d_off 10 15 rfl rfl rfl hg2 (by kernel_rfl) rfl rfl ?_
      refine d_off 11 15 rfl rfl rfl hg2 (by kernel_rfl) rfl rfl ?_
      refine d_off 12 15 rfl rfl rfl hg2 (by kernel_rfl) rfl rfl ?_
      refine d_off 13 15 rfl rfl rfl hg2 (by kernel_rfl) rfl rfl ?_
      refine d_off 14 15 rfl rfl rfl hg2 (by kernel_rfl) rfl rfl ?_
      refine d_off 15 15 rfl rfl rfl hg2 (by kernel_rfl) rfl rfl ?_
      refine d_off 16 15 rfl rfl rfl hg2 (by kernel_rfl) rfl rfl ?_
      refine d_off 17 15 rfl rfl rfl hg2 (by kernel_rfl) rfl rfl ?_
      refine d_p 18 rfl (p_pickt rfl rfl hg2 rfl) (by kernel_rfl) rfl rfl ?_
      refine d_q 19 [] rfl (q_call rfl fn_48 rfl (fun w1 h1 => c48 w1 _ _)) (by kernel_rfl) (by kernel_rfl) (by kernel_rfl) rfl ?_
      refine d_p 20 rfl (p_fieldAddr rfl rfl fd_77_2 sz_75 rfl) (by kernel_rfl) rfl rfl ?_
      first | refine d_q 21 [] rfl (q_load rfl rfl sz_75 (by repeat (first | exact .here | apply Pick.there)) rfl) (by kernel_rfl) (by kernel_rfl) (by kernel_rfl) rfl ?_ | refine d_q 21 [] rfl (q_load_old rfl rfl sz_75 (ht1)) (by kernel_rfl) (by kernel_rfl) (by kernel_rfl) rfl ?_ | refine d_q 21 [] rfl (q_load_old rfl rfl sz_75 (hv0)) (by kernel_rfl) (by kernel_rfl) (by kernel_rfl) rfl ?_ | refine d_q 21 [] rfl (q_load_old rfl rfl sz_75 (hb0)) (by kernel_rfl) (by kernel_rfl) (by kernel_rfl) rfl ?_ | refine d_q 21 [] rfl (q_load_old rfl rfl sz_75 (hb1)) (by kernel_rfl) (by kernel_rfl) (by kernel_rfl) rfl ?_ | refine d_q 21 [] rfl (q_load_old rfl rfl sz_75 (rfl (Rw.rd (hs.at hi).1 (i := k) (by omega)))) (by kernel_rfl) (by kernel_rfl) (by kernel_rfl) rfl ?_
      first | refine d_p 22 rfl (p_len_slice rfl rfl Try.underlying75) (by kernel_rfl) rfl rfl ?_ | refine d_q 22 [] rfl (q_len_own rfl rfl Try.underlying75 (by repeat (first | exact .here | apply Pick.there))) (by kernel_rfl) (by kernel_rfl) (by kernel_rfl) rfl ?_
      refine d_p 23 rfl (p_pure rfl) (by kernel_rfl) rfl rfl ?_
      refine d_q 24 [] rfl (q_call rfl fn_48 rfl (fun w1 h1 => c48 w1 _ _)) (by kernel_rfl) (by kernel_rfl) (by kernel_rfl) rfl ?_
      refine d_h 25 rfl (h_buildSlice (cs := [_, _, _]) rfl rfl sl_146 zr_28 rfl rfl rfl) (by kernel_rfl) (fun w h => h.ent (by repeat (first | exact .nil | refine .cons (by repeat (first | exact .here | apply Pick.there)) ?_))) rfl (fun b4 _ => ?_)
      refine d_base (fun w h => h.ent (by repeat (first | exact .nil | refine .cons (by repeat (first | exact .here | apply Pick.there)) ?_))) ?_
      refine d_q 26 [] rfl (q_call rfl fn_52 rfl (fun w1 h1 => f52 h1 (by repeat (first | exact .here | apply Pick.there)) (by rfl) (by rfl) (by decide))) (by kernel_rfl) (by kernel_rfl) (by kernel_rfl) rfl ?_
      refine d_p 27 rfl (p_pure rfl) (by kernel_rfl) rfl rfl ?_
      refine d_nil (by kernel_rfl) (fun w h => h.ent (by repeat (first | exact .nil | refine .cons (by repeat (first | exact .here | apply Pick.there)) ?_))) ?_
      exact s_joinI () trivial (sl_c (congrArg (fun e => some (Value.int .i64 e)) (by have hw9 := fil_way (L := pls L) (i := i) (b := true) (by simp; omega); rw [ep] at hw9; simp only [LFil.pl, List.length_map] at hw9; exact hw9)) (by repeat (first | exact sl_n | refine sl_c rfl ?_))) (fun w h => h.ent (by repeat (first | exact .nil | refine .cons (by repeat (first | exact .here | apply Pick.there)) ?_)))
    · intro hg5
      have hs6 := hg5; try simp only [decide_eq_true_eq, decide_eq_false_iff_not, Bool.not_eq_true', Bool.not_eq_false', Bool.and_eq_true, Bool.or_eq_true, Bool.and_eq_false_iff, Bool.or_eq_false_iff, Bool.not_true, Bool.not_false] at hs6
      refine d_pon 6 15 rfl rfl rfl hg5 (p_fieldAddr rfl rfl fd_26_1 sz_24 rfl) (by kernel_rfl) rfl rfl ?_
      first | refine d_qon 7 15 [] rfl rfl rfl hg5 (q_load rfl rfl sz_24 (by repeat (first | exact .here | apply Pick.there)) rfl) (by kernel_rfl) (by kernel_rfl) (by kernel_rfl) rfl ?_ | refine d_qon 7 15 [] rfl rfl rfl hg5 (q_load_old rfl rfl sz_24 (ht1)) (by kernel_rfl) (by kernel_rfl) (by kernel_rfl) rfl ?_ | refine d_qon 7 15 [] rfl rfl rfl hg5 (q_load_old rfl rfl sz_24 (hv0)) (by kernel_rfl) (by kernel_rfl) (by kernel_rfl) rfl ?_ | refine d_qon 7 15 [] rfl rfl rfl hg5 (q_load_old rfl rfl sz_24 (hb0)) (by kernel_rfl) (by kernel_rfl) (by kernel_rfl) rfl ?_ | refine d_qon 7 15 [] rfl rfl rfl hg5 (q_load_old rfl rfl sz_24 (hb1)) (by kernel_rfl) (by kernel_rfl) (by kernel_rfl) rfl ?_ | refine d_qon 7 15 [] rfl rfl rfl hg5 (q_load_old rfl rfl sz_24 (rfl (Rw.rd (hs.at hi).1 (i := k) (by omega)))) (by kernel_rfl) (by kernel_rfl) (by kernel_rfl) rfl ?_
      refine d_pon 8 15 rfl rfl rfl hg5 (p_pure rfl) (by kernel_rfl) rfl rfl ?_
      refine d_pon 9 15 rfl rfl rfl hg5 (p_pure rfl) (by kernel_rfl) rfl rfl ?_
      try (refine d_slot (i64w (by omega) (by omega)) ?_)
      refine d_pon 10 15 rfl rfl rfl hg5 (p_max2 rfl rfl rfl ) (by kernel_rfl) rfl rfl ?_
      refine d_slot (show _ = Value.int .i64 ((i - 1 : Nat) : Int) from by congr 1; split <;> omega) ?_
      first | refine d_pon 11 15 rfl rfl rfl hg5 (p_indexAddr rfl rfl rfl sl_24 ((i - 1)) (by omega) (by omega) rfl) (by kernel_rfl) rfl rfl ?_ | refine d_pon 11 15 rfl rfl rfl hg5 (p_indexAddr rfl rfl rfl sl_24 ((i - 1)) (by omega) (by omega) (Rw.some hs.1 (by omega))) (by kernel_rfl) rfl rfl ?_ | refine d_pon 11 15 rfl rfl rfl hg5 (p_indexAddr rfl rfl rfl sl_24 ((i - 1)) (by omega) (by omega) (Rw.some (hs.at hi).1 (by omega))) (by kernel_rfl) rfl rfl ?_
      refine d_pon 12 15 rfl rfl rfl hg5 (p_fieldAddr rfl rfl fd_77_0 sz_42 rfl) (by kernel_rfl) rfl rfl ?_
      refine d_qon 13 15 [] rfl rfl rfl hg5 (q_load_oldn [.int .i64 (nth L (i - 1)).rc, .int .i64 (nth L (i - 1)).sq] rfl rfl sz_42 rfl (fun j v hv => Rw.rd hs.1 (i := i - 1) (by omega) j v (by rcases j with _ | _ | j <;> first | exact hv | (simp at hv)))) (by kernel_rfl) (by kernel_rfl) (by kernel_rfl) rfl ?_
      refine d_pon 14 15 rfl rfl rfl hg5 (p_fieldAddr rfl rfl fd_77_0 sz_42 rfl) (by kernel_rfl) rfl rfl ?_
      first | refine d_qon 15 15 [] rfl rfl rfl hg5 (q_loadn rfl rfl sz_42 (by repeat (first | exact .here | apply Pick.there)) rfl) (by kernel_rfl) (by kernel_rfl) (by kernel_rfl) rfl ?_ | refine d_qon 15 15 [] rfl rfl rfl hg5 (q_load_oldn _ rfl rfl sz_42 ht1) (by kernel_rfl) (by kernel_rfl) (by kernel_rfl) rfl ?_ | refine d_qon 15 15 [] rfl rfl rfl hg5 (q_load_oldn _ rfl rfl sz_42 hv0) (by kernel_rfl) (by kernel_rfl) (by kernel_rfl) rfl ?_ | refine d_qon 15 15 [] rfl rfl rfl hg5 (q_load_oldn _ rfl rfl sz_42 hb0) (by kernel_rfl) (by kernel_rfl) (by kernel_rfl) rfl ?_ | refine d_qon 15 15 [] rfl rfl rfl hg5 (q_load_oldn _ rfl rfl sz_42 hb1) (by kernel_rfl) (by kernel_rfl) (by kernel_rfl) rfl ?_ | refine d_qon 15 15 [] rfl rfl rfl hg5 (q_load_oldn _ rfl rfl sz_42 rfl (Rw.rd (hs.at hi).1 (i := k) (by omega))) (by kernel_rfl) (by kernel_rfl) (by kernel_rfl) rfl ?_
      refine d_qon 16 15 [] rfl rfl rfl hg5 (q_call rfl fn_56 rfl (fun w1 h1 => c56 w1 _ _ _ _)) (by kernel_rfl) (by kernel_rfl) (by kernel_rfl) rfl ?_
      refine d_pon 17 15 rfl rfl rfl hg5 (p_pure rfl) (by kernel_rfl) rfl rfl ?_
      refine d_p 18 rfl (p_pickf rfl rfl hg5 rfl) (by kernel_rfl) rfl rfl ?_
      refine d_q 19 [] rfl (q_call rfl fn_48 rfl (fun w1 h1 => c48 w1 _ _)) (by kernel_rfl) (by kernel_rfl) (by kernel_rfl) rfl ?_
      refine d_p 20 rfl (p_fieldAddr rfl rfl fd_77_2 sz_75 rfl) (by kernel_rfl) rfl rfl ?_
      first | refine d_q 21 [] rfl (q_load rfl rfl sz_75 (by repeat (first | exact .here | apply Pick.there)) rfl) (by kernel_rfl) (by kernel_rfl) (by kernel_rfl) rfl ?_ | refine d_q 21 [] rfl (q_load_old rfl rfl sz_75 (ht1)) (by kernel_rfl) (by kernel_rfl) (by kernel_rfl) rfl ?_ | refine d_q 21 [] rfl (q_load_old rfl rfl sz_75 (hv0)) (by kernel_rfl) (by kernel_rfl) (by kernel_rfl) rfl ?_ | refine d_q 21 [] rfl (q_load_old rfl rfl sz_75 (hb0)) (by kernel_rfl) (by kernel_rfl) (by kernel_rfl) rfl ?_ | refine d_q 21 [] rfl (q_load_old rfl rfl sz_75 (hb1)) (by kernel_rfl) (by kernel_rfl) (by kernel_rfl) rfl ?_ | refine d_q 21 [] rfl (q_load_old rfl rfl sz_75 (rfl (Rw.rd (hs.at hi).1 (i := k) (by omega)))) (by kernel_rfl) (by kernel_rfl) (by kernel_rfl) rfl ?_
      first | refine d_p 22 rfl (p_len_slice rfl rfl Try.underlying75) (by kernel_rfl) rfl rfl ?_ | refine d_q 22 [] rfl (q_len_own rfl rfl Try.underlying75 (by repeat (first | exact .here | apply Pick.there))) (by kernel_rfl) (by kernel_rfl) (by kernel_rfl) rfl ?_
      refine d_p 23 rfl (p_pure rfl) (by kernel_rfl) rfl rfl ?_
      refine d_q 24 [] rfl (q_call rfl fn_48 rfl (fun w1 h1 => c48 w1 _ _)) (by kernel_rfl) (by kernel_rfl) (by kernel_rfl) rfl ?_
      refine d_h 25 rfl (h_buildSlice (cs := [_, _, _]) rfl rfl sl_146 zr_28 rfl rfl rfl) (by kernel_rfl) (fun w h => h.ent (by repeat (first | exact .nil | refine .cons (by repeat (first | exact .here | apply Pick.there)) ?_))) rfl (fun b7 _ => ?_)
      refine d_base (fun w h => h.ent (by repeat (first | exact .nil | refine .cons (by repeat (first | exact .here | apply Pick.there)) ?_))) ?_
      refine d_q 26 [] rfl (q_call rfl fn_52 rfl (fun w1 h1 => f52 h1 (by repeat (first | exact .here | apply Pick.there)) (by rfl) (by rfl) (by decide))) (by kernel_rfl) (by kernel_rfl) (by kernel_rfl) rfl ?_
      refine d_p 27 rfl (p_pure rfl) (by kernel_rfl) rfl rfl ?_
      refine d_nil (by kernel_rfl) (fun w h => h.ent (by repeat (first | exact .nil | refine .cons (by repeat (first | exact .here | apply Pick.there)) ?_))) ?_
      exact s_joinI () trivial (sl_c (congrArg (fun e => some (Value.int .i64 e)) (by have hw9 := fil_way (L := pls L) (i := i) (b := decide (cmp2 ((nth L (i - 1)).rc, (nth L (i - 1)).sq) ((nth L i).rc, (nth L i).sq) < 0)) (by rw [cmp2_lt, ep, nth_pls (by omega)]; simp only [LFil.pl]; have : ¬ i = 0 := (by omega); simp [this]); rw [ep] at hw9; simp only [LFil.pl, List.length_map] at hw9; exact hw9)) (by repeat (first | exact sl_n | refine sl_c rfl ?_))) (fun w h => h.ent (by repeat (first | exact .nil | refine .cons (by repeat (first | exact .here | apply Pick.there)) ?_)))
  · intro _ _
    refine s_seq ?_
    refine s_seq ?_
    refine s_region ?_
    refine o_p (p_pure rfl) rfl ?_
    refine o_p (p_pure rfl) rfl ?_
    refine o_nil ?_
    refine s_cutI (α := Unit) [7, 39, 40, 41, 42, 43, 44, 45] (fun _ => [(7, .int .i64 (filE next (pls L) i))]) (fun _ => HS w (fps [.mp r KI ks]) [.mp r KI ks, .blk b1 77 4 [.int .i64 (nth L i).rc, .int .i64 (nth L i).sq, .bool (nth L i).pd, .slice (nth L i).oa (nth L i).op.length (nth L i).oc]]) (fun _ => True) ?_ ?_
    · skip
      refine s_cond rfl (fun h8 => ?_) (fun h8 => ?_)
      · try simp only [decide_eq_true_eq, decide_eq_false_iff_not, Bool.not_eq_true', Bool.not_eq_false', Bool.and_eq_true, Bool.or_eq_true, Bool.and_eq_false_iff, Bool.or_eq_false_iff, Bool.not_true, Bool.not_false] at h8
        refine s_region ?_
        refine o_p (p_fieldAddr rfl rfl fd_77_2 sz_75 rfl) rfl ?_
        first | refine o_q (q_load rfl rfl sz_75 (by repeat (first | exact .here | apply Pick.there)) rfl) rfl ?_ | refine o_q (q_load_old rfl rfl sz_75 (ht1)) rfl ?_ | refine o_q (q_load_old rfl rfl sz_75 (hv0)) rfl ?_ | refine o_q (q_load_old rfl rfl sz_75 (hb0)) rfl ?_ | refine o_q (q_load_old rfl rfl sz_75 (hb1)) rfl ?_ | refine o_q (q_load_old rfl rfl sz_75 (rfl (Rw.rd (hs.at hi).1 (i := k) (by omega)))) rfl ?_
        refine o_p (p_pure rfl) rfl ?_
        refine o_q (q_call rfl fn_57 rfl (fun w1 h1 => by have h9 := c57 w1 (nth L i).oa (nth L i).oc (nth L i).op 58 #[.pointer (some ⟨bv, 0, none⟩), .pointer (some ⟨b1, 0, none⟩)] (hdlEs next ks (plo (nth L i).op)) ((hs.at hi).1.later h1) (by omega) (by kernel_rfl) (by simp [hdlEs]) (fun j w2 hj hz h2 => by rw [hdlEs_get (by simpa using hj)]; exact c58 w2 bv b1 bc r next ks _ _ (nth L i).op j _ ((hv0.next h1).next h2) ((h1.rd_blk (Mc := []) (by repeat (first | exact .here | apply Pick.there)) rfl (by simp)).next h2) ((hb0.next h1).next h2) ((hb1.next h1).next h2) ((h1.mpr (by repeat (first | exact .here | apply Pick.there))).later h2) (((hs.at hi).later h1).later h2) hj (hs.cap hi) (by omega) hn (fun q hq => by rw [← hdlEs_get (by simp; omega)]; exact hz q hq)); exact h9)) rfl ?_
        refine o_p (p_pure rfl) rfl ?_
        refine o_p (p_pure rfl) rfl ?_
        refine o_p (p_pure rfl) rfl ?_
        refine o_p (p_pure rfl) rfl ?_
        refine o_nil ?_
        exact s_joinI () trivial (sl_c (congrArg (fun e => some (Value.int .i64 e)) (by rw [filE_1, if_pos h8, ep, ← hdlsE_congr hk]; rfl)) (by repeat (first | exact sl_n | refine sl_c rfl ?_))) (fun w h => h.ent (by repeat (first | exact .nil | refine .cons (by repeat (first | exact .here | apply Pick.there)) ?_)))
      · try simp only [decide_eq_true_eq, decide_eq_false_iff_not, Bool.not_eq_true', Bool.not_eq_false', Bool.and_eq_true, Bool.or_eq_true, Bool.and_eq_false_iff, Bool.or_eq_false_iff, Bool.not_true, Bool.not_false] at h8
        refine s_skip ?_
        exact s_joinI () trivial (sl_c (congrArg (fun e => some (Value.int .i64 e)) (by rw [filE_1, if_neg h8])) (by repeat (first | exact sl_n | refine sl_c rfl ?_))) (fun w h => h.ent (by repeat (first | exact .nil | refine .cons (by repeat (first | exact .here | apply Pick.there)) ?_)))
    · intro _ _
      refine s_seq ?_
      refine s_seq ?_
      refine s_region ?_
      refine o_p (p_fieldAddr rfl rfl fd_77_2 sz_75 rfl) rfl ?_
      first | refine o_q (q_load rfl rfl sz_75 (by repeat (first | exact .here | apply Pick.there)) rfl) rfl ?_ | refine o_q (q_load_old rfl rfl sz_75 (ht1)) rfl ?_ | refine o_q (q_load_old rfl rfl sz_75 (hv0)) rfl ?_ | refine o_q (q_load_old rfl rfl sz_75 (hb0)) rfl ?_ | refine o_q (q_load_old rfl rfl sz_75 (hb1)) rfl ?_ | refine o_q (q_load_old rfl rfl sz_75 (rfl (Rw.rd (hs.at hi).1 (i := k) (by omega)))) rfl ?_
      first | refine o_p (p_len_slice rfl rfl Try.underlying75) rfl ?_ | refine o_q (q_len_own rfl rfl Try.underlying75 (by repeat (first | exact .here | apply Pick.there))) rfl ?_
      refine o_p (p_pure rfl) rfl ?_
      refine o_nil ?_
      refine s_block ?_
      refine s_loopI (α := Nat × List Int) [9, 49, 50, 51, 52, 53, 54, 55, 56, 57, 58, 59] (fun y => [(49, .int .i64 (y.1 : Int))]) (fun y => HS w (fps [.mp r KI ks]) [.mp r KI y.2, .blk b1 77 4 [.int .i64 (nth L i).rc, .int .i64 (nth L i).sq, .bool (nth L i).pd, .slice (nth L i).oa (nth L i).op.length (nth L i).oc]]) (fun y => y.1 ≤ (nth L i).op.length ∧ ∀ x, x ∈ y.2 ↔ x ∈ ks ∨ x ∈ ((nth L i).op.take y.1).map LOpn.hd) (fun y => (nth L i).op.length - y.1) (0, ks) ⟨by simp, by simp⟩ (by repeat (first | exact sl_n | refine sl_c rfl ?_)) (fun w h => h.ent (by repeat (first | exact .nil | refine .cons (by repeat (first | exact .here | apply Pick.there)) ?_))) (fun ⟨k, kk⟩ hy => ?_)
      dsimp only
      simp only [] at hy
      obtain ⟨hk1, hk2⟩ := hy
      refine s_seq ?_
      refine s_region ?_
      refine o_p (p_pure rfl) rfl ?_
      refine o_nil ?_
      refine s_seq ?_
      refine s_cond rfl (fun h9 => ?_) (fun h9 => ?_)
      · try simp only [decide_eq_true_eq, decide_eq_false_iff_not, Bool.not_eq_true', Bool.not_eq_false', Bool.and_eq_true, Bool.or_eq_true, Bool.and_eq_false_iff, Bool.or_eq_false_iff, Bool.not_true, Bool.not_false] at h9
        refine s_skip ?_
        refine s_seq ?_
        refine s_block ?_
        refine s_seq ?_
        refine s_region ?_
        first | refine o_p (p_indexAddr rfl rfl rfl sl_75 (k) (by omega) (by omega) rfl) rfl ?_ | refine o_p (p_indexAddr rfl rfl rfl sl_75 (k) (by omega) (by omega) (Rw.some hs.1 (by omega))) rfl ?_ | refine o_p (p_indexAddr rfl rfl rfl sl_75 (k) (by omega) (by omega) (Rw.some (hs.at hi).1 (by omega))) rfl ?_
        first | refine o_q (q_loadn rfl rfl sz_48 (by repeat (first | exact .here | apply Pick.there)) rfl) rfl ?_ | refine o_q (q_load_oldn _ rfl rfl sz_48 ht1) rfl ?_ | refine o_q (q_load_oldn _ rfl rfl sz_48 hv0) rfl ?_ | refine o_q (q_load_oldn _ rfl rfl sz_48 hb0) rfl ?_ | refine o_q (q_load_oldn _ rfl rfl sz_48 hb1) rfl ?_ | refine o_q (q_load_oldn _ rfl rfl sz_48 rfl (Rw.rd (hs.at hi).1 (i := k) (by omega))) rfl ?_
        refine o_h (h_alloc rfl zr_48) rfl (fun b10 _ => ?_)
        refine o_h0 (h_store rfl rfl rfl sz_48 rfl (by repeat (first | exact .here | apply Put.there)) (by simp only [setMany_length, List.length_set, List.length_cons, List.length_nil, List.length_map]; omega) rfl) (fun _ _ => ?_)
        refine o_nil ?_
        refine s_draw [6] mixed ?_
        first | refine d_q 0 [[]] rfl (q_load rfl rfl sz_111 (by repeat (first | exact .here | apply Pick.there)) rfl) (by kernel_rfl) (by kernel_rfl) (by kernel_rfl) rfl ?_ | refine d_q 0 [[]] rfl (q_load_old rfl rfl sz_111 (ht1)) (by kernel_rfl) (by kernel_rfl) (by kernel_rfl) rfl ?_ | refine d_q 0 [[]] rfl (q_load_old rfl rfl sz_111 (hv0)) (by kernel_rfl) (by kernel_rfl) (by kernel_rfl) rfl ?_ | refine d_q 0 [[]] rfl (q_load_old rfl rfl sz_111 (hb0)) (by kernel_rfl) (by kernel_rfl) (by kernel_rfl) rfl ?_ | refine d_q 0 [[]] rfl (q_load_old rfl rfl sz_111 (hb1)) (by kernel_rfl) (by kernel_rfl) (by kernel_rfl) rfl ?_ | refine d_q 0 [[]] rfl (q_load_old rfl rfl sz_111 (rfl (Rw.rd (hs.at hi).1 (i := k) (by omega)))) (by kernel_rfl) (by kernel_rfl) (by kernel_rfl) rfl ?_
        refine d_p 1 rfl (p_pure rfl) (by kernel_rfl) rfl rfl ?_
        refine d_p 2 rfl (p_fieldAddr rfl rfl fd_114_1 sz_112 rfl) (by kernel_rfl) rfl rfl ?_
        first | refine d_q 3 [[]] rfl (q_load rfl rfl sz_112 (by repeat (first | exact .here | apply Pick.there)) rfl) (by kernel_rfl) (by kernel_rfl) (by kernel_rfl) rfl ?_ | refine d_q 3 [[]] rfl (q_load_old rfl rfl sz_112 (ht1)) (by kernel_rfl) (by kernel_rfl) (by kernel_rfl) rfl ?_ | refine d_q 3 [[]] rfl (q_load_old rfl rfl sz_112 (hv0)) (by kernel_rfl) (by kernel_rfl) (by kernel_rfl) rfl ?_ | refine d_q 3 [[]] rfl (q_load_old rfl rfl sz_112 (hb0)) (by kernel_rfl) (by kernel_rfl) (by kernel_rfl) rfl ?_ | refine d_q 3 [[]] rfl (q_load_old rfl rfl sz_112 (hb1)) (by kernel_rfl) (by kernel_rfl) (by kernel_rfl) rfl ?_ | refine d_q 3 [[]] rfl (q_load_old rfl rfl sz_112 (rfl (Rw.rd (hs.at hi).1 (i := k) (by omega)))) (by kernel_rfl) (by kernel_rfl) (by kernel_rfl) rfl ?_
        refine d_p 4 rfl (p_fieldAddr rfl rfl fd_48_0 sz_3 rfl) (by kernel_rfl) rfl rfl ?_
        first | refine d_q 5 [[]] rfl (q_load rfl rfl sz_3 (by repeat (first | exact .here | apply Pick.there)) rfl) (by kernel_rfl) (by kernel_rfl) (by kernel_rfl) rfl ?_ | refine d_q 5 [[]] rfl (q_load_old rfl rfl sz_3 (ht1)) (by kernel_rfl) (by kernel_rfl) (by kernel_rfl) rfl ?_ | refine d_q 5 [[]] rfl (q_load_old rfl rfl sz_3 (hv0)) (by kernel_rfl) (by kernel_rfl) (by kernel_rfl) rfl ?_ | refine d_q 5 [[]] rfl (q_load_old rfl rfl sz_3 (hb0)) (by kernel_rfl) (by kernel_rfl) (by kernel_rfl) rfl ?_ | refine d_q 5 [[]] rfl (q_load_old rfl rfl sz_3 (hb1)) (by kernel_rfl) (by kernel_rfl) (by kernel_rfl) rfl ?_ | refine d_q 5 [[]] rfl (q_load_old rfl rfl sz_3 (rfl (Rw.rd (hs.at hi).1 (i := k) (by omega)))) (by kernel_rfl) (by kernel_rfl) (by kernel_rfl) rfl ?_
        refine d_h0 6 rfl (h_mapUpdate (.inl rfl) rfl rfl rfl Try.underlying112 (key_int ki_3) (by repeat (first | exact .here | apply Put.there))) (by kernel_rfl) (fun w h => h.ent (by repeat (first | exact .nil | refine .cons (by repeat (first | exact .here | apply Pick.there)) ?_))) (fun _ _ => ?_)
        refine d_turn [] (by kernel_rfl) ?_
        refine d_nil (by kernel_rfl) (fun w h => h.ent (by repeat (first | exact .nil | refine .cons (by repeat (first | exact .here | apply Pick.there)) ?_))) ?_
        refine s_blk ?_
        refine s_region ?_
        refine o_p (p_pure rfl) rfl ?_
        try (refine o_slot (i64w (by omega) (by omega)) ?_)
        refine o_p (p_pure rfl) rfl ?_
        refine o_nil ?_
        exact s_backI (k + 1, _) (by (try simp only []); omega) ⟨by (try simp only []); omega, fun x => by rw [mem_insK', hk2, plo_take_hd (by omega), or_assoc]⟩ (by repeat (first | exact sl_n | refine sl_c rfl ?_)) (fun w h => h.ent (by repeat (first | exact .nil | refine .cons (by repeat (first | exact .here | apply Pick.there)) ?_)))
      · try simp only [decide_eq_true_eq, decide_eq_false_iff_not, Bool.not_eq_true', Bool.not_eq_false', Bool.and_eq_true, Bool.or_eq_true, Bool.and_eq_false_iff, Bool.or_eq_false_iff, Bool.not_true, Bool.not_false] at h9
        refine s_exit_to rfl ?_
        refine s_seq ?_
        refine s_region ?_
        refine o_p (p_pure rfl) rfl ?_
        refine o_p (p_pure rfl) rfl ?_
        refine o_nil ?_
        exact s_retv (rs := [.tmp 6]) rfl (.tmp rfl (.nil)) (fun w' h' => ⟨kk, rfl, fun x => by rw [hk2, hds_take hpl, hk, ep]; simp only [LFil.pl, List.map_map]; obtain rfl : k = (nth L i).op.length := (by omega); rw [List.take_length]; rfl, h'.ent (by repeat (first | exact .nil | refine .cons (by repeat (first | exact .here | apply Pick.there)) ?_))⟩)

set_option maxRecDepth 20000 in
theorem d53 (w : World) (bt bv bc r : Nat) (next : Int) (ks0 : List Int) (a : Option Addr) (cap : Nat) (L : List LFil) (hw : HS w (fps [.mp r KI ks0]) [.mp r KI ks0] w) (ht1 : Rd w (fps [.mp r KI ks0]) bt 1 (.slice a L.length cap)) (hv0 : Rd w (fps [.mp r KI ks0]) bv 0 (.pointer (some ⟨bc, 0, none⟩))) (hb0 : Rd w (fps [.mp r KI ks0]) bc 0 (.int .i64 next)) (hb1 : Rd w (fps [.mp r KI ks0]) bc 1 (.map (some r))) (hs : Ft w (fps [.mp r KI ks0]) a L) (hm : L.length ≤ 500) (hmo : ∀ f ∈ L, f.op.length ≤ 500) (hn : 1 ≤ next ∧ next ≤ 2147483647) (hk0 : ks0 = []) : Calls Try.prog 53 #[.slice a L.length cap, .func (.func 54) #[] #[.pointer (some ⟨bt, 0, none⟩), .pointer (some ⟨bv, 0, none⟩)]] w fun en w' => ∃ g : List Int, en = .returned (.tuple #[.int .i64 (eachF (filEs next (pls L)) 0).1, .int .i64 (eachF (filEs next (pls L)) 0).2]) ∧ True ∧ HS w (fps [.mp r KI ks0]) [.mp r KI g] w' := by
  have hlen : (filEs next (pls L)).length = L.length := by simp [filEs]
  refine enter (args := [_, _]) Try.func53 Try.ntmps53 rfl rfl hw ?_
  refine s_seq ?_
  refine s_region ?_
  refine o_p (p_pure rfl) rfl ?_
  refine o_p (p_pure rfl) rfl ?_
  refine o_nil ?_
  refine s_seq ?_
  refine s_seq ?_
  refine s_region ?_
  refine o_p (p_pure rfl) rfl ?_
  first | refine o_p (p_len_slice rfl rfl Try.underlying24) rfl ?_ | refine o_q (q_len_own rfl rfl Try.underlying24 (by repeat (first | exact .here | apply Pick.there))) rfl ?_
  refine o_p (p_pure rfl) rfl ?_
  refine o_nil ?_
  refine s_block ?_
  refine s_loopI (α := Nat × List Int) [4, 5, 6, 7, 8, 11, 12, 13, 14, 15, 16, 17, 18, 19, 20, 21, 22, 23, 24] (fun y => [(11, .int .i64 (y.1 : Int))]) (fun y => HS w (fps [.mp r KI ks0]) [.mp r KI y.2]) (fun y => y.1 ≤ L.length ∧ eachF (filEs next (pls L)) 0 = eachF ((filEs next (pls L)).drop y.1) y.1 ∧ ∀ x, x ∈ y.2 ↔ x ∈ hds ((pls L).take y.1)) (fun y => L.length - y.1) (0, ks0) ⟨by simp, rfl, by simp [hk0, hds]⟩ (by repeat (first | exact sl_n | refine sl_c rfl ?_)) (fun w h => h.ent (by repeat (first | exact .nil | refine .cons (by repeat (first | exact .here | apply Pick.there)) ?_))) (fun ⟨k, ks⟩ hy => ?_)
  dsimp only
  simp only [] at hy
  obtain ⟨hk1, hk2, hk3⟩ := hy
  refine s_seq ?_
  refine s_region ?_
  refine o_p (p_pure rfl) rfl ?_
  refine o_nil ?_
  refine s_seq ?_
  refine s_cond rfl (fun h1 => ?_) (fun h1 => ?_)
  · try simp only [decide_eq_true_eq, decide_eq_false_iff_not, Bool.not_eq_true', Bool.not_eq_false', Bool.and_eq_true, Bool.or_eq_true, Bool.and_eq_false_iff, Bool.or_eq_false_iff, Bool.not_true, Bool.not_false] at h1
    refine s_skip ?_
    refine s_seq ?_
    refine s_block ?_
    refine s_seq ?_
    refine s_region ?_
    refine o_p (p_pure rfl) rfl ?_
    first | refine o_p (p_indexAddr rfl rfl rfl sl_24 (k) (by omega) (by omega) rfl) rfl ?_ | refine o_p (p_indexAddr rfl rfl rfl sl_24 (k) (by omega) (by omega) (Rw.some hs.1 (by omega))) rfl ?_
    first | refine o_q (q_loadn rfl rfl sz_77 (by repeat (first | exact .here | apply Pick.there)) rfl) rfl ?_ | refine o_q (q_load_oldn _ rfl rfl sz_77 rfl (Rw.rd hs.1 (i := k) (by omega))) rfl ?_
    refine o_h (h_alloc rfl zr_77) rfl (fun b2 _ => ?_)
    refine o_p (p_pure rfl) rfl ?_
    refine o_h0 (h_store rfl rfl rfl sz_77 rfl (by repeat (first | exact .here | apply Put.there)) (by simp only [setMany_length, List.length_set, List.length_cons, List.length_nil, List.length_map]; omega) rfl) (fun _ _ => ?_)
    refine o_nil ?_
    refine s_seq ?_
    refine s_region ?_
    refine o_p (p_pure rfl) rfl ?_
    refine o_p (p_pure rfl) rfl ?_
    first | refine o_q (q_loadn rfl rfl sz_77 (by repeat (first | exact .here | apply Pick.there)) rfl) rfl ?_ | refine o_q (q_load_oldn _ rfl rfl sz_77 rfl (Rw.rd hs.1 (i := k) (by omega))) rfl ?_
    refine o_h (h_callvF (Cs := [.mp r KI ks]) rfl rfl fn_54 rfl (by repeat (first | exact Picks.nil | (apply Picks.cons; · (repeat (first | exact .here | apply Pick.there))))) (fun w1 h1 hf => c54 w1 bt bv bc r next ks a cap L k hf ((h1.ent (Bs := [.mp r KI ks]) (by repeat (first | exact .nil | refine .cons (by repeat (first | exact .here | apply Pick.there)) ?_))).keep ht1) ((h1.ent (Bs := [.mp r KI ks]) (by repeat (first | exact .nil | refine .cons (by repeat (first | exact .here | apply Pick.there)) ?_))).keep hv0) ((h1.ent (Bs := [.mp r KI ks]) (by repeat (first | exact .nil | refine .cons (by repeat (first | exact .here | apply Pick.there)) ?_))).keep hb0) ((h1.ent (Bs := [.mp r KI ks]) (by repeat (first | exact .nil | refine .cons (by repeat (first | exact .here | apply Pick.there)) ?_))).keep hb1) (hs.keep (h1.ent (Bs := [.mp r KI ks]) (by repeat (first | exact .nil | refine .cons (by repeat (first | exact .here | apply Pick.there)) ?_)))) (by omega) hm hmo hn hk3)) rfl (fun b3 hg => ?_)
    refine o_p (p_pure rfl) rfl ?_
    refine o_nil ?_
    refine s_seq ?_
    refine s_region ?_
    refine o_p (p_pure rfl) rfl ?_
    refine o_p (p_pure rfl) rfl ?_
    refine o_nil ?_
    refine s_cond rfl (fun h4 => ?_) (fun h4 => ?_)
    · try simp only [decide_eq_true_eq, decide_eq_false_iff_not, Bool.not_eq_true', Bool.not_eq_false', Bool.and_eq_true, Bool.or_eq_true, Bool.and_eq_false_iff, Bool.or_eq_false_iff, Bool.not_true, Bool.not_false] at h4
      refine s_seq ?_
      refine s_region ?_
      refine o_p (p_pure rfl) rfl ?_
      refine o_p (p_pure rfl) rfl ?_
      refine o_p (p_pure rfl) rfl ?_
      refine o_p (p_pure rfl) rfl ?_
      refine o_nil ?_
      exact s_retv (rs := [.tmp 4, .tmp 5]) rfl (.tmp rfl (.tmp rfl (.nil))) (fun w' h' => ⟨b3, by rw [hk2, eachF_drop (by omega), if_neg (by rw [filEs_get (by simp; omega)]; exact h4), filEs_get (by simp; omega)]; rfl, trivial, h'.ent (by repeat (first | exact .nil | refine .cons (by repeat (first | exact .here | apply Pick.there)) ?_))⟩)
    · try simp only [decide_eq_true_eq, decide_eq_false_iff_not, Bool.not_eq_true', Bool.not_eq_false', Bool.and_eq_true, Bool.or_eq_true, Bool.and_eq_false_iff, Bool.or_eq_false_iff, Bool.not_true, Bool.not_false] at h4
      refine s_skip ?_
      refine s_blk ?_
      refine s_region ?_
      refine o_p (p_pure rfl) rfl ?_
      try (refine o_slot (i64w (by omega) (by omega)) ?_)
      refine o_p (p_pure rfl) rfl ?_
      refine o_nil ?_
      exact s_backI (k + 1, b3) (by (try simp only []); omega) ⟨by (try simp only []); omega, by rw [hk2, eachF_drop (by omega), if_pos (by rw [filEs_get (by simp; omega)]; exact h4)], hg⟩ (by repeat (first | exact sl_n | refine sl_c rfl ?_)) (fun w h => h.ent (by repeat (first | exact .nil | refine .cons (by repeat (first | exact .here | apply Pick.there)) ?_)))
  · try simp only [decide_eq_true_eq, decide_eq_false_iff_not, Bool.not_eq_true', Bool.not_eq_false', Bool.and_eq_true, Bool.or_eq_true, Bool.and_eq_false_iff, Bool.or_eq_false_iff, Bool.not_true, Bool.not_false] at h1
    refine s_exit_to rfl ?_
    refine s_seq ?_
    refine s_region ?_
    refine o_p (p_pure rfl) rfl ?_
    refine o_p (p_pure rfl) rfl ?_
    refine o_nil ?_
    exact s_retv (rs := [.tmp 4, .tmp 5]) rfl (.tmp rfl (.tmp rfl (.nil))) (fun w' h' => ⟨ks, by rw [hk2, eachF_end (by omega)]; rfl, trivial, h'.ent (by repeat (first | exact .nil | refine .cons (by repeat (first | exact .here | apply Pick.there)) ?_))⟩)

set_option maxRecDepth 20000 in
theorem c18 (w : World) (next : Int) (a : Option Addr) (cap : Nat) (L : List LFil) (hs : Ft w [] a L) (hm : L.length ≤ 1000) (hmo : ∀ f ∈ L, f.op.length ≤ 1000) : Calls Try.prog 18 #[.agg #[.int .i64 next, .slice a L.length cap]] w fun en w' => en = .returned (.tuple #[.int .i64 (chkT next (pls L)).1, .int .i64 (chkT next (pls L)).2]) ∧ Below w.heap.size w w' := by
  have hcl := cntT_le hmo L.length (Nat.le_refl _)
  have hpl : (pls L).length = L.length := by simp
  refine enter (args := [_]) Try.func18 Try.ntmps18 rfl rfl (HS.refl w []) ?_
  refine s_seq ?_
  refine s_region ?_
  refine o_h (h_box rfl rfl) rfl (fun b1 _ => ?_)
  refine o_p (p_pure rfl) rfl ?_
  refine o_p (p_pure rfl) rfl ?_
  refine o_nil ?_
  refine s_seq ?_
  refine s_region ?_
  refine o_p (p_pure rfl) rfl ?_
  refine o_nil ?_
  refine s_seq ?_
  refine s_seq ?_
  refine s_region ?_
  refine o_p (p_fieldAddr rfl rfl fd_26_1 sz_24 rfl) rfl ?_
  first | refine o_q (q_load rfl rfl sz_24 (by repeat (first | exact .here | apply Pick.there)) rfl) rfl ?_ | refine o_q (q_load_old rfl rfl sz_24 (rfl (Rw.rd hs.1 (i := k) (by omega)))) rfl ?_
  first | refine o_p (p_len_slice rfl rfl Try.underlying24) rfl ?_ | refine o_q (q_len_own rfl rfl Try.underlying24 (by repeat (first | exact .here | apply Pick.there))) rfl ?_
  refine o_p (p_pure rfl) rfl ?_
  refine o_nil ?_
  refine s_block ?_
  refine s_loopI (α := Nat) [4, 6, 12, 13, 14, 15, 16, 17, 18, 19, 20, 21] (fun k => [(12, .int .i64 (k : Int)), (4, .int .i64 (cntT (pls (L.take k)) : Int))]) (fun _ => HS w [] [.blk b1 26 2 [.int .i64 next, .slice a L.length cap]]) (fun k => k ≤ L.length) (fun k => L.length - k) 0 (by simp) (sl_c rfl (sl_c (congrArg (fun e => some (Value.int .i64 e)) (by simp [cntT, pls])) (by repeat (first | exact sl_n | refine sl_c rfl ?_)))) (fun w h => h.ent (by repeat (first | exact .nil | refine .cons (by repeat (first | exact .here | apply Pick.there)) ?_))) (fun k hk => ?_)
  have hck := cntT_le hmo k hk
  refine s_seq ?_
  refine s_region ?_
  refine o_p (p_pure rfl) rfl ?_
  refine o_nil ?_
  refine s_seq ?_
  refine s_cond rfl (fun h2 => ?_) (fun h2 => ?_)
  · try simp only [decide_eq_true_eq, decide_eq_false_iff_not, Bool.not_eq_true', Bool.not_eq_false', Bool.and_eq_true, Bool.or_eq_true, Bool.and_eq_false_iff, Bool.or_eq_false_iff, Bool.not_true, Bool.not_false] at h2
    have hmk := hmo _ (mem_nth (show k < L.length by omega))
    refine s_skip ?_
    refine s_seq ?_
    refine s_block ?_
    refine s_seq ?_
    refine s_region ?_
    first | refine o_p (p_indexAddr rfl rfl rfl sl_24 (k) (by omega) (by omega) rfl) rfl ?_ | refine o_p (p_indexAddr rfl rfl rfl sl_24 (k) (by omega) (by omega) (Rw.some hs.1 (by omega))) rfl ?_
    first | refine o_q (q_loadn rfl rfl sz_77 (by repeat (first | exact .here | apply Pick.there)) rfl) rfl ?_ | refine o_q (q_load_oldn _ rfl rfl sz_77 rfl (Rw.rd hs.1 (i := k) (by omega))) rfl ?_
    refine o_h (h_alloc rfl zr_77) rfl (fun b3 _ => ?_)
    refine o_h0 (h_store rfl rfl rfl sz_77 rfl (by repeat (first | exact .here | apply Put.there)) (by simp only [setMany_length, List.length_set, List.length_cons, List.length_nil, List.length_map]; omega) rfl) (fun _ _ => ?_)
    refine o_nil ?_
    refine s_region ?_
    refine o_p (p_pure rfl) rfl ?_
    refine o_p (p_fieldAddr rfl rfl fd_77_2 sz_75 rfl) rfl ?_
    first | refine o_q (q_load rfl rfl sz_75 (by repeat (first | exact .here | apply Pick.there)) rfl) rfl ?_ | refine o_q (q_load_old rfl rfl sz_75 (rfl (Rw.rd hs.1 (i := k) (by omega)))) rfl ?_
    first | refine o_p (p_len_slice rfl rfl Try.underlying75) rfl ?_ | refine o_q (q_len_own rfl rfl Try.underlying75 (by repeat (first | exact .here | apply Pick.there))) rfl ?_
    refine o_p (p_pure rfl) rfl ?_
    try (refine o_slot (i64w (by omega) (by omega)) ?_)
    refine o_p (p_pure rfl) rfl ?_
    refine o_nil ?_
    refine s_blk ?_
    refine s_region ?_
    refine o_p (p_pure rfl) rfl ?_
    try (refine o_slot (i64w (by omega) (by omega)) ?_)
    refine o_p (p_pure rfl) rfl ?_
    refine o_nil ?_
    exact s_backI (k + 1) (by omega) (by omega) (sl_c rfl (sl_c (congrArg (fun e => some (Value.int .i64 e)) (by rw [cntT_succ (by omega)]; omega)) (by repeat (first | exact sl_n | refine sl_c rfl ?_)))) (fun w h => h.ent (by repeat (first | exact .nil | refine .cons (by repeat (first | exact .here | apply Pick.there)) ?_)))
  · try simp only [decide_eq_true_eq, decide_eq_false_iff_not, Bool.not_eq_true', Bool.not_eq_false', Bool.and_eq_true, Bool.or_eq_true, Bool.and_eq_false_iff, Bool.or_eq_false_iff, Bool.not_true, Bool.not_false] at h2
    obtain rfl : k = L.length := by omega
    rw [List.take_length] at *
    refine s_exit_to rfl ?_
    refine s_seq ?_
    refine s_seq ?_
    refine s_draw [] mixed ?_
    refine d_p 0 rfl (p_fieldAddr rfl rfl fd_26_0 sz_3 rfl) (by kernel_rfl) rfl rfl ?_
    first | refine d_q 1 [] rfl (q_load rfl rfl sz_3 (by repeat (first | exact .here | apply Pick.there)) rfl) (by kernel_rfl) (by kernel_rfl) (by kernel_rfl) rfl ?_ | refine d_q 1 [] rfl (q_load_old rfl rfl sz_3 (rfl (Rw.rd hs.1 (i := k) (by omega)))) (by kernel_rfl) (by kernel_rfl) (by kernel_rfl) rfl ?_
    refine d_q 2 [] rfl (q_call rfl fn_49 rfl (fun w1 h1 => c49 w1 _ _ _)) (by kernel_rfl) (by kernel_rfl) (by kernel_rfl) rfl ?_
    refine d_q 3 [] rfl (q_call rfl fn_48 rfl (fun w1 h1 => c48 w1 _ _)) (by kernel_rfl) (by kernel_rfl) (by kernel_rfl) rfl ?_
    refine d_p 4 rfl (p_pure rfl) (by kernel_rfl) rfl rfl ?_
    refine d_p 5 rfl (p_fieldAddr rfl rfl fd_26_1 sz_24 rfl) (by kernel_rfl) rfl rfl ?_
    first | refine d_q 6 [] rfl (q_load rfl rfl sz_24 (by repeat (first | exact .here | apply Pick.there)) rfl) (by kernel_rfl) (by kernel_rfl) (by kernel_rfl) rfl ?_ | refine d_q 6 [] rfl (q_load_old rfl rfl sz_24 (rfl (Rw.rd hs.1 (i := k) (by omega)))) (by kernel_rfl) (by kernel_rfl) (by kernel_rfl) rfl ?_
    first | refine d_p 7 rfl (p_len_slice rfl rfl Try.underlying24) (by kernel_rfl) rfl rfl ?_ | refine d_q 7 [] rfl (q_len_own rfl rfl Try.underlying24 (by repeat (first | exact .here | apply Pick.there))) (by kernel_rfl) (by kernel_rfl) (by kernel_rfl) rfl ?_
    refine d_p 8 rfl (p_max2 rfl rfl rfl ) (by kernel_rfl) rfl rfl ?_
    refine d_p 9 rfl (p_pure rfl) (by kernel_rfl) rfl rfl ?_
    refine d_q 10 [] rfl (q_call rfl fn_48 rfl (fun w1 h1 => c48 w1 _ _)) (by kernel_rfl) (by kernel_rfl) (by kernel_rfl) rfl ?_
    refine d_h 11 rfl (h_buildSlice (cs := [_, _]) rfl rfl sl_146 zr_28 rfl rfl rfl) (by kernel_rfl) (fun w h => h.ent (by repeat (first | exact .nil | refine .cons (by repeat (first | exact .here | apply Pick.there)) ?_))) rfl (fun b4 _ => ?_)
    refine d_base (fun w h => h.ent (by repeat (first | exact .nil | refine .cons (by repeat (first | exact .here | apply Pick.there)) ?_))) ?_
    refine d_q 12 [] rfl (q_call rfl fn_52 rfl (fun w1 h1 => f52 h1 (by repeat (first | exact .here | apply Pick.there)) (by rfl) (by rfl) (by decide))) (by kernel_rfl) (by kernel_rfl) (by kernel_rfl) rfl ?_
    refine d_p 13 rfl (p_pure rfl) (by kernel_rfl) rfl rfl ?_
    refine d_nil (by kernel_rfl) (fun w h => h.ent (by repeat (first | exact .nil | refine .cons (by repeat (first | exact .here | apply Pick.there)) ?_))) ?_
    refine s_seq ?_
    refine s_region ?_
    refine o_p (p_pure rfl) rfl ?_
    refine o_p (p_pure rfl) rfl ?_
    refine o_nil ?_
    refine s_cond rfl (fun h5 => ?_) (fun h5 => ?_)
    · try simp only [decide_eq_true_eq, decide_eq_false_iff_not, Bool.not_eq_true', Bool.not_eq_false', Bool.and_eq_true, Bool.or_eq_true, Bool.and_eq_false_iff, Bool.or_eq_false_iff, Bool.not_true, Bool.not_false] at h5
      refine s_seq ?_
      refine s_region ?_
      refine o_p (p_pure rfl) rfl ?_
      refine o_p (p_pure rfl) rfl ?_
      refine o_p (p_pure rfl) rfl ?_
      refine o_nil ?_
      exact s_retv (rs := [.tmp 2, .tmp 3]) rfl (.tmp rfl (.tmp rfl (.nil))) (fun w' h' => ⟨by unfold chkT; have hq := h5; have hf9 := chk_first (next := next) (L := pls L); rw [hpl] at hf9 ⊢; rw [hf9] at hq ⊢; simp only [retV]; grind, h'.below⟩)
    · try simp only [decide_eq_true_eq, decide_eq_false_iff_not, Bool.not_eq_true', Bool.not_eq_false', Bool.and_eq_true, Bool.or_eq_true, Bool.and_eq_false_iff, Bool.or_eq_false_iff, Bool.not_true, Bool.not_false] at h5
      have hc2 : (1 ≤ next ∧ next ≤ 2147483647) ∧ L.length ≤ 32 ∧ cntT (pls L) ≤ 32 := by have hq := h5; have hf9 := chk_first (next := next) (L := pls L); rw [hpl] at hf9; rw [hf9] at hq; grind
      have hm3 : ∀ f ∈ L, f.op.length ≤ 500 := fun f hf => by have h9 := cntT_mem (List.mem_map.2 ⟨f, hf, rfl⟩ : f.pl ∈ pls L); simp only [LFil.pl, List.length_map] at h9; have h8 : cntT (L.map LFil.pl) ≤ 32 := hc2.2.2; omega
      refine s_skip ?_
      refine s_seq ?_
      refine s_region ?_
      refine o_p (p_fieldAddr rfl rfl fd_26_0 sz_3 rfl) rfl ?_
      first | refine o_q (q_load rfl rfl sz_3 (by repeat (first | exact .here | apply Pick.there)) rfl) rfl ?_ | refine o_q (q_load_old rfl rfl sz_3 (rfl (Rw.rd hs.1 (i := k) (by omega)))) rfl ?_
      refine o_h (h_makeMap rfl KI) rfl (fun b6 _ => ?_)
      refine o_p (p_build (cs := [_, _]) rfl rfl pl_114 zr_114 rfl) rfl ?_
      refine o_h (h_box rfl rfl) rfl (fun b7 _ => ?_)
      refine o_h (h_alloc rfl zr_111) rfl (fun b8 _ => ?_)
      refine o_h0 (h_store rfl rfl rfl sz_111 rfl (by repeat (first | exact .here | apply Put.there)) (by simp only [setMany_length, List.length_set, List.length_cons, List.length_nil, List.length_map]; omega) rfl) (fun _ _ => ?_)
      refine o_nil ?_
      refine s_seq ?_
      refine s_weaken (L' := [(0, _), (1, _), (2, _), (3, _), (4, _), (8, _), (9, _), (10, _), (11, _), (12, _)]) (by repeat (first | exact sl_n | refine sl_c rfl ?_)) (fun _ h => h) ?_
      refine s_region ?_
      refine o_p (p_fieldAddr rfl rfl fd_26_1 sz_24 rfl) rfl ?_
      first | refine o_q (q_load rfl rfl sz_24 (by repeat (first | exact .here | apply Pick.there)) rfl) rfl ?_ | refine o_q (q_load_old rfl rfl sz_24 (rfl (Rw.rd hs.1 (i := k) (by omega)))) rfl ?_
      refine o_p (p_pure rfl) rfl ?_
      refine o_h (h_callF (Cs := [.mp b6 KI []]) rfl fn_53 rfl (by repeat (first | exact Picks.nil | (apply Picks.cons; · (repeat (first | exact .here | apply Pick.there))))) (fun w1 h1 hf => d53 w1 b1 b8 b7 b6 next [] a cap L hf ((h1.ent (Bs := [.blk b1 26 2 [.int .i64 next, .slice a L.length cap], .mp b6 KI []]) (by repeat (first | exact .nil | refine .cons (by repeat (first | exact .here | apply Pick.there)) ?_))).rd_beside rfl) ((h1.ent (Bs := [.blk b8 111 1 [.pointer (some ⟨b7, 0, none⟩)], .mp b6 KI []]) (by repeat (first | exact .nil | refine .cons (by repeat (first | exact .here | apply Pick.there)) ?_))).rd_beside rfl) ((h1.ent (Bs := [.blk b7 114 2 [.int .i64 next, .map (some b6)], .mp b6 KI []]) (by repeat (first | exact .nil | refine .cons (by repeat (first | exact .here | apply Pick.there)) ?_))).rd_beside rfl) ((h1.ent (Bs := [.blk b7 114 2 [.int .i64 next, .map (some b6)], .mp b6 KI []]) (by repeat (first | exact .nil | refine .cons (by repeat (first | exact .here | apply Pick.there)) ?_))).rd_beside rfl) (hs.keep (h1.ent (Bs := [.mp b6 KI []]) (by repeat (first | exact .nil | refine .cons (by repeat (first | exact .here | apply Pick.there)) ?_)))) (by omega) hm3 hc2.1 rfl)) rfl (fun gk _ => ?_)
      refine o_p (p_pure rfl) rfl ?_
      refine o_p (p_pure rfl) rfl ?_
      refine o_p (p_pure rfl) rfl ?_
      refine o_p (p_pure rfl) rfl ?_
      refine o_nil ?_
      exact s_retv (rs := [.tmp 2, .tmp 3]) rfl (.tmp rfl (.tmp rfl (.nil))) (fun w' h' => ⟨by unfold chkT; rw [hpl, if_pos hc2.1, if_pos hc2.2]; unfold filEs; rw [hpl]; rfl, h'.below⟩)

end Go.Proofs
