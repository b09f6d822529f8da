/- Contracts of the program's functions, proved by walking them with the rules of the Gx texts; without conditions beyond those that each contract names. -/
import Derived.WalkKit
import Derived.Deep.Draws
import Derived.Lib.Strings
import Derived.Laws.BytesArg
import Derived.Laws.IdiomStrings
import Derived.Deep.Quiet
import Derived.Laws.StructEq
import Derived.ChangeKeysEq
import Derived.Laws.Externs
import Derived.Lib.Overlaps
import Derived.Carry
import Derived.Laws.Small
import Derived.Test.YtgdigngojonbhaaProg
import Derived.KernelRfl
import Derived.ProofKit
import Derived.OpenShut
import Derived.Test.YtgdigngojonbhaaP3
namespace Go.Proofs
open Go Go.RowKit Gx
set_option linter.unusedVariables false
set_option linter.unusedSimpArgs false
attribute [local irreducible] Go.Calls Gx.S Gx.O Gx.D Gx.OpP Gx.OpQ Gx.OpH



theorem ix_eq {l : List Lock} {fr cnt : Int} {n : Nat} (hn : n < l.length) (h : ∀ m, m < n → eqK fr cnt (nth l m) = false) (h2 : eqK fr cnt (nth l n) = true) : ixB (l.map (eqK fr cnt)) = n := by
  refine ixB_eq (by simp; omega) (fun i hi => ?_) (fun _ => ?_)
  · rw [List.getD_eq_getElem?_getD, List.getElem?_map, nth_get (show i < l.length by omega)]
    exact h i hi
  · rw [List.getD_eq_getElem?_getD, List.getElem?_map, nth_get hn]
    exact h2
theorem ix_no {l : List Lock} {fr cnt : Int} (h : ∀ m, m < l.length → eqK fr cnt (nth l m) = false) : ixB (l.map (eqK fr cnt)) = l.length := by
  refine ixB_eq (by simp) (fun i hi => ?_) (fun hl => absurd hl (by simp))
  rw [List.getD_eq_getElem?_getD, List.getElem?_map, nth_get hi]
  exact h i hi
theorem unlockT_2 {L : List LFil} {h fr cnt : Int} {i k n : Nat} (hi : i < L.length) (hk : k < (nth L i).op.length) (hfe : findF (pls L) h 0 = (i, k, 0)) (h2 : rngE fr cnt = 0) (hx : ixB ((nth (nth L i).op k).lk.map (eqK fr cnt)) = n) (hn : n < (nth (nth L i).op k).lk.length) : unlockT (pls L) h fr cnt = (updO (pls L) i k fun o => { o with lk := others o.lk (ixB (o.lk.map (eqK fr cnt))) }, 0) := by
  have e : (nth (nth (pls L) i).op k).lk = (nth (nth L i).op k).lk := by rw [nth_pls hi, LFil.pl, nth_plo hk]; rfl
  rw [unlockT_l hfe h2, e, hx, if_pos hn]
theorem unlockT_3 {L : List LFil} {h fr cnt : Int} {i k : Nat} (hi : i < L.length) (hk : k < (nth L i).op.length) (hfe : findF (pls L) h 0 = (i, k, 0)) (h2 : rngE fr cnt = 0) (hx : ixB ((nth (nth L i).op k).lk.map (eqK fr cnt)) = (nth (nth L i).op k).lk.length) : unlockT (pls L) h fr cnt = (pls L, 6) := by
  have e : (nth (nth (pls L) i).op k).lk = (nth (nth L i).op k).lk := by rw [nth_pls hi, LFil.pl, nth_plo hk]; rfl
  rw [unlockT_l hfe h2, e, hx, if_neg (Nat.lt_irrefl _)]
theorem cut_others {l : List Lock} {n : Nat} (hn : n < l.length) : n + (l.length - (n + 1)) = (others l n).length ∧ cut (l.flatMap Lock.vals) 0 (n * 3) ++ cut (l.flatMap Lock.vals) ((n + 1) * 3) ((l.length - (n + 1)) * 3) = (others l n).flatMap Lock.vals := by
  refine ⟨?_, ?_⟩
  · rw [others, List.length_append, List.length_take, List.length_drop]
    omega
  · rw [← others_flat lv3, cut, cut, List.drop_zero]
    congr 1
    exact List.take_of_length_le (by rw [List.length_drop, flat_length lv3]; omega)
theorem lk_blk {w0 w : World} {M : List Nat} {As As' : List HA} {a : Option Addr} {cap g : Nat} {l : List Lock} (ha : a = some ⟨g, 0, none⟩) (hn : 0 < l.length) (h : HS w0 M As w) (hp : Pick As (.locks a cap l) As') : HS w0 M (.blk g 62 (cap * 3) (l.flatMap Lock.vals) :: As') w := by
  subst ha
  exact own_to_blk hn h hp
theorem locks_to {w0 w : World} {M : List Nat} {As As' : List HA} {a : Option Addr} {cap n : Nat} {l : List Lock} {xs : List Value} (h : HS w0 M As w) (hp : Pick As (.own (.slice a n cap) 62 3 n xs) As') (hn : n = l.length) (hx : xs = l.flatMap Lock.vals) : HS w0 M (.locks a cap l :: As') w := by
  subst hn hx
  exact h.pick hp

set_option maxRecDepth 20000 in
set_option maxHeartbeats 1000000 in
theorem c27 (w : World) (next : Int) (a : Option Addr) (cap : Nat) (L : List LFil) (h fr cnt : Int) (hs : Ft w [] a L) (hm : L.length ≤ 1000) (hmo : ∀ f ∈ L, f.op.length ≤ 1000) (hml : ∀ f ∈ L, ∀ o ∈ f.op, o.lk.length ≤ 1000) : Calls Try.prog 27 #[.agg #[.int .i64 next, .slice a L.length cap], .int .i64 h, .int .i64 fr, .int .i64 cnt] w fun en w' => ∃ g : (Option Addr × Nat) × List LFil, en = .returned (.tuple #[.agg #[.int .i64 (afT next (pls L) (unlockT (pls L) h fr cnt)).1.2, .slice g.1.1 g.2.length g.1.2], .int .i64 (afT next (pls L) (unlockT (pls L) h fr cnt)).2]) ∧ pls g.2 = (afT next (pls L) (unlockT (pls L) h fr cnt)).1.1 ∧ HS w [] [.files g.1.1 g.1.2 g.2] w' := by
  refine enter (args := [_, _, _, _]) Try.func27 Try.ntmps27 rfl rfl (HS.refl w []) ?_
  refine s_seq ?_
  refine s_region ?_
  refine o_h (h_box rfl rfl) rfl (fun b1 _ => ?_)
  refine o_h (h_alloc rfl zr_26) rfl (fun b2 _ => ?_)
  refine o_p (p_pure rfl) rfl ?_
  refine o_nil ?_
  refine s_seq ?_
  refine s_seq ?_
  refine s_region ?_
  refine o_q (q_loadn rfl rfl sz_26 aPk rfl) rfl ?_
  refine o_p (p_pure rfl) rfl ?_
  refine o_q (q_call rfl fn_68 rfl (fun w1 h1 => c68 w1 next a cap L h (hs.later h1) hm hmo)) rfl ?_
  refine o_p (p_pure rfl) rfl ?_
  refine o_nil ?_
  refine s_seq ?_
  refine s_region ?_
  refine o_p (p_pure rfl) rfl ?_
  refine o_p (p_pure rfl) rfl ?_
  refine o_nil ?_
  refine s_cond rfl (fun h3 => ?_) (fun h3 => ?_)
  · try simp only [decide_eq_true_eq, decide_eq_false_iff_not, Bool.not_eq_true', Bool.not_eq_false', Bool.and_eq_true, Bool.or_eq_true, Bool.and_eq_false_iff, Bool.or_eq_false_iff, Bool.not_true, Bool.not_false] at h3
    have hz : ¬ hErr next (pls L) h = 0 := h3
    refine s_seq ?_
    refine s_region ?_
    refine o_p (p_build (cs := [_, _]) rfl rfl pl_26 zr_26 rfl) rfl ?_
    refine o_p (p_pure rfl) rfl ?_
    refine o_h0 (h_store rfl rfl rfl sz_26 rfl aPt (by simp only [setMany_length, List.length_set, List.length_cons, List.length_nil, List.length_map]; omega) rfl) (fun _ _ => ?_)
    refine o_p (p_pure rfl) rfl ?_
    refine o_nil ?_
    exact s_retv (rs := [.cell 8 26, .tmp 9]) rfl (.cell rfl sz_26 aPk rfl (.tmp rfl (.nil))) (fun w' h' => by have hR := afT_h (r := (unlockT (pls L) h fr cnt)) hz (fun h9 => unlockT_f h9); exact ⟨((none, 0), []), by rw [hR]; rfl, by rw [hR]; rfl, (HS.files_none h').ent aEt⟩)
  · try simp only [decide_eq_true_eq, decide_eq_false_iff_not, Bool.not_eq_true', Bool.not_eq_false', Bool.and_eq_true, Bool.or_eq_true, Bool.and_eq_false_iff, Bool.or_eq_false_iff, Bool.not_true, Bool.not_false] at h3
    have hz : hErr next (pls L) h = 0 := h3
    obtain ⟨hz1, hz2⟩ := hErr_0 hz
    have hok := chk_ok hz1
    have hV := hok.vw
    obtain ⟨i, k, hfe, hi, hk, hV3⟩ := findF_some hV hz2
    have hfd : fdI (pls L) h = ((i : Int), (k : Int)) := by rw [fdI, hfe]; rfl
    have hoi := hmo _ (mem_nth hi)
    refine s_skip ?_
    refine s_seq ?_
    refine s_seq ?_
    refine s_region ?_
    refine o_p (p_pure rfl) rfl ?_
    refine o_p (p_pure rfl) rfl ?_
    refine o_q (q_call rfl fn_69 rfl (fun w1 h1 => c69 w1 fr cnt)) rfl ?_
    refine o_p (p_pure rfl) rfl ?_
    refine o_nil ?_
    refine s_seq ?_
    refine s_region ?_
    refine o_p (p_pure rfl) rfl ?_
    refine o_p (p_pure rfl) rfl ?_
    refine o_nil ?_
    refine s_cond rfl (fun h4 => ?_) (fun h4 => ?_)
    · try simp only [decide_eq_true_eq, decide_eq_false_iff_not, Bool.not_eq_true', Bool.not_eq_false', Bool.and_eq_true, Bool.or_eq_true, Bool.and_eq_false_iff, Bool.or_eq_false_iff, Bool.not_true, Bool.not_false] at h4
      have hrg : ¬ rngE fr cnt = 0 := h4
      have hut := unlockT_r hz2 hrg
      refine s_seq ?_
      refine s_region ?_
      refine o_p (p_build (cs := [_, _]) rfl rfl pl_26 zr_26 rfl) rfl ?_
      refine o_p (p_pure rfl) rfl ?_
      refine o_h0 (h_store rfl rfl rfl sz_26 rfl aPt (by simp only [setMany_length, List.length_set, List.length_cons, List.length_nil, List.length_map]; omega) rfl) (fun _ _ => ?_)
      refine o_p (p_pure rfl) rfl ?_
      refine o_nil ?_
      exact s_retv (rs := [.cell 8 26, .tmp 9]) rfl (.cell rfl sz_26 aPk rfl (.tmp rfl (.nil))) (fun w' h' => by have hR := afT_e (r := (unlockT (pls L) h fr cnt)) hz1 (by rw [hut]; show ¬ (rngE fr cnt : Int) = 0; exact hrg); exact ⟨((none, 0), []), by rw [hR, hut]; rfl, by rw [hR, hut]; rfl, (HS.files_none h').ent aEt⟩)
    · try simp only [decide_eq_true_eq, decide_eq_false_iff_not, Bool.not_eq_true', Bool.not_eq_false', Bool.and_eq_true, Bool.or_eq_true, Bool.and_eq_false_iff, Bool.or_eq_false_iff, Bool.not_true, Bool.not_false] at h4
      have hrg : rngE fr cnt = 0 := h4
      have hl32 := (VW.lens hV).2 _ (mem_nth hi)
      refine s_skip ?_
      refine s_seq ?_
      refine s_region ?_
      refine o_q (q_loadn rfl rfl sz_26 aPk rfl) rfl ?_
      refine o_p (p_pure rfl) rfl ?_
      refine o_q (q_call rfl fn_70 rfl (fun w1 h1 => c70 w1 next a cap L h (hs.later h1) hm hmo)) rfl ?_
      rw [hfd]
      refine o_p (p_pure rfl) rfl ?_
      refine o_p (p_pure rfl) rfl ?_
      refine o_p (p_pure rfl) rfl ?_
      refine o_p (p_pure rfl) rfl ?_
      refine o_p (p_pure rfl) rfl ?_
      refine o_nil ?_
      refine s_seq ?_
      refine s_region ?_
      refine o_q (q_loadn rfl rfl sz_26 aPk rfl) rfl ?_
      refine o_h (h_call rfl fn_19 rfl (fun w1 h1 => c19 w1 next a cap L (hs.later h1) hm hmo hml)) rfl (fun ⟨⟨ca, cc⟩, N⟩ hgc => ?_)
      dsimp only at hgc ⊢
      obtain ⟨hiN, hpN⟩ := same_nth hgc hi
      obtain ⟨hkN, hoN, hqN⟩ := same_op hpN hk
      have hlN : (nth (nth N i).op k).lk = (nth (nth L i).op k).lk := congrArg Opn.lk hqN
      have hlk16 : (nth (nth N i).op k).lk.length ≤ 16 := by rw [hlN]; exact hV3.2.2
      refine o_h (h_alloc rfl zr_26) rfl (fun b5 _ => ?_)
      refine o_fact (fun w h => files_addr (l := N) (a := ca) (cap := cc) (by omega) h aPk) (fun hga => ?_)
      obtain ⟨ga, rfl, hcap, hcm⟩ := hga
      refine o_fact (fun w h => file_addr (l := N) (i := i) hiN (by omega) h aPk) (fun hgo => ?_)
      obtain ⟨go, hoa, hoc, hom⟩ := hgo
      refine o_class (fun w h => HS.lock_at hiN hkN hoa h aPk) ?_
      refine o_h0 (h_store rfl rfl rfl sz_26 rfl aPt (by simp only [setMany_length, List.length_set, List.length_cons, List.length_nil, List.length_map]; omega) rfl) (fun _ _ => ?_)
      refine o_nil ?_
      refine s_seq ?_
      refine s_weaken (L' := [(2, _), (3, _), (8, _), (9, _), (12, _), (13, _), (14, _)]) aSx (fun _ h => h) ?_
      refine s_region ?_
      refine o_p (p_fieldAddr rfl rfl fd_26_1 sz_24 rfl) rfl ?_
      refine o_q (q_load rfl rfl sz_24 aPk rfl) rfl ?_
      refine o_p (p_pure rfl) rfl ?_
      refine o_p (p_indexAddr rfl rfl rfl sl_24 (i) (by omega) (by omega) rfl) rfl ?_
      refine o_slot (show _ = Value.pointer (some ⟨ga, i * 4, none⟩) from by rw [Nat.zero_add]) ?_
      refine o_p (p_fieldAddr rfl rfl fd_77_2 sz_75 rfl) rfl ?_
      refine o_q (q_load_at rfl rfl sz_75 (fun w h => (h.rd_blk (Mc := []) (b := ga) aPk (by rw [flat_get fv4 _ i 3 _ (nth_get hiN) (by decide)]; rfl) (by simp)))) rfl ?_
      refine o_p (p_pure rfl) rfl ?_
      refine o_p (p_indexAddr rfl rfl rfl sl_75 (k) (by omega) (by omega) hoa) rfl ?_
      refine o_slot (show _ = Value.pointer (some ⟨go, k * 5, none⟩) from by rw [Nat.zero_add]) ?_
      refine o_p (p_fieldAddr rfl rfl fd_48_4 sz_46 rfl) rfl ?_
      refine o_q (q_load_at rfl rfl sz_46 (fun w h => (h.rd_blk (Mc := []) (b := go) aPk (by rw [flat_get ov5 _ k 4 _ (nth_get hkN) (by decide)]; rfl) (by simp)))) rfl ?_
      refine o_p (p_pure rfl) rfl ?_
      refine o_nil ?_
      refine s_seq ?_
      refine s_seq ?_
      refine s_region ?_
      refine o_p (p_pure rfl) rfl ?_
      refine o_nil ?_
      refine s_block ?_
      refine s_weaken (L' := [(2, _), (3, _), (8, _), (9, _), (12, _), (13, _), (14, _), (15, _), (16, _)]) aSx (fun _ h => h) ?_
      refine s_loopI (α := Nat) [9, 16, 49, 50, 51, 52, 53, 54, 55, 56, 57, 58, 59, 60, 61, 62, 63, 64, 65, 66, 67, 68, 69, 70, 71, 72, 73, 74, 75, 76, 77, 78, 79, 80, 81, 82, 83, 84, 85, 86, 87, 88, 89, 90] (fun n => [(16, .int .i64 (n : Int))]) (fun _ => HS w [] [.blk go 48 ((nth N i).oc * 5) ((nth N i).op.flatMap LOpn.vals), .locks (nth (nth N i).op k).la (nth (nth N i).op k).lc (nth (nth N i).op k).lk, .star ((others (nth N i).op k).map subO), .blk ga 77 (cc * 4) (N.flatMap LFil.vals), .star ((others N i).map subF), .blk b5 26 2 [.int .i64 next, .slice (some ⟨ga, 0, none⟩) N.length cc], .blk b1 26 2 [.int .i64 next, .slice a L.length cap], .blk b2 26 2 [.int .i64 0, .slice none 0 0]]) (fun n => n ≤ (nth (nth N i).op k).lk.length ∧ ∀ m, m < n → eqK fr cnt (nth (nth (nth N i).op k).lk m) = false) (fun n => (nth (nth N i).op k).lk.length - n) 0 ⟨Nat.zero_le _, fun m p => absurd p (Nat.not_lt_zero m)⟩ aSx (fun w h => h.ent aEt) (fun n hn => ?_)
      obtain ⟨hn1, hn2⟩ := hn
      refine s_seq ?_
      refine s_seq ?_
      refine s_region ?_
      refine o_p (p_pure rfl) rfl ?_
      refine o_p (p_pure rfl) rfl ?_
      refine o_p (p_len_slice rfl rfl Try.underlying46) rfl ?_
      refine o_p (p_pure rfl) rfl ?_
      refine o_nil ?_
      refine s_cond rfl (fun h6 => ?_) (fun h6 => ?_)
      · try simp only [decide_eq_true_eq, decide_eq_false_iff_not, Bool.not_eq_true', Bool.not_eq_false', Bool.and_eq_true, Bool.or_eq_true, Bool.and_eq_false_iff, Bool.or_eq_false_iff, Bool.not_true, Bool.not_false] at h6
        have hnl : n < (nth (nth N i).op k).lk.length := by omega
        refine s_fact (fun w h => own_addr (a := (nth (nth N i).op k).la) (cap := (nth (nth N i).op k).lc) (xs := (nth (nth N i).op k).lk.flatMap Lock.vals) (sz := 3) (t := 62) (n := (nth (nth N i).op k).lk.length) (by omega) h aPk) (fun hla => ?_)
        obtain ⟨gl, hla, hlc, hlm⟩ := hla
        refine s_skip ?_
        refine s_seq ?_
        refine s_block ?_
        refine s_seq ?_
        refine s_region ?_
        refine o_p (p_pure rfl) rfl ?_
        refine o_p (p_pure rfl) rfl ?_
        refine o_p (p_indexAddr rfl rfl rfl sl_46 (n) (by omega) (by omega) hla) rfl ?_
        refine o_p (p_fieldAddr rfl rfl fd_62_0 sz_3 rfl) rfl ?_
        refine o_q (q_load_at rfl rfl sz_3 (fun w h => by have h9 := Rw.rdj (HS.kt (a := (nth (nth N i).op k).la) (cap := (nth (nth N i).op k).lc) (l := (nth (nth N i).op k).lk) h aPk) 0 hnl rfl; rw [hla] at h9; exact h9)) rfl ?_
        refine o_p (p_pure rfl) rfl ?_
        refine o_p (p_pure rfl) rfl ?_
        refine o_p (p_pure rfl) rfl ?_
        refine o_and 8 62 70 _ _ rfl
          (by
            intro hg7
            have hs8 := hg7; try simp only [decide_eq_true_eq, decide_eq_false_iff_not, Bool.not_eq_true', Bool.not_eq_false', Bool.and_eq_true, Bool.or_eq_true, Bool.and_eq_false_iff, Bool.or_eq_false_iff, Bool.not_true, Bool.not_false] at hs8
            refine o_on 62 _ rfl rfl hg7 ?_
            refine o_p (p_pure rfl) rfl ?_
            refine o_on 62 _ rfl rfl hg7 ?_
            refine o_p (p_pure rfl) rfl ?_
            refine o_on 62 _ rfl rfl hg7 ?_
            refine o_p (p_indexAddr rfl rfl rfl sl_46 (n) (by omega) (by omega) hla) rfl ?_
            refine o_on 62 _ rfl rfl hg7 ?_
            refine o_p (p_fieldAddr rfl rfl fd_62_1 sz_3 rfl) rfl ?_
            refine o_on 62 _ rfl rfl hg7 ?_
            refine o_q (q_load_at rfl rfl sz_3 (fun w h => by have h9 := Rw.rdj (HS.kt (a := (nth (nth N i).op k).la) (cap := (nth (nth N i).op k).lc) (l := (nth (nth N i).op k).lk) h aPk) 1 hnl rfl; rw [hla] at h9; exact h9)) rfl ?_
            refine o_on 62 _ rfl rfl hg7 ?_
            refine o_p (p_pure rfl) rfl ?_
            refine o_on 62 _ rfl rfl hg7 ?_
            refine o_p (p_pure rfl) rfl ?_
            refine o_p (p_pickt rfl rfl hg7 rfl) rfl ?_
            refine o_nil ?_
            exact s_joinN 8 70 _ rfl rfl rfl (fun w h => by first | exact h | exact h.ent aEt))
          (by
            intro hg9
            have hs10 := hg9; try simp only [decide_eq_true_eq, decide_eq_false_iff_not, Bool.not_eq_true', Bool.not_eq_false', Bool.and_eq_true, Bool.or_eq_true, Bool.and_eq_false_iff, Bool.or_eq_false_iff, Bool.not_true, Bool.not_false] at hs10
            refine o_off 62 _ rfl rfl hg9 rfl ?_
            refine o_off 62 _ rfl rfl hg9 rfl ?_
            refine o_off 62 _ rfl rfl hg9 rfl ?_
            refine o_off 62 _ rfl rfl hg9 rfl ?_
            refine o_off 62 _ rfl rfl hg9 rfl ?_
            refine o_off 62 _ rfl rfl hg9 rfl ?_
            refine o_off 62 _ rfl rfl hg9 rfl ?_
            refine o_p (p_pickf rfl rfl hg9 rfl) rfl ?_
            refine o_nil ?_
            exact s_joinN 8 70 _ rfl rfl rfl (fun w h => by first | exact h | exact h.ent aEt)) ?_
        refine o_nil ?_
        refine s_cond rfl (fun h11 => ?_) (fun h11 => ?_)
        · try simp only [decide_eq_true_eq, decide_eq_false_iff_not, Bool.not_eq_true', Bool.not_eq_false', Bool.and_eq_true, Bool.or_eq_true, Bool.and_eq_false_iff, Bool.or_eq_false_iff, Bool.not_true, Bool.not_false] at h11
          have heq : eqK fr cnt (nth (nth (nth N i).op k).lk n) = true := by have hq := h11; unfold eqK; simp at hq ⊢; exact hq
          have hixN := ix_eq hnl hn2 heq
          have hix := hixN
          rw [hlN] at hix
          have hut := unlockT_2 hi hk hfe hrg hix (by rw [← hlN]; exact hnl)
          refine s_class (fun w h => lk_blk (a := (nth (nth N i).op k).la) (cap := (nth (nth N i).op k).lc) (l := (nth (nth N i).op k).lk) hla (by omega) h aPk) ?_
          refine s_seq ?_
          refine s_drawB [.blk go 48 ((nth N i).oc * 5) ((nth N i).op.flatMap LOpn.vals), .blk gl 62 ((nth (nth N i).op k).lc * 3) ((nth (nth N i).op k).lk.flatMap Lock.vals), .star ((others (nth N i).op k).map subO), .blk ga 77 (cc * 4) (N.flatMap LFil.vals), .star ((others N i).map subF), .blk b5 26 2 [.int .i64 next, .slice (some ⟨ga, 0, none⟩) N.length cc], .blk b1 26 2 [.int .i64 next, .slice a L.length cap], .blk b2 26 2 [.int .i64 0, .slice none 0 0]] [19] mixed ?_
          refine d_p 0 rfl (p_fieldAddr rfl rfl fd_26_1 sz_24 rfl) (by kernel_rfl) rfl rfl ?_
          refine d_q 1 [[]] rfl (q_load rfl rfl sz_24 aPk rfl) (by kernel_rfl) (by kernel_rfl) (by kernel_rfl) rfl ?_
          refine d_p 2 rfl (p_pure rfl) (by kernel_rfl) rfl rfl ?_
          refine d_p 3 rfl (p_indexAddr rfl rfl rfl sl_24 (i) (by omega) (by omega) rfl) (by kernel_rfl) rfl rfl ?_
          refine d_slot (show _ = Value.pointer (some ⟨ga, i * 4, none⟩) from by rw [Nat.zero_add]) ?_
          refine d_p 4 rfl (p_fieldAddr rfl rfl fd_77_2 sz_75 rfl) (by kernel_rfl) rfl rfl ?_
          refine d_q 5 [[]] rfl (q_load_at rfl rfl sz_75 (fun w h => (h.rd_blk (Mc := []) (b := ga) aPk (by rw [flat_get fv4 _ i 3 _ (nth_get hiN) (by decide)]; rfl) (by simp)))) (by kernel_rfl) (by kernel_rfl) (by kernel_rfl) rfl ?_
          refine d_p 6 rfl (p_pure rfl) (by kernel_rfl) rfl rfl ?_
          refine d_p 8 rfl (p_pure rfl) (by kernel_rfl) rfl rfl ?_
          refine d_p 9 rfl (p_pure rfl) (by kernel_rfl) rfl rfl ?_
          refine d_p 10 rfl (p_slice _ _ 0 n rfl rfl sl_46 rfl ⟨_, _, rfl, rfl⟩ (by omega) (by omega)) (by kernel_rfl) rfl rfl ?_
          refine d_slot (show _ = Value.slice (some ⟨gl, 0, none⟩) n (nth (nth N i).op k).lc from by rw [hla, subA_zero]; rfl) ?_
          refine d_p 12 rfl (p_pure rfl) (by kernel_rfl) rfl rfl ?_
          refine d_p 13 rfl (p_pure rfl) (by kernel_rfl) rfl rfl ?_
          refine d_p 14 rfl (p_pure rfl) (by kernel_rfl) rfl rfl ?_
          try (refine d_slot (i64w (by omega) (by omega)) ?_)
          refine d_p 15 rfl (p_slice _ _ (n + 1) (nth (nth N i).op k).lk.length rfl rfl sl_46 ⟨_, _, rfl, (by omega)⟩ rfl (by omega) (by omega)) (by kernel_rfl) rfl rfl ?_
          refine d_h 7 rfl (h_buildSlice0 rfl sl_46) (by kernel_rfl) (fun w h => h.ent aEt) rfl (fun b12 _ => ?_)
          refine d_h 11 rfl (h_appendS (n := 0) (cut ((nth (nth N i).op k).lk.flatMap Lock.vals) (0) (n * 3)) rfl rfl rfl sl_46 Try.underlying46 zr_62 rfl aPk (src_cut (b := gl) (0) (n * 3) (fun hk9 => rfl) aPk) (cut_length _ _ _ (by rw [flat_length lv3]; omega)) (cut_one (flat_one lv1 _) _ _) (by omega) (by simp only [maxLen]; omega)) (by kernel_rfl) (fun w h => h.ent aEt) rfl (fun b13 _ => ?_)
          simp only [Nat.zero_add, List.nil_append]
          refine d_h 16 rfl (h_appendS (n := n) (cut ((nth (nth N i).op k).lk.flatMap Lock.vals) ((n + 1) * 3) (((nth (nth N i).op k).lk.length - (n + 1)) * 3)) rfl rfl rfl sl_46 Try.underlying46 zr_62 rfl aPk (src_cut (b := gl) ((n + 1) * 3) (((nth (nth N i).op k).lk.length - (n + 1)) * 3) (fun hk9 => by rw [hla]; exact subA_lt (by omega)) aPk) (cut_length _ _ _ (by rw [flat_length lv3]; omega)) (cut_one (flat_one lv1 _) _ _) (by omega) (by simp only [maxLen]; omega)) (by kernel_rfl) (fun w h => h.ent aEt) rfl (fun b14 _ => ?_)
          refine d_p 17 rfl (p_indexAddr rfl rfl rfl sl_75 (k) (by omega) (by omega) hoa) (by kernel_rfl) rfl rfl ?_
          refine d_slot (show _ = Value.pointer (some ⟨go, k * 5, none⟩) from by rw [Nat.zero_add]) ?_
          refine d_p 18 rfl (p_fieldAddr rfl rfl fd_48_4 sz_46 rfl) (by kernel_rfl) rfl rfl ?_
          refine d_h0 19 rfl (h_store rfl rfl rfl sz_46 rfl aPt (by rw [flat_length ov5]; omega) rfl) (by kernel_rfl) (fun w h => h.ent aEt) (fun _ _ => ?_)
          refine d_turn [] (by kernel_rfl) ?_
          refine d_nil (by kernel_rfl) (fun w h => h.ent aEt) ?_
          refine s_seq ?_
          refine s_weaken (L' := [(2, _), (3, _), (8, _), (12, _), (13, _), (14, _), (15, _), (16, _)]) aSx (fun _ h => h) ?_
          refine s_region ?_
          refine o_q (q_loadn rfl rfl sz_26 aPk rfl) rfl ?_
          refine o_h0 (h_store rfl rfl rfl sz_26 rfl aPt (by simp only [setMany_length, List.length_set, List.length_cons, List.length_nil, List.length_map]; omega) rfl) (fun _ _ => ?_)
          refine o_p (p_pure rfl) rfl ?_
          refine o_nil ?_
          exact s_retv (rs := [.cell 8 26, .tmp 9]) rfl (.cell rfl sz_26 aPk rfl (.tmp rfl (.nil))) (fun w' h' => by have hR := afT_0 (r := (unlockT (pls L) h fr cnt)) hz1 (by rw [hut]); obtain ⟨hc1, hc2⟩ := cut_others hnl; exact ⟨((some ⟨ga, 0, none⟩, cc), N.set i { nth N i with op := (nth N i).op.set k { (nth (nth N i).op k) with la := b14.1, lc := b14.2, lk := others (nth (nth N i).op k).lk n } }), by rw [hR, List.length_set]; rfl, by rw [hR, hut]; have h7 := upd_lk (o := { (nth (nth N i).op k) with la := b14.1, lc := b14.2, lk := others (nth (nth N i).op k).lk n }) (u := fun o => { o with lk := others o.lk (ixB (o.lk.map (eqK fr cnt))) }) hiN hkN (by simp only [LOpn.pl]; rw [hixN]); rw [hgc] at h7; exact h7, HS.lock_put (o := { (nth (nth N i).op k) with la := b14.1, lc := b14.2, lk := others (nth (nth N i).op k).lk n }) hiN hkN hoa ((locks_to (l := others (nth (nth N i).op k).lk n) h' aPk hc1 hc2).ent aEt) (flat_set ov5 (nth N i).op k 4 [.slice b14.1 (n + ((nth (nth N i).op k).lk.length - (n + 1))) b14.2] (nth (nth N i).op k) _ (nth_get hkN) (by simp [LOpn.vals, setMany, hc1]) (by simp)) hoc hom hcap hcm⟩)
        · try simp only [decide_eq_true_eq, decide_eq_false_iff_not, Bool.not_eq_true', Bool.not_eq_false', Bool.and_eq_true, Bool.or_eq_true, Bool.and_eq_false_iff, Bool.or_eq_false_iff, Bool.not_true, Bool.not_false] at h11
          have hne : eqK fr cnt (nth (nth (nth N i).op k).lk n) = false := by have hq := h11; unfold eqK; simp at hq ⊢; grind
          refine s_skip ?_
          refine s_blk ?_
          refine s_region ?_
          refine o_p (p_pure rfl) rfl ?_
          refine o_p (p_pure rfl) rfl ?_
          try (refine o_slot (i64w (by omega) (by omega)) ?_)
          refine o_p (p_pure rfl) rfl ?_
          refine o_nil ?_
          exact s_backI (n + 1) (by omega) ⟨by omega, fun m p => (Nat.lt_or_ge m n).elim (hn2 m) (fun h3 => by have e9 : m = n := (by omega); rw [e9]; exact hne)⟩ aSx (fun w h => h.ent aEt)
      · try simp only [decide_eq_true_eq, decide_eq_false_iff_not, Bool.not_eq_true', Bool.not_eq_false', Bool.and_eq_true, Bool.or_eq_true, Bool.and_eq_false_iff, Bool.or_eq_false_iff, Bool.not_true, Bool.not_false] at h6
        have hix := ix_no (l := (nth (nth N i).op k).lk) (fr := fr) (cnt := cnt) (fun m hm9 => hn2 m (by omega))
        rw [hlN] at hix
        have hut := unlockT_3 hi hk hfe hrg hix
        refine s_exit_to rfl ?_
        refine s_seq ?_
        refine s_region ?_
        refine o_p (p_build (cs := [_, _]) rfl rfl pl_26 zr_26 rfl) rfl ?_
        refine o_h0 (h_store rfl rfl rfl sz_26 rfl aPt (by simp only [setMany_length, List.length_set, List.length_cons, List.length_nil, List.length_map]; omega) rfl) (fun _ _ => ?_)
        refine o_p (p_pure rfl) rfl ?_
        refine o_nil ?_
        exact s_retv (rs := [.cell 8 26, .tmp 9]) rfl (.cell rfl sz_26 aPk rfl (.tmp rfl (.nil))) (fun w' h' => by have hR := afT_e (r := (unlockT (pls L) h fr cnt)) hz1 (by rw [hut]; show ¬ (6 : Int) = 0; exact by decide); exact ⟨((none, 0), []), by rw [hR, hut]; rfl, by rw [hR, hut]; rfl, (HS.files_none h').ent aEt⟩)

end Go.Proofs

namespace Go.Proofs
open Go Go.RowKit Gx
set_option linter.unusedVariables false
set_option linter.unusedSimpArgs false
attribute [local irreducible] Go.Calls Gx.S Gx.O Gx.D Gx.OpP Gx.OpQ Gx.OpH

theorem fn_25 : isFn Try.prog 25 = true := by kernel_rfl
theorem fn_14 : isFn Try.prog 14 = true := by kernel_rfl
theorem fn_27 : isFn Try.prog 27 = true := by kernel_rfl
theorem fn_30 : isFn Try.prog 30 = true := by kernel_rfl


end Go.Proofs

namespace Go.Proofs
open Go Go.RowKit Gx
set_option linter.unusedVariables false
set_option linter.unusedSimpArgs false
attribute [local irreducible] Go.Calls Gx.S Gx.O Gx.D Gx.OpP Gx.OpQ Gx.OpH



theorem row_rd {α : Type} [Inhabited α] {vals : α → List Value} {sz : Nat} (hv : ∀ x, (vals x).length = sz) {l : List α} {i b t tot : Nat} {w0 w : World} {N : List Nat} {As As' : List HA} (hi : i < l.length) (h : HS w0 N As w) (hp : Pick As (.blk b t tot (l.flatMap vals)) As') : ∀ j v, (vals (nth l i))[j]? = some v → Rd w [] b (i * sz + j) v := fun j v hj => by
  have hlt : j < sz := by
    rcases Nat.lt_or_ge j (vals (nth l i)).length with h | h
    · rwa [hv] at h
    · rw [List.getElem?_eq_none h] at hj; cases hj
  exact h.rd_blk (Mc := []) hp (by rw [flat_get hv _ i j _ (nth_get hi) hlt]; exact hj) (by simp)
theorem cut_oth {α : Type} {vals : α → List Value} {sz : Nat} (hv : ∀ x, (vals x).length = sz) {l : List α} {n : Nat} (hn : n < l.length) : n + (l.length - (n + 1)) = (others l n).length ∧ cut (l.flatMap vals) 0 (n * sz) ++ cut (l.flatMap vals) ((n + 1) * sz) ((l.length - (n + 1)) * sz) = (others l n).flatMap vals := by
  refine ⟨?_, ?_⟩
  · rw [others, List.length_append, List.length_take, List.length_drop]
    omega
  · rw [← others_flat hv, cut, cut, List.drop_zero]
    congr 1
    refine List.take_of_length_le ?_
    rw [List.length_drop, flat_length hv, Nat.sub_mul]
    exact Nat.le_refl _
theorem closeR_h {next : Int} {L : List Fil} {h : Int} (hz : ¬ hErr next L h = 0) : closeR next L h = (([], 0), false, hErr next L h) := by
  unfold hErr at hz ⊢
  split at hz
  · rename_i h1
    have e : (closeT L h).2.2 = (findF L h 0).2.2 := by rw [closeT, if_neg hz]
    rw [if_pos h1, closeR_e h1 (by rw [e]; exact hz), e]
  · rename_i h1
    rw [if_neg h1, closeR_1 h1]
theorem closF_len {f : LFil} {k : Nat} (hk : k < f.op.length) : (closF f.pl k).op.length = (others f.op k).length := by
  rw [← closL_pl hk]
  simp [closL, LFil.pl]
theorem closeT_1 {L : List LFil} {h : Int} {i k : Nat} (hfe : findF (pls L) h 0 = (i, k, 0)) (hi : i < L.length) (hk : k < (nth L i).op.length) (hl : 0 < (others (nth L i).op k).length) : closeT (pls L) h = (updF (pls L) i fun f => closF f k, false, 0) := by
  rw [closeT, hfe]
  dsimp only
  rw [if_pos rfl, nth_pls hi, if_pos (by rw [closF_len hk]; exact hl)]
theorem closeT_2 {L : List LFil} {h : Int} {i k : Nat} (hfe : findF (pls L) h 0 = (i, k, 0)) (hi : i < L.length) (hk : k < (nth L i).op.length) (hl : ¬ 0 < (others (nth L i).op k).length) : closeT (pls L) h = (others (pls L) i, ((nth L i).pd || (nth (nth L i).op k).dl), 0) := by
  rw [closeT, hfe]
  dsimp only
  rw [if_pos rfl, nth_pls hi, if_neg (by rw [closF_len hk]; exact hl)]
  unfold closF
  rw [LFil.pl]
  dsimp only
  rw [nth_plo hk]
  rfl
theorem clos_set {N : List LFil} {i k : Nat} {f : LFil} (hi : i < N.length) (hk : k < (nth N i).op.length) (hf : f.pl = (closL (nth N i) k).pl) : pls (N.set i f) = updF (pls N) i fun f => closF f k := by
  rw [pls_set, updF, nth_pls hi, hf, closL_pl hk]

set_option maxRecDepth 20000 in
set_option maxHeartbeats 2000000 in
theorem c38 (w : World) (next : Int) (a : Option Addr) (cap : Nat) (L : List LFil) (h : Int) (hs : Ft w [] a L) (hm : L.length ≤ 1000) (hmo : ∀ f ∈ L, f.op.length ≤ 1000) (hml : ∀ f ∈ L, ∀ o ∈ f.op, o.lk.length ≤ 1000) : Calls Try.prog 38 #[.agg #[.int .i64 next, .slice a L.length cap], .int .i64 h] w fun en w' => ∃ g : (Option Addr × Nat) × List LFil, en = .returned (.tuple #[.agg #[.int .i64 (closeR next (pls L) h).1.2, .slice g.1.1 g.2.length g.1.2], .bool (closeR next (pls L) h).2.1, .int .i64 (closeR next (pls L) h).2.2]) ∧ pls g.2 = (closeR next (pls L) h).1.1 ∧ HS w [] [.files g.1.1 g.1.2 g.2] w' := by
  refine enter (args := [_, _]) Try.func38 Try.ntmps38 rfl rfl (HS.refl w []) ?_
  refine s_seq ?_
  refine s_region ?_
  refine o_h (h_box rfl rfl) rfl (fun b1 _ => ?_)
  refine o_h (h_alloc rfl zr_26) rfl (fun b2 _ => ?_)
  refine o_p (p_pure rfl) rfl ?_
  refine o_p (p_pure rfl) rfl ?_
  refine o_nil ?_
  refine s_seq ?_
  refine s_seq ?_
  refine s_region ?_
  refine o_q (q_loadn rfl rfl sz_26 aPk rfl) rfl ?_
  refine o_p (p_pure rfl) rfl ?_
  refine o_q (q_call rfl fn_68 rfl (fun w1 h1 => c68 w1 next a cap L h (hs.later h1) hm hmo)) rfl ?_
  refine o_p (p_pure rfl) rfl ?_
  refine o_nil ?_
  refine s_seq ?_
  refine s_region ?_
  refine o_p (p_pure rfl) rfl ?_
  refine o_p (p_pure rfl) rfl ?_
  refine o_nil ?_
  refine s_cond rfl (fun h3 => ?_) (fun h3 => ?_)
  · try simp only [decide_eq_true_eq, decide_eq_false_iff_not, Bool.not_eq_true', Bool.not_eq_false', Bool.and_eq_true, Bool.or_eq_true, Bool.and_eq_false_iff, Bool.or_eq_false_iff, Bool.not_true, Bool.not_false] at h3
    have hz : ¬ hErr next (pls L) h = 0 := h3
    refine s_seq ?_
    refine s_region ?_
    refine o_p (p_build (cs := [_, _]) rfl rfl pl_26 zr_26 rfl) rfl ?_
    refine o_p (p_pure rfl) rfl ?_
    refine o_h0 (h_store rfl rfl rfl sz_26 rfl aPt (by simp only [setMany_length, List.length_set, List.length_cons, List.length_nil, List.length_map]; omega) rfl) (fun _ _ => ?_)
    refine o_p (p_pure rfl) rfl ?_
    refine o_p (p_pure rfl) rfl ?_
    refine o_nil ?_
    exact s_retv (rs := [.cell 4 26, .tmp 5, .tmp 6]) rfl (.cell rfl sz_26 aPk rfl (.tmp rfl (.tmp rfl (.nil)))) (fun w' h' => by have hR := closeR_h hz; exact ⟨((none, 0), []), by rw [hR]; rfl, by rw [hR]; rfl, (HS.files_none h').ent aEt⟩)
  · try simp only [decide_eq_true_eq, decide_eq_false_iff_not, Bool.not_eq_true', Bool.not_eq_false', Bool.and_eq_true, Bool.or_eq_true, Bool.and_eq_false_iff, Bool.or_eq_false_iff, Bool.not_true, Bool.not_false] at h3
    have hz : hErr next (pls L) h = 0 := h3
    obtain ⟨hz1, hz2⟩ := hErr_0 hz
    have hok := chk_ok hz1
    have hV := hok.vw
    obtain ⟨i, k, hfe, hi, hk, hV3⟩ := findF_some hV hz2
    have hfd : fdI (pls L) h = ((i : Int), (k : Int)) := by rw [fdI, hfe]; rfl
    have hoi := hmo _ (mem_nth hi)
    have hl32 := (VW.lens hV).2 _ (mem_nth hi)
    refine s_skip ?_
    refine s_seq ?_
    refine s_region ?_
    refine o_q (q_loadn rfl rfl sz_26 aPk rfl) rfl ?_
    refine o_p (p_pure rfl) rfl ?_
    refine o_q (q_call rfl fn_70 rfl (fun w1 h1 => c70 w1 next a cap L h (hs.later h1) hm hmo)) rfl ?_
    rw [hfd]
    refine o_p (p_pure rfl) rfl ?_
    refine o_p (p_pure rfl) rfl ?_
    refine o_p (p_pure rfl) rfl ?_
    refine o_p (p_pure rfl) rfl ?_
    refine o_p (p_pure rfl) rfl ?_
    refine o_nil ?_
    refine s_seq ?_
    refine s_region ?_
    refine o_q (q_loadn rfl rfl sz_26 aPk rfl) rfl ?_
    refine o_h (h_call rfl fn_19 rfl (fun w1 h1 => c19 w1 next a cap L (hs.later h1) hm hmo hml)) rfl (fun ⟨⟨ca, cc⟩, N⟩ hgc => ?_)
    dsimp only at hgc ⊢
    obtain ⟨hiN, hpN⟩ := same_nth hgc hi
    obtain ⟨hkN, hoN, hqN⟩ := same_op hpN hk
    have hNL : N.length = L.length := same_len hgc
    have hV32 := VW.lens hV
    refine o_h (h_alloc rfl zr_26) rfl (fun b4 _ => ?_)
    refine o_fact (fun w h => files_addr (l := N) (a := ca) (cap := cc) (by omega) h aPk) (fun hga => ?_)
    obtain ⟨ga, rfl, hcap, hcm⟩ := hga
    refine o_fact (fun w h => file_addr (l := N) (i := i) hiN (by omega) h aPk) (fun hgo => ?_)
    obtain ⟨go, hoa, hoc, hom⟩ := hgo
    refine o_class (fun w h => HS.lock_at hiN hkN hoa h aPk) ?_
    refine o_h0 (h_store rfl rfl rfl sz_26 rfl aPt (by simp only [setMany_length, List.length_set, List.length_cons, List.length_nil, List.length_map]; omega) rfl) (fun _ _ => ?_)
    refine o_nil ?_
    refine s_seq ?_
    refine s_region ?_
    refine o_p (p_fieldAddr rfl rfl fd_26_1 sz_24 rfl) rfl ?_
    refine o_q (q_load rfl rfl sz_24 aPk rfl) rfl ?_
    refine o_p (p_pure rfl) rfl ?_
    refine o_p (p_indexAddr rfl rfl rfl sl_24 (i) (by omega) (by omega) rfl) rfl ?_
    refine o_slot (show _ = Value.pointer (some ⟨ga, i * 4, none⟩) from by rw [Nat.zero_add]) ?_
    refine o_q (q_load_atn (nth N i).vals rfl rfl sz_77 rfl (fun w h => row_rd fv4 hiN h aPk)) rfl ?_
    refine o_h (h_alloc rfl zr_77) rfl (fun b5 _ => ?_)
    refine o_h0 (h_store rfl rfl rfl sz_77 rfl aPt (by simp only [setMany_length, List.length_set, List.length_cons, List.length_nil, List.length_map]; omega) rfl) (fun _ _ => ?_)
    refine o_nil ?_
    refine s_seq ?_
    refine s_region ?_
    refine o_p (p_fieldAddr rfl rfl fd_77_1 sz_4 rfl) rfl ?_
    refine o_q (q_load rfl rfl sz_4 aPk rfl) rfl ?_
    refine o_p (p_pure rfl) rfl ?_
    refine o_or 7 34 41 _ _ rfl
      (by
        intro hg6
        have hs7 := hg6; try simp only [decide_eq_true_eq, decide_eq_false_iff_not, Bool.not_eq_true', Bool.not_eq_false', Bool.and_eq_true, Bool.or_eq_true, Bool.and_eq_false_iff, Bool.or_eq_false_iff, Bool.not_true, Bool.not_false] at hs7
        refine o_on 34 _ rfl rfl hg6 ?_
        refine o_p (p_fieldAddr rfl rfl fd_77_2 sz_75 rfl) rfl ?_
        refine o_on 34 _ rfl rfl hg6 ?_
        refine o_q (q_load rfl rfl sz_75 aPk rfl) rfl ?_
        refine o_on 34 _ rfl rfl hg6 ?_
        refine o_p (p_pure rfl) rfl ?_
        refine o_on 34 _ rfl rfl hg6 ?_
        refine o_p (p_indexAddr rfl rfl rfl sl_75 (k) (by omega) (by omega) hoa) rfl ?_
        refine o_on 34 _ rfl rfl hg6 ?_
        refine o_p (p_fieldAddr rfl rfl fd_48_3 sz_4 rfl) rfl ?_
        refine o_on 34 _ rfl rfl hg6 ?_
        refine o_q (q_load_at rfl rfl sz_4 (fun w h => by rw [Nat.zero_add]; exact (h.rd_blk (Mc := []) (b := go) aPk (by rw [flat_get ov5 _ k 3 _ (nth_get hkN) (by decide)]; rfl) (by simp)))) rfl ?_
        refine o_p (p_pickf rfl rfl hg6 rfl) rfl ?_
        refine o_nil ?_
        exact s_joinN 7 41 _ rfl rfl rfl (fun w h => by first | exact h | exact h.ent aEt))
      (by
        intro hg8
        have hs9 := hg8; try simp only [decide_eq_true_eq, decide_eq_false_iff_not, Bool.not_eq_true', Bool.not_eq_false', Bool.and_eq_true, Bool.or_eq_true, Bool.and_eq_false_iff, Bool.or_eq_false_iff, Bool.not_true, Bool.not_false] at hs9
        refine o_off 34 _ rfl rfl hg8 rfl ?_
        refine o_off 34 _ rfl rfl hg8 rfl ?_
        refine o_off 34 _ rfl rfl hg8 rfl ?_
        refine o_off 34 _ rfl rfl hg8 rfl ?_
        refine o_off 34 _ rfl rfl hg8 rfl ?_
        refine o_off 34 _ rfl rfl hg8 rfl ?_
        refine o_p (p_pickt rfl rfl hg8 rfl) rfl ?_
        refine o_nil ?_
        exact s_joinN 7 41 _ rfl rfl rfl (fun w h => by first | exact h | exact h.ent aEt)) ?_
    refine o_p (p_fieldAddr rfl rfl fd_77_1 sz_4 rfl) rfl ?_
    refine o_h0 (h_store rfl rfl rfl sz_4 rfl aPt (by simp only [setMany_length, List.length_set, List.length_cons, List.length_nil, List.length_map]; omega) rfl) (fun _ _ => ?_)
    refine o_nil ?_
    refine s_seq ?_
    refine s_weaken (L' := [(4, _), (5, _), (6, _), (8, _), (9, _), (10, _), (11, _)]) aSx (fun _ h => h) ?_
    refine s_drawB [.blk go 48 ((nth N i).oc * 5) ((nth N i).op.flatMap LOpn.vals), .blk b5 77 4 [.int .i64 (nth N i).rc, .int .i64 (nth N i).sq, .bool ((nth N i).pd || (nth (nth N i).op k).dl), .slice (nth N i).oa (nth N i).op.length (nth N i).oc], .star ((others (nth N i).op k).map subO), .blk ga 77 (cc * 4) (N.flatMap LFil.vals), .star ((others N i).map subF), .blk b4 26 2 [.int .i64 next, .slice (some ⟨ga, 0, none⟩) N.length cc], .blk b1 26 2 [.int .i64 next, .slice a L.length cap], .blk b2 26 2 [.int .i64 0, .slice none 0 0]] [13] mixed ?_
    refine d_p 1 rfl (p_fieldAddr rfl rfl fd_77_2 sz_75 rfl) (by kernel_rfl) rfl rfl ?_
    refine d_q 2 [[]] rfl (q_load rfl rfl sz_75 aPk rfl) (by kernel_rfl) (by kernel_rfl) (by kernel_rfl) rfl ?_
    refine d_p 3 rfl (p_pure rfl) (by kernel_rfl) rfl rfl ?_
    refine d_p 4 rfl (p_slice _ _ 0 k rfl rfl sl_75 rfl ⟨_, _, rfl, rfl⟩ (by omega) (by omega)) (by kernel_rfl) rfl rfl ?_
    refine d_slot (show _ = Value.slice (some ⟨go, 0, none⟩) k (nth N i).oc from by rw [hoa, subA_zero]; rfl) ?_
    refine d_p 6 rfl (p_fieldAddr rfl rfl fd_77_2 sz_75 rfl) (by kernel_rfl) rfl rfl ?_
    refine d_q 7 [[]] rfl (q_load rfl rfl sz_75 aPk rfl) (by kernel_rfl) (by kernel_rfl) (by kernel_rfl) rfl ?_
    refine d_p 8 rfl (p_pure rfl) (by kernel_rfl) rfl rfl ?_
    refine d_p 9 rfl (p_pure rfl) (by kernel_rfl) rfl rfl ?_
    try (refine d_slot (i64w (by omega) (by omega)) ?_)
    refine d_p 10 rfl (p_slice _ _ (k + 1) (nth N i).op.length rfl rfl sl_75 ⟨_, _, rfl, (by omega)⟩ rfl (by omega) (by omega)) (by kernel_rfl) rfl rfl ?_
    refine d_h 0 rfl (h_buildSlice0 rfl sl_75) (by kernel_rfl) (fun w h => h.ent aEt) rfl (fun b10 _ => ?_)
    refine d_h 5 rfl (h_appendS (n := 0) (cut (((nth N i).op.flatMap LOpn.vals)) (0) (k * 5)) rfl rfl rfl sl_75 Try.underlying75 zr_48 rfl aPk (src_cut (b := go) (0) (k * 5) (fun hk9 => rfl) aPk) (cut_length _ _ _ (by rw [flat_length ov5]; omega)) (cut_one (flat_one ov1 _) _ _) (by omega) (by simp only [maxLen]; omega)) (by kernel_rfl) (fun w h => h.ent aEt) rfl (fun b11 _ => ?_)
    simp only [Nat.zero_add, List.nil_append]
    refine d_h 11 rfl (h_appendS (n := k) (cut (((nth N i).op.flatMap LOpn.vals)) ((k + 1) * 5) (((nth N i).op.length - (k + 1)) * 5)) rfl rfl rfl sl_75 Try.underlying75 zr_48 rfl aPk (src_cut (b := go) ((k + 1) * 5) (((nth N i).op.length - (k + 1)) * 5) (fun hk9 => by rw [hoa]; exact subA_lt (by omega)) aPk) (cut_length _ _ _ (by rw [flat_length ov5]; omega)) (cut_one (flat_one ov1 _) _ _) (by omega) (by simp only [maxLen]; omega)) (by kernel_rfl) (fun w h => h.ent aEt) rfl (fun b12 _ => ?_)
    refine d_p 12 rfl (p_fieldAddr rfl rfl fd_77_2 sz_75 rfl) (by kernel_rfl) rfl rfl ?_
    refine d_h0 13 rfl (h_store rfl rfl rfl sz_75 rfl aPt (by simp only [setMany_length, List.length_set, List.length_cons, List.length_nil, List.length_map]; omega) rfl) (by kernel_rfl) (fun w h => h.ent aEt) (fun _ _ => ?_)
    refine d_turn [] (by kernel_rfl) ?_
    refine d_nil (by kernel_rfl) (fun w h => h.ent aEt) ?_
    refine s_seq ?_
    refine s_region ?_
    refine o_p (p_fieldAddr rfl rfl fd_26_1 sz_24 rfl) rfl ?_
    refine o_q (q_load rfl rfl sz_24 aPk rfl) rfl ?_
    refine o_p (p_pure rfl) rfl ?_
    refine o_q (q_loadn rfl rfl sz_77 aPk rfl) rfl ?_
    refine o_p (p_indexAddr rfl rfl rfl sl_24 (i) (by omega) (by omega) rfl) rfl ?_
    refine o_slot (show _ = Value.pointer (some ⟨ga, i * 4, none⟩) from by rw [Nat.zero_add]) ?_
    refine o_h0 (h_store rfl rfl rfl sz_77 rfl aPt (by rw [flat_length fv4]; show i * 4 + 4 ≤ N.length * 4; omega) rfl) (fun _ _ => ?_)
    refine o_nil ?_
    refine s_seq ?_
    refine s_seq ?_
    refine s_region ?_
    refine o_p (p_fieldAddr rfl rfl fd_77_2 sz_75 rfl) rfl ?_
    refine o_q (q_load rfl rfl sz_75 aPk rfl) rfl ?_
    refine o_p (p_len_slice rfl rfl Try.underlying75) rfl ?_
    refine o_p (p_pure rfl) rfl ?_
    refine o_nil ?_
    refine s_cond rfl (fun h13 => ?_) (fun h13 => ?_)
    · try simp only [decide_eq_true_eq, decide_eq_false_iff_not, Bool.not_eq_true', Bool.not_eq_false', Bool.and_eq_true, Bool.or_eq_true, Bool.and_eq_false_iff, Bool.or_eq_false_iff, Bool.not_true, Bool.not_false] at h13
      obtain ⟨hc1, hc2⟩ := cut_oth ov5 hkN
      have hlen : 0 < (others (nth N i).op k).length := by have hq := h13; omega
      have hct := closeT_1 (h := h) (by rw [hgc]; exact hfe) hiN hkN hlen
      refine s_seq ?_
      refine s_region ?_
      refine o_q (q_loadn rfl rfl sz_26 aPk rfl) rfl ?_
      refine o_h0 (h_store rfl rfl rfl sz_26 rfl aPt (by simp only [setMany_length, List.length_set, List.length_cons, List.length_nil, List.length_map]; omega) rfl) (fun _ _ => ?_)
      refine o_p (p_pure rfl) rfl ?_
      refine o_p (p_pure rfl) rfl ?_
      refine o_nil ?_
      exact s_retv (rs := [.cell 4 26, .tmp 5, .tmp 6]) rfl (.cell rfl sz_26 aPk rfl (.tmp rfl (.tmp rfl (.nil)))) (fun w' h' => by have hct2 := hct; rw [hgc] at hct2; have hR := closeR_0 (a := h) hz1 (by rw [hct2]); exact ⟨((some ⟨ga, 0, none⟩, cc), N.set i ({ nth N i with pd := ((nth N i).pd || (nth (nth N i).op k).dl), oa := b12.1, oc := b12.2, op := others (nth N i).op k } : LFil)), by rw [hR, hct2, List.length_set]; rfl, by rw [hR, hct2]; have h7 := clos_set (f := ({ nth N i with pd := ((nth N i).pd || (nth (nth N i).op k).dl), oa := b12.1, oc := b12.2, op := others (nth N i).op k } : LFil)) hiN hkN rfl; rw [hgc] at h7; exact h7, by have h2 := opens_shut (l := others (nth N i).op k) (h'.ent (Bs := [.own (.slice b12.1 (k + ((nth N i).op.length - (k + 1))) b12.2) 48 5 (k + ((nth N i).op.length - (k + 1))) _, .star ((others (nth N i).op k).map subO), .blk ga 77 (cc * 4) (setMany (N.flatMap LFil.vals) (i * 4) [.int .i64 (nth N i).rc, .int .i64 (nth N i).sq, .bool ((nth N i).pd || (nth (nth N i).op k).dl), .slice b12.1 (k + ((nth N i).op.length - (k + 1))) b12.2]), .star ((others N i).map subF)]) aEt) hc1 hc2; exact HS.file_put (f := ({ nth N i with pd := ((nth N i).pd || (nth (nth N i).op k).dl), oa := b12.1, oc := b12.2, op := others (nth N i).op k } : LFil)) hiN (h2.ent (Bs := [.blk ga 77 (cc * 4) (setMany (N.flatMap LFil.vals) (i * 4) [.int .i64 (nth N i).rc, .int .i64 (nth N i).sq, .bool ((nth N i).pd || (nth (nth N i).op k).dl), .slice b12.1 (k + ((nth N i).op.length - (k + 1))) b12.2]), .opens b12.1 b12.2 (others (nth N i).op k), .star ((others N i).map subF)]) aEt) (flat_set fv4 N i 0 [.int .i64 (nth N i).rc, .int .i64 (nth N i).sq, .bool ((nth N i).pd || (nth (nth N i).op k).dl), .slice b12.1 (k + ((nth N i).op.length - (k + 1))) b12.2] (nth N i) ({ nth N i with pd := ((nth N i).pd || (nth (nth N i).op k).dl), oa := b12.1, oc := b12.2, op := others (nth N i).op k } : LFil) (nth_get hiN) (by simp [LFil.vals, setMany, hc1]) (by show 0 + 4 ≤ 4; omega)) hcap hcm⟩)
    · try simp only [decide_eq_true_eq, decide_eq_false_iff_not, Bool.not_eq_true', Bool.not_eq_false', Bool.and_eq_true, Bool.or_eq_true, Bool.and_eq_false_iff, Bool.or_eq_false_iff, Bool.not_true, Bool.not_false] at h13
      obtain ⟨hc1, hc2⟩ := cut_oth ov5 hkN
      have hlen : ¬ 0 < (others (nth N i).op k).length := by have hq := h13; omega
      have hct := closeT_2 (h := h) (by rw [hgc]; exact hfe) hiN hkN hlen
      refine s_class (fun w h => HS.blk_to (b := ga) h aPk (flat_set fv4 N i 0 [.int .i64 (nth N i).rc, .int .i64 (nth N i).sq, .bool ((nth N i).pd || (nth (nth N i).op k).dl), .slice b12.1 (k + ((nth N i).op.length - (k + 1))) b12.2] (nth N i) ({ nth N i with pd := ((nth N i).pd || (nth (nth N i).op k).dl), oa := b12.1, oc := b12.2, op := others (nth N i).op k } : LFil) (nth_get hiN) (by simp [LFil.vals, setMany, hc1]) (by show 0 + 4 ≤ 4; omega))) ?_
      have hNl : (N.set i ({ nth N i with pd := ((nth N i).pd || (nth (nth N i).op k).dl), oa := b12.1, oc := b12.2, op := others (nth N i).op k } : LFil)).length = N.length := List.length_set
      refine s_skip ?_
      refine s_seq ?_
      refine s_drawB [.blk ga 77 (cc * 4) ((N.set i ({ nth N i with pd := ((nth N i).pd || (nth (nth N i).op k).dl), oa := b12.1, oc := b12.2, op := others (nth N i).op k } : LFil)).flatMap LFil.vals), .blk b5 77 4 [.int .i64 (nth N i).rc, .int .i64 (nth N i).sq, .bool ((nth N i).pd || (nth (nth N i).op k).dl), .slice b12.1 (k + ((nth N i).op.length - (k + 1))) b12.2], .star ((others N i).map subF), .blk b4 26 2 [.int .i64 next, .slice (some ⟨ga, 0, none⟩) N.length cc], .blk b1 26 2 [.int .i64 next, .slice a L.length cap], .blk b2 26 2 [.int .i64 0, .slice none 0 0]] [13] mixed ?_
      refine d_p 1 rfl (p_fieldAddr rfl rfl fd_26_1 sz_24 rfl) (by kernel_rfl) rfl rfl ?_
      refine d_q 2 [[]] rfl (q_load rfl rfl sz_24 aPk rfl) (by kernel_rfl) (by kernel_rfl) (by kernel_rfl) rfl ?_
      refine d_p 3 rfl (p_pure rfl) (by kernel_rfl) rfl rfl ?_
      refine d_p 4 rfl (p_slice _ _ 0 i rfl rfl sl_24 rfl ⟨_, _, rfl, rfl⟩ (by omega) (by omega)) (by kernel_rfl) rfl rfl ?_
      refine d_slot (show _ = Value.slice (some ⟨ga, 0, none⟩) i cc from by rw [subA_zero]; rfl) ?_
      refine d_p 6 rfl (p_fieldAddr rfl rfl fd_26_1 sz_24 rfl) (by kernel_rfl) rfl rfl ?_
      refine d_q 7 [[]] rfl (q_load rfl rfl sz_24 aPk rfl) (by kernel_rfl) (by kernel_rfl) (by kernel_rfl) rfl ?_
      refine d_p 8 rfl (p_pure rfl) (by kernel_rfl) rfl rfl ?_
      refine d_p 9 rfl (p_pure rfl) (by kernel_rfl) rfl rfl ?_
      try (refine d_slot (i64w (by omega) (by omega)) ?_)
      refine d_p 10 rfl (p_slice _ _ (i + 1) N.length rfl rfl sl_24 ⟨_, _, rfl, (by omega)⟩ rfl (by omega) (by omega)) (by kernel_rfl) rfl rfl ?_
      refine d_h 0 rfl (h_buildSlice0 rfl sl_24) (by kernel_rfl) (fun w h => h.ent aEt) rfl (fun b14 _ => ?_)
      refine d_h 5 rfl (h_appendS (n := 0) (cut (((N.set i ({ nth N i with pd := ((nth N i).pd || (nth (nth N i).op k).dl), oa := b12.1, oc := b12.2, op := others (nth N i).op k } : LFil)).flatMap LFil.vals)) (0) (i * 4)) rfl rfl rfl sl_24 Try.underlying24 zr_77 rfl aPk (src_cut (b := ga) (0) (i * 4) (fun hk9 => rfl) aPk) (cut_length _ _ _ (by rw [flat_length fv4]; omega)) (cut_one (flat_one fv1 _) _ _) (by omega) (by simp only [maxLen]; omega)) (by kernel_rfl) (fun w h => h.ent aEt) rfl (fun b15 _ => ?_)
      simp only [Nat.zero_add, List.nil_append]
      refine d_h 11 rfl (h_appendS (n := i) (cut (((N.set i ({ nth N i with pd := ((nth N i).pd || (nth (nth N i).op k).dl), oa := b12.1, oc := b12.2, op := others (nth N i).op k } : LFil)).flatMap LFil.vals)) ((i + 1) * 4) ((N.length - (i + 1)) * 4)) rfl rfl rfl sl_24 Try.underlying24 zr_77 rfl aPk (src_cut (b := ga) ((i + 1) * 4) ((N.length - (i + 1)) * 4) (fun hk9 => subA_lt (by omega)) aPk) (cut_length _ _ _ (by rw [flat_length fv4]; omega)) (cut_one (flat_one fv1 _) _ _) (by omega) (by simp only [maxLen]; omega)) (by kernel_rfl) (fun w h => h.ent aEt) rfl (fun b16 _ => ?_)
      refine d_p 12 rfl (p_fieldAddr rfl rfl fd_26_1 sz_24 rfl) (by kernel_rfl) rfl rfl ?_
      refine d_h0 13 rfl (h_store rfl rfl rfl sz_24 rfl aPt (by simp only [setMany_length, List.length_set, List.length_cons, List.length_nil, List.length_map]; omega) rfl) (by kernel_rfl) (fun w h => h.ent aEt) (fun _ _ => ?_)
      refine d_turn [] (by kernel_rfl) ?_
      refine d_nil (by kernel_rfl) (fun w h => h.ent aEt) ?_
      refine s_seq ?_
      refine s_weaken (L' := [(4, _), (5, _), (6, _), (10, _), (11, _)]) aSx (fun _ h => h) ?_
      refine s_drawB [.blk b4 26 2 [.int .i64 next, .slice b16.1 (i + (N.length - (i + 1))) b16.2], .blk b5 77 4 [.int .i64 (nth N i).rc, .int .i64 (nth N i).sq, .bool ((nth N i).pd || (nth (nth N i).op k).dl), .slice b12.1 (k + ((nth N i).op.length - (k + 1))) b12.2], .own (.slice b16.1 (i + (N.length - (i + 1))) b16.2) 77 4 (i + (N.length - (i + 1))) (cut ((N.set i ({ nth N i with pd := ((nth N i).pd || (nth (nth N i).op k).dl), oa := b12.1, oc := b12.2, op := others (nth N i).op k } : LFil)).flatMap LFil.vals) 0 (i * 4) ++ cut ((N.set i ({ nth N i with pd := ((nth N i).pd || (nth (nth N i).op k).dl), oa := b12.1, oc := b12.2, op := others (nth N i).op k } : LFil)).flatMap LFil.vals) ((i + 1) * 4) ((N.length - (i + 1)) * 4)), .star ((others N i).map subF)] [] mixed ?_
      refine d_q 0 [] rfl (q_loadn rfl rfl sz_26 aPk rfl) (by kernel_rfl) (by kernel_rfl) (by kernel_rfl) rfl ?_
      refine d_p 1 rfl (p_fieldAddr rfl rfl fd_77_1 sz_4 rfl) (by kernel_rfl) rfl rfl ?_
      refine d_q 2 [] rfl (q_load rfl rfl sz_4 aPk rfl) (by kernel_rfl) (by kernel_rfl) (by kernel_rfl) rfl ?_
      refine d_h0 3 rfl (h_store rfl rfl rfl sz_26 rfl aPt (by simp only [setMany_length, List.length_set, List.length_cons, List.length_nil, List.length_map]; omega) rfl) (by kernel_rfl) (fun w h => h.ent aEt) (fun _ _ => ?_)
      refine d_p 4 rfl (p_pure rfl) (by kernel_rfl) rfl rfl ?_
      refine d_p 5 rfl (p_pure rfl) (by kernel_rfl) rfl rfl ?_
      refine d_nil (by kernel_rfl) (fun w h => h.ent aEt) ?_
      exact s_retv (rs := [.cell 4 26, .tmp 5, .tmp 6]) rfl (.cell rfl sz_26 aPk rfl (.tmp rfl (.tmp rfl (.nil)))) (fun w' h' => by obtain ⟨hd1, hd2⟩ := cut_oth (vals := LFil.vals) fv4 (l := N.set i ({ nth N i with pd := ((nth N i).pd || (nth (nth N i).op k).dl), oa := b12.1, oc := b12.2, op := others (nth N i).op k } : LFil)) (n := i) (by rw [hNl]; exact hiN); rw [others_set] at hd1 hd2; rw [hNl] at hd1 hd2; have hct2 := hct; rw [hgc] at hct2; have hR := closeR_0 (a := h) hz1 (by rw [hct2]); exact ⟨(b16, others N i), by rw [hR, hct2, ← hd1]; rfl, by rw [hR, hct2, pls_others, hgc], by have h2 := HS.files_shut (l := others N i) (h'.ent (Bs := [.own (.slice b16.1 (i + (N.length - (i + 1))) b16.2) 77 4 (i + (N.length - (i + 1))) _, .star ((others N i).map subF)]) aEt) hd1 hd2; exact h2⟩)

end Go.Proofs

namespace Go.Proofs
open Go Go.RowKit Gx
set_option linter.unusedVariables false
set_option linter.unusedSimpArgs false
attribute [local irreducible] Go.Calls Gx.S Gx.O Gx.D Gx.OpP Gx.OpQ Gx.OpH



theorem ixB_at : ∀ {l : List Bool}, ixB l < l.length → l.getD (ixB l) false = true
  | [], h => absurd h (Nat.not_lt_zero _)
  | b :: l, h => by
    unfold ixB at h ⊢
    cases b
    · simp only [Bool.false_eq_true, if_false, List.length_cons] at h ⊢
      have h9 := ixB_at (l := l) (by omega)
      simpa using h9
    · simp
theorem bs_hit {next : Int} {L : List Fil} {rc sq : Int} (h : Ok next L) {i : Nat} (hi : i < L.length) (he : ((nth L i).rc, (nth L i).sq) = (rc, sq)) : bsF' (cmps L rc sq) = true ∧ bsL (cmps L rc sq) = i := by
  obtain ⟨p1, p2, p3⟩ := place_spec (rc := rc) (sq := sq) h
  have irr : refLt (rc, sq) (rc, sq) = false := by simp [refLt]
  have e : bsL (cmps L rc sq) = i := by
    rcases Nat.lt_trichotomy i (bsL (cmps L rc sq)) with h1 | h1 | h1
    · have := p2 i h1
      rw [he, irr] at this
      cases this
    · exact h1.symm
    · have h4 := (pw_nth.1 h.sr) _ _ h1 hi
      rw [he] at h4
      rw [p3 _ (Nat.le_refl _) (by omega)] at h4
      cases h4
  exact ⟨(bsF_iff h).2 ⟨by omega, by rw [e]; exact he⟩, e⟩
theorem at_hit {next : Int} {L : List LFil} {rc sq : Int} (h : Ok next (pls L)) (hp : 0 ≤ ixI (atB (pls L) rc sq)) : ∃ i : Nat, ixI (atB (pls L) rc sq) = (i : Int) ∧ i < L.length ∧ bsF' (cmps (pls L) rc sq) = true ∧ bsL (cmps (pls L) rc sq) = i := by
  unfold ixI at hp ⊢
  split at hp
  · rename_i h1
    have h2 := ixB_at h1
    have hl : ixB (atB (pls L) rc sq) < L.length := by simpa [atB] using h1
    rw [atB_get hl] at h2
    simp only [Bool.and_eq_true, decide_eq_true_eq] at h2
    have hl2 : ixB (atB (pls L) rc sq) < (pls L).length := by simpa using hl
    obtain ⟨h3, h4⟩ := bs_hit (rc := rc) (sq := sq) h hl2 (by rw [nth_pls hl]; exact Prod.ext h2.1 h2.2)
    exact ⟨_, if_pos h1, hl, h3, h4⟩
  · exact absurd hp (by omega)
theorem at_miss {next : Int} {L : List LFil} {rc sq : Int} (h : Ok next (pls L)) (hp : ¬ 0 ≤ ixI (atB (pls L) rc sq)) : ¬ bsF' (cmps (pls L) rc sq) = true := by
  intro hb
  obtain ⟨h1, h2⟩ := (bsF_iff h).1 hb
  have hl : bsL (cmps (pls L) rc sq) < L.length := by simpa using h1
  have h3 : (atB (pls L) rc sq).any id = true := by
    rw [List.any_eq_true]
    refine ⟨true, ?_, rfl⟩
    rw [atB, List.mem_map]
    refine ⟨_, mem_nth h1, ?_⟩
    have e1 := congrArg Prod.fst h2
    have e2 := congrArg Prod.snd h2
    simp only [] at e1 e2
    rw [e1, e2]
    simp
  rw [ixB_any, decide_eq_true_eq] at h3
  unfold ixI at hp
  rw [if_pos h3] at hp
  omega
theorem openR_opn {next : Int} {L : List Fil} {rc sq e : Int} {x : Opn} (hz : (chkT next L).2 = 0) (h : opnE next L rc sq x = e) (he : ¬ e = 0) : openR next L rc sq x = (([], 0), 0, e) := by
  have e1 : (openT next L rc sq x).2.2.2 = e := by rw [openT, if_neg (by rw [h]; exact he), h]
  rw [openR_e hz (by rw [e1]; exact he), e1]
theorem openR_old {next : Int} {L : List Fil} {rc sq e : Int} {x : Opn} {i : Nat} (hz : (chkT next L).2 = 0) (h : opnE next L rc sq x = 0) (hb : bsF' (cmps L rc sq) = true) (hl : bsL (cmps L rc sq) = i) (ho : oldE (nth L i) x = e) (he : ¬ e = 0) : openR next L rc sq x = (([], 0), 0, e) := by
  have e1 : (openT next L rc sq x).2.2.2 = e := by rw [openT, if_pos h, if_pos hb, hl, ho, if_neg he]
  rw [openR_e hz (by rw [e1]; exact he), e1]
theorem opnE_1 {next : Int} {L : List Fil} {rc sq : Int} {x : Opn} (h : ¬ refE rc sq = 0) : opnE next L rc sq x = refE rc sq := by rw [opnE, if_neg h]
theorem opnE_2 {next : Int} {L : List Fil} {rc sq : Int} {x : Opn} (h : refE rc sq = 0) (h2 : ¬ openE x.ac x.sh = 0) : opnE next L rc sq x = openE x.ac x.sh := by rw [opnE, if_pos h, if_neg h2]
theorem opnE_3 {next : Int} {L : List Fil} {rc sq : Int} {x : Opn} (h : refE rc sq = 0) (h2 : openE x.ac x.sh = 0) (h3 : ¬ (cntT L < 32 ∧ next < 2147483647)) : opnE next L rc sq x = 16 := by rw [opnE, if_pos h, if_pos h2, if_neg h3]
theorem opnE_0 {next : Int} {L : List Fil} {rc sq : Int} {x : Opn} (h : refE rc sq = 0) (h2 : openE x.ac x.sh = 0) (h3 : cntT L < 32 ∧ next < 2147483647) : opnE next L rc sq x = 0 := by rw [opnE, if_pos h, if_pos h2, if_pos h3]
theorem oldE_28 {f : LFil} {x : LOpn} {k : Nat} (hp : f.pd = false) (hk : k < f.op.length) (hc : cfl x.pl (nth f.op k).pl = true) : oldE f.pl x.pl = 28 := by
  unfold oldE
  rw [if_neg (by simp [LFil.pl, hp]), if_pos]
  rw [List.any_eq_true]
  exact ⟨_, List.mem_map.2 ⟨_, mem_nth hk, rfl⟩, hc⟩
theorem oldE_0 {f : LFil} {x : LOpn} (hp : f.pd = false) (hc : ∀ k, k < f.op.length → cfl x.pl (nth f.op k).pl = false) : oldE f.pl x.pl = 0 := by
  unfold oldE
  rw [if_neg (by simp [LFil.pl, hp]), if_neg]
  rw [Bool.not_eq_true, List.any_eq_false]
  intro o ho
  obtain ⟨p, hp2, rfl⟩ := List.mem_map.1 ho
  obtain ⟨k, hk, rfl⟩ := mem_nth_ex hp2
  rw [hc k hk]
  decide
theorem place_dec {next : Int} {N : List LFil} {rc sq : Int} (h : Ok next (pls N)) (hn : ¬ bsF' (cmps (pls N) rc sq) = true) {i : Nat} (hi : i < N.length) : refLt (rc, sq) ((nth N i).rc, (nth N i).sq) = decide (bsL (cmps (pls N) rc sq) ≤ i) := by
  obtain ⟨p1, p2, p3⟩ := place_spec (rc := rc) (sq := sq) h
  have hi2 : i < (pls N).length := by simpa using hi
  have e : nth (pls N) i = (nth N i).pl := nth_pls hi
  rcases Nat.lt_or_ge i (bsL (cmps (pls N) rc sq)) with h1 | h1
  · have h2 := p2 i h1
    rw [e] at h2
    have irr : refLt (rc, sq) (rc, sq) = false := by simp [refLt]
    rw [show decide (bsL (cmps (pls N) rc sq) ≤ i) = false from by simp; omega]
    rcases hb : refLt (rc, sq) ((nth N i).rc, (nth N i).sq) with _ | _
    · rfl
    · have h3 := refLt_tr hb h2
      rw [irr] at h3
      cases h3
  · have h2 := p3 i h1 hi2
    rw [e] at h2
    rw [show decide (bsL (cmps (pls N) rc sq) ≤ i) = true from by simp; omega]
    have h3 := not_at h hn _ (mem_nth hi2)
    rw [e] at h3
    exact refLt_tri h2 h3
/-- The files laid so far: with the new one where its place was passed. -/
def dC (N : List LFil) (p : Nat) (f : LFil) (i : Nat) (b : Bool) : List LFil := if b then insAt (N.take i) p f else N.take i
theorem dC_le {N : List LFil} {p i : Nat} {f : LFil} {b : Bool} : (dC N p f i b).length ≤ i + 1 := by
  unfold dC
  split
  · unfold insAt
    simp only [List.length_append, List.length_cons, List.length_take, List.length_drop]
    omega
  · rw [List.length_take]
    omega
theorem app_flatF {D E : List LFil} {f : LFil} (h : D ++ [f] = E) : D.length + 1 = E.length ∧ D.flatMap LFil.vals ++ f.vals = E.flatMap LFil.vals := by
  subst h
  simp [List.flatMap_append]
theorem dC_ins {N : List LFil} {p : Nat} {f : LFil} (hp : p ≤ N.length) : dC N p f p (decide (p < p)) ++ [f] = dC N p f p (decide (p ≤ p)) := by
  have h1 : decide (p < p) = false := by simp
  have h2 : decide (p ≤ p) = true := by simp
  rw [h1, h2]
  simp only [dC, Bool.false_eq_true, if_false, if_true, insAt]
  rw [List.take_take, Nat.min_self, List.drop_of_length_le (by rw [List.length_take]; omega)]
theorem dC_app {N : List LFil} {p i : Nat} {f : LFil} (hi : i < N.length) : dC N p f i (decide (p ≤ i)) ++ [nth N i] = dC N p f (i + 1) (decide (p < i + 1)) := by
  have e : decide (p < i + 1) = decide (p ≤ i) := decide_eq_decide.2 (by omega)
  rw [e]
  rcases Nat.lt_or_ge i p with h1 | h1
  · have h2 : decide (p ≤ i) = false := by simp; omega
    rw [h2]
    simp only [dC, Bool.false_eq_true, if_false]
    rw [take_succ_nth hi]
  · have h2 : decide (p ≤ i) = true := by simp; omega
    rw [h2]
    simp only [dC, if_true, insAt]
    rw [take_succ_nth hi, List.take_append_of_le_length (by rw [List.length_take]; omega), List.drop_append_of_le_length (by rw [List.length_take]; omega)]
    simp
theorem dC_end1 {N : List LFil} {p : Nat} {f : LFil} (hp : p ≤ N.length) (h : ¬ p < N.length) : dC N p f N.length (decide (p < N.length)) ++ [f] = insAt N p f := by
  have h1 : decide (p < N.length) = false := by simp; omega
  have h2 : p = N.length := by omega
  rw [h1]
  simp only [dC, Bool.false_eq_true, if_false, insAt]
  rw [h2, List.take_length, List.drop_length]
theorem dC_end2 {N : List LFil} {p : Nat} {f : LFil} (h : p < N.length) : dC N p f N.length (decide (p < N.length)) = insAt N p f := by
  have h1 : decide (p < N.length) = true := by simp; omega
  rw [h1]
  simp only [dC, if_true, insAt]
  rw [List.take_length]
section
variable {w0 w : World} {M : List Nat} {As As' : List HA} {a : Option Addr} {cap : Nat}
theorem new_file {g : Nat} {x : LOpn} {next : Int} (h : HS w0 M As w) (hp : Pick As (.blk g 48 5 (newO x next).vals) As') : HS w0 M (.opens (some ⟨g, 0, none⟩) 1 [newO x next] :: As') w := by
  have h1 : HS w0 M (.blk g 48 (1 * 5) (newO x next).vals :: As') w := h.pick hp
  have h2 := HS.own_shut (n := 1) h1 rfl (Nat.le_refl _) (by simp [maxLen])
  have h3 : HS w0 M (.own (.slice (some ⟨g, 0, none⟩) 1 1) 48 5 1 (newO x next).vals :: .star (([] : List LOpn).map subO) :: As') w := h2.star_nil.perm (List.Perm.swap ..)
  exact HS.opens_app (l := []) h3 rfl (by simp)
theorem files_ins2 {l : List LFil} {f : LFil} {i n : Nat} {xs : List Value} (h : HS w0 M (subF f :: .own (.slice a n cap) 77 4 n xs :: .star (l.map subF) :: As) w) (hn : n = (insAt l i f).length) (hx : xs = (insAt l i f).flatMap LFil.vals) : HS w0 M (.files a cap (insAt l i f) :: As) w := by
  have h2 : HS w0 M (.star ((insAt l i f).map subF) :: .own (.slice a n cap) 77 4 n xs :: As) w := HS.sub_ins i (h.perm (List.Perm.cons _ (List.Perm.swap ..)))
  exact HS.files_shut (h2.perm (List.Perm.swap ..)) hn hx
end

set_option maxRecDepth 20000 in
set_option maxHeartbeats 4000000 in
theorem c37 (w : World) (next : Int) (a : Option Addr) (cap : Nat) (L : List LFil) (rc sq : Int) (x : LOpn) (hs : Ft w [] a L) (hm : L.length ≤ 1000) (hmo : ∀ f ∈ L, f.op.length ≤ 1000) (hml : ∀ f ∈ L, ∀ o ∈ f.op, o.lk.length ≤ 1000) : Calls Try.prog 37 #[.agg #[.int .i64 next, .slice a L.length cap], .agg #[.int .i64 rc, .int .i64 sq], .agg #[.int .i64 x.hd, .int .i64 x.ac, .int .i64 x.sh, .bool x.dl, .slice x.la x.lk.length x.lc]] w fun en w' => ∃ g : (Option Addr × Nat) × List LFil, en = .returned (.tuple #[.agg #[.int .i64 (openR next (pls L) rc sq x.pl).1.2, .slice g.1.1 g.2.length g.1.2], .int .i64 (openR next (pls L) rc sq x.pl).2.1, .int .i64 (openR next (pls L) rc sq x.pl).2.2]) ∧ pls g.2 = (openR next (pls L) rc sq x.pl).1.1 ∧ HS w [] [.files g.1.1 g.1.2 g.2] w' := by
  refine enter (args := [_, _, _]) Try.func37 Try.ntmps37 rfl rfl (HS.refl w []) ?_
  refine s_seq ?_
  refine s_region ?_
  refine o_h (h_box rfl rfl) rfl (fun b1 _ => ?_)
  refine o_h (h_box rfl rfl) rfl (fun b2 _ => ?_)
  refine o_h (h_box rfl rfl) rfl (fun b3 _ => ?_)
  refine o_h (h_alloc rfl zr_26) rfl (fun b4 _ => ?_)
  refine o_p (p_pure rfl) rfl ?_
  refine o_p (p_pure rfl) rfl ?_
  refine o_nil ?_
  refine s_seq ?_
  refine s_region ?_
  refine o_p (p_build (cs := [_, _]) rfl rfl pl_26 zr_26 rfl) rfl ?_
  refine o_h (h_alloc rfl zr_26) rfl (fun b5 _ => ?_)
  refine o_h0 (h_store rfl rfl rfl sz_26 rfl aPt (by simp only [setMany_length, List.length_set, List.length_cons, List.length_nil, List.length_map]; omega) rfl) (fun _ _ => ?_)
  refine o_nil ?_
  refine s_seq ?_
  refine s_seq ?_
  refine s_region ?_
  refine o_q (q_loadn rfl rfl sz_26 aPk rfl) rfl ?_
  refine o_q (q_call rfl fn_31 rfl (fun w1 h1 => c31 w1 next a cap L (hs.later h1) hm hmo)) rfl ?_
  refine o_p (p_pure rfl) rfl ?_
  refine o_nil ?_
  refine s_seq ?_
  refine s_region ?_
  refine o_p (p_pure rfl) rfl ?_
  refine o_p (p_pure rfl) rfl ?_
  refine o_nil ?_
  refine s_cond rfl (fun h6 => ?_) (fun h6 => ?_)
  · try simp only [decide_eq_true_eq, decide_eq_false_iff_not, Bool.not_eq_true', Bool.not_eq_false', Bool.and_eq_true, Bool.or_eq_true, Bool.and_eq_false_iff, Bool.or_eq_false_iff, Bool.not_true, Bool.not_false] at h6
    have hz : ¬ (chkT next (pls L)).2 = 0 := h6
    refine s_seq ?_
    refine s_region ?_
    refine o_q (q_loadn rfl rfl sz_26 aPk rfl) rfl ?_
    refine o_p (p_pure rfl) rfl ?_
    refine o_h0 (h_store rfl rfl rfl sz_26 rfl aPt (by simp only [setMany_length, List.length_set, List.length_cons, List.length_nil, List.length_map]; omega) rfl) (fun _ _ => ?_)
    refine o_p (p_pure rfl) rfl ?_
    refine o_p (p_pure rfl) rfl ?_
    refine o_nil ?_
    exact s_retv (rs := [.cell 6 26, .tmp 7, .tmp 8]) rfl (.cell rfl sz_26 aPk rfl (.tmp rfl (.tmp rfl (.nil)))) (fun w' h' => by have hR := openR_1 (rc := rc) (sq := sq) (x := x.pl) hz; exact ⟨((none, 0), []), by rw [hR]; rfl, by rw [hR]; rfl, (HS.files_none h').ent aEt⟩)
  · try simp only [decide_eq_true_eq, decide_eq_false_iff_not, Bool.not_eq_true', Bool.not_eq_false', Bool.and_eq_true, Bool.or_eq_true, Bool.and_eq_false_iff, Bool.or_eq_false_iff, Bool.not_true, Bool.not_false] at h6
    have hz1 : (chkT next (pls L)).2 = 0 := h6
    have hok := chk_ok hz1
    have hV := hok.vw
    have hnx := hok.nx
    have hcn := hok.cnt
    have hV32 := VW.lens hV
    refine s_skip ?_
    refine s_seq ?_
    refine s_seq ?_
    refine s_region ?_
    refine o_q (q_loadn rfl rfl sz_42 aPk rfl) rfl ?_
    refine o_q (q_call rfl fn_32 rfl (fun w1 h1 => c32 w1 rc sq)) rfl ?_
    refine o_p (p_pure rfl) rfl ?_
    refine o_nil ?_
    refine s_seq ?_
    refine s_region ?_
    refine o_p (p_pure rfl) rfl ?_
    refine o_p (p_pure rfl) rfl ?_
    refine o_nil ?_
    refine s_cond rfl (fun h7 => ?_) (fun h7 => ?_)
    · try simp only [decide_eq_true_eq, decide_eq_false_iff_not, Bool.not_eq_true', Bool.not_eq_false', Bool.and_eq_true, Bool.or_eq_true, Bool.and_eq_false_iff, Bool.or_eq_false_iff, Bool.not_true, Bool.not_false] at h7
      have hr := h7
      have hoe := opnE_1 (next := next) (L := pls L) (x := x.pl) hr
      refine s_seq ?_
      refine s_region ?_
      refine o_q (q_loadn rfl rfl sz_26 aPk rfl) rfl ?_
      refine o_p (p_pure rfl) rfl ?_
      refine o_h0 (h_store rfl rfl rfl sz_26 rfl aPt (by simp only [setMany_length, List.length_set, List.length_cons, List.length_nil, List.length_map]; omega) rfl) (fun _ _ => ?_)
      refine o_p (p_pure rfl) rfl ?_
      refine o_p (p_pure rfl) rfl ?_
      refine o_nil ?_
      exact s_retv (rs := [.cell 6 26, .tmp 7, .tmp 8]) rfl (.cell rfl sz_26 aPk rfl (.tmp rfl (.tmp rfl (.nil)))) (fun w' h' => by have hR := openR_opn hz1 hoe hr; exact ⟨((none, 0), []), by rw [hR]; rfl, by rw [hR]; rfl, (HS.files_none h').ent aEt⟩)
    · try simp only [decide_eq_true_eq, decide_eq_false_iff_not, Bool.not_eq_true', Bool.not_eq_false', Bool.and_eq_true, Bool.or_eq_true, Bool.and_eq_false_iff, Bool.or_eq_false_iff, Bool.not_true, Bool.not_false] at h7
      have hr : refE rc sq = 0 := h7
      refine s_skip ?_
      refine s_seq ?_
      refine s_seq ?_
      refine s_region ?_
      refine o_q (q_loadn rfl rfl sz_48 aPk rfl) rfl ?_
      refine o_q (q_call rfl fn_22 rfl (fun w1 h1 => c22 w1 x)) rfl ?_
      refine o_p (p_pure rfl) rfl ?_
      refine o_nil ?_
      refine s_seq ?_
      refine s_region ?_
      refine o_p (p_pure rfl) rfl ?_
      refine o_p (p_pure rfl) rfl ?_
      refine o_nil ?_
      refine s_cond rfl (fun h8 => ?_) (fun h8 => ?_)
      · try simp only [decide_eq_true_eq, decide_eq_false_iff_not, Bool.not_eq_true', Bool.not_eq_false', Bool.and_eq_true, Bool.or_eq_true, Bool.and_eq_false_iff, Bool.or_eq_false_iff, Bool.not_true, Bool.not_false] at h8
        have ho := h8
        have hoe := opnE_2 (next := next) (L := pls L) (x := x.pl) hr ho
        refine s_seq ?_
        refine s_region ?_
        refine o_q (q_loadn rfl rfl sz_26 aPk rfl) rfl ?_
        refine o_p (p_pure rfl) rfl ?_
        refine o_h0 (h_store rfl rfl rfl sz_26 rfl aPt (by simp only [setMany_length, List.length_set, List.length_cons, List.length_nil, List.length_map]; omega) rfl) (fun _ _ => ?_)
        refine o_p (p_pure rfl) rfl ?_
        refine o_p (p_pure rfl) rfl ?_
        refine o_nil ?_
        exact s_retv (rs := [.cell 6 26, .tmp 7, .tmp 8]) rfl (.cell rfl sz_26 aPk rfl (.tmp rfl (.tmp rfl (.nil)))) (fun w' h' => by have hR := openR_opn hz1 hoe ho; exact ⟨((none, 0), []), by rw [hR]; rfl, by rw [hR]; rfl, (HS.files_none h').ent aEt⟩)
      · try simp only [decide_eq_true_eq, decide_eq_false_iff_not, Bool.not_eq_true', Bool.not_eq_false', Bool.and_eq_true, Bool.or_eq_true, Bool.and_eq_false_iff, Bool.or_eq_false_iff, Bool.not_true, Bool.not_false] at h8
        have ho : openE x.ac x.sh = 0 := h8
        refine s_skip ?_
        refine s_seq ?_
        refine s_seq ?_
        refine s_region ?_
        refine o_q (q_loadn rfl rfl sz_26 aPk rfl) rfl ?_
        refine o_q (q_call rfl fn_34 rfl (fun w1 h1 => c34 w1 next a cap L (hs.later h1) hm hmo)) rfl ?_
        refine o_p (p_pure rfl) rfl ?_
        refine o_p (p_pure rfl) rfl ?_
        refine o_or 4 43 47 _ _ rfl
          (by
            intro hg9
            have hs10 := hg9; try simp only [decide_eq_true_eq, decide_eq_false_iff_not, Bool.not_eq_true', Bool.not_eq_false', Bool.and_eq_true, Bool.or_eq_true, Bool.and_eq_false_iff, Bool.or_eq_false_iff, Bool.not_true, Bool.not_false] at hs10
            refine o_on 43 _ rfl rfl hg9 ?_
            refine o_p (p_fieldAddr rfl rfl fd_26_0 sz_3 rfl) rfl ?_
            refine o_on 43 _ rfl rfl hg9 ?_
            refine o_q (q_load rfl rfl sz_3 aPk rfl) rfl ?_
            refine o_on 43 _ rfl rfl hg9 ?_
            refine o_p (p_pure rfl) rfl ?_
            refine o_p (p_pickf rfl rfl hg9 rfl) rfl ?_
            refine o_nil ?_
            exact s_joinN 4 47 _ rfl rfl rfl (fun w h => by first | exact h | exact h.ent aEt))
          (by
            intro hg11
            have hs12 := hg11; try simp only [decide_eq_true_eq, decide_eq_false_iff_not, Bool.not_eq_true', Bool.not_eq_false', Bool.and_eq_true, Bool.or_eq_true, Bool.and_eq_false_iff, Bool.or_eq_false_iff, Bool.not_true, Bool.not_false] at hs12
            refine o_off 43 _ rfl rfl hg11 rfl ?_
            refine o_off 43 _ rfl rfl hg11 rfl ?_
            refine o_off 43 _ rfl rfl hg11 rfl ?_
            refine o_p (p_pickt rfl rfl hg11 rfl) rfl ?_
            refine o_nil ?_
            exact s_joinN 4 47 _ rfl rfl rfl (fun w h => by first | exact h | exact h.ent aEt)) ?_
        refine o_nil ?_
        refine s_cond rfl (fun h13 => ?_) (fun h13 => ?_)
        · try simp only [decide_eq_true_eq, decide_eq_false_iff_not, Bool.not_eq_true', Bool.not_eq_false', Bool.and_eq_true, Bool.or_eq_true, Bool.and_eq_false_iff, Bool.or_eq_false_iff, Bool.not_true, Bool.not_false] at h13
          have hfu : ¬ (cntT (pls L) < 32 ∧ next < 2147483647) := by have hq := h13; omega
          have hoe := opnE_3 (x := x.pl) hr ho hfu
          refine s_seq ?_
          refine s_weaken (L' := [(3, _), (4, _), (5, _), (6, _), (7, _), (8, _), (9, _)]) aSx (fun _ h => h) ?_
          refine s_region ?_
          refine o_q (q_loadn rfl rfl sz_26 aPk rfl) rfl ?_
          refine o_h0 (h_store rfl rfl rfl sz_26 rfl aPt (by simp only [setMany_length, List.length_set, List.length_cons, List.length_nil, List.length_map]; omega) rfl) (fun _ _ => ?_)
          refine o_p (p_pure rfl) rfl ?_
          refine o_p (p_pure rfl) rfl ?_
          refine o_nil ?_
          exact s_retv (rs := [.cell 6 26, .tmp 7, .tmp 8]) rfl (.cell rfl sz_26 aPk rfl (.tmp rfl (.tmp rfl (.nil)))) (fun w' h' => by have hR := openR_opn hz1 hoe (by decide); exact ⟨((none, 0), []), by rw [hR]; rfl, by rw [hR]; rfl, (HS.files_none h').ent aEt⟩)
        · try simp only [decide_eq_true_eq, decide_eq_false_iff_not, Bool.not_eq_true', Bool.not_eq_false', Bool.and_eq_true, Bool.or_eq_true, Bool.and_eq_false_iff, Bool.or_eq_false_iff, Bool.not_true, Bool.not_false] at h13
          have hfu : cntT (pls L) < 32 ∧ next < 2147483647 := by have hq := h13; omega
          have hoe := opnE_0 (x := x.pl) hr ho hfu
          refine s_skip ?_
          refine s_seq ?_
          refine s_weaken (L' := [(3, _), (4, _), (5, _), (6, _), (7, _), (8, _), (9, _)]) aSx (fun _ h => h) ?_
          refine s_region ?_
          refine o_p (p_fieldAddr rfl rfl fd_26_0 sz_3 rfl) rfl ?_
          refine o_q (q_load rfl rfl sz_3 aPk rfl) rfl ?_
          refine o_p (p_fieldAddr rfl rfl fd_48_1 sz_3 rfl) rfl ?_
          refine o_q (q_load rfl rfl sz_3 aPk rfl) rfl ?_
          refine o_p (p_fieldAddr rfl rfl fd_48_2 sz_3 rfl) rfl ?_
          refine o_q (q_load rfl rfl sz_3 aPk rfl) rfl ?_
          refine o_p (p_fieldAddr rfl rfl fd_48_3 sz_4 rfl) rfl ?_
          refine o_q (q_load rfl rfl sz_4 aPk rfl) rfl ?_
          refine o_p (p_build (cs := [_, _, _, _, _]) rfl rfl pl_48 zr_48 rfl) rfl ?_
          refine o_h (h_alloc rfl zr_48) rfl (fun b14 _ => ?_)
          refine o_h0 (h_store rfl rfl rfl sz_48 rfl aPt (by simp only [setMany_length, List.length_set, List.length_cons, List.length_nil, List.length_map]; omega) rfl) (fun _ _ => ?_)
          refine o_nil ?_
          refine s_seq ?_
          refine s_region ?_
          refine o_q (q_loadn rfl rfl sz_26 aPk rfl) rfl ?_
          refine o_h (h_call rfl fn_19 rfl (fun w1 h1 => c19 w1 next a cap L (hs.later h1) hm hmo hml)) rfl (fun ⟨⟨ca, cc⟩, N⟩ hgc => ?_)
          dsimp only at hgc ⊢
          refine o_h (h_alloc rfl zr_26) rfl (fun b15 _ => ?_)
          refine o_h0 (h_store rfl rfl rfl sz_26 rfl aPt (by simp only [setMany_length, List.length_set, List.length_cons, List.length_nil, List.length_map]; omega) rfl) (fun _ _ => ?_)
          refine o_nil ?_
          refine s_seq ?_
          refine s_region ?_
          refine o_p (p_fieldAddr rfl rfl fd_26_0 sz_3 rfl) rfl ?_
          refine o_q (q_load rfl rfl sz_3 aPk rfl) rfl ?_
          refine o_p (p_pure rfl) rfl ?_
          try (refine o_slot (i64w (by omega) (by omega)) ?_)
          refine o_p (p_fieldAddr rfl rfl fd_26_0 sz_3 rfl) rfl ?_
          refine o_h0 (h_store rfl rfl rfl sz_3 rfl aPt (by simp only [setMany_length, List.length_set, List.length_cons, List.length_nil, List.length_map]; omega) rfl) (fun _ _ => ?_)
          refine o_nil ?_
          refine s_seq ?_
          refine s_seq ?_
          refine s_region ?_
          refine o_q (q_loadn rfl rfl sz_26 aPk rfl) rfl ?_
          refine o_q (q_loadn rfl rfl sz_42 aPk rfl) rfl ?_
          refine o_q (q_call rfl fn_33 rfl (fun w1 h1 => c33 w1 next a cap L rc sq (hs.later h1) hm hmo)) rfl ?_
          refine o_p (p_pure rfl) rfl ?_
          refine o_nil ?_
          refine s_seq ?_
          refine s_region ?_
          refine o_p (p_pure rfl) rfl ?_
          refine o_p (p_pure rfl) rfl ?_
          refine o_nil ?_
          refine s_cond rfl (fun h16 => ?_) (fun h16 => ?_)
          · try simp only [decide_eq_true_eq, decide_eq_false_iff_not, Bool.not_eq_true', Bool.not_eq_false', Bool.and_eq_true, Bool.or_eq_true, Bool.and_eq_false_iff, Bool.or_eq_false_iff, Bool.not_true, Bool.not_false] at h16
            obtain ⟨i, hix, hi, hbf, hbl⟩ := at_hit hok h16
            rw [hix]
            have hoi := hV32.2 _ (mem_nth hi)
            obtain ⟨hiN, hpN⟩ := same_nth hgc hi
            have hpo : (nth N i).op.length = (nth L i).op.length := by have h9 := congrArg (fun f : Fil => f.op.length) hpN; simpa [LFil.pl] using h9
            refine s_fact (fun w h => files_addr (l := N) (a := ca) (cap := cc) (by omega) h aPk) (fun hga => ?_)
            obtain ⟨ga, rfl, hcap, hcm⟩ := hga
            refine s_class (fun w h => HS.file_at hiN h aPk) ?_
            refine s_class (fun w h => HS.opens_split (a := (nth N i).oa) (cap := (nth N i).oc) (l := (nth N i).op) h aPk) ?_
            refine s_seq ?_
            refine s_seq ?_
            refine s_weaken (L' := [(3, _), (4, _), (6, _), (7, _), (8, _), (9, _), (13, _), (14, _), (15, _)]) aSx (fun _ h => h) ?_
            refine s_region ?_
            refine o_p (p_fieldAddr rfl rfl fd_26_1 sz_24 rfl) rfl ?_
            refine o_q (q_load rfl rfl sz_24 aPk rfl) rfl ?_
            refine o_p (p_pure rfl) rfl ?_
            refine o_p (p_indexAddr rfl rfl rfl sl_24 (i) (by omega) (by omega) (Rw.some hs.1 (by omega))) rfl ?_
            refine o_p (p_fieldAddr rfl rfl fd_77_1 sz_4 rfl) rfl ?_
            refine o_q (q_load_old rfl rfl sz_4 ((hs.1.rdj 2 hi rfl))) rfl ?_
            refine o_nil ?_
            refine s_cond rfl (fun h17 => ?_) (fun h17 => ?_)
            · try simp only [decide_eq_true_eq, decide_eq_false_iff_not, Bool.not_eq_true', Bool.not_eq_false', Bool.and_eq_true, Bool.or_eq_true, Bool.and_eq_false_iff, Bool.or_eq_false_iff, Bool.not_true, Bool.not_false] at h17
              have hpd : (nth L i).pd = true := h17
              have hol : oldE (nth (pls L) i) x.pl = 30 := by rw [nth_pls hi, oldE, if_pos (show (nth L i).pl.pd = true from hpd)]
              refine s_seq ?_
              refine s_region ?_
              refine o_q (q_loadn rfl rfl sz_26 aPk rfl) rfl ?_
              refine o_h0 (h_store rfl rfl rfl sz_26 rfl aPt (by simp only [setMany_length, List.length_set, List.length_cons, List.length_nil, List.length_map]; omega) rfl) (fun _ _ => ?_)
              refine o_p (p_pure rfl) rfl ?_
              refine o_p (p_pure rfl) rfl ?_
              refine o_nil ?_
              exact s_retv (rs := [.cell 6 26, .tmp 7, .tmp 8]) rfl (.cell rfl sz_26 aPk rfl (.tmp rfl (.tmp rfl (.nil)))) (fun w' h' => by have hR := openR_old hz1 hoe hbf hbl hol (by decide); exact ⟨((none, 0), []), by rw [hR]; rfl, by rw [hR]; rfl, (HS.files_none h').ent aEt⟩)
            · try simp only [decide_eq_true_eq, decide_eq_false_iff_not, Bool.not_eq_true', Bool.not_eq_false', Bool.and_eq_true, Bool.or_eq_true, Bool.and_eq_false_iff, Bool.or_eq_false_iff, Bool.not_true, Bool.not_false] at h17
              have hpd : (nth L i).pd = false := by have hq := h17; simpa using hq
              refine s_skip ?_
              refine s_seq ?_
              refine s_seq ?_
              refine s_region ?_
              refine o_p (p_pure rfl) rfl ?_
              refine o_nil ?_
              refine s_block ?_
              refine s_loopI (α := Nat) [7, 8, 16, 76, 77, 78, 79, 80, 81, 82, 83, 84, 85, 86, 87, 88, 89, 90, 91, 92, 93, 94, 95, 96, 97, 98] (fun k => [(16, .int .i64 (k : Int))]) (fun _ => HS w [] [.own (.slice (nth N i).oa (nth N i).op.length (nth N i).oc) 48 5 (nth N i).op.length ((nth N i).op.flatMap LOpn.vals), .star ((nth N i).op.map subO), .blk ga 77 (cc * 4) (N.flatMap LFil.vals), .star ((others N i).map subF), .blk b15 26 2 [.int .i64 (next + 1), .slice (some ⟨ga, 0, none⟩) N.length cc], .blk b14 48 5 (newO x next).vals, .blk b5 26 2 [.int .i64 0, .slice none 0 0], .blk b4 26 2 [.int .i64 0, .slice none 0 0], .blk b1 26 2 [.int .i64 next, .slice a L.length cap], .blk b2 42 2 [.int .i64 rc, .int .i64 sq], .blk b3 48 5 x.vals]) (fun k => k ≤ (nth L i).op.length ∧ ∀ m, m < k → cfl x.pl (nth (nth L i).op m).pl = false) (fun k => (nth L i).op.length - k) 0 ⟨Nat.zero_le _, fun m p => absurd p (Nat.not_lt_zero m)⟩ aSx (fun w h => h.ent aEt) (fun k hk => ?_)
              obtain ⟨hk1, hk2⟩ := hk
              refine s_seq ?_
              refine s_seq ?_
              refine s_region ?_
              refine o_p (p_pure rfl) rfl ?_
              refine o_p (p_fieldAddr rfl rfl fd_26_1 sz_24 rfl) rfl ?_
              refine o_q (q_load rfl rfl sz_24 aPk rfl) rfl ?_
              refine o_p (p_pure rfl) rfl ?_
              refine o_p (p_indexAddr rfl rfl rfl sl_24 (i) (by omega) (by omega) (Rw.some hs.1 (by omega))) rfl ?_
              refine o_p (p_fieldAddr rfl rfl fd_77_2 sz_75 rfl) rfl ?_
              refine o_q (q_load_old rfl rfl sz_75 ((hs.1.rdj 3 hi rfl))) rfl ?_
              refine o_p (p_len_slice rfl rfl Try.underlying75) rfl ?_
              refine o_p (p_pure rfl) rfl ?_
              refine o_nil ?_
              refine s_cond rfl (fun h18 => ?_) (fun h18 => ?_)
              · try simp only [decide_eq_true_eq, decide_eq_false_iff_not, Bool.not_eq_true', Bool.not_eq_false', Bool.and_eq_true, Bool.or_eq_true, Bool.and_eq_false_iff, Bool.or_eq_false_iff, Bool.not_true, Bool.not_false] at h18
                have hkl : k < (nth L i).op.length := by omega
                refine s_skip ?_
                refine s_seq ?_
                refine s_block ?_
                refine s_seq ?_
                refine s_draw [] mixed ?_
                refine d_p 0 rfl (p_fieldAddr rfl rfl fd_26_1 sz_24 rfl) (by kernel_rfl) rfl rfl ?_
                refine d_q 1 [] rfl (q_load rfl rfl sz_24 aPk rfl) (by kernel_rfl) (by kernel_rfl) (by kernel_rfl) rfl ?_
                refine d_p 2 rfl (p_pure rfl) (by kernel_rfl) rfl rfl ?_
                refine d_p 3 rfl (p_indexAddr rfl rfl rfl sl_24 (i) (by omega) (by omega) (Rw.some hs.1 (by omega))) (by kernel_rfl) rfl rfl ?_
                refine d_p 4 rfl (p_fieldAddr rfl rfl fd_77_2 sz_75 rfl) (by kernel_rfl) rfl rfl ?_
                refine d_q 5 [] rfl (q_load_old rfl rfl sz_75 ((hs.1.rdj 3 hi rfl))) (by kernel_rfl) (by kernel_rfl) (by kernel_rfl) rfl ?_
                refine d_p 6 rfl (p_pure rfl) (by kernel_rfl) rfl rfl ?_
                refine d_p 7 rfl (p_indexAddr rfl rfl rfl sl_75 (k) (by omega) (by omega) (Rw.some (hs.at hi).1 (by omega))) (by kernel_rfl) rfl rfl ?_
                refine d_q 8 [] rfl (q_load_oldn _ rfl rfl sz_48 rfl (Rw.rd (hs.at hi).1 hkl)) (by kernel_rfl) (by kernel_rfl) (by kernel_rfl) rfl ?_
                refine d_q 9 [] rfl (q_loadn rfl rfl sz_48 aPk rfl) (by kernel_rfl) (by kernel_rfl) (by kernel_rfl) rfl ?_
                refine d_q 10 [] rfl (q_call rfl fn_23 rfl (fun w1 h1 => c23 w1 (nth (nth L i).op k) (newO x next) (VW.at hV hi hkl).1 ho)) (by kernel_rfl) (by kernel_rfl) (by kernel_rfl) rfl ?_
                refine d_nil (by kernel_rfl) (fun w h => h.ent aEt) ?_
                refine s_cond rfl (fun h19 => ?_) (fun h19 => ?_)
                · try simp only [decide_eq_true_eq, decide_eq_false_iff_not, Bool.not_eq_true', Bool.not_eq_false', Bool.and_eq_true, Bool.or_eq_true, Bool.and_eq_false_iff, Bool.or_eq_false_iff, Bool.not_true, Bool.not_false] at h19
                  have hol : oldE (nth (pls L) i) x.pl = 28 := by rw [nth_pls hi]; exact oldE_28 hpd hkl (by rw [cfl_comm]; exact h19)
                  refine s_seq ?_
                  refine s_weaken (L' := [(3, _), (4, _), (6, _), (9, _), (13, _), (14, _), (15, _), (16, _), (69, _), (70, _), (71, _), (72, _), (73, _), (74, _)]) aSx (fun _ h => h) ?_
                  refine s_region ?_
                  refine o_q (q_loadn rfl rfl sz_26 aPk rfl) rfl ?_
                  refine o_h0 (h_store rfl rfl rfl sz_26 rfl aPt (by simp only [setMany_length, List.length_set, List.length_cons, List.length_nil, List.length_map]; omega) rfl) (fun _ _ => ?_)
                  refine o_p (p_pure rfl) rfl ?_
                  refine o_p (p_pure rfl) rfl ?_
                  refine o_nil ?_
                  exact s_retv (rs := [.cell 6 26, .tmp 7, .tmp 8]) rfl (.cell rfl sz_26 aPk rfl (.tmp rfl (.tmp rfl (.nil)))) (fun w' h' => by have hR := openR_old hz1 hoe hbf hbl hol (by decide); exact ⟨((none, 0), []), by rw [hR]; rfl, by rw [hR]; rfl, (HS.files_none h').ent aEt⟩)
                · try simp only [decide_eq_true_eq, decide_eq_false_iff_not, Bool.not_eq_true', Bool.not_eq_false', Bool.and_eq_true, Bool.or_eq_true, Bool.and_eq_false_iff, Bool.or_eq_false_iff, Bool.not_true, Bool.not_false] at h19
                  have hno : cfl x.pl (nth (nth L i).op k).pl = false := by have hq : cfl (nth (nth L i).op k).pl (newO x next).pl = false := (by simpa using h19); rw [cfl_comm]; exact hq
                  refine s_skip ?_
                  refine s_blk ?_
                  refine s_weaken (L' := [(3, _), (4, _), (6, _), (9, _), (13, _), (14, _), (15, _), (16, _), (69, _), (70, _), (71, _), (72, _), (73, _), (74, _)]) aSx (fun _ h => h) ?_
                  refine s_region ?_
                  refine o_p (p_pure rfl) rfl ?_
                  refine o_p (p_pure rfl) rfl ?_
                  try (refine o_slot (i64w (by omega) (by omega)) ?_)
                  refine o_p (p_pure rfl) rfl ?_
                  refine o_nil ?_
                  exact s_backI (k + 1) (by omega) ⟨by omega, fun m p => (Nat.lt_or_ge m k).elim (hk2 m) (fun h3 => by have e9 : m = k := (by omega); rw [e9]; exact hno)⟩ aSx (fun w h => h.ent aEt)
              · try simp only [decide_eq_true_eq, decide_eq_false_iff_not, Bool.not_eq_true', Bool.not_eq_false', Bool.and_eq_true, Bool.or_eq_true, Bool.and_eq_false_iff, Bool.or_eq_false_iff, Bool.not_true, Bool.not_false] at h18
                have hol : oldE (nth (pls L) i) x.pl = 0 := by rw [nth_pls hi]; exact oldE_0 hpd (fun m hm => hk2 m (by omega))
                refine s_exit_to rfl ?_
                refine s_seq ?_
                refine s_drawB [.blk ga 77 (cc * 4) (N.flatMap LFil.vals), .star ((nth N i).op.map subO), .star ((others N i).map subF), .blk b15 26 2 [.int .i64 (next + 1), .slice (some ⟨ga, 0, none⟩) N.length cc], .blk b14 48 5 (newO x next).vals, .blk b5 26 2 [.int .i64 0, .slice none 0 0], .blk b4 26 2 [.int .i64 0, .slice none 0 0], .blk b1 26 2 [.int .i64 next, .slice a L.length cap], .blk b2 42 2 [.int .i64 rc, .int .i64 sq], .blk b3 48 5 x.vals] [14] mixed ?_
                refine d_p 0 rfl (p_fieldAddr rfl rfl fd_26_1 sz_24 rfl) (by kernel_rfl) rfl rfl ?_
                refine d_q 1 [[]] rfl (q_load rfl rfl sz_24 aPk rfl) (by kernel_rfl) (by kernel_rfl) (by kernel_rfl) rfl ?_
                refine d_p 2 rfl (p_pure rfl) (by kernel_rfl) rfl rfl ?_
                refine d_p 3 rfl (p_fieldAddr rfl rfl fd_26_1 sz_24 rfl) (by kernel_rfl) rfl rfl ?_
                refine d_q 4 [[]] rfl (q_load rfl rfl sz_24 aPk rfl) (by kernel_rfl) (by kernel_rfl) (by kernel_rfl) rfl ?_
                refine d_p 5 rfl (p_pure rfl) (by kernel_rfl) rfl rfl ?_
                refine d_p 6 rfl (p_indexAddr rfl rfl rfl sl_24 (i) (by omega) (by omega) rfl) (by kernel_rfl) rfl rfl ?_
                refine d_slot (show _ = Value.pointer (some ⟨ga, i * 4, none⟩) from by rw [Nat.zero_add]) ?_
                refine d_p 7 rfl (p_fieldAddr rfl rfl fd_77_2 sz_75 rfl) (by kernel_rfl) rfl rfl ?_
                refine d_q 8 [[]] rfl (q_load_at rfl rfl sz_75 (fun w h => (h.rd_blk (Mc := []) (b := ga) aPk (by rw [flat_get fv4 _ i 3 _ (nth_get hiN) (by decide)]; rfl) (by simp)))) (by kernel_rfl) (by kernel_rfl) (by kernel_rfl) rfl ?_
                refine d_q 9 [[]] rfl (q_loadn rfl rfl sz_48 aPk rfl) (by kernel_rfl) (by kernel_rfl) (by kernel_rfl) rfl ?_
                refine d_h 10 rfl (h_buildSlice (cs := [_, _, _, _, _]) rfl rfl sl_75 zr_48 rfl rfl rfl) (by kernel_rfl) (fun w h => h.ent aEt) rfl (fun b20 _ => ?_)
                refine d_h 11 rfl (h_appendS (n := (nth N i).op.length) (newO x next).vals rfl rfl rfl sl_75 Try.underlying75 zr_48 rfl aPk (src_blk aPk) rfl (ov1 (newO x next)) (by omega) (by simp only [maxLen]; omega)) (by kernel_rfl) (fun w h => h.ent aEt) rfl (fun b21 _ => ?_)
                refine d_p 12 rfl (p_indexAddr rfl rfl rfl sl_24 (i) (by omega) (by omega) rfl) (by kernel_rfl) rfl rfl ?_
                refine d_slot (show _ = Value.pointer (some ⟨ga, i * 4, none⟩) from by rw [Nat.zero_add]) ?_
                refine d_p 13 rfl (p_fieldAddr rfl rfl fd_77_2 sz_75 rfl) (by kernel_rfl) rfl rfl ?_
                refine d_h0 14 rfl (h_store rfl rfl rfl sz_75 rfl aPt (by rw [flat_length fv4]; omega) rfl) (by kernel_rfl) (fun w h => h.ent aEt) (fun _ _ => ?_)
                refine d_turn [] (by kernel_rfl) ?_
                refine d_nil (by kernel_rfl) (fun w h => h.ent aEt) ?_
                refine s_seq ?_
                refine s_weaken (L' := [(3, _), (4, _), (6, _), (9, _), (13, _), (14, _), (15, _), (16, _), (69, _), (70, _), (71, _), (72, _), (73, _), (74, _)]) aSx (fun _ h => h) ?_
                refine s_drawB [.blk b14 48 5 (newO x next).vals, .blk b15 26 2 [.int .i64 (next + 1), .slice (some ⟨ga, 0, none⟩) N.length cc]] [] mixed ?_
                refine d_q 0 [] rfl (q_loadn rfl rfl sz_26 aPk rfl) (by kernel_rfl) (by kernel_rfl) (by kernel_rfl) rfl ?_
                refine d_p 1 rfl (p_fieldAddr rfl rfl fd_48_0 sz_3 rfl) (by kernel_rfl) rfl rfl ?_
                refine d_q 2 [] rfl (q_load rfl rfl sz_3 aPk rfl) (by kernel_rfl) (by kernel_rfl) (by kernel_rfl) rfl ?_
                refine d_h0 3 rfl (h_store rfl rfl rfl sz_26 rfl aPt (by simp only [setMany_length, List.length_set, List.length_cons, List.length_nil, List.length_map]; omega) rfl) (by kernel_rfl) (fun w h => h.ent aEt) (fun _ _ => ?_)
                refine d_p 4 rfl (p_pure rfl) (by kernel_rfl) rfl rfl ?_
                refine d_p 5 rfl (p_pure rfl) (by kernel_rfl) rfl rfl ?_
                refine d_nil (by kernel_rfl) (fun w h => h.ent aEt) ?_
                exact s_retv (rs := [.cell 6 26, .tmp 7, .tmp 8]) rfl (.cell rfl sz_26 aPk rfl (.tmp rfl (.tmp rfl (.nil)))) (fun w' h' => by have hT := openT_old (next := next) (f := ({ nth N i with oa := b21.1, oc := b21.2, op := (nth N i).op ++ [newO x next] } : LFil)) (L := N) (rc := rc) (sq := sq) (x := x) (by rw [hgc]; exact hoe) (by rw [hgc]; exact hbf) (by rw [hgc, hbl, ← nth_pls hiN, hgc]; exact hol) (by rw [hgc, hbl]; simp [LFil.pl, putO, newO, LOpn.pl]); rw [hgc, hbl] at hT; have hR := openR_0 (next := next) (L := pls L) (rc := rc) (sq := sq) (x := x.pl) hz1 (by rw [hT]); exact ⟨((some ⟨ga, 0, none⟩, cc), N.set i ({ nth N i with oa := b21.1, oc := b21.2, op := (nth N i).op ++ [newO x next] } : LFil)), by rw [hR, hT, List.length_set]; rfl, by rw [hR, hT], by have h2 := HS.opens_app (next := next) (x := x) (l := (nth N i).op) (h'.ent (Bs := [.own (.slice b21.1 ((nth N i).op.length + 1) b21.2) 48 5 ((nth N i).op.length + 1) _, .star ((nth N i).op.map subO), .blk ga 77 (cc * 4) _, .star ((others N i).map subF)]) aEt) (by simp) (by rw [flat_append]; rfl); exact HS.file_put (f := ({ nth N i with oa := b21.1, oc := b21.2, op := (nth N i).op ++ [newO x next] } : LFil)) hiN (h2.perm (List.Perm.swap ..)) (flat_set fv4 N i 3 [.slice b21.1 ((nth N i).op.length + 1) b21.2] (nth N i) ({ nth N i with oa := b21.1, oc := b21.2, op := (nth N i).op ++ [newO x next] } : LFil) (nth_get hiN) (by simp [LFil.vals, setMany]) (by simp)) hcap hcm⟩)
          · try simp only [decide_eq_true_eq, decide_eq_false_iff_not, Bool.not_eq_true', Bool.not_eq_false', Bool.and_eq_true, Bool.or_eq_true, Bool.and_eq_false_iff, Bool.or_eq_false_iff, Bool.not_true, Bool.not_false] at h16
            have hnb := at_miss hok h16
            have hokN : Ok next (pls N) := by rw [hgc]; exact hok
            have hnbN : ¬ bsF' (cmps (pls N) rc sq) = true := by rw [hgc]; exact hnb
            have hNL : N.length = L.length := same_len hgc
            have hpl := (place_spec (rc := rc) (sq := sq) hokN).1
            have hplN : (bsL (cmps (pls N) rc sq)) ≤ N.length := by simpa using hpl
            refine s_class (fun w h => HS.files_open (a := ca) (cap := cc) (l := N) h aPk) ?_
            refine s_skip ?_
            refine s_seq ?_
            refine s_weaken (L' := [(4, _), (6, _), (7, _), (8, _), (13, _), (14, _)]) aSx (fun _ h => h) ?_
            refine s_region ?_
            refine o_p (p_pure rfl) rfl ?_
            refine o_nil ?_
            refine s_seq ?_
            refine s_region ?_
            refine o_q (q_loadn rfl rfl sz_42 aPk rfl) rfl ?_
            refine o_q (q_loadn rfl rfl sz_48 aPk rfl) rfl ?_
            refine o_h (h_buildSlice (cs := [_, _, _, _, _]) rfl rfl sl_75 zr_48 rfl rfl rfl) rfl (fun b22 _ => ?_)
            refine o_p (p_build (cs := [_, _, _, _]) rfl rfl pl_77 zr_77 rfl) rfl ?_
            refine o_h (h_alloc rfl zr_77) rfl (fun b23 _ => ?_)
            refine o_h0 (h_store rfl rfl rfl sz_77 rfl aPt (by simp only [setMany_length, List.length_set, List.length_cons, List.length_nil, List.length_map]; omega) rfl) (fun _ _ => ?_)
            refine o_nil ?_
            refine s_seq ?_
            refine s_region ?_
            refine o_p (p_pure rfl) rfl ?_
            refine o_nil ?_
            refine s_seq ?_
            refine s_seq ?_
            refine s_region ?_
            refine o_p (p_pure rfl) rfl ?_
            refine o_nil ?_
            refine s_block ?_
            refine s_loopI (α := Nat × (Option Addr × Nat)) [17, 19, 20, 120, 121, 122, 123, 124, 125, 126, 127, 128, 129, 130, 131, 132, 133, 134, 135, 136, 137, 138, 139, 140, 141, 142, 143, 144, 145, 146, 147, 148, 149, 150] (fun y => [(17, .slice y.2.1 (dC N (bsL (cmps (pls N) rc sq)) (⟨rc, sq, false, some ⟨b22, 0, none⟩, 1, [newO x next]⟩ : LFil) y.1 (decide ((bsL (cmps (pls N) rc sq)) < y.1))).length y.2.2), (19, .bool (decide ((bsL (cmps (pls N) rc sq)) < y.1))), (20, .int .i64 (y.1 : Int))]) (fun y => HS w [] [.own (.slice y.2.1 (dC N (bsL (cmps (pls N) rc sq)) (⟨rc, sq, false, some ⟨b22, 0, none⟩, 1, [newO x next]⟩ : LFil) y.1 (decide ((bsL (cmps (pls N) rc sq)) < y.1))).length y.2.2) 77 4 (dC N (bsL (cmps (pls N) rc sq)) (⟨rc, sq, false, some ⟨b22, 0, none⟩, 1, [newO x next]⟩ : LFil) y.1 (decide ((bsL (cmps (pls N) rc sq)) < y.1))).length ((dC N (bsL (cmps (pls N) rc sq)) (⟨rc, sq, false, some ⟨b22, 0, none⟩, 1, [newO x next]⟩ : LFil) y.1 (decide ((bsL (cmps (pls N) rc sq)) < y.1))).flatMap LFil.vals), .own (.slice ca N.length cc) 77 4 N.length (N.flatMap LFil.vals), .star (N.map subF), .blk b22 48 5 (newO x next).vals, .blk b23 77 4 (⟨rc, sq, false, some ⟨b22, 0, none⟩, 1, [newO x next]⟩ : LFil).vals, .blk b15 26 2 [.int .i64 (next + 1), .slice ca N.length cc], .blk b14 48 5 (newO x next).vals, .blk b5 26 2 [.int .i64 0, .slice none 0 0], .blk b4 26 2 [.int .i64 0, .slice none 0 0], .blk b1 26 2 [.int .i64 next, .slice a L.length cap], .blk b2 42 2 [.int .i64 rc, .int .i64 sq], .blk b3 48 5 x.vals]) (fun y => y.1 ≤ N.length) (fun y => N.length - y.1) (0, (none, 0)) (Nat.zero_le _) aSx (fun w h => (h.own_nil 77 4).ent aEt) (fun ⟨i, x9⟩ hy => ?_)
            dsimp only at hy ⊢
            refine s_seq ?_
            refine s_seq ?_
            refine s_region ?_
            refine o_p (p_pure rfl) rfl ?_
            refine o_p (p_fieldAddr rfl rfl fd_26_1 sz_24 rfl) rfl ?_
            refine o_q (q_load rfl rfl sz_24 aPk rfl) rfl ?_
            refine o_p (p_len_slice rfl rfl Try.underlying24) rfl ?_
            refine o_p (p_pure rfl) rfl ?_
            refine o_nil ?_
            refine s_cond rfl (fun h24 => ?_) (fun h24 => ?_)
            · try simp only [decide_eq_true_eq, decide_eq_false_iff_not, Bool.not_eq_true', Bool.not_eq_false', Bool.and_eq_true, Bool.or_eq_true, Bool.and_eq_false_iff, Bool.or_eq_false_iff, Bool.not_true, Bool.not_false] at h24
              have hiN : i < N.length := by omega
              have hdl1 := dC_le (N := N) (p := (bsL (cmps (pls N) rc sq))) (f := (⟨rc, sq, false, some ⟨b22, 0, none⟩, 1, [newO x next]⟩ : LFil)) (i := i) (b := decide ((bsL (cmps (pls N) rc sq)) < i))
              have hdl2 := dC_le (N := N) (p := (bsL (cmps (pls N) rc sq))) (f := (⟨rc, sq, false, some ⟨b22, 0, none⟩, 1, [newO x next]⟩ : LFil)) (i := i) (b := decide ((bsL (cmps (pls N) rc sq)) ≤ i))
              refine s_fact (fun w h => own_addr (a := ca) (cap := cc) (xs := N.flatMap LFil.vals) (sz := 4) (t := 77) (n := N.length) (by omega) h aPk) (fun hga => ?_)
              obtain ⟨ga, hga, hcap, hcm⟩ := hga
              refine s_skip ?_
              refine s_seq ?_
              refine s_block ?_
              refine s_seq ?_
              refine s_seq ?_
              refine s_cutI (α := Unit) [127, 128, 129, 130, 131, 132, 133, 134, 135, 136, 137, 138] (fun _ => [(138, .bool (decide (i = (bsL (cmps (pls N) rc sq)))))]) (fun _ => HS w [] [.own (.slice x9.1 (dC N (bsL (cmps (pls N) rc sq)) (⟨rc, sq, false, some ⟨b22, 0, none⟩, 1, [newO x next]⟩ : LFil) i (decide ((bsL (cmps (pls N) rc sq)) < i))).length x9.2) 77 4 (dC N (bsL (cmps (pls N) rc sq)) (⟨rc, sq, false, some ⟨b22, 0, none⟩, 1, [newO x next]⟩ : LFil) i (decide ((bsL (cmps (pls N) rc sq)) < i))).length ((dC N (bsL (cmps (pls N) rc sq)) (⟨rc, sq, false, some ⟨b22, 0, none⟩, 1, [newO x next]⟩ : LFil) i (decide ((bsL (cmps (pls N) rc sq)) < i))).flatMap LFil.vals), .own (.slice ca N.length cc) 77 4 N.length (N.flatMap LFil.vals), .star (N.map subF), .blk b22 48 5 (newO x next).vals, .blk b23 77 4 (⟨rc, sq, false, some ⟨b22, 0, none⟩, 1, [newO x next]⟩ : LFil).vals, .blk b15 26 2 [.int .i64 (next + 1), .slice ca N.length cc], .blk b14 48 5 (newO x next).vals, .blk b5 26 2 [.int .i64 0, .slice none 0 0], .blk b4 26 2 [.int .i64 0, .slice none 0 0], .blk b1 26 2 [.int .i64 next, .slice a L.length cap], .blk b2 42 2 [.int .i64 rc, .int .i64 sq], .blk b3 48 5 x.vals]) (fun _ => True) ?_ ?_
              · skip
                refine s_draw [] mixed ?_
                refine d_p 0 rfl (p_pure rfl) (by kernel_rfl) rfl rfl ?_
                refine d_p 1 rfl (p_pure rfl) (by kernel_rfl) rfl rfl ?_
                refine d_p 2 rfl (p_pure rfl) (by kernel_rfl) rfl rfl ?_
                apply d_split 129
                · exact rfl
                · intro hg25
                  have hs26 := hg25; try simp only [decide_eq_true_eq, decide_eq_false_iff_not, Bool.not_eq_true', Bool.not_eq_false', Bool.and_eq_true, Bool.or_eq_true, Bool.and_eq_false_iff, Bool.or_eq_false_iff, Bool.not_true, Bool.not_false] at hs26
                  refine d_qon 3 129 [] rfl rfl rfl hg25 (q_loadn rfl rfl sz_42 aPk rfl) (by kernel_rfl) (by kernel_rfl) (by kernel_rfl) rfl ?_
                  refine d_pon 4 129 rfl rfl rfl hg25 (p_fieldAddr rfl rfl fd_26_1 sz_24 rfl) (by kernel_rfl) rfl rfl ?_
                  refine d_qon 5 129 [] rfl rfl rfl hg25 (q_load rfl rfl sz_24 aPk rfl) (by kernel_rfl) (by kernel_rfl) (by kernel_rfl) rfl ?_
                  refine d_pon 6 129 rfl rfl rfl hg25 (p_pure rfl) (by kernel_rfl) rfl rfl ?_
                  refine d_pon 7 129 rfl rfl rfl hg25 (p_indexAddr rfl rfl rfl sl_24 (i) (by omega) (by omega) hga) (by kernel_rfl) rfl rfl ?_
                  refine d_pon 8 129 rfl rfl rfl hg25 (p_fieldAddr rfl rfl fd_77_0 sz_42 rfl) (by kernel_rfl) rfl rfl ?_
                  refine d_qon 9 129 [] rfl rfl rfl hg25 (q_load_atn [.int .i64 (nth N i).rc, .int .i64 (nth N i).sq] rfl rfl sz_42 rfl (fun w h j v hj => by have h9 := Rw.rd (h.rw_own (l := N) fv4 aPk rfl) hiN j v (by rcases j with _ | _ | j <;> first | exact hj | (simp at hj)); rw [hga] at h9; exact h9)) (by kernel_rfl) (by kernel_rfl) (by kernel_rfl) rfl ?_
                  refine d_qon 10 129 [] rfl rfl rfl hg25 (q_call rfl fn_60 rfl (fun w1 h1 => c60 w1 rc sq (nth N i).rc (nth N i).sq)) (by kernel_rfl) (by kernel_rfl) (by kernel_rfl) rfl ?_
                  refine d_p 11 rfl (p_pickt rfl rfl hg25 rfl) (by kernel_rfl) rfl rfl ?_
                  refine d_nil (by kernel_rfl) (fun w h => h.ent aEt) ?_
                  have hdn : ¬ (bsL (cmps (pls N) rc sq)) < i := by have hq := hg25; simp at hq; omega
                  exact s_joinI () trivial (sl_c (congrArg (fun e => some (Value.bool e)) (by rw [place_dec hokN hnbN hiN]; exact decide_eq_decide.2 (by omega))) aSx) (fun w h => h.ent aEt)
                · intro hg27
                  have hs28 := hg27; try simp only [decide_eq_true_eq, decide_eq_false_iff_not, Bool.not_eq_true', Bool.not_eq_false', Bool.and_eq_true, Bool.or_eq_true, Bool.and_eq_false_iff, Bool.or_eq_false_iff, Bool.not_true, Bool.not_false] at hs28
                  refine d_off 3 129 rfl rfl rfl hg27 (by kernel_rfl) rfl rfl ?_
                  refine d_off 4 129 rfl rfl rfl hg27 (by kernel_rfl) rfl rfl ?_
                  refine d_off 5 129 rfl rfl rfl hg27 (by kernel_rfl) rfl rfl ?_
                  refine d_off 6 129 rfl rfl rfl hg27 (by kernel_rfl) rfl rfl ?_
                  refine d_off 7 129 rfl rfl rfl hg27 (by kernel_rfl) rfl rfl ?_
                  refine d_off 8 129 rfl rfl rfl hg27 (by kernel_rfl) rfl rfl ?_
                  refine d_off 9 129 rfl rfl rfl hg27 (by kernel_rfl) rfl rfl ?_
                  refine d_off 10 129 rfl rfl rfl hg27 (by kernel_rfl) rfl rfl ?_
                  refine d_p 11 rfl (p_pickf rfl rfl hg27 rfl) (by kernel_rfl) rfl rfl ?_
                  refine d_nil (by kernel_rfl) (fun w h => h.ent aEt) ?_
                  have hdn : (bsL (cmps (pls N) rc sq)) < i := by have hq := hg27; simp at hq; omega
                  exact s_joinI () trivial (sl_c (congrArg (fun e => some (Value.bool e)) (by simp; omega)) aSx) (fun w h => h.ent aEt)
              · intro _ _
                refine s_cutI (α := Option Addr × Nat) [17, 19, 139, 140, 141, 142] (fun z => [(17, .slice z.1 (dC N (bsL (cmps (pls N) rc sq)) (⟨rc, sq, false, some ⟨b22, 0, none⟩, 1, [newO x next]⟩ : LFil) i (decide ((bsL (cmps (pls N) rc sq)) ≤ i))).length z.2), (19, .bool (decide ((bsL (cmps (pls N) rc sq)) ≤ i)))]) (fun z => HS w [] [.own (.slice z.1 (dC N (bsL (cmps (pls N) rc sq)) (⟨rc, sq, false, some ⟨b22, 0, none⟩, 1, [newO x next]⟩ : LFil) i (decide ((bsL (cmps (pls N) rc sq)) ≤ i))).length z.2) 77 4 (dC N (bsL (cmps (pls N) rc sq)) (⟨rc, sq, false, some ⟨b22, 0, none⟩, 1, [newO x next]⟩ : LFil) i (decide ((bsL (cmps (pls N) rc sq)) ≤ i))).length ((dC N (bsL (cmps (pls N) rc sq)) (⟨rc, sq, false, some ⟨b22, 0, none⟩, 1, [newO x next]⟩ : LFil) i (decide ((bsL (cmps (pls N) rc sq)) ≤ i))).flatMap LFil.vals), .own (.slice ca N.length cc) 77 4 N.length (N.flatMap LFil.vals), .star (N.map subF), .blk b22 48 5 (newO x next).vals, .blk b23 77 4 (⟨rc, sq, false, some ⟨b22, 0, none⟩, 1, [newO x next]⟩ : LFil).vals, .blk b15 26 2 [.int .i64 (next + 1), .slice ca N.length cc], .blk b14 48 5 (newO x next).vals, .blk b5 26 2 [.int .i64 0, .slice none 0 0], .blk b4 26 2 [.int .i64 0, .slice none 0 0], .blk b1 26 2 [.int .i64 next, .slice a L.length cap], .blk b2 42 2 [.int .i64 rc, .int .i64 sq], .blk b3 48 5 x.vals]) (fun _ => True) ?_ ?_
                · skip
                  refine s_cond rfl (fun h29 => ?_) (fun h29 => ?_)
                  · try simp only [decide_eq_true_eq, decide_eq_false_iff_not, Bool.not_eq_true', Bool.not_eq_false', Bool.and_eq_true, Bool.or_eq_true, Bool.and_eq_false_iff, Bool.or_eq_false_iff, Bool.not_true, Bool.not_false] at h29
                    have hip : i = (bsL (cmps (pls N) rc sq)) := by have hq := h29; simpa using hq
                    refine s_seq ?_
                    refine s_region ?_
                    refine o_p (p_pure rfl) rfl ?_
                    refine o_q (q_loadn rfl rfl sz_77 aPk rfl) rfl ?_
                    refine o_h (h_buildSlice (cs := [_, _, _, _]) rfl rfl sl_24 zr_77 rfl rfl rfl) rfl (fun b30 _ => ?_)
                    refine o_h (h_appendS (n := (dC N (bsL (cmps (pls N) rc sq)) (⟨rc, sq, false, some ⟨b22, 0, none⟩, 1, [newO x next]⟩ : LFil) i (decide ((bsL (cmps (pls N) rc sq)) < i))).length) (⟨rc, sq, false, some ⟨b22, 0, none⟩, 1, [newO x next]⟩ : LFil).vals rfl rfl rfl sl_24 Try.underlying24 zr_77 rfl aPk (src_blk aPk) rfl (fv1 (⟨rc, sq, false, some ⟨b22, 0, none⟩, 1, [newO x next]⟩ : LFil)) (by omega) (by simp only [maxLen]; omega)) rfl (fun b31 _ => ?_)
                    refine o_p (p_pure rfl) rfl ?_
                    refine o_nil ?_
                    refine s_region ?_
                    refine o_p (p_pure rfl) rfl ?_
                    refine o_nil ?_
                    obtain ⟨hj1, hj2⟩ := app_flatF (show (dC N (bsL (cmps (pls N) rc sq)) (⟨rc, sq, false, some ⟨b22, 0, none⟩, 1, [newO x next]⟩ : LFil) i (decide ((bsL (cmps (pls N) rc sq)) < i))) ++ [(⟨rc, sq, false, some ⟨b22, 0, none⟩, 1, [newO x next]⟩ : LFil)] = (dC N (bsL (cmps (pls N) rc sq)) (⟨rc, sq, false, some ⟨b22, 0, none⟩, 1, [newO x next]⟩ : LFil) i (decide ((bsL (cmps (pls N) rc sq)) ≤ i))) from by rw [hip]; exact dC_ins (by omega))
                    rw [hj1, hj2]
                    exact s_joinI b31 trivial (sl_c rfl (sl_c (congrArg (fun e => some (Value.bool e)) (by simp; omega)) aSx)) (fun w h => h.ent aEt)
                  · try simp only [decide_eq_true_eq, decide_eq_false_iff_not, Bool.not_eq_true', Bool.not_eq_false', Bool.and_eq_true, Bool.or_eq_true, Bool.and_eq_false_iff, Bool.or_eq_false_iff, Bool.not_true, Bool.not_false] at h29
                    have hip : ¬ i = (bsL (cmps (pls N) rc sq)) := by have hq := h29; simpa using hq
                    refine s_skip ?_
                    rw [show decide ((bsL (cmps (pls N) rc sq)) < i) = decide ((bsL (cmps (pls N) rc sq)) ≤ i) from decide_eq_decide.2 (by omega)]
                    exact s_joinI x9 trivial aSx (fun w h => h.ent aEt)
                · intro z9 _
                  refine s_region ?_
                  refine o_p (p_pure rfl) rfl ?_
                  refine o_p (p_fieldAddr rfl rfl fd_26_1 sz_24 rfl) rfl ?_
                  refine o_q (q_load rfl rfl sz_24 aPk rfl) rfl ?_
                  refine o_p (p_pure rfl) rfl ?_
                  refine o_p (p_indexAddr rfl rfl rfl sl_24 (i) (by omega) (by omega) hga) rfl ?_
                  refine o_q (q_load_atn (nth N i).vals rfl rfl sz_77 rfl (fun w h j v hj => by have h9 := Rw.rd (h.rw_own (l := N) fv4 aPk rfl) hiN j v hj; rw [hga] at h9; exact h9)) rfl ?_
                  refine o_h (h_buildSlice (cs := [_, _, _, _]) rfl rfl sl_24 zr_77 rfl rfl rfl) rfl (fun b32 _ => ?_)
                  refine o_h (h_appendS (n := (dC N (bsL (cmps (pls N) rc sq)) (⟨rc, sq, false, some ⟨b22, 0, none⟩, 1, [newO x next]⟩ : LFil) i (decide ((bsL (cmps (pls N) rc sq)) ≤ i))).length) (nth N i).vals rfl rfl rfl sl_24 Try.underlying24 zr_77 rfl aPk (src_blk aPk) rfl (fv1 (nth N i)) (by omega) (by simp only [maxLen]; omega)) rfl (fun b33 _ => ?_)
                  refine o_p (p_pure rfl) rfl ?_
                  refine o_nil ?_
                  refine s_blk ?_
                  refine s_region ?_
                  refine o_p (p_pure rfl) rfl ?_
                  refine o_p (p_pure rfl) rfl ?_
                  try (refine o_slot (i64w (by omega) (by omega)) ?_)
                  refine o_p (p_pure rfl) rfl ?_
                  refine o_nil ?_
                  obtain ⟨hj1, hj2⟩ := app_flatF (dC_app (p := (bsL (cmps (pls N) rc sq))) (f := (⟨rc, sq, false, some ⟨b22, 0, none⟩, 1, [newO x next]⟩ : LFil)) hiN)
                  rw [hj1, hj2]
                  exact s_backI (i + 1, b33) (by show N.length - (i + 1) < N.length - i; omega) (by show i + 1 ≤ N.length; omega) (sl_c rfl (sl_c (congrArg (fun e => some (Value.bool e)) (decide_eq_decide.2 (by show (bsL (cmps (pls N) rc sq)) ≤ i ↔ (bsL (cmps (pls N) rc sq)) < i + 1; omega))) (sl_c rfl aSx))) (fun w h => h.ent aEt)
            · try simp only [decide_eq_true_eq, decide_eq_false_iff_not, Bool.not_eq_true', Bool.not_eq_false', Bool.and_eq_true, Bool.or_eq_true, Bool.and_eq_false_iff, Bool.or_eq_false_iff, Bool.not_true, Bool.not_false] at h24
              have e8 : i = N.length := by omega
              subst e8
              have hdl3 := dC_le (N := N) (p := (bsL (cmps (pls N) rc sq))) (f := (⟨rc, sq, false, some ⟨b22, 0, none⟩, 1, [newO x next]⟩ : LFil)) (i := N.length) (b := decide ((bsL (cmps (pls N) rc sq)) < N.length))
              refine s_exit_to rfl ?_
              refine s_seq ?_
              refine s_seq ?_
              refine s_region ?_
              refine o_p (p_pure rfl) rfl ?_
              refine o_p (p_pure rfl) rfl ?_
              refine o_nil ?_
              refine s_cutI (α := Option Addr × Nat) [17, 153, 154, 155, 156] (fun z => [(17, .slice z.1 (insAt N (bsL (cmps (pls N) rc sq)) (⟨rc, sq, false, some ⟨b22, 0, none⟩, 1, [newO x next]⟩ : LFil)).length z.2)]) (fun z => HS w [] [.own (.slice z.1 (insAt N (bsL (cmps (pls N) rc sq)) (⟨rc, sq, false, some ⟨b22, 0, none⟩, 1, [newO x next]⟩ : LFil)).length z.2) 77 4 (insAt N (bsL (cmps (pls N) rc sq)) (⟨rc, sq, false, some ⟨b22, 0, none⟩, 1, [newO x next]⟩ : LFil)).length ((insAt N (bsL (cmps (pls N) rc sq)) (⟨rc, sq, false, some ⟨b22, 0, none⟩, 1, [newO x next]⟩ : LFil)).flatMap LFil.vals), .own (.slice ca N.length cc) 77 4 N.length (N.flatMap LFil.vals), .star (N.map subF), .blk b22 48 5 (newO x next).vals, .blk b23 77 4 (⟨rc, sq, false, some ⟨b22, 0, none⟩, 1, [newO x next]⟩ : LFil).vals, .blk b15 26 2 [.int .i64 (next + 1), .slice ca N.length cc], .blk b14 48 5 (newO x next).vals, .blk b5 26 2 [.int .i64 0, .slice none 0 0], .blk b4 26 2 [.int .i64 0, .slice none 0 0], .blk b1 26 2 [.int .i64 next, .slice a L.length cap], .blk b2 42 2 [.int .i64 rc, .int .i64 sq], .blk b3 48 5 x.vals]) (fun _ => True) ?_ ?_
              · skip
                refine s_cond rfl (fun h34 => ?_) (fun h34 => ?_)
                · try simp only [decide_eq_true_eq, decide_eq_false_iff_not, Bool.not_eq_true', Bool.not_eq_false', Bool.and_eq_true, Bool.or_eq_true, Bool.and_eq_false_iff, Bool.or_eq_false_iff, Bool.not_true, Bool.not_false] at h34
                  have hpe : ¬ (bsL (cmps (pls N) rc sq)) < N.length := by have hq := h34; simp at hq; omega
                  refine s_region ?_
                  refine o_p (p_pure rfl) rfl ?_
                  refine o_q (q_loadn rfl rfl sz_77 aPk rfl) rfl ?_
                  refine o_h (h_buildSlice (cs := [_, _, _, _]) rfl rfl sl_24 zr_77 rfl rfl rfl) rfl (fun b35 _ => ?_)
                  refine o_h (h_appendS (n := (dC N (bsL (cmps (pls N) rc sq)) (⟨rc, sq, false, some ⟨b22, 0, none⟩, 1, [newO x next]⟩ : LFil) N.length (decide ((bsL (cmps (pls N) rc sq)) < N.length))).length) (⟨rc, sq, false, some ⟨b22, 0, none⟩, 1, [newO x next]⟩ : LFil).vals rfl rfl rfl sl_24 Try.underlying24 zr_77 rfl aPk (src_blk aPk) rfl (fv1 (⟨rc, sq, false, some ⟨b22, 0, none⟩, 1, [newO x next]⟩ : LFil)) (by omega) (by simp only [maxLen]; omega)) rfl (fun b36 _ => ?_)
                  refine o_p (p_pure rfl) rfl ?_
                  refine o_nil ?_
                  obtain ⟨hj1, hj2⟩ := app_flatF (dC_end1 (f := (⟨rc, sq, false, some ⟨b22, 0, none⟩, 1, [newO x next]⟩ : LFil)) hplN hpe)
                  rw [hj1, hj2]
                  exact s_joinI b36 trivial aSx (fun w h => h.ent aEt)
                · try simp only [decide_eq_true_eq, decide_eq_false_iff_not, Bool.not_eq_true', Bool.not_eq_false', Bool.and_eq_true, Bool.or_eq_true, Bool.and_eq_false_iff, Bool.or_eq_false_iff, Bool.not_true, Bool.not_false] at h34
                  have hpe : (bsL (cmps (pls N) rc sq)) < N.length := by have hq := h34; first | omega | (simp at hq; omega)
                  refine s_skip ?_
                  rw [dC_end2 hpe]
                  exact s_joinI x9 trivial aSx (fun w h => h.ent aEt)
              · intro zr _
                refine s_seq ?_
                refine s_region ?_
                refine o_p (p_pure rfl) rfl ?_
                refine o_p (p_fieldAddr rfl rfl fd_26_1 sz_24 rfl) rfl ?_
                refine o_h0 (h_store rfl rfl rfl sz_24 rfl aPt (by show 1 + 1 ≤ 2; omega) rfl) (fun _ _ => ?_)
                refine o_nil ?_
                refine s_seq ?_
                refine s_drawB [.blk b14 48 5 (newO x next).vals, .blk b15 26 2 [.int .i64 (next + 1), .slice zr.1 (insAt N (bsL (cmps (pls N) rc sq)) (⟨rc, sq, false, some ⟨b22, 0, none⟩, 1, [newO x next]⟩ : LFil)).length zr.2], .own (.slice zr.1 (insAt N (bsL (cmps (pls N) rc sq)) (⟨rc, sq, false, some ⟨b22, 0, none⟩, 1, [newO x next]⟩ : LFil)).length zr.2) 77 4 (insAt N (bsL (cmps (pls N) rc sq)) (⟨rc, sq, false, some ⟨b22, 0, none⟩, 1, [newO x next]⟩ : LFil)).length ((insAt N (bsL (cmps (pls N) rc sq)) (⟨rc, sq, false, some ⟨b22, 0, none⟩, 1, [newO x next]⟩ : LFil)).flatMap LFil.vals), .star (N.map subF), .blk b22 48 5 (newO x next).vals] [] mixed ?_
                refine d_q 0 [] rfl (q_loadn rfl rfl sz_26 aPk rfl) (by kernel_rfl) (by kernel_rfl) (by kernel_rfl) rfl ?_
                refine d_p 1 rfl (p_fieldAddr rfl rfl fd_48_0 sz_3 rfl) (by kernel_rfl) rfl rfl ?_
                refine d_q 2 [] rfl (q_load rfl rfl sz_3 aPk rfl) (by kernel_rfl) (by kernel_rfl) (by kernel_rfl) rfl ?_
                refine d_h0 3 rfl (h_store rfl rfl rfl sz_26 rfl aPt (by simp only [setMany_length, List.length_set, List.length_cons, List.length_nil, List.length_map]; omega) rfl) (by kernel_rfl) (fun w h => h.ent aEt) (fun _ _ => ?_)
                refine d_p 4 rfl (p_pure rfl) (by kernel_rfl) rfl rfl ?_
                refine d_p 5 rfl (p_pure rfl) (by kernel_rfl) rfl rfl ?_
                refine d_nil (by kernel_rfl) (fun w h => h.ent aEt) ?_
                exact s_retv (rs := [.cell 6 26, .tmp 7, .tmp 8]) rfl (.cell rfl sz_26 aPk rfl (.tmp rfl (.tmp rfl (.nil)))) (fun w' h' => by have hT := openT_new (next := next) (f := (⟨rc, sq, false, some ⟨b22, 0, none⟩, 1, [newO x next]⟩ : LFil)) (L := N) (rc := rc) (sq := sq) (x := x) (by rw [hgc]; exact hoe) hnbN rfl; rw [ins_set hplN] at hT; rw [hgc] at hT; have hR := openR_0 (next := next) (L := pls L) (rc := rc) (sq := sq) (x := x.pl) hz1 (by rw [hT]); exact ⟨(zr, (insAt N (bsL (cmps (pls N) rc sq)) (⟨rc, sq, false, some ⟨b22, 0, none⟩, 1, [newO x next]⟩ : LFil))), by rw [hR, hT, hgc]; rfl, by rw [hR, hT, hgc], by have h2 := new_file (h'.ent (Bs := [.blk b22 48 5 (newO x next).vals, .own (.slice zr.1 (insAt N (bsL (cmps (pls N) rc sq)) (⟨rc, sq, false, some ⟨b22, 0, none⟩, 1, [newO x next]⟩ : LFil)).length zr.2) 77 4 (insAt N (bsL (cmps (pls N) rc sq)) (⟨rc, sq, false, some ⟨b22, 0, none⟩, 1, [newO x next]⟩ : LFil)).length ((insAt N (bsL (cmps (pls N) rc sq)) (⟨rc, sq, false, some ⟨b22, 0, none⟩, 1, [newO x next]⟩ : LFil)).flatMap LFil.vals), .star (N.map subF)]) aEt) .here; rw [hgc]; exact files_ins2 (f := (⟨rc, sq, false, some ⟨b22, 0, none⟩, 1, [newO x next]⟩ : LFil)) (by have h3 := h2; rw [hgc] at h3; exact h3) rfl rfl⟩)

end Go.Proofs

namespace Go.Proofs
open Go Go.RowKit Gx
set_option linter.unusedVariables false
set_option linter.unusedSimpArgs false
attribute [local irreducible] Go.Calls Gx.S Gx.O Gx.D Gx.OpP Gx.OpQ Gx.OpH

theorem fn_37 : isFn Try.prog 37 = true := by kernel_rfl
theorem fn_38 : isFn Try.prog 38 = true := by kernel_rfl
theorem fn_40 : isFn Try.prog 40 = true := by kernel_rfl


theorem nil_b {G : List LFil} (h : pls G = []) : G.length ≤ 1000 ∧ (∀ f ∈ G, f.op.length ≤ 1000) ∧ ∀ f ∈ G, ∀ o ∈ f.op, o.lk.length ≤ 1000 := by
  obtain rfl : G = [] := by simpa using h
  exact ⟨by simp, fun f hf => (by cases hf), fun f hf => (by cases hf)⟩
end Go.Proofs

namespace Go.Proofs
open Go Go.RowKit Gx
set_option linter.unusedVariables false
set_option linter.unusedSimpArgs false
attribute [local irreducible] Go.Calls Gx.S Gx.O Gx.D Gx.OpP Gx.OpQ Gx.OpH

theorem fn_89 : isFn Try.prog 89 = true := by kernel_rfl
theorem fn_51 : isFn Try.prog 51 = true := by kernel_rfl


theorem openT_err {next : Int} {L : List Fil} {rc sq : Int} {x : Opn} (h : ¬ (openT next L rc sq x).2.2.2 = 0) : openT next L rc sq x = (L, next, 0, (openT next L rc sq x).2.2.2) := by
  unfold openT at h ⊢
  split
  · rename_i h1
    rw [if_pos h1] at h
    split
    · rename_i h2
      rw [if_pos h2] at h
      split
      · rename_i h3
        rw [if_pos h3] at h
        exact absurd rfl h
      · rfl
    · rename_i h2
      rw [if_neg h2] at h
      exact absurd rfl h
  · rfl
theorem closeT_err {L : List Fil} {a : Int} (h : ¬ (closeT L a).2.2 = 0) : closeT L a = (L, false, (closeT L a).2.2) := by
  unfold closeT at h ⊢
  split
  · rename_i h1
    rw [if_pos h1] at h
    split at h <;> exact absurd rfl h
  · rfl
theorem markT_err {L : List Fil} {a : Int} {d : Bool} (h : ¬ (markT L a d).2 = 0) : (markT L a d).1 = L := by
  unfold markT at h ⊢
  repeat' split
  all_goals first
    | rfl
    | (simp_all; done)
theorem lockT_err {L : List Fil} {a : Int} {q : Lock} (h : ¬ (lockT L a q).2 = 0) : (lockT L a q).1 = L := by
  unfold lockT at h ⊢
  repeat' split
  all_goals first
    | rfl
    | (simp_all; done)
theorem unlockT_err {L : List Fil} {a fr cnt : Int} (h : ¬ (unlockT L a fr cnt).2 = 0) : (unlockT L a fr cnt).1 = L := by
  unfold unlockT at h ⊢
  repeat' split
  all_goals first
    | rfl
    | (simp_all; done)
theorem doT_err {next : Int} {L : List Fil} {a : HAct} (h : ¬ (doT next L a).2.2.2 = 0) : doT next L a = (L, next, 0, (doT next L a).2.2.2) := by
  unfold doT at h ⊢
  by_cases h0 : a.kd = 0
  · rw [if_pos h0] at h ⊢; exact openT_err h
  rw [if_neg h0] at h ⊢
  by_cases h1 : a.kd = 1
  · rw [if_pos h1] at h ⊢
    have e := closeT_err h
    dsimp only at h ⊢
    rw [e]
    rfl
  rw [if_neg h1] at h ⊢
  by_cases h2 : a.kd = 2
  · rw [if_pos h2] at h ⊢
    dsimp only at h ⊢
    rw [markT_err h]
  rw [if_neg h2] at h ⊢
  by_cases h3 : a.kd = 3
  · rw [if_pos h3] at h ⊢
    dsimp only at h ⊢
    rw [lockT_err h]
  rw [if_neg h3] at h ⊢
  by_cases h4 : a.kd = 4
  · rw [if_pos h4] at h ⊢
    dsimp only at h ⊢
    rw [unlockT_err h]
  rw [if_neg h4] at h ⊢
  repeat' split
  all_goals rfl
theorem afT_act {next : Int} {L : List Fil} {r : List Fil × Int} {D : List Fil × Int × Int × Int} (hk : Ok next L) (hD : D = (r.1, next, 0, r.2)) : (afT next L r).2 = D.2.2.2 ∧ (D.2.2.2 = 0 → afT next L r = ((D.1, D.2.1), 0) ∧ D.2.2.1 = 0) := by
  subst hD
  have hz := ok_chk hk
  rw [afT, if_pos hz]
  split
  · rename_i h
    exact ⟨h.symm, fun _ => ⟨rfl, rfl⟩⟩
  · rename_i h
    exact ⟨rfl, fun h2 => absurd h2 h⟩
theorem act0 {next : Int} {L : List Fil} {a : HAct} (hk : Ok next L) (h0 : a.kd = 0) : (openR next L a.rc a.sq ⟨0, a.ac, a.sh, a.fl, []⟩).2.2 = (doT next L a).2.2.2 ∧ ((doT next L a).2.2.2 = 0 → openR next L a.rc a.sq ⟨0, a.ac, a.sh, a.fl, []⟩ = (((doT next L a).1, (doT next L a).2.1), (doT next L a).2.2.1, 0)) := by
  have hz := ok_chk hk
  rw [openR, if_pos hz, doT, if_pos h0]
  split
  · rename_i h
    exact ⟨h.symm, fun _ => rfl⟩
  · rename_i h
    exact ⟨rfl, fun h2 => absurd h2 h⟩
theorem act1 {next : Int} {L : List Fil} {a : HAct} (hk : Ok next L) (h0 : ¬ a.kd = 0) (h1 : a.kd = 1) : (closeR next L a.hd).2.2 = (doT next L a).2.2.2 ∧ ((doT next L a).2.2.2 = 0 → closeR next L a.hd = (((doT next L a).1, (doT next L a).2.1), (closeT L a.hd).2.1, 0) ∧ (doT next L a).2.2.1 = (bif (closeT L a.hd).2.1 then 1 else 0)) := by
  have hz := ok_chk hk
  rw [closeR, if_pos hz, doT, if_neg h0, if_pos h1]
  split
  · rename_i h
    exact ⟨h.symm, fun _ => ⟨rfl, by rw [cond_eq_ite]⟩⟩
  · rename_i h
    exact ⟨rfl, fun h2 => absurd h2 h⟩
theorem act2 {next : Int} {L : List Fil} {a : HAct} (hk : Ok next L) (h0 : ¬ a.kd = 0) (h1 : ¬ a.kd = 1) (h2 : a.kd = 2) : (afT next L (markT L a.hd a.fl)).2 = (doT next L a).2.2.2 ∧ ((doT next L a).2.2.2 = 0 → afT next L (markT L a.hd a.fl) = (((doT next L a).1, (doT next L a).2.1), 0) ∧ (doT next L a).2.2.1 = 0) :=
  afT_act hk (by rw [doT, if_neg h0, if_neg h1, if_pos h2])
theorem act3 {next : Int} {L : List Fil} {a : HAct} (hk : Ok next L) (h0 : ¬ a.kd = 0) (h1 : ¬ a.kd = 1) (h2 : ¬ a.kd = 2) (h3 : a.kd = 3) : (afT next L (lockT L a.hd a.lock)).2 = (doT next L a).2.2.2 ∧ ((doT next L a).2.2.2 = 0 → afT next L (lockT L a.hd a.lock) = (((doT next L a).1, (doT next L a).2.1), 0) ∧ (doT next L a).2.2.1 = 0) :=
  afT_act hk (by rw [doT, if_neg h0, if_neg h1, if_neg h2, if_pos h3])
theorem act4 {next : Int} {L : List Fil} {a : HAct} (hk : Ok next L) (h0 : ¬ a.kd = 0) (h1 : ¬ a.kd = 1) (h2 : ¬ a.kd = 2) (h3 : ¬ a.kd = 3) (h4 : a.kd = 4) : (afT next L (unlockT L a.hd a.fr a.cnt)).2 = (doT next L a).2.2.2 ∧ ((doT next L a).2.2.2 = 0 → afT next L (unlockT L a.hd a.fr a.cnt) = (((doT next L a).1, (doT next L a).2.1), 0) ∧ (doT next L a).2.2.1 = 0) :=
  afT_act hk (by rw [doT, if_neg h0, if_neg h1, if_neg h2, if_neg h3, if_pos h4])
theorem act5 {next : Int} {L : List Fil} {a : HAct} (hk : Ok next L) (h0 : ¬ a.kd = 0) (h1 : ¬ a.kd = 1) (h2 : ¬ a.kd = 2) (h3 : ¬ a.kd = 3) (h4 : ¬ a.kd = 4) (h5 : a.kd = 5) : mayR next L a.hd a.fr a.cnt false = (doT next L a).2.2.2 ∧ doT next L a = (L, next, 0, (doT next L a).2.2.2) := by
  have hz := ok_chk hk
  rw [mayR, if_pos hz, doT, if_neg h0, if_neg h1, if_neg h2, if_neg h3, if_neg h4, if_pos h5, kpW_f]
  exact ⟨rfl, rfl⟩
theorem act6 {next : Int} {L : List Fil} {a : HAct} (hk : Ok next L) (h0 : ¬ a.kd = 0) (h1 : ¬ a.kd = 1) (h2 : ¬ a.kd = 2) (h3 : ¬ a.kd = 3) (h4 : ¬ a.kd = 4) (h5 : ¬ a.kd = 5) (h6 : a.kd = 6) : mayR next L a.hd a.fr a.cnt true = (doT next L a).2.2.2 ∧ doT next L a = (L, next, 0, (doT next L a).2.2.2) := by
  have hz := ok_chk hk
  rw [mayR, if_pos hz, doT, if_neg h0, if_neg h1, if_neg h2, if_neg h3, if_neg h4, if_neg h5, if_pos h6, kpW_t]
  exact ⟨rfl, rfl⟩
theorem act7 {next : Int} {L : List Fil} {a : HAct} (h0 : ¬ a.kd = 0) (h1 : ¬ a.kd = 1) (h2 : ¬ a.kd = 2) (h3 : ¬ a.kd = 3) (h4 : ¬ a.kd = 4) (h5 : ¬ a.kd = 5) (h6 : ¬ a.kd = 6) : doT next L a = (L, next, 0, 0) := by
  rw [doT, if_neg h0, if_neg h1, if_neg h2, if_neg h3, if_neg h4, if_neg h5, if_neg h6]

set_option maxRecDepth 20000 in
set_option maxHeartbeats 2000000 in
theorem c51 (w : World) (next : Int) (a : Option Addr) (cap : Nat) (L : List LFil) (a9 : HAct) (hw : HS w (fps [.files a cap L]) [.files a cap L] w) (hk9 : Ok next (pls L)) : Calls Try.prog 51 #[.agg #[.int .i64 next, .slice a L.length cap], .agg #[.int .i64 a9.kd, .int .i64 a9.hd, .int .i64 a9.ac, .int .i64 a9.sh, .int .i64 a9.fr, .int .i64 a9.cnt, .int .i64 a9.rc, .int .i64 a9.sq, .bool a9.fl]] w fun en w' => ∃ g : (Option Addr × Nat) × List LFil, en = .returned (.tuple #[.agg #[.int .i64 (doT next (pls L) a9).2.1, .slice g.1.1 g.2.length g.1.2], .agg #[.int .i64 (doT next (pls L) a9).2.2.2, .int .i64 (doT next (pls L) a9).2.2.1]]) ∧ pls g.2 = (doT next (pls L) a9).1 ∧ HS w (fps [.files a cap L]) [.files g.1.1 g.1.2 g.2] w' := by
  have hb := vw_b hk9.vw
  refine enter (args := [_, _]) Try.func51 Try.ntmps51 rfl rfl hw ?_
  refine s_seq ?_
  refine s_region ?_
  refine o_h (h_box rfl rfl) rfl (fun b1 _ => ?_)
  refine o_h (h_box rfl rfl) rfl (fun b2 _ => ?_)
  refine o_h (h_alloc rfl zr_26) rfl (fun b3 _ => ?_)
  refine o_h (h_alloc rfl zr_40) rfl (fun b4 _ => ?_)
  refine o_nil ?_
  refine s_seq ?_
  refine s_region ?_
  refine o_q (q_loadn rfl rfl sz_26 aPk rfl) rfl ?_
  refine o_h (h_alloc rfl zr_26) rfl (fun b5 _ => ?_)
  refine o_h0 (h_store rfl rfl rfl sz_26 rfl aPt (by simp only [setMany_length, List.length_set, List.length_cons, List.length_nil, List.length_map]; omega) rfl) (fun _ _ => ?_)
  refine o_p (p_pure rfl) rfl ?_
  refine o_p (p_pure rfl) rfl ?_
  refine o_nil ?_
  refine s_seq ?_
  refine s_seq ?_
  refine s_region ?_
  refine o_p (p_fieldAddr rfl rfl fd_44_0 sz_3 rfl) rfl ?_
  refine o_q (q_load rfl rfl sz_3 aPk rfl) rfl ?_
  refine o_nil ?_
  refine s_block ?_
  refine s_seq ?_
  refine s_region ?_
  refine o_p (p_pure rfl) rfl ?_
  refine o_p (p_pure rfl) rfl ?_
  refine o_nil ?_
  refine s_cond rfl (fun h6 => ?_) (fun h6 => ?_)
  · try simp only [decide_eq_true_eq, decide_eq_false_iff_not, Bool.not_eq_true', Bool.not_eq_false', Bool.and_eq_true, Bool.or_eq_true, Bool.and_eq_false_iff, Bool.or_eq_false_iff, Bool.not_true, Bool.not_false] at h6
    have k0 : a9.kd = 0 := h6
    have hA : (openR next (pls L) a9.rc a9.sq (⟨0, a9.ac, a9.sh, a9.fl, none, 0, []⟩ : LOpn).pl).2.2 = (doT next (pls L) a9).2.2.2 ∧ ((doT next (pls L) a9).2.2.2 = 0 → openR next (pls L) a9.rc a9.sq (⟨0, a9.ac, a9.sh, a9.fl, none, 0, []⟩ : LOpn).pl = (((doT next (pls L) a9).1, (doT next (pls L) a9).2.1), (doT next (pls L) a9).2.2.1, 0)) := act0 hk9 k0
    refine s_region ?_
    refine o_q (q_loadn rfl rfl sz_26 aPk rfl) rfl ?_
    refine o_p (p_fieldAddr rfl rfl fd_44_6 sz_42 rfl) rfl ?_
    refine o_q (q_loadn rfl rfl sz_42 aPk rfl) rfl ?_
    refine o_p (p_fieldAddr rfl rfl fd_44_2 sz_3 rfl) rfl ?_
    refine o_q (q_load rfl rfl sz_3 aPk rfl) rfl ?_
    refine o_p (p_fieldAddr rfl rfl fd_44_3 sz_3 rfl) rfl ?_
    refine o_q (q_load rfl rfl sz_3 aPk rfl) rfl ?_
    refine o_p (p_fieldAddr rfl rfl fd_44_7 sz_4 rfl) rfl ?_
    refine o_q (q_load rfl rfl sz_4 aPk rfl) rfl ?_
    refine o_p (p_build (cs := [_, _, _, _, _]) rfl rfl pl_48 zr_48 rfl) rfl ?_
    refine o_h (h_call rfl fn_37 rfl (fun w1 h1 => c37 w1 next a cap L a9.rc a9.sq (⟨0, a9.ac, a9.sh, a9.fl, none, 0, []⟩ : LOpn) (HS.ft (a := a) (cap := cap) (l := L) h1 aPk) hb.1 hb.2.1 hb.2.2)) rfl (fun gz hgz => ?_)
    refine o_p (p_pure rfl) rfl ?_
    refine o_p (p_pure rfl) rfl ?_
    refine o_p (p_pure rfl) rfl ?_
    refine o_p (p_pure rfl) rfl ?_
    refine o_h0 (h_store rfl rfl rfl sz_26 rfl aPt (by simp only [setMany_length, List.length_set, List.length_cons, List.length_nil, List.length_map]; omega) rfl) (fun _ _ => ?_)
    refine o_p (p_pure rfl) rfl ?_
    refine o_p (p_pure rfl) rfl ?_
    refine o_nil ?_
    refine s_blk ?_
    refine s_seq ?_
    refine s_seq ?_
    refine s_region ?_
    refine o_p (p_pure rfl) rfl ?_
    refine o_p (p_pure rfl) rfl ?_
    refine o_nil ?_
    refine s_cond rfl (fun h7 => ?_) (fun h7 => ?_)
    · try simp only [decide_eq_true_eq, decide_eq_false_iff_not, Bool.not_eq_true', Bool.not_eq_false', Bool.and_eq_true, Bool.or_eq_true, Bool.and_eq_false_iff, Bool.or_eq_false_iff, Bool.not_true, Bool.not_false] at h7
      refine s_seq ?_
      refine s_weaken (L' := [(2, _), (4, _), (5, _), (6, _), (7, _), (8, _)]) aSx (fun _ h => h) ?_
      refine s_region ?_
      refine o_q (q_loadn rfl rfl sz_26 aPk rfl) rfl ?_
      refine o_p (p_pure rfl) rfl ?_
      refine o_p (p_build (cs := [_, _]) rfl rfl pl_40 zr_40 rfl) rfl ?_
      refine o_h0 (h_store rfl rfl rfl sz_26 rfl aPt (by simp only [setMany_length, List.length_set, List.length_cons, List.length_nil, List.length_map]; omega) rfl) (fun _ _ => ?_)
      refine o_h0 (h_store rfl rfl rfl sz_40 rfl aPt (by simp only [setMany_length, List.length_set, List.length_cons, List.length_nil, List.length_map]; omega) rfl) (fun _ _ => ?_)
      refine o_nil ?_
      exact s_retv (rs := [.cell 4 26, .cell 5 40]) rfl (.cell rfl sz_26 aPk rfl (.cell rfl sz_40 aPk rfl (.nil))) (fun w' h' => by first | exact (by have hne : ¬ (doT next (pls L) a9).2.2.2 = 0 := (by rw [← hA.1]; exact h7); have hD := doT_err hne; exact ⟨((a, cap), L), by rw [hA.1, hD]; rfl, by rw [hD], h'.ent aEt⟩) | exact (by exact absurd trivial h7))
    · try simp only [decide_eq_true_eq, decide_eq_false_iff_not, Bool.not_eq_true', Bool.not_eq_false', Bool.and_eq_true, Bool.or_eq_true, Bool.and_eq_false_iff, Bool.or_eq_false_iff, Bool.not_true, Bool.not_false] at h7
      refine s_skip ?_
      refine s_seq ?_
      refine s_weaken (L' := [(4, _), (5, _), (6, _), (7, _)]) aSx (fun _ h => h) ?_
      refine s_region ?_
      refine o_q (q_loadn rfl rfl sz_26 aPk rfl) rfl ?_
      refine o_p (p_pure rfl) rfl ?_
      refine o_p (p_build (cs := [_, _]) rfl rfl pl_40 zr_40 rfl) rfl ?_
      refine o_h0 (h_store rfl rfl rfl sz_26 rfl aPt (by simp only [setMany_length, List.length_set, List.length_cons, List.length_nil, List.length_map]; omega) rfl) (fun _ _ => ?_)
      refine o_h0 (h_store rfl rfl rfl sz_40 rfl aPt (by simp only [setMany_length, List.length_set, List.length_cons, List.length_nil, List.length_map]; omega) rfl) (fun _ _ => ?_)
      refine o_nil ?_
      exact s_retv (rs := [.cell 4 26, .cell 5 40]) rfl (.cell rfl sz_26 aPk rfl (.cell rfl sz_40 aPk rfl (.nil))) (fun w' h' => by first | exact (by have h0 : (doT next (pls L) a9).2.2.2 = 0 := (by rw [← hA.1]; exact h7); have hB := hA.2 h0; exact ⟨gz, by rw [hB, h0]; rfl, by rw [hgz, hB], h'.ent aEt⟩) | exact (by have h0 : (doT next (pls L) a9).2.2.2 = 0 := (by rw [← hA.1]; exact h7); have hB := hA.2 h0; exact ⟨gz, by rw [hB.1, h0, hB.2]; rfl, by rw [hgz, hB.1], h'.ent aEt⟩) | exact (by have h0 : (doT next (pls L) a9).2.2.2 = 0 := (by rw [← hA.1]; exact h7); have hB := hA.2; exact ⟨((a, cap), L), by rw [hB, h0]; rfl, by rw [hB], h'.ent aEt⟩) | exact (by exact ⟨((a, cap), L), by rw [hA]; rfl, by rw [hA], h'.ent aEt⟩))
  · try simp only [decide_eq_true_eq, decide_eq_false_iff_not, Bool.not_eq_true', Bool.not_eq_false', Bool.and_eq_true, Bool.or_eq_true, Bool.and_eq_false_iff, Bool.or_eq_false_iff, Bool.not_true, Bool.not_false] at h6
    have n0 : ¬ a9.kd = 0 := h6
    refine s_seq ?_
    refine s_region ?_
    refine o_p (p_pure rfl) rfl ?_
    refine o_p (p_pure rfl) rfl ?_
    refine o_nil ?_
    refine s_cond rfl (fun h8 => ?_) (fun h8 => ?_)
    · try simp only [decide_eq_true_eq, decide_eq_false_iff_not, Bool.not_eq_true', Bool.not_eq_false', Bool.and_eq_true, Bool.or_eq_true, Bool.and_eq_false_iff, Bool.or_eq_false_iff, Bool.not_true, Bool.not_false] at h8
      have k1 : a9.kd = 1 := h8
      have hA := act1 hk9 n0 k1
      refine s_seq ?_
      refine s_region ?_
      refine o_p (p_pure rfl) rfl ?_
      refine o_nil ?_
      refine s_seq ?_
      refine s_region ?_
      refine o_q (q_loadn rfl rfl sz_26 aPk rfl) rfl ?_
      refine o_p (p_fieldAddr rfl rfl fd_44_1 sz_3 rfl) rfl ?_
      refine o_q (q_load rfl rfl sz_3 aPk rfl) rfl ?_
      refine o_h (h_call rfl fn_38 rfl (fun w1 h1 => c38 w1 next a cap L a9.hd (HS.ft (a := a) (cap := cap) (l := L) h1 aPk) hb.1 hb.2.1 hb.2.2)) rfl (fun gz hgz => ?_)
      refine o_p (p_pure rfl) rfl ?_
      refine o_p (p_pure rfl) rfl ?_
      refine o_p (p_pure rfl) rfl ?_
      refine o_p (p_pure rfl) rfl ?_
      refine o_h0 (h_store rfl rfl rfl sz_26 rfl aPt (by simp only [setMany_length, List.length_set, List.length_cons, List.length_nil, List.length_map]; omega) rfl) (fun _ _ => ?_)
      refine o_p (p_pure rfl) rfl ?_
      refine o_p (p_pure rfl) rfl ?_
      refine o_nil ?_
      refine s_region ?_
      refine o_p (p_pure rfl) rfl ?_
      refine o_q (q_call rfl fn_89 rfl (fun w1 h1 => c89 w1 _)) rfl ?_
      refine o_p (p_pure rfl) rfl ?_
      refine o_nil ?_
      refine s_blk ?_
      refine s_seq ?_
      refine s_seq ?_
      refine s_region ?_
      refine o_p (p_pure rfl) rfl ?_
      refine o_p (p_pure rfl) rfl ?_
      refine o_nil ?_
      refine s_cond rfl (fun h9 => ?_) (fun h9 => ?_)
      · try simp only [decide_eq_true_eq, decide_eq_false_iff_not, Bool.not_eq_true', Bool.not_eq_false', Bool.and_eq_true, Bool.or_eq_true, Bool.and_eq_false_iff, Bool.or_eq_false_iff, Bool.not_true, Bool.not_false] at h9
        refine s_seq ?_
        refine s_region ?_
        refine o_q (q_loadn rfl rfl sz_26 aPk rfl) rfl ?_
        refine o_p (p_pure rfl) rfl ?_
        refine o_p (p_build (cs := [_, _]) rfl rfl pl_40 zr_40 rfl) rfl ?_
        refine o_h0 (h_store rfl rfl rfl sz_26 rfl aPt (by simp only [setMany_length, List.length_set, List.length_cons, List.length_nil, List.length_map]; omega) rfl) (fun _ _ => ?_)
        refine o_h0 (h_store rfl rfl rfl sz_40 rfl aPt (by simp only [setMany_length, List.length_set, List.length_cons, List.length_nil, List.length_map]; omega) rfl) (fun _ _ => ?_)
        refine o_nil ?_
        exact s_retv (rs := [.cell 4 26, .cell 5 40]) rfl (.cell rfl sz_26 aPk rfl (.cell rfl sz_40 aPk rfl (.nil))) (fun w' h' => by first | exact (by have hne : ¬ (doT next (pls L) a9).2.2.2 = 0 := (by rw [← hA.1]; exact h9); have hD := doT_err hne; exact ⟨((a, cap), L), by rw [hA.1, hD]; rfl, by rw [hD], h'.ent aEt⟩) | exact (by exact absurd trivial h9))
      · try simp only [decide_eq_true_eq, decide_eq_false_iff_not, Bool.not_eq_true', Bool.not_eq_false', Bool.and_eq_true, Bool.or_eq_true, Bool.and_eq_false_iff, Bool.or_eq_false_iff, Bool.not_true, Bool.not_false] at h9
        refine s_skip ?_
        refine s_seq ?_
        refine s_region ?_
        refine o_q (q_loadn rfl rfl sz_26 aPk rfl) rfl ?_
        refine o_p (p_pure rfl) rfl ?_
        refine o_p (p_build (cs := [_, _]) rfl rfl pl_40 zr_40 rfl) rfl ?_
        refine o_h0 (h_store rfl rfl rfl sz_26 rfl aPt (by simp only [setMany_length, List.length_set, List.length_cons, List.length_nil, List.length_map]; omega) rfl) (fun _ _ => ?_)
        refine o_h0 (h_store rfl rfl rfl sz_40 rfl aPt (by simp only [setMany_length, List.length_set, List.length_cons, List.length_nil, List.length_map]; omega) rfl) (fun _ _ => ?_)
        refine o_nil ?_
        exact s_retv (rs := [.cell 4 26, .cell 5 40]) rfl (.cell rfl sz_26 aPk rfl (.cell rfl sz_40 aPk rfl (.nil))) (fun w' h' => by first | exact (by have h0 : (doT next (pls L) a9).2.2.2 = 0 := (by rw [← hA.1]; exact h9); have hB := hA.2 h0; exact ⟨gz, by rw [hB, h0]; rfl, by rw [hgz, hB], h'.ent aEt⟩) | exact (by have h0 : (doT next (pls L) a9).2.2.2 = 0 := (by rw [← hA.1]; exact h9); have hB := hA.2 h0; exact ⟨gz, by rw [hB.1, h0, hB.2]; rfl, by rw [hgz, hB.1], h'.ent aEt⟩) | exact (by have h0 : (doT next (pls L) a9).2.2.2 = 0 := (by rw [← hA.1]; exact h9); have hB := hA.2; exact ⟨((a, cap), L), by rw [hB, h0]; rfl, by rw [hB], h'.ent aEt⟩) | exact (by exact ⟨((a, cap), L), by rw [hA]; rfl, by rw [hA], h'.ent aEt⟩))
    · try simp only [decide_eq_true_eq, decide_eq_false_iff_not, Bool.not_eq_true', Bool.not_eq_false', Bool.and_eq_true, Bool.or_eq_true, Bool.and_eq_false_iff, Bool.or_eq_false_iff, Bool.not_true, Bool.not_false] at h8
      have n1 : ¬ a9.kd = 1 := h8
      refine s_seq ?_
      refine s_region ?_
      refine o_p (p_pure rfl) rfl ?_
      refine o_p (p_pure rfl) rfl ?_
      refine o_nil ?_
      refine s_cond rfl (fun h10 => ?_) (fun h10 => ?_)
      · try simp only [decide_eq_true_eq, decide_eq_false_iff_not, Bool.not_eq_true', Bool.not_eq_false', Bool.and_eq_true, Bool.or_eq_true, Bool.and_eq_false_iff, Bool.or_eq_false_iff, Bool.not_true, Bool.not_false] at h10
        have k2 : a9.kd = 2 := h10
        have hA := act2 hk9 n0 n1 k2
        refine s_region ?_
        refine o_q (q_loadn rfl rfl sz_26 aPk rfl) rfl ?_
        refine o_p (p_fieldAddr rfl rfl fd_44_1 sz_3 rfl) rfl ?_
        refine o_q (q_load rfl rfl sz_3 aPk rfl) rfl ?_
        refine o_p (p_fieldAddr rfl rfl fd_44_7 sz_4 rfl) rfl ?_
        refine o_q (q_load rfl rfl sz_4 aPk rfl) rfl ?_
        refine o_h (h_call rfl fn_40 rfl (fun w1 h1 => c40 w1 next a cap L a9.hd a9.fl (HS.ft (a := a) (cap := cap) (l := L) h1 aPk) hb.1 hb.2.1 hb.2.2)) rfl (fun gz hgz => ?_)
        refine o_p (p_pure rfl) rfl ?_
        refine o_p (p_pure rfl) rfl ?_
        refine o_p (p_pure rfl) rfl ?_
        refine o_h0 (h_store rfl rfl rfl sz_26 rfl aPt (by simp only [setMany_length, List.length_set, List.length_cons, List.length_nil, List.length_map]; omega) rfl) (fun _ _ => ?_)
        refine o_p (p_pure rfl) rfl ?_
        refine o_nil ?_
        refine s_blk ?_
        refine s_seq ?_
        refine s_seq ?_
        refine s_region ?_
        refine o_p (p_pure rfl) rfl ?_
        refine o_p (p_pure rfl) rfl ?_
        refine o_nil ?_
        refine s_cond rfl (fun h11 => ?_) (fun h11 => ?_)
        · try simp only [decide_eq_true_eq, decide_eq_false_iff_not, Bool.not_eq_true', Bool.not_eq_false', Bool.and_eq_true, Bool.or_eq_true, Bool.and_eq_false_iff, Bool.or_eq_false_iff, Bool.not_true, Bool.not_false] at h11
          refine s_seq ?_
          refine s_region ?_
          refine o_q (q_loadn rfl rfl sz_26 aPk rfl) rfl ?_
          refine o_p (p_pure rfl) rfl ?_
          refine o_p (p_build (cs := [_, _]) rfl rfl pl_40 zr_40 rfl) rfl ?_
          refine o_h0 (h_store rfl rfl rfl sz_26 rfl aPt (by simp only [setMany_length, List.length_set, List.length_cons, List.length_nil, List.length_map]; omega) rfl) (fun _ _ => ?_)
          refine o_h0 (h_store rfl rfl rfl sz_40 rfl aPt (by simp only [setMany_length, List.length_set, List.length_cons, List.length_nil, List.length_map]; omega) rfl) (fun _ _ => ?_)
          refine o_nil ?_
          exact s_retv (rs := [.cell 4 26, .cell 5 40]) rfl (.cell rfl sz_26 aPk rfl (.cell rfl sz_40 aPk rfl (.nil))) (fun w' h' => by first | exact (by have hne : ¬ (doT next (pls L) a9).2.2.2 = 0 := (by rw [← hA.1]; exact h11); have hD := doT_err hne; exact ⟨((a, cap), L), by rw [hA.1, hD]; rfl, by rw [hD], h'.ent aEt⟩) | exact (by exact absurd trivial h11))
        · try simp only [decide_eq_true_eq, decide_eq_false_iff_not, Bool.not_eq_true', Bool.not_eq_false', Bool.and_eq_true, Bool.or_eq_true, Bool.and_eq_false_iff, Bool.or_eq_false_iff, Bool.not_true, Bool.not_false] at h11
          refine s_skip ?_
          refine s_seq ?_
          refine s_region ?_
          refine o_q (q_loadn rfl rfl sz_26 aPk rfl) rfl ?_
          refine o_p (p_pure rfl) rfl ?_
          refine o_p (p_build (cs := [_, _]) rfl rfl pl_40 zr_40 rfl) rfl ?_
          refine o_h0 (h_store rfl rfl rfl sz_26 rfl aPt (by simp only [setMany_length, List.length_set, List.length_cons, List.length_nil, List.length_map]; omega) rfl) (fun _ _ => ?_)
          refine o_h0 (h_store rfl rfl rfl sz_40 rfl aPt (by simp only [setMany_length, List.length_set, List.length_cons, List.length_nil, List.length_map]; omega) rfl) (fun _ _ => ?_)
          refine o_nil ?_
          exact s_retv (rs := [.cell 4 26, .cell 5 40]) rfl (.cell rfl sz_26 aPk rfl (.cell rfl sz_40 aPk rfl (.nil))) (fun w' h' => by first | exact (by have h0 : (doT next (pls L) a9).2.2.2 = 0 := (by rw [← hA.1]; exact h11); have hB := hA.2 h0; exact ⟨gz, by rw [hB, h0]; rfl, by rw [hgz, hB], h'.ent aEt⟩) | exact (by have h0 : (doT next (pls L) a9).2.2.2 = 0 := (by rw [← hA.1]; exact h11); have hB := hA.2 h0; exact ⟨gz, by rw [hB.1, h0, hB.2]; rfl, by rw [hgz, hB.1], h'.ent aEt⟩) | exact (by have h0 : (doT next (pls L) a9).2.2.2 = 0 := (by rw [← hA.1]; exact h11); have hB := hA.2; exact ⟨((a, cap), L), by rw [hB, h0]; rfl, by rw [hB], h'.ent aEt⟩) | exact (by exact ⟨((a, cap), L), by rw [hA]; rfl, by rw [hA], h'.ent aEt⟩))
      · try simp only [decide_eq_true_eq, decide_eq_false_iff_not, Bool.not_eq_true', Bool.not_eq_false', Bool.and_eq_true, Bool.or_eq_true, Bool.and_eq_false_iff, Bool.or_eq_false_iff, Bool.not_true, Bool.not_false] at h10
        have n2 : ¬ a9.kd = 2 := h10
        refine s_seq ?_
        refine s_region ?_
        refine o_p (p_pure rfl) rfl ?_
        refine o_p (p_pure rfl) rfl ?_
        refine o_nil ?_
        refine s_cond rfl (fun h12 => ?_) (fun h12 => ?_)
        · try simp only [decide_eq_true_eq, decide_eq_false_iff_not, Bool.not_eq_true', Bool.not_eq_false', Bool.and_eq_true, Bool.or_eq_true, Bool.and_eq_false_iff, Bool.or_eq_false_iff, Bool.not_true, Bool.not_false] at h12
          have k3 : a9.kd = 3 := h12
          have hA := act3 hk9 n0 n1 n2 k3
          refine s_region ?_
          refine o_q (q_loadn rfl rfl sz_26 aPk rfl) rfl ?_
          refine o_p (p_fieldAddr rfl rfl fd_44_1 sz_3 rfl) rfl ?_
          refine o_q (q_load rfl rfl sz_3 aPk rfl) rfl ?_
          refine o_p (p_fieldAddr rfl rfl fd_44_4 sz_3 rfl) rfl ?_
          refine o_q (q_load rfl rfl sz_3 aPk rfl) rfl ?_
          refine o_p (p_fieldAddr rfl rfl fd_44_5 sz_3 rfl) rfl ?_
          refine o_q (q_load rfl rfl sz_3 aPk rfl) rfl ?_
          refine o_p (p_fieldAddr rfl rfl fd_44_7 sz_4 rfl) rfl ?_
          refine o_q (q_load rfl rfl sz_4 aPk rfl) rfl ?_
          refine o_p (p_build (cs := [_, _, _]) rfl rfl pl_62 zr_62 rfl) rfl ?_
          refine o_h (h_call rfl fn_25 rfl (fun w1 h1 => c25 w1 next a cap L a9.hd a9.lock (HS.ft (a := a) (cap := cap) (l := L) h1 aPk) hb.1 hb.2.1 hb.2.2)) rfl (fun gz hgz => ?_)
          refine o_p (p_pure rfl) rfl ?_
          refine o_p (p_pure rfl) rfl ?_
          refine o_p (p_pure rfl) rfl ?_
          refine o_h0 (h_store rfl rfl rfl sz_26 rfl aPt (by simp only [setMany_length, List.length_set, List.length_cons, List.length_nil, List.length_map]; omega) rfl) (fun _ _ => ?_)
          refine o_p (p_pure rfl) rfl ?_
          refine o_nil ?_
          refine s_blk ?_
          refine s_seq ?_
          refine s_seq ?_
          refine s_weaken (L' := [(2, _), (4, _), (5, _), (6, _), (7, _), (8, _)]) aSx (fun _ h => h) ?_
          refine s_region ?_
          refine o_p (p_pure rfl) rfl ?_
          refine o_p (p_pure rfl) rfl ?_
          refine o_nil ?_
          refine s_cond rfl (fun h13 => ?_) (fun h13 => ?_)
          · try simp only [decide_eq_true_eq, decide_eq_false_iff_not, Bool.not_eq_true', Bool.not_eq_false', Bool.and_eq_true, Bool.or_eq_true, Bool.and_eq_false_iff, Bool.or_eq_false_iff, Bool.not_true, Bool.not_false] at h13
            refine s_seq ?_
            refine s_region ?_
            refine o_q (q_loadn rfl rfl sz_26 aPk rfl) rfl ?_
            refine o_p (p_pure rfl) rfl ?_
            refine o_p (p_build (cs := [_, _]) rfl rfl pl_40 zr_40 rfl) rfl ?_
            refine o_h0 (h_store rfl rfl rfl sz_26 rfl aPt (by simp only [setMany_length, List.length_set, List.length_cons, List.length_nil, List.length_map]; omega) rfl) (fun _ _ => ?_)
            refine o_h0 (h_store rfl rfl rfl sz_40 rfl aPt (by simp only [setMany_length, List.length_set, List.length_cons, List.length_nil, List.length_map]; omega) rfl) (fun _ _ => ?_)
            refine o_nil ?_
            exact s_retv (rs := [.cell 4 26, .cell 5 40]) rfl (.cell rfl sz_26 aPk rfl (.cell rfl sz_40 aPk rfl (.nil))) (fun w' h' => by first | exact (by have hne : ¬ (doT next (pls L) a9).2.2.2 = 0 := (by rw [← hA.1]; exact h13); have hD := doT_err hne; exact ⟨((a, cap), L), by rw [hA.1, hD]; rfl, by rw [hD], h'.ent aEt⟩) | exact (by exact absurd trivial h13))
          · try simp only [decide_eq_true_eq, decide_eq_false_iff_not, Bool.not_eq_true', Bool.not_eq_false', Bool.and_eq_true, Bool.or_eq_true, Bool.and_eq_false_iff, Bool.or_eq_false_iff, Bool.not_true, Bool.not_false] at h13
            refine s_skip ?_
            refine s_seq ?_
            refine s_region ?_
            refine o_q (q_loadn rfl rfl sz_26 aPk rfl) rfl ?_
            refine o_p (p_pure rfl) rfl ?_
            refine o_p (p_build (cs := [_, _]) rfl rfl pl_40 zr_40 rfl) rfl ?_
            refine o_h0 (h_store rfl rfl rfl sz_26 rfl aPt (by simp only [setMany_length, List.length_set, List.length_cons, List.length_nil, List.length_map]; omega) rfl) (fun _ _ => ?_)
            refine o_h0 (h_store rfl rfl rfl sz_40 rfl aPt (by simp only [setMany_length, List.length_set, List.length_cons, List.length_nil, List.length_map]; omega) rfl) (fun _ _ => ?_)
            refine o_nil ?_
            exact s_retv (rs := [.cell 4 26, .cell 5 40]) rfl (.cell rfl sz_26 aPk rfl (.cell rfl sz_40 aPk rfl (.nil))) (fun w' h' => by first | exact (by have h0 : (doT next (pls L) a9).2.2.2 = 0 := (by rw [← hA.1]; exact h13); have hB := hA.2 h0; exact ⟨gz, by rw [hB, h0]; rfl, by rw [hgz, hB], h'.ent aEt⟩) | exact (by have h0 : (doT next (pls L) a9).2.2.2 = 0 := (by rw [← hA.1]; exact h13); have hB := hA.2 h0; exact ⟨gz, by rw [hB.1, h0, hB.2]; rfl, by rw [hgz, hB.1], h'.ent aEt⟩) | exact (by have h0 : (doT next (pls L) a9).2.2.2 = 0 := (by rw [← hA.1]; exact h13); have hB := hA.2; exact ⟨((a, cap), L), by rw [hB, h0]; rfl, by rw [hB], h'.ent aEt⟩) | exact (by exact ⟨((a, cap), L), by rw [hA]; rfl, by rw [hA], h'.ent aEt⟩))
        · try simp only [decide_eq_true_eq, decide_eq_false_iff_not, Bool.not_eq_true', Bool.not_eq_false', Bool.and_eq_true, Bool.or_eq_true, Bool.and_eq_false_iff, Bool.or_eq_false_iff, Bool.not_true, Bool.not_false] at h12
          have n3 : ¬ a9.kd = 3 := h12
          refine s_seq ?_
          refine s_region ?_
          refine o_p (p_pure rfl) rfl ?_
          refine o_p (p_pure rfl) rfl ?_
          refine o_nil ?_
          refine s_cond rfl (fun h14 => ?_) (fun h14 => ?_)
          · try simp only [decide_eq_true_eq, decide_eq_false_iff_not, Bool.not_eq_true', Bool.not_eq_false', Bool.and_eq_true, Bool.or_eq_true, Bool.and_eq_false_iff, Bool.or_eq_false_iff, Bool.not_true, Bool.not_false] at h14
            have k4 : a9.kd = 4 := h14
            have hA := act4 hk9 n0 n1 n2 n3 k4
            refine s_region ?_
            refine o_q (q_loadn rfl rfl sz_26 aPk rfl) rfl ?_
            refine o_p (p_fieldAddr rfl rfl fd_44_1 sz_3 rfl) rfl ?_
            refine o_q (q_load rfl rfl sz_3 aPk rfl) rfl ?_
            refine o_p (p_fieldAddr rfl rfl fd_44_4 sz_3 rfl) rfl ?_
            refine o_q (q_load rfl rfl sz_3 aPk rfl) rfl ?_
            refine o_p (p_fieldAddr rfl rfl fd_44_5 sz_3 rfl) rfl ?_
            refine o_q (q_load rfl rfl sz_3 aPk rfl) rfl ?_
            refine o_h (h_call rfl fn_27 rfl (fun w1 h1 => c27 w1 next a cap L a9.hd a9.fr a9.cnt (HS.ft (a := a) (cap := cap) (l := L) h1 aPk) hb.1 hb.2.1 hb.2.2)) rfl (fun gz hgz => ?_)
            refine o_p (p_pure rfl) rfl ?_
            refine o_p (p_pure rfl) rfl ?_
            refine o_p (p_pure rfl) rfl ?_
            refine o_h0 (h_store rfl rfl rfl sz_26 rfl aPt (by simp only [setMany_length, List.length_set, List.length_cons, List.length_nil, List.length_map]; omega) rfl) (fun _ _ => ?_)
            refine o_p (p_pure rfl) rfl ?_
            refine o_nil ?_
            refine s_blk ?_
            refine s_seq ?_
            refine s_seq ?_
            refine s_weaken (L' := [(2, _), (4, _), (5, _), (6, _), (7, _), (8, _)]) aSx (fun _ h => h) ?_
            refine s_region ?_
            refine o_p (p_pure rfl) rfl ?_
            refine o_p (p_pure rfl) rfl ?_
            refine o_nil ?_
            refine s_cond rfl (fun h15 => ?_) (fun h15 => ?_)
            · try simp only [decide_eq_true_eq, decide_eq_false_iff_not, Bool.not_eq_true', Bool.not_eq_false', Bool.and_eq_true, Bool.or_eq_true, Bool.and_eq_false_iff, Bool.or_eq_false_iff, Bool.not_true, Bool.not_false] at h15
              refine s_seq ?_
              refine s_region ?_
              refine o_q (q_loadn rfl rfl sz_26 aPk rfl) rfl ?_
              refine o_p (p_pure rfl) rfl ?_
              refine o_p (p_build (cs := [_, _]) rfl rfl pl_40 zr_40 rfl) rfl ?_
              refine o_h0 (h_store rfl rfl rfl sz_26 rfl aPt (by simp only [setMany_length, List.length_set, List.length_cons, List.length_nil, List.length_map]; omega) rfl) (fun _ _ => ?_)
              refine o_h0 (h_store rfl rfl rfl sz_40 rfl aPt (by simp only [setMany_length, List.length_set, List.length_cons, List.length_nil, List.length_map]; omega) rfl) (fun _ _ => ?_)
              refine o_nil ?_
              exact s_retv (rs := [.cell 4 26, .cell 5 40]) rfl (.cell rfl sz_26 aPk rfl (.cell rfl sz_40 aPk rfl (.nil))) (fun w' h' => by first | exact (by have hne : ¬ (doT next (pls L) a9).2.2.2 = 0 := (by rw [← hA.1]; exact h15); have hD := doT_err hne; exact ⟨((a, cap), L), by rw [hA.1, hD]; rfl, by rw [hD], h'.ent aEt⟩) | exact (by exact absurd trivial h15))
            · try simp only [decide_eq_true_eq, decide_eq_false_iff_not, Bool.not_eq_true', Bool.not_eq_false', Bool.and_eq_true, Bool.or_eq_true, Bool.and_eq_false_iff, Bool.or_eq_false_iff, Bool.not_true, Bool.not_false] at h15
              refine s_skip ?_
              refine s_seq ?_
              refine s_region ?_
              refine o_q (q_loadn rfl rfl sz_26 aPk rfl) rfl ?_
              refine o_p (p_pure rfl) rfl ?_
              refine o_p (p_build (cs := [_, _]) rfl rfl pl_40 zr_40 rfl) rfl ?_
              refine o_h0 (h_store rfl rfl rfl sz_26 rfl aPt (by simp only [setMany_length, List.length_set, List.length_cons, List.length_nil, List.length_map]; omega) rfl) (fun _ _ => ?_)
              refine o_h0 (h_store rfl rfl rfl sz_40 rfl aPt (by simp only [setMany_length, List.length_set, List.length_cons, List.length_nil, List.length_map]; omega) rfl) (fun _ _ => ?_)
              refine o_nil ?_
              exact s_retv (rs := [.cell 4 26, .cell 5 40]) rfl (.cell rfl sz_26 aPk rfl (.cell rfl sz_40 aPk rfl (.nil))) (fun w' h' => by first | exact (by have h0 : (doT next (pls L) a9).2.2.2 = 0 := (by rw [← hA.1]; exact h15); have hB := hA.2 h0; exact ⟨gz, by rw [hB, h0]; rfl, by rw [hgz, hB], h'.ent aEt⟩) | exact (by have h0 : (doT next (pls L) a9).2.2.2 = 0 := (by rw [← hA.1]; exact h15); have hB := hA.2 h0; exact ⟨gz, by rw [hB.1, h0, hB.2]; rfl, by rw [hgz, hB.1], h'.ent aEt⟩) | exact (by have h0 : (doT next (pls L) a9).2.2.2 = 0 := (by rw [← hA.1]; exact h15); have hB := hA.2; exact ⟨((a, cap), L), by rw [hB, h0]; rfl, by rw [hB], h'.ent aEt⟩) | exact (by exact ⟨((a, cap), L), by rw [hA]; rfl, by rw [hA], h'.ent aEt⟩))
          · try simp only [decide_eq_true_eq, decide_eq_false_iff_not, Bool.not_eq_true', Bool.not_eq_false', Bool.and_eq_true, Bool.or_eq_true, Bool.and_eq_false_iff, Bool.or_eq_false_iff, Bool.not_true, Bool.not_false] at h14
            have n4 : ¬ a9.kd = 4 := h14
            refine s_seq ?_
            refine s_region ?_
            refine o_p (p_pure rfl) rfl ?_
            refine o_p (p_pure rfl) rfl ?_
            refine o_nil ?_
            refine s_cond rfl (fun h16 => ?_) (fun h16 => ?_)
            · try simp only [decide_eq_true_eq, decide_eq_false_iff_not, Bool.not_eq_true', Bool.not_eq_false', Bool.and_eq_true, Bool.or_eq_true, Bool.and_eq_false_iff, Bool.or_eq_false_iff, Bool.not_true, Bool.not_false] at h16
              have k5 : a9.kd = 5 := h16
              have hA := act5 hk9 n0 n1 n2 n3 n4 k5
              refine s_region ?_
              refine o_q (q_loadn rfl rfl sz_26 aPk rfl) rfl ?_
              refine o_p (p_fieldAddr rfl rfl fd_44_1 sz_3 rfl) rfl ?_
              refine o_q (q_load rfl rfl sz_3 aPk rfl) rfl ?_
              refine o_p (p_fieldAddr rfl rfl fd_44_4 sz_3 rfl) rfl ?_
              refine o_q (q_load rfl rfl sz_3 aPk rfl) rfl ?_
              refine o_p (p_fieldAddr rfl rfl fd_44_5 sz_3 rfl) rfl ?_
              refine o_q (q_load rfl rfl sz_3 aPk rfl) rfl ?_
              refine o_q (q_call rfl fn_30 rfl (fun w1 h1 => c30 w1 next a cap L a9.hd a9.fr a9.cnt false (HS.ft (a := a) (cap := cap) (l := L) h1 aPk) hb.1 hb.2.1)) rfl ?_
              refine o_p (p_pure rfl) rfl ?_
              refine o_nil ?_
              refine s_blk ?_
              refine s_seq ?_
              refine s_seq ?_
              refine s_weaken (L' := [(2, _), (4, _), (5, _), (6, _), (7, _), (8, _)]) aSx (fun _ h => h) ?_
              refine s_region ?_
              refine o_p (p_pure rfl) rfl ?_
              refine o_p (p_pure rfl) rfl ?_
              refine o_nil ?_
              refine s_cond rfl (fun h17 => ?_) (fun h17 => ?_)
              · try simp only [decide_eq_true_eq, decide_eq_false_iff_not, Bool.not_eq_true', Bool.not_eq_false', Bool.and_eq_true, Bool.or_eq_true, Bool.and_eq_false_iff, Bool.or_eq_false_iff, Bool.not_true, Bool.not_false] at h17
                refine s_seq ?_
                refine s_region ?_
                refine o_q (q_loadn rfl rfl sz_26 aPk rfl) rfl ?_
                refine o_p (p_pure rfl) rfl ?_
                refine o_p (p_build (cs := [_, _]) rfl rfl pl_40 zr_40 rfl) rfl ?_
                refine o_h0 (h_store rfl rfl rfl sz_26 rfl aPt (by simp only [setMany_length, List.length_set, List.length_cons, List.length_nil, List.length_map]; omega) rfl) (fun _ _ => ?_)
                refine o_h0 (h_store rfl rfl rfl sz_40 rfl aPt (by simp only [setMany_length, List.length_set, List.length_cons, List.length_nil, List.length_map]; omega) rfl) (fun _ _ => ?_)
                refine o_nil ?_
                exact s_retv (rs := [.cell 4 26, .cell 5 40]) rfl (.cell rfl sz_26 aPk rfl (.cell rfl sz_40 aPk rfl (.nil))) (fun w' h' => by first | exact (by have hne : ¬ (doT next (pls L) a9).2.2.2 = 0 := (by rw [← hA.1]; exact h17); have hD := doT_err hne; exact ⟨((a, cap), L), by rw [hA.1, hD]; rfl, by rw [hD], h'.ent aEt⟩) | exact (by exact absurd trivial h17))
              · try simp only [decide_eq_true_eq, decide_eq_false_iff_not, Bool.not_eq_true', Bool.not_eq_false', Bool.and_eq_true, Bool.or_eq_true, Bool.and_eq_false_iff, Bool.or_eq_false_iff, Bool.not_true, Bool.not_false] at h17
                refine s_skip ?_
                refine s_seq ?_
                refine s_region ?_
                refine o_q (q_loadn rfl rfl sz_26 aPk rfl) rfl ?_
                refine o_p (p_pure rfl) rfl ?_
                refine o_p (p_build (cs := [_, _]) rfl rfl pl_40 zr_40 rfl) rfl ?_
                refine o_h0 (h_store rfl rfl rfl sz_26 rfl aPt (by simp only [setMany_length, List.length_set, List.length_cons, List.length_nil, List.length_map]; omega) rfl) (fun _ _ => ?_)
                refine o_h0 (h_store rfl rfl rfl sz_40 rfl aPt (by simp only [setMany_length, List.length_set, List.length_cons, List.length_nil, List.length_map]; omega) rfl) (fun _ _ => ?_)
                refine o_nil ?_
                exact s_retv (rs := [.cell 4 26, .cell 5 40]) rfl (.cell rfl sz_26 aPk rfl (.cell rfl sz_40 aPk rfl (.nil))) (fun w' h' => by first | exact (by have h0 : (doT next (pls L) a9).2.2.2 = 0 := (by rw [← hA.1]; exact h17); have hB := hA.2 h0; exact ⟨gz, by rw [hB, h0]; rfl, by rw [hgz, hB], h'.ent aEt⟩) | exact (by have h0 : (doT next (pls L) a9).2.2.2 = 0 := (by rw [← hA.1]; exact h17); have hB := hA.2 h0; exact ⟨gz, by rw [hB.1, h0, hB.2]; rfl, by rw [hgz, hB.1], h'.ent aEt⟩) | exact (by have h0 : (doT next (pls L) a9).2.2.2 = 0 := (by rw [← hA.1]; exact h17); have hB := hA.2; exact ⟨((a, cap), L), by rw [hB, h0]; rfl, by rw [hB], h'.ent aEt⟩) | exact (by exact ⟨((a, cap), L), by rw [hA]; rfl, by rw [hA], h'.ent aEt⟩))
            · try simp only [decide_eq_true_eq, decide_eq_false_iff_not, Bool.not_eq_true', Bool.not_eq_false', Bool.and_eq_true, Bool.or_eq_true, Bool.and_eq_false_iff, Bool.or_eq_false_iff, Bool.not_true, Bool.not_false] at h16
              have n5 : ¬ a9.kd = 5 := h16
              refine s_seq ?_
              refine s_region ?_
              refine o_p (p_pure rfl) rfl ?_
              refine o_p (p_pure rfl) rfl ?_
              refine o_nil ?_
              refine s_cond rfl (fun h18 => ?_) (fun h18 => ?_)
              · try simp only [decide_eq_true_eq, decide_eq_false_iff_not, Bool.not_eq_true', Bool.not_eq_false', Bool.and_eq_true, Bool.or_eq_true, Bool.and_eq_false_iff, Bool.or_eq_false_iff, Bool.not_true, Bool.not_false] at h18
                have k6 : a9.kd = 6 := h18
                have hA := act6 hk9 n0 n1 n2 n3 n4 n5 k6
                refine s_region ?_
                refine o_q (q_loadn rfl rfl sz_26 aPk rfl) rfl ?_
                refine o_p (p_fieldAddr rfl rfl fd_44_1 sz_3 rfl) rfl ?_
                refine o_q (q_load rfl rfl sz_3 aPk rfl) rfl ?_
                refine o_p (p_fieldAddr rfl rfl fd_44_4 sz_3 rfl) rfl ?_
                refine o_q (q_load rfl rfl sz_3 aPk rfl) rfl ?_
                refine o_p (p_fieldAddr rfl rfl fd_44_5 sz_3 rfl) rfl ?_
                refine o_q (q_load rfl rfl sz_3 aPk rfl) rfl ?_
                refine o_q (q_call rfl fn_30 rfl (fun w1 h1 => c30 w1 next a cap L a9.hd a9.fr a9.cnt true (HS.ft (a := a) (cap := cap) (l := L) h1 aPk) hb.1 hb.2.1)) rfl ?_
                refine o_p (p_pure rfl) rfl ?_
                refine o_nil ?_
                refine s_blk ?_
                refine s_seq ?_
                refine s_seq ?_
                refine s_weaken (L' := [(2, _), (4, _), (5, _), (6, _), (7, _), (8, _)]) aSx (fun _ h => h) ?_
                refine s_region ?_
                refine o_p (p_pure rfl) rfl ?_
                refine o_p (p_pure rfl) rfl ?_
                refine o_nil ?_
                refine s_cond rfl (fun h19 => ?_) (fun h19 => ?_)
                · try simp only [decide_eq_true_eq, decide_eq_false_iff_not, Bool.not_eq_true', Bool.not_eq_false', Bool.and_eq_true, Bool.or_eq_true, Bool.and_eq_false_iff, Bool.or_eq_false_iff, Bool.not_true, Bool.not_false] at h19
                  refine s_seq ?_
                  refine s_region ?_
                  refine o_q (q_loadn rfl rfl sz_26 aPk rfl) rfl ?_
                  refine o_p (p_pure rfl) rfl ?_
                  refine o_p (p_build (cs := [_, _]) rfl rfl pl_40 zr_40 rfl) rfl ?_
                  refine o_h0 (h_store rfl rfl rfl sz_26 rfl aPt (by simp only [setMany_length, List.length_set, List.length_cons, List.length_nil, List.length_map]; omega) rfl) (fun _ _ => ?_)
                  refine o_h0 (h_store rfl rfl rfl sz_40 rfl aPt (by simp only [setMany_length, List.length_set, List.length_cons, List.length_nil, List.length_map]; omega) rfl) (fun _ _ => ?_)
                  refine o_nil ?_
                  exact s_retv (rs := [.cell 4 26, .cell 5 40]) rfl (.cell rfl sz_26 aPk rfl (.cell rfl sz_40 aPk rfl (.nil))) (fun w' h' => by first | exact (by have hne : ¬ (doT next (pls L) a9).2.2.2 = 0 := (by rw [← hA.1]; exact h19); have hD := doT_err hne; exact ⟨((a, cap), L), by rw [hA.1, hD]; rfl, by rw [hD], h'.ent aEt⟩) | exact (by exact absurd trivial h19))
                · try simp only [decide_eq_true_eq, decide_eq_false_iff_not, Bool.not_eq_true', Bool.not_eq_false', Bool.and_eq_true, Bool.or_eq_true, Bool.and_eq_false_iff, Bool.or_eq_false_iff, Bool.not_true, Bool.not_false] at h19
                  refine s_skip ?_
                  refine s_seq ?_
                  refine s_region ?_
                  refine o_q (q_loadn rfl rfl sz_26 aPk rfl) rfl ?_
                  refine o_p (p_pure rfl) rfl ?_
                  refine o_p (p_build (cs := [_, _]) rfl rfl pl_40 zr_40 rfl) rfl ?_
                  refine o_h0 (h_store rfl rfl rfl sz_26 rfl aPt (by simp only [setMany_length, List.length_set, List.length_cons, List.length_nil, List.length_map]; omega) rfl) (fun _ _ => ?_)
                  refine o_h0 (h_store rfl rfl rfl sz_40 rfl aPt (by simp only [setMany_length, List.length_set, List.length_cons, List.length_nil, List.length_map]; omega) rfl) (fun _ _ => ?_)
                  refine o_nil ?_
                  exact s_retv (rs := [.cell 4 26, .cell 5 40]) rfl (.cell rfl sz_26 aPk rfl (.cell rfl sz_40 aPk rfl (.nil))) (fun w' h' => by first | exact (by have h0 : (doT next (pls L) a9).2.2.2 = 0 := (by rw [← hA.1]; exact h19); have hB := hA.2 h0; exact ⟨gz, by rw [hB, h0]; rfl, by rw [hgz, hB], h'.ent aEt⟩) | exact (by have h0 : (doT next (pls L) a9).2.2.2 = 0 := (by rw [← hA.1]; exact h19); have hB := hA.2 h0; exact ⟨gz, by rw [hB.1, h0, hB.2]; rfl, by rw [hgz, hB.1], h'.ent aEt⟩) | exact (by have h0 : (doT next (pls L) a9).2.2.2 = 0 := (by rw [← hA.1]; exact h19); have hB := hA.2; exact ⟨((a, cap), L), by rw [hB, h0]; rfl, by rw [hB], h'.ent aEt⟩) | exact (by exact ⟨((a, cap), L), by rw [hA]; rfl, by rw [hA], h'.ent aEt⟩))
              · try simp only [decide_eq_true_eq, decide_eq_false_iff_not, Bool.not_eq_true', Bool.not_eq_false', Bool.and_eq_true, Bool.or_eq_true, Bool.and_eq_false_iff, Bool.or_eq_false_iff, Bool.not_true, Bool.not_false] at h18
                have n6 : ¬ a9.kd = 6 := h18
                have hA := act7 (next := next) (L := pls L) n0 n1 n2 n3 n4 n5 n6
                refine s_skip ?_
                refine s_blk ?_
                refine s_seq ?_
                refine s_seq ?_
                refine s_region ?_
                refine o_p (p_pure rfl) rfl ?_
                refine o_p (p_pure rfl) rfl ?_
                refine o_nil ?_
                refine s_cond rfl (fun h20 => ?_) (fun h20 => ?_)
                · try simp only [decide_eq_true_eq, decide_eq_false_iff_not, Bool.not_eq_true', Bool.not_eq_false', Bool.and_eq_true, Bool.or_eq_true, Bool.and_eq_false_iff, Bool.or_eq_false_iff, Bool.not_true, Bool.not_false] at h20
                  refine s_seq ?_
                  refine s_region ?_
                  refine o_q (q_loadn rfl rfl sz_26 aPk rfl) rfl ?_
                  refine o_p (p_pure rfl) rfl ?_
                  refine o_p (p_build (cs := [_, _]) rfl rfl pl_40 zr_40 rfl) rfl ?_
                  refine o_h0 (h_store rfl rfl rfl sz_26 rfl aPt (by simp only [setMany_length, List.length_set, List.length_cons, List.length_nil, List.length_map]; omega) rfl) (fun _ _ => ?_)
                  refine o_h0 (h_store rfl rfl rfl sz_40 rfl aPt (by simp only [setMany_length, List.length_set, List.length_cons, List.length_nil, List.length_map]; omega) rfl) (fun _ _ => ?_)
                  refine o_nil ?_
                  exact s_retv (rs := [.cell 4 26, .cell 5 40]) rfl (.cell rfl sz_26 aPk rfl (.cell rfl sz_40 aPk rfl (.nil))) (fun w' h' => by first | exact (by have hne : ¬ (doT next (pls L) a9).2.2.2 = 0 := (by rw [← hA.1]; exact h20); have hD := doT_err hne; exact ⟨((a, cap), L), by rw [hA.1, hD]; rfl, by rw [hD], h'.ent aEt⟩) | exact (by exact absurd trivial h20))
                · try simp only [decide_eq_true_eq, decide_eq_false_iff_not, Bool.not_eq_true', Bool.not_eq_false', Bool.and_eq_true, Bool.or_eq_true, Bool.and_eq_false_iff, Bool.or_eq_false_iff, Bool.not_true, Bool.not_false] at h20
                  refine s_skip ?_
                  refine s_seq ?_
                  refine s_region ?_
                  refine o_q (q_loadn rfl rfl sz_26 aPk rfl) rfl ?_
                  refine o_p (p_pure rfl) rfl ?_
                  refine o_p (p_build (cs := [_, _]) rfl rfl pl_40 zr_40 rfl) rfl ?_
                  refine o_h0 (h_store rfl rfl rfl sz_26 rfl aPt (by simp only [setMany_length, List.length_set, List.length_cons, List.length_nil, List.length_map]; omega) rfl) (fun _ _ => ?_)
                  refine o_h0 (h_store rfl rfl rfl sz_40 rfl aPt (by simp only [setMany_length, List.length_set, List.length_cons, List.length_nil, List.length_map]; omega) rfl) (fun _ _ => ?_)
                  refine o_nil ?_
                  exact s_retv (rs := [.cell 4 26, .cell 5 40]) rfl (.cell rfl sz_26 aPk rfl (.cell rfl sz_40 aPk rfl (.nil))) (fun w' h' => by first | exact (by have h0 : (doT next (pls L) a9).2.2.2 = 0 := (by rw [← hA.1]; exact h20); have hB := hA.2 h0; exact ⟨gz, by rw [hB, h0]; rfl, by rw [hgz, hB], h'.ent aEt⟩) | exact (by have h0 : (doT next (pls L) a9).2.2.2 = 0 := (by rw [← hA.1]; exact h20); have hB := hA.2 h0; exact ⟨gz, by rw [hB.1, h0, hB.2]; rfl, by rw [hgz, hB.1], h'.ent aEt⟩) | exact (by have h0 : (doT next (pls L) a9).2.2.2 = 0 := (by rw [← hA.1]; exact h20); have hB := hA.2; exact ⟨((a, cap), L), by rw [hB, h0]; rfl, by rw [hB], h'.ent aEt⟩) | exact (by exact ⟨((a, cap), L), by rw [hA]; rfl, by rw [hA], h'.ent aEt⟩))

set_option maxRecDepth 20000 in
set_option maxHeartbeats 2000000 in
theorem c13 (w : World) (a : Option Addr) (cap : Nat) (l : List HAct) (hs : Rw HAct.vals 9 w [] a l) (hm : l.length ≤ 1000000) : Calls Try.prog 13 #[.slice a l.length cap] w fun en w' => ∃ g : ((Option Addr × Nat) × List LFil) × (Option Addr × Nat), en = .returned (.tuple #[.agg #[.int .i64 (runR l).1.2, .slice g.1.1.1 g.1.2.length g.1.1.2], .slice g.2.1 (runR l).2.length g.2.2, .int .i64 (runE l)]) ∧ pls g.1.2 = (runR l).1.1 ∧ HS w [] [.files g.1.1.1 g.1.1.2 g.1.2, .own (.slice g.2.1 (runR l).2.length g.2.2) 40 2 (runR l).2.length ((runR l).2.flatMap ansV)] w' := by
  refine enter (args := [_]) Try.func13 Try.ntmps13 rfl rfl (HS.refl w []) ?_
  refine s_seq ?_
  refine s_region ?_
  refine o_h (h_alloc rfl zr_26) rfl (fun b1 _ => ?_)
  refine o_p (p_pure rfl) rfl ?_
  refine o_p (p_pure rfl) rfl ?_
  refine o_nil ?_
  refine s_seq ?_
  refine s_seq ?_
  refine s_region ?_
  refine o_p (p_pure rfl) rfl ?_
  refine o_p (p_len_slice rfl rfl Try.underlying22) rfl ?_
  refine o_p (p_pure rfl) rfl ?_
  refine o_nil ?_
  refine s_cond rfl (fun h2 => ?_) (fun h2 => ?_)
  · try simp only [decide_eq_true_eq, decide_eq_false_iff_not, Bool.not_eq_true', Bool.not_eq_false', Bool.and_eq_true, Bool.or_eq_true, Bool.and_eq_false_iff, Bool.or_eq_false_iff, Bool.not_true, Bool.not_false] at h2
    have hbig : 100 < l.length := by have hq := h2; omega
    refine s_seq ?_
    refine s_region ?_
    refine o_p (p_build (cs := [_, _]) rfl rfl pl_26 zr_26 rfl) rfl ?_
    refine o_h0 (h_store rfl rfl rfl sz_26 rfl aPt (by simp only [setMany_length, List.length_set, List.length_cons, List.length_nil, List.length_map]; omega) rfl) (fun _ _ => ?_)
    refine o_p (p_pure rfl) rfl ?_
    refine o_p (p_pure rfl) rfl ?_
    refine o_nil ?_
    exact s_retv (rs := [.cell 2 26, .tmp 3, .tmp 4]) rfl (.cell rfl sz_26 aPk rfl (.tmp rfl (.tmp rfl (.nil)))) (fun w' h' => ⟨(((none, 0), []), (none, 0)), by rw [runR_e (by rw [runE_big hbig]; decide)]; rw [runE_big hbig]; rfl, by rw [runR_e (by rw [runE_big hbig]; decide)]; rfl, by rw [runR_e (by rw [runE_big hbig]; decide)]; exact ((HS.files_none h').own_nil 40 2).ent aEt⟩)
  · try simp only [decide_eq_true_eq, decide_eq_false_iff_not, Bool.not_eq_true', Bool.not_eq_false', Bool.and_eq_true, Bool.or_eq_true, Bool.and_eq_false_iff, Bool.or_eq_false_iff, Bool.not_true, Bool.not_false] at h2
    have hbig : ¬ 100 < l.length := by have hq := h2; omega
    have hlm : (l.map kindE).length = l.length := by simp
    refine s_skip ?_
    refine s_seq ?_
    refine s_seq ?_
    refine s_region ?_
    refine o_p (p_pure rfl) rfl ?_
    refine o_nil ?_
    refine s_block ?_
    refine s_loopI (α := Nat) [3, 4, 5, 15, 16, 17, 18, 19, 20, 21, 22, 23, 24, 25, 26, 27, 28] (fun j => [(5, .int .i64 (j : Int))]) (fun _ => HS w [] [.blk b1 26 2 [.int .i64 0, .slice none 0 0]]) (fun j => j ≤ l.length ∧ eachF (l.map kindE) 0 = eachF ((l.map kindE).drop j) j) (fun j => l.length - j) 0 ⟨Nat.zero_le _, rfl⟩ aSx (fun w h => h.ent aEt) (fun j hj => ?_)
    obtain ⟨hj1, hj2⟩ := hj
    refine s_seq ?_
    refine s_seq ?_
    refine s_region ?_
    refine o_p (p_pure rfl) rfl ?_
    refine o_p (p_pure rfl) rfl ?_
    refine o_p (p_len_slice rfl rfl Try.underlying22) rfl ?_
    refine o_p (p_pure rfl) rfl ?_
    refine o_nil ?_
    refine s_cond rfl (fun h3 => ?_) (fun h3 => ?_)
    · try simp only [decide_eq_true_eq, decide_eq_false_iff_not, Bool.not_eq_true', Bool.not_eq_false', Bool.and_eq_true, Bool.or_eq_true, Bool.and_eq_false_iff, Bool.or_eq_false_iff, Bool.not_true, Bool.not_false] at h3
      have hjl : j < l.length := by omega
      refine s_skip ?_
      refine s_seq ?_
      refine s_block ?_
      refine s_seq ?_
      refine s_region ?_
      refine o_p (p_pure rfl) rfl ?_
      refine o_p (p_pure rfl) rfl ?_
      refine o_p (p_indexAddr rfl rfl rfl sl_22 (j) (by omega) (by omega) (Rw.some hs (by omega))) rfl ?_
      refine o_p (p_fieldAddr rfl rfl fd_44_0 sz_3 rfl) rfl ?_
      refine o_q (q_load_old rfl rfl sz_3 ((hs.rdj 0 hjl rfl))) rfl ?_
      refine o_q (q_call rfl fn_16 rfl (fun w1 h1 => c16 w1 _ _ _)) rfl ?_
      refine o_p (p_pure rfl) rfl ?_
      refine o_nil ?_
      refine s_cond rfl (fun h4 => ?_) (fun h4 => ?_)
      · try simp only [decide_eq_true_eq, decide_eq_false_iff_not, Bool.not_eq_true', Bool.not_eq_false', Bool.and_eq_true, Bool.or_eq_true, Bool.and_eq_false_iff, Bool.or_eq_false_iff, Bool.not_true, Bool.not_false] at h4
        have hkk : kindE (nth l j) = 15 := by (unfold kindE; rw [if_neg (by have hq := h4; (try simp at hq); omega)])
        have hke2 : runE l = 15 := by rw [runE_sm hbig, hj2, eachF_drop (by omega), map_getD_nth hjl, hkk]; rfl
        refine s_seq ?_
        refine s_region ?_
        refine o_p (p_build (cs := [_, _]) rfl rfl pl_26 zr_26 rfl) rfl ?_
        refine o_h0 (h_store rfl rfl rfl sz_26 rfl aPt (by simp only [setMany_length, List.length_set, List.length_cons, List.length_nil, List.length_map]; omega) rfl) (fun _ _ => ?_)
        refine o_p (p_pure rfl) rfl ?_
        refine o_p (p_pure rfl) rfl ?_
        refine o_nil ?_
        exact s_retv (rs := [.cell 2 26, .tmp 3, .tmp 4]) rfl (.cell rfl sz_26 aPk rfl (.tmp rfl (.tmp rfl (.nil)))) (fun w' h' => ⟨(((none, 0), []), (none, 0)), by rw [runR_e (by rw [hke2]; decide)]; rw [hke2]; rfl, by rw [runR_e (by rw [hke2]; decide)]; rfl, by rw [runR_e (by rw [hke2]; decide)]; exact ((HS.files_none h').own_nil 40 2).ent aEt⟩)
      · try simp only [decide_eq_true_eq, decide_eq_false_iff_not, Bool.not_eq_true', Bool.not_eq_false', Bool.and_eq_true, Bool.or_eq_true, Bool.and_eq_false_iff, Bool.or_eq_false_iff, Bool.not_true, Bool.not_false] at h4
        have hkk : kindE (nth l j) = 0 := by (unfold kindE; rw [if_pos (by have hq := h4; (try simp at hq); omega)])
        refine s_skip ?_
        refine s_blk ?_
        refine s_region ?_
        refine o_p (p_pure rfl) rfl ?_
        refine o_p (p_pure rfl) rfl ?_
        try (refine o_slot (i64w (by omega) (by omega)) ?_)
        refine o_p (p_pure rfl) rfl ?_
        refine o_nil ?_
        exact s_backI (j + 1) (by omega) ⟨by omega, by rw [hj2, eachF_drop (by omega), if_pos (by rw [map_getD_nth hjl]; exact hkk)]⟩ aSx (fun w h => h.ent aEt)
    · try simp only [decide_eq_true_eq, decide_eq_false_iff_not, Bool.not_eq_true', Bool.not_eq_false', Bool.and_eq_true, Bool.or_eq_true, Bool.and_eq_false_iff, Bool.or_eq_false_iff, Bool.not_true, Bool.not_false] at h3
      have hrz : runE l = 0 := by rw [runE_sm hbig, hj2, eachF_end (by omega)]
      refine s_exit_to rfl ?_
      refine s_seq ?_
      refine s_region ?_
      refine o_p (p_build (cs := [_, _]) rfl rfl pl_26 zr_26 rfl) rfl ?_
      refine o_h (h_alloc rfl zr_26) rfl (fun b5 _ => ?_)
      refine o_h0 (h_store rfl rfl rfl sz_26 rfl aPt (by simp only [setMany_length, List.length_set, List.length_cons, List.length_nil, List.length_map]; omega) rfl) (fun _ _ => ?_)
      refine o_nil ?_
      refine s_seq ?_
      refine s_region ?_
      refine o_p (p_pure rfl) rfl ?_
      refine o_nil ?_
      refine s_seq ?_
      refine s_seq ?_
      refine s_region ?_
      refine o_p (p_pure rfl) rfl ?_
      refine o_nil ?_
      refine s_block ?_
      refine s_loopI (α := Nat × ((Option Addr × Nat) × List LFil) × (Option Addr × Nat)) [7, 8, 9, 10, 30, 31, 32, 33, 34, 35, 36, 37, 38, 39, 40, 41, 42, 43, 44, 45, 46, 47, 48, 49] (fun y => [(8, .int .i64 (y.1 : Int)), (7, .slice y.2.2.1 y.1 y.2.2.2)]) (fun y => HS w [] [.blk b5 26 2 [.int .i64 (runS (l.take y.1)).1.2, .slice y.2.1.1.1 y.2.1.2.length y.2.1.1.2], .files y.2.1.1.1 y.2.1.1.2 y.2.1.2, .own (.slice y.2.2.1 y.1 y.2.2.2) 40 2 y.1 ((runS (l.take y.1)).2.flatMap ansV), .blk b1 26 2 [.int .i64 0, .slice none 0 0]]) (fun y => y.1 ≤ l.length ∧ pls y.2.1.2 = (runS (l.take y.1)).1.1) (fun y => l.length - y.1) (0, ((none, 0), []), (none, 0)) ⟨Nat.zero_le _, rfl⟩ aSx (fun w h => ((HS.files_none h).own_nil 40 2).ent aEt) (fun ⟨k, x, o⟩ hk => ?_)
      dsimp only at hk ⊢
      obtain ⟨hk1, hk2⟩ := hk
      refine s_seq ?_
      refine s_seq ?_
      refine s_region ?_
      refine o_p (p_pure rfl) rfl ?_
      refine o_p (p_pure rfl) rfl ?_
      refine o_p (p_len_slice rfl rfl Try.underlying22) rfl ?_
      refine o_p (p_pure rfl) rfl ?_
      refine o_nil ?_
      refine s_cond rfl (fun h6 => ?_) (fun h6 => ?_)
      · try simp only [decide_eq_true_eq, decide_eq_false_iff_not, Bool.not_eq_true', Bool.not_eq_false', Bool.and_eq_true, Bool.or_eq_true, Bool.and_eq_false_iff, Bool.or_eq_false_iff, Bool.not_true, Bool.not_false] at h6
        have hkl : k < l.length := by omega
        have hok := runS_ok (l.take k)
        rw [← hk2] at hok
        have e : runS (l.take (k + 1)) = (((doT (runS (l.take k)).1.2 (pls x.2) (nth l k)).1, (doT (runS (l.take k)).1.2 (pls x.2) (nth l k)).2.1), (runS (l.take k)).2 ++ [((doT (runS (l.take k)).1.2 (pls x.2) (nth l k)).2.2.2, (doT (runS (l.take k)).1.2 (pls x.2) (nth l k)).2.2.1)]) := by rw [runS_succ hkl, stepT, ← hk2]
        have e3 : (runS (l.take (k + 1))).2.flatMap ansV = (runS (l.take k)).2.flatMap ansV ++ [.int .i64 (doT (runS (l.take k)).1.2 (pls x.2) (nth l k)).2.2.2, .int .i64 (doT (runS (l.take k)).1.2 (pls x.2) (nth l k)).2.2.1] := by rw [e, flat_append]; rfl
        refine s_skip ?_
        refine s_seq ?_
        refine s_block ?_
        refine s_seq ?_
        refine s_cutI (α := (Nat × Nat) × (Option Addr × Nat) × List LFil) [9, 10, 36, 37, 38, 39, 40, 41, 42, 43, 44] (fun z => [(9, .pointer (some ⟨z.1.1, 0, none⟩)), (10, .pointer (some ⟨z.1.2, 0, none⟩))]) (fun z => HS w [] [.blk z.1.1 26 2 [.int .i64 (doT (runS (l.take k)).1.2 (pls x.2) (nth l k)).2.1, .slice z.2.1.1 z.2.2.length z.2.1.2], .blk z.1.2 40 2 [.int .i64 (doT (runS (l.take k)).1.2 (pls x.2) (nth l k)).2.2.2, .int .i64 (doT (runS (l.take k)).1.2 (pls x.2) (nth l k)).2.2.1], .files z.2.1.1 z.2.1.2 z.2.2, .blk b5 26 2 [.int .i64 (runS (l.take k)).1.2, .slice x.1.1 x.2.length x.1.2], .own (.slice o.1 k o.2) 40 2 k ((runS (l.take k)).2.flatMap ansV), .blk b1 26 2 [.int .i64 0, .slice none 0 0]]) (fun z => pls z.2.2 = (doT (runS (l.take k)).1.2 (pls x.2) (nth l k)).1) ?_ ?_
        · skip
          refine s_drawB [.blk b5 26 2 [.int .i64 (runS (l.take k)).1.2, .slice x.1.1 x.2.length x.1.2], .own (.slice o.1 k o.2) 40 2 k ((runS (l.take k)).2.flatMap ansV), .blk b1 26 2 [.int .i64 0, .slice none 0 0]] [] mixed ?_
          refine d_q 0 [] rfl (q_loadn rfl rfl sz_26 aPk rfl) (by kernel_rfl) (by kernel_rfl) (by kernel_rfl) rfl ?_
          refine d_p 1 rfl (p_pure rfl) (by kernel_rfl) rfl rfl ?_
          refine d_p 2 rfl (p_pure rfl) (by kernel_rfl) rfl rfl ?_
          refine d_p 3 rfl (p_indexAddr rfl rfl rfl sl_22 (k) (by omega) (by omega) (Rw.some hs (by omega))) (by kernel_rfl) rfl rfl ?_
          refine d_q 4 [] rfl (q_load_oldn _ rfl rfl sz_44 rfl (Rw.rd hs hkl)) (by kernel_rfl) (by kernel_rfl) (by kernel_rfl) rfl ?_
          refine d_three 5 9 10 rfl rfl rfl  (h_callF (Cs := [.files x.1.1 x.1.2 x.2]) rfl fn_51 rfl aPs (fun w1 h1 hf => c51 w1 _ x.1.1 x.1.2 x.2 (nth l k) hf hok)) (h_alloc rfl zr_26) (h_alloc rfl zr_40) (by kernel_rfl) (fun w h => h.ent aEt) rfl rfl rfl  (fun gz hgz => ?_) (fun b7 _ => ?_) (fun b8 _ => ?_)
          · skip
            refine d_p 6 rfl (p_pure rfl) (by kernel_rfl) rfl rfl ?_
            refine d_p 7 rfl (p_pure rfl) (by kernel_rfl) rfl rfl ?_
            refine d_p 8 rfl (p_pure rfl) (by kernel_rfl) rfl rfl ?_
            refine d_two 9 10 rfl rfl  (h_alloc rfl zr_26) (h_alloc rfl zr_40) (by kernel_rfl) (fun w h => h.ent aEt) rfl rfl  (fun b9 _ => ?_) (fun b10 _ => ?_)
            · skip
              refine d_h 10 rfl (h_alloc rfl zr_40) (by kernel_rfl) (fun w h => h.ent aEt) rfl (fun b11 _ => ?_)
              refine d_h0 11 rfl (h_store rfl rfl rfl sz_26 rfl aPt (by simp only [setMany_length, List.length_set, List.length_cons, List.length_nil, List.length_map]; omega) rfl) (by kernel_rfl) (fun w h => h.ent aEt) (fun _ _ => ?_)
              refine d_h0 12 rfl (h_store rfl rfl rfl sz_40 rfl aPt (by simp only [setMany_length, List.length_set, List.length_cons, List.length_nil, List.length_map]; omega) rfl) (by kernel_rfl) (fun w h => h.ent aEt) (fun _ _ => ?_)
              refine d_nil (by kernel_rfl) (fun w h => h.ent aEt) ?_
              exact s_joinI ((_, _), gz.1, gz.2) hgz aSx (fun w h => h.ent aEt)
            · skip
              refine d_h 9 rfl (h_alloc rfl zr_26) (by kernel_rfl) (fun w h => h.ent aEt) rfl (fun b12 _ => ?_)
              refine d_h0 11 rfl (h_store rfl rfl rfl sz_26 rfl aPt (by simp only [setMany_length, List.length_set, List.length_cons, List.length_nil, List.length_map]; omega) rfl) (by kernel_rfl) (fun w h => h.ent aEt) (fun _ _ => ?_)
              refine d_h0 12 rfl (h_store rfl rfl rfl sz_40 rfl aPt (by simp only [setMany_length, List.length_set, List.length_cons, List.length_nil, List.length_map]; omega) rfl) (by kernel_rfl) (fun w h => h.ent aEt) (fun _ _ => ?_)
              refine d_nil (by kernel_rfl) (fun w h => h.ent aEt) ?_
              exact s_joinI ((_, _), gz.1, gz.2) hgz aSx (fun w h => h.ent aEt)
          · skip
            refine d_two 5 10 rfl rfl  (h_callF (Cs := [.files x.1.1 x.1.2 x.2]) rfl fn_51 rfl aPs (fun w1 h1 hf => c51 w1 _ x.1.1 x.1.2 x.2 (nth l k) hf hok)) (h_alloc rfl zr_40) (by kernel_rfl) (fun w h => h.ent aEt) rfl rfl  (fun gz hgz => ?_) (fun b13 _ => ?_)
            · skip
              refine d_p 6 rfl (p_pure rfl) (by kernel_rfl) rfl rfl ?_
              refine d_p 7 rfl (p_pure rfl) (by kernel_rfl) rfl rfl ?_
              refine d_p 8 rfl (p_pure rfl) (by kernel_rfl) rfl rfl ?_
              refine d_h 10 rfl (h_alloc rfl zr_40) (by kernel_rfl) (fun w h => h.ent aEt) rfl (fun b14 _ => ?_)
              refine d_h0 11 rfl (h_store rfl rfl rfl sz_26 rfl aPt (by simp only [setMany_length, List.length_set, List.length_cons, List.length_nil, List.length_map]; omega) rfl) (by kernel_rfl) (fun w h => h.ent aEt) (fun _ _ => ?_)
              refine d_h0 12 rfl (h_store rfl rfl rfl sz_40 rfl aPt (by simp only [setMany_length, List.length_set, List.length_cons, List.length_nil, List.length_map]; omega) rfl) (by kernel_rfl) (fun w h => h.ent aEt) (fun _ _ => ?_)
              refine d_nil (by kernel_rfl) (fun w h => h.ent aEt) ?_
              exact s_joinI ((_, _), gz.1, gz.2) hgz aSx (fun w h => h.ent aEt)
            · skip
              refine d_h 5 rfl (h_callF (Cs := [.files x.1.1 x.1.2 x.2]) rfl fn_51 rfl aPs (fun w1 h1 hf => c51 w1 _ x.1.1 x.1.2 x.2 (nth l k) hf hok)) (by kernel_rfl) (fun w h => h.ent aEt) rfl (fun gz hgz => ?_)
              refine d_p 6 rfl (p_pure rfl) (by kernel_rfl) rfl rfl ?_
              refine d_p 7 rfl (p_pure rfl) (by kernel_rfl) rfl rfl ?_
              refine d_p 8 rfl (p_pure rfl) (by kernel_rfl) rfl rfl ?_
              refine d_h0 11 rfl (h_store rfl rfl rfl sz_26 rfl aPt (by simp only [setMany_length, List.length_set, List.length_cons, List.length_nil, List.length_map]; omega) rfl) (by kernel_rfl) (fun w h => h.ent aEt) (fun _ _ => ?_)
              refine d_h0 12 rfl (h_store rfl rfl rfl sz_40 rfl aPt (by simp only [setMany_length, List.length_set, List.length_cons, List.length_nil, List.length_map]; omega) rfl) (by kernel_rfl) (fun w h => h.ent aEt) (fun _ _ => ?_)
              refine d_nil (by kernel_rfl) (fun w h => h.ent aEt) ?_
              exact s_joinI ((_, _), gz.1, gz.2) hgz aSx (fun w h => h.ent aEt)
          · skip
            refine d_two 5 9 rfl rfl  (h_callF (Cs := [.files x.1.1 x.1.2 x.2]) rfl fn_51 rfl aPs (fun w1 h1 hf => c51 w1 _ x.1.1 x.1.2 x.2 (nth l k) hf hok)) (h_alloc rfl zr_26) (by kernel_rfl) (fun w h => h.ent aEt) rfl rfl  (fun gz hgz => ?_) (fun b15 _ => ?_)
            · skip
              refine d_p 6 rfl (p_pure rfl) (by kernel_rfl) rfl rfl ?_
              refine d_p 7 rfl (p_pure rfl) (by kernel_rfl) rfl rfl ?_
              refine d_p 8 rfl (p_pure rfl) (by kernel_rfl) rfl rfl ?_
              refine d_h 9 rfl (h_alloc rfl zr_26) (by kernel_rfl) (fun w h => h.ent aEt) rfl (fun b16 _ => ?_)
              refine d_h0 11 rfl (h_store rfl rfl rfl sz_26 rfl aPt (by simp only [setMany_length, List.length_set, List.length_cons, List.length_nil, List.length_map]; omega) rfl) (by kernel_rfl) (fun w h => h.ent aEt) (fun _ _ => ?_)
              refine d_h0 12 rfl (h_store rfl rfl rfl sz_40 rfl aPt (by simp only [setMany_length, List.length_set, List.length_cons, List.length_nil, List.length_map]; omega) rfl) (by kernel_rfl) (fun w h => h.ent aEt) (fun _ _ => ?_)
              refine d_nil (by kernel_rfl) (fun w h => h.ent aEt) ?_
              exact s_joinI ((_, _), gz.1, gz.2) hgz aSx (fun w h => h.ent aEt)
            · skip
              refine d_h 5 rfl (h_callF (Cs := [.files x.1.1 x.1.2 x.2]) rfl fn_51 rfl aPs (fun w1 h1 hf => c51 w1 _ x.1.1 x.1.2 x.2 (nth l k) hf hok)) (by kernel_rfl) (fun w h => h.ent aEt) rfl (fun gz hgz => ?_)
              refine d_p 6 rfl (p_pure rfl) (by kernel_rfl) rfl rfl ?_
              refine d_p 7 rfl (p_pure rfl) (by kernel_rfl) rfl rfl ?_
              refine d_p 8 rfl (p_pure rfl) (by kernel_rfl) rfl rfl ?_
              refine d_h0 11 rfl (h_store rfl rfl rfl sz_26 rfl aPt (by simp only [setMany_length, List.length_set, List.length_cons, List.length_nil, List.length_map]; omega) rfl) (by kernel_rfl) (fun w h => h.ent aEt) (fun _ _ => ?_)
              refine d_h0 12 rfl (h_store rfl rfl rfl sz_40 rfl aPt (by simp only [setMany_length, List.length_set, List.length_cons, List.length_nil, List.length_map]; omega) rfl) (by kernel_rfl) (fun w h => h.ent aEt) (fun _ _ => ?_)
              refine d_nil (by kernel_rfl) (fun w h => h.ent aEt) ?_
              exact s_joinI ((_, _), gz.1, gz.2) hgz aSx (fun w h => h.ent aEt)
        · intro ⟨⟨z1, z2⟩, za, Z⟩ hZ
          dsimp only at hZ ⊢
          refine s_seq ?_
          refine s_region ?_
          refine o_q (q_loadn rfl rfl sz_26 aPk rfl) rfl ?_
          refine o_h0 (h_store rfl rfl rfl sz_26 rfl aPt (by simp only [setMany_length, List.length_set, List.length_cons, List.length_nil, List.length_map]; omega) rfl) (fun _ _ => ?_)
          refine o_nil ?_
          refine s_region ?_
          refine o_p (p_pure rfl) rfl ?_
          refine o_q (q_loadn rfl rfl sz_40 aPk rfl) rfl ?_
          refine o_h (h_buildSlice (cs := [_, _]) rfl rfl sl_27 zr_40 rfl rfl rfl) rfl (fun b17 _ => ?_)
          refine o_h (h_appendS (n := k) (ansV ((doT (runS (l.take k)).1.2 (pls x.2) (nth l k)).2.2.2, (doT (runS (l.take k)).1.2 (pls x.2) (nth l k)).2.2.1)) rfl rfl rfl sl_27 Try.underlying27 zr_40 rfl aPk (src_blk aPk) rfl (by intro u hu; simp only [ansV, List.mem_cons, List.mem_nil_iff, or_false] at hu; rcases hu with rfl | rfl <;> rfl) (by omega) (by simp only [maxLen]; omega)) rfl (fun b18 _ => ?_)
          refine o_p (p_pure rfl) rfl ?_
          refine o_nil ?_
          refine s_blk ?_
          refine s_region ?_
          refine o_p (p_pure rfl) rfl ?_
          refine o_p (p_pure rfl) rfl ?_
          try (refine o_slot (i64w (by omega) (by omega)) ?_)
          refine o_p (p_pure rfl) rfl ?_
          refine o_nil ?_
          exact s_backI (k + 1, (za, Z), b18) (by show l.length - (k + 1) < l.length - k; omega) ⟨by show k + 1 ≤ l.length; omega, by show pls Z = (runS (l.take (k + 1))).1.1; rw [hZ, e]⟩ aSx (fun w h => by dsimp only; rw [e3]; rw [e]; exact h.ent aEt)
      · try simp only [decide_eq_true_eq, decide_eq_false_iff_not, Bool.not_eq_true', Bool.not_eq_false', Bool.and_eq_true, Bool.or_eq_true, Bool.and_eq_false_iff, Bool.or_eq_false_iff, Bool.not_true, Bool.not_false] at h6
        obtain rfl : k = l.length := by omega
        rw [List.take_length]
        rw [List.take_length] at hk2
        refine s_exit_to rfl ?_
        refine s_seq ?_
        refine s_region ?_
        refine o_q (q_loadn rfl rfl sz_26 aPk rfl) rfl ?_
        refine o_p (p_pure rfl) rfl ?_
        refine o_h0 (h_store rfl rfl rfl sz_26 rfl aPt (by simp only [setMany_length, List.length_set, List.length_cons, List.length_nil, List.length_map]; omega) rfl) (fun _ _ => ?_)
        refine o_p (p_pure rfl) rfl ?_
        refine o_p (p_pure rfl) rfl ?_
        refine o_nil ?_
        exact s_retv (rs := [.cell 2 26, .tmp 3, .tmp 4]) rfl (.cell rfl sz_26 aPk rfl (.tmp rfl (.tmp rfl (.nil)))) (fun w' h' => ⟨(x, o), by rw [runR_0 hrz, hrz, runS_len]; rfl, by rw [runR_0 hrz]; exact hk2, by rw [runR_0 hrz, runS_len]; exact h'.ent aEt⟩)

end Go.Proofs

namespace Go.Proofs
open Go Go.RowKit Gx
set_option linter.unusedVariables false
set_option linter.unusedSimpArgs false
attribute [local irreducible] Go.Calls Gx.S Gx.O Gx.D Gx.OpP Gx.OpQ Gx.OpH

theorem fn_13 : isFn Try.prog 13 = true := by kernel_rfl


theorem runR_b {l : List HAct} {G : List LFil} (hG : pls G = (runR l).1.1) : G.length ≤ 1000 ∧ (∀ f ∈ G, f.op.length ≤ 1000) ∧ ∀ f ∈ G, ∀ o ∈ f.op, o.lk.length ≤ 1000 := by
  rcases Classical.em (runE l = 0) with h | h
  · rw [runR_0 h] at hG
    have h3 := (runS_ok l).vw
    rw [← hG] at h3
    exact vw_b h3
  · rw [runR_e h] at hG
    exact nil_b hG
theorem runR_len {l : List HAct} : (runR l).2.length ≤ l.length := by
  rcases Classical.em (runE l = 0) with h | h
  · rw [runR_0 h, runS_len]
    exact Nat.le_refl _
  · rw [runR_e h]
    exact Nat.zero_le _

set_option maxRecDepth 20000 in
set_option maxHeartbeats 2000000 in
theorem c3 (w : World) (a : Option Addr) (cap : Nat) (l : List HAct) (hs : Rw HAct.vals 9 w [] a l) : Calls Try.prog 3 #[.slice a l.length cap] w fun en w' => en = .returned (.bool true) ∧ Below w.heap.size w w' := by
  refine enter (args := [_]) Try.func3 Try.ntmps3 rfl rfl (HS.refl w []) ?_
  refine s_seq ?_
  refine s_region ?_
  refine o_p (p_pure rfl) rfl ?_
  refine o_nil ?_
  refine s_seq ?_
  refine s_seq ?_
  refine s_region ?_
  refine o_q (q_call rfl fn_11 rfl (fun w1 h1 => c11 w1)) rfl ?_
  refine o_p (p_pure rfl) rfl ?_
  refine o_nil ?_
  refine s_cond rfl (fun h1 => ?_) (fun h1 => ?_)
  · try simp only [decide_eq_true_eq, decide_eq_false_iff_not, Bool.not_eq_true', Bool.not_eq_false', Bool.and_eq_true, Bool.or_eq_true, Bool.and_eq_false_iff, Bool.or_eq_false_iff, Bool.not_true, Bool.not_false] at h1
    exfalso; first | omega | (simp at h1; done) | (simp_all; done)
  · try simp only [decide_eq_true_eq, decide_eq_false_iff_not, Bool.not_eq_true', Bool.not_eq_false', Bool.and_eq_true, Bool.or_eq_true, Bool.and_eq_false_iff, Bool.or_eq_false_iff, Bool.not_true, Bool.not_false] at h1
    refine s_skip ?_
    refine s_seq ?_
    refine s_seq ?_
    refine s_region ?_
    refine o_p (p_pure rfl) rfl ?_
    refine o_p (p_len_slice rfl rfl Try.underlying22) rfl ?_
    refine o_p (p_pure rfl) rfl ?_
    refine o_nil ?_
    refine s_cond rfl (fun h2 => ?_) (fun h2 => ?_)
    · try simp only [decide_eq_true_eq, decide_eq_false_iff_not, Bool.not_eq_true', Bool.not_eq_false', Bool.and_eq_true, Bool.or_eq_true, Bool.and_eq_false_iff, Bool.or_eq_false_iff, Bool.not_true, Bool.not_false] at h2
      refine s_seq ?_
      refine s_region ?_
      refine o_p (p_pure rfl) rfl ?_
      refine o_nil ?_
      exact s_retv (rs := [.tmp 2]) rfl (.tmp rfl (.nil)) (fun w' h' => ⟨by rfl, h'.below⟩)
    · try simp only [decide_eq_true_eq, decide_eq_false_iff_not, Bool.not_eq_true', Bool.not_eq_false', Bool.and_eq_true, Bool.or_eq_true, Bool.and_eq_false_iff, Bool.or_eq_false_iff, Bool.not_true, Bool.not_false] at h2
      have hl110 : l.length ≤ 110 := by have hq := h2; omega
      have hrl := runR_len (l := l)
      refine s_skip ?_
      refine s_seq ?_
      refine s_region ?_
      refine o_h (h_buildSlice0 rfl sl_22) rfl (fun b3 _ => ?_)
      refine o_p (p_pure rfl) rfl ?_
      refine o_h (h_appendS (n := 0) (l.flatMap HAct.vals) rfl rfl rfl sl_22 Try.underlying22 zr_44 rfl aPk (fun w h => Rw.src hv9 hs h) (flat_length hv9 _) (flat_one hv1 _) (by omega) (by simp only [maxLen]; omega)) rfl (fun b4 _ => ?_)
      simp only [Nat.zero_add, List.nil_append]
      refine o_h (h_call rfl fn_12 rfl (fun w1 h1 => c12 w1 b4.1 b4.2 l (h1.rw_own hv9 aPk rfl) (by omega))) rfl (fun ⟨⟨⟨ta, tc⟩, N⟩, o⟩ hN => ?_)
      dsimp only at hN ⊢
      refine o_p (p_pure rfl) rfl ?_
      refine o_p (p_pure rfl) rfl ?_
      refine o_p (p_pure rfl) rfl ?_
      refine o_p (p_pure rfl) rfl ?_
      refine o_h (h_alloc rfl zr_26) rfl (fun b5 _ => ?_)
      refine o_h0 (h_store rfl rfl rfl sz_26 rfl aPt (by simp only [setMany_length, List.length_set, List.length_cons, List.length_nil, List.length_map]; omega) rfl) (fun _ _ => ?_)
      refine o_p (p_pure rfl) rfl ?_
      refine o_p (p_pure rfl) rfl ?_
      refine o_nil ?_
      refine s_seq ?_
      refine s_region ?_
      refine o_p (p_pure rfl) rfl ?_
      refine o_h (h_call rfl fn_13 rfl (fun w1 h1 => c13 w1 a cap l (Rw.later hs h1) (by omega))) rfl (fun ⟨⟨⟨ra, rc2⟩, RN⟩, ro⟩ hRN => ?_)
      dsimp only at hRN ⊢
      refine o_p (p_pure rfl) rfl ?_
      refine o_p (p_pure rfl) rfl ?_
      refine o_p (p_pure rfl) rfl ?_
      refine o_p (p_pure rfl) rfl ?_
      refine o_h (h_alloc rfl zr_26) rfl (fun b6 _ => ?_)
      refine o_h0 (h_store rfl rfl rfl sz_26 rfl aPt (by simp only [setMany_length, List.length_set, List.length_cons, List.length_nil, List.length_map]; omega) rfl) (fun _ _ => ?_)
      refine o_p (p_pure rfl) rfl ?_
      refine o_p (p_pure rfl) rfl ?_
      refine o_nil ?_
      refine s_seq ?_
      refine s_region ?_
      refine o_p (p_pure rfl) rfl ?_
      refine o_p (p_pure rfl) rfl ?_
      refine o_p (p_pure rfl) rfl ?_
      refine o_p (p_pure rfl) rfl ?_
      refine o_and 4 31 35 _ _ rfl
        (by
          intro hg7
          have hs8 := hg7; try simp only [decide_eq_true_eq, decide_eq_false_iff_not, Bool.not_eq_true', Bool.not_eq_false', Bool.and_eq_true, Bool.or_eq_true, Bool.and_eq_false_iff, Bool.or_eq_false_iff, Bool.not_true, Bool.not_false] at hs8
          refine o_on 31 _ rfl rfl hg7 ?_
          refine o_q (q_loadn rfl rfl sz_26 aPk rfl) rfl ?_
          refine o_on 31 _ rfl rfl hg7 ?_
          refine o_q (q_loadn rfl rfl sz_26 aPk rfl) rfl ?_
          refine o_on 31 _ rfl rfl hg7 ?_
          refine o_q (q_call rfl fn_14 rfl (fun w1 h1 => by have gb := runR_b hN; exact c14 w1 (runR l).1.2 ta ra tc rc2 N RN (HS.ft (a := ta) (cap := tc) (l := N) h1 aPk) (HS.ft (a := ra) (cap := rc2) (l := RN) h1 aPk) (hRN.trans hN.symm) gb.1 gb.2.1 gb.2.2)) rfl ?_
          refine o_p (p_pickt rfl rfl hg7 rfl) rfl ?_
          refine o_nil ?_
          exact s_joinN 4 35 _ rfl rfl rfl (fun w h => by first | exact h | exact h.ent aEt))
        (by
          intro hg9
          have hs10 := hg9; try simp only [decide_eq_true_eq, decide_eq_false_iff_not, Bool.not_eq_true', Bool.not_eq_false', Bool.and_eq_true, Bool.or_eq_true, Bool.and_eq_false_iff, Bool.or_eq_false_iff, Bool.not_true, Bool.not_false] at hs10
          refine o_off 31 _ rfl rfl hg9 rfl ?_
          refine o_off 31 _ rfl rfl hg9 rfl ?_
          refine o_off 31 _ rfl rfl hg9 rfl ?_
          refine o_p (p_pickf rfl rfl hg9 rfl) rfl ?_
          refine o_nil ?_
          exact s_joinN 4 35 _ rfl rfl rfl (fun w h => by first | exact h | exact h.ent aEt)) ?_
      refine o_p (p_pure rfl) rfl ?_
      refine o_and 4 36 40 _ _ rfl
        (by
          intro hg11
          have hs12 := hg11; try simp only [decide_eq_true_eq, decide_eq_false_iff_not, Bool.not_eq_true', Bool.not_eq_false', Bool.and_eq_true, Bool.or_eq_true, Bool.and_eq_false_iff, Bool.or_eq_false_iff, Bool.not_true, Bool.not_false] at hs12
          refine o_on 36 _ rfl rfl hg11 ?_
          refine o_p (p_pure rfl) rfl ?_
          refine o_on 36 _ rfl rfl hg11 ?_
          refine o_p (p_pure rfl) rfl ?_
          refine o_on 36 _ rfl rfl hg11 ?_
          refine o_q (q_call rfl fn_15 rfl (fun w1 h1 => c15 w1 o.1 ro.1 o.2 ro.2 (runR l).2 (h1.rw_own (vals := ansV) (fun _ => rfl) (a := o.1) (cap := o.2) (l := (runR l).2) (n := (runR l).2.length) (t := 40) aPk rfl) (h1.rw_own (vals := ansV) (fun _ => rfl) (a := ro.1) (cap := ro.2) (l := (runR l).2) (n := (runR l).2.length) (t := 40) aPk rfl) (by omega))) rfl ?_
          refine o_p (p_pickt rfl rfl hg11 rfl) rfl ?_
          refine o_nil ?_
          exact s_joinN 4 40 _ rfl rfl rfl (fun w h => by first | exact h | exact h.ent aEt))
        (by
          intro hg13
          have hs14 := hg13; try simp only [decide_eq_true_eq, decide_eq_false_iff_not, Bool.not_eq_true', Bool.not_eq_false', Bool.and_eq_true, Bool.or_eq_true, Bool.and_eq_false_iff, Bool.or_eq_false_iff, Bool.not_true, Bool.not_false] at hs14
          refine o_off 36 _ rfl rfl hg13 rfl ?_
          refine o_off 36 _ rfl rfl hg13 rfl ?_
          refine o_off 36 _ rfl rfl hg13 rfl ?_
          refine o_p (p_pickf rfl rfl hg13 rfl) rfl ?_
          refine o_nil ?_
          exact s_joinN 4 40 _ rfl rfl rfl (fun w h => by first | exact h | exact h.ent aEt)) ?_
      refine o_p (p_pure rfl) rfl ?_
      refine o_nil ?_
      exact s_retv (rs := [.tmp 2]) rfl (.tmp rfl (.nil)) (fun w' h' => ⟨by (try simp only [retV]); simp, h'.below⟩)

end Go.Proofs

/- Chapter 25, plain: a count of which handles are open, beside a run of acts. No program here. -/
namespace Go.Proofs
open Go Go.RowKit Gx
set_option linter.unusedVariables false
set_option linter.unusedSimpArgs false

/-- The count: files, whether marked; of each handle its file, whether it deletes on close, whether it is closed. -/
structure DS where
  fl : List (Int × Int)
  ow : List Bool
  of : List Nat
  on : List Bool
  gn : List Bool
def ky (f : Fil) : Int × Int := (f.rc, f.sq)
structure DI (next : Int) (L : List Fil) (D : DS) : Prop where
  nx : next = (D.of.length : Int) + 1
  l1 : D.on.length = D.of.length
  l2 : D.gn.length = D.of.length
  l3 : D.ow.length = D.fl.length
  lt : ∀ h, h < D.of.length → nth D.of h < D.fl.length
  a : ∀ h, h < D.of.length → nth D.gn h = false → ∃ f ∈ L, ∃ o ∈ f.op, o.hd = (h : Int) + 1 ∧ o.dl = nth D.on h ∧ ky f = nth D.fl (nth D.of h)
  b : ∀ f ∈ L, ∀ o ∈ f.op, ∀ h, h < D.of.length → o.hd = (h : Int) + 1 → nth D.gn h = false
  c : ∀ f ∈ L, ∃ j, j < D.fl.length ∧ nth D.fl j = ky f ∧ nth D.ow j = f.pd
  e : ∀ j, j < D.fl.length → nth D.ow j = true → ∃ f ∈ L, ky f = nth D.fl j
  nd : ∀ i j, i < D.fl.length → j < D.fl.length → nth D.fl i = nth D.fl j → i = j
theorem DI.nil : DI 1 [] ⟨[], [], [], [], []⟩ :=
  ⟨rfl, rfl, rfl, rfl, fun h hh => absurd hh (Nat.not_lt_zero h), fun h hh => absurd hh (Nat.not_lt_zero h), fun f hf => (by cases hf), fun f hf => (by cases hf), fun h hh => absurd hh (Nat.not_lt_zero h), fun h _ hh => absurd hh (Nat.not_lt_zero h)⟩
theorem nth_app1 {α : Type} [Inhabited α] {l : List α} {x : α} {i : Nat} (h : i < l.length) : nth (l ++ [x]) i = nth l i := by
  simp only [nth, List.getD_eq_getElem?_getD, List.getElem?_append_left h]
theorem nth_app2 {α : Type} [Inhabited α] {l : List α} {x : α} {i : Nat} (h : i = l.length) : nth (l ++ [x]) i = x := by
  subst h
  simp only [nth, List.getD_eq_getElem?_getD, List.getElem?_concat_length, Option.getD_some]
theorem nth_set1 {α : Type} [Inhabited α] {l : List α} {x : α} {i : Nat} (h : i < l.length) : nth (l.set i x) i = x := by
  simp only [nth, List.getD_eq_getElem?_getD, List.getElem?_set_self h, Option.getD_some]
theorem nth_set2 {α : Type} [Inhabited α] {l : List α} {x : α} {i j : Nat} (h : i ≠ j) : nth (l.set i x) j = nth l j := by
  simp only [nth, List.getD_eq_getElem?_getD, List.getElem?_set_ne h]
theorem ky_lt_irr (a : Int × Int) : refLt a a = false := by simp [refLt]
/-- Files of a valid table with one name are one file. -/
theorem ky_eq {next : Int} {L : List Fil} (h : Ok next L) {i j : Nat} (hi : i < L.length) (hj : j < L.length) (he : ky (nth L i) = ky (nth L j)) : i = j := by
  have p := pw_nth.1 h.sr
  have irr := ky_lt_irr (ky (nth L j))
  rcases Nat.lt_trichotomy i j with h1 | h1 | h1
  · have h2 := p i j h1 hj
    rw [show ((nth L i).rc, (nth L i).sq) = ky (nth L j) from he] at h2
    rw [show ((nth L j).rc, (nth L j).sq) = ky (nth L j) from rfl, irr] at h2
    cases h2
  · exact h1
  · have h2 := p j i h1 hi
    rw [show ((nth L i).rc, (nth L i).sq) = ky (nth L j) from he] at h2
    rw [show ((nth L j).rc, (nth L j).sq) = ky (nth L j) from rfl, irr] at h2
    cases h2
/-- A handle of a valid table is in one file alone. -/
theorem hd_eq {next : Int} {L : List Fil} (h : Ok next L) {i j : Nat} (hi : i < L.length) (hj : j < L.length) {o p : Opn} (ho : o ∈ (nth L i).op) (hp : p ∈ (nth L j).op) (he : o.hd = p.hd) : i = j := by
  have q := pw_nth.1 h.ds
  rcases Nat.lt_trichotomy i j with h1 | h1 | h1
  · exact absurd he (q i j h1 hj o ho p hp)
  · exact h1
  · exact absurd he.symm (q j i h1 hi p hp o ho)
theorem hd_in {next : Int} {f : Fil} (h : FOk next f) {i j : Nat} (hi : i < f.op.length) (hj : j < f.op.length) (he : (nth f.op i).hd = (nth f.op j).hd) : i = j := by
  have q := pw_nth.1 h.hs
  rcases Nat.lt_trichotomy i j with h1 | h1 | h1
  · have := q i j h1 hj; omega
  · exact h1
  · have := q j i h1 hi; omega
theorem ky_eqm {next : Int} {L : List Fil} (h : Ok next L) {f g : Fil} (hf : f ∈ L) (hg : g ∈ L) (he : ky f = ky g) : f = g := by
  obtain ⟨i, hi, rfl⟩ := mem_nth_ex hf
  obtain ⟨j, hj, rfl⟩ := mem_nth_ex hg
  rw [ky_eq h hi hj he]
theorem hd_eqm {next : Int} {L : List Fil} (h : Ok next L) {f g : Fil} (hf : f ∈ L) (hg : g ∈ L) {o p : Opn} (ho : o ∈ f.op) (hp : p ∈ g.op) (he : o.hd = p.hd) : f = g ∧ o = p := by
  obtain ⟨i, hi, rfl⟩ := mem_nth_ex hf
  obtain ⟨j, hj, rfl⟩ := mem_nth_ex hg
  obtain rfl := hd_eq h hi hj ho hp he
  refine ⟨rfl, ?_⟩
  obtain ⟨k, hk, rfl⟩ := mem_nth_ex ho
  obtain ⟨m, hm, rfl⟩ := mem_nth_ex hp
  rw [hd_in (nth_Ok h hi) hk hm he]
/-- What is found. -/
theorem found {next : Int} {L : List Fil} (h : Ok next L) {hd : Int} (he : (findF L hd 0).2.2 = 0) : ∃ i k, findF L hd 0 = (i, k, 0) ∧ i < L.length ∧ k < (nth L i).op.length ∧ (nth (nth L i).op k).hd = hd := by
  obtain ⟨i, k, h1, h2, h3, h4⟩ := findF_spec he
  refine ⟨i, k, by simpa using h1, h2, h3, ?_⟩
  have h5 : ixB ((nth L i).op.map fun o => decide (o.hd = hd)) < ((nth L i).op.map fun o => decide (o.hd = hd)).length := by
    rw [List.length_map]; unfold ixO at h4; omega
  have h6 := ixB_at h5
  unfold ixO at h4
  rw [← h4, map_getD_nthB h3] at h6
  simpa using h6
theorem mem_set_ky {next : Int} {L : List Fil} (h : Ok next L) {i : Nat} (hi : i < L.length) {x : Fil} (g : Fil) : g ∈ L.set i x ↔ g = x ∨ (g ∈ L ∧ ky g ≠ ky (nth L i)) := by
  constructor
  · intro hg
    obtain ⟨j, hj, rfl⟩ := mem_nth_ex hg
    rw [List.length_set] at hj
    by_cases e : i = j
    · subst e; exact .inl (nth_set1 hi)
    · right
      rw [nth_set2 e]
      exact ⟨mem_nth hj, fun he => e (ky_eq h hj hi he).symm⟩
  · rintro (rfl | ⟨hg, hne⟩)
    · have : nth (L.set i g) i ∈ L.set i g := mem_nth (by rw [List.length_set]; exact hi)
      rwa [nth_set1 hi] at this
    · obtain ⟨j, hj, rfl⟩ := mem_nth_ex hg
      have e : i ≠ j := fun e => hne (by rw [e])
      have : nth (L.set i x) j ∈ L.set i x := mem_nth (by rw [List.length_set]; exact hj)
      rwa [nth_set2 e] at this
theorem mem_others {α : Type} [Inhabited α] {l : List α} {i : Nat} {y : α} : y ∈ others l i ↔ ∃ j, j < l.length ∧ j ≠ i ∧ nth l j = y := by
  unfold others
  rw [List.mem_append]
  constructor
  · rintro (h | h)
    · obtain ⟨j, h1, h2, h3⟩ := nth_mem_take h
      exact ⟨j, h2, by omega, h3⟩
    · obtain ⟨j, h1, h2, h3⟩ := nth_mem_drop h
      exact ⟨j, h2, by omega, h3⟩
  · rintro ⟨j, h1, h2, rfl⟩
    rcases Nat.lt_or_ge j i with h3 | h3
    · exact .inl (mem_take_of h3 h1)
    · right
      refine List.mem_iff_getElem?.2 ⟨j - (i + 1), ?_⟩
      rw [List.getElem?_drop, show i + 1 + (j - (i + 1)) = j by omega, nth_get h1]
theorem mem_others_ky {next : Int} {L : List Fil} (h : Ok next L) {i : Nat} (hi : i < L.length) (g : Fil) : g ∈ others L i ↔ (g ∈ L ∧ ky g ≠ ky (nth L i)) := by
  rw [mem_others]
  constructor
  · rintro ⟨j, hj, e, rfl⟩
    exact ⟨mem_nth hj, fun he => e (ky_eq h hj hi he)⟩
  · rintro ⟨hg, hne⟩
    obtain ⟨j, hj, rfl⟩ := mem_nth_ex hg
    exact ⟨j, hj, fun e => hne (by rw [e]), rfl⟩
theorem mem_ins {L : List Fil} {i : Nat} {x g : Fil} : g ∈ insAt L i x ↔ g = x ∨ g ∈ L := by
  constructor
  · exact ins_le g
  · unfold insAt
    rintro (rfl | h)
    · simp
    · rw [← List.take_append_drop i L] at h
      rcases List.mem_append.1 h with h | h
      · exact List.mem_append_left _ h
      · exact List.mem_append_right _ (List.mem_cons_of_mem _ h)
/-- What an opening does. -/
theorem open_mem {next : Int} {L : List Fil} (h : Ok next L) {rc sq : Int} {x : Opn} (he : (openT next L rc sq x).2.2.2 = 0) :
    (openT next L rc sq x).2.1 = next + 1 ∧ (openT next L rc sq x).2.2.1 = next ∧ ∃ f0 : Fil, f0.pd = false ∧ ky f0 = (rc, sq) ∧ ((f0 ∈ L) ∨ (f0.op = [] ∧ ∀ g ∈ L, ky g ≠ (rc, sq))) ∧ ∀ g, g ∈ (openT next L rc sq x).1 ↔ g = putO f0 x next ∨ (g ∈ L ∧ ky g ≠ (rc, sq)) := by
  unfold openT at he ⊢
  split at he
  · rename_i hz
    rw [if_pos hz]
    split at he
    · rename_i hb
      rw [if_pos hb]
      obtain ⟨hi, hk⟩ := (bsF_iff h).1 hb
      split at he
      · rename_i ho
        rw [if_pos ho]
        refine ⟨rfl, rfl, nth L (bsL (cmps L rc sq)), ?_, hk, .inl (mem_nth hi), fun g => ?_⟩
        · unfold oldE at ho
          split at ho
          · exact absurd ho (by decide)
          · simp_all
        · rw [show updF L (bsL (cmps L rc sq)) (fun f => putO f x next) = L.set (bsL (cmps L rc sq)) (putO (nth L (bsL (cmps L rc sq))) x next) from rfl, mem_set_ky h hi, ← hk]
          rfl
      · rename_i ho; exact absurd he ho
    · rename_i hb
      rw [if_neg hb]
      have hna := not_at h hb
      refine ⟨rfl, rfl, ⟨rc, sq, false, []⟩, rfl, rfl, .inr ⟨rfl, hna⟩, fun g => ?_⟩
      show g ∈ insAt _ _ _ ↔ _
      rw [mem_ins]
      constructor
      · rintro (h1 | h1)
        · exact .inl h1
        · exact .inr ⟨h1, hna g h1⟩
      · rintro (h1 | h1)
        · exact .inl h1
        · exact .inr h1.1
  · rename_i hz; exact absurd he hz
/-- What an act on a handle does: another file in the place of its file. -/
def Upd (L L' : List Fil) (f0 f1 : Fil) : Prop := f0 ∈ L ∧ ky f1 = ky f0 ∧ (∀ q ∈ f1.op, ∃ p ∈ f0.op, p.hd = q.hd ∧ p.dl = q.dl) ∧ (∀ p ∈ f0.op, ∃ q ∈ f1.op, q.hd = p.hd ∧ q.dl = p.dl) ∧ ∀ g, g ∈ L' ↔ g = f1 ∨ (g ∈ L ∧ ky g ≠ ky f0)
theorem mark_mem {next : Int} {L : List Fil} (h : Ok next L) {hd : Int} {d : Bool} (he : (markT L hd d).2 = 0) : ∃ f0 f1 : Fil, f1.pd = d ∧ (∃ o ∈ f0.op, o.hd = hd) ∧ Upd L (markT L hd d).1 f0 f1 := by
  unfold markT at he ⊢
  split at he
  · rename_i hz
    rw [if_pos hz]
    obtain ⟨i, k, e, hi, hk, hh⟩ := found h hz
    rw [e] at he ⊢
    dsimp only at he ⊢
    split at he
    · rename_i ha
      rw [if_pos ha]
      exact ⟨nth L i, { nth L i with pd := d }, rfl, ⟨_, mem_nth hk, hh⟩, mem_nth hi, rfl, fun q hq => ⟨q, hq, rfl, rfl⟩, fun q hq => ⟨q, hq, rfl, rfl⟩, fun g => mem_set_ky h hi g⟩
    · exact absurd he (by simp)
  · rename_i hz; exact absurd he hz
theorem updLk {next : Int} {L : List Fil} (h : Ok next L) {i k : Nat} (hi : i < L.length) (hk : k < (nth L i).op.length) (lk : List Lock) : Upd L (updO L i k fun o => { o with lk := lk }) (nth L i) { nth L i with op := (nth L i).op.set k { nth (nth L i).op k with lk := lk } } := by
  refine ⟨mem_nth hi, rfl, fun q hq => ?_, fun p hp => ?_, fun g => mem_set_ky h hi g⟩
  · rcases mem_set_or hq with rfl | h9
    · exact ⟨_, mem_nth hk, rfl, rfl⟩
    · exact ⟨q, h9, rfl, rfl⟩
  · obtain ⟨j, hj, rfl⟩ := mem_nth_ex hp
    by_cases e : k = j
    · subst e
      refine ⟨nth ((nth L i).op.set k { nth (nth L i).op k with lk := lk }) k, mem_nth (by rw [List.length_set]; exact hk), ?_⟩
      rw [nth_set1 hk]
      exact ⟨rfl, rfl⟩
    · refine ⟨nth ((nth L i).op.set k { nth (nth L i).op k with lk := lk }) j, mem_nth (by rw [List.length_set]; exact hj), ?_⟩
      rw [nth_set2 e]
      exact ⟨rfl, rfl⟩
theorem lock_mem {next : Int} {L : List Fil} (h : Ok next L) {hd : Int} {q : Lock} (he : (lockT L hd q).2 = 0) : ∃ f0 f1 : Fil, f1.pd = f0.pd ∧ (∃ o ∈ f0.op, o.hd = hd) ∧ Upd L (lockT L hd q).1 f0 f1 := by
  unfold lockT at he ⊢
  split at he
  · rename_i hz
    rw [if_pos hz]
    obtain ⟨i, k, e, hi, hk, hh⟩ := found h hz
    rw [e] at he ⊢
    dsimp only at he ⊢
    split at he
    · rename_i ha
      rw [if_pos ha]
      split at he
      · rename_i hb
        rw [if_pos hb]
        refine ⟨_, _, ?_, ⟨_, mem_nth hk, hh⟩, updLk h hi hk ((nth (nth L i).op k).lk ++ [q])⟩
        rfl
      · rename_i hb; exact absurd he hb
    · rename_i ha; exact absurd he ha
  · rename_i hz; exact absurd he hz
theorem unlock_mem {next : Int} {L : List Fil} (h : Ok next L) {hd fr cnt : Int} (he : (unlockT L hd fr cnt).2 = 0) : ∃ f0 f1 : Fil, f1.pd = f0.pd ∧ (∃ o ∈ f0.op, o.hd = hd) ∧ Upd L (unlockT L hd fr cnt).1 f0 f1 := by
  unfold unlockT at he ⊢
  split at he
  · rename_i hz
    rw [if_pos hz]
    obtain ⟨i, k, e, hi, hk, hh⟩ := found h hz
    rw [e] at he ⊢
    dsimp only at he ⊢
    split at he
    · rename_i ha
      rw [if_pos ha]
      split at he
      · rename_i hb
        rw [if_pos hb]
        refine ⟨_, _, ?_, ⟨_, mem_nth hk, hh⟩, updLk h hi hk (others (nth (nth L i).op k).lk (ixB ((nth (nth L i).op k).lk.map (eqK fr cnt))))⟩
        rfl
      · exact absurd he (by simp)
    · rename_i ha; exact absurd he ha
  · rename_i hz; exact absurd he hz
theorem may_mem {next : Int} {L : List Fil} (h : Ok next L) {hd : Int} {q : Lock} {n : Nat} {kp : Bool → Bool → Bool} (he : mayT L hd q n kp = 0) : ∃ f0 : Fil, (∃ o ∈ f0.op, o.hd = hd) ∧ Upd L L f0 f0 := by
  unfold mayT at he
  split at he
  · rename_i hz
    obtain ⟨i, k, e, hi, hk, hh⟩ := found h hz
    refine ⟨nth L i, ⟨_, mem_nth hk, hh⟩, mem_nth hi, rfl, fun q hq => ⟨q, hq, rfl, rfl⟩, fun q hq => ⟨q, hq, rfl, rfl⟩, fun g => ⟨fun hg => ?_, ?_⟩⟩
    · by_cases e : ky g = ky (nth L i)
      · exact .inl (ky_eqm h hg (mem_nth hi) e)
      · exact .inr ⟨hg, e⟩
    · rintro (rfl | h9)
      · exact mem_nth hi
      · exact h9.1
  · rename_i hz; exact absurd he hz
theorem close_mem {next : Int} {L : List Fil} (h : Ok next L) {hd : Int} (he : (closeT L hd).2.2 = 0) : ∃ f0 ∈ L, ∃ o ∈ f0.op, o.hd = hd ∧
    ((∃ f1 : Fil, ky f1 = ky f0 ∧ f1.pd = (f0.pd || o.dl) ∧ (∀ q, q ∈ f1.op ↔ q ∈ f0.op ∧ q.hd ≠ hd) ∧ (∃ q, q ∈ f1.op) ∧ (closeT L hd).2.1 = false ∧ ∀ g, g ∈ (closeT L hd).1 ↔ g = f1 ∨ (g ∈ L ∧ ky g ≠ ky f0)) ∨
     ((∀ q ∈ f0.op, q.hd = hd) ∧ (closeT L hd).2.1 = (f0.pd || o.dl) ∧ ∀ g, g ∈ (closeT L hd).1 ↔ (g ∈ L ∧ ky g ≠ ky f0))) := by
  unfold closeT at he ⊢
  split at he
  · rename_i hz
    rw [if_pos hz]
    obtain ⟨i, k, e, hi, hk, hh⟩ := found h hz
    rw [e] at he ⊢
    dsimp only at he ⊢
    have ho : ∀ q, q ∈ others (nth L i).op k ↔ q ∈ (nth L i).op ∧ q.hd ≠ hd := by
      intro q
      rw [mem_others]
      constructor
      · rintro ⟨j, hj, hjk, rfl⟩
        exact ⟨mem_nth hj, fun hq => hjk (hd_in (nth_Ok h hi) hj hk (hq.trans hh.symm))⟩
      · rintro ⟨hq, hne⟩
        obtain ⟨j, hj, rfl⟩ := mem_nth_ex hq
        exact ⟨j, hj, fun e => hne (by rw [e]; exact hh), rfl⟩
    refine ⟨nth L i, mem_nth hi, _, mem_nth hk, hh, ?_⟩
    by_cases hn : 0 < (closF (nth L i) k).op.length
    · rw [if_pos hn]
      exact .inl ⟨closF (nth L i) k, rfl, rfl, ho, ⟨_, mem_nth hn⟩, rfl, fun g => mem_set_ky h hi g⟩
    · rw [if_neg hn]
      refine .inr ⟨fun q hq => ?_, rfl, fun g => mem_others_ky h hi g⟩
      rcases Classical.em (q.hd = hd) with h9 | h9
      · exact h9
      · have h8 := (ho q).2 ⟨hq, h9⟩
        have h7 : (others (nth L i).op k).length = 0 := by
          have : (closF (nth L i) k).op = others (nth L i).op k := rfl
          rw [this] at hn; omega
        rw [List.length_eq_zero_iff] at h7
        rw [h7] at h8
        cases h8
  · rename_i hz; exact absurd he hz
/-- Where a handle stands in the count. -/
theorem DI.at {next : Int} {L : List Fil} {D : DS} (h : Ok next L) (d : DI next L D) {f : Fil} {o : Opn} (hf : f ∈ L) (ho : o ∈ f.op) : ∃ n, n < D.of.length ∧ o.hd = (n : Int) + 1 ∧ nth D.gn n = false ∧ ky f = nth D.fl (nth D.of n) ∧ o.dl = nth D.on n ∧ nth D.ow (nth D.of n) = f.pd := by
  have h1 := (h.fl f hf).hd o ho
  have h2 := d.nx
  have e : o.hd = (((o.hd - 1).toNat : Nat) : Int) + 1 := by omega
  have hn : (o.hd - 1).toNat < D.of.length := by omega
  have hg := d.b f hf o ho _ hn e
  obtain ⟨f', hf', o', ho', e1, e2, e3⟩ := d.a _ hn hg
  obtain ⟨rfl, rfl⟩ := hd_eqm h hf' hf ho' ho (e1.trans e.symm)
  obtain ⟨j, hj, e4, e5⟩ := d.c f' hf'
  have := d.nd _ _ hj (d.lt _ hn) (e4.trans e3)
  subst this
  exact ⟨_, hn, e, hg, e3, e2, e5⟩
theorem DI.upd {next : Int} {L L' : List Fil} {D : DS} {f0 f1 : Fil} {n : Nat} (h : Ok next L) (d : DI next L D) (u : Upd L L' f0 f1) (hn : n < D.of.length) (hk : ky f0 = nth D.fl (nth D.of n)) : DI next L' { D with ow := D.ow.set (nth D.of n) f1.pd } := by
  obtain ⟨u0, u1, u2, u3, u4⟩ := u
  have hj := d.lt n hn
  refine ⟨d.nx, d.l1, d.l2, by simp [d.l3], d.lt, fun k hk1 hk2 => ?_, fun f hf o ho k hk1 hk2 => ?_, fun f hf => ?_, fun j hj2 ht => ?_, d.nd⟩
  · obtain ⟨f, hf, o, ho, e1, e2, e3⟩ := d.a k hk1 hk2
    by_cases e : ky f = ky f0
    · obtain rfl := ky_eqm h hf u0 e
      obtain ⟨q, hq, q1, q2⟩ := u3 o ho
      exact ⟨f1, (u4 f1).2 (.inl rfl), q, hq, q1.trans e1, q2.trans e2, u1.trans e3⟩
    · exact ⟨f, (u4 f).2 (.inr ⟨hf, e⟩), o, ho, e1, e2, e3⟩
  · rcases (u4 f).1 hf with rfl | ⟨h9, _⟩
    · obtain ⟨p, hp, p1, p2⟩ := u2 o ho
      exact d.b f0 u0 p hp k hk1 (p1.trans hk2)
    · exact d.b f h9 o ho k hk1 hk2
  · rcases (u4 f).1 hf with rfl | ⟨h9, h8⟩
    · exact ⟨nth D.of n, hj, by rw [u1, hk], nth_set1 (by rw [d.l3]; exact hj)⟩
    · obtain ⟨j, hj2, e1, e2⟩ := d.c f h9
      refine ⟨j, hj2, e1, ?_⟩
      show nth (D.ow.set (nth D.of n) f1.pd) j = f.pd
      rw [nth_set2 (fun e => h8 (by rw [← e1, ← e, hk])), e2]
  · by_cases e : nth D.of n = j
    · subst e
      exact ⟨f1, (u4 f1).2 (.inl rfl), u1.trans hk⟩
    · change nth (D.ow.set (nth D.of n) f1.pd) j = true at ht
      rw [nth_set2 e] at ht
      obtain ⟨f, hf, e1⟩ := d.e j hj2 ht
      exact ⟨f, (u4 f).2 (.inr ⟨hf, fun e2 => e (d.nd _ _ hj hj2 (by rw [← hk, ← e2, e1]))⟩), e1⟩
theorem set_same {α : Type} [Inhabited α] {l : List α} {i : Nat} {x : α} (h : i < l.length) (e : nth l i = x) : l.set i x = l := by
  subst e
  apply List.ext_getElem?
  intro j
  by_cases e : i = j
  · subst e; rw [List.getElem?_set_self h, nth_get h]
  · rw [List.getElem?_set_ne e]
/-- Acts that leave who is open and what is marked. -/
theorem DI.same {next : Int} {L L' : List Fil} {D : DS} {f0 f1 : Fil} {hd : Int} (h : Ok next L) (d : DI next L D) (hp : f1.pd = f0.pd) (hx : ∃ o ∈ f0.op, o.hd = hd) (u : Upd L L' f0 f1) : (∃ n, n < D.of.length ∧ hd = (n : Int) + 1 ∧ nth D.gn n = false) ∧ DI next L' D := by
  obtain ⟨o, ho, rfl⟩ := hx
  obtain ⟨n, hn, e1, e2, e3, e4, e5⟩ := d.at h u.1 ho
  have h9 := d.upd h u hn e3
  rw [set_same (by rw [d.l3]; exact d.lt n hn) (by rw [e5, hp])] at h9
  exact ⟨⟨n, hn, e1, e2⟩, h9⟩
theorem DI.mark {next : Int} {L : List Fil} {D : DS} {hd : Int} {fl : Bool} (h : Ok next L) (d : DI next L D) (he : (markT L hd fl).2 = 0) : ∃ n, n < D.of.length ∧ hd = (n : Int) + 1 ∧ nth D.gn n = false ∧ DI next (markT L hd fl).1 { D with ow := D.ow.set (nth D.of n) fl } := by
  obtain ⟨f0, f1, hp, ⟨o, ho, rfl⟩, u⟩ := mark_mem h he
  obtain ⟨n, hn, e1, e2, e3, e4, e5⟩ := d.at h u.1 ho
  have h9 := d.upd h u hn e3
  rw [hp] at h9
  exact ⟨n, hn, e1, e2, h9⟩
theorem DI.ext {next : Int} {L : List Fil} {D : DS} {key : Int × Int} (d : DI next L D) (hk : ∀ k, k < D.fl.length → nth D.fl k ≠ key) : DI next L { D with fl := D.fl ++ [key], ow := D.ow ++ [false] } := by
  refine ⟨d.nx, d.l1, d.l2, by simp [d.l3], fun n hn => ?_, fun n hn hg => ?_, d.b, fun f hf => ?_, fun j hj ht => ?_, fun i j hi hj e => ?_⟩
  · have := d.lt n hn; simp; omega
  · obtain ⟨f, hf, o, ho, e1, e2, e3⟩ := d.a n hn hg
    exact ⟨f, hf, o, ho, e1, e2, by show _ = nth (D.fl ++ [key]) _; rw [nth_app1 (d.lt n hn)]; exact e3⟩
  · obtain ⟨j, hj, e1, e2⟩ := d.c f hf
    exact ⟨j, by simp; omega, by show nth (D.fl ++ [key]) _ = _; rw [nth_app1 hj]; exact e1, by show nth (D.ow ++ [false]) _ = _; rw [nth_app1 (by rw [d.l3]; exact hj)]; exact e2⟩
  · change nth (D.ow ++ [false]) j = true at ht
    simp only [List.length_append, List.length_singleton] at hj
    rcases Nat.lt_or_ge j D.fl.length with h1 | h1
    · rw [nth_app1 (by rw [d.l3]; exact h1)] at ht
      obtain ⟨f, hf, e⟩ := d.e j h1 ht
      exact ⟨f, hf, by show _ = nth (D.fl ++ [key]) _; rw [nth_app1 h1]; exact e⟩
    · rw [nth_app2 (by rw [d.l3]; omega)] at ht
      cases ht
  · change nth (D.fl ++ [key]) i = nth (D.fl ++ [key]) j at e
    simp only [List.length_append, List.length_singleton] at hi hj
    rcases Nat.lt_or_ge i D.fl.length with h1 | h1
    · rcases Nat.lt_or_ge j D.fl.length with h2 | h2
      · rw [nth_app1 h1, nth_app1 h2] at e
        exact d.nd i j h1 h2 e
      · rw [nth_app1 h1, nth_app2 (by omega)] at e
        exact absurd e (hk i h1)
    · rcases Nat.lt_or_ge j D.fl.length with h2 | h2
      · rw [nth_app1 h2, nth_app2 (by omega)] at e
        exact absurd e.symm (hk j h2)
      · omega
theorem DI.open {next : Int} {L : List Fil} {D : DS} {rc sq : Int} {x : Opn} {j : Nat} (h : Ok next L) (d : DI next L D) (he : (openT next L rc sq x).2.2.2 = 0) (hj : j < D.fl.length) (hk : nth D.fl j = (rc, sq)) :
    (openT next L rc sq x).2.2.1 = (D.of.length : Int) + 1 ∧ nth D.ow j = false ∧ DI (openT next L rc sq x).2.1 (openT next L rc sq x).1 { D with of := D.of ++ [j], on := D.on ++ [x.dl], gn := D.gn ++ [false] } := by
  obtain ⟨o1, o2, f0, p0, k0, hin, hm⟩ := open_mem h he
  have hnx := d.nx
  rw [o1, o2]
  have hw : nth D.ow j = false := by
    cases hb : nth D.ow j with
    | false => rfl
    | true =>
      obtain ⟨f, hf, e⟩ := d.e j hj hb
      rcases hin with h1 | ⟨_, h1⟩
      · obtain ⟨j', hj', e1, e2⟩ := d.c f0 h1
        have := d.nd _ _ hj' hj (by rw [e1, k0, hk])
        subst this
        rw [hb, p0] at e2
        cases e2
      · exact absurd (e.trans hk) (h1 f hf)
  refine ⟨hnx, hw, ?_, by simp [d.l1], by simp [d.l2], d.l3, fun n hn => ?_, fun n hn hg => ?_, fun f hf o ho n hn e => ?_, fun f hf => ?_, fun i hi ht => ?_, d.nd⟩
  · show _ = ((D.of ++ [j]).length : Int) + 1
    rw [List.length_append, List.length_singleton]; omega
  · show nth (D.of ++ [j]) n < _
    simp only [List.length_append, List.length_singleton] at hn
    rcases Nat.lt_or_ge n D.of.length with h1 | h1
    · rw [nth_app1 h1]; exact d.lt n h1
    · rw [nth_app2 (by omega)]; exact hj
  · simp only [List.length_append, List.length_singleton] at hn
    change nth (D.gn ++ [false]) n = false at hg
    rcases Nat.lt_or_ge n D.of.length with h1 | h1
    · rw [nth_app1 (by rw [d.l2]; exact h1)] at hg
      obtain ⟨f, hf, o, ho, e1, e2, e3⟩ := d.a n h1 hg
      by_cases e : ky f = (rc, sq)
      · have : f = f0 := by
          rcases hin with h2 | ⟨_, h2⟩
          · exact ky_eqm h hf h2 (e.trans k0.symm)
          · exact absurd e (h2 f hf)
        subst this
        refine ⟨putO f x next, (hm _).2 (.inl rfl), o, List.mem_append_left _ ho, e1, ?_, ?_⟩
        · show _ = nth (D.on ++ [x.dl]) n
          rw [nth_app1 (by rw [d.l1]; exact h1)]; exact e2
        · show ky f = nth D.fl (nth (D.of ++ [j]) n)
          rw [nth_app1 h1]; exact e3
      · refine ⟨f, (hm _).2 (.inr ⟨hf, e⟩), o, ho, e1, ?_, ?_⟩
        · show _ = nth (D.on ++ [x.dl]) n
          rw [nth_app1 (by rw [d.l1]; exact h1)]; exact e2
        · show ky f = nth D.fl (nth (D.of ++ [j]) n)
          rw [nth_app1 h1]; exact e3
    · refine ⟨putO f0 x next, (hm _).2 (.inl rfl), { x with hd := next, lk := [] }, List.mem_append_right _ (List.mem_singleton.2 rfl), ?_, ?_, ?_⟩
      · show next = _; omega
      · show x.dl = nth (D.on ++ [x.dl]) n
        rw [nth_app2 (by rw [d.l1]; omega)]
      · show ky f0 = nth D.fl (nth (D.of ++ [j]) n)
        rw [nth_app2 (by omega), k0, hk]
  · show nth (D.gn ++ [false]) n = false
    simp only [List.length_append, List.length_singleton] at hn
    rcases Nat.lt_or_ge n D.of.length with h1 | h1
    · rw [nth_app1 (by rw [d.l2]; exact h1)]
      rcases (hm f).1 hf with rfl | ⟨h9, _⟩
      · rcases List.mem_append.1 ho with h8 | h8
        · rcases hin with h2 | ⟨h2, _⟩
          · exact d.b f0 h2 o h8 n h1 e
          · rw [h2] at h8; cases h8
        · rw [List.mem_singleton.1 h8] at e
          change next = _ at e
          omega
      · exact d.b f h9 o ho n h1 e
    · rw [nth_app2 (by rw [d.l2]; omega)]
  · rcases (hm f).1 hf with rfl | ⟨h9, _⟩
    · exact ⟨j, hj, by rw [hk, ← k0]; rfl, by rw [hw]; exact p0.symm⟩
    · exact d.c f h9
  · obtain ⟨f, hf, e⟩ := d.e i hi ht
    by_cases e2 : ky f = (rc, sq)
    · exact ⟨putO f0 x next, (hm _).2 (.inl rfl), by show ky f0 = _; rw [k0, ← e2]; exact e⟩
    · exact ⟨f, (hm f).2 (.inr ⟨hf, e2⟩), e⟩
/-- Whether another handle of the file is open. -/
def lft (of : List Nat) (gn : List Bool) (j k : Nat) : Nat := (List.range k).countP fun n => decide (nth of n = j) && !nth gn n
theorem lft_succ {of : List Nat} {gn : List Bool} {j k : Nat} : lft of gn j (k + 1) = lft of gn j k + if nth of k = j ∧ nth gn k = false then 1 else 0 := by
  unfold lft
  rw [List.range_succ, List.countP_append, List.countP_singleton]
  cases nth gn k <;> simp
theorem lft_pos {of : List Nat} {gn : List Bool} {j k n : Nat} (h : n < k) (h1 : nth of n = j) (h2 : nth gn n = false) : ¬ lft of gn j k = 0 := by
  unfold lft
  rw [List.countP_eq_zero]
  intro hh
  exact absurd (hh n (List.mem_range.2 h)) (by simp [h1, h2])
theorem lft_zero {of : List Nat} {gn : List Bool} {j k : Nat} (h : ∀ n, n < k → nth of n = j → nth gn n = true) : lft of gn j k = 0 := by
  unfold lft
  rw [List.countP_eq_zero]
  intro n hn
  have := h n (List.mem_range.1 hn)
  by_cases e : nth of n = j
  · simp [this e]
  · simp [e]
theorem DI.close {next : Int} {L : List Fil} {D : DS} {hd : Int} (h : Ok next L) (d : DI next L D) (he : (closeT L hd).2.2 = 0) : ∃ n, n < D.of.length ∧ hd = (n : Int) + 1 ∧ nth D.gn n = false ∧
    (closeT L hd).2.1 = (decide (lft D.of (D.gn.set n true) (nth D.of n) D.of.length = 0) && (nth D.ow (nth D.of n) || nth D.on n)) ∧
    DI next (closeT L hd).1 { D with gn := D.gn.set n true, ow := D.ow.set (nth D.of n) (if lft D.of (D.gn.set n true) (nth D.of n) D.of.length = 0 then false else nth D.ow (nth D.of n) || nth D.on n) } := by
  obtain ⟨f0, hf0, o, ho, rfl, hc⟩ := close_mem h he
  obtain ⟨n, hn, e1, e2, e3, e4, e5⟩ := d.at h hf0 ho
  have hj := d.lt n hn
  have hjw : nth D.of n < D.ow.length := by rw [d.l3]; exact hj
  have hgl : n < D.gn.length := by rw [d.l2]; exact hn
  refine ⟨n, hn, e1, e2, ?_⟩
  rcases hc with ⟨f1, c1, c2, c3, ⟨q, hq⟩, c4, c5⟩ | ⟨c1, c2, c3⟩
  · have hq2 := (c3 q).1 hq
    obtain ⟨m, hm, q1, q2, q3, q4, q5⟩ := d.at h hf0 hq2.1
    have hmn : n ≠ m := fun e => hq2.2 (by rw [q1, e1, e])
    have hof : nth D.of m = nth D.of n := d.nd _ _ (d.lt m hm) hj (by rw [← q3, e3])
    have hl := lft_pos (gn := D.gn.set n true) hm hof (by rw [nth_set2 hmn]; exact q2)
    rw [if_neg hl, c4]
    refine ⟨by simp [hl], d.nx, d.l1, by simp [d.l2], by simp [d.l3], d.lt, fun k hk hg => ?_, fun f hf p hp k hk e => ?_, fun f hf => ?_, fun i hi ht => ?_, d.nd⟩
    · change nth (D.gn.set n true) k = false at hg
      have hnk : n ≠ k := fun e => by subst e; rw [nth_set1 hgl] at hg; cases hg
      rw [nth_set2 hnk] at hg
      obtain ⟨f, hf, p, hp, p1, p2, p3⟩ := d.a k hk hg
      by_cases e : ky f = ky f0
      · obtain rfl := ky_eqm h hf hf0 e
        exact ⟨f1, (c5 f1).2 (.inl rfl), p, (c3 p).2 ⟨hp, by rw [p1, e1]; omega⟩, p1, p2, c1.trans p3⟩
      · exact ⟨f, (c5 f).2 (.inr ⟨hf, e⟩), p, hp, p1, p2, p3⟩
    · show nth (D.gn.set n true) k = false
      rcases (c5 f).1 hf with rfl | ⟨h9, h8⟩
      · have h7 := (c3 p).1 hp
        rw [nth_set2 (fun e' => h7.2 (by rw [e, e1, e']))]
        exact d.b f0 hf0 p h7.1 k hk e
      · rw [nth_set2 (fun e' => h8 (by rw [(hd_eqm h h9 hf0 hp ho (by rw [e, e1, e'])).1]))]
        exact d.b f h9 p hp k hk e
    · rcases (c5 f).1 hf with rfl | ⟨h9, h8⟩
      · exact ⟨nth D.of n, hj, by rw [c1, e3], by show nth (D.ow.set _ _) _ = _; rw [nth_set1 hjw, c2, e5, e4]⟩
      · obtain ⟨i, hi, i1, i2⟩ := d.c f h9
        exact ⟨i, hi, i1, by show nth (D.ow.set _ _) _ = _; rw [nth_set2 (fun e => h8 (by rw [← i1, ← e, e3]))]; exact i2⟩
    · change nth (D.ow.set _ _) i = true at ht
      by_cases e : nth D.of n = i
      · exact ⟨f1, (c5 f1).2 (.inl rfl), by rw [c1, e3, e]⟩
      · rw [nth_set2 e] at ht
        obtain ⟨f, hf, f1e⟩ := d.e i hi ht
        exact ⟨f, (c5 f).2 (.inr ⟨hf, fun e' => e (d.nd _ _ hj hi (by rw [← e3, ← e', f1e]))⟩), f1e⟩
  · have hl : lft D.of (D.gn.set n true) (nth D.of n) D.of.length = 0 := by
      refine lft_zero fun k hk hof => ?_
      by_cases e : n = k
      · subst e; exact nth_set1 hgl
      · rw [nth_set2 e]
        cases hg : nth D.gn k with
        | true => rfl
        | false =>
          obtain ⟨f, hf, p, hp, p1, p2, p3⟩ := d.a k hk hg
          obtain rfl := ky_eqm h hf hf0 (by rw [p3, hof, e3])
          have := c1 p hp
          rw [p1, e1] at this
          omega
    rw [if_pos hl, c2]
    refine ⟨by simp [hl, e4, e5], d.nx, d.l1, by simp [d.l2], by simp [d.l3], d.lt, fun k hk hg => ?_, fun f hf p hp k hk e => ?_, fun f hf => ?_, fun i hi ht => ?_, d.nd⟩
    · change nth (D.gn.set n true) k = false at hg
      have hnk : n ≠ k := fun e => by subst e; rw [nth_set1 hgl] at hg; cases hg
      rw [nth_set2 hnk] at hg
      obtain ⟨f, hf, p, hp, p1, p2, p3⟩ := d.a k hk hg
      refine ⟨f, (c3 f).2 ⟨hf, fun e => ?_⟩, p, hp, p1, p2, p3⟩
      obtain rfl := ky_eqm h hf hf0 e
      have := c1 p hp
      rw [p1, e1] at this
      omega
    · show nth (D.gn.set n true) k = false
      obtain ⟨h9, h8⟩ := (c3 f).1 hf
      rw [nth_set2 (fun e' => h8 (by rw [(hd_eqm h h9 hf0 hp ho (by rw [e, e1, e'])).1]))]
      exact d.b f h9 p hp k hk e
    · obtain ⟨h9, h8⟩ := (c3 f).1 hf
      obtain ⟨i, hi, i1, i2⟩ := d.c f h9
      exact ⟨i, hi, i1, by show nth (D.ow.set _ _) _ = _; rw [nth_set2 (fun e => h8 (by rw [← i1, ← e, e3]))]; exact i2⟩
    · change nth (D.ow.set _ _) i = true at ht
      by_cases e : nth D.of n = i
      · subst e
        rw [nth_set1 hjw] at ht
        cases ht
      · rw [nth_set2 e] at ht
        obtain ⟨f, hf, f1e⟩ := d.e i hi ht
        exact ⟨f, (c3 f).2 ⟨hf, fun e' => e (d.nd _ _ hj hi (by rw [← e3, ← e', f1e]))⟩, f1e⟩
theorem runS_pre (l : List HAct) (s : (List Fil × Int) × List (Int × Int)) : ∃ t, (l.foldl stepT s).2 = s.2 ++ t := by
  induction l generalizing s with
  | nil => exact ⟨[], by simp⟩
  | cons a l ih =>
    obtain ⟨t, e⟩ := ih (stepT s a)
    rw [List.foldl_cons, e]
    exact ⟨_, by show (s.2 ++ _) ++ t = _; rw [List.append_assoc]⟩
theorem nth_run {l : List HAct} {i : Nat} (h : i < l.length) : nth (runS l).2 i = ((doT (runS (l.take i)).1.2 (runS (l.take i)).1.1 (nth l i)).2.2.2, (doT (runS (l.take i)).1.2 (runS (l.take i)).1.1 (nth l i)).2.2.1) := by
  have e : runS l = (l.drop (i + 1)).foldl stepT (runS (l.take (i + 1))) := by
    unfold runS
    rw [← List.foldl_append, List.take_append_drop]
  obtain ⟨t, et⟩ := runS_pre (l.drop (i + 1)) (runS (l.take (i + 1)))
  rw [e]
  unfold nth
  rw [et, runS_succ h]
  have hl := runS_len (l.take i)
  rw [List.length_take, Nat.min_eq_left (by omega)] at hl
  rw [List.getD_eq_getElem?_getD]
  simp only [stepT]
  rw [List.append_assoc, List.getElem?_append_right (by omega), hl, Nat.sub_self]
  rfl
theorem kind_of {l : List HAct} (hl : l.length ≤ 60) (h : runE l = 0) {i : Nat} (hi : i < l.length) : 0 ≤ (nth l i).kd ∧ (nth l i).kd ≤ 6 := by
  rw [runE_sm (by omega)] at h
  have h2 := eachF_0.1 h _ (List.mem_map.2 ⟨nth l i, mem_nth hi, rfl⟩)
  unfold kindE at h2
  split at h2
  · assumption
  · exact absurd h2 (by decide)
theorem may_same {next : Int} {L : List Fil} {D : DS} {hd : Int} {q : Lock} {n : Nat} {kp : Bool → Bool → Bool} (h : Ok next L) (d : DI next L D) (he : mayT L hd q n kp = 0) : (∃ n, n < D.of.length ∧ hd = (n : Int) + 1 ∧ nth D.gn n = false) ∧ DI next L D := by
  obtain ⟨f0, hx, u⟩ := may_mem h he
  exact d.same h rfl hx u
theorem DI.act {next : Int} {L : List Fil} {D : DS} {a : HAct} (h : Ok next L) (d : DI next L D) (hk : ¬ a.kd = 0) (hk6 : 0 ≤ a.kd ∧ a.kd ≤ 6) (he : (doT next L a).2.2.2 = 0) : ∃ n, n < D.of.length ∧ a.hd = (n : Int) + 1 ∧ nth D.gn n = false ∧
    (¬ a.kd = 1 → ¬ a.kd = 2 → DI (doT next L a).2.1 (doT next L a).1 D) ∧
    (a.kd = 2 → DI (doT next L a).2.1 (doT next L a).1 { D with ow := D.ow.set (nth D.of n) a.fl }) ∧
    (a.kd = 1 → (doT next L a).2.2.1 = (if (decide (lft D.of (D.gn.set n true) (nth D.of n) D.of.length = 0) && (nth D.ow (nth D.of n) || nth D.on n)) = true then 1 else 0) ∧
      DI (doT next L a).2.1 (doT next L a).1 { D with gn := D.gn.set n true, ow := D.ow.set (nth D.of n) (if lft D.of (D.gn.set n true) (nth D.of n) D.of.length = 0 then false else nth D.ow (nth D.of n) || nth D.on n) }) := by
  unfold doT at he ⊢
  rw [if_neg hk] at he ⊢
  by_cases h1 : a.kd = 1
  · rw [if_pos h1] at he ⊢
    obtain ⟨n, n1, n2, n3, n4, n5⟩ := d.close h he
    exact ⟨n, n1, n2, n3, fun e => absurd h1 e, fun e => by omega, fun _ => ⟨by rw [← n4], n5⟩⟩
  rw [if_neg h1] at he ⊢
  by_cases h2 : a.kd = 2
  · rw [if_pos h2] at he ⊢
    obtain ⟨n, n1, n2, n3, n4⟩ := d.mark h he
    exact ⟨n, n1, n2, n3, fun _ e => absurd h2 e, fun _ => n4, fun e => absurd e h1⟩
  rw [if_neg h2] at he ⊢
  by_cases h3 : a.kd = 3
  · rw [if_pos h3] at he ⊢
    obtain ⟨f0, f1, hp, hx, u⟩ := lock_mem h he
    obtain ⟨⟨n, n1, n2, n3⟩, n4⟩ := d.same h hp hx u
    exact ⟨n, n1, n2, n3, fun _ _ => n4, fun e => absurd e h2, fun e => absurd e h1⟩
  rw [if_neg h3] at he ⊢
  by_cases h4 : a.kd = 4
  · rw [if_pos h4] at he ⊢
    obtain ⟨f0, f1, hp, hx, u⟩ := unlock_mem h he
    obtain ⟨⟨n, n1, n2, n3⟩, n4⟩ := d.same h hp hx u
    exact ⟨n, n1, n2, n3, fun _ _ => n4, fun e => absurd e h2, fun e => absurd e h1⟩
  rw [if_neg h4] at he ⊢
  by_cases h5 : a.kd = 5
  · rw [if_pos h5] at he ⊢
    obtain ⟨⟨n, n1, n2, n3⟩, n4⟩ := may_same h d he
    exact ⟨n, n1, n2, n3, fun _ _ => n4, fun e => absurd e h2, fun e => absurd e h1⟩
  rw [if_neg h5] at he ⊢
  have h6 : a.kd = 6 := by omega
  rw [if_pos h6] at he ⊢
  obtain ⟨⟨n, n1, n2, n3⟩, n4⟩ := may_same h d he
  exact ⟨n, n1, n2, n3, fun _ _ => n4, fun e => absurd e h2, fun e => absurd e h1⟩
/-- An act that failed changes nothing. -/
theorem do_bad {next : Int} {L : List Fil} {a : HAct} (he : ¬ (doT next L a).2.2.2 = 0) : (doT next L a).1 = L ∧ (doT next L a).2.1 = next := by
  unfold doT at he ⊢
  unfold openT closeT markT lockT unlockT at *
  grind
theorem DI.do_open {next : Int} {L : List Fil} {D : DS} {a : HAct} {j : Nat} (h : Ok next L) (d : DI next L D) (hk : a.kd = 0) (he : (doT next L a).2.2.2 = 0) (hj : j < D.fl.length) (hkj : nth D.fl j = (a.rc, a.sq)) :
    nth D.ow j = false ∧ DI (doT next L a).2.1 (doT next L a).1 { D with of := D.of ++ [j], on := D.on ++ [a.fl], gn := D.gn ++ [false] } := by
  unfold doT at he ⊢
  rw [if_pos hk] at he ⊢
  exact (d.open h he hj hkj).2
theorem do_open_val {next : Int} {L : List Fil} {D : DS} {a : HAct} (h : Ok next L) (d : DI next L D) (hk : a.kd = 0) (he : (doT next L a).2.2.2 = 0) : (doT next L a).2.2.1 = (D.of.length : Int) + 1 := by
  unfold doT at he ⊢
  rw [if_pos hk] at he ⊢
  rw [(open_mem h he).2.1]
  exact d.nx
end Go.Proofs

