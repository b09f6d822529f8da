/- Contracts of the program's functions, proved by walking them with the rules of the Gx texts; without conditions beyond those that each contract names. -/
import Derived.Test.YtgdigngojonbhaaC25S
import Derived.Test.YtgdigngojonbhaaP25B
namespace Go.Proofs
open Go Go.RowKit Gx
set_option linter.unusedVariables false
set_option linter.unusedSimpArgs false
attribute [local irreducible] Go.Calls Gx.S Gx.O Gx.D Gx.OpP Gx.OpQ Gx.OpH

theorem fn_68 : isFn Try.prog 68 = true := by kernel_rfl
theorem fn_19 : isFn Try.prog 19 = true := by kernel_rfl


/-- A table after something was done to it, or the error of the table, or of what was done. -/
def afT (next : Int) (L : List Fil) (r : List Fil × Int) : (List Fil × Int) × Int := if (chkT next L).2 = 0 then if r.2 = 0 then ((r.1, next), 0) else (([], 0), r.2) else (([], 0), (chkT next L).2)
theorem hErr_0 {next : Int} {L : List Fil} {h : Int} (hz : hErr next L h = 0) : (chkT next L).2 = 0 ∧ (findF L h 0).2.2 = 0 := by
  unfold hErr at hz
  split at hz
  · exact ⟨by assumption, hz⟩
  · contradiction
theorem afT_h {next : Int} {L : List Fil} {h : Int} {r : List Fil × Int} (hz : ¬ hErr next L h = 0) (hr : ¬ (findF L h 0).2.2 = 0 → r.2 = (findF L h 0).2.2) : afT next L r = (([], 0), hErr next L h) := by
  unfold hErr at hz ⊢
  unfold afT
  split at hz
  · rename_i h1
    rw [if_pos h1, if_pos h1, hr hz, if_neg hz]
  · rename_i h1
    rw [if_neg h1, if_neg h1]
theorem afT_e {next : Int} {L : List Fil} {r : List Fil × Int} (h1 : (chkT next L).2 = 0) (h2 : ¬ r.2 = 0) : afT next L r = (([], 0), r.2) := by rw [afT, if_pos h1, if_neg h2]
theorem afT_0 {next : Int} {L : List Fil} {r : List Fil × Int} (h1 : (chkT next L).2 = 0) (h2 : r.2 = 0) : afT next L r = ((r.1, next), 0) := by rw [afT, if_pos h1, if_pos h2]
theorem markT_f {L : List Fil} {h : Int} {d : Bool} (hn : ¬ (findF L h 0).2.2 = 0) : (markT L h d).2 = (findF L h 0).2.2 := by rw [markT, if_neg hn]
theorem same_nth {N L : List LFil} {i : Nat} (h : pls N = pls L) (hi : i < L.length) : i < N.length ∧ (nth N i).pl = (nth L i).pl := by
  have hl : N.length = L.length := by
    have h9 := congrArg List.length h
    simpa using h9
  refine ⟨by omega, ?_⟩
  rw [← nth_pls (show i < N.length by omega), h, nth_pls hi]
theorem markT_1 {L : List LFil} {h : Int} {d : Bool} {i k : Nat} (hfe : findF (pls L) h 0 = (i, k, 0)) (hi : i < L.length) (hk : k < (nth L i).op.length) (ha : ¬ hasB (nth (nth L i).op k).ac 4 = true) : markT (pls L) h d = (pls L, 27) := by
  rw [markT, hfe]
  simp only [if_true]
  rw [nth_pls hi, LFil.pl, nth_plo hk, if_neg (by simp only [LOpn.pl]; exact ha)]
theorem markT_2 {L : List LFil} {h : Int} {d : Bool} {i k : Nat} (hfe : findF (pls L) h 0 = (i, k, 0)) (hi : i < L.length) (hk : k < (nth L i).op.length) (ha : hasB (nth (nth L i).op k).ac 4 = true) : markT (pls L) h d = ((pls L).set i { (nth L i).pl with pd := d }, 0) := by
  rw [markT, hfe]
  simp only [if_true]
  rw [nth_pls hi, LFil.pl, nth_plo hk, if_pos (by simp only [LOpn.pl]; exact ha), updF, nth_pls hi]
  rfl

set_option maxRecDepth 20000 in
set_option maxHeartbeats 1000000 in
theorem c40 (w : World) (next : Int) (a : Option Addr) (cap : Nat) (L : List LFil) (h : Int) (d : Bool) (hs : Ft w [] a L) (hm : L.length ≤ 1000) (hmo : ∀ f ∈ L, f.op.length ≤ 1000) (hml : ∀ f ∈ L, ∀ o ∈ f.op, o.lk.length ≤ 1000) : Calls Try.prog 40 #[.agg #[.int .i64 next, .slice a L.length cap], .int .i64 h, .bool d] w fun en w' => ∃ g : (Option Addr × Nat) × List LFil, en = .returned (.tuple #[.agg #[.int .i64 (afT next (pls L) (markT (pls L) h d)).1.2, .slice g.1.1 g.2.length g.1.2], .int .i64 (afT next (pls L) (markT (pls L) h d)).2]) ∧ pls g.2 = (afT next (pls L) (markT (pls L) h d)).1.1 ∧ HS w [] [.files g.1.1 g.1.2 g.2] w' := by
  refine enter (args := [_, _, _]) Try.func40 Try.ntmps40 rfl rfl (HS.refl w []) ?_
  refine s_seq ?_
  refine s_region ?_
  refine o_h (h_box rfl rfl) rfl (fun b1 _ => ?_)
  refine o_h (h_alloc rfl zr_26) rfl (fun b2 _ => ?_)
  refine o_p (p_pure rfl) rfl ?_
  refine o_nil ?_
  refine s_seq ?_
  refine s_seq ?_
  refine s_region ?_
  first | refine o_q (q_loadn rfl rfl sz_26 (by repeat (first | exact .here | apply Pick.there)) rfl) rfl ?_ | refine o_q (q_load_oldn _ rfl rfl sz_26 (hs.1.rdj 3 hi rfl)) rfl ?_ | refine o_q (q_load_oldn _ rfl rfl sz_26 ((hs.at hi).1.rdj 1 hk rfl)) rfl ?_
  refine o_p (p_pure rfl) rfl ?_
  refine o_q (q_call rfl fn_68 rfl (fun w1 h1 => c68 w1 next a cap L h (hs.later h1) hm hmo)) rfl ?_
  refine o_p (p_pure rfl) rfl ?_
  refine o_nil ?_
  refine s_seq ?_
  refine s_region ?_
  refine o_p (p_pure rfl) rfl ?_
  refine o_p (p_pure rfl) rfl ?_
  refine o_nil ?_
  refine s_cond rfl (fun h3 => ?_) (fun h3 => ?_)
  · try simp only [decide_eq_true_eq, decide_eq_false_iff_not, Bool.not_eq_true', Bool.not_eq_false', Bool.and_eq_true, Bool.or_eq_true, Bool.and_eq_false_iff, Bool.or_eq_false_iff, Bool.not_true, Bool.not_false] at h3
    have hz : ¬ hErr next (pls L) h = 0 := h3
    refine s_seq ?_
    refine s_region ?_
    refine o_p (p_build (cs := [_, _]) rfl rfl pl_26 zr_26 rfl) rfl ?_
    refine o_p (p_pure rfl) rfl ?_
    refine o_h0 (h_store rfl rfl rfl sz_26 rfl (by repeat (first | exact .here | apply Put.there)) (by simp only [setMany_length, List.length_set, List.length_cons, List.length_nil, List.length_map]; omega) rfl) (fun _ _ => ?_)
    refine o_p (p_pure rfl) rfl ?_
    refine o_nil ?_
    exact s_retv (rs := [.cell 6 26, .tmp 7]) rfl (.cell rfl sz_26 (by repeat (first | exact .here | apply Pick.there)) rfl (.tmp rfl (.nil))) (fun w' h' => by have hR := afT_h (r := (markT (pls L) h d)) hz (fun h9 => markT_f h9); exact ⟨((none, 0), []), by rw [hR]; rfl, by rw [hR]; rfl, (HS.files_none h').ent (by repeat (first | exact .nil | refine .cons (by repeat (first | exact .here | apply Pick.there)) ?_))⟩)
  · try simp only [decide_eq_true_eq, decide_eq_false_iff_not, Bool.not_eq_true', Bool.not_eq_false', Bool.and_eq_true, Bool.or_eq_true, Bool.and_eq_false_iff, Bool.or_eq_false_iff, Bool.not_true, Bool.not_false] at h3
    have hz : hErr next (pls L) h = 0 := h3
    obtain ⟨hz1, hz2⟩ := hErr_0 hz
    have hok := chk_ok hz1
    have hV := hok.vw
    obtain ⟨i, k, hfe, hi, hk, hV3⟩ := findF_some hV hz2
    have hfd : fdI (pls L) h = ((i : Int), (k : Int)) := by rw [fdI, hfe]; rfl
    have hoi := hmo _ (mem_nth hi)
    refine s_skip ?_
    refine s_seq ?_
    refine s_region ?_
    first | refine o_q (q_loadn rfl rfl sz_26 (by repeat (first | exact .here | apply Pick.there)) rfl) rfl ?_ | refine o_q (q_load_oldn _ rfl rfl sz_26 (hs.1.rdj 3 hi rfl)) rfl ?_ | refine o_q (q_load_oldn _ rfl rfl sz_26 ((hs.at hi).1.rdj 1 hk rfl)) rfl ?_
    refine o_p (p_pure rfl) rfl ?_
    refine o_q (q_call rfl fn_70 rfl (fun w1 h1 => c70 w1 next a cap L h (hs.later h1) hm hmo)) rfl ?_
    rw [hfd]
    refine o_p (p_pure rfl) rfl ?_
    refine o_p (p_pure rfl) rfl ?_
    refine o_p (p_pure rfl) rfl ?_
    refine o_p (p_pure rfl) rfl ?_
    refine o_p (p_pure rfl) rfl ?_
    refine o_nil ?_
    refine s_seq ?_
    refine s_seq ?_
    refine s_region ?_
    refine o_p (p_fieldAddr rfl rfl fd_26_1 sz_24 rfl) rfl ?_
    first | refine o_q (q_load rfl rfl sz_24 (by repeat (first | exact .here | apply Pick.there)) rfl) rfl ?_ | refine o_q (q_load_old rfl rfl sz_24 ((hs.1.rdj 3 hi rfl))) rfl ?_ | refine o_q (q_load_old rfl rfl sz_24 (((hs.at hi).1.rdj 1 hk rfl))) rfl ?_
    refine o_p (p_pure rfl) rfl ?_
    first | refine o_p (p_indexAddr rfl rfl rfl sl_24 (i) (by omega) (by omega) rfl) rfl ?_ | refine o_p (p_indexAddr rfl rfl rfl sl_24 (i) (by omega) (by omega) (Rw.some hs.1 (by omega))) rfl ?_ | refine o_p (p_indexAddr rfl rfl rfl sl_24 (i) (by omega) (by omega) (Rw.some (hs.at hi).1 (by omega))) rfl ?_
    refine o_p (p_fieldAddr rfl rfl fd_77_2 sz_75 rfl) rfl ?_
    first | refine o_q (q_load rfl rfl sz_75 (by repeat (first | exact .here | apply Pick.there)) rfl) rfl ?_ | refine o_q (q_load_old rfl rfl sz_75 ((hs.1.rdj 3 hi rfl))) rfl ?_ | refine o_q (q_load_old rfl rfl sz_75 (((hs.at hi).1.rdj 1 hk rfl))) rfl ?_
    refine o_p (p_pure rfl) rfl ?_
    first | refine o_p (p_indexAddr rfl rfl rfl sl_75 (k) (by omega) (by omega) rfl) rfl ?_ | refine o_p (p_indexAddr rfl rfl rfl sl_75 (k) (by omega) (by omega) (Rw.some hs.1 (by omega))) rfl ?_ | refine o_p (p_indexAddr rfl rfl rfl sl_75 (k) (by omega) (by omega) (Rw.some (hs.at hi).1 (by omega))) rfl ?_
    refine o_p (p_fieldAddr rfl rfl fd_48_1 sz_3 rfl) rfl ?_
    first | refine o_q (q_load rfl rfl sz_3 (by repeat (first | exact .here | apply Pick.there)) rfl) rfl ?_ | refine o_q (q_load_old rfl rfl sz_3 ((hs.1.rdj 3 hi rfl))) rfl ?_ | refine o_q (q_load_old rfl rfl sz_3 (((hs.at hi).1.rdj 1 hk rfl))) rfl ?_
    refine o_q (q_call rfl fn_71 rfl (fun w1 h1 => c71 w1 _ 4 (by have := openE_r hV3.1; omega) (by omega))) rfl ?_
    refine o_p (p_pure rfl) rfl ?_
    refine o_nil ?_
    refine s_cond rfl (fun h4 => ?_) (fun h4 => ?_)
    · try simp only [decide_eq_true_eq, decide_eq_false_iff_not, Bool.not_eq_true', Bool.not_eq_false', Bool.and_eq_true, Bool.or_eq_true, Bool.and_eq_false_iff, Bool.or_eq_false_iff, Bool.not_true, Bool.not_false] at h4
      have hno : ¬ hasB (nth (nth L i).op k).ac 4 = true := by have hq := h4; simpa using hq
      have hmt := markT_1 (d := d) hfe hi hk hno
      refine s_seq ?_
      refine s_weaken (L' := [(2, _), (3, _), (6, _), (7, _), (9, _)]) (by repeat (first | exact sl_n | refine sl_c rfl ?_)) (fun _ h => h) ?_
      refine s_region ?_
      refine o_p (p_build (cs := [_, _]) rfl rfl pl_26 zr_26 rfl) rfl ?_
      refine o_h0 (h_store rfl rfl rfl sz_26 rfl (by repeat (first | exact .here | apply Put.there)) (by simp only [setMany_length, List.length_set, List.length_cons, List.length_nil, List.length_map]; omega) rfl) (fun _ _ => ?_)
      refine o_p (p_pure rfl) rfl ?_
      refine o_nil ?_
      exact s_retv (rs := [.cell 6 26, .tmp 7]) rfl (.cell rfl sz_26 (by repeat (first | exact .here | apply Pick.there)) rfl (.tmp rfl (.nil))) (fun w' h' => by have hR := afT_e (r := (markT (pls L) h d)) hz1 (by rw [hmt]; show ¬ (27 : Int) = 0; decide); exact ⟨((none, 0), []), by rw [hR, hmt]; rfl, by rw [hR, hmt]; rfl, (HS.files_none h').ent (by repeat (first | exact .nil | refine .cons (by repeat (first | exact .here | apply Pick.there)) ?_))⟩)
    · try simp only [decide_eq_true_eq, decide_eq_false_iff_not, Bool.not_eq_true', Bool.not_eq_false', Bool.and_eq_true, Bool.or_eq_true, Bool.and_eq_false_iff, Bool.or_eq_false_iff, Bool.not_true, Bool.not_false] at h4
      have hyes : hasB (nth (nth L i).op k).ac 4 = true := by have hq := h4; simpa using hq
      have hmt := markT_2 (d := d) hfe hi hk hyes
      refine s_skip ?_
      refine s_seq ?_
      refine s_weaken (L' := [(2, _), (3, _), (6, _), (7, _), (9, _)]) (by repeat (first | exact sl_n | refine sl_c rfl ?_)) (fun _ h => h) ?_
      refine s_region ?_
      first | refine o_q (q_loadn rfl rfl sz_26 (by repeat (first | exact .here | apply Pick.there)) rfl) rfl ?_ | refine o_q (q_load_oldn _ rfl rfl sz_26 (hs.1.rdj 3 hi rfl)) rfl ?_ | refine o_q (q_load_oldn _ rfl rfl sz_26 ((hs.at hi).1.rdj 1 hk rfl)) rfl ?_
      refine o_h (h_call rfl fn_19 rfl (fun w1 h1 => c19 w1 next a cap L (hs.later h1) hm hmo hml)) rfl (fun ⟨⟨ca, cc⟩, N⟩ hgc => ?_)
      dsimp only at hgc ⊢
      obtain ⟨hiN, hpN⟩ := same_nth hgc hi
      refine o_h (h_alloc rfl zr_26) rfl (fun b5 _ => ?_)
      refine o_h0 (h_store rfl rfl rfl sz_26 rfl (by repeat (first | exact .here | apply Put.there)) (by simp only [setMany_length, List.length_set, List.length_cons, List.length_nil, List.length_map]; omega) rfl) (fun _ _ => ?_)
      refine o_nil ?_
      refine s_seq ?_
      refine s_region ?_
      refine o_p (p_fieldAddr rfl rfl fd_26_1 sz_24 rfl) rfl ?_
      refine o_fact (fun w h => files_addr (l := N) (a := ca) (cap := cc) (by omega) h (by repeat (first | exact .here | apply Pick.there))) (fun hga => ?_)
      obtain ⟨ga, rfl, hcap, hcm⟩ := hga
      refine o_class (fun w h => HS.file_at hiN h (by repeat (first | exact .here | apply Pick.there))) ?_
      first | refine o_q (q_load rfl rfl sz_24 (by repeat (first | exact .here | apply Pick.there)) rfl) rfl ?_ | refine o_q (q_load_old rfl rfl sz_24 ((hs.1.rdj 3 hi rfl))) rfl ?_ | refine o_q (q_load_old rfl rfl sz_24 (((hs.at hi).1.rdj 1 hk rfl))) rfl ?_
      refine o_p (p_pure rfl) rfl ?_
      refine o_p (p_pure rfl) rfl ?_
      first | refine o_p (p_indexAddr rfl rfl rfl sl_24 (i) (by omega) (by omega) rfl) rfl ?_ | refine o_p (p_indexAddr rfl rfl rfl sl_24 (i) (by omega) (by omega) (Rw.some hs.1 (by omega))) rfl ?_ | refine o_p (p_indexAddr rfl rfl rfl sl_24 (i) (by omega) (by omega) (Rw.some (hs.at hi).1 (by omega))) rfl ?_
      refine o_slot (show _ = Value.pointer (some ⟨ga, i * 4, none⟩) from by rw [Nat.zero_add]) ?_
      refine o_p (p_fieldAddr rfl rfl fd_77_1 sz_4 rfl) rfl ?_
      refine o_h0 (h_store rfl rfl rfl sz_4 rfl (by repeat (first | exact .here | apply Put.there)) (by rw [flat_length fv4]; omega) rfl) (fun _ _ => ?_)
      refine o_nil ?_
      refine s_seq ?_
      refine s_region ?_
      first | refine o_q (q_loadn rfl rfl sz_26 (by repeat (first | exact .here | apply Pick.there)) rfl) rfl ?_ | refine o_q (q_load_oldn _ rfl rfl sz_26 (hs.1.rdj 3 hi rfl)) rfl ?_ | refine o_q (q_load_oldn _ rfl rfl sz_26 ((hs.at hi).1.rdj 1 hk rfl)) rfl ?_
      refine o_h0 (h_store rfl rfl rfl sz_26 rfl (by repeat (first | exact .here | apply Put.there)) (by simp only [setMany_length, List.length_set, List.length_cons, List.length_nil, List.length_map]; omega) rfl) (fun _ _ => ?_)
      refine o_p (p_pure rfl) rfl ?_
      refine o_nil ?_
      exact s_retv (rs := [.cell 6 26, .tmp 7]) rfl (.cell rfl sz_26 (by repeat (first | exact .here | apply Pick.there)) rfl (.tmp rfl (.nil))) (fun w' h' => by have hR := afT_0 (r := (markT (pls L) h d)) hz1 (by rw [hmt]); exact ⟨((some ⟨ga, 0, none⟩, cc), N.set i { nth N i with pd := d }), by rw [hR, List.length_set]; rfl, by rw [hR, hmt, pls_set, hgc, ← hpN]; rfl, by have h2 := HS.file_put (f := { nth N i with pd := d }) hiN (h'.ent (Bs := [.blk ga 77 (cc * 4) _, .opens (nth N i).oa (nth N i).oc (nth N i).op, .star ((others N i).map subF)]) (by repeat (first | exact .nil | refine .cons (by repeat (first | exact .here | apply Pick.there)) ?_))) (flat_set fv4 N i 2 [.bool d] (nth N i) _ (nth_get hiN) rfl (by simp)) hcap hcm; exact h2⟩)

end Go.Proofs
