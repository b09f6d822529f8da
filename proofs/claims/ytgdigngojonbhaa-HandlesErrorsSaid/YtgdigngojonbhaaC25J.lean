/- Contracts of the program's functions, proved by walking them with the rules of the Gx texts; without conditions beyond those that each contract names. -/
import Derived.Test.YtgdigngojonbhaaC25I
namespace Go.Proofs
open Go Go.RowKit Gx
set_option linter.unusedVariables false
set_option linter.unusedSimpArgs false
attribute [local irreducible] Go.Calls Gx.S Gx.O Gx.D Gx.OpP Gx.OpQ Gx.OpH

theorem fd_48_3 : tfd Try.prog 48 3 = some (3, 4) := by kernel_rfl
theorem fn_117 : isFn Try.prog 117 = true := by kernel_rfl
theorem fn_118 : isFn Try.prog 118 = true := by kernel_rfl


def closF (f : Fil) (k : Nat) : Fil := { f with pd := f.pd || (nth f.op k).dl, op := others f.op k }
def closeT (L : List Fil) (h : Int) : List Fil × Bool × Int :=
  if (findF L h 0).2.2 = 0 then
    if 0 < (closF (nth L (findF L h 0).1) (findF L h 0).2.1).op.length then (updF L (findF L h 0).1 fun f => closF f (findF L h 0).2.1, false, 0)
    else (others L (findF L h 0).1, (closF (nth L (findF L h 0).1) (findF L h 0).2.1).pd, 0)
  else (L, false, (findF L h 0).2.2)
def closL (f : LFil) (k : Nat) : LFil := { f with pd := f.pd || (nth f.op k).dl, op := others f.op k }
theorem closL_pl {f : LFil} {k : Nat} (hk : k < f.op.length) : (closL f k).pl = closF f.pl k := by
  unfold closL closF LFil.pl
  simp only [nth_plo hk]
  simp [others, LOpn.pl, List.map_take, List.map_drop]
theorem pls_others {L : List LFil} {i : Nat} : pls (others L i) = others (pls L) i := by simp [pls, others, List.map_take, List.map_drop]

set_option maxRecDepth 20000 in
set_option maxHeartbeats 1000000 in
theorem c82 (w : World) (bt : Nat) (next : Int) (a : Option Addr) (cap : Nat) (L : List LFil) (h : Int) (hw : HS w (fps [.blk bt 106 2 [.int .i64 (next), .slice a (L).length cap], .files a cap (L)]) [.blk bt 106 2 [.int .i64 (next), .slice a (L).length cap], .files a cap (L)] w) (hV : VW (pls L)) : Calls Try.prog 82 #[.pointer (some ⟨bt, 0, none⟩), .int .i64 h] w fun en w' => ∃ g : (Option Addr × Nat) × List LFil, en = .returned (.tuple #[.bool (closeT (pls L) h).2.1, .int .i64 (closeT (pls L) h).2.2]) ∧ pls g.2 = (closeT (pls L) h).1 ∧ HS w (fps [.blk bt 106 2 [.int .i64 (next), .slice a (L).length cap], .files a cap (L)]) [.blk bt 106 2 [.int .i64 (next), .slice g.1.1 (g.2).length g.1.2], .files g.1.1 g.1.2 (g.2)] w' := by
  refine enter (args := [_, _]) Try.func82 Try.ntmps82 rfl rfl hw ?_
  refine s_seq ?_
  refine s_region ?_
  refine o_p (p_pure rfl) rfl ?_
  refine o_p (p_pure rfl) rfl ?_
  refine o_nil ?_
  refine s_seq ?_
  refine s_region ?_
  refine o_p (p_pure rfl) rfl ?_
  refine o_p (p_pure rfl) rfl ?_
  refine o_q (q_call rfl fn_100 rfl (fun w1 h1 => c100 w1 bt _ _ L h (h1.rd_blk (Mc := []) (by repeat (first | exact .here | apply Pick.there)) rfl (by simp)) (h1.ft (by repeat (first | exact .here | apply Pick.there))) (by have := (VW.lens hV).1; omega) (fun f hf => by have := (VW.lens hV).2 f hf; omega))) rfl ?_
  refine o_p (p_pure rfl) rfl ?_
  refine o_p (p_pure rfl) rfl ?_
  refine o_p (p_pure rfl) rfl ?_
  refine o_p (p_pure rfl) rfl ?_
  refine o_p (p_pure rfl) rfl ?_
  refine o_p (p_pure rfl) rfl ?_
  refine o_p (p_pure rfl) rfl ?_
  refine o_nil ?_
  refine s_seq ?_
  refine s_seq ?_
  refine s_region ?_
  refine o_p (p_pure rfl) rfl ?_
  refine o_p (p_pure rfl) rfl ?_
  refine o_nil ?_
  refine s_cond rfl (fun h1 => ?_) (fun h1 => ?_)
  · try simp only [decide_eq_true_eq, decide_eq_false_iff_not, Bool.not_eq_true', Bool.not_eq_false', Bool.and_eq_true, Bool.or_eq_true, Bool.and_eq_false_iff, Bool.or_eq_false_iff, Bool.not_true, Bool.not_false] at h1
    refine s_seq ?_
    refine s_region ?_
    refine o_p (p_pure rfl) rfl ?_
    refine o_p (p_pure rfl) rfl ?_
    refine o_p (p_pure rfl) rfl ?_
    refine o_nil ?_
    exact s_retv (rs := [.tmp 4, .tmp 5]) rfl (.tmp rfl (.tmp rfl (.nil))) (fun w' h' => ⟨((a, cap), L), by rw [closeT, if_neg h1]; rfl, by rw [closeT, if_neg h1], h'.ent (by repeat (first | exact .nil | refine .cons (by repeat (first | exact .here | apply Pick.there)) ?_))⟩)
  · try simp only [decide_eq_true_eq, decide_eq_false_iff_not, Bool.not_eq_true', Bool.not_eq_false', Bool.and_eq_true, Bool.or_eq_true, Bool.and_eq_false_iff, Bool.or_eq_false_iff, Bool.not_true, Bool.not_false] at h1
    obtain ⟨i, k, hfe, hi, hk, hV3⟩ := findF_some hV h1
    rw [hfe]
    obtain ⟨ga, rfl, hcap, hcm⟩ := files_addr (by omega) hw (.there .here)
    obtain ⟨go, hoa, hoc, hom⟩ := file_addr hi (by omega) hw (.there .here)
    dsimp only
    have hl32 := (VW.lens hV).2 _ (mem_nth hi)
    have hL32 := (VW.lens hV).1
    refine s_class (fun w h => HS.file_at hi h (by repeat (first | exact .here | apply Pick.there))) ?_
    refine s_skip ?_
    refine s_seq ?_
    refine s_region ?_
    refine o_p (p_pure rfl) rfl ?_
    refine o_p (p_pure rfl) rfl ?_
    refine o_p (p_fieldAddr rfl rfl fd_106_0 sz_26 rfl) rfl ?_
    refine o_p (p_fieldAddr rfl rfl fd_26_1 sz_24 rfl) rfl ?_
    first | refine o_q (q_load rfl rfl sz_24 (by repeat (first | exact .here | apply Pick.there)) rfl) rfl ?_ | refine o_q (q_load_at rfl rfl sz_24 (fun w h => (h.rd_blk (Mc := []) (b := bt) (by repeat (first | exact .here | apply Pick.there)) rfl (by simp)))) rfl ?_ | refine o_q (q_load_at rfl rfl sz_24 (fun w h => (h.rd_blk (Mc := []) (b := ga) (by repeat (first | exact .here | apply Pick.there)) (by rw [flat_get fv4 _ i 2 _ (nth_get hi) (by decide)]; rfl) (by simp)))) rfl ?_ | refine o_q (q_load_at rfl rfl sz_24 (fun w h => (h.rd_blk (Mc := []) (b := ga) (by repeat (first | exact .here | apply Pick.there)) (by rw [flat_get fv4 _ i 3 _ (nth_get hi) (by decide)]; rfl) (by simp)))) rfl ?_ | refine o_q (q_load_at rfl rfl sz_24 (fun w h => (h.rd_blk (Mc := []) (b := ga) (by repeat (first | exact .here | apply Pick.there)) (by rw [flat_get fv4 _ i 3 _ (List.getElem?_set_self hi) (by decide)]; rfl) (by simp)))) rfl ?_ | refine o_q (q_load_at rfl rfl sz_24 (fun w h => (h.rd_blk (Mc := []) (b := ga) (by repeat (first | exact .here | apply Pick.there)) (by rw [flat_get fv4 _ i 3 _ (List.getElem?_set_self (by rw [List.length_set]; exact hi)) (by decide)]; rfl) (by simp)))) rfl ?_ | refine o_q (q_load_at rfl rfl sz_24 (fun w h => (h.rd_blk (Mc := []) (b := ga) (by repeat (first | exact .here | apply Pick.there)) (by rw [flat_get fv4 _ i 2 _ (List.getElem?_set_self (by rw [List.length_set]; exact hi)) (by decide)]; rfl) (by simp)))) rfl ?_ | refine o_q (q_load_at rfl rfl sz_24 (fun w h => by have h9 := (HS.ot (a := (nth L i).oa) (cap := (nth L i).oc) (l := (nth L i).op) h (by repeat (first | exact .here | apply Pick.there))).1.rdj 3 hk rfl; rw [hoa] at h9; exact h9)) rfl ?_
    refine o_p (p_pure rfl) rfl ?_
    first | refine o_p (p_indexAddr rfl rfl rfl sl_24 (i) (by omega) (by omega) rfl) rfl ?_ | refine o_p (p_indexAddr rfl rfl rfl sl_24 (i) (by omega) (by omega) hoa) rfl ?_
    refine o_slot (show _ = Value.pointer (some ⟨ga, i * 4, none⟩) from by rw [Nat.zero_add]) ?_
    refine o_p (p_pure rfl) rfl ?_
    refine o_nil ?_
    refine s_seq ?_
    refine s_region ?_
    refine o_p (p_pure rfl) rfl ?_
    refine o_p (p_pure rfl) rfl ?_
    refine o_p (p_pure rfl) rfl ?_
    refine o_p (p_fieldAddr rfl rfl fd_77_1 sz_4 rfl) rfl ?_
    first | refine o_q (q_load rfl rfl sz_4 (by repeat (first | exact .here | apply Pick.there)) rfl) rfl ?_ | refine o_q (q_load_at rfl rfl sz_4 (fun w h => (h.rd_blk (Mc := []) (b := bt) (by repeat (first | exact .here | apply Pick.there)) rfl (by simp)))) rfl ?_ | refine o_q (q_load_at rfl rfl sz_4 (fun w h => (h.rd_blk (Mc := []) (b := ga) (by repeat (first | exact .here | apply Pick.there)) (by rw [flat_get fv4 _ i 2 _ (nth_get hi) (by decide)]; rfl) (by simp)))) rfl ?_ | refine o_q (q_load_at rfl rfl sz_4 (fun w h => (h.rd_blk (Mc := []) (b := ga) (by repeat (first | exact .here | apply Pick.there)) (by rw [flat_get fv4 _ i 3 _ (nth_get hi) (by decide)]; rfl) (by simp)))) rfl ?_ | refine o_q (q_load_at rfl rfl sz_4 (fun w h => (h.rd_blk (Mc := []) (b := ga) (by repeat (first | exact .here | apply Pick.there)) (by rw [flat_get fv4 _ i 3 _ (List.getElem?_set_self hi) (by decide)]; rfl) (by simp)))) rfl ?_ | refine o_q (q_load_at rfl rfl sz_4 (fun w h => (h.rd_blk (Mc := []) (b := ga) (by repeat (first | exact .here | apply Pick.there)) (by rw [flat_get fv4 _ i 3 _ (List.getElem?_set_self (by rw [List.length_set]; exact hi)) (by decide)]; rfl) (by simp)))) rfl ?_ | refine o_q (q_load_at rfl rfl sz_4 (fun w h => (h.rd_blk (Mc := []) (b := ga) (by repeat (first | exact .here | apply Pick.there)) (by rw [flat_get fv4 _ i 2 _ (List.getElem?_set_self (by rw [List.length_set]; exact hi)) (by decide)]; rfl) (by simp)))) rfl ?_ | refine o_q (q_load_at rfl rfl sz_4 (fun w h => by have h9 := (HS.ot (a := (nth L i).oa) (cap := (nth L i).oc) (l := (nth L i).op) h (by repeat (first | exact .here | apply Pick.there))).1.rdj 3 hk rfl; rw [hoa] at h9; exact h9)) rfl ?_
    refine o_p (p_pure rfl) rfl ?_
    refine o_or 9 33 42 _ _ rfl
      (by
        intro hg2
        have hs3 := hg2; try simp only [decide_eq_true_eq, decide_eq_false_iff_not, Bool.not_eq_true', Bool.not_eq_false', Bool.and_eq_true, Bool.or_eq_true, Bool.and_eq_false_iff, Bool.or_eq_false_iff, Bool.not_true, Bool.not_false] at hs3
        refine o_on 33 _ rfl rfl hg2 ?_
        refine o_p (p_pure rfl) rfl ?_
        refine o_on 33 _ rfl rfl hg2 ?_
        refine o_p (p_pure rfl) rfl ?_
        refine o_on 33 _ rfl rfl hg2 ?_
        refine o_p (p_fieldAddr rfl rfl fd_77_2 sz_75 rfl) rfl ?_
        refine o_on 33 _ rfl rfl hg2 ?_
        first | refine o_q (q_load rfl rfl sz_75 (by repeat (first | exact .here | apply Pick.there)) rfl) rfl ?_ | refine o_q (q_load_at rfl rfl sz_75 (fun w h => (h.rd_blk (Mc := []) (b := bt) (by repeat (first | exact .here | apply Pick.there)) rfl (by simp)))) rfl ?_ | refine o_q (q_load_at rfl rfl sz_75 (fun w h => (h.rd_blk (Mc := []) (b := ga) (by repeat (first | exact .here | apply Pick.there)) (by rw [flat_get fv4 _ i 2 _ (nth_get hi) (by decide)]; rfl) (by simp)))) rfl ?_ | refine o_q (q_load_at rfl rfl sz_75 (fun w h => (h.rd_blk (Mc := []) (b := ga) (by repeat (first | exact .here | apply Pick.there)) (by rw [flat_get fv4 _ i 3 _ (nth_get hi) (by decide)]; rfl) (by simp)))) rfl ?_ | refine o_q (q_load_at rfl rfl sz_75 (fun w h => (h.rd_blk (Mc := []) (b := ga) (by repeat (first | exact .here | apply Pick.there)) (by rw [flat_get fv4 _ i 3 _ (List.getElem?_set_self hi) (by decide)]; rfl) (by simp)))) rfl ?_ | refine o_q (q_load_at rfl rfl sz_75 (fun w h => (h.rd_blk (Mc := []) (b := ga) (by repeat (first | exact .here | apply Pick.there)) (by rw [flat_get fv4 _ i 3 _ (List.getElem?_set_self (by rw [List.length_set]; exact hi)) (by decide)]; rfl) (by simp)))) rfl ?_ | refine o_q (q_load_at rfl rfl sz_75 (fun w h => (h.rd_blk (Mc := []) (b := ga) (by repeat (first | exact .here | apply Pick.there)) (by rw [flat_get fv4 _ i 2 _ (List.getElem?_set_self (by rw [List.length_set]; exact hi)) (by decide)]; rfl) (by simp)))) rfl ?_ | refine o_q (q_load_at rfl rfl sz_75 (fun w h => by have h9 := (HS.ot (a := (nth L i).oa) (cap := (nth L i).oc) (l := (nth L i).op) h (by repeat (first | exact .here | apply Pick.there))).1.rdj 3 hk rfl; rw [hoa] at h9; exact h9)) rfl ?_
        refine o_on 33 _ rfl rfl hg2 ?_
        refine o_p (p_pure rfl) rfl ?_
        refine o_on 33 _ rfl rfl hg2 ?_
        first | refine o_p (p_indexAddr rfl rfl rfl sl_75 (k) (by omega) (by omega) rfl) rfl ?_ | refine o_p (p_indexAddr rfl rfl rfl sl_75 (k) (by omega) (by omega) hoa) rfl ?_
        refine o_on 33 _ rfl rfl hg2 ?_
        refine o_p (p_fieldAddr rfl rfl fd_48_3 sz_4 rfl) rfl ?_
        refine o_on 33 _ rfl rfl hg2 ?_
        first | refine o_q (q_load rfl rfl sz_4 (by repeat (first | exact .here | apply Pick.there)) rfl) rfl ?_ | refine o_q (q_load_at rfl rfl sz_4 (fun w h => (h.rd_blk (Mc := []) (b := bt) (by repeat (first | exact .here | apply Pick.there)) rfl (by simp)))) rfl ?_ | refine o_q (q_load_at rfl rfl sz_4 (fun w h => (h.rd_blk (Mc := []) (b := ga) (by repeat (first | exact .here | apply Pick.there)) (by rw [flat_get fv4 _ i 2 _ (nth_get hi) (by decide)]; rfl) (by simp)))) rfl ?_ | refine o_q (q_load_at rfl rfl sz_4 (fun w h => (h.rd_blk (Mc := []) (b := ga) (by repeat (first | exact .here | apply Pick.there)) (by rw [flat_get fv4 _ i 3 _ (nth_get hi) (by decide)]; rfl) (by simp)))) rfl ?_ | refine o_q (q_load_at rfl rfl sz_4 (fun w h => (h.rd_blk (Mc := []) (b := ga) (by repeat (first | exact .here | apply Pick.there)) (by rw [flat_get fv4 _ i 3 _ (List.getElem?_set_self hi) (by decide)]; rfl) (by simp)))) rfl ?_ | refine o_q (q_load_at rfl rfl sz_4 (fun w h => (h.rd_blk (Mc := []) (b := ga) (by repeat (first | exact .here | apply Pick.there)) (by rw [flat_get fv4 _ i 3 _ (List.getElem?_set_self (by rw [List.length_set]; exact hi)) (by decide)]; rfl) (by simp)))) rfl ?_ | refine o_q (q_load_at rfl rfl sz_4 (fun w h => (h.rd_blk (Mc := []) (b := ga) (by repeat (first | exact .here | apply Pick.there)) (by rw [flat_get fv4 _ i 2 _ (List.getElem?_set_self (by rw [List.length_set]; exact hi)) (by decide)]; rfl) (by simp)))) rfl ?_ | refine o_q (q_load_at rfl rfl sz_4 (fun w h => by have h9 := (HS.ot (a := (nth L i).oa) (cap := (nth L i).oc) (l := (nth L i).op) h (by repeat (first | exact .here | apply Pick.there))).1.rdj 3 hk rfl; rw [hoa] at h9; exact h9)) rfl ?_
        refine o_p (p_pickf rfl rfl hg2 rfl) rfl ?_
        refine o_nil ?_
        exact s_joinN 9 42 _ rfl rfl rfl (fun w h => by first | exact h | exact h.ent (by repeat (first | exact .nil | refine .cons (by repeat (first | exact .here | apply Pick.there)) ?_))))
      (by
        intro hg4
        have hs5 := hg4; try simp only [decide_eq_true_eq, decide_eq_false_iff_not, Bool.not_eq_true', Bool.not_eq_false', Bool.and_eq_true, Bool.or_eq_true, Bool.and_eq_false_iff, Bool.or_eq_false_iff, Bool.not_true, Bool.not_false] at hs5
        refine o_off 33 _ rfl rfl hg4 rfl ?_
        refine o_off 33 _ rfl rfl hg4 rfl ?_
        refine o_off 33 _ rfl rfl hg4 rfl ?_
        refine o_off 33 _ rfl rfl hg4 rfl ?_
        refine o_off 33 _ rfl rfl hg4 rfl ?_
        refine o_off 33 _ rfl rfl hg4 rfl ?_
        refine o_off 33 _ rfl rfl hg4 rfl ?_
        refine o_off 33 _ rfl rfl hg4 rfl ?_
        refine o_p (p_pickt rfl rfl hg4 rfl) rfl ?_
        refine o_nil ?_
        exact s_joinN 9 42 _ rfl rfl rfl (fun w h => by first | exact h | exact h.ent (by repeat (first | exact .nil | refine .cons (by repeat (first | exact .here | apply Pick.there)) ?_)))) ?_
    refine o_p (p_pure rfl) rfl ?_
    refine o_p (p_fieldAddr rfl rfl fd_77_1 sz_4 rfl) rfl ?_
    refine o_h0 (h_store rfl rfl rfl sz_4 rfl (by repeat (first | exact .here | apply Put.there)) (by rw [flat_length fv4]; omega) rfl) (fun _ _ => ?_)
    refine o_nil ?_
    refine s_seq ?_
    refine s_weaken (L' := [(0, _), (4, _), (5, _), (6, _), (7, _), (9, _)]) (by repeat (first | exact sl_n | refine sl_c rfl ?_)) (fun _ h => h) ?_
    refine s_region ?_
    refine o_p (p_pure rfl) rfl ?_
    refine o_class (fun w h => HS.blk_to h (b := ga) (by repeat (first | exact .here | apply Pick.there)) (flat_set fv4 L i 2 [.bool ((nth L i).pd || (nth (nth L i).op k).dl)] (nth L i) { nth L i with pd := ((nth L i).pd || (nth (nth L i).op k).dl) } (nth_get hi) rfl (by simp))) ?_
    refine o_class (fun w h => HS.opens_split (a := (nth L i).oa) (cap := (nth L i).oc) (l := (nth L i).op) h (by repeat (first | exact .here | apply Pick.there))) ?_
    refine o_p (p_pure rfl) rfl ?_
    refine o_p (p_pure rfl) rfl ?_
    refine o_p (p_fieldAddr rfl rfl fd_77_2 sz_75 rfl) rfl ?_
    first | refine o_q (q_load rfl rfl sz_75 (by repeat (first | exact .here | apply Pick.there)) rfl) rfl ?_ | refine o_q (q_load_at rfl rfl sz_75 (fun w h => (h.rd_blk (Mc := []) (b := bt) (by repeat (first | exact .here | apply Pick.there)) rfl (by simp)))) rfl ?_ | refine o_q (q_load_at rfl rfl sz_75 (fun w h => (h.rd_blk (Mc := []) (b := ga) (by repeat (first | exact .here | apply Pick.there)) (by rw [flat_get fv4 _ i 2 _ (nth_get hi) (by decide)]; rfl) (by simp)))) rfl ?_ | refine o_q (q_load_at rfl rfl sz_75 (fun w h => (h.rd_blk (Mc := []) (b := ga) (by repeat (first | exact .here | apply Pick.there)) (by rw [flat_get fv4 _ i 3 _ (nth_get hi) (by decide)]; rfl) (by simp)))) rfl ?_ | refine o_q (q_load_at rfl rfl sz_75 (fun w h => (h.rd_blk (Mc := []) (b := ga) (by repeat (first | exact .here | apply Pick.there)) (by rw [flat_get fv4 _ i 3 _ (List.getElem?_set_self hi) (by decide)]; rfl) (by simp)))) rfl ?_ | refine o_q (q_load_at rfl rfl sz_75 (fun w h => (h.rd_blk (Mc := []) (b := ga) (by repeat (first | exact .here | apply Pick.there)) (by rw [flat_get fv4 _ i 3 _ (List.getElem?_set_self (by rw [List.length_set]; exact hi)) (by decide)]; rfl) (by simp)))) rfl ?_ | refine o_q (q_load_at rfl rfl sz_75 (fun w h => (h.rd_blk (Mc := []) (b := ga) (by repeat (first | exact .here | apply Pick.there)) (by rw [flat_get fv4 _ i 2 _ (List.getElem?_set_self (by rw [List.length_set]; exact hi)) (by decide)]; rfl) (by simp)))) rfl ?_ | refine o_q (q_load_at rfl rfl sz_75 (fun w h => by have h9 := (HS.ot (a := (nth L i).oa) (cap := (nth L i).oc) (l := (nth L i).op) h (by repeat (first | exact .here | apply Pick.there))).1.rdj 3 hk rfl; rw [hoa] at h9; exact h9)) rfl ?_
    refine o_p (p_pure rfl) rfl ?_
    refine o_p (p_pure rfl) rfl ?_
    refine o_p (p_pure rfl) rfl ?_
    try (refine o_slot (i64w (by omega) (by omega)) ?_)
    refine o_h (h_callF (Cs := [.own (.slice (nth L i).oa (nth L i).op.length (nth L i).oc) 48 5 (nth L i).op.length ((nth L i).op.flatMap LOpn.vals)]) rfl fn_117 rfl (by repeat (first | exact Picks.nil | (apply Picks.cons; · (repeat (first | exact .here | apply Pick.there))))) (fun w1 h1 hf => by have h9 := c117 w1 (nth L i).oa k (k + 1) (nth L i).op.length (nth L i).oc ((nth L i).op.flatMap LOpn.vals) hf (flat_one ov1 _) (by omega) (by omega) (by omega); rw [others_flat ov5, show (nth L i).op.length - (k + 1 - k) = (others (nth L i).op k).length by rw [others_len hk]; omega] at h9; exact h9)) rfl (fun _ _ => ?_)
    refine o_p (p_pure rfl) rfl ?_
    refine o_p (p_fieldAddr rfl rfl fd_77_2 sz_75 rfl) rfl ?_
    refine o_h0 (h_store rfl rfl rfl sz_75 rfl (by repeat (first | exact .here | apply Put.there)) (by rw [flat_length fv4, List.length_set]; omega) rfl) (fun _ _ => ?_)
    refine o_nil ?_
    refine s_seq ?_
    refine s_seq ?_
    refine s_region ?_
    refine o_p (p_pure rfl) rfl ?_
    refine o_class (fun w h => HS.blk_to h (b := ga) (by repeat (first | exact .here | apply Pick.there)) (flat_set fv4 (L.set i { nth L i with pd := ((nth L i).pd || (nth (nth L i).op k).dl) }) i 3 [.slice (nth L i).oa (others (nth L i).op k).length (nth L i).oc] _ (closL (nth L i) k) (List.getElem?_set_self hi) rfl (by simp))) ?_
    refine o_p (p_pure rfl) rfl ?_
    refine o_p (p_fieldAddr rfl rfl fd_77_2 sz_75 rfl) rfl ?_
    first | refine o_q (q_load rfl rfl sz_75 (by repeat (first | exact .here | apply Pick.there)) rfl) rfl ?_ | refine o_q (q_load_at rfl rfl sz_75 (fun w h => (h.rd_blk (Mc := []) (b := bt) (by repeat (first | exact .here | apply Pick.there)) rfl (by simp)))) rfl ?_ | refine o_q (q_load_at rfl rfl sz_75 (fun w h => (h.rd_blk (Mc := []) (b := ga) (by repeat (first | exact .here | apply Pick.there)) (by rw [flat_get fv4 _ i 2 _ (nth_get hi) (by decide)]; rfl) (by simp)))) rfl ?_ | refine o_q (q_load_at rfl rfl sz_75 (fun w h => (h.rd_blk (Mc := []) (b := ga) (by repeat (first | exact .here | apply Pick.there)) (by rw [flat_get fv4 _ i 3 _ (nth_get hi) (by decide)]; rfl) (by simp)))) rfl ?_ | refine o_q (q_load_at rfl rfl sz_75 (fun w h => (h.rd_blk (Mc := []) (b := ga) (by repeat (first | exact .here | apply Pick.there)) (by rw [flat_get fv4 _ i 3 _ (List.getElem?_set_self hi) (by decide)]; rfl) (by simp)))) rfl ?_ | refine o_q (q_load_at rfl rfl sz_75 (fun w h => (h.rd_blk (Mc := []) (b := ga) (by repeat (first | exact .here | apply Pick.there)) (by rw [flat_get fv4 _ i 3 _ (List.getElem?_set_self (by rw [List.length_set]; exact hi)) (by decide)]; rfl) (by simp)))) rfl ?_ | refine o_q (q_load_at rfl rfl sz_75 (fun w h => (h.rd_blk (Mc := []) (b := ga) (by repeat (first | exact .here | apply Pick.there)) (by rw [flat_get fv4 _ i 2 _ (List.getElem?_set_self (by rw [List.length_set]; exact hi)) (by decide)]; rfl) (by simp)))) rfl ?_ | refine o_q (q_load_at rfl rfl sz_75 (fun w h => by have h9 := (HS.ot (a := (nth L i).oa) (cap := (nth L i).oc) (l := (nth L i).op) h (by repeat (first | exact .here | apply Pick.there))).1.rdj 3 hk rfl; rw [hoa] at h9; exact h9)) rfl ?_
    first | refine o_p (p_len_slice rfl rfl Try.underlying75) rfl ?_ | refine o_q (q_len_own rfl rfl Try.underlying75 (by repeat (first | exact .here | apply Pick.there))) rfl ?_
    refine o_p (p_pure rfl) rfl ?_
    refine o_nil ?_
    refine s_cond rfl (fun h6 => ?_) (fun h6 => ?_)
    · try simp only [decide_eq_true_eq, decide_eq_false_iff_not, Bool.not_eq_true', Bool.not_eq_false', Bool.and_eq_true, Bool.or_eq_true, Bool.and_eq_false_iff, Bool.or_eq_false_iff, Bool.not_true, Bool.not_false] at h6
      have hcl : 0 < (closL (nth L i) k).op.length := by have hq := h6; omega
      refine s_seq ?_
      refine s_region ?_
      refine o_p (p_pure rfl) rfl ?_
      refine o_p (p_pure rfl) rfl ?_
      refine o_nil ?_
      exact s_retv (rs := [.tmp 4, .tmp 5]) rfl (.tmp rfl (.tmp rfl (.nil))) (fun w' h' => ⟨((some ⟨ga, 0, none⟩, cap), L.set i (closL (nth L i) k)), by rw [closeT, hfe]; simp only [if_true]; rw [nth_pls hi, ← closL_pl hk]; skip; rw [if_pos (by simpa [LFil.pl] using hcl)]; rfl, by rw [closeT, hfe]; simp only [if_true]; rw [nth_pls hi, ← closL_pl hk]; skip; rw [if_pos (by simpa [LFil.pl] using hcl), pls_set, updF, nth_pls hi, closL_pl hk], by have h2 := HS.opens_less (k := k) (l := (nth L i).op) hk (h'.ent (Bs := [.own (.slice (nth L i).oa (others (nth L i).op k).length (nth L i).oc) 48 5 (others (nth L i).op k).length ((others (nth L i).op k).flatMap LOpn.vals), .star ((nth L i).op.map subO), .blk ga 77 (cap * 4) _, .star ((others L i).map subF), .blk bt 106 2 [.int .i64 next, .slice (some ⟨ga, 0, none⟩) L.length cap]]) (by repeat (first | exact .nil | refine .cons (by repeat (first | exact .here | apply Pick.there)) ?_))) rfl rfl; have h3 := HS.file_put (f := (closL (nth L i) k)) (cap := cap) hi (h2.perm (List.Perm.swap ..)) (by rw [List.set_set]) hcap hcm; rw [List.length_set]; exact h3.ent (by repeat (first | exact .nil | refine .cons (by repeat (first | exact .here | apply Pick.there)) ?_))⟩)
    · try simp only [decide_eq_true_eq, decide_eq_false_iff_not, Bool.not_eq_true', Bool.not_eq_false', Bool.and_eq_true, Bool.or_eq_true, Bool.and_eq_false_iff, Bool.or_eq_false_iff, Bool.not_true, Bool.not_false] at h6
      have hcl : ¬ 0 < (closL (nth L i) k).op.length := by have hq := h6; omega
      refine s_skip ?_
      refine s_seq ?_
      refine s_region ?_
      refine o_p (p_pure rfl) rfl ?_
      refine o_p (p_pure rfl) rfl ?_
      refine o_p (p_fieldAddr rfl rfl fd_77_1 sz_4 rfl) rfl ?_
      first | refine o_q (q_load rfl rfl sz_4 (by repeat (first | exact .here | apply Pick.there)) rfl) rfl ?_ | refine o_q (q_load_at rfl rfl sz_4 (fun w h => (h.rd_blk (Mc := []) (b := bt) (by repeat (first | exact .here | apply Pick.there)) rfl (by simp)))) rfl ?_ | refine o_q (q_load_at rfl rfl sz_4 (fun w h => (h.rd_blk (Mc := []) (b := ga) (by repeat (first | exact .here | apply Pick.there)) (by rw [flat_get fv4 _ i 2 _ (nth_get hi) (by decide)]; rfl) (by simp)))) rfl ?_ | refine o_q (q_load_at rfl rfl sz_4 (fun w h => (h.rd_blk (Mc := []) (b := ga) (by repeat (first | exact .here | apply Pick.there)) (by rw [flat_get fv4 _ i 3 _ (nth_get hi) (by decide)]; rfl) (by simp)))) rfl ?_ | refine o_q (q_load_at rfl rfl sz_4 (fun w h => (h.rd_blk (Mc := []) (b := ga) (by repeat (first | exact .here | apply Pick.there)) (by rw [flat_get fv4 _ i 3 _ (List.getElem?_set_self hi) (by decide)]; rfl) (by simp)))) rfl ?_ | refine o_q (q_load_at rfl rfl sz_4 (fun w h => (h.rd_blk (Mc := []) (b := ga) (by repeat (first | exact .here | apply Pick.there)) (by rw [flat_get fv4 _ i 3 _ (List.getElem?_set_self (by rw [List.length_set]; exact hi)) (by decide)]; rfl) (by simp)))) rfl ?_ | refine o_q (q_load_at rfl rfl sz_4 (fun w h => (h.rd_blk (Mc := []) (b := ga) (by repeat (first | exact .here | apply Pick.there)) (by rw [flat_get fv4 _ i 2 _ (List.getElem?_set_self (by rw [List.length_set]; exact hi)) (by decide)]; rfl) (by simp)))) rfl ?_ | refine o_q (q_load_at rfl rfl sz_4 (fun w h => by have h9 := (HS.ot (a := (nth L i).oa) (cap := (nth L i).oc) (l := (nth L i).op) h (by repeat (first | exact .here | apply Pick.there))).1.rdj 3 hk rfl; rw [hoa] at h9; exact h9)) rfl ?_
      refine o_p (p_pure rfl) rfl ?_
      refine o_nil ?_
      refine s_seq ?_
      refine s_region ?_
      refine o_p (p_pure rfl) rfl ?_
      refine o_class (fun w h => HS.own_shut (n := L.length) (h.pick (show Pick _ (.blk ga 77 (cap * 4) (((L.set i { nth L i with pd := ((nth L i).pd || (nth (nth L i).op k).dl) }).set i (closL (nth L i) k)).flatMap LFil.vals)) _ from (by repeat (first | exact .here | apply Pick.there)))) (by rw [flat_length fv4, List.length_set, List.length_set]) hcap hcm) ?_
      refine o_p (p_pure rfl) rfl ?_
      refine o_p (p_pure rfl) rfl ?_
      refine o_p (p_fieldAddr rfl rfl fd_106_0 sz_26 rfl) rfl ?_
      refine o_p (p_fieldAddr rfl rfl fd_26_1 sz_24 rfl) rfl ?_
      first | refine o_q (q_load rfl rfl sz_24 (by repeat (first | exact .here | apply Pick.there)) rfl) rfl ?_ | refine o_q (q_load_at rfl rfl sz_24 (fun w h => (h.rd_blk (Mc := []) (b := bt) (by repeat (first | exact .here | apply Pick.there)) rfl (by simp)))) rfl ?_ | refine o_q (q_load_at rfl rfl sz_24 (fun w h => (h.rd_blk (Mc := []) (b := ga) (by repeat (first | exact .here | apply Pick.there)) (by rw [flat_get fv4 _ i 2 _ (nth_get hi) (by decide)]; rfl) (by simp)))) rfl ?_ | refine o_q (q_load_at rfl rfl sz_24 (fun w h => (h.rd_blk (Mc := []) (b := ga) (by repeat (first | exact .here | apply Pick.there)) (by rw [flat_get fv4 _ i 3 _ (nth_get hi) (by decide)]; rfl) (by simp)))) rfl ?_ | refine o_q (q_load_at rfl rfl sz_24 (fun w h => (h.rd_blk (Mc := []) (b := ga) (by repeat (first | exact .here | apply Pick.there)) (by rw [flat_get fv4 _ i 3 _ (List.getElem?_set_self hi) (by decide)]; rfl) (by simp)))) rfl ?_ | refine o_q (q_load_at rfl rfl sz_24 (fun w h => (h.rd_blk (Mc := []) (b := ga) (by repeat (first | exact .here | apply Pick.there)) (by rw [flat_get fv4 _ i 3 _ (List.getElem?_set_self (by rw [List.length_set]; exact hi)) (by decide)]; rfl) (by simp)))) rfl ?_ | refine o_q (q_load_at rfl rfl sz_24 (fun w h => (h.rd_blk (Mc := []) (b := ga) (by repeat (first | exact .here | apply Pick.there)) (by rw [flat_get fv4 _ i 2 _ (List.getElem?_set_self (by rw [List.length_set]; exact hi)) (by decide)]; rfl) (by simp)))) rfl ?_ | refine o_q (q_load_at rfl rfl sz_24 (fun w h => by have h9 := (HS.ot (a := (nth L i).oa) (cap := (nth L i).oc) (l := (nth L i).op) h (by repeat (first | exact .here | apply Pick.there))).1.rdj 3 hk rfl; rw [hoa] at h9; exact h9)) rfl ?_
      refine o_p (p_pure rfl) rfl ?_
      refine o_p (p_pure rfl) rfl ?_
      refine o_p (p_pure rfl) rfl ?_
      try (refine o_slot (i64w (by omega) (by omega)) ?_)
      refine o_h (h_callF (Cs := [.own (.slice (some ⟨ga, 0, none⟩) L.length cap) 77 4 L.length (((L.set i { nth L i with pd := ((nth L i).pd || (nth (nth L i).op k).dl) }).set i (closL (nth L i) k)).flatMap LFil.vals)]) rfl fn_118 rfl (by repeat (first | exact Picks.nil | (apply Picks.cons; · (repeat (first | exact .here | apply Pick.there))))) (fun w1 h1 hf => by have h9 := c118 w1 (some ⟨ga, 0, none⟩) i (i + 1) L.length cap (((L.set i { nth L i with pd := ((nth L i).pd || (nth (nth L i).op k).dl) }).set i (closL (nth L i) k)).flatMap LFil.vals) hf (flat_one fv1 _) (by omega) (by omega) (by omega); rw [others_flat fv4, others_set, others_set, show L.length - (i + 1 - i) = (others L i).length by rw [others_len hi]; omega] at h9; exact h9)) rfl (fun _ _ => ?_)
      refine o_p (p_pure rfl) rfl ?_
      refine o_p (p_fieldAddr rfl rfl fd_106_0 sz_26 rfl) rfl ?_
      refine o_p (p_fieldAddr rfl rfl fd_26_1 sz_24 rfl) rfl ?_
      refine o_h0 (h_store rfl rfl rfl sz_24 rfl (by repeat (first | exact .here | apply Put.there)) (by simp only [setMany_length, List.length_set, List.length_cons, List.length_nil, List.length_map]; omega) rfl) (fun _ _ => ?_)
      refine o_nil ?_
      refine s_seq ?_
      refine s_weaken (L' := [(4, _), (5, _), (10, _)]) (by repeat (first | exact sl_n | refine sl_c rfl ?_)) (fun _ h => h) ?_
      refine s_region ?_
      refine o_p (p_pure rfl) rfl ?_
      refine o_p (p_pure rfl) rfl ?_
      refine o_p (p_pure rfl) rfl ?_
      refine o_nil ?_
      exact s_retv (rs := [.tmp 4, .tmp 5]) rfl (.tmp rfl (.tmp rfl (.nil))) (fun w' h' => ⟨((some ⟨ga, 0, none⟩, cap), others L i), by rw [closeT, hfe]; simp only [if_true]; rw [nth_pls hi, ← closL_pl hk]; skip; rw [if_neg (by simpa [LFil.pl] using hcl)]; rfl, by rw [closeT, hfe]; simp only [if_true]; rw [nth_pls hi, ← closL_pl hk]; skip; rw [if_neg (by simpa [LFil.pl] using hcl)]; exact pls_others, by have h2 := HS.files_shut (l := others L i) (h'.ent (Bs := [.own (.slice (some ⟨ga, 0, none⟩) (others L i).length cap) 77 4 (others L i).length ((others L i).flatMap LFil.vals), .star ((others L i).map subF), .blk bt 106 2 _]) (by repeat (first | exact .nil | refine .cons (by repeat (first | exact .here | apply Pick.there)) ?_))) rfl rfl; exact h2.ent (by repeat (first | exact .nil | refine .cons (by repeat (first | exact .here | apply Pick.there)) ?_))⟩)

end Go.Proofs
