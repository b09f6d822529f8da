/- Contracts of the program's functions, proved by walking them with the rules of the Gx texts; without conditions beyond those that each contract names. -/
import Derived.Test.YtgdigngojonbhaaC25R
namespace Go.Proofs
open Go Go.RowKit Gx
set_option linter.unusedVariables false
set_option linter.unusedSimpArgs false
attribute [local irreducible] Go.Calls Gx.S Gx.O Gx.D Gx.OpP Gx.OpQ Gx.OpH

theorem fn_31 : isFn Try.prog 31 = true := by kernel_rfl
theorem fn_70 : isFn Try.prog 70 = true := by kernel_rfl
theorem fn_33 : isFn Try.prog 33 = true := by kernel_rfl


def hErr (next : Int) (L : List Fil) (h : Int) : Int := if (chkT next L).2 = 0 then (findF L h 0).2.2 else (chkT next L).2
def fErr (next : Int) (L : List Fil) (rc sq : Int) : Int := if (chkT next L).2 = 0 then if refE rc sq = 0 then if ixI (atB L rc sq) < 0 then 6 else 0 else refE rc sq else (chkT next L).2
theorem fdI_neg {L : List Fil} {h : Int} (hn : (fdI L h).1 < 0) : (findF L h 0).2.2 = 6 := by
  unfold fdI at hn
  split at hn
  · exact absurd hn (by show ¬ ((findF L h 0).1 : Int) < 0; omega)
  · rename_i h1
    rcases findF_err (L := L) (j := 0) (h := h) with h2 | h2
    · exact absurd h2 h1
    · rw [h2]
theorem fdI_pos {L : List Fil} {h : Int} (hn : ¬ (fdI L h).1 < 0) : (findF L h 0).2.2 = 0 := by
  unfold fdI at hn
  split at hn
  · assumption
  · exact absurd (show ((-1 : Int) < 0) by decide) hn
section
variable {w0 w : World} {M : List Nat} {As As' : List HA} {a : Option Addr} {cap : Nat}
theorem HS.files_more {l : List LFil} {f : LFil} {n : Nat} {xs : List Value} (h : HS w0 M (.own (.slice a n cap) 77 4 n xs :: .star (l.map subF) :: subF f :: As) w) (hn : n = (l ++ [f]).length) (hx : xs = (l ++ [f]).flatMap LFil.vals) : HS w0 M (.files a cap (l ++ [f]) :: As) w := by
  have h1 : HS w0 M (subF f :: .star (l.map subF) :: .own (.slice a n cap) 77 4 n xs :: As) w := h.perm ((List.Perm.swap ..).trans ((List.Perm.cons _ (List.Perm.swap ..)).trans (List.Perm.swap ..)))
  exact HS.row_shut (h1.sub_app.perm (List.Perm.swap ..)) hn hx
end
theorem app_len1 {α : Type} {l : List α} {x : α} : (l ++ [x]).length = l.length + 1 := by simp
theorem app_flat1 {α : Type} {vals : α → List Value} {l : List α} {x : α} : (l ++ [x]).flatMap vals = l.flatMap vals ++ vals x := by simp
theorem pls_app1 {l : List LFil} {x : LFil} : pls (l ++ [x]) = pls l ++ [x.pl] := by simp [pls]
theorem plo_app1 {l : List LOpn} {x : LOpn} : plo (l ++ [x]) = plo l ++ [x.pl] := by simp [plo]

set_option maxRecDepth 20000 in
theorem c68 (w : World) (next : Int) (a : Option Addr) (cap : Nat) (L : List LFil) (h : Int) (hs : Ft w [] a L) (hm : L.length ≤ 1000) (hmo : ∀ f ∈ L, f.op.length ≤ 1000) : Calls Try.prog 68 #[.agg #[.int .i64 next, .slice a L.length cap], .int .i64 h] w fun en w' => en = .returned (.int .i64 (hErr next (pls L) h)) ∧ Below w.heap.size w w' := by
  refine enter (args := [_, _]) Try.func68 Try.ntmps68 rfl rfl (HS.refl w []) ?_
  refine s_seq ?_
  refine s_region ?_
  refine o_h (h_box rfl rfl) rfl (fun b1 _ => ?_)
  refine o_p (p_pure rfl) rfl ?_
  refine o_nil ?_
  refine s_seq ?_
  refine s_seq ?_
  refine s_region ?_
  refine o_q (q_loadn rfl rfl sz_26 (by repeat (first | exact .here | apply Pick.there)) rfl) rfl ?_
  refine o_q (q_call rfl fn_31 rfl (fun w1 h1 => c31 w1 next a cap L (hs.later h1) hm hmo)) rfl ?_
  refine o_p (p_pure rfl) rfl ?_
  refine o_nil ?_
  refine s_seq ?_
  refine s_region ?_
  refine o_p (p_pure rfl) rfl ?_
  refine o_p (p_pure rfl) rfl ?_
  refine o_nil ?_
  refine s_cond rfl (fun h2 => ?_) (fun h2 => ?_)
  · try simp only [decide_eq_true_eq, decide_eq_false_iff_not, Bool.not_eq_true', Bool.not_eq_false', Bool.and_eq_true, Bool.or_eq_true, Bool.and_eq_false_iff, Bool.or_eq_false_iff, Bool.not_true, Bool.not_false] at h2
    have h0 : ¬ (chkT next (pls L)).2 = 0 := h2
    refine s_seq ?_
    refine s_region ?_
    refine o_p (p_pure rfl) rfl ?_
    refine o_p (p_pure rfl) rfl ?_
    refine o_nil ?_
    exact s_retv (rs := [.tmp 4]) rfl (.tmp rfl (.nil)) (fun w' h' => ⟨by rw [hErr, if_neg h0]; rfl, h'.below⟩)
  · try simp only [decide_eq_true_eq, decide_eq_false_iff_not, Bool.not_eq_true', Bool.not_eq_false', Bool.and_eq_true, Bool.or_eq_true, Bool.and_eq_false_iff, Bool.or_eq_false_iff, Bool.not_true, Bool.not_false] at h2
    have h0 : (chkT next (pls L)).2 = 0 := h2
    refine s_skip ?_
    refine s_seq ?_
    refine s_seq ?_
    refine s_region ?_
    refine o_q (q_loadn rfl rfl sz_26 (by repeat (first | exact .here | apply Pick.there)) rfl) rfl ?_
    refine o_p (p_pure rfl) rfl ?_
    refine o_q (q_call rfl fn_70 rfl (fun w1 h1 => c70 w1 next a cap L h (hs.later h1) hm hmo)) rfl ?_
    refine o_p (p_pure rfl) rfl ?_
    refine o_p (p_pure rfl) rfl ?_
    refine o_p (p_pure rfl) rfl ?_
    refine o_p (p_pure rfl) rfl ?_
    refine o_p (p_pure rfl) rfl ?_
    refine o_nil ?_
    refine s_seq ?_
    refine s_region ?_
    refine o_p (p_pure rfl) rfl ?_
    refine o_p (p_pure rfl) rfl ?_
    refine o_nil ?_
    refine s_cond rfl (fun h3 => ?_) (fun h3 => ?_)
    · try simp only [decide_eq_true_eq, decide_eq_false_iff_not, Bool.not_eq_true', Bool.not_eq_false', Bool.and_eq_true, Bool.or_eq_true, Bool.and_eq_false_iff, Bool.or_eq_false_iff, Bool.not_true, Bool.not_false] at h3
      refine s_seq ?_
      refine s_region ?_
      refine o_p (p_pure rfl) rfl ?_
      refine o_nil ?_
      exact s_retv (rs := [.tmp 4]) rfl (.tmp rfl (.nil)) (fun w' h' => ⟨by rw [hErr, if_pos h0, fdI_neg h3]; rfl, h'.below⟩)
    · try simp only [decide_eq_true_eq, decide_eq_false_iff_not, Bool.not_eq_true', Bool.not_eq_false', Bool.and_eq_true, Bool.or_eq_true, Bool.and_eq_false_iff, Bool.or_eq_false_iff, Bool.not_true, Bool.not_false] at h3
      refine s_skip ?_
      refine s_seq ?_
      refine s_region ?_
      refine o_p (p_pure rfl) rfl ?_
      refine o_nil ?_
      exact s_retv (rs := [.tmp 4]) rfl (.tmp rfl (.nil)) (fun w' h' => ⟨by rw [hErr, if_pos h0, fdI_pos h3]; rfl, h'.below⟩)

set_option maxRecDepth 20000 in
theorem c43 (w : World) (next : Int) (a : Option Addr) (cap : Nat) (L : List LFil) (rc sq : Int) (hs : Ft w [] a L) (hm : L.length ≤ 1000) (hmo : ∀ f ∈ L, f.op.length ≤ 1000) : Calls Try.prog 43 #[.agg #[.int .i64 next, .slice a L.length cap], .agg #[.int .i64 rc, .int .i64 sq]] w fun en w' => en = .returned (.int .i64 (fErr next (pls L) rc sq)) ∧ Below w.heap.size w w' := by
  refine enter (args := [_, _]) Try.func43 Try.ntmps43 rfl rfl (HS.refl w []) ?_
  refine s_seq ?_
  refine s_region ?_
  refine o_h (h_box rfl rfl) rfl (fun b1 _ => ?_)
  refine o_h (h_box rfl rfl) rfl (fun b2 _ => ?_)
  refine o_p (p_pure rfl) rfl ?_
  refine o_nil ?_
  refine s_seq ?_
  refine s_seq ?_
  refine s_region ?_
  refine o_q (q_loadn rfl rfl sz_26 (by repeat (first | exact .here | apply Pick.there)) rfl) rfl ?_
  refine o_q (q_call rfl fn_31 rfl (fun w1 h1 => c31 w1 next a cap L (hs.later h1) hm hmo)) rfl ?_
  refine o_p (p_pure rfl) rfl ?_
  refine o_nil ?_
  refine s_seq ?_
  refine s_region ?_
  refine o_p (p_pure rfl) rfl ?_
  refine o_p (p_pure rfl) rfl ?_
  refine o_nil ?_
  refine s_cond rfl (fun h3 => ?_) (fun h3 => ?_)
  · try simp only [decide_eq_true_eq, decide_eq_false_iff_not, Bool.not_eq_true', Bool.not_eq_false', Bool.and_eq_true, Bool.or_eq_true, Bool.and_eq_false_iff, Bool.or_eq_false_iff, Bool.not_true, Bool.not_false] at h3
    have h0 : ¬ (chkT next (pls L)).2 = 0 := h3
    refine s_seq ?_
    refine s_region ?_
    refine o_p (p_pure rfl) rfl ?_
    refine o_p (p_pure rfl) rfl ?_
    refine o_nil ?_
    exact s_retv (rs := [.tmp 4]) rfl (.tmp rfl (.nil)) (fun w' h' => ⟨by rw [fErr, if_neg h0]; rfl, h'.below⟩)
  · try simp only [decide_eq_true_eq, decide_eq_false_iff_not, Bool.not_eq_true', Bool.not_eq_false', Bool.and_eq_true, Bool.or_eq_true, Bool.and_eq_false_iff, Bool.or_eq_false_iff, Bool.not_true, Bool.not_false] at h3
    have h0 : (chkT next (pls L)).2 = 0 := h3
    refine s_skip ?_
    refine s_seq ?_
    refine s_seq ?_
    refine s_region ?_
    refine o_q (q_loadn rfl rfl sz_42 (by repeat (first | exact .here | apply Pick.there)) rfl) rfl ?_
    refine o_q (q_call rfl fn_32 rfl (fun w1 h1 => c32 w1 rc sq)) rfl ?_
    refine o_p (p_pure rfl) rfl ?_
    refine o_nil ?_
    refine s_seq ?_
    refine s_region ?_
    refine o_p (p_pure rfl) rfl ?_
    refine o_p (p_pure rfl) rfl ?_
    refine o_nil ?_
    refine s_cond rfl (fun h4 => ?_) (fun h4 => ?_)
    · try simp only [decide_eq_true_eq, decide_eq_false_iff_not, Bool.not_eq_true', Bool.not_eq_false', Bool.and_eq_true, Bool.or_eq_true, Bool.and_eq_false_iff, Bool.or_eq_false_iff, Bool.not_true, Bool.not_false] at h4
      have h01 : ¬ refE rc sq = 0 := h4
      refine s_seq ?_
      refine s_region ?_
      refine o_p (p_pure rfl) rfl ?_
      refine o_p (p_pure rfl) rfl ?_
      refine o_nil ?_
      exact s_retv (rs := [.tmp 4]) rfl (.tmp rfl (.nil)) (fun w' h' => ⟨by rw [fErr, if_pos h0, if_neg h01]; rfl, h'.below⟩)
    · try simp only [decide_eq_true_eq, decide_eq_false_iff_not, Bool.not_eq_true', Bool.not_eq_false', Bool.and_eq_true, Bool.or_eq_true, Bool.and_eq_false_iff, Bool.or_eq_false_iff, Bool.not_true, Bool.not_false] at h4
      have h01 : refE rc sq = 0 := h4
      refine s_skip ?_
      refine s_seq ?_
      refine s_seq ?_
      refine s_region ?_
      refine o_q (q_loadn rfl rfl sz_26 (by repeat (first | exact .here | apply Pick.there)) rfl) rfl ?_
      refine o_q (q_loadn rfl rfl sz_42 (by repeat (first | exact .here | apply Pick.there)) rfl) rfl ?_
      refine o_q (q_call rfl fn_33 rfl (fun w1 h1 => c33 w1 next a cap L rc sq (hs.later h1) hm hmo)) rfl ?_
      refine o_p (p_pure rfl) rfl ?_
      refine o_nil ?_
      refine s_cond rfl (fun h5 => ?_) (fun h5 => ?_)
      · try simp only [decide_eq_true_eq, decide_eq_false_iff_not, Bool.not_eq_true', Bool.not_eq_false', Bool.and_eq_true, Bool.or_eq_true, Bool.and_eq_false_iff, Bool.or_eq_false_iff, Bool.not_true, Bool.not_false] at h5
        refine s_seq ?_
        refine s_region ?_
        refine o_p (p_pure rfl) rfl ?_
        refine o_nil ?_
        exact s_retv (rs := [.tmp 4]) rfl (.tmp rfl (.nil)) (fun w' h' => ⟨by rw [fErr, if_pos h0, if_pos h01, if_pos h5]; rfl, h'.below⟩)
      · try simp only [decide_eq_true_eq, decide_eq_false_iff_not, Bool.not_eq_true', Bool.not_eq_false', Bool.and_eq_true, Bool.or_eq_true, Bool.and_eq_false_iff, Bool.or_eq_false_iff, Bool.not_true, Bool.not_false] at h5
        refine s_skip ?_
        refine s_seq ?_
        refine s_region ?_
        refine o_p (p_pure rfl) rfl ?_
        refine o_nil ?_
        exact s_retv (rs := [.tmp 4]) rfl (.tmp rfl (.nil)) (fun w' h' => ⟨by rw [fErr, if_pos h0, if_pos h01, if_neg h5]; rfl, h'.below⟩)

set_option maxRecDepth 20000 in
set_option maxHeartbeats 1000000 in
theorem c19 (w : World) (next : Int) (a : Option Addr) (cap : Nat) (L : List LFil) (hs : Ft w [] a L) (hm : L.length ≤ 1000) (hmo : ∀ f ∈ L, f.op.length ≤ 1000) (hml : ∀ f ∈ L, ∀ o ∈ f.op, o.lk.length ≤ 1000) : Calls Try.prog 19 #[.agg #[.int .i64 next, .slice a L.length cap]] w fun en w' => ∃ g : (Option Addr × Nat) × List LFil, en = .returned (.agg #[.int .i64 next, .slice g.1.1 g.2.length g.1.2]) ∧ pls g.2 = pls L ∧ HS w [] [.files g.1.1 g.1.2 g.2] w' := by
  have hpl : (pls L).length = L.length := by simp
  refine enter (args := [_]) Try.func19 Try.ntmps19 rfl rfl (HS.refl w []) ?_
  refine s_seq ?_
  refine s_region ?_
  refine o_h (h_box rfl rfl) rfl (fun b1 _ => ?_)
  refine o_h (h_alloc rfl zr_26) rfl (fun b2 _ => ?_)
  refine o_nil ?_
  refine s_seq ?_
  refine s_region ?_
  refine o_p (p_fieldAddr rfl rfl fd_26_0 sz_3 rfl) rfl ?_
  first | refine o_q (q_load rfl rfl sz_3 (by repeat (first | exact .here | apply Pick.there)) rfl) rfl ?_ | refine o_q (q_load_old rfl rfl sz_3 ((hs.1.rdj 2 hil rfl))) rfl ?_ | refine o_q (q_load_old rfl rfl sz_3 ((hs.1.rdj 3 hil rfl))) rfl ?_ | refine o_q (q_load_old rfl rfl sz_3 (rfl (Rw.rd (hs.at hil).1 hkl))) rfl ?_
  refine o_p (p_build (cs := [_, _]) rfl rfl pl_26 zr_26 rfl) rfl ?_
  refine o_h (h_alloc rfl zr_26) rfl (fun b3 _ => ?_)
  refine o_h0 (h_store rfl rfl rfl sz_26 rfl (by repeat (first | exact .here | apply Put.there)) (by simp only [setMany_length, List.length_set, List.length_cons, List.length_nil, List.length_map]; omega) rfl) (fun _ _ => ?_)
  refine o_nil ?_
  refine s_seq ?_
  refine s_seq ?_
  refine s_region ?_
  refine o_p (p_pure rfl) rfl ?_
  refine o_nil ?_
  refine s_block ?_
  refine s_loopI (α := Nat × (Option Addr × Nat) × List LFil) [4, 5, 6, 7, 11, 12, 13, 14, 15, 16, 17, 18, 19, 20, 21, 22, 23, 24, 25, 26, 27, 28, 29, 30, 31, 32, 33, 34, 35, 36, 37, 38, 39, 40, 41, 42, 43, 44, 45, 46, 47, 48, 49, 50, 51, 52, 53, 54, 55, 56, 57, 58, 59, 60, 61, 62, 63, 64, 65, 66, 67] (fun y => [(4, .int .i64 (y.1 : Int))]) (fun y => HS w [] [.blk b3 26 2 [.int .i64 next, .slice y.2.1.1 y.2.2.length y.2.1.2], .files y.2.1.1 y.2.1.2 y.2.2, .blk b1 26 2 [.int .i64 next, .slice a L.length cap], .blk b2 26 2 [.int .i64 0, .slice none 0 0]]) (fun y => y.1 ≤ L.length ∧ pls y.2.2 = (pls L).take y.1) (fun y => L.length - y.1) (0, (none, 0), []) ⟨Nat.zero_le _, rfl⟩ (by repeat (first | exact sl_n | refine sl_c rfl ?_)) (fun w h => (HS.files_none h).ent (by repeat (first | exact .nil | refine .cons (by repeat (first | exact .here | apply Pick.there)) ?_))) (fun ⟨i, x, M⟩ hy => ?_)
  dsimp only at hy ⊢
  obtain ⟨hi1, hi2⟩ := hy
  refine s_seq ?_
  refine s_seq ?_
  refine s_region ?_
  refine o_p (p_pure rfl) rfl ?_
  refine o_p (p_fieldAddr rfl rfl fd_26_1 sz_24 rfl) rfl ?_
  first | refine o_q (q_load rfl rfl sz_24 (by repeat (first | exact .here | apply Pick.there)) rfl) rfl ?_ | refine o_q (q_load_old rfl rfl sz_24 ((hs.1.rdj 2 hil rfl))) rfl ?_ | refine o_q (q_load_old rfl rfl sz_24 ((hs.1.rdj 3 hil rfl))) rfl ?_ | refine o_q (q_load_old rfl rfl sz_24 (rfl (Rw.rd (hs.at hil).1 hkl))) rfl ?_
  first | refine o_p (p_len_slice rfl rfl Try.underlying24) rfl ?_ | refine o_q (q_len_own rfl rfl Try.underlying24 (by repeat (first | exact .here | apply Pick.there))) rfl ?_
  refine o_p (p_pure rfl) rfl ?_
  refine o_nil ?_
  refine s_cond rfl (fun h4 => ?_) (fun h4 => ?_)
  · try simp only [decide_eq_true_eq, decide_eq_false_iff_not, Bool.not_eq_true', Bool.not_eq_false', Bool.and_eq_true, Bool.or_eq_true, Bool.and_eq_false_iff, Bool.or_eq_false_iff, Bool.not_true, Bool.not_false] at h4
    have hil : i < L.length := by omega
    have hoi := hmo _ (mem_nth hil)
    have hMl : M.length = i := by have h9 := congrArg List.length hi2; simp at h9; omega
    refine s_skip ?_
    refine s_seq ?_
    refine s_block ?_
    refine s_seq ?_
    refine s_draw [14] mixed ?_
    refine d_p 0 rfl (p_fieldAddr rfl rfl fd_26_1 sz_24 rfl) (by kernel_rfl) rfl rfl ?_
    first | refine d_q 1 [[]] rfl (q_load rfl rfl sz_24 (by repeat (first | exact .here | apply Pick.there)) rfl) (by kernel_rfl) (by kernel_rfl) (by kernel_rfl) rfl ?_ | refine d_q 1 [[]] rfl (q_load_old rfl rfl sz_24 ((hs.1.rdj 2 hil rfl))) (by kernel_rfl) (by kernel_rfl) (by kernel_rfl) rfl ?_ | refine d_q 1 [[]] rfl (q_load_old rfl rfl sz_24 ((hs.1.rdj 3 hil rfl))) (by kernel_rfl) (by kernel_rfl) (by kernel_rfl) rfl ?_ | refine d_q 1 [[]] rfl (q_load_old rfl rfl sz_24 (rfl (Rw.rd (hs.at hil).1 hkl))) (by kernel_rfl) (by kernel_rfl) (by kernel_rfl) rfl ?_
    refine d_p 2 rfl (p_pure rfl) (by kernel_rfl) rfl rfl ?_
    first | refine d_p 3 rfl (p_indexAddr rfl rfl rfl sl_24 (i) (by omega) (by omega) rfl) (by kernel_rfl) rfl rfl ?_ | refine d_p 3 rfl (p_indexAddr rfl rfl rfl sl_24 (i) (by omega) (by omega) (Rw.some hs.1 (by omega))) (by kernel_rfl) rfl rfl ?_ | refine d_p 3 rfl (p_indexAddr rfl rfl rfl sl_24 (i) (by omega) (by omega) (Rw.some (hs.at hil).1 (by omega))) (by kernel_rfl) rfl rfl ?_
    refine d_p 4 rfl (p_fieldAddr rfl rfl fd_77_0 sz_42 rfl) (by kernel_rfl) rfl rfl ?_
    refine d_q 5 [[]] rfl (q_load_oldn [.int .i64 (nth L i).rc, .int .i64 (nth L i).sq] rfl rfl sz_42 rfl (fun j v hv => Rw.rd hs.1 (i := i) hil j v (by rcases j with _ | _ | j <;> first | exact hv | (simp at hv)))) (by kernel_rfl) (by kernel_rfl) (by kernel_rfl) rfl ?_
    refine d_p 6 rfl (p_fieldAddr rfl rfl fd_26_1 sz_24 rfl) (by kernel_rfl) rfl rfl ?_
    first | refine d_q 7 [[]] rfl (q_load rfl rfl sz_24 (by repeat (first | exact .here | apply Pick.there)) rfl) (by kernel_rfl) (by kernel_rfl) (by kernel_rfl) rfl ?_ | refine d_q 7 [[]] rfl (q_load_old rfl rfl sz_24 ((hs.1.rdj 2 hil rfl))) (by kernel_rfl) (by kernel_rfl) (by kernel_rfl) rfl ?_ | refine d_q 7 [[]] rfl (q_load_old rfl rfl sz_24 ((hs.1.rdj 3 hil rfl))) (by kernel_rfl) (by kernel_rfl) (by kernel_rfl) rfl ?_ | refine d_q 7 [[]] rfl (q_load_old rfl rfl sz_24 (rfl (Rw.rd (hs.at hil).1 hkl))) (by kernel_rfl) (by kernel_rfl) (by kernel_rfl) rfl ?_
    refine d_p 8 rfl (p_pure rfl) (by kernel_rfl) rfl rfl ?_
    first | refine d_p 9 rfl (p_indexAddr rfl rfl rfl sl_24 (i) (by omega) (by omega) rfl) (by kernel_rfl) rfl rfl ?_ | refine d_p 9 rfl (p_indexAddr rfl rfl rfl sl_24 (i) (by omega) (by omega) (Rw.some hs.1 (by omega))) (by kernel_rfl) rfl rfl ?_ | refine d_p 9 rfl (p_indexAddr rfl rfl rfl sl_24 (i) (by omega) (by omega) (Rw.some (hs.at hil).1 (by omega))) (by kernel_rfl) rfl rfl ?_
    refine d_p 10 rfl (p_fieldAddr rfl rfl fd_77_1 sz_4 rfl) (by kernel_rfl) rfl rfl ?_
    first | refine d_q 11 [[]] rfl (q_load rfl rfl sz_4 (by repeat (first | exact .here | apply Pick.there)) rfl) (by kernel_rfl) (by kernel_rfl) (by kernel_rfl) rfl ?_ | refine d_q 11 [[]] rfl (q_load_old rfl rfl sz_4 ((hs.1.rdj 2 hil rfl))) (by kernel_rfl) (by kernel_rfl) (by kernel_rfl) rfl ?_ | refine d_q 11 [[]] rfl (q_load_old rfl rfl sz_4 ((hs.1.rdj 3 hil rfl))) (by kernel_rfl) (by kernel_rfl) (by kernel_rfl) rfl ?_ | refine d_q 11 [[]] rfl (q_load_old rfl rfl sz_4 (rfl (Rw.rd (hs.at hil).1 hkl))) (by kernel_rfl) (by kernel_rfl) (by kernel_rfl) rfl ?_
    refine d_p 12 rfl (p_build (cs := [_, _, _, _]) rfl rfl pl_77 zr_77 rfl) (by kernel_rfl) rfl rfl ?_
    refine d_h 13 rfl (h_alloc rfl zr_77) (by kernel_rfl) (fun w h => h.ent (by repeat (first | exact .nil | refine .cons (by repeat (first | exact .here | apply Pick.there)) ?_))) rfl (fun b5 _ => ?_)
    refine d_base (fun w h => h.ent (by repeat (first | exact .nil | refine .cons (by repeat (first | exact .here | apply Pick.there)) ?_))) ?_
    refine d_h0 14 rfl (h_store rfl rfl rfl sz_77 rfl (by repeat (first | exact .here | apply Put.there)) (by simp only [setMany_length, List.length_set, List.length_cons, List.length_nil, List.length_map]; omega) rfl) (by kernel_rfl) (fun w h => h.ent (by repeat (first | exact .nil | refine .cons (by repeat (first | exact .here | apply Pick.there)) ?_))) (fun _ _ => ?_)
    refine d_turn [] (by kernel_rfl) ?_
    refine d_nil (by kernel_rfl) (fun w h => h.ent (by repeat (first | exact .nil | refine .cons (by repeat (first | exact .here | apply Pick.there)) ?_))) ?_
    refine s_seq ?_
    refine s_seq ?_
    refine s_region ?_
    refine o_p (p_pure rfl) rfl ?_
    refine o_nil ?_
    refine s_block ?_
    refine s_weaken (L' := [(0, _), (1, _), (2, _), (3, _), (4, _), (5, _), (6, _), (8, _), (9, _), (10, _)]) (by repeat (first | exact sl_n | refine sl_c rfl ?_)) (fun _ h => h) ?_
    refine s_loopI (α := Nat × (Option Addr × Nat) × List LOpn) [6, 7, 31, 32, 33, 34, 35, 36, 37, 38, 39, 40, 41, 42, 43, 44, 45, 46, 47, 48, 49, 50, 51, 52, 53, 54, 55, 56, 57, 58, 59, 60, 61] (fun z => [(6, .int .i64 (z.1 : Int))]) (fun z => HS w [] [.blk b5 77 4 [.int .i64 (nth L i).rc, .int .i64 (nth L i).sq, .bool (nth L i).pd, .slice z.2.1.1 z.2.2.length z.2.1.2], .opens z.2.1.1 z.2.1.2 z.2.2, .blk b3 26 2 [.int .i64 next, .slice x.1 M.length x.2], .files x.1 x.2 M, .blk b1 26 2 [.int .i64 next, .slice a L.length cap], .blk b2 26 2 [.int .i64 0, .slice none 0 0]]) (fun z => z.1 ≤ (nth L i).op.length ∧ plo z.2.2 = (plo (nth L i).op).take z.1) (fun z => (nth L i).op.length - z.1) (0, (none, 0), []) ⟨Nat.zero_le _, rfl⟩ (by repeat (first | exact sl_n | refine sl_c rfl ?_)) (fun w h => (HS.opens_none h).ent (by repeat (first | exact .nil | refine .cons (by repeat (first | exact .here | apply Pick.there)) ?_))) (fun ⟨k, o, N⟩ hz => ?_)
    dsimp only at hz ⊢
    obtain ⟨hk1, hk2⟩ := hz
    refine s_seq ?_
    refine s_seq ?_
    refine s_region ?_
    refine o_p (p_pure rfl) rfl ?_
    refine o_p (p_fieldAddr rfl rfl fd_26_1 sz_24 rfl) rfl ?_
    first | refine o_q (q_load rfl rfl sz_24 (by repeat (first | exact .here | apply Pick.there)) rfl) rfl ?_ | refine o_q (q_load_old rfl rfl sz_24 ((hs.1.rdj 2 hil rfl))) rfl ?_ | refine o_q (q_load_old rfl rfl sz_24 ((hs.1.rdj 3 hil rfl))) rfl ?_ | refine o_q (q_load_old rfl rfl sz_24 (rfl (Rw.rd (hs.at hil).1 hkl))) rfl ?_
    refine o_p (p_pure rfl) rfl ?_
    first | refine o_p (p_indexAddr rfl rfl rfl sl_24 (i) (by omega) (by omega) rfl) rfl ?_ | refine o_p (p_indexAddr rfl rfl rfl sl_24 (i) (by omega) (by omega) (Rw.some hs.1 (by omega))) rfl ?_ | refine o_p (p_indexAddr rfl rfl rfl sl_24 (i) (by omega) (by omega) (Rw.some (hs.at hil).1 (by omega))) rfl ?_
    refine o_p (p_fieldAddr rfl rfl fd_77_2 sz_75 rfl) rfl ?_
    first | refine o_q (q_load rfl rfl sz_75 (by repeat (first | exact .here | apply Pick.there)) rfl) rfl ?_ | refine o_q (q_load_old rfl rfl sz_75 ((hs.1.rdj 2 hil rfl))) rfl ?_ | refine o_q (q_load_old rfl rfl sz_75 ((hs.1.rdj 3 hil rfl))) rfl ?_ | refine o_q (q_load_old rfl rfl sz_75 (rfl (Rw.rd (hs.at hil).1 hkl))) rfl ?_
    first | refine o_p (p_len_slice rfl rfl Try.underlying75) rfl ?_ | refine o_q (q_len_own rfl rfl Try.underlying75 (by repeat (first | exact .here | apply Pick.there))) rfl ?_
    refine o_p (p_pure rfl) rfl ?_
    refine o_nil ?_
    refine s_cond rfl (fun h6 => ?_) (fun h6 => ?_)
    · try simp only [decide_eq_true_eq, decide_eq_false_iff_not, Bool.not_eq_true', Bool.not_eq_false', Bool.and_eq_true, Bool.or_eq_true, Bool.and_eq_false_iff, Bool.or_eq_false_iff, Bool.not_true, Bool.not_false] at h6
      have hkl : k < (nth L i).op.length := by omega
      have hki := hml _ (mem_nth hil) _ (mem_nth hkl)
      have hNl : N.length = k := by have h9 := congrArg List.length hk2; simp at h9; omega
      refine s_skip ?_
      refine s_seq ?_
      refine s_block ?_
      refine s_seq ?_
      refine s_region ?_
      refine o_p (p_fieldAddr rfl rfl fd_26_1 sz_24 rfl) rfl ?_
      first | refine o_q (q_load rfl rfl sz_24 (by repeat (first | exact .here | apply Pick.there)) rfl) rfl ?_ | refine o_q (q_load_old rfl rfl sz_24 ((hs.1.rdj 2 hil rfl))) rfl ?_ | refine o_q (q_load_old rfl rfl sz_24 ((hs.1.rdj 3 hil rfl))) rfl ?_ | refine o_q (q_load_old rfl rfl sz_24 (rfl (Rw.rd (hs.at hil).1 hkl))) rfl ?_
      refine o_p (p_pure rfl) rfl ?_
      first | refine o_p (p_indexAddr rfl rfl rfl sl_24 (i) (by omega) (by omega) rfl) rfl ?_ | refine o_p (p_indexAddr rfl rfl rfl sl_24 (i) (by omega) (by omega) (Rw.some hs.1 (by omega))) rfl ?_ | refine o_p (p_indexAddr rfl rfl rfl sl_24 (i) (by omega) (by omega) (Rw.some (hs.at hil).1 (by omega))) rfl ?_
      refine o_p (p_fieldAddr rfl rfl fd_77_2 sz_75 rfl) rfl ?_
      first | refine o_q (q_load rfl rfl sz_75 (by repeat (first | exact .here | apply Pick.there)) rfl) rfl ?_ | refine o_q (q_load_old rfl rfl sz_75 ((hs.1.rdj 2 hil rfl))) rfl ?_ | refine o_q (q_load_old rfl rfl sz_75 ((hs.1.rdj 3 hil rfl))) rfl ?_ | refine o_q (q_load_old rfl rfl sz_75 (rfl (Rw.rd (hs.at hil).1 hkl))) rfl ?_
      refine o_p (p_pure rfl) rfl ?_
      first | refine o_p (p_indexAddr rfl rfl rfl sl_75 (k) (by omega) (by omega) rfl) rfl ?_ | refine o_p (p_indexAddr rfl rfl rfl sl_75 (k) (by omega) (by omega) (Rw.some hs.1 (by omega))) rfl ?_ | refine o_p (p_indexAddr rfl rfl rfl sl_75 (k) (by omega) (by omega) (Rw.some (hs.at hil).1 (by omega))) rfl ?_
      first | refine o_q (q_loadn rfl rfl sz_48 (by repeat (first | exact .here | apply Pick.there)) rfl) rfl ?_ | refine o_q (q_load_oldn _ rfl rfl sz_48 (hs.1.rdj 2 hil rfl)) rfl ?_ | refine o_q (q_load_oldn _ rfl rfl sz_48 (hs.1.rdj 3 hil rfl)) rfl ?_ | refine o_q (q_load_oldn _ rfl rfl sz_48 rfl (Rw.rd (hs.at hil).1 hkl)) rfl ?_
      refine o_h (h_alloc rfl zr_48) rfl (fun b7 _ => ?_)
      refine o_h0 (h_store rfl rfl rfl sz_48 rfl (by repeat (first | exact .here | apply Put.there)) (by simp only [setMany_length, List.length_set, List.length_cons, List.length_nil, List.length_map]; omega) rfl) (fun _ _ => ?_)
      refine o_nil ?_
      refine s_seq ?_
      refine s_region ?_
      refine o_h (h_buildSlice0 rfl sl_46) rfl (fun b8 _ => ?_)
      refine o_p (p_fieldAddr rfl rfl fd_48_4 sz_46 rfl) rfl ?_
      first | refine o_q (q_load rfl rfl sz_46 (by repeat (first | exact .here | apply Pick.there)) rfl) rfl ?_ | refine o_q (q_load_old rfl rfl sz_46 ((hs.1.rdj 2 hil rfl))) rfl ?_ | refine o_q (q_load_old rfl rfl sz_46 ((hs.1.rdj 3 hil rfl))) rfl ?_ | refine o_q (q_load_old rfl rfl sz_46 (rfl (Rw.rd (hs.at hil).1 hkl))) rfl ?_
      refine o_h (h_appendS (n := 0) ((nth (nth L i).op k).lk.flatMap Lock.vals) rfl rfl rfl sl_46 Try.underlying46 zr_62 rfl (by repeat (first | exact .here | apply Pick.there)) (fun w h => Rw.src lv3 ((hs.at hil).at hkl) h) (flat_length lv3 _) (flat_one lv1 _) (by omega) (by simp only [maxLen]; omega)) rfl (fun b9 _ => ?_)
      simp only [Nat.zero_add, List.nil_append]
      refine o_p (p_fieldAddr rfl rfl fd_48_4 sz_46 rfl) rfl ?_
      refine o_h0 (h_store rfl rfl rfl sz_46 rfl (by repeat (first | exact .here | apply Put.there)) (by simp only [setMany_length, List.length_set, List.length_cons, List.length_nil, List.length_map]; omega) rfl) (fun _ _ => ?_)
      refine o_nil ?_
      refine s_weaken (L' := [(0, _), (1, _), (2, _), (3, _), (4, _), (5, _), (6, _), (7, _), (8, _), (9, _), (10, _)]) (by repeat (first | exact sl_n | refine sl_c rfl ?_)) (fun _ h => h) ?_
      refine s_region ?_
      refine o_p (p_fieldAddr rfl rfl fd_77_2 sz_75 rfl) rfl ?_
      first | refine o_q (q_load rfl rfl sz_75 (by repeat (first | exact .here | apply Pick.there)) rfl) rfl ?_ | refine o_q (q_load_old rfl rfl sz_75 ((hs.1.rdj 2 hil rfl))) rfl ?_ | refine o_q (q_load_old rfl rfl sz_75 ((hs.1.rdj 3 hil rfl))) rfl ?_ | refine o_q (q_load_old rfl rfl sz_75 (rfl (Rw.rd (hs.at hil).1 hkl))) rfl ?_
      refine o_class (fun w h => HS.opens_split (a := o.1) (cap := o.2) (l := N) h (by repeat (first | exact .here | apply Pick.there))) ?_
      first | refine o_q (q_loadn rfl rfl sz_48 (by repeat (first | exact .here | apply Pick.there)) rfl) rfl ?_ | refine o_q (q_load_oldn _ rfl rfl sz_48 (hs.1.rdj 2 hil rfl)) rfl ?_ | refine o_q (q_load_oldn _ rfl rfl sz_48 (hs.1.rdj 3 hil rfl)) rfl ?_ | refine o_q (q_load_oldn _ rfl rfl sz_48 rfl (Rw.rd (hs.at hil).1 hkl)) rfl ?_
      refine o_h (h_buildSlice (cs := [_, _, _, _, _]) rfl rfl sl_75 zr_48 rfl rfl rfl) rfl (fun b10 _ => ?_)
      refine o_h (h_appendS (n := N.length) ({ (nth (nth L i).op k) with la := b9.1, lc := b9.2 } : LOpn).vals rfl rfl rfl sl_75 Try.underlying75 zr_48 rfl (by repeat (first | exact .here | apply Pick.there)) (src_blk (by repeat (first | exact .here | apply Pick.there))) rfl (ov1 ({ (nth (nth L i).op k) with la := b9.1, lc := b9.2 } : LOpn)) (by omega) (by simp only [maxLen]; omega)) rfl (fun b11 _ => ?_)
      refine o_p (p_fieldAddr rfl rfl fd_77_2 sz_75 rfl) rfl ?_
      refine o_h0 (h_store rfl rfl rfl sz_75 rfl (by repeat (first | exact .here | apply Put.there)) (by simp only [setMany_length, List.length_set, List.length_cons, List.length_nil, List.length_map]; omega) rfl) (fun _ _ => ?_)
      refine o_nil ?_
      refine s_blk ?_
      refine s_region ?_
      refine o_p (p_pure rfl) rfl ?_
      refine o_p (p_pure rfl) rfl ?_
      try (refine o_slot (i64w (by omega) (by omega)) ?_)
      refine o_p (p_pure rfl) rfl ?_
      refine o_nil ?_
      exact s_backI (k + 1, b11, N ++ [({ (nth (nth L i).op k) with la := b9.1, lc := b9.2 } : LOpn)]) (by show (nth L i).op.length - (k + 1) < (nth L i).op.length - k; omega) ⟨by show k + 1 ≤ (nth L i).op.length; omega, by show plo (N ++ [({ (nth (nth L i).op k) with la := b9.1, lc := b9.2 } : LOpn)]) = (plo (nth L i).op).take (k + 1); rw [plo_app1, hk2, take_succ_nth (by simpa using hkl), nth_plo hkl]; rfl⟩ (by repeat (first | exact sl_n | refine sl_c rfl ?_)) (fun w h => by have h2 := HS.opens_more (o := ({ (nth (nth L i).op k) with la := b9.1, lc := b9.2 } : LOpn)) (l := N) (h.ent (Bs := [.own (.slice b11.1 (N.length + 1) b11.2) 48 5 (N.length + 1) _, .star (N.map subO), subO ({ (nth (nth L i).op k) with la := b9.1, lc := b9.2 } : LOpn), .blk b5 77 4 [.int .i64 (nth L i).rc, .int .i64 (nth L i).sq, .bool (nth L i).pd, .slice b11.1 (N.length + 1) b11.2], .blk b3 26 2 [.int .i64 next, .slice x.1 M.length x.2], .files x.1 x.2 M, .blk b1 26 2 [.int .i64 next, .slice a L.length cap], .blk b2 26 2 [.int .i64 0, .slice none 0 0]]) (by repeat (first | exact .nil | refine .cons (by repeat (first | exact .here | apply Pick.there)) ?_))) app_len1.symm app_flat1.symm; dsimp only; rw [app_len1]; exact h2.ent (by repeat (first | exact .nil | refine .cons (by repeat (first | exact .here | apply Pick.there)) ?_)))
    · try simp only [decide_eq_true_eq, decide_eq_false_iff_not, Bool.not_eq_true', Bool.not_eq_false', Bool.and_eq_true, Bool.or_eq_true, Bool.and_eq_false_iff, Bool.or_eq_false_iff, Bool.not_true, Bool.not_false] at h6
      refine s_exit_to rfl ?_
      refine s_region ?_
      refine o_p (p_fieldAddr rfl rfl fd_26_1 sz_24 rfl) rfl ?_
      first | refine o_q (q_load rfl rfl sz_24 (by repeat (first | exact .here | apply Pick.there)) rfl) rfl ?_ | refine o_q (q_load_old rfl rfl sz_24 ((hs.1.rdj 2 hil rfl))) rfl ?_ | refine o_q (q_load_old rfl rfl sz_24 ((hs.1.rdj 3 hil rfl))) rfl ?_ | refine o_q (q_load_old rfl rfl sz_24 (rfl (Rw.rd (hs.at hil).1 hkl))) rfl ?_
      refine o_class (fun w h => HS.files_open (a := x.1) (cap := x.2) (l := M) h (by repeat (first | exact .here | apply Pick.there))) ?_
      first | refine o_q (q_loadn rfl rfl sz_77 (by repeat (first | exact .here | apply Pick.there)) rfl) rfl ?_ | refine o_q (q_load_oldn _ rfl rfl sz_77 (hs.1.rdj 2 hil rfl)) rfl ?_ | refine o_q (q_load_oldn _ rfl rfl sz_77 (hs.1.rdj 3 hil rfl)) rfl ?_ | refine o_q (q_load_oldn _ rfl rfl sz_77 rfl (Rw.rd (hs.at hil).1 hkl)) rfl ?_
      refine o_h (h_buildSlice (cs := [_, _, _, _]) rfl rfl sl_24 zr_77 rfl rfl rfl) rfl (fun b12 _ => ?_)
      refine o_h (h_appendS (n := M.length) ({ nth L i with oa := o.1, oc := o.2, op := N } : LFil).vals rfl rfl rfl sl_24 Try.underlying24 zr_77 rfl (by repeat (first | exact .here | apply Pick.there)) (src_blk (by repeat (first | exact .here | apply Pick.there))) rfl (fv1 ({ nth L i with oa := o.1, oc := o.2, op := N } : LFil)) (by omega) (by simp only [maxLen]; omega)) rfl (fun b13 _ => ?_)
      refine o_p (p_fieldAddr rfl rfl fd_26_1 sz_24 rfl) rfl ?_
      refine o_h0 (h_store rfl rfl rfl sz_24 rfl (by repeat (first | exact .here | apply Put.there)) (by simp only [setMany_length, List.length_set, List.length_cons, List.length_nil, List.length_map]; omega) rfl) (fun _ _ => ?_)
      refine o_nil ?_
      refine s_blk ?_
      refine s_region ?_
      refine o_p (p_pure rfl) rfl ?_
      refine o_p (p_pure rfl) rfl ?_
      try (refine o_slot (i64w (by omega) (by omega)) ?_)
      refine o_p (p_pure rfl) rfl ?_
      refine o_nil ?_
      exact s_backI (i + 1, b13, M ++ [({ nth L i with oa := o.1, oc := o.2, op := N } : LFil)]) (by show L.length - (i + 1) < L.length - i; omega) ⟨by show i + 1 ≤ L.length; omega, by show pls (M ++ [({ nth L i with oa := o.1, oc := o.2, op := N } : LFil)]) = (pls L).take (i + 1); rw [pls_app1, hi2, take_succ_nth (by omega), nth_pls hil]; have e8 : k = (nth L i).op.length := (by omega); rw [e8, List.take_of_length_le (by simp)] at hk2; simp only [LFil.pl]; rw [show List.map LOpn.pl N = List.map LOpn.pl (nth L i).op from hk2]⟩ (by repeat (first | exact sl_n | refine sl_c rfl ?_)) (fun w h => by have h2 := HS.files_more (f := ({ nth L i with oa := o.1, oc := o.2, op := N } : LFil)) (l := M) (h.ent (Bs := [.own (.slice b13.1 (M.length + 1) b13.2) 77 4 (M.length + 1) _, .star (M.map subF), subF ({ nth L i with oa := o.1, oc := o.2, op := N } : LFil), .blk b3 26 2 [.int .i64 next, .slice b13.1 (M.length + 1) b13.2], .blk b1 26 2 [.int .i64 next, .slice a L.length cap], .blk b2 26 2 [.int .i64 0, .slice none 0 0]]) (by repeat (first | exact .nil | refine .cons (by repeat (first | exact .here | apply Pick.there)) ?_))) app_len1.symm app_flat1.symm; dsimp only; rw [app_len1]; exact h2.ent (by repeat (first | exact .nil | refine .cons (by repeat (first | exact .here | apply Pick.there)) ?_)))
  · try simp only [decide_eq_true_eq, decide_eq_false_iff_not, Bool.not_eq_true', Bool.not_eq_false', Bool.and_eq_true, Bool.or_eq_true, Bool.and_eq_false_iff, Bool.or_eq_false_iff, Bool.not_true, Bool.not_false] at h4
    refine s_exit_to rfl ?_
    refine s_seq ?_
    refine s_region ?_
    first | refine o_q (q_loadn rfl rfl sz_26 (by repeat (first | exact .here | apply Pick.there)) rfl) rfl ?_ | refine o_q (q_load_oldn _ rfl rfl sz_26 (hs.1.rdj 2 hil rfl)) rfl ?_ | refine o_q (q_load_oldn _ rfl rfl sz_26 (hs.1.rdj 3 hil rfl)) rfl ?_ | refine o_q (q_load_oldn _ rfl rfl sz_26 rfl (Rw.rd (hs.at hil).1 hkl)) rfl ?_
    refine o_h0 (h_store rfl rfl rfl sz_26 rfl (by repeat (first | exact .here | apply Put.there)) (by simp only [setMany_length, List.length_set, List.length_cons, List.length_nil, List.length_map]; omega) rfl) (fun _ _ => ?_)
    refine o_nil ?_
    exact s_retv (rs := [.cell 2 26]) rfl (.cell rfl sz_26 (by repeat (first | exact .here | apply Pick.there)) rfl (.nil)) (fun w' h' => ⟨(x, M), rfl, by show pls M = pls L; rw [hi2, List.take_of_length_le (by omega)], h'.ent (by repeat (first | exact .nil | refine .cons (by repeat (first | exact .here | apply Pick.there)) ?_))⟩)

end Go.Proofs
