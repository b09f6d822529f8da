/- Contracts of the program's functions, proved by walking them with the rules of the Gx texts; without conditions beyond those that each contract names. -/
import Derived.WalkKit
import Derived.Deep.Draws
import Derived.Lib.Strings
import Derived.Laws.BytesArg
import Derived.Laws.IdiomStrings
import Derived.Deep.Quiet
import Derived.Laws.StructEq
import Derived.ChangeKeysEq
import Derived.Laws.Externs
import Derived.Lib.Overlaps
import Derived.Carry
import Derived.Test.YtgdigngojonbhaaProg
import Derived.KernelRfl
import Derived.Laws.Small
import Derived.ProofKit
import Derived.OpenShut
import Derived.Test.YtgdigngojonbhaaP3
namespace Go.Proofs
open Go Go.RowKit Gx
set_option linter.unusedVariables false
set_option linter.unusedSimpArgs false
attribute [local irreducible] Go.Calls Gx.S Gx.O Gx.D Gx.OpP Gx.OpQ Gx.OpH

theorem fn_31 : isFn Try.prog 31 = true := by kernel_rfl
theorem fn_70 : isFn Try.prog 70 = true := by kernel_rfl
def hErr (next : Int) (L : List Fil) (h : Int) : Int := if (chkT next L).2 = 0 then (findF L h 0).2.2 else (chkT next L).2
def fErr (next : Int) (L : List Fil) (rc sq : Int) : Int := if (chkT next L).2 = 0 then if refE rc sq = 0 then if ixI (atB L rc sq) < 0 then 6 else 0 else refE rc sq else (chkT next L).2
theorem fdI_neg {L : List Fil} {h : Int} (hn : (fdI L h).1 < 0) : (findF L h 0).2.2 = 6 := by
  unfold fdI at hn
  split at hn
  · exact absurd hn (by show ¬ ((findF L h 0).1 : Int) < 0; omega)
  · rename_i h1
    rcases findF_err (L := L) (j := 0) (h := h) with h2 | h2
    · exact absurd h2 h1
    · rw [h2]
theorem fdI_pos {L : List Fil} {h : Int} (hn : ¬ (fdI L h).1 < 0) : (findF L h 0).2.2 = 0 := by
  unfold fdI at hn
  split at hn
  · assumption
  · exact absurd (show ((-1 : Int) < 0) by decide) hn
section
variable {w0 w : World} {M : List Nat} {As As' : List HA} {a : Option Addr} {cap : Nat}
theorem HS.files_more {l : List LFil} {f : LFil} {n : Nat} {xs : List Value} (h : HS w0 M (.own (.slice a n cap) 77 4 n xs :: .star (l.map subF) :: subF f :: As) w) (hn : n = (l ++ [f]).length) (hx : xs = (l ++ [f]).flatMap LFil.vals) : HS w0 M (.files a cap (l ++ [f]) :: As) w := by
  have h1 : HS w0 M (subF f :: .star (l.map subF) :: .own (.slice a n cap) 77 4 n xs :: As) w := h.perm ((List.Perm.swap ..).trans ((List.Perm.cons _ (List.Perm.swap ..)).trans (List.Perm.swap ..)))
  exact HS.row_shut (h1.sub_app.perm (List.Perm.swap ..)) hn hx
end
theorem app_len1 {α : Type} {l : List α} {x : α} : (l ++ [x]).length = l.length + 1 := by simp
theorem app_flat1 {α : Type} {vals : α → List Value} {l : List α} {x : α} : (l ++ [x]).flatMap vals = l.flatMap vals ++ vals x := by simp
theorem pls_app1 {l : List LFil} {x : LFil} : pls (l ++ [x]) = pls l ++ [x.pl] := by simp [pls]
theorem plo_app1 {l : List LOpn} {x : LOpn} : plo (l ++ [x]) = plo l ++ [x.pl] := by simp [plo]

set_option maxRecDepth 20000 in
theorem c68 (w : World) (next : Int) (a : Option Addr) (cap : Nat) (L : List LFil) (h : Int) (hs : Ft w [] a L) (hm : L.length ≤ 1000) (hmo : ∀ f ∈ L, f.op.length ≤ 1000) : Calls Try.prog 68 #[.agg #[.int .i64 next, .slice a L.length cap], .int .i64 h] w fun en w' => en = .returned (.int .i64 (hErr next (pls L) h)) ∧ Below w.heap.size w w' := by
  refine enter (args := [_, _]) Try.func68 Try.ntmps68 rfl rfl (HS.refl w []) ?_
  refine s_seq ?_
  refine s_region ?_
  refine o_h (h_box rfl rfl) rfl (fun b1 _ => ?_)
  refine o_p (p_pure rfl) rfl ?_
  refine o_nil ?_
  refine s_seq ?_
  refine s_seq ?_
  refine s_region ?_
  refine o_q (q_loadn rfl rfl sz_26 (by repeat (first | exact .here | apply Pick.there)) rfl) rfl ?_
  refine o_q (q_call rfl fn_31 rfl (fun w1 h1 => c31 w1 next a cap L (hs.later h1) hm hmo)) rfl ?_
  refine o_p (p_pure rfl) rfl ?_
  refine o_nil ?_
  refine s_seq ?_
  refine s_region ?_
  refine o_p (p_pure rfl) rfl ?_
  refine o_p (p_pure rfl) rfl ?_
  refine o_nil ?_
  refine s_cond rfl (fun h2 => ?_) (fun h2 => ?_)
  · try simp only [decide_eq_true_eq, decide_eq_false_iff_not, Bool.not_eq_true', Bool.not_eq_false', Bool.and_eq_true, Bool.or_eq_true, Bool.and_eq_false_iff, Bool.or_eq_false_iff, Bool.not_true, Bool.not_false] at h2
    have h0 : ¬ (chkT next (pls L)).2 = 0 := h2
    refine s_seq ?_
    refine s_region ?_
    refine o_p (p_pure rfl) rfl ?_
    refine o_p (p_pure rfl) rfl ?_
    refine o_nil ?_
    exact s_retv (rs := [.tmp 4]) rfl (.tmp rfl (.nil)) (fun w' h' => ⟨by rw [hErr, if_neg h0]; rfl, h'.below⟩)
  · try simp only [decide_eq_true_eq, decide_eq_false_iff_not, Bool.not_eq_true', Bool.not_eq_false', Bool.and_eq_true, Bool.or_eq_true, Bool.and_eq_false_iff, Bool.or_eq_false_iff, Bool.not_true, Bool.not_false] at h2
    have h0 : (chkT next (pls L)).2 = 0 := h2
    refine s_skip ?_
    refine s_seq ?_
    refine s_seq ?_
    refine s_region ?_
    refine o_q (q_loadn rfl rfl sz_26 (by repeat (first | exact .here | apply Pick.there)) rfl) rfl ?_
    refine o_p (p_pure rfl) rfl ?_
    refine o_q (q_call rfl fn_70 rfl (fun w1 h1 => c70 w1 next a cap L h (hs.later h1) hm hmo)) rfl ?_
    refine o_p (p_pure rfl) rfl ?_
    refine o_p (p_pure rfl) rfl ?_
    refine o_p (p_pure rfl) rfl ?_
    refine o_p (p_pure rfl) rfl ?_
    refine o_p (p_pure rfl) rfl ?_
    refine o_nil ?_
    refine s_seq ?_
    refine s_region ?_
    refine o_p (p_pure rfl) rfl ?_
    refine o_p (p_pure rfl) rfl ?_
    refine o_nil ?_
    refine s_cond rfl (fun h3 => ?_) (fun h3 => ?_)
    · try simp only [decide_eq_true_eq, decide_eq_false_iff_not, Bool.not_eq_true', Bool.not_eq_false', Bool.and_eq_true, Bool.or_eq_true, Bool.and_eq_false_iff, Bool.or_eq_false_iff, Bool.not_true, Bool.not_false] at h3
      refine s_seq ?_
      refine s_region ?_
      refine o_p (p_pure rfl) rfl ?_
      refine o_nil ?_
      exact s_retv (rs := [.tmp 4]) rfl (.tmp rfl (.nil)) (fun w' h' => ⟨by rw [hErr, if_pos h0, fdI_neg h3]; rfl, h'.below⟩)
    · try simp only [decide_eq_true_eq, decide_eq_false_iff_not, Bool.not_eq_true', Bool.not_eq_false', Bool.and_eq_true, Bool.or_eq_true, Bool.and_eq_false_iff, Bool.or_eq_false_iff, Bool.not_true, Bool.not_false] at h3
      refine s_skip ?_
      refine s_seq ?_
      refine s_region ?_
      refine o_p (p_pure rfl) rfl ?_
      refine o_nil ?_
      exact s_retv (rs := [.tmp 4]) rfl (.tmp rfl (.nil)) (fun w' h' => ⟨by rw [hErr, if_pos h0, fdI_pos h3]; rfl, h'.below⟩)

set_option maxRecDepth 20000 in
set_option maxHeartbeats 1000000 in
theorem c19 (w : World) (next : Int) (a : Option Addr) (cap : Nat) (L : List LFil) (hs : Ft w [] a L) (hm : L.length ≤ 1000) (hmo : ∀ f ∈ L, f.op.length ≤ 1000) (hml : ∀ f ∈ L, ∀ o ∈ f.op, o.lk.length ≤ 1000) : Calls Try.prog 19 #[.agg #[.int .i64 next, .slice a L.length cap]] w fun en w' => ∃ g : (Option Addr × Nat) × List LFil, en = .returned (.agg #[.int .i64 next, .slice g.1.1 g.2.length g.1.2]) ∧ pls g.2 = pls L ∧ HS w [] [.files g.1.1 g.1.2 g.2] w' := by
  have hpl : (pls L).length = L.length := by simp
  refine enter (args := [_]) Try.func19 Try.ntmps19 rfl rfl (HS.refl w []) ?_
  refine s_seq ?_
  refine s_region ?_
  refine o_h (h_box rfl rfl) rfl (fun b1 _ => ?_)
  refine o_h (h_alloc rfl zr_26) rfl (fun b2 _ => ?_)
  refine o_nil ?_
  refine s_seq ?_
  refine s_region ?_
  refine o_p (p_fieldAddr rfl rfl fd_26_0 sz_3 rfl) rfl ?_
  first | refine o_q (q_load rfl rfl sz_3 (by repeat (first | exact .here | apply Pick.there)) rfl) rfl ?_ | refine o_q (q_load_old rfl rfl sz_3 ((hs.1.rdj 2 hil rfl))) rfl ?_ | refine o_q (q_load_old rfl rfl sz_3 ((hs.1.rdj 3 hil rfl))) rfl ?_ | refine o_q (q_load_old rfl rfl sz_3 (rfl (Rw.rd (hs.at hil).1 hkl))) rfl ?_
  refine o_p (p_build (cs := [_, _]) rfl rfl pl_26 zr_26 rfl) rfl ?_
  refine o_h (h_alloc rfl zr_26) rfl (fun b3 _ => ?_)
  refine o_h0 (h_store rfl rfl rfl sz_26 rfl (by repeat (first | exact .here | apply Put.there)) (by simp only [setMany_length, List.length_set, List.length_cons, List.length_nil, List.length_map]; omega) rfl) (fun _ _ => ?_)
  refine o_nil ?_
  refine s_seq ?_
  refine s_seq ?_
  refine s_region ?_
  refine o_p (p_pure rfl) rfl ?_
  refine o_nil ?_
  refine s_block ?_
  refine s_loopI (α := Nat × (Option Addr × Nat) × List LFil) [4, 5, 6, 7, 11, 12, 13, 14, 15, 16, 17, 18, 19, 20, 21, 22, 23, 24, 25, 26, 27, 28, 29, 30, 31, 32, 33, 34, 35, 36, 37, 38, 39, 40, 41, 42, 43, 44, 45, 46, 47, 48, 49, 50, 51, 52, 53, 54, 55, 56, 57, 58, 59, 60, 61, 62, 63, 64, 65, 66, 67] (fun y => [(4, .int .i64 (y.1 : Int))]) (fun y => HS w [] [.blk b3 26 2 [.int .i64 next, .slice y.2.1.1 y.2.2.length y.2.1.2], .files y.2.1.1 y.2.1.2 y.2.2, .blk b1 26 2 [.int .i64 next, .slice a L.length cap], .blk b2 26 2 [.int .i64 0, .slice none 0 0]]) (fun y => y.1 ≤ L.length ∧ pls y.2.2 = (pls L).take y.1) (fun y => L.length - y.1) (0, (none, 0), []) ⟨Nat.zero_le _, rfl⟩ (by repeat (first | exact sl_n | refine sl_c rfl ?_)) (fun w h => (HS.files_none h).ent (by repeat (first | exact .nil | refine .cons (by repeat (first | exact .here | apply Pick.there)) ?_))) (fun ⟨i, x, M⟩ hy => ?_)
  dsimp only at hy ⊢
  obtain ⟨hi1, hi2⟩ := hy
  refine s_seq ?_
  refine s_seq ?_
  refine s_region ?_
  refine o_p (p_pure rfl) rfl ?_
  refine o_p (p_fieldAddr rfl rfl fd_26_1 sz_24 rfl) rfl ?_
  first | refine o_q (q_load rfl rfl sz_24 (by repeat (first | exact .here | apply Pick.there)) rfl) rfl ?_ | refine o_q (q_load_old rfl rfl sz_24 ((hs.1.rdj 2 hil rfl))) rfl ?_ | refine o_q (q_load_old rfl rfl sz_24 ((hs.1.rdj 3 hil rfl))) rfl ?_ | refine o_q (q_load_old rfl rfl sz_24 (rfl (Rw.rd (hs.at hil).1 hkl))) rfl ?_
  first | refine o_p (p_len_slice rfl rfl Try.underlying24) rfl ?_ | refine o_q (q_len_own rfl rfl Try.underlying24 (by repeat (first | exact .here | apply Pick.there))) rfl ?_
  refine o_p (p_pure rfl) rfl ?_
  refine o_nil ?_
  refine s_cond rfl (fun h4 => ?_) (fun h4 => ?_)
  · try simp only [decide_eq_true_eq, decide_eq_false_iff_not, Bool.not_eq_true', Bool.not_eq_false', Bool.and_eq_true, Bool.or_eq_true, Bool.and_eq_false_iff, Bool.or_eq_false_iff, Bool.not_true, Bool.not_false] at h4
    have hil : i < L.length := by omega
    have hoi := hmo _ (mem_nth hil)
    have hMl : M.length = i := by have h9 := congrArg List.length hi2; simp at h9; omega
    refine s_skip ?_
    refine s_seq ?_
    refine s_block ?_
    refine s_seq ?_
    refine s_draw [14] mixed ?_
    refine d_p 0 rfl (p_fieldAddr rfl rfl fd_26_1 sz_24 rfl) (by kernel_rfl) rfl rfl ?_
    first | refine d_q 1 [[]] rfl (q_load rfl rfl sz_24 (by repeat (first | exact .here | apply Pick.there)) rfl) (by kernel_rfl) (by kernel_rfl) (by kernel_rfl) rfl ?_ | refine d_q 1 [[]] rfl (q_load_old rfl rfl sz_24 ((hs.1.rdj 2 hil rfl))) (by kernel_rfl) (by kernel_rfl) (by kernel_rfl) rfl ?_ | refine d_q 1 [[]] rfl (q_load_old rfl rfl sz_24 ((hs.1.rdj 3 hil rfl))) (by kernel_rfl) (by kernel_rfl) (by kernel_rfl) rfl ?_ | refine d_q 1 [[]] rfl (q_load_old rfl rfl sz_24 (rfl (Rw.rd (hs.at hil).1 hkl))) (by kernel_rfl) (by kernel_rfl) (by kernel_rfl) rfl ?_
    refine d_p 2 rfl (p_pure rfl) (by kernel_rfl) rfl rfl ?_
    first | refine d_p 3 rfl (p_indexAddr rfl rfl rfl sl_24 (i) (by omega) (by omega) rfl) (by kernel_rfl) rfl rfl ?_ | refine d_p 3 rfl (p_indexAddr rfl rfl rfl sl_24 (i) (by omega) (by omega) (Rw.some hs.1 (by omega))) (by kernel_rfl) rfl rfl ?_ | refine d_p 3 rfl (p_indexAddr rfl rfl rfl sl_24 (i) (by omega) (by omega) (Rw.some (hs.at hil).1 (by omega))) (by kernel_rfl) rfl rfl ?_
    refine d_p 4 rfl (p_fieldAddr rfl rfl fd_77_0 sz_42 rfl) (by kernel_rfl) rfl rfl ?_
    refine d_q 5 [[]] rfl (q_load_oldn [.int .i64 (nth L i).rc, .int .i64 (nth L i).sq] rfl rfl sz_42 rfl (fun j v hv => Rw.rd hs.1 (i := i) hil j v (by rcases j with _ | _ | j <;> first | exact hv | (simp at hv)))) (by kernel_rfl) (by kernel_rfl) (by kernel_rfl) rfl ?_
    refine d_p 6 rfl (p_fieldAddr rfl rfl fd_26_1 sz_24 rfl) (by kernel_rfl) rfl rfl ?_
    first | refine d_q 7 [[]] rfl (q_load rfl rfl sz_24 (by repeat (first | exact .here | apply Pick.there)) rfl) (by kernel_rfl) (by kernel_rfl) (by kernel_rfl) rfl ?_ | refine d_q 7 [[]] rfl (q_load_old rfl rfl sz_24 ((hs.1.rdj 2 hil rfl))) (by kernel_rfl) (by kernel_rfl) (by kernel_rfl) rfl ?_ | refine d_q 7 [[]] rfl (q_load_old rfl rfl sz_24 ((hs.1.rdj 3 hil rfl))) (by kernel_rfl) (by kernel_rfl) (by kernel_rfl) rfl ?_ | refine d_q 7 [[]] rfl (q_load_old rfl rfl sz_24 (rfl (Rw.rd (hs.at hil).1 hkl))) (by kernel_rfl) (by kernel_rfl) (by kernel_rfl) rfl ?_
    refine d_p 8 rfl (p_pure rfl) (by kernel_rfl) rfl rfl ?_
    first | refine d_p 9 rfl (p_indexAddr rfl rfl rfl sl_24 (i) (by omega) (by omega) rfl) (by kernel_rfl) rfl rfl ?_ | refine d_p 9 rfl (p_indexAddr rfl rfl rfl sl_24 (i) (by omega) (by omega) (Rw.some hs.1 (by omega))) (by kernel_rfl) rfl rfl ?_ | refine d_p 9 rfl (p_indexAddr rfl rfl rfl sl_24 (i) (by omega) (by omega) (Rw.some (hs.at hil).1 (by omega))) (by kernel_rfl) rfl rfl ?_
    refine d_p 10 rfl (p_fieldAddr rfl rfl fd_77_1 sz_4 rfl) (by kernel_rfl) rfl rfl ?_
    first | refine d_q 11 [[]] rfl (q_load rfl rfl sz_4 (by repeat (first | exact .here | apply Pick.there)) rfl) (by kernel_rfl) (by kernel_rfl) (by kernel_rfl) rfl ?_ | refine d_q 11 [[]] rfl (q_load_old rfl rfl sz_4 ((hs.1.rdj 2 hil rfl))) (by kernel_rfl) (by kernel_rfl) (by kernel_rfl) rfl ?_ | refine d_q 11 [[]] rfl (q_load_old rfl rfl sz_4 ((hs.1.rdj 3 hil rfl))) (by kernel_rfl) (by kernel_rfl) (by kernel_rfl) rfl ?_ | refine d_q 11 [[]] rfl (q_load_old rfl rfl sz_4 (rfl (Rw.rd (hs.at hil).1 hkl))) (by kernel_rfl) (by kernel_rfl) (by kernel_rfl) rfl ?_
    refine d_p 12 rfl (p_build (cs := [_, _, _, _]) rfl rfl pl_77 zr_77 rfl) (by kernel_rfl) rfl rfl ?_
    refine d_h 13 rfl (h_alloc rfl zr_77) (by kernel_rfl) (fun w h => h.ent (by repeat (first | exact .nil | refine .cons (by repeat (first | exact .here | apply Pick.there)) ?_))) rfl (fun b5 _ => ?_)
    refine d_base (fun w h => h.ent (by repeat (first | exact .nil | refine .cons (by repeat (first | exact .here | apply Pick.there)) ?_))) ?_
    refine d_h0 14 rfl (h_store rfl rfl rfl sz_77 rfl (by repeat (first | exact .here | apply Put.there)) (by simp only [setMany_length, List.length_set, List.length_cons, List.length_nil, List.length_map]; omega) rfl) (by kernel_rfl) (fun w h => h.ent (by repeat (first | exact .nil | refine .cons (by repeat (first | exact .here | apply Pick.there)) ?_))) (fun _ _ => ?_)
    refine d_turn [] (by kernel_rfl) ?_
    refine d_nil (by kernel_rfl) (fun w h => h.ent (by repeat (first | exact .nil | refine .cons (by repeat (first | exact .here | apply Pick.there)) ?_))) ?_
    refine s_seq ?_
    refine s_seq ?_
    refine s_region ?_
    refine o_p (p_pure rfl) rfl ?_
    refine o_nil ?_
    refine s_block ?_
    refine s_weaken (L' := [(0, _), (1, _), (2, _), (3, _), (4, _), (5, _), (6, _), (8, _), (9, _), (10, _)]) (by repeat (first | exact sl_n | refine sl_c rfl ?_)) (fun _ h => h) ?_
    refine s_loopI (α := Nat × (Option Addr × Nat) × List LOpn) [6, 7, 31, 32, 33, 34, 35, 36, 37, 38, 39, 40, 41, 42, 43, 44, 45, 46, 47, 48, 49, 50, 51, 52, 53, 54, 55, 56, 57, 58, 59, 60, 61] (fun z => [(6, .int .i64 (z.1 : Int))]) (fun z => HS w [] [.blk b5 77 4 [.int .i64 (nth L i).rc, .int .i64 (nth L i).sq, .bool (nth L i).pd, .slice z.2.1.1 z.2.2.length z.2.1.2], .opens z.2.1.1 z.2.1.2 z.2.2, .blk b3 26 2 [.int .i64 next, .slice x.1 M.length x.2], .files x.1 x.2 M, .blk b1 26 2 [.int .i64 next, .slice a L.length cap], .blk b2 26 2 [.int .i64 0, .slice none 0 0]]) (fun z => z.1 ≤ (nth L i).op.length ∧ plo z.2.2 = (plo (nth L i).op).take z.1) (fun z => (nth L i).op.length - z.1) (0, (none, 0), []) ⟨Nat.zero_le _, rfl⟩ (by repeat (first | exact sl_n | refine sl_c rfl ?_)) (fun w h => (HS.opens_none h).ent (by repeat (first | exact .nil | refine .cons (by repeat (first | exact .here | apply Pick.there)) ?_))) (fun ⟨k, o, N⟩ hz => ?_)
    dsimp only at hz ⊢
    obtain ⟨hk1, hk2⟩ := hz
    refine s_seq ?_
    refine s_seq ?_
    refine s_region ?_
    refine o_p (p_pure rfl) rfl ?_
    refine o_p (p_fieldAddr rfl rfl fd_26_1 sz_24 rfl) rfl ?_
    first | refine o_q (q_load rfl rfl sz_24 (by repeat (first | exact .here | apply Pick.there)) rfl) rfl ?_ | refine o_q (q_load_old rfl rfl sz_24 ((hs.1.rdj 2 hil rfl))) rfl ?_ | refine o_q (q_load_old rfl rfl sz_24 ((hs.1.rdj 3 hil rfl))) rfl ?_ | refine o_q (q_load_old rfl rfl sz_24 (rfl (Rw.rd (hs.at hil).1 hkl))) rfl ?_
    refine o_p (p_pure rfl) rfl ?_
    first | refine o_p (p_indexAddr rfl rfl rfl sl_24 (i) (by omega) (by omega) rfl) rfl ?_ | refine o_p (p_indexAddr rfl rfl rfl sl_24 (i) (by omega) (by omega) (Rw.some hs.1 (by omega))) rfl ?_ | refine o_p (p_indexAddr rfl rfl rfl sl_24 (i) (by omega) (by omega) (Rw.some (hs.at hil).1 (by omega))) rfl ?_
    refine o_p (p_fieldAddr rfl rfl fd_77_2 sz_75 rfl) rfl ?_
    first | refine o_q (q_load rfl rfl sz_75 (by repeat (first | exact .here | apply Pick.there)) rfl) rfl ?_ | refine o_q (q_load_old rfl rfl sz_75 ((hs.1.rdj 2 hil rfl))) rfl ?_ | refine o_q (q_load_old rfl rfl sz_75 ((hs.1.rdj 3 hil rfl))) rfl ?_ | refine o_q (q_load_old rfl rfl sz_75 (rfl (Rw.rd (hs.at hil).1 hkl))) rfl ?_
    first | refine o_p (p_len_slice rfl rfl Try.underlying75) rfl ?_ | refine o_q (q_len_own rfl rfl Try.underlying75 (by repeat (first | exact .here | apply Pick.there))) rfl ?_
    refine o_p (p_pure rfl) rfl ?_
    refine o_nil ?_
    refine s_cond rfl (fun h6 => ?_) (fun h6 => ?_)
    · try simp only [decide_eq_true_eq, decide_eq_false_iff_not, Bool.not_eq_true', Bool.not_eq_false', Bool.and_eq_true, Bool.or_eq_true, Bool.and_eq_false_iff, Bool.or_eq_false_iff, Bool.not_true, Bool.not_false] at h6
      have hkl : k < (nth L i).op.length := by omega
      have hki := hml _ (mem_nth hil) _ (mem_nth hkl)
      have hNl : N.length = k := by have h9 := congrArg List.length hk2; simp at h9; omega
      refine s_skip ?_
      refine s_seq ?_
      refine s_block ?_
      refine s_seq ?_
      refine s_region ?_
      refine o_p (p_fieldAddr rfl rfl fd_26_1 sz_24 rfl) rfl ?_
      first | refine o_q (q_load rfl rfl sz_24 (by repeat (first | exact .here | apply Pick.there)) rfl) rfl ?_ | refine o_q (q_load_old rfl rfl sz_24 ((hs.1.rdj 2 hil rfl))) rfl ?_ | refine o_q (q_load_old rfl rfl sz_24 ((hs.1.rdj 3 hil rfl))) rfl ?_ | refine o_q (q_load_old rfl rfl sz_24 (rfl (Rw.rd (hs.at hil).1 hkl))) rfl ?_
      refine o_p (p_pure rfl) rfl ?_
      first | refine o_p (p_indexAddr rfl rfl rfl sl_24 (i) (by omega) (by omega) rfl) rfl ?_ | refine o_p (p_indexAddr rfl rfl rfl sl_24 (i) (by omega) (by omega) (Rw.some hs.1 (by omega))) rfl ?_ | refine o_p (p_indexAddr rfl rfl rfl sl_24 (i) (by omega) (by omega) (Rw.some (hs.at hil).1 (by omega))) rfl ?_
      refine o_p (p_fieldAddr rfl rfl fd_77_2 sz_75 rfl) rfl ?_
      first | refine o_q (q_load rfl rfl sz_75 (by repeat (first | exact .here | apply Pick.there)) rfl) rfl ?_ | refine o_q (q_load_old rfl rfl sz_75 ((hs.1.rdj 2 hil rfl))) rfl ?_ | refine o_q (q_load_old rfl rfl sz_75 ((hs.1.rdj 3 hil rfl))) rfl ?_ | refine o_q (q_load_old rfl rfl sz_75 (rfl (Rw.rd (hs.at hil).1 hkl))) rfl ?_
      refine o_p (p_pure rfl) rfl ?_
      first | refine o_p (p_indexAddr rfl rfl rfl sl_75 (k) (by omega) (by omega) rfl) rfl ?_ | refine o_p (p_indexAddr rfl rfl rfl sl_75 (k) (by omega) (by omega) (Rw.some hs.1 (by omega))) rfl ?_ | refine o_p (p_indexAddr rfl rfl rfl sl_75 (k) (by omega) (by omega) (Rw.some (hs.at hil).1 (by omega))) rfl ?_
      first | refine o_q (q_loadn rfl rfl sz_48 (by repeat (first | exact .here | apply Pick.there)) rfl) rfl ?_ | refine o_q (q_load_oldn _ rfl rfl sz_48 (hs.1.rdj 2 hil rfl)) rfl ?_ | refine o_q (q_load_oldn _ rfl rfl sz_48 (hs.1.rdj 3 hil rfl)) rfl ?_ | refine o_q (q_load_oldn _ rfl rfl sz_48 rfl (Rw.rd (hs.at hil).1 hkl)) rfl ?_
      refine o_h (h_alloc rfl zr_48) rfl (fun b7 _ => ?_)
      refine o_h0 (h_store rfl rfl rfl sz_48 rfl (by repeat (first | exact .here | apply Put.there)) (by simp only [setMany_length, List.length_set, List.length_cons, List.length_nil, List.length_map]; omega) rfl) (fun _ _ => ?_)
      refine o_nil ?_
      refine s_seq ?_
      refine s_region ?_
      refine o_h (h_buildSlice0 rfl sl_46) rfl (fun b8 _ => ?_)
      refine o_p (p_fieldAddr rfl rfl fd_48_4 sz_46 rfl) rfl ?_
      first | refine o_q (q_load rfl rfl sz_46 (by repeat (first | exact .here | apply Pick.there)) rfl) rfl ?_ | refine o_q (q_load_old rfl rfl sz_46 ((hs.1.rdj 2 hil rfl))) rfl ?_ | refine o_q (q_load_old rfl rfl sz_46 ((hs.1.rdj 3 hil rfl))) rfl ?_ | refine o_q (q_load_old rfl rfl sz_46 (rfl (Rw.rd (hs.at hil).1 hkl))) rfl ?_
      refine o_h (h_appendS (n := 0) ((nth (nth L i).op k).lk.flatMap Lock.vals) rfl rfl rfl sl_46 Try.underlying46 zr_62 rfl (by repeat (first | exact .here | apply Pick.there)) (fun w h => Rw.src lv3 ((hs.at hil).at hkl) h) (flat_length lv3 _) (flat_one lv1 _) (by omega) (by simp only [maxLen]; omega)) rfl (fun b9 _ => ?_)
      simp only [Nat.zero_add, List.nil_append]
      refine o_p (p_fieldAddr rfl rfl fd_48_4 sz_46 rfl) rfl ?_
      refine o_h0 (h_store rfl rfl rfl sz_46 rfl (by repeat (first | exact .here | apply Put.there)) (by simp only [setMany_length, List.length_set, List.length_cons, List.length_nil, List.length_map]; omega) rfl) (fun _ _ => ?_)
      refine o_nil ?_
      refine s_weaken (L' := [(0, _), (1, _), (2, _), (3, _), (4, _), (5, _), (6, _), (7, _), (8, _), (9, _), (10, _)]) (by repeat (first | exact sl_n | refine sl_c rfl ?_)) (fun _ h => h) ?_
      refine s_region ?_
      refine o_p (p_fieldAddr rfl rfl fd_77_2 sz_75 rfl) rfl ?_
      first | refine o_q (q_load rfl rfl sz_75 (by repeat (first | exact .here | apply Pick.there)) rfl) rfl ?_ | refine o_q (q_load_old rfl rfl sz_75 ((hs.1.rdj 2 hil rfl))) rfl ?_ | refine o_q (q_load_old rfl rfl sz_75 ((hs.1.rdj 3 hil rfl))) rfl ?_ | refine o_q (q_load_old rfl rfl sz_75 (rfl (Rw.rd (hs.at hil).1 hkl))) rfl ?_
      refine o_class (fun w h => HS.opens_split (a := o.1) (cap := o.2) (l := N) h (by repeat (first | exact .here | apply Pick.there))) ?_
      first | refine o_q (q_loadn rfl rfl sz_48 (by repeat (first | exact .here | apply Pick.there)) rfl) rfl ?_ | refine o_q (q_load_oldn _ rfl rfl sz_48 (hs.1.rdj 2 hil rfl)) rfl ?_ | refine o_q (q_load_oldn _ rfl rfl sz_48 (hs.1.rdj 3 hil rfl)) rfl ?_ | refine o_q (q_load_oldn _ rfl rfl sz_48 rfl (Rw.rd (hs.at hil).1 hkl)) rfl ?_
      refine o_h (h_buildSlice (cs := [_, _, _, _, _]) rfl rfl sl_75 zr_48 rfl rfl rfl) rfl (fun b10 _ => ?_)
      refine o_h (h_appendS (n := N.length) ({ (nth (nth L i).op k) with la := b9.1, lc := b9.2 } : LOpn).vals rfl rfl rfl sl_75 Try.underlying75 zr_48 rfl (by repeat (first | exact .here | apply Pick.there)) (src_blk (by repeat (first | exact .here | apply Pick.there))) rfl (ov1 ({ (nth (nth L i).op k) with la := b9.1, lc := b9.2 } : LOpn)) (by omega) (by simp only [maxLen]; omega)) rfl (fun b11 _ => ?_)
      refine o_p (p_fieldAddr rfl rfl fd_77_2 sz_75 rfl) rfl ?_
      refine o_h0 (h_store rfl rfl rfl sz_75 rfl (by repeat (first | exact .here | apply Put.there)) (by simp only [setMany_length, List.length_set, List.length_cons, List.length_nil, List.length_map]; omega) rfl) (fun _ _ => ?_)
      refine o_nil ?_
      refine s_blk ?_
      refine s_region ?_
      refine o_p (p_pure rfl) rfl ?_
      refine o_p (p_pure rfl) rfl ?_
      try (refine o_slot (i64w (by omega) (by omega)) ?_)
      refine o_p (p_pure rfl) rfl ?_
      refine o_nil ?_
      exact s_backI (k + 1, b11, N ++ [({ (nth (nth L i).op k) with la := b9.1, lc := b9.2 } : LOpn)]) (by show (nth L i).op.length - (k + 1) < (nth L i).op.length - k; omega) ⟨by show k + 1 ≤ (nth L i).op.length; omega, by show plo (N ++ [({ (nth (nth L i).op k) with la := b9.1, lc := b9.2 } : LOpn)]) = (plo (nth L i).op).take (k + 1); rw [plo_app1, hk2, take_succ_nth (by simpa using hkl), nth_plo hkl]; rfl⟩ (by repeat (first | exact sl_n | refine sl_c rfl ?_)) (fun w h => by have h2 := HS.opens_more (o := ({ (nth (nth L i).op k) with la := b9.1, lc := b9.2 } : LOpn)) (l := N) (h.ent (Bs := [.own (.slice b11.1 (N.length + 1) b11.2) 48 5 (N.length + 1) _, .star (N.map subO), subO ({ (nth (nth L i).op k) with la := b9.1, lc := b9.2 } : LOpn), .blk b5 77 4 [.int .i64 (nth L i).rc, .int .i64 (nth L i).sq, .bool (nth L i).pd, .slice b11.1 (N.length + 1) b11.2], .blk b3 26 2 [.int .i64 next, .slice x.1 M.length x.2], .files x.1 x.2 M, .blk b1 26 2 [.int .i64 next, .slice a L.length cap], .blk b2 26 2 [.int .i64 0, .slice none 0 0]]) (by repeat (first | exact .nil | refine .cons (by repeat (first | exact .here | apply Pick.there)) ?_))) app_len1.symm app_flat1.symm; dsimp only; rw [app_len1]; exact h2.ent (by repeat (first | exact .nil | refine .cons (by repeat (first | exact .here | apply Pick.there)) ?_)))
    · try simp only [decide_eq_true_eq, decide_eq_false_iff_not, Bool.not_eq_true', Bool.not_eq_false', Bool.and_eq_true, Bool.or_eq_true, Bool.and_eq_false_iff, Bool.or_eq_false_iff, Bool.not_true, Bool.not_false] at h6
      refine s_exit_to rfl ?_
      refine s_region ?_
      refine o_p (p_fieldAddr rfl rfl fd_26_1 sz_24 rfl) rfl ?_
      first | refine o_q (q_load rfl rfl sz_24 (by repeat (first | exact .here | apply Pick.there)) rfl) rfl ?_ | refine o_q (q_load_old rfl rfl sz_24 ((hs.1.rdj 2 hil rfl))) rfl ?_ | refine o_q (q_load_old rfl rfl sz_24 ((hs.1.rdj 3 hil rfl))) rfl ?_ | refine o_q (q_load_old rfl rfl sz_24 (rfl (Rw.rd (hs.at hil).1 hkl))) rfl ?_
      refine o_class (fun w h => HS.files_open (a := x.1) (cap := x.2) (l := M) h (by repeat (first | exact .here | apply Pick.there))) ?_
      first | refine o_q (q_loadn rfl rfl sz_77 (by repeat (first | exact .here | apply Pick.there)) rfl) rfl ?_ | refine o_q (q_load_oldn _ rfl rfl sz_77 (hs.1.rdj 2 hil rfl)) rfl ?_ | refine o_q (q_load_oldn _ rfl rfl sz_77 (hs.1.rdj 3 hil rfl)) rfl ?_ | refine o_q (q_load_oldn _ rfl rfl sz_77 rfl (Rw.rd (hs.at hil).1 hkl)) rfl ?_
      refine o_h (h_buildSlice (cs := [_, _, _, _]) rfl rfl sl_24 zr_77 rfl rfl rfl) rfl (fun b12 _ => ?_)
      refine o_h (h_appendS (n := M.length) ({ nth L i with oa := o.1, oc := o.2, op := N } : LFil).vals rfl rfl rfl sl_24 Try.underlying24 zr_77 rfl (by repeat (first | exact .here | apply Pick.there)) (src_blk (by repeat (first | exact .here | apply Pick.there))) rfl (fv1 ({ nth L i with oa := o.1, oc := o.2, op := N } : LFil)) (by omega) (by simp only [maxLen]; omega)) rfl (fun b13 _ => ?_)
      refine o_p (p_fieldAddr rfl rfl fd_26_1 sz_24 rfl) rfl ?_
      refine o_h0 (h_store rfl rfl rfl sz_24 rfl (by repeat (first | exact .here | apply Put.there)) (by simp only [setMany_length, List.length_set, List.length_cons, List.length_nil, List.length_map]; omega) rfl) (fun _ _ => ?_)
      refine o_nil ?_
      refine s_blk ?_
      refine s_region ?_
      refine o_p (p_pure rfl) rfl ?_
      refine o_p (p_pure rfl) rfl ?_
      try (refine o_slot (i64w (by omega) (by omega)) ?_)
      refine o_p (p_pure rfl) rfl ?_
      refine o_nil ?_
      exact s_backI (i + 1, b13, M ++ [({ nth L i with oa := o.1, oc := o.2, op := N } : LFil)]) (by show L.length - (i + 1) < L.length - i; omega) ⟨by show i + 1 ≤ L.length; omega, by show pls (M ++ [({ nth L i with oa := o.1, oc := o.2, op := N } : LFil)]) = (pls L).take (i + 1); rw [pls_app1, hi2, take_succ_nth (by omega), nth_pls hil]; have e8 : k = (nth L i).op.length := (by omega); rw [e8, List.take_of_length_le (by simp)] at hk2; simp only [LFil.pl]; rw [show List.map LOpn.pl N = List.map LOpn.pl (nth L i).op from hk2]⟩ (by repeat (first | exact sl_n | refine sl_c rfl ?_)) (fun w h => by have h2 := HS.files_more (f := ({ nth L i with oa := o.1, oc := o.2, op := N } : LFil)) (l := M) (h.ent (Bs := [.own (.slice b13.1 (M.length + 1) b13.2) 77 4 (M.length + 1) _, .star (M.map subF), subF ({ nth L i with oa := o.1, oc := o.2, op := N } : LFil), .blk b3 26 2 [.int .i64 next, .slice b13.1 (M.length + 1) b13.2], .blk b1 26 2 [.int .i64 next, .slice a L.length cap], .blk b2 26 2 [.int .i64 0, .slice none 0 0]]) (by repeat (first | exact .nil | refine .cons (by repeat (first | exact .here | apply Pick.there)) ?_))) app_len1.symm app_flat1.symm; dsimp only; rw [app_len1]; exact h2.ent (by repeat (first | exact .nil | refine .cons (by repeat (first | exact .here | apply Pick.there)) ?_)))
  · try simp only [decide_eq_true_eq, decide_eq_false_iff_not, Bool.not_eq_true', Bool.not_eq_false', Bool.and_eq_true, Bool.or_eq_true, Bool.and_eq_false_iff, Bool.or_eq_false_iff, Bool.not_true, Bool.not_false] at h4
    refine s_exit_to rfl ?_
    refine s_seq ?_
    refine s_region ?_
    first | refine o_q (q_loadn rfl rfl sz_26 (by repeat (first | exact .here | apply Pick.there)) rfl) rfl ?_ | refine o_q (q_load_oldn _ rfl rfl sz_26 (hs.1.rdj 2 hil rfl)) rfl ?_ | refine o_q (q_load_oldn _ rfl rfl sz_26 (hs.1.rdj 3 hil rfl)) rfl ?_ | refine o_q (q_load_oldn _ rfl rfl sz_26 rfl (Rw.rd (hs.at hil).1 hkl)) rfl ?_
    refine o_h0 (h_store rfl rfl rfl sz_26 rfl (by repeat (first | exact .here | apply Put.there)) (by simp only [setMany_length, List.length_set, List.length_cons, List.length_nil, List.length_map]; omega) rfl) (fun _ _ => ?_)
    refine o_nil ?_
    exact s_retv (rs := [.cell 2 26]) rfl (.cell rfl sz_26 (by repeat (first | exact .here | apply Pick.there)) rfl (.nil)) (fun w' h' => ⟨(x, M), rfl, by show pls M = pls L; rw [hi2, List.take_of_length_le (by omega)], h'.ent (by repeat (first | exact .nil | refine .cons (by repeat (first | exact .here | apply Pick.there)) ?_))⟩)

end Go.Proofs

/- Chapter 25, plain: the check accepts exactly the valid tables. -/
namespace Go.Proofs
open Go Go.RowKit Gx
set_option linter.unusedVariables false
set_option linter.unusedSimpArgs false

theorem lksE_iff {l : List Lock} : lksE l = 0 ↔ l.length ≤ 16 ∧ okL l := by
  constructor
  · exact lksE_0
  · rintro ⟨h1, h2⟩
    rw [lksE, if_neg (by omega)]
    unfold rngsE
    rw [eachF_0]
    intro e he
    obtain ⟨k, hk, rfl⟩ := List.mem_map.1 he
    exact h2 k hk
theorem lockedE_iff : ∀ {ks held : List Lock}, lockedE held ks = 0 ↔ (∀ h ∈ held, ∀ k ∈ ks, clsh h k = false) ∧ ks.Pairwise fun a b => clsh a b = false
  | [], held => by simp [lockedE]
  | k :: ks, held => by
    rw [lockedE]
    split
    · rename_i h
      constructor
      · intro h9; exact absurd h9 (by decide)
      · rintro ⟨h1, _⟩
        obtain ⟨x, hx, e⟩ := List.any_eq_true.1 h
        rw [h1 x hx k List.mem_cons_self] at e
        cases e
    · rename_i h
      rw [Bool.not_eq_true, List.any_eq_false] at h
      rw [lockedE_iff, List.pairwise_cons]
      constructor
      · rintro ⟨h1, h2⟩
        refine ⟨fun x hx y hy => ?_, fun y hy => h1 k (by simp) y hy, h2⟩
        rcases List.mem_cons.1 hy with rfl | hy
        · simpa using h x hx
        · exact h1 x (List.mem_append_left _ hx) y hy
      · rintro ⟨h1, h2, h3⟩
        refine ⟨fun x hx y hy => ?_, h3⟩
        rcases List.mem_append.1 hx with hx | hx
        · exact h1 x hx y (List.mem_cons_of_mem _ hy)
        · rw [List.mem_singleton.1 hx]; exact h2 y hy
theorem hdl_iff {next : Int} {known : List Int} {ops : List Opn} {k : Nat} : hdlE next known ops k = 0 ↔ (1 ≤ (nth ops k).hd ∧ (nth ops k).hd ≤ next - 1) ∧ openE (nth ops k).ac (nth ops k).sh = 0 ∧ (k = 0 ∨ (nth ops (k - 1)).hd < (nth ops k).hd) ∧ lksE (nth ops k).lk = 0 ∧ (nth ops k).hd ∉ known ∧ (ops.take k).any (cfl (nth ops k)) = false ∧ lockedE ((ops.take k).flatMap Opn.lk) (nth ops k).lk = 0 := by
  rw [hdl_r]
  grind
theorem fil_iff {next : Int} {L : List Fil} {i : Nat} : filE next L i = 0 ↔ refE (nth L i).rc (nth L i).sq = 0 ∧ (i = 0 ∨ refLt ((nth L (i - 1)).rc, (nth L (i - 1)).sq) ((nth L i).rc, (nth L i).sq) = true) ∧ 0 < (nth L i).op.length ∧ ∀ k, k < (nth L i).op.length → hdlE next (hds (L.take i)) (nth L i).op k = 0 := by
  have e : hdlsE next (hds (L.take i)) (nth L i).op = 0 ↔ ∀ k, k < (nth L i).op.length → hdlE next (hds (L.take i)) (nth L i).op k = 0 := by
    unfold hdlsE
    rw [eachF_0]
    simp
  rw [← e]
  unfold filE
  simp only []
  grind
theorem chk_iff {next : Int} {L : List Fil} : (chkT next L).2 = 0 ↔ (1 ≤ next ∧ next ≤ 2147483647) ∧ (L.length ≤ 32 ∧ cntT L ≤ 32) ∧ ∀ i, i < L.length → filE next L i = 0 := by
  have e : (eachF ((List.range L.length).map (filE next L)) 0).2 = 0 ↔ ∀ i, i < L.length → filE next L i = 0 := by
    rw [eachF_0]
    simp
  rw [← e]
  unfold chkT
  split
  · split
    · rename_i h1 h2; simp [h1, h2]
    · rename_i h1 h2; simp [h1, h2]
  · rename_i h1; simp [h1]
theorem pw_chain {α : Type} [Inhabited α] {R : α → α → Prop} {l : List α} (ht : ∀ a b c, R a b → R b c → R a c) (h : ∀ i, i < l.length → i = 0 ∨ R (nth l (i - 1)) (nth l i)) : l.Pairwise R := by
  have key : ∀ d i, i + d + 1 < l.length → R (nth l i) (nth l (i + d + 1)) := by
    intro d
    induction d with
    | zero =>
      intro i hi
      rcases h (i + 1) (by omega) with h1 | h1
      · omega
      · exact h1
    | succ d ih =>
      intro i hi
      rcases h (i + (d + 1) + 1) (by omega) with h1 | h1
      · omega
      · exact ht _ _ _ (ih i (by omega)) h1
  rw [List.pairwise_iff_getElem]
  intro i j hi hj hij
  have h1 := key (j - i - 1) i (by omega)
  rw [show i + (j - i - 1) + 1 = j by omega] at h1
  rw [nth_eq (List.getElem?_eq_getElem hi), nth_eq (List.getElem?_eq_getElem hj)] at h1
  exact h1
theorem pw_nth {α : Type} [Inhabited α] {R : α → α → Prop} {l : List α} : l.Pairwise R ↔ ∀ i j, i < j → j < l.length → R (nth l i) (nth l j) := by
  rw [List.pairwise_iff_getElem]
  constructor
  · intro h i j hij hj
    rw [nth_eq (List.getElem?_eq_getElem (show i < l.length by omega)), nth_eq (List.getElem?_eq_getElem hj)]
    exact h i j (by omega) hj hij
  · intro h i j hi hj hij
    have := h i j hij hj
    rwa [nth_eq (List.getElem?_eq_getElem hi), nth_eq (List.getElem?_eq_getElem hj)] at this
theorem mem_nth_ex {α : Type} [Inhabited α] {l : List α} {x : α} (h : x ∈ l) : ∃ i, i < l.length ∧ nth l i = x := by
  obtain ⟨i, hi, e⟩ := List.getElem_of_mem h
  exact ⟨i, hi, nth_eq (by rw [List.getElem?_eq_getElem hi, e])⟩
theorem mem_take_of {α : Type} [Inhabited α] {l : List α} {i j : Nat} (h : i < j) (hl : i < l.length) : nth l i ∈ l.take j := by
  have e : nth (l.take j) i = nth l i := nth_take h
  rw [← e]
  exact mem_nth (by rw [List.length_take]; omega)
theorem flat_pw {ops : List Opn} : (∀ k, k < ops.length → lockedE ((ops.take k).flatMap Opn.lk) (nth ops k).lk = 0) ↔ (ops.flatMap Opn.lk).Pairwise fun a b => clsh a b = false := by
  constructor
  · intro h
    have key : ∀ k, k ≤ ops.length → ((ops.take k).flatMap Opn.lk).Pairwise fun a b => clsh a b = false := by
      intro k
      induction k with
      | zero => intro _; simp
      | succ k ih =>
        intro hk
        rw [take_succ_nth (by omega), List.flatMap_append, List.pairwise_append]
        have h1 := lockedE_iff.1 (h k (by omega))
        exact ⟨ih (by omega), by simpa using h1.2, fun a ha b hb => h1.1 a ha b (by simpa using hb)⟩
    have := key ops.length (Nat.le_refl _)
    rwa [List.take_length] at this
  · intro h k hk
    rw [← List.take_append_drop k ops, List.flatMap_append, List.pairwise_append, drop_nth hk, List.flatMap_cons] at h
    rw [lockedE_iff]
    refine ⟨fun x hx y hy => h.2.2 x hx y (List.mem_append_left _ hy), ?_⟩
    exact (List.pairwise_append.1 h.2.1).1
theorem any_cf {ops : List Opn} : (∀ k, k < ops.length → (ops.take k).any (cfl (nth ops k)) = false) ↔ ops.Pairwise fun a b => cfl a b = false := by
  rw [pw_nth]
  constructor
  · intro h i j hij hj
    have h1 := h j hj
    rw [List.any_eq_false] at h1
    have h2 := h1 _ (mem_take_of (l := ops) hij (by omega))
    rw [cfl_comm]
    simpa using h2
  · intro h k hk
    rw [List.any_eq_false]
    intro o ho
    obtain ⟨m, h1, h2, rfl⟩ := nth_mem_take ho
    rw [cfl_comm, h m k h1 hk]
    decide
theorem hds_in {L : List Fil} {i j : Nat} {o : Opn} (h : i < j) (hi : i < L.length) (ho : o ∈ (nth L i).op) : o.hd ∈ hds (L.take j) := by
  unfold hds
  exact List.mem_flatMap.2 ⟨_, mem_take_of h hi, List.mem_map.2 ⟨o, ho, rfl⟩⟩
theorem chk_ok {next : Int} {L : List Fil} (h : (chkT next L).2 = 0) : Ok next L := by
  obtain ⟨h1, h2, h3⟩ := chk_iff.1 h
  have hf : ∀ i, i < L.length → FOk next (nth L i) := by
    intro i hi
    obtain ⟨f1, f2, f3, f4⟩ := fil_iff.1 (h3 i hi)
    have hk := fun k hk => hdl_iff.1 (f4 k hk)
    refine ⟨f1, f3, fun o ho => ?_, fun o ho => ?_, pw_chain (fun a b c p q => (by omega)) fun k hk9 => (hk k hk9).2.2.1, any_cf.1 fun k hk9 => (hk k hk9).2.2.2.2.2.1, flat_pw.1 fun k hk9 => (hk k hk9).2.2.2.2.2.2⟩
    · obtain ⟨k, hk9, rfl⟩ := mem_nth_ex ho
      exact (hk k hk9).1
    · obtain ⟨k, hk9, rfl⟩ := mem_nth_ex ho
      have h9 := lksE_iff.1 (hk k hk9).2.2.2.1
      exact ⟨(hk k hk9).2.1, h9.2, h9.1⟩
  refine ⟨h1, h2.2, fun f hf9 => ?_, pw_chain (fun a b c => refLt_tr) fun i hi => (fil_iff.1 (h3 i hi)).2.1, ?_⟩
  · obtain ⟨i, hi, rfl⟩ := mem_nth_ex hf9
    exact hf i hi
  · rw [pw_nth]
    intro i j hij hj o ho p hp he
    obtain ⟨k, hk9, rfl⟩ := mem_nth_ex hp
    have h9 := (hdl_iff.1 ((fil_iff.1 (h3 j hj)).2.2.2 k hk9)).2.2.2.2.1
    exact h9 (by rw [← he]; exact hds_in hij (by omega) ho)
end Go.Proofs

namespace Go.Proofs
open Go Go.RowKit Gx
set_option linter.unusedVariables false
set_option linter.unusedSimpArgs false
attribute [local irreducible] Go.Calls Gx.S Gx.O Gx.D Gx.OpP Gx.OpQ Gx.OpH

theorem fn_68 : isFn Try.prog 68 = true := by kernel_rfl
theorem fn_19 : isFn Try.prog 19 = true := by kernel_rfl


/-- A table after something was done to it, or the error of the table, or of what was done. -/
def afT (next : Int) (L : List Fil) (r : List Fil × Int) : (List Fil × Int) × Int := if (chkT next L).2 = 0 then if r.2 = 0 then ((r.1, next), 0) else (([], 0), r.2) else (([], 0), (chkT next L).2)
theorem hErr_0 {next : Int} {L : List Fil} {h : Int} (hz : hErr next L h = 0) : (chkT next L).2 = 0 ∧ (findF L h 0).2.2 = 0 := by
  unfold hErr at hz
  split at hz
  · exact ⟨by assumption, hz⟩
  · contradiction
theorem afT_h {next : Int} {L : List Fil} {h : Int} {r : List Fil × Int} (hz : ¬ hErr next L h = 0) (hr : ¬ (findF L h 0).2.2 = 0 → r.2 = (findF L h 0).2.2) : afT next L r = (([], 0), hErr next L h) := by
  unfold hErr at hz ⊢
  unfold afT
  split at hz
  · rename_i h1
    rw [if_pos h1, if_pos h1, hr hz, if_neg hz]
  · rename_i h1
    rw [if_neg h1, if_neg h1]
theorem afT_e {next : Int} {L : List Fil} {r : List Fil × Int} (h1 : (chkT next L).2 = 0) (h2 : ¬ r.2 = 0) : afT next L r = (([], 0), r.2) := by rw [afT, if_pos h1, if_neg h2]
theorem afT_0 {next : Int} {L : List Fil} {r : List Fil × Int} (h1 : (chkT next L).2 = 0) (h2 : r.2 = 0) : afT next L r = ((r.1, next), 0) := by rw [afT, if_pos h1, if_pos h2]
theorem same_nth {N L : List LFil} {i : Nat} (h : pls N = pls L) (hi : i < L.length) : i < N.length ∧ (nth N i).pl = (nth L i).pl := by
  have hl : N.length = L.length := by
    have h9 := congrArg List.length h
    simpa using h9
  refine ⟨by omega, ?_⟩
  rw [← nth_pls (show i < N.length by omega), h, nth_pls hi]
end Go.Proofs

namespace Go.Proofs
open Go Go.RowKit Gx
set_option linter.unusedVariables false
set_option linter.unusedSimpArgs false
attribute [local irreducible] Go.Calls Gx.S Gx.O Gx.D Gx.OpP Gx.OpQ Gx.OpH



def kpW (w ex oth : Bool) : Bool := (ex && oth) || (!ex && w)
theorem kpW_t : kpW true = wrK := by funext ex oth; cases ex <;> cases oth <;> rfl
theorem kpW_f : kpW false = rdK := by funext ex oth; cases ex <;> cases oth <;> rfl
def mayR (next : Int) (L : List Fil) (h fr cnt : Int) (w : Bool) : Int := if (chkT next L).2 = 0 then mayT L h ⟨fr, cnt, false⟩ (bif w then 2 else 1) (kpW w) else (chkT next L).2
theorem mayT_f {L : List Fil} {h : Int} {q : Lock} {acc : Nat} {kp : Bool → Bool → Bool} (hn : ¬ (findF L h 0).2.2 = 0) : mayT L h q acc kp = (findF L h 0).2.2 := by rw [mayT, if_neg hn]
theorem mayT_r {L : List Fil} {h : Int} {q : Lock} {acc : Nat} {kp : Bool → Bool → Bool} (hn : (findF L h 0).2.2 = 0) (h2 : ¬ rngE q.fr q.cnt = 0) : mayT L h q acc kp = rngE q.fr q.cnt := by rw [mayT, if_pos hn, if_neg h2]
theorem mayR_h {next : Int} {L : List Fil} {h fr cnt : Int} {w : Bool} (hz : ¬ hErr next L h = 0) : mayR next L h fr cnt w = hErr next L h := by
  unfold hErr at hz ⊢
  unfold mayR
  split at hz
  · rename_i h1
    rw [if_pos h1, if_pos h1, mayT_f hz]
  · rename_i h1
    rw [if_neg h1, if_neg h1]

set_option maxRecDepth 20000 in
set_option maxHeartbeats 1000000 in
theorem c30 (w : World) (next : Int) (a : Option Addr) (cap : Nat) (L : List LFil) (h fr cnt : Int) (w9 : Bool) (hs : Ft w [] a L) (hm : L.length ≤ 1000) (hmo : ∀ f ∈ L, f.op.length ≤ 1000) : Calls Try.prog 30 #[.agg #[.int .i64 next, .slice a L.length cap], .int .i64 h, .int .i64 fr, .int .i64 cnt, .bool w9] w fun en w' => en = .returned (.int .i64 (mayR next (pls L) h fr cnt w9)) ∧ Below w.heap.size w w' := by
  refine enter (args := [_, _, _, _, _]) Try.func30 Try.ntmps30 rfl rfl (HS.refl w []) ?_
  refine s_seq ?_
  refine s_region ?_
  refine o_h (h_box rfl rfl) rfl (fun b1 _ => ?_)
  refine o_p (p_pure rfl) rfl ?_
  refine o_nil ?_
  refine s_seq ?_
  refine s_seq ?_
  refine s_region ?_
  first | refine o_q (q_loadn rfl rfl sz_26 (by repeat (first | exact .here | apply Pick.there)) rfl) rfl ?_ | refine o_q (q_load_oldn _ rfl rfl sz_26 (hs.1.rdj 3 hi rfl)) rfl ?_ | refine o_q (q_load_oldn _ rfl rfl sz_26 ((hs.at hi).1.rdj 1 hk rfl)) rfl ?_ | refine o_q (q_load_oldn _ rfl rfl sz_26 ((hs.at hi).1.rdj 4 hnl rfl)) rfl ?_ | refine o_q (q_load_oldn _ rfl rfl sz_26 rfl (Rw.rd ((hs.at hi).at hnl) hml)) rfl ?_
  refine o_p (p_pure rfl) rfl ?_
  refine o_q (q_call rfl fn_68 rfl (fun w1 h1 => c68 w1 next a cap L h (hs.later h1) hm hmo)) rfl ?_
  refine o_p (p_pure rfl) rfl ?_
  refine o_nil ?_
  refine s_seq ?_
  refine s_region ?_
  refine o_p (p_pure rfl) rfl ?_
  refine o_p (p_pure rfl) rfl ?_
  refine o_nil ?_
  refine s_cond rfl (fun h2 => ?_) (fun h2 => ?_)
  · try simp only [decide_eq_true_eq, decide_eq_false_iff_not, Bool.not_eq_true', Bool.not_eq_false', Bool.and_eq_true, Bool.or_eq_true, Bool.and_eq_false_iff, Bool.or_eq_false_iff, Bool.not_true, Bool.not_false] at h2
    have hz : ¬ hErr next (pls L) h = 0 := h2
    refine s_seq ?_
    refine s_region ?_
    refine o_p (p_pure rfl) rfl ?_
    refine o_p (p_pure rfl) rfl ?_
    refine o_nil ?_
    exact s_retv (rs := [.tmp 10]) rfl (.tmp rfl (.nil)) (fun w' h' => ⟨by rw [mayR_h hz]; rfl, h'.below⟩)
  · try simp only [decide_eq_true_eq, decide_eq_false_iff_not, Bool.not_eq_true', Bool.not_eq_false', Bool.and_eq_true, Bool.or_eq_true, Bool.and_eq_false_iff, Bool.or_eq_false_iff, Bool.not_true, Bool.not_false] at h2
    have hz : hErr next (pls L) h = 0 := h2
    obtain ⟨hz1, hz2⟩ := hErr_0 hz
    have hok := chk_ok hz1
    have hV := hok.vw
    obtain ⟨i, k, hfe, hi, hk, hV3⟩ := findF_some hV hz2
    have hfd : fdI (pls L) h = ((i : Int), (k : Int)) := by rw [fdI, hfe]; rfl
    have hoi := hmo _ (mem_nth hi)
    refine s_skip ?_
    refine s_seq ?_
    refine s_seq ?_
    refine s_region ?_
    refine o_p (p_pure rfl) rfl ?_
    refine o_p (p_pure rfl) rfl ?_
    refine o_q (q_call rfl fn_69 rfl (fun w1 h1 => c69 w1 fr cnt)) rfl ?_
    refine o_p (p_pure rfl) rfl ?_
    refine o_nil ?_
    refine s_seq ?_
    refine s_region ?_
    refine o_p (p_pure rfl) rfl ?_
    refine o_p (p_pure rfl) rfl ?_
    refine o_nil ?_
    refine s_cond rfl (fun h3 => ?_) (fun h3 => ?_)
    · try simp only [decide_eq_true_eq, decide_eq_false_iff_not, Bool.not_eq_true', Bool.not_eq_false', Bool.and_eq_true, Bool.or_eq_true, Bool.and_eq_false_iff, Bool.or_eq_false_iff, Bool.not_true, Bool.not_false] at h3
      have hrg : ¬ rngE fr cnt = 0 := h3
      refine s_seq ?_
      refine s_region ?_
      refine o_p (p_pure rfl) rfl ?_
      refine o_p (p_pure rfl) rfl ?_
      refine o_nil ?_
      exact s_retv (rs := [.tmp 10]) rfl (.tmp rfl (.nil)) (fun w' h' => ⟨by rw [mayR, if_pos hz1, mayT_r hz2 hrg]; rfl, h'.below⟩)
    · try simp only [decide_eq_true_eq, decide_eq_false_iff_not, Bool.not_eq_true', Bool.not_eq_false', Bool.and_eq_true, Bool.or_eq_true, Bool.and_eq_false_iff, Bool.or_eq_false_iff, Bool.not_true, Bool.not_false] at h3
      have hrg : rngE fr cnt = 0 := h3
      have hl32 := (VW.lens hV).2 _ (mem_nth hi)
      refine s_skip ?_
      refine s_seq ?_
      refine s_region ?_
      first | refine o_q (q_loadn rfl rfl sz_26 (by repeat (first | exact .here | apply Pick.there)) rfl) rfl ?_ | refine o_q (q_load_oldn _ rfl rfl sz_26 (hs.1.rdj 3 hi rfl)) rfl ?_ | refine o_q (q_load_oldn _ rfl rfl sz_26 ((hs.at hi).1.rdj 1 hk rfl)) rfl ?_ | refine o_q (q_load_oldn _ rfl rfl sz_26 ((hs.at hi).1.rdj 4 hnl rfl)) rfl ?_ | refine o_q (q_load_oldn _ rfl rfl sz_26 rfl (Rw.rd ((hs.at hi).at hnl) hml)) rfl ?_
      refine o_p (p_pure rfl) rfl ?_
      refine o_q (q_call rfl fn_70 rfl (fun w1 h1 => c70 w1 next a cap L h (hs.later h1) hm hmo)) rfl ?_
      rw [hfd]
      refine o_p (p_pure rfl) rfl ?_
      refine o_p (p_pure rfl) rfl ?_
      refine o_p (p_pure rfl) rfl ?_
      refine o_p (p_pure rfl) rfl ?_
      refine o_p (p_pure rfl) rfl ?_
      refine o_nil ?_
      refine s_seq ?_
      refine s_region ?_
      refine o_p (p_pure rfl) rfl ?_
      refine o_nil ?_
      refine s_seq ?_
      refine s_seq ?_
      refine s_region ?_
      refine o_p (p_pure rfl) rfl ?_
      refine o_nil ?_
      refine s_weaken (L' := [(2, _), (3, _), (4, _), (5, _), (10, _), (13, _), (14, _), (15, _), (37, _)]) (by repeat (first | exact sl_n | refine sl_c rfl ?_)) (fun _ h => h) ?_
      refine s_cutI (α := Unit) [15] (fun _ => [(15, .int .i64 (((bif w9 then 2 else 1) : Nat) : Int))]) (fun _ => HS w [] [.blk b1 26 2 [.int .i64 next, .slice a L.length cap]]) (fun _ => True) ?_ ?_
      · skip
        refine s_cond rfl (fun h4 => ?_) (fun h4 => ?_)
        · try simp only [decide_eq_true_eq, decide_eq_false_iff_not, Bool.not_eq_true', Bool.not_eq_false', Bool.and_eq_true, Bool.or_eq_true, Bool.and_eq_false_iff, Bool.or_eq_false_iff, Bool.not_true, Bool.not_false] at h4
          refine s_region ?_
          refine o_p (p_pure rfl) rfl ?_
          refine o_nil ?_
          exact s_joinI () trivial (sl_c (congrArg (fun e => some (Value.int .i64 e)) (by have hq := h4; cases w9 <;> first | rfl | simp_all)) (by repeat (first | exact sl_n | refine sl_c rfl ?_))) (fun w h => h.ent (by repeat (first | exact .nil | refine .cons (by repeat (first | exact .here | apply Pick.there)) ?_)))
        · try simp only [decide_eq_true_eq, decide_eq_false_iff_not, Bool.not_eq_true', Bool.not_eq_false', Bool.and_eq_true, Bool.or_eq_true, Bool.and_eq_false_iff, Bool.or_eq_false_iff, Bool.not_true, Bool.not_false] at h4
          refine s_skip ?_
          exact s_joinI () trivial (sl_c (congrArg (fun e => some (Value.int .i64 e)) (by have hq := h4; cases w9 <;> first | rfl | simp_all)) (by repeat (first | exact sl_n | refine sl_c rfl ?_))) (fun w h => h.ent (by repeat (first | exact .nil | refine .cons (by repeat (first | exact .here | apply Pick.there)) ?_)))
      · intro _ _
        refine s_seq ?_
        refine s_seq ?_
        refine s_region ?_
        refine o_p (p_fieldAddr rfl rfl fd_26_1 sz_24 rfl) rfl ?_
        first | refine o_q (q_load rfl rfl sz_24 (by repeat (first | exact .here | apply Pick.there)) rfl) rfl ?_ | refine o_q (q_load_old rfl rfl sz_24 ((hs.1.rdj 3 hi rfl))) rfl ?_ | refine o_q (q_load_old rfl rfl sz_24 (((hs.at hi).1.rdj 1 hk rfl))) rfl ?_ | refine o_q (q_load_old rfl rfl sz_24 (((hs.at hi).1.rdj 4 hnl rfl))) rfl ?_ | refine o_q (q_load_old rfl rfl sz_24 (rfl (Rw.rd ((hs.at hi).at hnl) hml))) rfl ?_
        refine o_p (p_pure rfl) rfl ?_
        first | refine o_p (p_indexAddr rfl rfl rfl sl_24 (i) (by omega) (by omega) rfl) rfl ?_ | refine o_p (p_indexAddr rfl rfl rfl sl_24 (i) (by omega) (by omega) (Rw.some hs.1 (by omega))) rfl ?_ | refine o_p (p_indexAddr rfl rfl rfl sl_24 (i) (by omega) (by omega) (Rw.some (hs.at hi).1 (by omega))) rfl ?_ | refine o_p (p_indexAddr rfl rfl rfl sl_24 (i) (by omega) (by omega) (Rw.some ((hs.at hi).at hnl) (by omega))) rfl ?_
        refine o_p (p_fieldAddr rfl rfl fd_77_2 sz_75 rfl) rfl ?_
        first | refine o_q (q_load rfl rfl sz_75 (by repeat (first | exact .here | apply Pick.there)) rfl) rfl ?_ | refine o_q (q_load_old rfl rfl sz_75 ((hs.1.rdj 3 hi rfl))) rfl ?_ | refine o_q (q_load_old rfl rfl sz_75 (((hs.at hi).1.rdj 1 hk rfl))) rfl ?_ | refine o_q (q_load_old rfl rfl sz_75 (((hs.at hi).1.rdj 4 hnl rfl))) rfl ?_ | refine o_q (q_load_old rfl rfl sz_75 (rfl (Rw.rd ((hs.at hi).at hnl) hml))) rfl ?_
        refine o_p (p_pure rfl) rfl ?_
        first | refine o_p (p_indexAddr rfl rfl rfl sl_75 (k) (by omega) (by omega) rfl) rfl ?_ | refine o_p (p_indexAddr rfl rfl rfl sl_75 (k) (by omega) (by omega) (Rw.some hs.1 (by omega))) rfl ?_ | refine o_p (p_indexAddr rfl rfl rfl sl_75 (k) (by omega) (by omega) (Rw.some (hs.at hi).1 (by omega))) rfl ?_ | refine o_p (p_indexAddr rfl rfl rfl sl_75 (k) (by omega) (by omega) (Rw.some ((hs.at hi).at hnl) (by omega))) rfl ?_
        refine o_p (p_fieldAddr rfl rfl fd_48_1 sz_3 rfl) rfl ?_
        first | refine o_q (q_load rfl rfl sz_3 (by repeat (first | exact .here | apply Pick.there)) rfl) rfl ?_ | refine o_q (q_load_old rfl rfl sz_3 ((hs.1.rdj 3 hi rfl))) rfl ?_ | refine o_q (q_load_old rfl rfl sz_3 (((hs.at hi).1.rdj 1 hk rfl))) rfl ?_ | refine o_q (q_load_old rfl rfl sz_3 (((hs.at hi).1.rdj 4 hnl rfl))) rfl ?_ | refine o_q (q_load_old rfl rfl sz_3 (rfl (Rw.rd ((hs.at hi).at hnl) hml))) rfl ?_
        refine o_p (p_pure rfl) rfl ?_
        refine o_q (q_call rfl fn_71 rfl (fun w1 h1 => c71 w1 _ (bif w9 then 2 else 1) (by have := openE_r hV3.1; omega) (by cases w9 <;> simp))) rfl ?_
        refine o_p (p_pure rfl) rfl ?_
        refine o_nil ?_
        refine s_cond rfl (fun h5 => ?_) (fun h5 => ?_)
        · try simp only [decide_eq_true_eq, decide_eq_false_iff_not, Bool.not_eq_true', Bool.not_eq_false', Bool.and_eq_true, Bool.or_eq_true, Bool.and_eq_false_iff, Bool.or_eq_false_iff, Bool.not_true, Bool.not_false] at h5
          have hno : ¬ hasB (nth (nth L i).op k).ac (bif w9 then 2 else 1) = true := by have hq := h5; simpa using hq
          have hno2 : ¬ hasB (nth (nth L i).op k).pl.ac (bif w9 then 2 else 1) = true := hno
          refine s_seq ?_
          refine s_region ?_
          refine o_p (p_pure rfl) rfl ?_
          refine o_nil ?_
          exact s_retv (rs := [.tmp 10]) rfl (.tmp rfl (.nil)) (fun w' h' => ⟨by rw [mayR, if_pos hz1, mayT, hfe]; simp only [if_true]; rw [if_pos hrg, nth_pls hi, LFil.pl, nth_plo hk]; skip; rw [if_neg hno2]; rfl, h'.below⟩)
        · try simp only [decide_eq_true_eq, decide_eq_false_iff_not, Bool.not_eq_true', Bool.not_eq_false', Bool.and_eq_true, Bool.or_eq_true, Bool.and_eq_false_iff, Bool.or_eq_false_iff, Bool.not_true, Bool.not_false] at h5
          have hyes : hasB (nth (nth L i).op k).ac (bif w9 then 2 else 1) = true := by have hq := h5; simpa using hq
          have hyes2 : hasB (nth (nth L i).op k).pl.ac (bif w9 then 2 else 1) = true := hyes
          refine s_skip ?_
          refine s_seq ?_
          refine s_seq ?_
          refine s_region ?_
          refine o_p (p_pure rfl) rfl ?_
          refine o_nil ?_
          refine s_block ?_
          refine s_weaken (L' := [(2, _), (3, _), (4, _), (5, _), (10, _), (13, _), (14, _), (16, _)]) (by repeat (first | exact sl_n | refine sl_c rfl ?_)) (fun _ h => h) ?_
          refine s_loopI (α := Nat) [10, 16, 17, 18, 51, 52, 53, 54, 55, 56, 57, 58, 59, 60, 61, 62, 63, 64, 65, 66, 67, 68, 69, 70, 71, 72, 73, 74, 75, 76, 77, 78, 79, 80, 81, 82, 83, 84, 85, 86, 87, 88, 89, 90, 91, 92, 93, 94, 95, 96, 97, 98, 99, 100, 101, 102, 103, 104, 105, 106, 107, 108, 109, 110, 111, 112, 113] (fun n => [(16, .int .i64 (n : Int))]) (fun _ => HS w [] [.blk b1 26 2 [.int .i64 next, .slice a L.length cap]]) (fun n => n ≤ (nth L i).op.length ∧ ∀ n2, n2 < n → ∀ m, m < (nth (nth L i).op n2).lk.length → (ovl (nth (nth (nth L i).op n2).lk m) ⟨fr, cnt, false⟩ && kpW w9 (nth (nth (nth L i).op n2).lk m).ex (decide (n2 ≠ k))) = false) (fun n => (nth L i).op.length - n) 0 ⟨by omega, fun n2 h2 => absurd h2 (Nat.not_lt_zero n2)⟩ (by repeat (first | exact sl_n | refine sl_c rfl ?_)) (fun w h => h.ent (by repeat (first | exact .nil | refine .cons (by repeat (first | exact .here | apply Pick.there)) ?_))) (fun n hn => ?_)
          obtain ⟨hn1, hn2⟩ := hn
          refine s_seq ?_
          refine s_seq ?_
          refine s_region ?_
          refine o_p (p_pure rfl) rfl ?_
          refine o_p (p_fieldAddr rfl rfl fd_26_1 sz_24 rfl) rfl ?_
          first | refine o_q (q_load rfl rfl sz_24 (by repeat (first | exact .here | apply Pick.there)) rfl) rfl ?_ | refine o_q (q_load_old rfl rfl sz_24 ((hs.1.rdj 3 hi rfl))) rfl ?_ | refine o_q (q_load_old rfl rfl sz_24 (((hs.at hi).1.rdj 1 hk rfl))) rfl ?_ | refine o_q (q_load_old rfl rfl sz_24 (((hs.at hi).1.rdj 4 hnl rfl))) rfl ?_ | refine o_q (q_load_old rfl rfl sz_24 (rfl (Rw.rd ((hs.at hi).at hnl) hml))) rfl ?_
          refine o_p (p_pure rfl) rfl ?_
          first | refine o_p (p_indexAddr rfl rfl rfl sl_24 (i) (by omega) (by omega) rfl) rfl ?_ | refine o_p (p_indexAddr rfl rfl rfl sl_24 (i) (by omega) (by omega) (Rw.some hs.1 (by omega))) rfl ?_ | refine o_p (p_indexAddr rfl rfl rfl sl_24 (i) (by omega) (by omega) (Rw.some (hs.at hi).1 (by omega))) rfl ?_ | refine o_p (p_indexAddr rfl rfl rfl sl_24 (i) (by omega) (by omega) (Rw.some ((hs.at hi).at hnl) (by omega))) rfl ?_
          refine o_p (p_fieldAddr rfl rfl fd_77_2 sz_75 rfl) rfl ?_
          first | refine o_q (q_load rfl rfl sz_75 (by repeat (first | exact .here | apply Pick.there)) rfl) rfl ?_ | refine o_q (q_load_old rfl rfl sz_75 ((hs.1.rdj 3 hi rfl))) rfl ?_ | refine o_q (q_load_old rfl rfl sz_75 (((hs.at hi).1.rdj 1 hk rfl))) rfl ?_ | refine o_q (q_load_old rfl rfl sz_75 (((hs.at hi).1.rdj 4 hnl rfl))) rfl ?_ | refine o_q (q_load_old rfl rfl sz_75 (rfl (Rw.rd ((hs.at hi).at hnl) hml))) rfl ?_
          first | refine o_p (p_len_slice rfl rfl Try.underlying75) rfl ?_ | refine o_q (q_len_own rfl rfl Try.underlying75 (by repeat (first | exact .here | apply Pick.there))) rfl ?_
          refine o_p (p_pure rfl) rfl ?_
          refine o_nil ?_
          refine s_cond rfl (fun h6 => ?_) (fun h6 => ?_)
          · try simp only [decide_eq_true_eq, decide_eq_false_iff_not, Bool.not_eq_true', Bool.not_eq_false', Bool.and_eq_true, Bool.or_eq_true, Bool.and_eq_false_iff, Bool.or_eq_false_iff, Bool.not_true, Bool.not_false] at h6
            have hnl : n < (nth L i).op.length := by omega
            have hv9 := VW.at hV hi hnl
            refine s_skip ?_
            refine s_seq ?_
            refine s_block ?_
            refine s_seq ?_
            refine s_region ?_
            refine o_p (p_pure rfl) rfl ?_
            refine o_nil ?_
            refine s_block ?_
            refine s_loopI (α := Nat) [10, 17, 18, 62, 63, 64, 65, 66, 67, 68, 69, 70, 71, 72, 73, 74, 75, 76, 77, 78, 79, 80, 81, 82, 83, 84, 85, 86, 87, 88, 89, 90, 91, 92, 93, 94, 95, 96, 97, 98, 99, 100, 101, 102, 103, 104, 105, 106, 107, 108, 109, 110, 111, 112, 113] (fun m => [(17, .int .i64 (m : Int))]) (fun _ => HS w [] [.blk b1 26 2 [.int .i64 next, .slice a L.length cap]]) (fun m => m ≤ (nth (nth L i).op n).lk.length ∧ ∀ m2, m2 < m → (ovl (nth (nth (nth L i).op n).lk m2) ⟨fr, cnt, false⟩ && kpW w9 (nth (nth (nth L i).op n).lk m2).ex (decide (n ≠ k))) = false) (fun m => (nth (nth L i).op n).lk.length - m) 0 ⟨by omega, fun n2 h2 => absurd h2 (Nat.not_lt_zero n2)⟩ (by repeat (first | exact sl_n | refine sl_c rfl ?_)) (fun w h => h.ent (by repeat (first | exact .nil | refine .cons (by repeat (first | exact .here | apply Pick.there)) ?_))) (fun m hm => ?_)
            obtain ⟨hm1, hm3⟩ := hm
            refine s_seq ?_
            refine s_seq ?_
            refine s_region ?_
            refine o_p (p_pure rfl) rfl ?_
            refine o_p (p_fieldAddr rfl rfl fd_26_1 sz_24 rfl) rfl ?_
            first | refine o_q (q_load rfl rfl sz_24 (by repeat (first | exact .here | apply Pick.there)) rfl) rfl ?_ | refine o_q (q_load_old rfl rfl sz_24 ((hs.1.rdj 3 hi rfl))) rfl ?_ | refine o_q (q_load_old rfl rfl sz_24 (((hs.at hi).1.rdj 1 hk rfl))) rfl ?_ | refine o_q (q_load_old rfl rfl sz_24 (((hs.at hi).1.rdj 4 hnl rfl))) rfl ?_ | refine o_q (q_load_old rfl rfl sz_24 (rfl (Rw.rd ((hs.at hi).at hnl) hml))) rfl ?_
            refine o_p (p_pure rfl) rfl ?_
            first | refine o_p (p_indexAddr rfl rfl rfl sl_24 (i) (by omega) (by omega) rfl) rfl ?_ | refine o_p (p_indexAddr rfl rfl rfl sl_24 (i) (by omega) (by omega) (Rw.some hs.1 (by omega))) rfl ?_ | refine o_p (p_indexAddr rfl rfl rfl sl_24 (i) (by omega) (by omega) (Rw.some (hs.at hi).1 (by omega))) rfl ?_ | refine o_p (p_indexAddr rfl rfl rfl sl_24 (i) (by omega) (by omega) (Rw.some ((hs.at hi).at hnl) (by omega))) rfl ?_
            refine o_p (p_fieldAddr rfl rfl fd_77_2 sz_75 rfl) rfl ?_
            first | refine o_q (q_load rfl rfl sz_75 (by repeat (first | exact .here | apply Pick.there)) rfl) rfl ?_ | refine o_q (q_load_old rfl rfl sz_75 ((hs.1.rdj 3 hi rfl))) rfl ?_ | refine o_q (q_load_old rfl rfl sz_75 (((hs.at hi).1.rdj 1 hk rfl))) rfl ?_ | refine o_q (q_load_old rfl rfl sz_75 (((hs.at hi).1.rdj 4 hnl rfl))) rfl ?_ | refine o_q (q_load_old rfl rfl sz_75 (rfl (Rw.rd ((hs.at hi).at hnl) hml))) rfl ?_
            refine o_p (p_pure rfl) rfl ?_
            first | refine o_p (p_indexAddr rfl rfl rfl sl_75 (n) (by omega) (by omega) rfl) rfl ?_ | refine o_p (p_indexAddr rfl rfl rfl sl_75 (n) (by omega) (by omega) (Rw.some hs.1 (by omega))) rfl ?_ | refine o_p (p_indexAddr rfl rfl rfl sl_75 (n) (by omega) (by omega) (Rw.some (hs.at hi).1 (by omega))) rfl ?_ | refine o_p (p_indexAddr rfl rfl rfl sl_75 (n) (by omega) (by omega) (Rw.some ((hs.at hi).at hnl) (by omega))) rfl ?_
            refine o_p (p_fieldAddr rfl rfl fd_48_4 sz_46 rfl) rfl ?_
            first | refine o_q (q_load rfl rfl sz_46 (by repeat (first | exact .here | apply Pick.there)) rfl) rfl ?_ | refine o_q (q_load_old rfl rfl sz_46 ((hs.1.rdj 3 hi rfl))) rfl ?_ | refine o_q (q_load_old rfl rfl sz_46 (((hs.at hi).1.rdj 1 hk rfl))) rfl ?_ | refine o_q (q_load_old rfl rfl sz_46 (((hs.at hi).1.rdj 4 hnl rfl))) rfl ?_ | refine o_q (q_load_old rfl rfl sz_46 (rfl (Rw.rd ((hs.at hi).at hnl) hml))) rfl ?_
            first | refine o_p (p_len_slice rfl rfl Try.underlying46) rfl ?_ | refine o_q (q_len_own rfl rfl Try.underlying46 (by repeat (first | exact .here | apply Pick.there))) rfl ?_
            refine o_p (p_pure rfl) rfl ?_
            refine o_nil ?_
            refine s_cond rfl (fun h7 => ?_) (fun h7 => ?_)
            · try simp only [decide_eq_true_eq, decide_eq_false_iff_not, Bool.not_eq_true', Bool.not_eq_false', Bool.and_eq_true, Bool.or_eq_true, Bool.and_eq_false_iff, Bool.or_eq_false_iff, Bool.not_true, Bool.not_false] at h7
              have hml : m < (nth (nth L i).op n).lk.length := by omega
              refine s_skip ?_
              refine s_seq ?_
              refine s_block ?_
              refine s_seq ?_
              refine s_weaken (L' := [(2, _), (3, _), (4, _), (5, _), (13, _), (14, _), (16, _), (17, _), (51, _), (52, _), (53, _), (54, _), (55, _), (56, _), (57, _), (58, _), (59, _)]) (by repeat (first | exact sl_n | refine sl_c rfl ?_)) (fun _ h => h) ?_
              refine s_region ?_
              refine o_p (p_fieldAddr rfl rfl fd_26_1 sz_24 rfl) rfl ?_
              first | refine o_q (q_load rfl rfl sz_24 (by repeat (first | exact .here | apply Pick.there)) rfl) rfl ?_ | refine o_q (q_load_old rfl rfl sz_24 ((hs.1.rdj 3 hi rfl))) rfl ?_ | refine o_q (q_load_old rfl rfl sz_24 (((hs.at hi).1.rdj 1 hk rfl))) rfl ?_ | refine o_q (q_load_old rfl rfl sz_24 (((hs.at hi).1.rdj 4 hnl rfl))) rfl ?_ | refine o_q (q_load_old rfl rfl sz_24 (rfl (Rw.rd ((hs.at hi).at hnl) hml))) rfl ?_
              refine o_p (p_pure rfl) rfl ?_
              first | refine o_p (p_indexAddr rfl rfl rfl sl_24 (i) (by omega) (by omega) rfl) rfl ?_ | refine o_p (p_indexAddr rfl rfl rfl sl_24 (i) (by omega) (by omega) (Rw.some hs.1 (by omega))) rfl ?_ | refine o_p (p_indexAddr rfl rfl rfl sl_24 (i) (by omega) (by omega) (Rw.some (hs.at hi).1 (by omega))) rfl ?_ | refine o_p (p_indexAddr rfl rfl rfl sl_24 (i) (by omega) (by omega) (Rw.some ((hs.at hi).at hnl) (by omega))) rfl ?_
              refine o_p (p_fieldAddr rfl rfl fd_77_2 sz_75 rfl) rfl ?_
              first | refine o_q (q_load rfl rfl sz_75 (by repeat (first | exact .here | apply Pick.there)) rfl) rfl ?_ | refine o_q (q_load_old rfl rfl sz_75 ((hs.1.rdj 3 hi rfl))) rfl ?_ | refine o_q (q_load_old rfl rfl sz_75 (((hs.at hi).1.rdj 1 hk rfl))) rfl ?_ | refine o_q (q_load_old rfl rfl sz_75 (((hs.at hi).1.rdj 4 hnl rfl))) rfl ?_ | refine o_q (q_load_old rfl rfl sz_75 (rfl (Rw.rd ((hs.at hi).at hnl) hml))) rfl ?_
              refine o_p (p_pure rfl) rfl ?_
              first | refine o_p (p_indexAddr rfl rfl rfl sl_75 (n) (by omega) (by omega) rfl) rfl ?_ | refine o_p (p_indexAddr rfl rfl rfl sl_75 (n) (by omega) (by omega) (Rw.some hs.1 (by omega))) rfl ?_ | refine o_p (p_indexAddr rfl rfl rfl sl_75 (n) (by omega) (by omega) (Rw.some (hs.at hi).1 (by omega))) rfl ?_ | refine o_p (p_indexAddr rfl rfl rfl sl_75 (n) (by omega) (by omega) (Rw.some ((hs.at hi).at hnl) (by omega))) rfl ?_
              refine o_p (p_fieldAddr rfl rfl fd_48_4 sz_46 rfl) rfl ?_
              first | refine o_q (q_load rfl rfl sz_46 (by repeat (first | exact .here | apply Pick.there)) rfl) rfl ?_ | refine o_q (q_load_old rfl rfl sz_46 ((hs.1.rdj 3 hi rfl))) rfl ?_ | refine o_q (q_load_old rfl rfl sz_46 (((hs.at hi).1.rdj 1 hk rfl))) rfl ?_ | refine o_q (q_load_old rfl rfl sz_46 (((hs.at hi).1.rdj 4 hnl rfl))) rfl ?_ | refine o_q (q_load_old rfl rfl sz_46 (rfl (Rw.rd ((hs.at hi).at hnl) hml))) rfl ?_
              refine o_p (p_pure rfl) rfl ?_
              first | refine o_p (p_indexAddr rfl rfl rfl sl_46 (m) (by omega) (by omega) rfl) rfl ?_ | refine o_p (p_indexAddr rfl rfl rfl sl_46 (m) (by omega) (by omega) (Rw.some hs.1 (by omega))) rfl ?_ | refine o_p (p_indexAddr rfl rfl rfl sl_46 (m) (by omega) (by omega) (Rw.some (hs.at hi).1 (by omega))) rfl ?_ | refine o_p (p_indexAddr rfl rfl rfl sl_46 (m) (by omega) (by omega) (Rw.some ((hs.at hi).at hnl) (by omega))) rfl ?_
              first | refine o_q (q_loadn rfl rfl sz_62 (by repeat (first | exact .here | apply Pick.there)) rfl) rfl ?_ | refine o_q (q_load_oldn _ rfl rfl sz_62 (hs.1.rdj 3 hi rfl)) rfl ?_ | refine o_q (q_load_oldn _ rfl rfl sz_62 ((hs.at hi).1.rdj 1 hk rfl)) rfl ?_ | refine o_q (q_load_oldn _ rfl rfl sz_62 ((hs.at hi).1.rdj 4 hnl rfl)) rfl ?_ | refine o_q (q_load_oldn _ rfl rfl sz_62 rfl (Rw.rd ((hs.at hi).at hnl) hml)) rfl ?_
              refine o_h (h_alloc rfl zr_62) rfl (fun b8 _ => ?_)
              refine o_h0 (h_store rfl rfl rfl sz_62 rfl (by repeat (first | exact .here | apply Put.there)) (by simp only [setMany_length, List.length_set, List.length_cons, List.length_nil, List.length_map]; omega) rfl) (fun _ _ => ?_)
              refine o_nil ?_
              refine s_seq ?_
              refine s_weaken (L' := [(2, _), (3, _), (4, _), (5, _), (13, _), (14, _), (16, _), (17, _), (18, _), (51, _), (52, _), (53, _), (54, _), (55, _), (56, _), (57, _), (58, _), (59, _)]) (by repeat (first | exact sl_n | refine sl_c rfl ?_)) (fun _ h => h) ?_
              refine s_region ?_
              refine o_p (p_fieldAddr rfl rfl fd_62_0 sz_3 rfl) rfl ?_
              first | refine o_q (q_load rfl rfl sz_3 (by repeat (first | exact .here | apply Pick.there)) rfl) rfl ?_ | refine o_q (q_load_old rfl rfl sz_3 ((hs.1.rdj 3 hi rfl))) rfl ?_ | refine o_q (q_load_old rfl rfl sz_3 (((hs.at hi).1.rdj 1 hk rfl))) rfl ?_ | refine o_q (q_load_old rfl rfl sz_3 (((hs.at hi).1.rdj 4 hnl rfl))) rfl ?_ | refine o_q (q_load_old rfl rfl sz_3 (rfl (Rw.rd ((hs.at hi).at hnl) hml))) rfl ?_
              refine o_p (p_fieldAddr rfl rfl fd_62_1 sz_3 rfl) rfl ?_
              first | refine o_q (q_load rfl rfl sz_3 (by repeat (first | exact .here | apply Pick.there)) rfl) rfl ?_ | refine o_q (q_load_old rfl rfl sz_3 ((hs.1.rdj 3 hi rfl))) rfl ?_ | refine o_q (q_load_old rfl rfl sz_3 (((hs.at hi).1.rdj 1 hk rfl))) rfl ?_ | refine o_q (q_load_old rfl rfl sz_3 (((hs.at hi).1.rdj 4 hnl rfl))) rfl ?_ | refine o_q (q_load_old rfl rfl sz_3 (rfl (Rw.rd ((hs.at hi).at hnl) hml))) rfl ?_
              refine o_p (p_pure rfl) rfl ?_
              refine o_p (p_pure rfl) rfl ?_
              refine o_q (q_call rfl fn_79 rfl (fun w1 h1 => c79 w1 _ ⟨fr, cnt, false⟩ (okL_nth hv9.2.1 hml) hrg)) rfl ?_
              refine o_p (p_pure rfl) rfl ?_
              refine o_and 16 97 113 _ _ rfl
                (by
                  intro hg9
                  have hs10 := hg9; try simp only [decide_eq_true_eq, decide_eq_false_iff_not, Bool.not_eq_true', Bool.not_eq_false', Bool.and_eq_true, Bool.or_eq_true, Bool.and_eq_false_iff, Bool.or_eq_false_iff, Bool.not_true, Bool.not_false] at hs10
                  refine o_on 97 _ rfl rfl hg9 ?_
                  refine o_p (p_fieldAddr rfl rfl fd_62_2 sz_4 rfl) rfl ?_
                  refine o_on 97 _ rfl rfl hg9 ?_
                  first | refine o_q (q_load rfl rfl sz_4 (by repeat (first | exact .here | apply Pick.there)) rfl) rfl ?_ | refine o_q (q_load_old rfl rfl sz_4 ((hs.1.rdj 3 hi rfl))) rfl ?_ | refine o_q (q_load_old rfl rfl sz_4 (((hs.at hi).1.rdj 1 hk rfl))) rfl ?_ | refine o_q (q_load_old rfl rfl sz_4 (((hs.at hi).1.rdj 4 hnl rfl))) rfl ?_ | refine o_q (q_load_old rfl rfl sz_4 (rfl (Rw.rd ((hs.at hi).at hnl) hml))) rfl ?_
                  refine o_on 97 _ rfl rfl hg9 ?_
                  refine o_p (p_pure rfl) rfl ?_
                  refine o_and 4 100 104 _ _ rfl
                    (by
                      intro hg11
                      have hs12 := hg11; try simp only [decide_eq_true_eq, decide_eq_false_iff_not, Bool.not_eq_true', Bool.not_eq_false', Bool.and_eq_true, Bool.or_eq_true, Bool.and_eq_false_iff, Bool.or_eq_false_iff, Bool.not_true, Bool.not_false] at hs12
                      refine o_on 100 _ rfl rfl hg11 ?_
                      refine o_p (p_pure rfl) rfl ?_
                      refine o_on 100 _ rfl rfl hg11 ?_
                      refine o_p (p_pure rfl) rfl ?_
                      refine o_on 100 _ rfl rfl hg11 ?_
                      refine o_p (p_pure rfl) rfl ?_
                      refine o_on 97 _ rfl rfl hg9 ?_
                      refine o_p (p_pickt rfl rfl hg11 rfl) rfl ?_
                      refine o_nil ?_
                      exact s_joinN 4 104 _ rfl rfl rfl (fun w h => by first | exact h | exact h.ent (by repeat (first | exact .nil | refine .cons (by repeat (first | exact .here | apply Pick.there)) ?_))))
                    (by
                      intro hg13
                      have hs14 := hg13; try simp only [decide_eq_true_eq, decide_eq_false_iff_not, Bool.not_eq_true', Bool.not_eq_false', Bool.and_eq_true, Bool.or_eq_true, Bool.and_eq_false_iff, Bool.or_eq_false_iff, Bool.not_true, Bool.not_false] at hs14
                      refine o_off 100 _ rfl rfl hg13 rfl ?_
                      refine o_off 100 _ rfl rfl hg13 rfl ?_
                      refine o_off 100 _ rfl rfl hg13 rfl ?_
                      refine o_on 97 _ rfl rfl hg9 ?_
                      refine o_p (p_pickf rfl rfl hg13 rfl) rfl ?_
                      refine o_nil ?_
                      exact s_joinN 4 104 _ rfl rfl rfl (fun w h => by first | exact h | exact h.ent (by repeat (first | exact .nil | refine .cons (by repeat (first | exact .here | apply Pick.there)) ?_)))) ?_
                  refine o_on 97 _ rfl rfl hg9 ?_
                  refine o_p (p_pure rfl) rfl ?_
                  refine o_or 7 105 112 _ _ rfl
                    (by
                      intro hg15
                      have hs16 := hg15; try simp only [decide_eq_true_eq, decide_eq_false_iff_not, Bool.not_eq_true', Bool.not_eq_false', Bool.and_eq_true, Bool.or_eq_true, Bool.and_eq_false_iff, Bool.or_eq_false_iff, Bool.not_true, Bool.not_false] at hs16
                      refine o_on 105 _ rfl rfl hg15 ?_
                      refine o_p (p_fieldAddr rfl rfl fd_62_2 sz_4 rfl) rfl ?_
                      refine o_on 105 _ rfl rfl hg15 ?_
                      first | refine o_q (q_load rfl rfl sz_4 (by repeat (first | exact .here | apply Pick.there)) rfl) rfl ?_ | refine o_q (q_load_old rfl rfl sz_4 ((hs.1.rdj 3 hi rfl))) rfl ?_ | refine o_q (q_load_old rfl rfl sz_4 (((hs.at hi).1.rdj 1 hk rfl))) rfl ?_ | refine o_q (q_load_old rfl rfl sz_4 (((hs.at hi).1.rdj 4 hnl rfl))) rfl ?_ | refine o_q (q_load_old rfl rfl sz_4 (rfl (Rw.rd ((hs.at hi).at hnl) hml))) rfl ?_
                      refine o_on 105 _ rfl rfl hg15 ?_
                      refine o_p (p_pure rfl) rfl ?_
                      refine o_on 105 _ rfl rfl hg15 ?_
                      refine o_p (p_pure rfl) rfl ?_
                      refine o_and 2 109 111 _ _ rfl
                        (by
                          intro hg17
                          have hs18 := hg17; try simp only [decide_eq_true_eq, decide_eq_false_iff_not, Bool.not_eq_true', Bool.not_eq_false', Bool.and_eq_true, Bool.or_eq_true, Bool.and_eq_false_iff, Bool.or_eq_false_iff, Bool.not_true, Bool.not_false] at hs18
                          refine o_on 109 _ rfl rfl hg17 ?_
                          refine o_p (p_pure rfl) rfl ?_
                          refine o_on 105 _ rfl rfl hg15 ?_
                          refine o_p (p_pickt rfl rfl hg17 rfl) rfl ?_
                          refine o_nil ?_
                          exact s_joinN 2 111 _ rfl rfl rfl (fun w h => by first | exact h | exact h.ent (by repeat (first | exact .nil | refine .cons (by repeat (first | exact .here | apply Pick.there)) ?_))))
                        (by
                          intro hg19
                          have hs20 := hg19; try simp only [decide_eq_true_eq, decide_eq_false_iff_not, Bool.not_eq_true', Bool.not_eq_false', Bool.and_eq_true, Bool.or_eq_true, Bool.and_eq_false_iff, Bool.or_eq_false_iff, Bool.not_true, Bool.not_false] at hs20
                          refine o_off 109 _ rfl rfl hg19 rfl ?_
                          refine o_on 105 _ rfl rfl hg15 ?_
                          refine o_p (p_pickf rfl rfl hg19 rfl) rfl ?_
                          refine o_nil ?_
                          exact s_joinN 2 111 _ rfl rfl rfl (fun w h => by first | exact h | exact h.ent (by repeat (first | exact .nil | refine .cons (by repeat (first | exact .here | apply Pick.there)) ?_)))) ?_
                      refine o_on 97 _ rfl rfl hg9 ?_
                      refine o_p (p_pickf rfl rfl hg15 rfl) rfl ?_
                      refine o_nil ?_
                      exact s_joinN 6 112 _ rfl rfl rfl (fun w h => by first | exact h | exact h.ent (by repeat (first | exact .nil | refine .cons (by repeat (first | exact .here | apply Pick.there)) ?_))))
                    (by
                      intro hg21
                      have hs22 := hg21; try simp only [decide_eq_true_eq, decide_eq_false_iff_not, Bool.not_eq_true', Bool.not_eq_false', Bool.and_eq_true, Bool.or_eq_true, Bool.and_eq_false_iff, Bool.or_eq_false_iff, Bool.not_true, Bool.not_false] at hs22
                      refine o_off 105 _ rfl rfl hg21 rfl ?_
                      refine o_off 105 _ rfl rfl hg21 rfl ?_
                      refine o_off 105 _ rfl rfl hg21 rfl ?_
                      refine o_off 105 _ rfl rfl hg21 rfl ?_
                      refine o_off' 109 rfl rfl rfl ?_
                      refine o_off 105 _ rfl rfl hg21 rfl ?_
                      refine o_on 97 _ rfl rfl hg9 ?_
                      refine o_p (p_pickt rfl rfl hg21 rfl) rfl ?_
                      refine o_nil ?_
                      exact s_joinN 7 112 _ rfl rfl rfl (fun w h => by first | exact h | exact h.ent (by repeat (first | exact .nil | refine .cons (by repeat (first | exact .here | apply Pick.there)) ?_)))) ?_
                  refine o_p (p_pickt rfl rfl hg9 rfl) rfl ?_
                  refine o_nil ?_
                  exact s_joinN 7 113 _ rfl rfl rfl (fun w h => by first | exact h | exact h.ent (by repeat (first | exact .nil | refine .cons (by repeat (first | exact .here | apply Pick.there)) ?_))))
                (by
                  intro hg23
                  have hs24 := hg23; try simp only [decide_eq_true_eq, decide_eq_false_iff_not, Bool.not_eq_true', Bool.not_eq_false', Bool.and_eq_true, Bool.or_eq_true, Bool.and_eq_false_iff, Bool.or_eq_false_iff, Bool.not_true, Bool.not_false] at hs24
                  refine o_off 97 _ rfl rfl hg23 rfl ?_
                  refine o_off 97 _ rfl rfl hg23 rfl ?_
                  refine o_off 97 _ rfl rfl hg23 rfl ?_
                  refine o_off' 100 rfl rfl rfl ?_
                  refine o_off' 100 rfl rfl rfl ?_
                  refine o_off' 100 rfl rfl rfl ?_
                  refine o_off 97 _ rfl rfl hg23 rfl ?_
                  refine o_off 97 _ rfl rfl hg23 rfl ?_
                  refine o_off' 105 rfl rfl rfl ?_
                  refine o_off' 105 rfl rfl rfl ?_
                  refine o_off' 105 rfl rfl rfl ?_
                  refine o_off' 105 rfl rfl rfl ?_
                  refine o_off' 109 rfl rfl rfl ?_
                  refine o_off' 105 rfl rfl rfl ?_
                  refine o_off 97 _ rfl rfl hg23 rfl ?_
                  refine o_p (p_pickf rfl rfl hg23 rfl) rfl ?_
                  refine o_nil ?_
                  exact s_joinN 16 113 _ rfl rfl rfl (fun w h => by first | exact h | exact h.ent (by repeat (first | exact .nil | refine .cons (by repeat (first | exact .here | apply Pick.there)) ?_)))) ?_
              refine o_nil ?_
              refine s_cond rfl (fun h25 => ?_) (fun h25 => ?_)
              · try simp only [decide_eq_true_eq, decide_eq_false_iff_not, Bool.not_eq_true', Bool.not_eq_false', Bool.and_eq_true, Bool.or_eq_true, Bool.and_eq_false_iff, Bool.or_eq_false_iff, Bool.not_true, Bool.not_false] at h25
                have hhit : (ovl (nth (nth (nth L i).op n).lk m) ⟨fr, cnt, false⟩ && kpW w9 (nth (nth (nth L i).op n).lk m).ex (decide (n ≠ k))) = true := by have hq := h25; have e9 : ((n : Int) = (k : Int)) ↔ n = k := Int.ofNat_inj; unfold kpW; simp only [e9] at hq; first | (simp at hq ⊢; exact hq) | (simp at hq ⊢; grind)
                refine s_seq ?_
                refine s_region ?_
                refine o_p (p_pure rfl) rfl ?_
                refine o_nil ?_
                exact s_retv (rs := [.tmp 10]) rfl (.tmp rfl (.nil)) (fun w' h' => ⟨by rw [mayR, if_pos hz1, mayT, hfe]; simp only [if_true]; rw [if_pos hrg, nth_pls hi, LFil.pl, nth_plo hk]; skip; rw [if_pos hyes2, if_pos (mayB_hit (n := n) (m := m) (by simp; omega) (by rw [nth_plo hnl]; exact hml) (by rw [nth_plo hnl]; exact hhit))]; rfl, h'.below⟩)
              · try simp only [decide_eq_true_eq, decide_eq_false_iff_not, Bool.not_eq_true', Bool.not_eq_false', Bool.and_eq_true, Bool.or_eq_true, Bool.and_eq_false_iff, Bool.or_eq_false_iff, Bool.not_true, Bool.not_false] at h25
                have hmiss : (ovl (nth (nth (nth L i).op n).lk m) ⟨fr, cnt, false⟩ && kpW w9 (nth (nth (nth L i).op n).lk m).ex (decide (n ≠ k))) = false := by have hq := h25; have e9 : ((n : Int) = (k : Int)) ↔ n = k := Int.ofNat_inj; unfold kpW; simp only [e9] at hq; first | (simp at hq ⊢; exact hq) | (simp at hq ⊢; grind)
                refine s_skip ?_
                refine s_blk ?_
                refine s_region ?_
                refine o_p (p_pure rfl) rfl ?_
                refine o_p (p_pure rfl) rfl ?_
                try (refine o_slot (i64w (by omega) (by omega)) ?_)
                refine o_p (p_pure rfl) rfl ?_
                refine o_nil ?_
                exact s_backI (m + 1) (by omega) ⟨by omega, fun m2 h2 => (Nat.lt_or_ge m2 m).elim (hm3 m2) (fun h3 => by obtain rfl : m2 = m := (by omega); exact hmiss)⟩ (by repeat (first | exact sl_n | refine sl_c rfl ?_)) (fun w h => h.ent (by repeat (first | exact .nil | refine .cons (by repeat (first | exact .here | apply Pick.there)) ?_)))
            · try simp only [decide_eq_true_eq, decide_eq_false_iff_not, Bool.not_eq_true', Bool.not_eq_false', Bool.and_eq_true, Bool.or_eq_true, Bool.and_eq_false_iff, Bool.or_eq_false_iff, Bool.not_true, Bool.not_false] at h7
              refine s_exit_to rfl ?_
              refine s_blk ?_
              refine s_weaken (L' := [(2, _), (3, _), (4, _), (5, _), (13, _), (14, _), (16, _), (17, _), (51, _), (52, _), (53, _), (54, _), (55, _), (56, _), (57, _), (58, _), (59, _)]) (by repeat (first | exact sl_n | refine sl_c rfl ?_)) (fun _ h => h) ?_
              refine s_region ?_
              refine o_p (p_pure rfl) rfl ?_
              refine o_p (p_pure rfl) rfl ?_
              try (refine o_slot (i64w (by omega) (by omega)) ?_)
              refine o_p (p_pure rfl) rfl ?_
              refine o_nil ?_
              exact s_backI (n + 1) (by omega) ⟨by omega, fun n2 h2 m2 hm2 => (Nat.lt_or_ge n2 n).elim (fun h3 => hn2 n2 h3 m2 hm2) (fun h3 => by obtain rfl : n2 = n := (by omega); exact hm3 m2 (by omega))⟩ (by repeat (first | exact sl_n | refine sl_c rfl ?_)) (fun w h => h.ent (by repeat (first | exact .nil | refine .cons (by repeat (first | exact .here | apply Pick.there)) ?_)))
          · try simp only [decide_eq_true_eq, decide_eq_false_iff_not, Bool.not_eq_true', Bool.not_eq_false', Bool.and_eq_true, Bool.or_eq_true, Bool.and_eq_false_iff, Bool.or_eq_false_iff, Bool.not_true, Bool.not_false] at h6
            refine s_exit_to rfl ?_
            refine s_seq ?_
            refine s_region ?_
            refine o_p (p_pure rfl) rfl ?_
            refine o_nil ?_
            exact s_retv (rs := [.tmp 10]) rfl (.tmp rfl (.nil)) (fun w' h' => ⟨by rw [mayR, if_pos hz1, mayT, hfe]; simp only [if_true]; rw [if_pos hrg, nth_pls hi, LFil.pl, nth_plo hk]; skip; rw [if_pos hyes2, if_neg (by rw [mayB_no (fun n9 h9 m9 h8 => by rw [List.length_map] at h9; rw [nth_plo h9] at h8 ⊢; exact hn2 n9 (by omega) m9 h8)]; decide)]; rfl, h'.below⟩)

end Go.Proofs

namespace Go.Proofs
open Go Go.RowKit Gx
set_option linter.unusedVariables false
set_option linter.unusedSimpArgs false
attribute [local irreducible] Go.Calls Gx.S Gx.O Gx.D Gx.OpP Gx.OpQ Gx.OpH



theorem lockE_l {L : List LFil} {i k : Nat} {q : Lock} (hi : i < L.length) (hk : k < (nth L i).op.length) : lockE (pls L) i k q = if (hasB (nth (nth L i).op k).ac 1 || hasB (nth (nth L i).op k).ac 2) = true then if (nth (nth L i).op k).lk.length < 16 then if anyK (nth L i).pl q = true then 29 else 0 else 16 else 27 := by
  unfold lockE
  rw [nth_pls hi, LFil.pl, nth_plo hk]
  rfl
theorem lockT_f {L : List Fil} {h : Int} {q : Lock} (hn : ¬ (findF L h 0).2.2 = 0) : (lockT L h q).2 = (findF L h 0).2.2 := by rw [lockT, if_neg hn]
theorem lockT_r {L : List Fil} {h : Int} {q : Lock} (hn : (findF L h 0).2.2 = 0) (h2 : ¬ rngE q.fr q.cnt = 0) : lockT L h q = (L, rngE q.fr q.cnt) := by rw [lockT, if_pos hn, if_neg h2]
theorem lockT_l {L : List Fil} {h : Int} {q : Lock} {i k : Nat} (hfe : findF L h 0 = (i, k, 0)) (h2 : rngE q.fr q.cnt = 0) : lockT L h q = if lockE L i k q = 0 then (updO L i k fun o => { o with lk := o.lk ++ [q] }, 0) else (L, lockE L i k q) := by
  rw [lockT, hfe]
  simp only [if_true]
  rw [if_pos h2]
theorem lockT_x {L : List Fil} {h : Int} {q : Lock} {i k : Nat} {e : Int} (hfe : findF L h 0 = (i, k, 0)) (h2 : rngE q.fr q.cnt = 0) (h3 : lockE L i k q = e) (h4 : ¬ e = 0) : lockT L h q = (L, e) := by rw [lockT_l hfe h2, h3, if_neg h4]
theorem anyK_hit {f : LFil} {q : Lock} {n m : Nat} (hn : n < f.op.length) (hm : m < (nth f.op n).lk.length) (h : clsh q (nth (nth f.op n).lk m) = true) : anyK f.pl q = true := by
  unfold anyK
  rw [List.any_eq_true]
  refine ⟨(nth f.op n).pl, List.mem_map.2 ⟨_, mem_nth hn, rfl⟩, ?_⟩
  rw [List.any_eq_true]
  exact ⟨_, mem_nth hm, by rw [clsh_comm]; exact h⟩
theorem anyK_no {f : LFil} {q : Lock} (h : ∀ n, n < f.op.length → ∀ m, m < (nth f.op n).lk.length → clsh q (nth (nth f.op n).lk m) = false) : anyK f.pl q = false := by
  unfold anyK
  rw [List.any_eq_false]
  intro o ho
  obtain ⟨p, hp, rfl⟩ := List.mem_map.1 ho
  obtain ⟨n, hn, rfl⟩ := mem_nth_ex hp
  rw [Bool.not_eq_true, List.any_eq_false]
  intro x hx
  obtain ⟨m, hm, rfl⟩ := mem_nth_ex hx
  rw [clsh_comm]
  show ¬ clsh q (nth (nth f.op n).lk m) = true
  rw [h n hn m hm]
  decide
theorem same_op {f f' : LFil} {k : Nat} (h : f'.pl = f.pl) (hk : k < f.op.length) : k < f'.op.length ∧ f'.op.length = f.op.length ∧ (nth f'.op k).pl = (nth f.op k).pl := by
  have h1 : plo f'.op = plo f.op := congrArg Fil.op h
  have hl : f'.op.length = f.op.length := by
    have h9 := congrArg List.length h1
    simpa using h9
  refine ⟨by omega, hl, ?_⟩
  rw [← nth_plo (show k < f'.op.length by omega), h1, nth_plo hk]

set_option maxRecDepth 20000 in
set_option maxHeartbeats 1000000 in
theorem c25 (w : World) (next : Int) (a : Option Addr) (cap : Nat) (L : List LFil) (h : Int) (q : Lock) (hs : Ft w [] a L) (hm : L.length ≤ 1000) (hmo : ∀ f ∈ L, f.op.length ≤ 1000) (hml : ∀ f ∈ L, ∀ o ∈ f.op, o.lk.length ≤ 1000) : Calls Try.prog 25 #[.agg #[.int .i64 next, .slice a L.length cap], .int .i64 h, .agg #[.int .i64 q.fr, .int .i64 q.cnt, .bool q.ex]] w fun en w' => ∃ g : (Option Addr × Nat) × List LFil, en = .returned (.tuple #[.agg #[.int .i64 (afT next (pls L) (lockT (pls L) h q)).1.2, .slice g.1.1 g.2.length g.1.2], .int .i64 (afT next (pls L) (lockT (pls L) h q)).2]) ∧ pls g.2 = (afT next (pls L) (lockT (pls L) h q)).1.1 ∧ HS w [] [.files g.1.1 g.1.2 g.2] w' := by
  refine enter (args := [_, _, _]) Try.func25 Try.ntmps25 rfl rfl (HS.refl w []) ?_
  refine s_seq ?_
  refine s_region ?_
  refine o_h (h_box rfl rfl) rfl (fun b1 _ => ?_)
  refine o_h (h_box rfl rfl) rfl (fun b2 _ => ?_)
  refine o_h (h_alloc rfl zr_26) rfl (fun b3 _ => ?_)
  refine o_p (p_pure rfl) rfl ?_
  refine o_nil ?_
  refine s_seq ?_
  refine s_seq ?_
  refine s_region ?_
  first | refine o_q (q_loadn rfl rfl sz_26 (by repeat (first | exact .here | apply Pick.there)) rfl) rfl ?_ | refine o_q (q_load_atn _ rfl rfl sz_26 fun w h => (h.rd_blk (Mc := []) (b := ga) (by repeat (first | exact .here | apply Pick.there)) (by rw [flat_get fv4 _ i 3 _ (nth_get hiN) (by decide)]; rfl) (by simp))) rfl ?_ | refine o_q (q_load_atn _ rfl rfl sz_26 fun w h => (h.rd_blk (Mc := []) (b := go) (by repeat (first | exact .here | apply Pick.there)) (by rw [flat_get ov5 _ k 4 _ (nth_get hkN) (by decide)]; rfl) (by simp))) rfl ?_ | refine o_q (q_load_oldn _ rfl rfl sz_26 (hs.1.rdj 3 hi rfl)) rfl ?_ | refine o_q (q_load_oldn _ rfl rfl sz_26 rfl (Rw.rd (hs.at hi).1 hk)) rfl ?_ | refine o_q (q_load_oldn _ rfl rfl sz_26 ((hs.at hi).1.rdj 4 hnl rfl)) rfl ?_ | refine o_q (q_load_oldn _ rfl rfl sz_26 rfl (Rw.rd ((hs.at hi).at hnl) hml)) rfl ?_
  refine o_p (p_pure rfl) rfl ?_
  refine o_q (q_call rfl fn_68 rfl (fun w1 h1 => c68 w1 next a cap L h (hs.later h1) hm hmo)) rfl ?_
  refine o_p (p_pure rfl) rfl ?_
  refine o_nil ?_
  refine s_seq ?_
  refine s_region ?_
  refine o_p (p_pure rfl) rfl ?_
  refine o_p (p_pure rfl) rfl ?_
  refine o_nil ?_
  refine s_cond rfl (fun h4 => ?_) (fun h4 => ?_)
  · try simp only [decide_eq_true_eq, decide_eq_false_iff_not, Bool.not_eq_true', Bool.not_eq_false', Bool.and_eq_true, Bool.or_eq_true, Bool.and_eq_false_iff, Bool.or_eq_false_iff, Bool.not_true, Bool.not_false] at h4
    have hz : ¬ hErr next (pls L) h = 0 := h4
    refine s_seq ?_
    refine s_region ?_
    refine o_p (p_build (cs := [_, _]) rfl rfl pl_26 zr_26 rfl) rfl ?_
    refine o_p (p_pure rfl) rfl ?_
    refine o_h0 (h_store rfl rfl rfl sz_26 rfl (by repeat (first | exact .here | apply Put.there)) (by simp only [setMany_length, List.length_set, List.length_cons, List.length_nil, List.length_map]; omega) rfl) (fun _ _ => ?_)
    refine o_p (p_pure rfl) rfl ?_
    refine o_nil ?_
    exact s_retv (rs := [.cell 6 26, .tmp 7]) rfl (.cell rfl sz_26 (by repeat (first | exact .here | apply Pick.there)) rfl (.tmp rfl (.nil))) (fun w' h' => by have hR := afT_h (r := (lockT (pls L) h q)) hz (fun h9 => lockT_f h9); exact ⟨((none, 0), []), by rw [hR]; rfl, by rw [hR]; rfl, (HS.files_none h').ent (by repeat (first | exact .nil | refine .cons (by repeat (first | exact .here | apply Pick.there)) ?_))⟩)
  · try simp only [decide_eq_true_eq, decide_eq_false_iff_not, Bool.not_eq_true', Bool.not_eq_false', Bool.and_eq_true, Bool.or_eq_true, Bool.and_eq_false_iff, Bool.or_eq_false_iff, Bool.not_true, Bool.not_false] at h4
    have hz : hErr next (pls L) h = 0 := h4
    obtain ⟨hz1, hz2⟩ := hErr_0 hz
    have hok := chk_ok hz1
    have hV := hok.vw
    obtain ⟨i, k, hfe, hi, hk, hV3⟩ := findF_some hV hz2
    have hfd : fdI (pls L) h = ((i : Int), (k : Int)) := by rw [fdI, hfe]; rfl
    have hoi := hmo _ (mem_nth hi)
    refine s_skip ?_
    refine s_seq ?_
    refine s_seq ?_
    refine s_region ?_
    refine o_p (p_fieldAddr rfl rfl fd_62_0 sz_3 rfl) rfl ?_
    first | refine o_q (q_load rfl rfl sz_3 (by repeat (first | exact .here | apply Pick.there)) rfl) rfl ?_ | refine o_q (q_load_at rfl rfl sz_3 (fun w h => (h.rd_blk (Mc := []) (b := ga) (by repeat (first | exact .here | apply Pick.there)) (by rw [flat_get fv4 _ i 3 _ (nth_get hiN) (by decide)]; rfl) (by simp)))) rfl ?_ | refine o_q (q_load_at rfl rfl sz_3 (fun w h => (h.rd_blk (Mc := []) (b := go) (by repeat (first | exact .here | apply Pick.there)) (by rw [flat_get ov5 _ k 4 _ (nth_get hkN) (by decide)]; rfl) (by simp)))) rfl ?_ | refine o_q (q_load_old rfl rfl sz_3 ((hs.1.rdj 3 hi rfl))) rfl ?_ | refine o_q (q_load_old rfl rfl sz_3 (rfl (Rw.rd (hs.at hi).1 hk))) rfl ?_ | refine o_q (q_load_old rfl rfl sz_3 (((hs.at hi).1.rdj 4 hnl rfl))) rfl ?_ | refine o_q (q_load_old rfl rfl sz_3 (rfl (Rw.rd ((hs.at hi).at hnl) hml))) rfl ?_
    refine o_p (p_fieldAddr rfl rfl fd_62_1 sz_3 rfl) rfl ?_
    first | refine o_q (q_load rfl rfl sz_3 (by repeat (first | exact .here | apply Pick.there)) rfl) rfl ?_ | refine o_q (q_load_at rfl rfl sz_3 (fun w h => (h.rd_blk (Mc := []) (b := ga) (by repeat (first | exact .here | apply Pick.there)) (by rw [flat_get fv4 _ i 3 _ (nth_get hiN) (by decide)]; rfl) (by simp)))) rfl ?_ | refine o_q (q_load_at rfl rfl sz_3 (fun w h => (h.rd_blk (Mc := []) (b := go) (by repeat (first | exact .here | apply Pick.there)) (by rw [flat_get ov5 _ k 4 _ (nth_get hkN) (by decide)]; rfl) (by simp)))) rfl ?_ | refine o_q (q_load_old rfl rfl sz_3 ((hs.1.rdj 3 hi rfl))) rfl ?_ | refine o_q (q_load_old rfl rfl sz_3 (rfl (Rw.rd (hs.at hi).1 hk))) rfl ?_ | refine o_q (q_load_old rfl rfl sz_3 (((hs.at hi).1.rdj 4 hnl rfl))) rfl ?_ | refine o_q (q_load_old rfl rfl sz_3 (rfl (Rw.rd ((hs.at hi).at hnl) hml))) rfl ?_
    refine o_q (q_call rfl fn_69 rfl (fun w1 h1 => c69 w1 q.fr q.cnt)) rfl ?_
    refine o_p (p_pure rfl) rfl ?_
    refine o_nil ?_
    refine s_seq ?_
    refine s_region ?_
    refine o_p (p_pure rfl) rfl ?_
    refine o_p (p_pure rfl) rfl ?_
    refine o_nil ?_
    refine s_cond rfl (fun h5 => ?_) (fun h5 => ?_)
    · try simp only [decide_eq_true_eq, decide_eq_false_iff_not, Bool.not_eq_true', Bool.not_eq_false', Bool.and_eq_true, Bool.or_eq_true, Bool.and_eq_false_iff, Bool.or_eq_false_iff, Bool.not_true, Bool.not_false] at h5
      have hrg : ¬ rngE q.fr q.cnt = 0 := h5
      have hlt := lockT_r hz2 hrg
      refine s_seq ?_
      refine s_region ?_
      refine o_p (p_build (cs := [_, _]) rfl rfl pl_26 zr_26 rfl) rfl ?_
      refine o_p (p_pure rfl) rfl ?_
      refine o_h0 (h_store rfl rfl rfl sz_26 rfl (by repeat (first | exact .here | apply Put.there)) (by simp only [setMany_length, List.length_set, List.length_cons, List.length_nil, List.length_map]; omega) rfl) (fun _ _ => ?_)
      refine o_p (p_pure rfl) rfl ?_
      refine o_nil ?_
      exact s_retv (rs := [.cell 6 26, .tmp 7]) rfl (.cell rfl sz_26 (by repeat (first | exact .here | apply Pick.there)) rfl (.tmp rfl (.nil))) (fun w' h' => by have hR := afT_e (r := (lockT (pls L) h q)) hz1 (by rw [hlt]; show ¬ (rngE q.fr q.cnt : Int) = 0; exact hrg); exact ⟨((none, 0), []), by rw [hR, hlt]; rfl, by rw [hR, hlt]; rfl, (HS.files_none h').ent (by repeat (first | exact .nil | refine .cons (by repeat (first | exact .here | apply Pick.there)) ?_))⟩)
    · try simp only [decide_eq_true_eq, decide_eq_false_iff_not, Bool.not_eq_true', Bool.not_eq_false', Bool.and_eq_true, Bool.or_eq_true, Bool.and_eq_false_iff, Bool.or_eq_false_iff, Bool.not_true, Bool.not_false] at h5
      have hrg : rngE q.fr q.cnt = 0 := h5
      have hl32 := (VW.lens hV).2 _ (mem_nth hi)
      refine s_skip ?_
      refine s_seq ?_
      refine s_region ?_
      first | refine o_q (q_loadn rfl rfl sz_26 (by repeat (first | exact .here | apply Pick.there)) rfl) rfl ?_ | refine o_q (q_load_atn _ rfl rfl sz_26 fun w h => (h.rd_blk (Mc := []) (b := ga) (by repeat (first | exact .here | apply Pick.there)) (by rw [flat_get fv4 _ i 3 _ (nth_get hiN) (by decide)]; rfl) (by simp))) rfl ?_ | refine o_q (q_load_atn _ rfl rfl sz_26 fun w h => (h.rd_blk (Mc := []) (b := go) (by repeat (first | exact .here | apply Pick.there)) (by rw [flat_get ov5 _ k 4 _ (nth_get hkN) (by decide)]; rfl) (by simp))) rfl ?_ | refine o_q (q_load_oldn _ rfl rfl sz_26 (hs.1.rdj 3 hi rfl)) rfl ?_ | refine o_q (q_load_oldn _ rfl rfl sz_26 rfl (Rw.rd (hs.at hi).1 hk)) rfl ?_ | refine o_q (q_load_oldn _ rfl rfl sz_26 ((hs.at hi).1.rdj 4 hnl rfl)) rfl ?_ | refine o_q (q_load_oldn _ rfl rfl sz_26 rfl (Rw.rd ((hs.at hi).at hnl) hml)) rfl ?_
      refine o_p (p_pure rfl) rfl ?_
      refine o_q (q_call rfl fn_70 rfl (fun w1 h1 => c70 w1 next a cap L h (hs.later h1) hm hmo)) rfl ?_
      rw [hfd]
      refine o_p (p_pure rfl) rfl ?_
      refine o_p (p_pure rfl) rfl ?_
      refine o_p (p_pure rfl) rfl ?_
      refine o_p (p_pure rfl) rfl ?_
      refine o_p (p_pure rfl) rfl ?_
      refine o_nil ?_
      refine s_seq ?_
      refine s_region ?_
      refine o_p (p_fieldAddr rfl rfl fd_26_1 sz_24 rfl) rfl ?_
      first | refine o_q (q_load rfl rfl sz_24 (by repeat (first | exact .here | apply Pick.there)) rfl) rfl ?_ | refine o_q (q_load_at rfl rfl sz_24 (fun w h => (h.rd_blk (Mc := []) (b := ga) (by repeat (first | exact .here | apply Pick.there)) (by rw [flat_get fv4 _ i 3 _ (nth_get hiN) (by decide)]; rfl) (by simp)))) rfl ?_ | refine o_q (q_load_at rfl rfl sz_24 (fun w h => (h.rd_blk (Mc := []) (b := go) (by repeat (first | exact .here | apply Pick.there)) (by rw [flat_get ov5 _ k 4 _ (nth_get hkN) (by decide)]; rfl) (by simp)))) rfl ?_ | refine o_q (q_load_old rfl rfl sz_24 ((hs.1.rdj 3 hi rfl))) rfl ?_ | refine o_q (q_load_old rfl rfl sz_24 (rfl (Rw.rd (hs.at hi).1 hk))) rfl ?_ | refine o_q (q_load_old rfl rfl sz_24 (((hs.at hi).1.rdj 4 hnl rfl))) rfl ?_ | refine o_q (q_load_old rfl rfl sz_24 (rfl (Rw.rd ((hs.at hi).at hnl) hml))) rfl ?_
      refine o_p (p_pure rfl) rfl ?_
      first | refine o_p (p_indexAddr rfl rfl rfl sl_24 (i) (by omega) (by omega) rfl) rfl ?_ | refine o_p (p_indexAddr rfl rfl rfl sl_24 (i) (by omega) (by omega) (Rw.some hs.1 (by omega))) rfl ?_ | refine o_p (p_indexAddr rfl rfl rfl sl_24 (i) (by omega) (by omega) (Rw.some (hs.at hi).1 (by omega))) rfl ?_ | refine o_p (p_indexAddr rfl rfl rfl sl_24 (i) (by omega) (by omega) (Rw.some ((hs.at hi).at hnl) (by omega))) rfl ?_ | refine o_p (p_indexAddr rfl rfl rfl sl_24 (i) (by omega) (by omega) hoa) rfl ?_
      refine o_p (p_fieldAddr rfl rfl fd_77_2 sz_75 rfl) rfl ?_
      first | refine o_q (q_load rfl rfl sz_75 (by repeat (first | exact .here | apply Pick.there)) rfl) rfl ?_ | refine o_q (q_load_at rfl rfl sz_75 (fun w h => (h.rd_blk (Mc := []) (b := ga) (by repeat (first | exact .here | apply Pick.there)) (by rw [flat_get fv4 _ i 3 _ (nth_get hiN) (by decide)]; rfl) (by simp)))) rfl ?_ | refine o_q (q_load_at rfl rfl sz_75 (fun w h => (h.rd_blk (Mc := []) (b := go) (by repeat (first | exact .here | apply Pick.there)) (by rw [flat_get ov5 _ k 4 _ (nth_get hkN) (by decide)]; rfl) (by simp)))) rfl ?_ | refine o_q (q_load_old rfl rfl sz_75 ((hs.1.rdj 3 hi rfl))) rfl ?_ | refine o_q (q_load_old rfl rfl sz_75 (rfl (Rw.rd (hs.at hi).1 hk))) rfl ?_ | refine o_q (q_load_old rfl rfl sz_75 (((hs.at hi).1.rdj 4 hnl rfl))) rfl ?_ | refine o_q (q_load_old rfl rfl sz_75 (rfl (Rw.rd ((hs.at hi).at hnl) hml))) rfl ?_
      refine o_p (p_pure rfl) rfl ?_
      first | refine o_p (p_indexAddr rfl rfl rfl sl_75 (k) (by omega) (by omega) rfl) rfl ?_ | refine o_p (p_indexAddr rfl rfl rfl sl_75 (k) (by omega) (by omega) (Rw.some hs.1 (by omega))) rfl ?_ | refine o_p (p_indexAddr rfl rfl rfl sl_75 (k) (by omega) (by omega) (Rw.some (hs.at hi).1 (by omega))) rfl ?_ | refine o_p (p_indexAddr rfl rfl rfl sl_75 (k) (by omega) (by omega) (Rw.some ((hs.at hi).at hnl) (by omega))) rfl ?_ | refine o_p (p_indexAddr rfl rfl rfl sl_75 (k) (by omega) (by omega) hoa) rfl ?_
      first | refine o_q (q_loadn rfl rfl sz_48 (by repeat (first | exact .here | apply Pick.there)) rfl) rfl ?_ | refine o_q (q_load_atn _ rfl rfl sz_48 fun w h => (h.rd_blk (Mc := []) (b := ga) (by repeat (first | exact .here | apply Pick.there)) (by rw [flat_get fv4 _ i 3 _ (nth_get hiN) (by decide)]; rfl) (by simp))) rfl ?_ | refine o_q (q_load_atn _ rfl rfl sz_48 fun w h => (h.rd_blk (Mc := []) (b := go) (by repeat (first | exact .here | apply Pick.there)) (by rw [flat_get ov5 _ k 4 _ (nth_get hkN) (by decide)]; rfl) (by simp))) rfl ?_ | refine o_q (q_load_oldn _ rfl rfl sz_48 (hs.1.rdj 3 hi rfl)) rfl ?_ | refine o_q (q_load_oldn _ rfl rfl sz_48 rfl (Rw.rd (hs.at hi).1 hk)) rfl ?_ | refine o_q (q_load_oldn _ rfl rfl sz_48 ((hs.at hi).1.rdj 4 hnl rfl)) rfl ?_ | refine o_q (q_load_oldn _ rfl rfl sz_48 rfl (Rw.rd ((hs.at hi).at hnl) hml)) rfl ?_
      refine o_h (h_alloc rfl zr_48) rfl (fun b6 _ => ?_)
      refine o_h0 (h_store rfl rfl rfl sz_48 rfl (by repeat (first | exact .here | apply Put.there)) (by simp only [setMany_length, List.length_set, List.length_cons, List.length_nil, List.length_map]; omega) rfl) (fun _ _ => ?_)
      refine o_nil ?_
      refine s_seq ?_
      refine s_seq ?_
      refine s_weaken (L' := [(3, _), (5, _), (6, _), (7, _), (10, _), (11, _), (12, _)]) (by repeat (first | exact sl_n | refine sl_c rfl ?_)) (fun _ h => h) ?_
      refine s_region ?_
      refine o_p (p_fieldAddr rfl rfl fd_48_1 sz_3 rfl) rfl ?_
      first | refine o_q (q_load rfl rfl sz_3 (by repeat (first | exact .here | apply Pick.there)) rfl) rfl ?_ | refine o_q (q_load_at rfl rfl sz_3 (fun w h => (h.rd_blk (Mc := []) (b := ga) (by repeat (first | exact .here | apply Pick.there)) (by rw [flat_get fv4 _ i 3 _ (nth_get hiN) (by decide)]; rfl) (by simp)))) rfl ?_ | refine o_q (q_load_at rfl rfl sz_3 (fun w h => (h.rd_blk (Mc := []) (b := go) (by repeat (first | exact .here | apply Pick.there)) (by rw [flat_get ov5 _ k 4 _ (nth_get hkN) (by decide)]; rfl) (by simp)))) rfl ?_ | refine o_q (q_load_old rfl rfl sz_3 ((hs.1.rdj 3 hi rfl))) rfl ?_ | refine o_q (q_load_old rfl rfl sz_3 (rfl (Rw.rd (hs.at hi).1 hk))) rfl ?_ | refine o_q (q_load_old rfl rfl sz_3 (((hs.at hi).1.rdj 4 hnl rfl))) rfl ?_ | refine o_q (q_load_old rfl rfl sz_3 (rfl (Rw.rd ((hs.at hi).at hnl) hml))) rfl ?_
      refine o_q (q_call rfl fn_71 rfl (fun w1 h1 => c71 w1 _ 1 (by have := openE_r hV3.1; omega) (by omega))) rfl ?_
      refine o_p (p_pure rfl) rfl ?_
      refine o_p (p_pure rfl) rfl ?_
      refine o_and 5 51 56 _ _ rfl
        (by
          intro hg7
          have hs8 := hg7; try simp only [decide_eq_true_eq, decide_eq_false_iff_not, Bool.not_eq_true', Bool.not_eq_false', Bool.and_eq_true, Bool.or_eq_true, Bool.and_eq_false_iff, Bool.or_eq_false_iff, Bool.not_true, Bool.not_false] at hs8
          refine o_on 51 _ rfl rfl hg7 ?_
          refine o_p (p_fieldAddr rfl rfl fd_48_1 sz_3 rfl) rfl ?_
          refine o_on 51 _ rfl rfl hg7 ?_
          first | refine o_q (q_load rfl rfl sz_3 (by repeat (first | exact .here | apply Pick.there)) rfl) rfl ?_ | refine o_q (q_load_at rfl rfl sz_3 (fun w h => (h.rd_blk (Mc := []) (b := ga) (by repeat (first | exact .here | apply Pick.there)) (by rw [flat_get fv4 _ i 3 _ (nth_get hiN) (by decide)]; rfl) (by simp)))) rfl ?_ | refine o_q (q_load_at rfl rfl sz_3 (fun w h => (h.rd_blk (Mc := []) (b := go) (by repeat (first | exact .here | apply Pick.there)) (by rw [flat_get ov5 _ k 4 _ (nth_get hkN) (by decide)]; rfl) (by simp)))) rfl ?_ | refine o_q (q_load_old rfl rfl sz_3 ((hs.1.rdj 3 hi rfl))) rfl ?_ | refine o_q (q_load_old rfl rfl sz_3 (rfl (Rw.rd (hs.at hi).1 hk))) rfl ?_ | refine o_q (q_load_old rfl rfl sz_3 (((hs.at hi).1.rdj 4 hnl rfl))) rfl ?_ | refine o_q (q_load_old rfl rfl sz_3 (rfl (Rw.rd ((hs.at hi).at hnl) hml))) rfl ?_
          refine o_on 51 _ rfl rfl hg7 ?_
          refine o_q (q_call rfl fn_71 rfl (fun w1 h1 => c71 w1 _ 2 (by have := openE_r hV3.1; omega) (by omega))) rfl ?_
          refine o_on 51 _ rfl rfl hg7 ?_
          refine o_p (p_pure rfl) rfl ?_
          refine o_p (p_pickt rfl rfl hg7 rfl) rfl ?_
          refine o_nil ?_
          exact s_joinN 5 56 _ rfl rfl rfl (fun w h => by first | exact h | exact h.ent (by repeat (first | exact .nil | refine .cons (by repeat (first | exact .here | apply Pick.there)) ?_))))
        (by
          intro hg9
          have hs10 := hg9; try simp only [decide_eq_true_eq, decide_eq_false_iff_not, Bool.not_eq_true', Bool.not_eq_false', Bool.and_eq_true, Bool.or_eq_true, Bool.and_eq_false_iff, Bool.or_eq_false_iff, Bool.not_true, Bool.not_false] at hs10
          refine o_off 51 _ rfl rfl hg9 rfl ?_
          refine o_off 51 _ rfl rfl hg9 rfl ?_
          refine o_off 51 _ rfl rfl hg9 rfl ?_
          refine o_off 51 _ rfl rfl hg9 rfl ?_
          refine o_p (p_pickf rfl rfl hg9 rfl) rfl ?_
          refine o_nil ?_
          exact s_joinN 5 56 _ rfl rfl rfl (fun w h => by first | exact h | exact h.ent (by repeat (first | exact .nil | refine .cons (by repeat (first | exact .here | apply Pick.there)) ?_)))) ?_
      refine o_nil ?_
      refine s_cond rfl (fun h11 => ?_) (fun h11 => ?_)
      · try simp only [decide_eq_true_eq, decide_eq_false_iff_not, Bool.not_eq_true', Bool.not_eq_false', Bool.and_eq_true, Bool.or_eq_true, Bool.and_eq_false_iff, Bool.or_eq_false_iff, Bool.not_true, Bool.not_false] at h11
        have hno : ¬ (hasB (nth (nth L i).op k).ac 1 || hasB (nth (nth L i).op k).ac 2) = true := by have hq := h11; simp at hq ⊢; exact hq
        have hlt := lockT_x (q := q) (e := 27) hfe hrg (by rw [lockE_l hi hk, if_neg hno]) (by decide)
        refine s_seq ?_
        refine s_region ?_
        refine o_p (p_build (cs := [_, _]) rfl rfl pl_26 zr_26 rfl) rfl ?_
        refine o_h0 (h_store rfl rfl rfl sz_26 rfl (by repeat (first | exact .here | apply Put.there)) (by simp only [setMany_length, List.length_set, List.length_cons, List.length_nil, List.length_map]; omega) rfl) (fun _ _ => ?_)
        refine o_p (p_pure rfl) rfl ?_
        refine o_nil ?_
        exact s_retv (rs := [.cell 6 26, .tmp 7]) rfl (.cell rfl sz_26 (by repeat (first | exact .here | apply Pick.there)) rfl (.tmp rfl (.nil))) (fun w' h' => by have hR := afT_e (r := (lockT (pls L) h q)) hz1 (by rw [hlt]; show ¬ (27 : Int) = 0; exact by decide); exact ⟨((none, 0), []), by rw [hR, hlt]; rfl, by rw [hR, hlt]; rfl, (HS.files_none h').ent (by repeat (first | exact .nil | refine .cons (by repeat (first | exact .here | apply Pick.there)) ?_))⟩)
      · try simp only [decide_eq_true_eq, decide_eq_false_iff_not, Bool.not_eq_true', Bool.not_eq_false', Bool.and_eq_true, Bool.or_eq_true, Bool.and_eq_false_iff, Bool.or_eq_false_iff, Bool.not_true, Bool.not_false] at h11
        have hyes : (hasB (nth (nth L i).op k).ac 1 || hasB (nth (nth L i).op k).ac 2) = true := by have hq := h11; simp at hq ⊢; grind
        refine s_skip ?_
        refine s_seq ?_
        refine s_seq ?_
        refine s_region ?_
        refine o_p (p_fieldAddr rfl rfl fd_48_4 sz_46 rfl) rfl ?_
        first | refine o_q (q_load rfl rfl sz_46 (by repeat (first | exact .here | apply Pick.there)) rfl) rfl ?_ | refine o_q (q_load_at rfl rfl sz_46 (fun w h => (h.rd_blk (Mc := []) (b := ga) (by repeat (first | exact .here | apply Pick.there)) (by rw [flat_get fv4 _ i 3 _ (nth_get hiN) (by decide)]; rfl) (by simp)))) rfl ?_ | refine o_q (q_load_at rfl rfl sz_46 (fun w h => (h.rd_blk (Mc := []) (b := go) (by repeat (first | exact .here | apply Pick.there)) (by rw [flat_get ov5 _ k 4 _ (nth_get hkN) (by decide)]; rfl) (by simp)))) rfl ?_ | refine o_q (q_load_old rfl rfl sz_46 ((hs.1.rdj 3 hi rfl))) rfl ?_ | refine o_q (q_load_old rfl rfl sz_46 (rfl (Rw.rd (hs.at hi).1 hk))) rfl ?_ | refine o_q (q_load_old rfl rfl sz_46 (((hs.at hi).1.rdj 4 hnl rfl))) rfl ?_ | refine o_q (q_load_old rfl rfl sz_46 (rfl (Rw.rd ((hs.at hi).at hnl) hml))) rfl ?_
        first | refine o_p (p_len_slice rfl rfl Try.underlying46) rfl ?_ | refine o_q (q_len_own rfl rfl Try.underlying46 (by repeat (first | exact .here | apply Pick.there))) rfl ?_
        refine o_p (p_pure rfl) rfl ?_
        refine o_nil ?_
        refine s_cond rfl (fun h12 => ?_) (fun h12 => ?_)
        · try simp only [decide_eq_true_eq, decide_eq_false_iff_not, Bool.not_eq_true', Bool.not_eq_false', Bool.and_eq_true, Bool.or_eq_true, Bool.and_eq_false_iff, Bool.or_eq_false_iff, Bool.not_true, Bool.not_false] at h12
          have hfull : ¬ (nth (nth L i).op k).lk.length < 16 := by have hq := h12; omega
          have hlt := lockT_x (q := q) (e := 16) hfe hrg (by rw [lockE_l hi hk, if_pos hyes, if_neg hfull]) (by decide)
          refine s_seq ?_
          refine s_region ?_
          refine o_p (p_build (cs := [_, _]) rfl rfl pl_26 zr_26 rfl) rfl ?_
          refine o_h0 (h_store rfl rfl rfl sz_26 rfl (by repeat (first | exact .here | apply Put.there)) (by simp only [setMany_length, List.length_set, List.length_cons, List.length_nil, List.length_map]; omega) rfl) (fun _ _ => ?_)
          refine o_p (p_pure rfl) rfl ?_
          refine o_nil ?_
          exact s_retv (rs := [.cell 6 26, .tmp 7]) rfl (.cell rfl sz_26 (by repeat (first | exact .here | apply Pick.there)) rfl (.tmp rfl (.nil))) (fun w' h' => by have hR := afT_e (r := (lockT (pls L) h q)) hz1 (by rw [hlt]; show ¬ (16 : Int) = 0; exact by decide); exact ⟨((none, 0), []), by rw [hR, hlt]; rfl, by rw [hR, hlt]; rfl, (HS.files_none h').ent (by repeat (first | exact .nil | refine .cons (by repeat (first | exact .here | apply Pick.there)) ?_))⟩)
        · try simp only [decide_eq_true_eq, decide_eq_false_iff_not, Bool.not_eq_true', Bool.not_eq_false', Bool.and_eq_true, Bool.or_eq_true, Bool.and_eq_false_iff, Bool.or_eq_false_iff, Bool.not_true, Bool.not_false] at h12
          have hroom : (nth (nth L i).op k).lk.length < 16 := by have hq := h12; have := hV3.2.2; omega
          refine s_skip ?_
          refine s_seq ?_
          refine s_seq ?_
          refine s_region ?_
          refine o_p (p_pure rfl) rfl ?_
          refine o_nil ?_
          refine s_block ?_
          refine s_weaken (L' := [(3, _), (5, _), (6, _), (7, _), (10, _), (11, _), (13, _)]) (by repeat (first | exact sl_n | refine sl_c rfl ?_)) (fun _ h => h) ?_
          refine s_loopI (α := Nat) [7, 13, 14, 63, 64, 65, 66, 67, 68, 69, 70, 71, 72, 73, 74, 75, 76, 77, 78, 79, 80, 81, 82, 83, 84, 85, 86, 87, 88, 89, 90, 91, 92, 93, 94, 95, 96, 97, 98, 99, 100, 101, 102, 103, 104] (fun n => [(13, .int .i64 (n : Int))]) (fun _ => HS w [] [.blk b1 26 2 [.int .i64 next, .slice a L.length cap], .blk b2 62 3 q.vals, .blk b3 26 2 [.int .i64 0, .slice none 0 0]]) (fun n => n ≤ (nth L i).op.length ∧ ∀ n2, n2 < n → ∀ m2, m2 < (nth (nth L i).op n2).lk.length → clsh q (nth (nth (nth L i).op n2).lk m2) = false) (fun n => (nth L i).op.length - n) 0 ⟨by omega, fun n2 h2 => absurd h2 (Nat.not_lt_zero n2)⟩ (by repeat (first | exact sl_n | refine sl_c rfl ?_)) (fun w h => h.ent (by repeat (first | exact .nil | refine .cons (by repeat (first | exact .here | apply Pick.there)) ?_))) (fun n hn => ?_)
          obtain ⟨hn1, hn2⟩ := hn
          refine s_seq ?_
          refine s_seq ?_
          refine s_region ?_
          refine o_p (p_pure rfl) rfl ?_
          refine o_p (p_fieldAddr rfl rfl fd_26_1 sz_24 rfl) rfl ?_
          first | refine o_q (q_load rfl rfl sz_24 (by repeat (first | exact .here | apply Pick.there)) rfl) rfl ?_ | refine o_q (q_load_at rfl rfl sz_24 (fun w h => (h.rd_blk (Mc := []) (b := ga) (by repeat (first | exact .here | apply Pick.there)) (by rw [flat_get fv4 _ i 3 _ (nth_get hiN) (by decide)]; rfl) (by simp)))) rfl ?_ | refine o_q (q_load_at rfl rfl sz_24 (fun w h => (h.rd_blk (Mc := []) (b := go) (by repeat (first | exact .here | apply Pick.there)) (by rw [flat_get ov5 _ k 4 _ (nth_get hkN) (by decide)]; rfl) (by simp)))) rfl ?_ | refine o_q (q_load_old rfl rfl sz_24 ((hs.1.rdj 3 hi rfl))) rfl ?_ | refine o_q (q_load_old rfl rfl sz_24 (rfl (Rw.rd (hs.at hi).1 hk))) rfl ?_ | refine o_q (q_load_old rfl rfl sz_24 (((hs.at hi).1.rdj 4 hnl rfl))) rfl ?_ | refine o_q (q_load_old rfl rfl sz_24 (rfl (Rw.rd ((hs.at hi).at hnl) hml))) rfl ?_
          refine o_p (p_pure rfl) rfl ?_
          first | refine o_p (p_indexAddr rfl rfl rfl sl_24 (i) (by omega) (by omega) rfl) rfl ?_ | refine o_p (p_indexAddr rfl rfl rfl sl_24 (i) (by omega) (by omega) (Rw.some hs.1 (by omega))) rfl ?_ | refine o_p (p_indexAddr rfl rfl rfl sl_24 (i) (by omega) (by omega) (Rw.some (hs.at hi).1 (by omega))) rfl ?_ | refine o_p (p_indexAddr rfl rfl rfl sl_24 (i) (by omega) (by omega) (Rw.some ((hs.at hi).at hnl) (by omega))) rfl ?_ | refine o_p (p_indexAddr rfl rfl rfl sl_24 (i) (by omega) (by omega) hoa) rfl ?_
          refine o_p (p_fieldAddr rfl rfl fd_77_2 sz_75 rfl) rfl ?_
          first | refine o_q (q_load rfl rfl sz_75 (by repeat (first | exact .here | apply Pick.there)) rfl) rfl ?_ | refine o_q (q_load_at rfl rfl sz_75 (fun w h => (h.rd_blk (Mc := []) (b := ga) (by repeat (first | exact .here | apply Pick.there)) (by rw [flat_get fv4 _ i 3 _ (nth_get hiN) (by decide)]; rfl) (by simp)))) rfl ?_ | refine o_q (q_load_at rfl rfl sz_75 (fun w h => (h.rd_blk (Mc := []) (b := go) (by repeat (first | exact .here | apply Pick.there)) (by rw [flat_get ov5 _ k 4 _ (nth_get hkN) (by decide)]; rfl) (by simp)))) rfl ?_ | refine o_q (q_load_old rfl rfl sz_75 ((hs.1.rdj 3 hi rfl))) rfl ?_ | refine o_q (q_load_old rfl rfl sz_75 (rfl (Rw.rd (hs.at hi).1 hk))) rfl ?_ | refine o_q (q_load_old rfl rfl sz_75 (((hs.at hi).1.rdj 4 hnl rfl))) rfl ?_ | refine o_q (q_load_old rfl rfl sz_75 (rfl (Rw.rd ((hs.at hi).at hnl) hml))) rfl ?_
          first | refine o_p (p_len_slice rfl rfl Try.underlying75) rfl ?_ | refine o_q (q_len_own rfl rfl Try.underlying75 (by repeat (first | exact .here | apply Pick.there))) rfl ?_
          refine o_p (p_pure rfl) rfl ?_
          refine o_nil ?_
          refine s_cond rfl (fun h13 => ?_) (fun h13 => ?_)
          · try simp only [decide_eq_true_eq, decide_eq_false_iff_not, Bool.not_eq_true', Bool.not_eq_false', Bool.and_eq_true, Bool.or_eq_true, Bool.and_eq_false_iff, Bool.or_eq_false_iff, Bool.not_true, Bool.not_false] at h13
            have hnl : n < (nth L i).op.length := by omega
            have hv9 := VW.at hV hi hnl
            refine s_skip ?_
            refine s_seq ?_
            refine s_block ?_
            refine s_seq ?_
            refine s_region ?_
            refine o_p (p_pure rfl) rfl ?_
            refine o_nil ?_
            refine s_block ?_
            refine s_loopI (α := Nat) [7, 14, 74, 75, 76, 77, 78, 79, 80, 81, 82, 83, 84, 85, 86, 87, 88, 89, 90, 91, 92, 93, 94, 95, 96, 97, 98, 99, 100, 101, 102, 103, 104] (fun m => [(14, .int .i64 (m : Int))]) (fun _ => HS w [] [.blk b1 26 2 [.int .i64 next, .slice a L.length cap], .blk b2 62 3 q.vals, .blk b3 26 2 [.int .i64 0, .slice none 0 0]]) (fun m => m ≤ (nth (nth L i).op n).lk.length ∧ ∀ m2, m2 < m → clsh q (nth (nth (nth L i).op n).lk m2) = false) (fun m => (nth (nth L i).op n).lk.length - m) 0 ⟨by omega, fun n2 h2 => absurd h2 (Nat.not_lt_zero n2)⟩ (by repeat (first | exact sl_n | refine sl_c rfl ?_)) (fun w h => h.ent (by repeat (first | exact .nil | refine .cons (by repeat (first | exact .here | apply Pick.there)) ?_))) (fun m hm => ?_)
            obtain ⟨hm1, hm3⟩ := hm
            refine s_seq ?_
            refine s_seq ?_
            refine s_region ?_
            refine o_p (p_pure rfl) rfl ?_
            refine o_p (p_fieldAddr rfl rfl fd_26_1 sz_24 rfl) rfl ?_
            first | refine o_q (q_load rfl rfl sz_24 (by repeat (first | exact .here | apply Pick.there)) rfl) rfl ?_ | refine o_q (q_load_at rfl rfl sz_24 (fun w h => (h.rd_blk (Mc := []) (b := ga) (by repeat (first | exact .here | apply Pick.there)) (by rw [flat_get fv4 _ i 3 _ (nth_get hiN) (by decide)]; rfl) (by simp)))) rfl ?_ | refine o_q (q_load_at rfl rfl sz_24 (fun w h => (h.rd_blk (Mc := []) (b := go) (by repeat (first | exact .here | apply Pick.there)) (by rw [flat_get ov5 _ k 4 _ (nth_get hkN) (by decide)]; rfl) (by simp)))) rfl ?_ | refine o_q (q_load_old rfl rfl sz_24 ((hs.1.rdj 3 hi rfl))) rfl ?_ | refine o_q (q_load_old rfl rfl sz_24 (rfl (Rw.rd (hs.at hi).1 hk))) rfl ?_ | refine o_q (q_load_old rfl rfl sz_24 (((hs.at hi).1.rdj 4 hnl rfl))) rfl ?_ | refine o_q (q_load_old rfl rfl sz_24 (rfl (Rw.rd ((hs.at hi).at hnl) hml))) rfl ?_
            refine o_p (p_pure rfl) rfl ?_
            first | refine o_p (p_indexAddr rfl rfl rfl sl_24 (i) (by omega) (by omega) rfl) rfl ?_ | refine o_p (p_indexAddr rfl rfl rfl sl_24 (i) (by omega) (by omega) (Rw.some hs.1 (by omega))) rfl ?_ | refine o_p (p_indexAddr rfl rfl rfl sl_24 (i) (by omega) (by omega) (Rw.some (hs.at hi).1 (by omega))) rfl ?_ | refine o_p (p_indexAddr rfl rfl rfl sl_24 (i) (by omega) (by omega) (Rw.some ((hs.at hi).at hnl) (by omega))) rfl ?_ | refine o_p (p_indexAddr rfl rfl rfl sl_24 (i) (by omega) (by omega) hoa) rfl ?_
            refine o_p (p_fieldAddr rfl rfl fd_77_2 sz_75 rfl) rfl ?_
            first | refine o_q (q_load rfl rfl sz_75 (by repeat (first | exact .here | apply Pick.there)) rfl) rfl ?_ | refine o_q (q_load_at rfl rfl sz_75 (fun w h => (h.rd_blk (Mc := []) (b := ga) (by repeat (first | exact .here | apply Pick.there)) (by rw [flat_get fv4 _ i 3 _ (nth_get hiN) (by decide)]; rfl) (by simp)))) rfl ?_ | refine o_q (q_load_at rfl rfl sz_75 (fun w h => (h.rd_blk (Mc := []) (b := go) (by repeat (first | exact .here | apply Pick.there)) (by rw [flat_get ov5 _ k 4 _ (nth_get hkN) (by decide)]; rfl) (by simp)))) rfl ?_ | refine o_q (q_load_old rfl rfl sz_75 ((hs.1.rdj 3 hi rfl))) rfl ?_ | refine o_q (q_load_old rfl rfl sz_75 (rfl (Rw.rd (hs.at hi).1 hk))) rfl ?_ | refine o_q (q_load_old rfl rfl sz_75 (((hs.at hi).1.rdj 4 hnl rfl))) rfl ?_ | refine o_q (q_load_old rfl rfl sz_75 (rfl (Rw.rd ((hs.at hi).at hnl) hml))) rfl ?_
            refine o_p (p_pure rfl) rfl ?_
            first | refine o_p (p_indexAddr rfl rfl rfl sl_75 (n) (by omega) (by omega) rfl) rfl ?_ | refine o_p (p_indexAddr rfl rfl rfl sl_75 (n) (by omega) (by omega) (Rw.some hs.1 (by omega))) rfl ?_ | refine o_p (p_indexAddr rfl rfl rfl sl_75 (n) (by omega) (by omega) (Rw.some (hs.at hi).1 (by omega))) rfl ?_ | refine o_p (p_indexAddr rfl rfl rfl sl_75 (n) (by omega) (by omega) (Rw.some ((hs.at hi).at hnl) (by omega))) rfl ?_ | refine o_p (p_indexAddr rfl rfl rfl sl_75 (n) (by omega) (by omega) hoa) rfl ?_
            refine o_p (p_fieldAddr rfl rfl fd_48_4 sz_46 rfl) rfl ?_
            first | refine o_q (q_load rfl rfl sz_46 (by repeat (first | exact .here | apply Pick.there)) rfl) rfl ?_ | refine o_q (q_load_at rfl rfl sz_46 (fun w h => (h.rd_blk (Mc := []) (b := ga) (by repeat (first | exact .here | apply Pick.there)) (by rw [flat_get fv4 _ i 3 _ (nth_get hiN) (by decide)]; rfl) (by simp)))) rfl ?_ | refine o_q (q_load_at rfl rfl sz_46 (fun w h => (h.rd_blk (Mc := []) (b := go) (by repeat (first | exact .here | apply Pick.there)) (by rw [flat_get ov5 _ k 4 _ (nth_get hkN) (by decide)]; rfl) (by simp)))) rfl ?_ | refine o_q (q_load_old rfl rfl sz_46 ((hs.1.rdj 3 hi rfl))) rfl ?_ | refine o_q (q_load_old rfl rfl sz_46 (rfl (Rw.rd (hs.at hi).1 hk))) rfl ?_ | refine o_q (q_load_old rfl rfl sz_46 (((hs.at hi).1.rdj 4 hnl rfl))) rfl ?_ | refine o_q (q_load_old rfl rfl sz_46 (rfl (Rw.rd ((hs.at hi).at hnl) hml))) rfl ?_
            first | refine o_p (p_len_slice rfl rfl Try.underlying46) rfl ?_ | refine o_q (q_len_own rfl rfl Try.underlying46 (by repeat (first | exact .here | apply Pick.there))) rfl ?_
            refine o_p (p_pure rfl) rfl ?_
            refine o_nil ?_
            refine s_cond rfl (fun h14 => ?_) (fun h14 => ?_)
            · try simp only [decide_eq_true_eq, decide_eq_false_iff_not, Bool.not_eq_true', Bool.not_eq_false', Bool.and_eq_true, Bool.or_eq_true, Bool.and_eq_false_iff, Bool.or_eq_false_iff, Bool.not_true, Bool.not_false] at h14
              have hml : m < (nth (nth L i).op n).lk.length := by omega
              refine s_skip ?_
              refine s_seq ?_
              refine s_block ?_
              refine s_seq ?_
              refine s_draw [] mixed ?_
              first | refine d_q 0 [] rfl (q_loadn rfl rfl sz_62 (by repeat (first | exact .here | apply Pick.there)) rfl) (by kernel_rfl) (by kernel_rfl) (by kernel_rfl) rfl ?_ | refine d_q 0 [] rfl (q_load_atn _ rfl rfl sz_62 fun w h => (h.rd_blk (Mc := []) (b := ga) (by repeat (first | exact .here | apply Pick.there)) (by rw [flat_get fv4 _ i 3 _ (nth_get hiN) (by decide)]; rfl) (by simp))) (by kernel_rfl) (by kernel_rfl) (by kernel_rfl) rfl ?_ | refine d_q 0 [] rfl (q_load_atn _ rfl rfl sz_62 fun w h => (h.rd_blk (Mc := []) (b := go) (by repeat (first | exact .here | apply Pick.there)) (by rw [flat_get ov5 _ k 4 _ (nth_get hkN) (by decide)]; rfl) (by simp))) (by kernel_rfl) (by kernel_rfl) (by kernel_rfl) rfl ?_ | refine d_q 0 [] rfl (q_load_oldn _ rfl rfl sz_62 (hs.1.rdj 3 hi rfl)) (by kernel_rfl) (by kernel_rfl) (by kernel_rfl) rfl ?_ | refine d_q 0 [] rfl (q_load_oldn _ rfl rfl sz_62 rfl (Rw.rd (hs.at hi).1 hk)) (by kernel_rfl) (by kernel_rfl) (by kernel_rfl) rfl ?_ | refine d_q 0 [] rfl (q_load_oldn _ rfl rfl sz_62 ((hs.at hi).1.rdj 4 hnl rfl)) (by kernel_rfl) (by kernel_rfl) (by kernel_rfl) rfl ?_ | refine d_q 0 [] rfl (q_load_oldn _ rfl rfl sz_62 rfl (Rw.rd ((hs.at hi).at hnl) hml)) (by kernel_rfl) (by kernel_rfl) (by kernel_rfl) rfl ?_
              refine d_p 1 rfl (p_fieldAddr rfl rfl fd_26_1 sz_24 rfl) (by kernel_rfl) rfl rfl ?_
              first | refine d_q 2 [] rfl (q_load rfl rfl sz_24 (by repeat (first | exact .here | apply Pick.there)) rfl) (by kernel_rfl) (by kernel_rfl) (by kernel_rfl) rfl ?_ | refine d_q 2 [] rfl (q_load_at rfl rfl sz_24 (fun w h => (h.rd_blk (Mc := []) (b := ga) (by repeat (first | exact .here | apply Pick.there)) (by rw [flat_get fv4 _ i 3 _ (nth_get hiN) (by decide)]; rfl) (by simp)))) (by kernel_rfl) (by kernel_rfl) (by kernel_rfl) rfl ?_ | refine d_q 2 [] rfl (q_load_at rfl rfl sz_24 (fun w h => (h.rd_blk (Mc := []) (b := go) (by repeat (first | exact .here | apply Pick.there)) (by rw [flat_get ov5 _ k 4 _ (nth_get hkN) (by decide)]; rfl) (by simp)))) (by kernel_rfl) (by kernel_rfl) (by kernel_rfl) rfl ?_ | refine d_q 2 [] rfl (q_load_old rfl rfl sz_24 ((hs.1.rdj 3 hi rfl))) (by kernel_rfl) (by kernel_rfl) (by kernel_rfl) rfl ?_ | refine d_q 2 [] rfl (q_load_old rfl rfl sz_24 (rfl (Rw.rd (hs.at hi).1 hk))) (by kernel_rfl) (by kernel_rfl) (by kernel_rfl) rfl ?_ | refine d_q 2 [] rfl (q_load_old rfl rfl sz_24 (((hs.at hi).1.rdj 4 hnl rfl))) (by kernel_rfl) (by kernel_rfl) (by kernel_rfl) rfl ?_ | refine d_q 2 [] rfl (q_load_old rfl rfl sz_24 (rfl (Rw.rd ((hs.at hi).at hnl) hml))) (by kernel_rfl) (by kernel_rfl) (by kernel_rfl) rfl ?_
              refine d_p 3 rfl (p_pure rfl) (by kernel_rfl) rfl rfl ?_
              first | refine d_p 4 rfl (p_indexAddr rfl rfl rfl sl_24 (i) (by omega) (by omega) rfl) (by kernel_rfl) rfl rfl ?_ | refine d_p 4 rfl (p_indexAddr rfl rfl rfl sl_24 (i) (by omega) (by omega) (Rw.some hs.1 (by omega))) (by kernel_rfl) rfl rfl ?_ | refine d_p 4 rfl (p_indexAddr rfl rfl rfl sl_24 (i) (by omega) (by omega) (Rw.some (hs.at hi).1 (by omega))) (by kernel_rfl) rfl rfl ?_ | refine d_p 4 rfl (p_indexAddr rfl rfl rfl sl_24 (i) (by omega) (by omega) (Rw.some ((hs.at hi).at hnl) (by omega))) (by kernel_rfl) rfl rfl ?_ | refine d_p 4 rfl (p_indexAddr rfl rfl rfl sl_24 (i) (by omega) (by omega) hoa) (by kernel_rfl) rfl rfl ?_
              refine d_p 5 rfl (p_fieldAddr rfl rfl fd_77_2 sz_75 rfl) (by kernel_rfl) rfl rfl ?_
              first | refine d_q 6 [] rfl (q_load rfl rfl sz_75 (by repeat (first | exact .here | apply Pick.there)) rfl) (by kernel_rfl) (by kernel_rfl) (by kernel_rfl) rfl ?_ | refine d_q 6 [] rfl (q_load_at rfl rfl sz_75 (fun w h => (h.rd_blk (Mc := []) (b := ga) (by repeat (first | exact .here | apply Pick.there)) (by rw [flat_get fv4 _ i 3 _ (nth_get hiN) (by decide)]; rfl) (by simp)))) (by kernel_rfl) (by kernel_rfl) (by kernel_rfl) rfl ?_ | refine d_q 6 [] rfl (q_load_at rfl rfl sz_75 (fun w h => (h.rd_blk (Mc := []) (b := go) (by repeat (first | exact .here | apply Pick.there)) (by rw [flat_get ov5 _ k 4 _ (nth_get hkN) (by decide)]; rfl) (by simp)))) (by kernel_rfl) (by kernel_rfl) (by kernel_rfl) rfl ?_ | refine d_q 6 [] rfl (q_load_old rfl rfl sz_75 ((hs.1.rdj 3 hi rfl))) (by kernel_rfl) (by kernel_rfl) (by kernel_rfl) rfl ?_ | refine d_q 6 [] rfl (q_load_old rfl rfl sz_75 (rfl (Rw.rd (hs.at hi).1 hk))) (by kernel_rfl) (by kernel_rfl) (by kernel_rfl) rfl ?_ | refine d_q 6 [] rfl (q_load_old rfl rfl sz_75 (((hs.at hi).1.rdj 4 hnl rfl))) (by kernel_rfl) (by kernel_rfl) (by kernel_rfl) rfl ?_ | refine d_q 6 [] rfl (q_load_old rfl rfl sz_75 (rfl (Rw.rd ((hs.at hi).at hnl) hml))) (by kernel_rfl) (by kernel_rfl) (by kernel_rfl) rfl ?_
              refine d_p 7 rfl (p_pure rfl) (by kernel_rfl) rfl rfl ?_
              first | refine d_p 8 rfl (p_indexAddr rfl rfl rfl sl_75 (n) (by omega) (by omega) rfl) (by kernel_rfl) rfl rfl ?_ | refine d_p 8 rfl (p_indexAddr rfl rfl rfl sl_75 (n) (by omega) (by omega) (Rw.some hs.1 (by omega))) (by kernel_rfl) rfl rfl ?_ | refine d_p 8 rfl (p_indexAddr rfl rfl rfl sl_75 (n) (by omega) (by omega) (Rw.some (hs.at hi).1 (by omega))) (by kernel_rfl) rfl rfl ?_ | refine d_p 8 rfl (p_indexAddr rfl rfl rfl sl_75 (n) (by omega) (by omega) (Rw.some ((hs.at hi).at hnl) (by omega))) (by kernel_rfl) rfl rfl ?_ | refine d_p 8 rfl (p_indexAddr rfl rfl rfl sl_75 (n) (by omega) (by omega) hoa) (by kernel_rfl) rfl rfl ?_
              refine d_p 9 rfl (p_fieldAddr rfl rfl fd_48_4 sz_46 rfl) (by kernel_rfl) rfl rfl ?_
              first | refine d_q 10 [] rfl (q_load rfl rfl sz_46 (by repeat (first | exact .here | apply Pick.there)) rfl) (by kernel_rfl) (by kernel_rfl) (by kernel_rfl) rfl ?_ | refine d_q 10 [] rfl (q_load_at rfl rfl sz_46 (fun w h => (h.rd_blk (Mc := []) (b := ga) (by repeat (first | exact .here | apply Pick.there)) (by rw [flat_get fv4 _ i 3 _ (nth_get hiN) (by decide)]; rfl) (by simp)))) (by kernel_rfl) (by kernel_rfl) (by kernel_rfl) rfl ?_ | refine d_q 10 [] rfl (q_load_at rfl rfl sz_46 (fun w h => (h.rd_blk (Mc := []) (b := go) (by repeat (first | exact .here | apply Pick.there)) (by rw [flat_get ov5 _ k 4 _ (nth_get hkN) (by decide)]; rfl) (by simp)))) (by kernel_rfl) (by kernel_rfl) (by kernel_rfl) rfl ?_ | refine d_q 10 [] rfl (q_load_old rfl rfl sz_46 ((hs.1.rdj 3 hi rfl))) (by kernel_rfl) (by kernel_rfl) (by kernel_rfl) rfl ?_ | refine d_q 10 [] rfl (q_load_old rfl rfl sz_46 (rfl (Rw.rd (hs.at hi).1 hk))) (by kernel_rfl) (by kernel_rfl) (by kernel_rfl) rfl ?_ | refine d_q 10 [] rfl (q_load_old rfl rfl sz_46 (((hs.at hi).1.rdj 4 hnl rfl))) (by kernel_rfl) (by kernel_rfl) (by kernel_rfl) rfl ?_ | refine d_q 10 [] rfl (q_load_old rfl rfl sz_46 (rfl (Rw.rd ((hs.at hi).at hnl) hml))) (by kernel_rfl) (by kernel_rfl) (by kernel_rfl) rfl ?_
              refine d_p 11 rfl (p_pure rfl) (by kernel_rfl) rfl rfl ?_
              first | refine d_p 12 rfl (p_indexAddr rfl rfl rfl sl_46 (m) (by omega) (by omega) rfl) (by kernel_rfl) rfl rfl ?_ | refine d_p 12 rfl (p_indexAddr rfl rfl rfl sl_46 (m) (by omega) (by omega) (Rw.some hs.1 (by omega))) (by kernel_rfl) rfl rfl ?_ | refine d_p 12 rfl (p_indexAddr rfl rfl rfl sl_46 (m) (by omega) (by omega) (Rw.some (hs.at hi).1 (by omega))) (by kernel_rfl) rfl rfl ?_ | refine d_p 12 rfl (p_indexAddr rfl rfl rfl sl_46 (m) (by omega) (by omega) (Rw.some ((hs.at hi).at hnl) (by omega))) (by kernel_rfl) rfl rfl ?_ | refine d_p 12 rfl (p_indexAddr rfl rfl rfl sl_46 (m) (by omega) (by omega) hoa) (by kernel_rfl) rfl rfl ?_
              first | refine d_q 13 [] rfl (q_loadn rfl rfl sz_62 (by repeat (first | exact .here | apply Pick.there)) rfl) (by kernel_rfl) (by kernel_rfl) (by kernel_rfl) rfl ?_ | refine d_q 13 [] rfl (q_load_atn _ rfl rfl sz_62 fun w h => (h.rd_blk (Mc := []) (b := ga) (by repeat (first | exact .here | apply Pick.there)) (by rw [flat_get fv4 _ i 3 _ (nth_get hiN) (by decide)]; rfl) (by simp))) (by kernel_rfl) (by kernel_rfl) (by kernel_rfl) rfl ?_ | refine d_q 13 [] rfl (q_load_atn _ rfl rfl sz_62 fun w h => (h.rd_blk (Mc := []) (b := go) (by repeat (first | exact .here | apply Pick.there)) (by rw [flat_get ov5 _ k 4 _ (nth_get hkN) (by decide)]; rfl) (by simp))) (by kernel_rfl) (by kernel_rfl) (by kernel_rfl) rfl ?_ | refine d_q 13 [] rfl (q_load_oldn _ rfl rfl sz_62 (hs.1.rdj 3 hi rfl)) (by kernel_rfl) (by kernel_rfl) (by kernel_rfl) rfl ?_ | refine d_q 13 [] rfl (q_load_oldn _ rfl rfl sz_62 rfl (Rw.rd (hs.at hi).1 hk)) (by kernel_rfl) (by kernel_rfl) (by kernel_rfl) rfl ?_ | refine d_q 13 [] rfl (q_load_oldn _ rfl rfl sz_62 ((hs.at hi).1.rdj 4 hnl rfl)) (by kernel_rfl) (by kernel_rfl) (by kernel_rfl) rfl ?_ | refine d_q 13 [] rfl (q_load_oldn _ rfl rfl sz_62 rfl (Rw.rd ((hs.at hi).at hnl) hml)) (by kernel_rfl) (by kernel_rfl) (by kernel_rfl) rfl ?_
              refine d_q 14 [] rfl (q_call rfl fn_72 rfl (fun w1 h1 => c72 w1 q _ hrg (okL_nth hv9.2.1 hml))) (by kernel_rfl) (by kernel_rfl) (by kernel_rfl) rfl ?_
              refine d_nil (by kernel_rfl) (fun w h => h.ent (by repeat (first | exact .nil | refine .cons (by repeat (first | exact .here | apply Pick.there)) ?_))) ?_
              refine s_cond rfl (fun h15 => ?_) (fun h15 => ?_)
              · try simp only [decide_eq_true_eq, decide_eq_false_iff_not, Bool.not_eq_true', Bool.not_eq_false', Bool.and_eq_true, Bool.or_eq_true, Bool.and_eq_false_iff, Bool.or_eq_false_iff, Bool.not_true, Bool.not_false] at h15
                have hhit := anyK_hit hnl hml h15
                have hlt := lockT_x (q := q) (e := 29) hfe hrg (by rw [lockE_l hi hk, if_pos hyes, if_pos hroom, if_pos hhit]) (by decide)
                refine s_seq ?_
                refine s_weaken (L' := [(3, _), (5, _), (6, _), (10, _), (11, _), (13, _), (14, _), (63, _), (64, _), (65, _), (66, _), (67, _), (68, _), (69, _), (70, _), (71, _)]) (by repeat (first | exact sl_n | refine sl_c rfl ?_)) (fun _ h => h) ?_
                refine s_region ?_
                refine o_p (p_build (cs := [_, _]) rfl rfl pl_26 zr_26 rfl) rfl ?_
                refine o_h0 (h_store rfl rfl rfl sz_26 rfl (by repeat (first | exact .here | apply Put.there)) (by simp only [setMany_length, List.length_set, List.length_cons, List.length_nil, List.length_map]; omega) rfl) (fun _ _ => ?_)
                refine o_p (p_pure rfl) rfl ?_
                refine o_nil ?_
                exact s_retv (rs := [.cell 6 26, .tmp 7]) rfl (.cell rfl sz_26 (by repeat (first | exact .here | apply Pick.there)) rfl (.tmp rfl (.nil))) (fun w' h' => by have hR := afT_e (r := (lockT (pls L) h q)) hz1 (by rw [hlt]; show ¬ (29 : Int) = 0; exact by decide); exact ⟨((none, 0), []), by rw [hR, hlt]; rfl, by rw [hR, hlt]; rfl, (HS.files_none h').ent (by repeat (first | exact .nil | refine .cons (by repeat (first | exact .here | apply Pick.there)) ?_))⟩)
              · try simp only [decide_eq_true_eq, decide_eq_false_iff_not, Bool.not_eq_true', Bool.not_eq_false', Bool.and_eq_true, Bool.or_eq_true, Bool.and_eq_false_iff, Bool.or_eq_false_iff, Bool.not_true, Bool.not_false] at h15
                have hmiss : clsh q (nth (nth (nth L i).op n).lk m) = false := by have hq := h15; simpa using hq
                refine s_skip ?_
                refine s_blk ?_
                refine s_weaken (L' := [(3, _), (5, _), (6, _), (10, _), (11, _), (13, _), (14, _), (63, _), (64, _), (65, _), (66, _), (67, _), (68, _), (69, _), (70, _), (71, _)]) (by repeat (first | exact sl_n | refine sl_c rfl ?_)) (fun _ h => h) ?_
                refine s_region ?_
                refine o_p (p_pure rfl) rfl ?_
                refine o_p (p_pure rfl) rfl ?_
                try (refine o_slot (i64w (by omega) (by omega)) ?_)
                refine o_p (p_pure rfl) rfl ?_
                refine o_nil ?_
                exact s_backI (m + 1) (by omega) ⟨by omega, fun m2 h2 => (Nat.lt_or_ge m2 m).elim (hm3 m2) (fun h3 => by have e9 : m2 = m := (by omega); rw [e9]; exact hmiss)⟩ (by repeat (first | exact sl_n | refine sl_c rfl ?_)) (fun w h => h.ent (by repeat (first | exact .nil | refine .cons (by repeat (first | exact .here | apply Pick.there)) ?_)))
            · try simp only [decide_eq_true_eq, decide_eq_false_iff_not, Bool.not_eq_true', Bool.not_eq_false', Bool.and_eq_true, Bool.or_eq_true, Bool.and_eq_false_iff, Bool.or_eq_false_iff, Bool.not_true, Bool.not_false] at h14
              refine s_exit_to rfl ?_
              refine s_blk ?_
              refine s_region ?_
              refine o_p (p_pure rfl) rfl ?_
              refine o_p (p_pure rfl) rfl ?_
              try (refine o_slot (i64w (by omega) (by omega)) ?_)
              refine o_p (p_pure rfl) rfl ?_
              refine o_nil ?_
              exact s_backI (n + 1) (by omega) ⟨by omega, fun n2 h2 m2 p2 => (Nat.lt_or_ge n2 n).elim (fun h3 => hn2 n2 h3 m2 p2) (fun h3 => by have e9 : n2 = n := (by omega); rw [e9] at p2 ⊢; exact hm3 m2 (by omega))⟩ (by repeat (first | exact sl_n | refine sl_c rfl ?_)) (fun w h => h.ent (by repeat (first | exact .nil | refine .cons (by repeat (first | exact .here | apply Pick.there)) ?_)))
          · try simp only [decide_eq_true_eq, decide_eq_false_iff_not, Bool.not_eq_true', Bool.not_eq_false', Bool.and_eq_true, Bool.or_eq_true, Bool.and_eq_false_iff, Bool.or_eq_false_iff, Bool.not_true, Bool.not_false] at h13
            have hnone := anyK_no (f := nth L i) (q := q) (fun n2 p1 m2 p2 => hn2 n2 (by omega) m2 p2)
            have hle : lockE (pls L) i k q = 0 := by rw [lockE_l hi hk, if_pos hyes, if_pos hroom, hnone]; rfl
            have hlt : lockT (pls L) h q = (updO (pls L) i k fun o => { o with lk := o.lk ++ [q] }, 0) := by rw [lockT_l hfe hrg, if_pos hle]
            refine s_exit_to rfl ?_
            refine s_seq ?_
            refine s_region ?_
            first | refine o_q (q_loadn rfl rfl sz_26 (by repeat (first | exact .here | apply Pick.there)) rfl) rfl ?_ | refine o_q (q_load_atn _ rfl rfl sz_26 fun w h => (h.rd_blk (Mc := []) (b := ga) (by repeat (first | exact .here | apply Pick.there)) (by rw [flat_get fv4 _ i 3 _ (nth_get hiN) (by decide)]; rfl) (by simp))) rfl ?_ | refine o_q (q_load_atn _ rfl rfl sz_26 fun w h => (h.rd_blk (Mc := []) (b := go) (by repeat (first | exact .here | apply Pick.there)) (by rw [flat_get ov5 _ k 4 _ (nth_get hkN) (by decide)]; rfl) (by simp))) rfl ?_ | refine o_q (q_load_oldn _ rfl rfl sz_26 (hs.1.rdj 3 hi rfl)) rfl ?_ | refine o_q (q_load_oldn _ rfl rfl sz_26 rfl (Rw.rd (hs.at hi).1 hk)) rfl ?_ | refine o_q (q_load_oldn _ rfl rfl sz_26 ((hs.at hi).1.rdj 4 hnl rfl)) rfl ?_ | refine o_q (q_load_oldn _ rfl rfl sz_26 rfl (Rw.rd ((hs.at hi).at hnl) hml)) rfl ?_
            refine o_h (h_call rfl fn_19 rfl (fun w1 h1 => c19 w1 next a cap L (hs.later h1) hm hmo hml)) rfl (fun ⟨⟨ca, cc⟩, N⟩ hgc => ?_)
            dsimp only at hgc ⊢
            obtain ⟨hiN, hpN⟩ := same_nth hgc hi
            obtain ⟨hkN, hoN, hqN⟩ := same_op hpN hk
            have hlN : (nth (nth N i).op k).lk = (nth (nth L i).op k).lk := congrArg Opn.lk hqN
            refine o_h (h_alloc rfl zr_26) rfl (fun b16 _ => ?_)
            refine o_fact (fun w h => files_addr (l := N) (a := ca) (cap := cc) (by omega) h (by repeat (first | exact .here | apply Pick.there))) (fun hga => ?_)
            obtain ⟨ga, rfl, hcap, hcm⟩ := hga
            refine o_fact (fun w h => file_addr (l := N) (i := i) hiN (by omega) h (by repeat (first | exact .here | apply Pick.there))) (fun hgo => ?_)
            obtain ⟨go, hoa, hoc, hom⟩ := hgo
            refine o_class (fun w h => HS.lock_at hiN hkN hoa h (by repeat (first | exact .here | apply Pick.there))) ?_
            refine o_h0 (h_store rfl rfl rfl sz_26 rfl (by repeat (first | exact .here | apply Put.there)) (by simp only [setMany_length, List.length_set, List.length_cons, List.length_nil, List.length_map]; omega) rfl) (fun _ _ => ?_)
            refine o_nil ?_
            refine s_seq ?_
            refine s_drawB [.blk go 48 ((nth N i).oc * 5) ((nth N i).op.flatMap LOpn.vals), .blk ga 77 (cc * 4) (N.flatMap LFil.vals), .star ((others (nth N i).op k).map subO), .star ((others N i).map subF), .blk b16 26 2 [.int .i64 next, .slice (some ⟨ga, 0, none⟩) N.length cc], .blk b2 62 3 q.vals, .blk b3 26 2 [.int .i64 0, .slice none 0 0]] [22] mixed ?_
            refine d_p 0 rfl (p_fieldAddr rfl rfl fd_26_1 sz_24 rfl) (by kernel_rfl) rfl rfl ?_
            first | refine d_q 1 [[]] rfl (q_load rfl rfl sz_24 (by repeat (first | exact .here | apply Pick.there)) rfl) (by kernel_rfl) (by kernel_rfl) (by kernel_rfl) rfl ?_ | refine d_q 1 [[]] rfl (q_load_at rfl rfl sz_24 (fun w h => (h.rd_blk (Mc := []) (b := ga) (by repeat (first | exact .here | apply Pick.there)) (by rw [flat_get fv4 _ i 3 _ (nth_get hiN) (by decide)]; rfl) (by simp)))) (by kernel_rfl) (by kernel_rfl) (by kernel_rfl) rfl ?_ | refine d_q 1 [[]] rfl (q_load_at rfl rfl sz_24 (fun w h => (h.rd_blk (Mc := []) (b := go) (by repeat (first | exact .here | apply Pick.there)) (by rw [flat_get ov5 _ k 4 _ (nth_get hkN) (by decide)]; rfl) (by simp)))) (by kernel_rfl) (by kernel_rfl) (by kernel_rfl) rfl ?_ | refine d_q 1 [[]] rfl (q_load_old rfl rfl sz_24 ((hs.1.rdj 3 hi rfl))) (by kernel_rfl) (by kernel_rfl) (by kernel_rfl) rfl ?_ | refine d_q 1 [[]] rfl (q_load_old rfl rfl sz_24 (rfl (Rw.rd (hs.at hi).1 hk))) (by kernel_rfl) (by kernel_rfl) (by kernel_rfl) rfl ?_ | refine d_q 1 [[]] rfl (q_load_old rfl rfl sz_24 (((hs.at hi).1.rdj 4 hnl rfl))) (by kernel_rfl) (by kernel_rfl) (by kernel_rfl) rfl ?_ | refine d_q 1 [[]] rfl (q_load_old rfl rfl sz_24 (rfl (Rw.rd ((hs.at hi).at hnl) hml))) (by kernel_rfl) (by kernel_rfl) (by kernel_rfl) rfl ?_
            refine d_p 2 rfl (p_pure rfl) (by kernel_rfl) rfl rfl ?_
            first | refine d_p 3 rfl (p_indexAddr rfl rfl rfl sl_24 (i) (by omega) (by omega) rfl) (by kernel_rfl) rfl rfl ?_ | refine d_p 3 rfl (p_indexAddr rfl rfl rfl sl_24 (i) (by omega) (by omega) (Rw.some hs.1 (by omega))) (by kernel_rfl) rfl rfl ?_ | refine d_p 3 rfl (p_indexAddr rfl rfl rfl sl_24 (i) (by omega) (by omega) (Rw.some (hs.at hi).1 (by omega))) (by kernel_rfl) rfl rfl ?_ | refine d_p 3 rfl (p_indexAddr rfl rfl rfl sl_24 (i) (by omega) (by omega) (Rw.some ((hs.at hi).at hnl) (by omega))) (by kernel_rfl) rfl rfl ?_ | refine d_p 3 rfl (p_indexAddr rfl rfl rfl sl_24 (i) (by omega) (by omega) hoa) (by kernel_rfl) rfl rfl ?_
            refine d_slot (show _ = Value.pointer (some ⟨ga, i * 4, none⟩) from by rw [Nat.zero_add]) ?_
            refine d_p 4 rfl (p_fieldAddr rfl rfl fd_77_2 sz_75 rfl) (by kernel_rfl) rfl rfl ?_
            first | refine d_q 5 [[]] rfl (q_load rfl rfl sz_75 (by repeat (first | exact .here | apply Pick.there)) rfl) (by kernel_rfl) (by kernel_rfl) (by kernel_rfl) rfl ?_ | refine d_q 5 [[]] rfl (q_load_at rfl rfl sz_75 (fun w h => (h.rd_blk (Mc := []) (b := ga) (by repeat (first | exact .here | apply Pick.there)) (by rw [flat_get fv4 _ i 3 _ (nth_get hiN) (by decide)]; rfl) (by simp)))) (by kernel_rfl) (by kernel_rfl) (by kernel_rfl) rfl ?_ | refine d_q 5 [[]] rfl (q_load_at rfl rfl sz_75 (fun w h => (h.rd_blk (Mc := []) (b := go) (by repeat (first | exact .here | apply Pick.there)) (by rw [flat_get ov5 _ k 4 _ (nth_get hkN) (by decide)]; rfl) (by simp)))) (by kernel_rfl) (by kernel_rfl) (by kernel_rfl) rfl ?_ | refine d_q 5 [[]] rfl (q_load_old rfl rfl sz_75 ((hs.1.rdj 3 hi rfl))) (by kernel_rfl) (by kernel_rfl) (by kernel_rfl) rfl ?_ | refine d_q 5 [[]] rfl (q_load_old rfl rfl sz_75 (rfl (Rw.rd (hs.at hi).1 hk))) (by kernel_rfl) (by kernel_rfl) (by kernel_rfl) rfl ?_ | refine d_q 5 [[]] rfl (q_load_old rfl rfl sz_75 (((hs.at hi).1.rdj 4 hnl rfl))) (by kernel_rfl) (by kernel_rfl) (by kernel_rfl) rfl ?_ | refine d_q 5 [[]] rfl (q_load_old rfl rfl sz_75 (rfl (Rw.rd ((hs.at hi).at hnl) hml))) (by kernel_rfl) (by kernel_rfl) (by kernel_rfl) rfl ?_
            refine d_p 6 rfl (p_pure rfl) (by kernel_rfl) rfl rfl ?_
            refine d_p 7 rfl (p_fieldAddr rfl rfl fd_26_1 sz_24 rfl) (by kernel_rfl) rfl rfl ?_
            first | refine d_q 8 [[]] rfl (q_load rfl rfl sz_24 (by repeat (first | exact .here | apply Pick.there)) rfl) (by kernel_rfl) (by kernel_rfl) (by kernel_rfl) rfl ?_ | refine d_q 8 [[]] rfl (q_load_at rfl rfl sz_24 (fun w h => (h.rd_blk (Mc := []) (b := ga) (by repeat (first | exact .here | apply Pick.there)) (by rw [flat_get fv4 _ i 3 _ (nth_get hiN) (by decide)]; rfl) (by simp)))) (by kernel_rfl) (by kernel_rfl) (by kernel_rfl) rfl ?_ | refine d_q 8 [[]] rfl (q_load_at rfl rfl sz_24 (fun w h => (h.rd_blk (Mc := []) (b := go) (by repeat (first | exact .here | apply Pick.there)) (by rw [flat_get ov5 _ k 4 _ (nth_get hkN) (by decide)]; rfl) (by simp)))) (by kernel_rfl) (by kernel_rfl) (by kernel_rfl) rfl ?_ | refine d_q 8 [[]] rfl (q_load_old rfl rfl sz_24 ((hs.1.rdj 3 hi rfl))) (by kernel_rfl) (by kernel_rfl) (by kernel_rfl) rfl ?_ | refine d_q 8 [[]] rfl (q_load_old rfl rfl sz_24 (rfl (Rw.rd (hs.at hi).1 hk))) (by kernel_rfl) (by kernel_rfl) (by kernel_rfl) rfl ?_ | refine d_q 8 [[]] rfl (q_load_old rfl rfl sz_24 (((hs.at hi).1.rdj 4 hnl rfl))) (by kernel_rfl) (by kernel_rfl) (by kernel_rfl) rfl ?_ | refine d_q 8 [[]] rfl (q_load_old rfl rfl sz_24 (rfl (Rw.rd ((hs.at hi).at hnl) hml))) (by kernel_rfl) (by kernel_rfl) (by kernel_rfl) rfl ?_
            refine d_p 9 rfl (p_pure rfl) (by kernel_rfl) rfl rfl ?_
            first | refine d_p 10 rfl (p_indexAddr rfl rfl rfl sl_24 (i) (by omega) (by omega) rfl) (by kernel_rfl) rfl rfl ?_ | refine d_p 10 rfl (p_indexAddr rfl rfl rfl sl_24 (i) (by omega) (by omega) (Rw.some hs.1 (by omega))) (by kernel_rfl) rfl rfl ?_ | refine d_p 10 rfl (p_indexAddr rfl rfl rfl sl_24 (i) (by omega) (by omega) (Rw.some (hs.at hi).1 (by omega))) (by kernel_rfl) rfl rfl ?_ | refine d_p 10 rfl (p_indexAddr rfl rfl rfl sl_24 (i) (by omega) (by omega) (Rw.some ((hs.at hi).at hnl) (by omega))) (by kernel_rfl) rfl rfl ?_ | refine d_p 10 rfl (p_indexAddr rfl rfl rfl sl_24 (i) (by omega) (by omega) hoa) (by kernel_rfl) rfl rfl ?_
            refine d_slot (show _ = Value.pointer (some ⟨ga, i * 4, none⟩) from by rw [Nat.zero_add]) ?_
            refine d_p 11 rfl (p_fieldAddr rfl rfl fd_77_2 sz_75 rfl) (by kernel_rfl) rfl rfl ?_
            first | refine d_q 12 [[]] rfl (q_load rfl rfl sz_75 (by repeat (first | exact .here | apply Pick.there)) rfl) (by kernel_rfl) (by kernel_rfl) (by kernel_rfl) rfl ?_ | refine d_q 12 [[]] rfl (q_load_at rfl rfl sz_75 (fun w h => (h.rd_blk (Mc := []) (b := ga) (by repeat (first | exact .here | apply Pick.there)) (by rw [flat_get fv4 _ i 3 _ (nth_get hiN) (by decide)]; rfl) (by simp)))) (by kernel_rfl) (by kernel_rfl) (by kernel_rfl) rfl ?_ | refine d_q 12 [[]] rfl (q_load_at rfl rfl sz_75 (fun w h => (h.rd_blk (Mc := []) (b := go) (by repeat (first | exact .here | apply Pick.there)) (by rw [flat_get ov5 _ k 4 _ (nth_get hkN) (by decide)]; rfl) (by simp)))) (by kernel_rfl) (by kernel_rfl) (by kernel_rfl) rfl ?_ | refine d_q 12 [[]] rfl (q_load_old rfl rfl sz_75 ((hs.1.rdj 3 hi rfl))) (by kernel_rfl) (by kernel_rfl) (by kernel_rfl) rfl ?_ | refine d_q 12 [[]] rfl (q_load_old rfl rfl sz_75 (rfl (Rw.rd (hs.at hi).1 hk))) (by kernel_rfl) (by kernel_rfl) (by kernel_rfl) rfl ?_ | refine d_q 12 [[]] rfl (q_load_old rfl rfl sz_75 (((hs.at hi).1.rdj 4 hnl rfl))) (by kernel_rfl) (by kernel_rfl) (by kernel_rfl) rfl ?_ | refine d_q 12 [[]] rfl (q_load_old rfl rfl sz_75 (rfl (Rw.rd ((hs.at hi).at hnl) hml))) (by kernel_rfl) (by kernel_rfl) (by kernel_rfl) rfl ?_
            refine d_p 13 rfl (p_pure rfl) (by kernel_rfl) rfl rfl ?_
            first | refine d_p 14 rfl (p_indexAddr rfl rfl rfl sl_75 (k) (by omega) (by omega) rfl) (by kernel_rfl) rfl rfl ?_ | refine d_p 14 rfl (p_indexAddr rfl rfl rfl sl_75 (k) (by omega) (by omega) (Rw.some hs.1 (by omega))) (by kernel_rfl) rfl rfl ?_ | refine d_p 14 rfl (p_indexAddr rfl rfl rfl sl_75 (k) (by omega) (by omega) (Rw.some (hs.at hi).1 (by omega))) (by kernel_rfl) rfl rfl ?_ | refine d_p 14 rfl (p_indexAddr rfl rfl rfl sl_75 (k) (by omega) (by omega) (Rw.some ((hs.at hi).at hnl) (by omega))) (by kernel_rfl) rfl rfl ?_ | refine d_p 14 rfl (p_indexAddr rfl rfl rfl sl_75 (k) (by omega) (by omega) hoa) (by kernel_rfl) rfl rfl ?_
            refine d_slot (show _ = Value.pointer (some ⟨go, k * 5, none⟩) from by rw [Nat.zero_add]) ?_
            refine d_p 15 rfl (p_fieldAddr rfl rfl fd_48_4 sz_46 rfl) (by kernel_rfl) rfl rfl ?_
            first | refine d_q 16 [[]] rfl (q_load rfl rfl sz_46 (by repeat (first | exact .here | apply Pick.there)) rfl) (by kernel_rfl) (by kernel_rfl) (by kernel_rfl) rfl ?_ | refine d_q 16 [[]] rfl (q_load_at rfl rfl sz_46 (fun w h => (h.rd_blk (Mc := []) (b := ga) (by repeat (first | exact .here | apply Pick.there)) (by rw [flat_get fv4 _ i 3 _ (nth_get hiN) (by decide)]; rfl) (by simp)))) (by kernel_rfl) (by kernel_rfl) (by kernel_rfl) rfl ?_ | refine d_q 16 [[]] rfl (q_load_at rfl rfl sz_46 (fun w h => (h.rd_blk (Mc := []) (b := go) (by repeat (first | exact .here | apply Pick.there)) (by rw [flat_get ov5 _ k 4 _ (nth_get hkN) (by decide)]; rfl) (by simp)))) (by kernel_rfl) (by kernel_rfl) (by kernel_rfl) rfl ?_ | refine d_q 16 [[]] rfl (q_load_old rfl rfl sz_46 ((hs.1.rdj 3 hi rfl))) (by kernel_rfl) (by kernel_rfl) (by kernel_rfl) rfl ?_ | refine d_q 16 [[]] rfl (q_load_old rfl rfl sz_46 (rfl (Rw.rd (hs.at hi).1 hk))) (by kernel_rfl) (by kernel_rfl) (by kernel_rfl) rfl ?_ | refine d_q 16 [[]] rfl (q_load_old rfl rfl sz_46 (((hs.at hi).1.rdj 4 hnl rfl))) (by kernel_rfl) (by kernel_rfl) (by kernel_rfl) rfl ?_ | refine d_q 16 [[]] rfl (q_load_old rfl rfl sz_46 (rfl (Rw.rd ((hs.at hi).at hnl) hml))) (by kernel_rfl) (by kernel_rfl) (by kernel_rfl) rfl ?_
            first | refine d_q 17 [[]] rfl (q_loadn rfl rfl sz_62 (by repeat (first | exact .here | apply Pick.there)) rfl) (by kernel_rfl) (by kernel_rfl) (by kernel_rfl) rfl ?_ | refine d_q 17 [[]] rfl (q_load_atn _ rfl rfl sz_62 fun w h => (h.rd_blk (Mc := []) (b := ga) (by repeat (first | exact .here | apply Pick.there)) (by rw [flat_get fv4 _ i 3 _ (nth_get hiN) (by decide)]; rfl) (by simp))) (by kernel_rfl) (by kernel_rfl) (by kernel_rfl) rfl ?_ | refine d_q 17 [[]] rfl (q_load_atn _ rfl rfl sz_62 fun w h => (h.rd_blk (Mc := []) (b := go) (by repeat (first | exact .here | apply Pick.there)) (by rw [flat_get ov5 _ k 4 _ (nth_get hkN) (by decide)]; rfl) (by simp))) (by kernel_rfl) (by kernel_rfl) (by kernel_rfl) rfl ?_ | refine d_q 17 [[]] rfl (q_load_oldn _ rfl rfl sz_62 (hs.1.rdj 3 hi rfl)) (by kernel_rfl) (by kernel_rfl) (by kernel_rfl) rfl ?_ | refine d_q 17 [[]] rfl (q_load_oldn _ rfl rfl sz_62 rfl (Rw.rd (hs.at hi).1 hk)) (by kernel_rfl) (by kernel_rfl) (by kernel_rfl) rfl ?_ | refine d_q 17 [[]] rfl (q_load_oldn _ rfl rfl sz_62 ((hs.at hi).1.rdj 4 hnl rfl)) (by kernel_rfl) (by kernel_rfl) (by kernel_rfl) rfl ?_ | refine d_q 17 [[]] rfl (q_load_oldn _ rfl rfl sz_62 rfl (Rw.rd ((hs.at hi).at hnl) hml)) (by kernel_rfl) (by kernel_rfl) (by kernel_rfl) rfl ?_
            refine d_h 18 rfl (h_buildSlice (cs := [_, _, _]) rfl rfl sl_46 zr_62 rfl rfl rfl) (by kernel_rfl) (fun w h => h.ent (by repeat (first | exact .nil | refine .cons (by repeat (first | exact .here | apply Pick.there)) ?_))) rfl (fun b17 _ => ?_)
            refine d_h 19 rfl (h_appendS (n := (nth (nth N i).op k).lk.length) q.vals rfl rfl rfl sl_46 Try.underlying46 zr_62 rfl (by repeat (first | exact .here | apply Pick.there)) (src_blk (by repeat (first | exact .here | apply Pick.there))) rfl (lv1 q) (by rw [hlN]; omega) (by simp only [maxLen]; rw [hlN]; omega)) (by kernel_rfl) (fun w h => h.ent (by repeat (first | exact .nil | refine .cons (by repeat (first | exact .here | apply Pick.there)) ?_))) rfl (fun b18 _ => ?_)
            first | refine d_p 20 rfl (p_indexAddr rfl rfl rfl sl_75 (k) (by omega) (by omega) rfl) (by kernel_rfl) rfl rfl ?_ | refine d_p 20 rfl (p_indexAddr rfl rfl rfl sl_75 (k) (by omega) (by omega) (Rw.some hs.1 (by omega))) (by kernel_rfl) rfl rfl ?_ | refine d_p 20 rfl (p_indexAddr rfl rfl rfl sl_75 (k) (by omega) (by omega) (Rw.some (hs.at hi).1 (by omega))) (by kernel_rfl) rfl rfl ?_ | refine d_p 20 rfl (p_indexAddr rfl rfl rfl sl_75 (k) (by omega) (by omega) (Rw.some ((hs.at hi).at hnl) (by omega))) (by kernel_rfl) rfl rfl ?_ | refine d_p 20 rfl (p_indexAddr rfl rfl rfl sl_75 (k) (by omega) (by omega) hoa) (by kernel_rfl) rfl rfl ?_
            refine d_slot (show _ = Value.pointer (some ⟨go, k * 5, none⟩) from by rw [Nat.zero_add]) ?_
            refine d_p 21 rfl (p_fieldAddr rfl rfl fd_48_4 sz_46 rfl) (by kernel_rfl) rfl rfl ?_
            refine d_h0 22 rfl (h_store rfl rfl rfl sz_46 rfl (by repeat (first | exact .here | apply Put.there)) (by rw [flat_length ov5]; omega) rfl) (by kernel_rfl) (fun w h => h.ent (by repeat (first | exact .nil | refine .cons (by repeat (first | exact .here | apply Pick.there)) ?_))) (fun _ _ => ?_)
            refine d_turn [] (by kernel_rfl) ?_
            refine d_nil (by kernel_rfl) (fun w h => h.ent (by repeat (first | exact .nil | refine .cons (by repeat (first | exact .here | apply Pick.there)) ?_))) ?_
            refine s_seq ?_
            refine s_weaken (L' := [(3, _), (5, _), (6, _), (10, _), (11, _), (13, _), (15, _)]) (by repeat (first | exact sl_n | refine sl_c rfl ?_)) (fun _ h => h) ?_
            refine s_region ?_
            first | refine o_q (q_loadn rfl rfl sz_26 (by repeat (first | exact .here | apply Pick.there)) rfl) rfl ?_ | refine o_q (q_load_atn _ rfl rfl sz_26 fun w h => (h.rd_blk (Mc := []) (b := ga) (by repeat (first | exact .here | apply Pick.there)) (by rw [flat_get fv4 _ i 3 _ (nth_get hiN) (by decide)]; rfl) (by simp))) rfl ?_ | refine o_q (q_load_atn _ rfl rfl sz_26 fun w h => (h.rd_blk (Mc := []) (b := go) (by repeat (first | exact .here | apply Pick.there)) (by rw [flat_get ov5 _ k 4 _ (nth_get hkN) (by decide)]; rfl) (by simp))) rfl ?_ | refine o_q (q_load_oldn _ rfl rfl sz_26 (hs.1.rdj 3 hi rfl)) rfl ?_ | refine o_q (q_load_oldn _ rfl rfl sz_26 rfl (Rw.rd (hs.at hi).1 hk)) rfl ?_ | refine o_q (q_load_oldn _ rfl rfl sz_26 ((hs.at hi).1.rdj 4 hnl rfl)) rfl ?_ | refine o_q (q_load_oldn _ rfl rfl sz_26 rfl (Rw.rd ((hs.at hi).at hnl) hml)) rfl ?_
            refine o_h0 (h_store rfl rfl rfl sz_26 rfl (by repeat (first | exact .here | apply Put.there)) (by simp only [setMany_length, List.length_set, List.length_cons, List.length_nil, List.length_map]; omega) rfl) (fun _ _ => ?_)
            refine o_p (p_pure rfl) rfl ?_
            refine o_nil ?_
            exact s_retv (rs := [.cell 6 26, .tmp 7]) rfl (.cell rfl sz_26 (by repeat (first | exact .here | apply Pick.there)) rfl (.tmp rfl (.nil))) (fun w' h' => by have hR := afT_0 (r := (lockT (pls L) h q)) hz1 (by rw [hlt]); exact ⟨((some ⟨ga, 0, none⟩, cc), N.set i { nth N i with op := (nth N i).op.set k { (nth (nth N i).op k) with la := b18.1, lc := b18.2, lk := (nth (nth N i).op k).lk ++ [q] } }), by rw [hR, List.length_set]; rfl, by rw [hR, hlt]; have h7 := upd_lk (o := { (nth (nth N i).op k) with la := b18.1, lc := b18.2, lk := (nth (nth N i).op k).lk ++ [q] }) (u := fun o => { o with lk := o.lk ++ [q] }) hiN hkN rfl; rw [hgc] at h7; exact h7, HS.lock_put (o := { (nth (nth N i).op k) with la := b18.1, lc := b18.2, lk := (nth (nth N i).op k).lk ++ [q] }) hiN hkN hoa (h'.ent (Bs := [.blk go 48 ((nth N i).oc * 5) _, .own (.slice b18.1 ((nth (nth N i).op k).lk.length + 1) b18.2) 62 3 ((nth (nth N i).op k).lk.length + 1) ((nth (nth N i).op k).lk.flatMap Lock.vals ++ q.vals), .star ((others (nth N i).op k).map subO), .blk ga 77 (cc * 4) (N.flatMap LFil.vals), .star ((others N i).map subF)]) (by repeat (first | exact .nil | refine .cons (by repeat (first | exact .here | apply Pick.there)) ?_)) |> fun hh => by simpa [HA.locks, List.flatMap_append] using hh) (flat_set ov5 (nth N i).op k 4 [.slice b18.1 ((nth (nth N i).op k).lk.length + 1) b18.2] (nth (nth N i).op k) _ (nth_get hkN) (by simp [LOpn.vals, setMany]) (by simp)) hoc hom hcap hcm⟩)

end Go.Proofs

namespace Go.Proofs
open Go Go.RowKit Gx
set_option linter.unusedVariables false
set_option linter.unusedSimpArgs false
attribute [local irreducible] Go.Calls Gx.S Gx.O Gx.D Gx.OpP Gx.OpQ Gx.OpH



theorem unlockT_f {L : List Fil} {h fr cnt : Int} (hn : ¬ (findF L h 0).2.2 = 0) : (unlockT L h fr cnt).2 = (findF L h 0).2.2 := by rw [unlockT, if_neg hn]
theorem unlockT_r {L : List Fil} {h fr cnt : Int} (hn : (findF L h 0).2.2 = 0) (h2 : ¬ rngE fr cnt = 0) : unlockT L h fr cnt = (L, rngE fr cnt) := by rw [unlockT, if_pos hn, if_neg h2]
theorem unlockT_l {L : List Fil} {h fr cnt : Int} {i k : Nat} (hfe : findF L h 0 = (i, k, 0)) (h2 : rngE fr cnt = 0) : unlockT L h fr cnt = if ixB ((nth (nth L i).op k).lk.map (eqK fr cnt)) < (nth (nth L i).op k).lk.length then (updO L i k fun o => { o with lk := others o.lk (ixB (o.lk.map (eqK fr cnt))) }, 0) else (L, 6) := by
  rw [unlockT, hfe]
  simp only [if_true]
  rw [if_pos h2]

end Go.Proofs

namespace Go.Proofs
open Go Go.RowKit Gx
set_option linter.unusedVariables false
set_option linter.unusedSimpArgs false
attribute [local irreducible] Go.Calls Gx.S Gx.O Gx.D Gx.OpP Gx.OpQ Gx.OpH

theorem eqk_62 : teqk Try.prog 62 = some [0, 0, 2] := by kernel_rfl


theorem same_len {L L2 : List LFil} (h : pls L2 = pls L) : L2.length = L.length := by
  have h9 := congrArg List.length h
  simpa using h9

set_option maxRecDepth 20000 in
set_option maxHeartbeats 1000000 in
theorem c14 (w : World) (next : Int) (a b : Option Addr) (cap cap2 : Nat) (L L2 : List LFil) (hs : Ft w [] a L) (ht : Ft w [] b L2) (he : pls L2 = pls L) (hm : L.length ≤ 1000) (hmo : ∀ f ∈ L, f.op.length ≤ 1000) (hml : ∀ f ∈ L, ∀ o ∈ f.op, o.lk.length ≤ 1000) : Calls Try.prog 14 #[.agg #[.int .i64 next, .slice a L.length cap], .agg #[.int .i64 next, .slice b L2.length cap2]] w fun en w' => en = .returned (.bool true) ∧ Below w.heap.size w w' := by
  have hll := same_len he
  refine enter (args := [_, _]) Try.func14 Try.ntmps14 rfl rfl (HS.refl w []) ?_
  refine s_seq ?_
  refine s_region ?_
  refine o_h (h_box rfl rfl) rfl (fun b1 _ => ?_)
  refine o_h (h_box rfl rfl) rfl (fun b2 _ => ?_)
  refine o_p (p_pure rfl) rfl ?_
  refine o_nil ?_
  refine s_seq ?_
  refine s_seq ?_
  refine s_region ?_
  refine o_p (p_fieldAddr rfl rfl fd_26_0 sz_3 rfl) rfl ?_
  first | refine o_q (q_load rfl rfl sz_3 (by repeat (first | exact .here | apply Pick.there)) rfl) rfl ?_ | refine o_q (q_load_old rfl rfl sz_3 (rfl (Rw.rd hs.1 hi))) rfl ?_ | refine o_q (q_load_old rfl rfl sz_3 (rfl (Rw.rd ht.1 hi2))) rfl ?_ | refine o_q (q_load_old rfl rfl sz_3 (rfl (Rw.rd (hs.at hi).1 hk))) rfl ?_ | refine o_q (q_load_old rfl rfl sz_3 (rfl (Rw.rd (ht.at hi2).1 hk2))) rfl ?_ | refine o_q (q_load_old rfl rfl sz_3 (rfl (Rw.rd ((hs.at hi).at hk) hn))) rfl ?_ | refine o_q (q_load_old rfl rfl sz_3 (rfl (Rw.rd ((ht.at hi2).at hk2) hn2))) rfl ?_
  refine o_p (p_fieldAddr rfl rfl fd_26_0 sz_3 rfl) rfl ?_
  first | refine o_q (q_load rfl rfl sz_3 (by repeat (first | exact .here | apply Pick.there)) rfl) rfl ?_ | refine o_q (q_load_old rfl rfl sz_3 (rfl (Rw.rd hs.1 hi))) rfl ?_ | refine o_q (q_load_old rfl rfl sz_3 (rfl (Rw.rd ht.1 hi2))) rfl ?_ | refine o_q (q_load_old rfl rfl sz_3 (rfl (Rw.rd (hs.at hi).1 hk))) rfl ?_ | refine o_q (q_load_old rfl rfl sz_3 (rfl (Rw.rd (ht.at hi2).1 hk2))) rfl ?_ | refine o_q (q_load_old rfl rfl sz_3 (rfl (Rw.rd ((hs.at hi).at hk) hn))) rfl ?_ | refine o_q (q_load_old rfl rfl sz_3 (rfl (Rw.rd ((ht.at hi2).at hk2) hn2))) rfl ?_
  refine o_p (p_pure rfl) rfl ?_
  refine o_p (p_pure rfl) rfl ?_
  refine o_or 8 17 25 _ _ rfl
    (by
      intro hg3
      have hs4 := hg3; try simp only [decide_eq_true_eq, decide_eq_false_iff_not, Bool.not_eq_true', Bool.not_eq_false', Bool.and_eq_true, Bool.or_eq_true, Bool.and_eq_false_iff, Bool.or_eq_false_iff, Bool.not_true, Bool.not_false] at hs4
      refine o_on 17 _ rfl rfl hg3 ?_
      refine o_p (p_fieldAddr rfl rfl fd_26_1 sz_24 rfl) rfl ?_
      refine o_on 17 _ rfl rfl hg3 ?_
      first | refine o_q (q_load rfl rfl sz_24 (by repeat (first | exact .here | apply Pick.there)) rfl) rfl ?_ | refine o_q (q_load_old rfl rfl sz_24 (rfl (Rw.rd hs.1 hi))) rfl ?_ | refine o_q (q_load_old rfl rfl sz_24 (rfl (Rw.rd ht.1 hi2))) rfl ?_ | refine o_q (q_load_old rfl rfl sz_24 (rfl (Rw.rd (hs.at hi).1 hk))) rfl ?_ | refine o_q (q_load_old rfl rfl sz_24 (rfl (Rw.rd (ht.at hi2).1 hk2))) rfl ?_ | refine o_q (q_load_old rfl rfl sz_24 (rfl (Rw.rd ((hs.at hi).at hk) hn))) rfl ?_ | refine o_q (q_load_old rfl rfl sz_24 (rfl (Rw.rd ((ht.at hi2).at hk2) hn2))) rfl ?_
      refine o_on 17 _ rfl rfl hg3 ?_
      first | refine o_p (p_len_slice rfl rfl Try.underlying24) rfl ?_ | refine o_q (q_len_own rfl rfl Try.underlying24 (by repeat (first | exact .here | apply Pick.there))) rfl ?_
      refine o_on 17 _ rfl rfl hg3 ?_
      refine o_p (p_fieldAddr rfl rfl fd_26_1 sz_24 rfl) rfl ?_
      refine o_on 17 _ rfl rfl hg3 ?_
      first | refine o_q (q_load rfl rfl sz_24 (by repeat (first | exact .here | apply Pick.there)) rfl) rfl ?_ | refine o_q (q_load_old rfl rfl sz_24 (rfl (Rw.rd hs.1 hi))) rfl ?_ | refine o_q (q_load_old rfl rfl sz_24 (rfl (Rw.rd ht.1 hi2))) rfl ?_ | refine o_q (q_load_old rfl rfl sz_24 (rfl (Rw.rd (hs.at hi).1 hk))) rfl ?_ | refine o_q (q_load_old rfl rfl sz_24 (rfl (Rw.rd (ht.at hi2).1 hk2))) rfl ?_ | refine o_q (q_load_old rfl rfl sz_24 (rfl (Rw.rd ((hs.at hi).at hk) hn))) rfl ?_ | refine o_q (q_load_old rfl rfl sz_24 (rfl (Rw.rd ((ht.at hi2).at hk2) hn2))) rfl ?_
      refine o_on 17 _ rfl rfl hg3 ?_
      first | refine o_p (p_len_slice rfl rfl Try.underlying24) rfl ?_ | refine o_q (q_len_own rfl rfl Try.underlying24 (by repeat (first | exact .here | apply Pick.there))) rfl ?_
      refine o_on 17 _ rfl rfl hg3 ?_
      refine o_p (p_pure rfl) rfl ?_
      refine o_p (p_pickf rfl rfl hg3 rfl) rfl ?_
      refine o_nil ?_
      exact s_joinN 8 25 _ rfl rfl rfl (fun w h => by first | exact h | exact h.ent (by repeat (first | exact .nil | refine .cons (by repeat (first | exact .here | apply Pick.there)) ?_))))
    (by
      intro hg5
      have hs6 := hg5; try simp only [decide_eq_true_eq, decide_eq_false_iff_not, Bool.not_eq_true', Bool.not_eq_false', Bool.and_eq_true, Bool.or_eq_true, Bool.and_eq_false_iff, Bool.or_eq_false_iff, Bool.not_true, Bool.not_false] at hs6
      refine o_off 17 _ rfl rfl hg5 rfl ?_
      refine o_off 17 _ rfl rfl hg5 rfl ?_
      refine o_off 17 _ rfl rfl hg5 rfl ?_
      refine o_off 17 _ rfl rfl hg5 rfl ?_
      refine o_off 17 _ rfl rfl hg5 rfl ?_
      refine o_off 17 _ rfl rfl hg5 rfl ?_
      refine o_off 17 _ rfl rfl hg5 rfl ?_
      refine o_p (p_pickt rfl rfl hg5 rfl) rfl ?_
      refine o_nil ?_
      exact s_joinN 8 25 _ rfl rfl rfl (fun w h => by first | exact h | exact h.ent (by repeat (first | exact .nil | refine .cons (by repeat (first | exact .here | apply Pick.there)) ?_)))) ?_
  refine o_nil ?_
  refine s_cond rfl (fun h7 => ?_) (fun h7 => ?_)
  · try simp only [decide_eq_true_eq, decide_eq_false_iff_not, Bool.not_eq_true', Bool.not_eq_false', Bool.and_eq_true, Bool.or_eq_true, Bool.and_eq_false_iff, Bool.or_eq_false_iff, Bool.not_true, Bool.not_false] at h7
    exfalso; have hq9 := h7; simp [hll] at hq9
  · try simp only [decide_eq_true_eq, decide_eq_false_iff_not, Bool.not_eq_true', Bool.not_eq_false', Bool.and_eq_true, Bool.or_eq_true, Bool.and_eq_false_iff, Bool.or_eq_false_iff, Bool.not_true, Bool.not_false] at h7
    refine s_skip ?_
    refine s_seq ?_
    refine s_seq ?_
    refine s_region ?_
    refine o_p (p_pure rfl) rfl ?_
    refine o_nil ?_
    refine s_block ?_
    refine s_loopI (α := Nat) [4, 5, 6, 7, 8, 9, 10, 11, 26, 27, 28, 29, 30, 31, 32, 33, 34, 35, 36, 37, 38, 39, 40, 41, 42, 43, 44, 45, 46, 47, 48, 49, 50, 51, 52, 53, 54, 55, 56, 57, 58, 59, 60, 61, 62, 63, 64, 65, 66, 67, 68, 69, 70, 71, 72, 73, 74, 75, 76, 77, 78, 79, 80, 81, 82, 83, 84, 85, 86, 87, 88, 89, 90, 91, 92, 93, 94, 95, 96, 97, 98, 99, 100, 101, 102, 103, 104, 105, 106, 107, 108, 109, 110, 111, 112, 113, 114, 115, 116, 117, 118, 119, 120, 121, 122, 123, 124, 125, 126, 127, 128, 129, 130, 131, 132, 133] (fun i => [(5, .int .i64 (i : Int))]) (fun _ => HS w [] [.blk b1 26 2 [.int .i64 next, .slice a L.length cap], .blk b2 26 2 [.int .i64 next, .slice b L2.length cap2]]) (fun i => i ≤ L.length) (fun i => L.length - i) 0 (Nat.zero_le _) (by repeat (first | exact sl_n | refine sl_c rfl ?_)) (fun w h => h.ent (by repeat (first | exact .nil | refine .cons (by repeat (first | exact .here | apply Pick.there)) ?_))) (fun i hi1 => ?_)
    refine s_seq ?_
    refine s_seq ?_
    refine s_region ?_
    refine o_p (p_pure rfl) rfl ?_
    refine o_p (p_fieldAddr rfl rfl fd_26_1 sz_24 rfl) rfl ?_
    first | refine o_q (q_load rfl rfl sz_24 (by repeat (first | exact .here | apply Pick.there)) rfl) rfl ?_ | refine o_q (q_load_old rfl rfl sz_24 (rfl (Rw.rd hs.1 hi))) rfl ?_ | refine o_q (q_load_old rfl rfl sz_24 (rfl (Rw.rd ht.1 hi2))) rfl ?_ | refine o_q (q_load_old rfl rfl sz_24 (rfl (Rw.rd (hs.at hi).1 hk))) rfl ?_ | refine o_q (q_load_old rfl rfl sz_24 (rfl (Rw.rd (ht.at hi2).1 hk2))) rfl ?_ | refine o_q (q_load_old rfl rfl sz_24 (rfl (Rw.rd ((hs.at hi).at hk) hn))) rfl ?_ | refine o_q (q_load_old rfl rfl sz_24 (rfl (Rw.rd ((ht.at hi2).at hk2) hn2))) rfl ?_
    first | refine o_p (p_len_slice rfl rfl Try.underlying24) rfl ?_ | refine o_q (q_len_own rfl rfl Try.underlying24 (by repeat (first | exact .here | apply Pick.there))) rfl ?_
    refine o_p (p_pure rfl) rfl ?_
    refine o_nil ?_
    refine s_cond rfl (fun h8 => ?_) (fun h8 => ?_)
    · try simp only [decide_eq_true_eq, decide_eq_false_iff_not, Bool.not_eq_true', Bool.not_eq_false', Bool.and_eq_true, Bool.or_eq_true, Bool.and_eq_false_iff, Bool.or_eq_false_iff, Bool.not_true, Bool.not_false] at h8
      have hi : i < L.length := by omega
      have hi2 : i < L2.length := by omega
      have hoi := hmo _ (mem_nth hi)
      have hp := (same_nth he hi).2
      have e1 : (nth L2 i).rc = (nth L i).rc := congrArg Fil.rc hp
      have e2 : (nth L2 i).sq = (nth L i).sq := congrArg Fil.sq hp
      have e3 : (nth L2 i).pd = (nth L i).pd := congrArg Fil.pd hp
      have e4 : (nth L2 i).op.length = (nth L i).op.length := by have h9 := congrArg (fun f : Fil => f.op.length) hp; simpa [LFil.pl] using h9
      refine s_skip ?_
      refine s_seq ?_
      refine s_block ?_
      refine s_seq ?_
      refine s_cutI (α := Nat × Nat) [6, 7, 33, 34, 35, 36, 37, 38, 39, 40, 41, 42] (fun y => [(6, .pointer (some ⟨y.1, 0, none⟩)), (7, .pointer (some ⟨y.2, 0, none⟩))]) (fun y => HS w [] [.blk y.1 77 4 (nth L i).vals, .blk y.2 77 4 (nth L2 i).vals, .blk b1 26 2 [.int .i64 next, .slice a L.length cap], .blk b2 26 2 [.int .i64 next, .slice b L2.length cap2]]) (fun _ => True) ?_ ?_
      · skip
        refine s_drawB [.blk b1 26 2 [.int .i64 next, .slice a L.length cap], .blk b2 26 2 [.int .i64 next, .slice b L2.length cap2]] [13] mixed ?_
        refine d_p 0 rfl (p_fieldAddr rfl rfl fd_26_1 sz_24 rfl) (by kernel_rfl) rfl rfl ?_
        first | refine d_q 1 [[]] rfl (q_load rfl rfl sz_24 (by repeat (first | exact .here | apply Pick.there)) rfl) (by kernel_rfl) (by kernel_rfl) (by kernel_rfl) rfl ?_ | refine d_q 1 [[]] rfl (q_load_old rfl rfl sz_24 (rfl (Rw.rd hs.1 hi))) (by kernel_rfl) (by kernel_rfl) (by kernel_rfl) rfl ?_ | refine d_q 1 [[]] rfl (q_load_old rfl rfl sz_24 (rfl (Rw.rd ht.1 hi2))) (by kernel_rfl) (by kernel_rfl) (by kernel_rfl) rfl ?_ | refine d_q 1 [[]] rfl (q_load_old rfl rfl sz_24 (rfl (Rw.rd (hs.at hi).1 hk))) (by kernel_rfl) (by kernel_rfl) (by kernel_rfl) rfl ?_ | refine d_q 1 [[]] rfl (q_load_old rfl rfl sz_24 (rfl (Rw.rd (ht.at hi2).1 hk2))) (by kernel_rfl) (by kernel_rfl) (by kernel_rfl) rfl ?_ | refine d_q 1 [[]] rfl (q_load_old rfl rfl sz_24 (rfl (Rw.rd ((hs.at hi).at hk) hn))) (by kernel_rfl) (by kernel_rfl) (by kernel_rfl) rfl ?_ | refine d_q 1 [[]] rfl (q_load_old rfl rfl sz_24 (rfl (Rw.rd ((ht.at hi2).at hk2) hn2))) (by kernel_rfl) (by kernel_rfl) (by kernel_rfl) rfl ?_
        refine d_p 2 rfl (p_pure rfl) (by kernel_rfl) rfl rfl ?_
        first | refine d_p 3 rfl (p_indexAddr rfl rfl rfl sl_24 (i) (by omega) (by omega) rfl) (by kernel_rfl) rfl rfl ?_ | refine d_p 3 rfl (p_indexAddr rfl rfl rfl sl_24 (i) (by omega) (by omega) (Rw.some hs.1 (by omega))) (by kernel_rfl) rfl rfl ?_ | refine d_p 3 rfl (p_indexAddr rfl rfl rfl sl_24 (i) (by omega) (by omega) (Rw.some ht.1 (by omega))) (by kernel_rfl) rfl rfl ?_ | refine d_p 3 rfl (p_indexAddr rfl rfl rfl sl_24 (i) (by omega) (by omega) (Rw.some (hs.at hi).1 (by omega))) (by kernel_rfl) rfl rfl ?_ | refine d_p 3 rfl (p_indexAddr rfl rfl rfl sl_24 (i) (by omega) (by omega) (Rw.some (ht.at hi2).1 (by omega))) (by kernel_rfl) rfl rfl ?_ | refine d_p 3 rfl (p_indexAddr rfl rfl rfl sl_24 (i) (by omega) (by omega) (Rw.some ((hs.at hi).at hk) (by omega))) (by kernel_rfl) rfl rfl ?_ | refine d_p 3 rfl (p_indexAddr rfl rfl rfl sl_24 (i) (by omega) (by omega) (Rw.some ((ht.at hi2).at hk2) (by omega))) (by kernel_rfl) rfl rfl ?_
        first | refine d_q 4 [[]] rfl (q_loadn rfl rfl sz_77 (by repeat (first | exact .here | apply Pick.there)) rfl) (by kernel_rfl) (by kernel_rfl) (by kernel_rfl) rfl ?_ | refine d_q 4 [[]] rfl (q_load_oldn _ rfl rfl sz_77 rfl (Rw.rd hs.1 hi)) (by kernel_rfl) (by kernel_rfl) (by kernel_rfl) rfl ?_ | refine d_q 4 [[]] rfl (q_load_oldn _ rfl rfl sz_77 rfl (Rw.rd ht.1 hi2)) (by kernel_rfl) (by kernel_rfl) (by kernel_rfl) rfl ?_ | refine d_q 4 [[]] rfl (q_load_oldn _ rfl rfl sz_77 rfl (Rw.rd (hs.at hi).1 hk)) (by kernel_rfl) (by kernel_rfl) (by kernel_rfl) rfl ?_ | refine d_q 4 [[]] rfl (q_load_oldn _ rfl rfl sz_77 rfl (Rw.rd (ht.at hi2).1 hk2)) (by kernel_rfl) (by kernel_rfl) (by kernel_rfl) rfl ?_ | refine d_q 4 [[]] rfl (q_load_oldn _ rfl rfl sz_77 rfl (Rw.rd ((hs.at hi).at hk) hn)) (by kernel_rfl) (by kernel_rfl) (by kernel_rfl) rfl ?_ | refine d_q 4 [[]] rfl (q_load_oldn _ rfl rfl sz_77 rfl (Rw.rd ((ht.at hi2).at hk2) hn2)) (by kernel_rfl) (by kernel_rfl) (by kernel_rfl) rfl ?_
        refine d_p 5 rfl (p_fieldAddr rfl rfl fd_26_1 sz_24 rfl) (by kernel_rfl) rfl rfl ?_
        first | refine d_q 6 [[]] rfl (q_load rfl rfl sz_24 (by repeat (first | exact .here | apply Pick.there)) rfl) (by kernel_rfl) (by kernel_rfl) (by kernel_rfl) rfl ?_ | refine d_q 6 [[]] rfl (q_load_old rfl rfl sz_24 (rfl (Rw.rd hs.1 hi))) (by kernel_rfl) (by kernel_rfl) (by kernel_rfl) rfl ?_ | refine d_q 6 [[]] rfl (q_load_old rfl rfl sz_24 (rfl (Rw.rd ht.1 hi2))) (by kernel_rfl) (by kernel_rfl) (by kernel_rfl) rfl ?_ | refine d_q 6 [[]] rfl (q_load_old rfl rfl sz_24 (rfl (Rw.rd (hs.at hi).1 hk))) (by kernel_rfl) (by kernel_rfl) (by kernel_rfl) rfl ?_ | refine d_q 6 [[]] rfl (q_load_old rfl rfl sz_24 (rfl (Rw.rd (ht.at hi2).1 hk2))) (by kernel_rfl) (by kernel_rfl) (by kernel_rfl) rfl ?_ | refine d_q 6 [[]] rfl (q_load_old rfl rfl sz_24 (rfl (Rw.rd ((hs.at hi).at hk) hn))) (by kernel_rfl) (by kernel_rfl) (by kernel_rfl) rfl ?_ | refine d_q 6 [[]] rfl (q_load_old rfl rfl sz_24 (rfl (Rw.rd ((ht.at hi2).at hk2) hn2))) (by kernel_rfl) (by kernel_rfl) (by kernel_rfl) rfl ?_
        refine d_p 7 rfl (p_pure rfl) (by kernel_rfl) rfl rfl ?_
        first | refine d_p 8 rfl (p_indexAddr rfl rfl rfl sl_24 (i) (by omega) (by omega) rfl) (by kernel_rfl) rfl rfl ?_ | refine d_p 8 rfl (p_indexAddr rfl rfl rfl sl_24 (i) (by omega) (by omega) (Rw.some hs.1 (by omega))) (by kernel_rfl) rfl rfl ?_ | refine d_p 8 rfl (p_indexAddr rfl rfl rfl sl_24 (i) (by omega) (by omega) (Rw.some ht.1 (by omega))) (by kernel_rfl) rfl rfl ?_ | refine d_p 8 rfl (p_indexAddr rfl rfl rfl sl_24 (i) (by omega) (by omega) (Rw.some (hs.at hi).1 (by omega))) (by kernel_rfl) rfl rfl ?_ | refine d_p 8 rfl (p_indexAddr rfl rfl rfl sl_24 (i) (by omega) (by omega) (Rw.some (ht.at hi2).1 (by omega))) (by kernel_rfl) rfl rfl ?_ | refine d_p 8 rfl (p_indexAddr rfl rfl rfl sl_24 (i) (by omega) (by omega) (Rw.some ((hs.at hi).at hk) (by omega))) (by kernel_rfl) rfl rfl ?_ | refine d_p 8 rfl (p_indexAddr rfl rfl rfl sl_24 (i) (by omega) (by omega) (Rw.some ((ht.at hi2).at hk2) (by omega))) (by kernel_rfl) rfl rfl ?_
        first | refine d_q 9 [[]] rfl (q_loadn rfl rfl sz_77 (by repeat (first | exact .here | apply Pick.there)) rfl) (by kernel_rfl) (by kernel_rfl) (by kernel_rfl) rfl ?_ | refine d_q 9 [[]] rfl (q_load_oldn _ rfl rfl sz_77 rfl (Rw.rd hs.1 hi)) (by kernel_rfl) (by kernel_rfl) (by kernel_rfl) rfl ?_ | refine d_q 9 [[]] rfl (q_load_oldn _ rfl rfl sz_77 rfl (Rw.rd ht.1 hi2)) (by kernel_rfl) (by kernel_rfl) (by kernel_rfl) rfl ?_ | refine d_q 9 [[]] rfl (q_load_oldn _ rfl rfl sz_77 rfl (Rw.rd (hs.at hi).1 hk)) (by kernel_rfl) (by kernel_rfl) (by kernel_rfl) rfl ?_ | refine d_q 9 [[]] rfl (q_load_oldn _ rfl rfl sz_77 rfl (Rw.rd (ht.at hi2).1 hk2)) (by kernel_rfl) (by kernel_rfl) (by kernel_rfl) rfl ?_ | refine d_q 9 [[]] rfl (q_load_oldn _ rfl rfl sz_77 rfl (Rw.rd ((hs.at hi).at hk) hn)) (by kernel_rfl) (by kernel_rfl) (by kernel_rfl) rfl ?_ | refine d_q 9 [[]] rfl (q_load_oldn _ rfl rfl sz_77 rfl (Rw.rd ((ht.at hi2).at hk2) hn2)) (by kernel_rfl) (by kernel_rfl) (by kernel_rfl) rfl ?_
        refine d_two 10 11 rfl rfl  (h_alloc rfl zr_77) (h_alloc rfl zr_77) (by kernel_rfl) (fun w h => h.ent (by repeat (first | exact .nil | refine .cons (by repeat (first | exact .here | apply Pick.there)) ?_))) rfl rfl  (fun b9 _ => ?_) (fun b10 _ => ?_)
        · skip
          refine d_h 11 rfl (h_alloc rfl zr_77) (by kernel_rfl) (fun w h => h.ent (by repeat (first | exact .nil | refine .cons (by repeat (first | exact .here | apply Pick.there)) ?_))) rfl (fun b11 _ => ?_)
          refine d_h0 12 rfl (h_store rfl rfl rfl sz_77 rfl (by repeat (first | exact .here | apply Put.there)) (by simp only [setMany_length, List.length_set, List.length_cons, List.length_nil, List.length_map]; omega) rfl) (by kernel_rfl) (fun w h => h.ent (by repeat (first | exact .nil | refine .cons (by repeat (first | exact .here | apply Pick.there)) ?_))) (fun _ _ => ?_)
          refine d_h0 13 rfl (h_store rfl rfl rfl sz_77 rfl (by repeat (first | exact .here | apply Put.there)) (by simp only [setMany_length, List.length_set, List.length_cons, List.length_nil, List.length_map]; omega) rfl) (by kernel_rfl) (fun w h => h.ent (by repeat (first | exact .nil | refine .cons (by repeat (first | exact .here | apply Pick.there)) ?_))) (fun _ _ => ?_)
          refine d_turn [] (by kernel_rfl) ?_
          refine d_nil (by kernel_rfl) (fun w h => h.ent (by repeat (first | exact .nil | refine .cons (by repeat (first | exact .here | apply Pick.there)) ?_))) ?_
          exact s_joinI (_, _) trivial (by repeat (first | exact sl_n | refine sl_c rfl ?_)) (fun w h => h.ent (by repeat (first | exact .nil | refine .cons (by repeat (first | exact .here | apply Pick.there)) ?_)))
        · skip
          refine d_h 10 rfl (h_alloc rfl zr_77) (by kernel_rfl) (fun w h => h.ent (by repeat (first | exact .nil | refine .cons (by repeat (first | exact .here | apply Pick.there)) ?_))) rfl (fun b12 _ => ?_)
          refine d_h0 12 rfl (h_store rfl rfl rfl sz_77 rfl (by repeat (first | exact .here | apply Put.there)) (by simp only [setMany_length, List.length_set, List.length_cons, List.length_nil, List.length_map]; omega) rfl) (by kernel_rfl) (fun w h => h.ent (by repeat (first | exact .nil | refine .cons (by repeat (first | exact .here | apply Pick.there)) ?_))) (fun _ _ => ?_)
          refine d_h0 13 rfl (h_store rfl rfl rfl sz_77 rfl (by repeat (first | exact .here | apply Put.there)) (by simp only [setMany_length, List.length_set, List.length_cons, List.length_nil, List.length_map]; omega) rfl) (by kernel_rfl) (fun w h => h.ent (by repeat (first | exact .nil | refine .cons (by repeat (first | exact .here | apply Pick.there)) ?_))) (fun _ _ => ?_)
          refine d_turn [] (by kernel_rfl) ?_
          refine d_nil (by kernel_rfl) (fun w h => h.ent (by repeat (first | exact .nil | refine .cons (by repeat (first | exact .here | apply Pick.there)) ?_))) ?_
          exact s_joinI (_, _) trivial (by repeat (first | exact sl_n | refine sl_c rfl ?_)) (fun w h => h.ent (by repeat (first | exact .nil | refine .cons (by repeat (first | exact .here | apply Pick.there)) ?_)))
      · intro y _
        refine s_seq ?_
        refine s_seq ?_
        refine s_region ?_
        refine o_p (p_fieldAddr rfl rfl fd_77_0 sz_42 rfl) rfl ?_
        first | refine o_q (q_loadn rfl rfl sz_42 (by repeat (first | exact .here | apply Pick.there)) rfl) rfl ?_ | refine o_q (q_load_oldn _ rfl rfl sz_42 rfl (Rw.rd hs.1 hi)) rfl ?_ | refine o_q (q_load_oldn _ rfl rfl sz_42 rfl (Rw.rd ht.1 hi2)) rfl ?_ | refine o_q (q_load_oldn _ rfl rfl sz_42 rfl (Rw.rd (hs.at hi).1 hk)) rfl ?_ | refine o_q (q_load_oldn _ rfl rfl sz_42 rfl (Rw.rd (ht.at hi2).1 hk2)) rfl ?_ | refine o_q (q_load_oldn _ rfl rfl sz_42 rfl (Rw.rd ((hs.at hi).at hk) hn)) rfl ?_ | refine o_q (q_load_oldn _ rfl rfl sz_42 rfl (Rw.rd ((ht.at hi2).at hk2) hn2)) rfl ?_
        refine o_p (p_fieldAddr rfl rfl fd_77_0 sz_42 rfl) rfl ?_
        first | refine o_q (q_loadn rfl rfl sz_42 (by repeat (first | exact .here | apply Pick.there)) rfl) rfl ?_ | refine o_q (q_load_oldn _ rfl rfl sz_42 rfl (Rw.rd hs.1 hi)) rfl ?_ | refine o_q (q_load_oldn _ rfl rfl sz_42 rfl (Rw.rd ht.1 hi2)) rfl ?_ | refine o_q (q_load_oldn _ rfl rfl sz_42 rfl (Rw.rd (hs.at hi).1 hk)) rfl ?_ | refine o_q (q_load_oldn _ rfl rfl sz_42 rfl (Rw.rd (ht.at hi2).1 hk2)) rfl ?_ | refine o_q (q_load_oldn _ rfl rfl sz_42 rfl (Rw.rd ((hs.at hi).at hk) hn)) rfl ?_ | refine o_q (q_load_oldn _ rfl rfl sz_42 rfl (Rw.rd ((ht.at hi2).at hk2) hn2)) rfl ?_
        refine o_p (p_neq_agg rfl rfl rfl eqk_42 (by rfl) (by rfl) (by rfl)) rfl ?_
        refine o_p (p_pure rfl) rfl ?_
        refine o_or 6 48 54 _ _ rfl
          (by
            intro hg13
            have hs14 := hg13; try simp only [decide_eq_true_eq, decide_eq_false_iff_not, Bool.not_eq_true', Bool.not_eq_false', Bool.and_eq_true, Bool.or_eq_true, Bool.and_eq_false_iff, Bool.or_eq_false_iff, Bool.not_true, Bool.not_false] at hs14
            refine o_on 48 _ rfl rfl hg13 ?_
            refine o_p (p_fieldAddr rfl rfl fd_77_1 sz_4 rfl) rfl ?_
            refine o_on 48 _ rfl rfl hg13 ?_
            first | refine o_q (q_load rfl rfl sz_4 (by repeat (first | exact .here | apply Pick.there)) rfl) rfl ?_ | refine o_q (q_load_old rfl rfl sz_4 (rfl (Rw.rd hs.1 hi))) rfl ?_ | refine o_q (q_load_old rfl rfl sz_4 (rfl (Rw.rd ht.1 hi2))) rfl ?_ | refine o_q (q_load_old rfl rfl sz_4 (rfl (Rw.rd (hs.at hi).1 hk))) rfl ?_ | refine o_q (q_load_old rfl rfl sz_4 (rfl (Rw.rd (ht.at hi2).1 hk2))) rfl ?_ | refine o_q (q_load_old rfl rfl sz_4 (rfl (Rw.rd ((hs.at hi).at hk) hn))) rfl ?_ | refine o_q (q_load_old rfl rfl sz_4 (rfl (Rw.rd ((ht.at hi2).at hk2) hn2))) rfl ?_
            refine o_on 48 _ rfl rfl hg13 ?_
            refine o_p (p_fieldAddr rfl rfl fd_77_1 sz_4 rfl) rfl ?_
            refine o_on 48 _ rfl rfl hg13 ?_
            first | refine o_q (q_load rfl rfl sz_4 (by repeat (first | exact .here | apply Pick.there)) rfl) rfl ?_ | refine o_q (q_load_old rfl rfl sz_4 (rfl (Rw.rd hs.1 hi))) rfl ?_ | refine o_q (q_load_old rfl rfl sz_4 (rfl (Rw.rd ht.1 hi2))) rfl ?_ | refine o_q (q_load_old rfl rfl sz_4 (rfl (Rw.rd (hs.at hi).1 hk))) rfl ?_ | refine o_q (q_load_old rfl rfl sz_4 (rfl (Rw.rd (ht.at hi2).1 hk2))) rfl ?_ | refine o_q (q_load_old rfl rfl sz_4 (rfl (Rw.rd ((hs.at hi).at hk) hn))) rfl ?_ | refine o_q (q_load_old rfl rfl sz_4 (rfl (Rw.rd ((ht.at hi2).at hk2) hn2))) rfl ?_
            refine o_on 48 _ rfl rfl hg13 ?_
            refine o_p (p_neq_bool rfl rfl rfl Try.underlying4) rfl ?_
            refine o_p (p_pickf rfl rfl hg13 rfl) rfl ?_
            refine o_nil ?_
            exact s_joinN 6 54 _ rfl rfl rfl (fun w h => by first | exact h | exact h.ent (by repeat (first | exact .nil | refine .cons (by repeat (first | exact .here | apply Pick.there)) ?_))))
          (by
            intro hg15
            have hs16 := hg15; try simp only [decide_eq_true_eq, decide_eq_false_iff_not, Bool.not_eq_true', Bool.not_eq_false', Bool.and_eq_true, Bool.or_eq_true, Bool.and_eq_false_iff, Bool.or_eq_false_iff, Bool.not_true, Bool.not_false] at hs16
            refine o_off 48 _ rfl rfl hg15 rfl ?_
            refine o_off 48 _ rfl rfl hg15 rfl ?_
            refine o_off 48 _ rfl rfl hg15 rfl ?_
            refine o_off 48 _ rfl rfl hg15 rfl ?_
            refine o_off 48 _ rfl rfl hg15 rfl ?_
            refine o_p (p_pickt rfl rfl hg15 rfl) rfl ?_
            refine o_nil ?_
            exact s_joinN 6 54 _ rfl rfl rfl (fun w h => by first | exact h | exact h.ent (by repeat (first | exact .nil | refine .cons (by repeat (first | exact .here | apply Pick.there)) ?_)))) ?_
        refine o_p (p_pure rfl) rfl ?_
        refine o_or 8 55 63 _ _ rfl
          (by
            intro hg17
            have hs18 := hg17; try simp only [decide_eq_true_eq, decide_eq_false_iff_not, Bool.not_eq_true', Bool.not_eq_false', Bool.and_eq_true, Bool.or_eq_true, Bool.and_eq_false_iff, Bool.or_eq_false_iff, Bool.not_true, Bool.not_false] at hs18
            refine o_on 55 _ rfl rfl hg17 ?_
            refine o_p (p_fieldAddr rfl rfl fd_77_2 sz_75 rfl) rfl ?_
            refine o_on 55 _ rfl rfl hg17 ?_
            first | refine o_q (q_load rfl rfl sz_75 (by repeat (first | exact .here | apply Pick.there)) rfl) rfl ?_ | refine o_q (q_load_old rfl rfl sz_75 (rfl (Rw.rd hs.1 hi))) rfl ?_ | refine o_q (q_load_old rfl rfl sz_75 (rfl (Rw.rd ht.1 hi2))) rfl ?_ | refine o_q (q_load_old rfl rfl sz_75 (rfl (Rw.rd (hs.at hi).1 hk))) rfl ?_ | refine o_q (q_load_old rfl rfl sz_75 (rfl (Rw.rd (ht.at hi2).1 hk2))) rfl ?_ | refine o_q (q_load_old rfl rfl sz_75 (rfl (Rw.rd ((hs.at hi).at hk) hn))) rfl ?_ | refine o_q (q_load_old rfl rfl sz_75 (rfl (Rw.rd ((ht.at hi2).at hk2) hn2))) rfl ?_
            refine o_on 55 _ rfl rfl hg17 ?_
            first | refine o_p (p_len_slice rfl rfl Try.underlying75) rfl ?_ | refine o_q (q_len_own rfl rfl Try.underlying75 (by repeat (first | exact .here | apply Pick.there))) rfl ?_
            refine o_on 55 _ rfl rfl hg17 ?_
            refine o_p (p_fieldAddr rfl rfl fd_77_2 sz_75 rfl) rfl ?_
            refine o_on 55 _ rfl rfl hg17 ?_
            first | refine o_q (q_load rfl rfl sz_75 (by repeat (first | exact .here | apply Pick.there)) rfl) rfl ?_ | refine o_q (q_load_old rfl rfl sz_75 (rfl (Rw.rd hs.1 hi))) rfl ?_ | refine o_q (q_load_old rfl rfl sz_75 (rfl (Rw.rd ht.1 hi2))) rfl ?_ | refine o_q (q_load_old rfl rfl sz_75 (rfl (Rw.rd (hs.at hi).1 hk))) rfl ?_ | refine o_q (q_load_old rfl rfl sz_75 (rfl (Rw.rd (ht.at hi2).1 hk2))) rfl ?_ | refine o_q (q_load_old rfl rfl sz_75 (rfl (Rw.rd ((hs.at hi).at hk) hn))) rfl ?_ | refine o_q (q_load_old rfl rfl sz_75 (rfl (Rw.rd ((ht.at hi2).at hk2) hn2))) rfl ?_
            refine o_on 55 _ rfl rfl hg17 ?_
            first | refine o_p (p_len_slice rfl rfl Try.underlying75) rfl ?_ | refine o_q (q_len_own rfl rfl Try.underlying75 (by repeat (first | exact .here | apply Pick.there))) rfl ?_
            refine o_on 55 _ rfl rfl hg17 ?_
            refine o_p (p_pure rfl) rfl ?_
            refine o_p (p_pickf rfl rfl hg17 rfl) rfl ?_
            refine o_nil ?_
            exact s_joinN 8 63 _ rfl rfl rfl (fun w h => by first | exact h | exact h.ent (by repeat (first | exact .nil | refine .cons (by repeat (first | exact .here | apply Pick.there)) ?_))))
          (by
            intro hg19
            have hs20 := hg19; try simp only [decide_eq_true_eq, decide_eq_false_iff_not, Bool.not_eq_true', Bool.not_eq_false', Bool.and_eq_true, Bool.or_eq_true, Bool.and_eq_false_iff, Bool.or_eq_false_iff, Bool.not_true, Bool.not_false] at hs20
            refine o_off 55 _ rfl rfl hg19 rfl ?_
            refine o_off 55 _ rfl rfl hg19 rfl ?_
            refine o_off 55 _ rfl rfl hg19 rfl ?_
            refine o_off 55 _ rfl rfl hg19 rfl ?_
            refine o_off 55 _ rfl rfl hg19 rfl ?_
            refine o_off 55 _ rfl rfl hg19 rfl ?_
            refine o_off 55 _ rfl rfl hg19 rfl ?_
            refine o_p (p_pickt rfl rfl hg19 rfl) rfl ?_
            refine o_nil ?_
            exact s_joinN 8 63 _ rfl rfl rfl (fun w h => by first | exact h | exact h.ent (by repeat (first | exact .nil | refine .cons (by repeat (first | exact .here | apply Pick.there)) ?_)))) ?_
        refine o_nil ?_
        refine s_cond rfl (fun h21 => ?_) (fun h21 => ?_)
        · try simp only [decide_eq_true_eq, decide_eq_false_iff_not, Bool.not_eq_true', Bool.not_eq_false', Bool.and_eq_true, Bool.or_eq_true, Bool.and_eq_false_iff, Bool.or_eq_false_iff, Bool.not_true, Bool.not_false] at h21
          exfalso; have hq9 := h21; simp [e1, e2, e3, e4] at hq9
        · try simp only [decide_eq_true_eq, decide_eq_false_iff_not, Bool.not_eq_true', Bool.not_eq_false', Bool.and_eq_true, Bool.or_eq_true, Bool.and_eq_false_iff, Bool.or_eq_false_iff, Bool.not_true, Bool.not_false] at h21
          refine s_skip ?_
          refine s_seq ?_
          refine s_region ?_
          refine o_p (p_pure rfl) rfl ?_
          refine o_nil ?_
          refine s_block ?_
          refine s_weaken (L' := [(0, _), (1, _), (2, _), (3, _), (5, _), (6, _), (7, _), (8, _), (12, _), (13, _), (14, _), (15, _), (16, _), (17, _), (25, _)]) (by repeat (first | exact sl_n | refine sl_c rfl ?_)) (fun _ h => h) ?_
          refine s_loopI (α := Nat) [4, 8, 9, 10, 11, 64, 65, 66, 67, 68, 69, 70, 71, 72, 73, 74, 75, 76, 77, 78, 79, 80, 81, 82, 83, 84, 85, 86, 87, 88, 89, 90, 91, 92, 93, 94, 95, 96, 97, 98, 99, 100, 101, 102, 103, 104, 105, 106, 107, 108, 109, 110, 111, 112, 113, 114, 115, 116, 117, 118, 119, 120, 121, 122, 123, 124, 125, 126, 127, 128, 129, 130, 131, 132, 133] (fun i => [(8, .int .i64 (i : Int))]) (fun _ => HS w [] [.blk y.1 77 4 (nth L i).vals, .blk y.2 77 4 (nth L2 i).vals, .blk b1 26 2 [.int .i64 next, .slice a L.length cap], .blk b2 26 2 [.int .i64 next, .slice b L2.length cap2]]) (fun k => k ≤ (nth L i).op.length) (fun k => (nth L i).op.length - k) 0 (Nat.zero_le _) (by repeat (first | exact sl_n | refine sl_c rfl ?_)) (fun w h => h.ent (by repeat (first | exact .nil | refine .cons (by repeat (first | exact .here | apply Pick.there)) ?_))) (fun k hk1 => ?_)
          refine s_seq ?_
          refine s_seq ?_
          refine s_region ?_
          refine o_p (p_pure rfl) rfl ?_
          refine o_p (p_fieldAddr rfl rfl fd_77_2 sz_75 rfl) rfl ?_
          first | refine o_q (q_load rfl rfl sz_75 (by repeat (first | exact .here | apply Pick.there)) rfl) rfl ?_ | refine o_q (q_load_old rfl rfl sz_75 (rfl (Rw.rd hs.1 hi))) rfl ?_ | refine o_q (q_load_old rfl rfl sz_75 (rfl (Rw.rd ht.1 hi2))) rfl ?_ | refine o_q (q_load_old rfl rfl sz_75 (rfl (Rw.rd (hs.at hi).1 hk))) rfl ?_ | refine o_q (q_load_old rfl rfl sz_75 (rfl (Rw.rd (ht.at hi2).1 hk2))) rfl ?_ | refine o_q (q_load_old rfl rfl sz_75 (rfl (Rw.rd ((hs.at hi).at hk) hn))) rfl ?_ | refine o_q (q_load_old rfl rfl sz_75 (rfl (Rw.rd ((ht.at hi2).at hk2) hn2))) rfl ?_
          first | refine o_p (p_len_slice rfl rfl Try.underlying75) rfl ?_ | refine o_q (q_len_own rfl rfl Try.underlying75 (by repeat (first | exact .here | apply Pick.there))) rfl ?_
          refine o_p (p_pure rfl) rfl ?_
          refine o_nil ?_
          refine s_cond rfl (fun h22 => ?_) (fun h22 => ?_)
          · try simp only [decide_eq_true_eq, decide_eq_false_iff_not, Bool.not_eq_true', Bool.not_eq_false', Bool.and_eq_true, Bool.or_eq_true, Bool.and_eq_false_iff, Bool.or_eq_false_iff, Bool.not_true, Bool.not_false] at h22
            have hk : k < (nth L i).op.length := by omega
            have hk2 : k < (nth L2 i).op.length := by omega
            have hki := hml _ (mem_nth hi) _ (mem_nth hk)
            have hq := (same_op hp hk).2.2
            have d1 : (nth (nth L2 i).op k).hd = (nth (nth L i).op k).hd := congrArg Opn.hd hq
            have d2 : (nth (nth L2 i).op k).ac = (nth (nth L i).op k).ac := congrArg Opn.ac hq
            have d3 : (nth (nth L2 i).op k).sh = (nth (nth L i).op k).sh := congrArg Opn.sh hq
            have d4 : (nth (nth L2 i).op k).dl = (nth (nth L i).op k).dl := congrArg Opn.dl hq
            have d5 : (nth (nth L2 i).op k).lk = (nth (nth L i).op k).lk := congrArg Opn.lk hq
            have d6 : (nth (nth L2 i).op k).lk.length = (nth (nth L i).op k).lk.length := by rw [d5]
            refine s_skip ?_
            refine s_seq ?_
            refine s_block ?_
            refine s_seq ?_
            refine s_cutI (α := Nat × Nat) [9, 10, 71, 72, 73, 74, 75, 76, 77, 78, 79, 80] (fun z => [(9, .pointer (some ⟨z.1, 0, none⟩)), (10, .pointer (some ⟨z.2, 0, none⟩))]) (fun z => HS w [] [.blk z.1 48 5 (nth (nth L i).op k).vals, .blk z.2 48 5 (nth (nth L2 i).op k).vals, .blk y.1 77 4 (nth L i).vals, .blk y.2 77 4 (nth L2 i).vals, .blk b1 26 2 [.int .i64 next, .slice a L.length cap], .blk b2 26 2 [.int .i64 next, .slice b L2.length cap2]]) (fun _ => True) ?_ ?_
            · skip
              refine s_drawB [.blk y.1 77 4 (nth L i).vals, .blk y.2 77 4 (nth L2 i).vals, .blk b1 26 2 [.int .i64 next, .slice a L.length cap], .blk b2 26 2 [.int .i64 next, .slice b L2.length cap2]] [13] mixed ?_
              refine d_p 0 rfl (p_fieldAddr rfl rfl fd_77_2 sz_75 rfl) (by kernel_rfl) rfl rfl ?_
              first | refine d_q 1 [[]] rfl (q_load rfl rfl sz_75 (by repeat (first | exact .here | apply Pick.there)) rfl) (by kernel_rfl) (by kernel_rfl) (by kernel_rfl) rfl ?_ | refine d_q 1 [[]] rfl (q_load_old rfl rfl sz_75 (rfl (Rw.rd hs.1 hi))) (by kernel_rfl) (by kernel_rfl) (by kernel_rfl) rfl ?_ | refine d_q 1 [[]] rfl (q_load_old rfl rfl sz_75 (rfl (Rw.rd ht.1 hi2))) (by kernel_rfl) (by kernel_rfl) (by kernel_rfl) rfl ?_ | refine d_q 1 [[]] rfl (q_load_old rfl rfl sz_75 (rfl (Rw.rd (hs.at hi).1 hk))) (by kernel_rfl) (by kernel_rfl) (by kernel_rfl) rfl ?_ | refine d_q 1 [[]] rfl (q_load_old rfl rfl sz_75 (rfl (Rw.rd (ht.at hi2).1 hk2))) (by kernel_rfl) (by kernel_rfl) (by kernel_rfl) rfl ?_ | refine d_q 1 [[]] rfl (q_load_old rfl rfl sz_75 (rfl (Rw.rd ((hs.at hi).at hk) hn))) (by kernel_rfl) (by kernel_rfl) (by kernel_rfl) rfl ?_ | refine d_q 1 [[]] rfl (q_load_old rfl rfl sz_75 (rfl (Rw.rd ((ht.at hi2).at hk2) hn2))) (by kernel_rfl) (by kernel_rfl) (by kernel_rfl) rfl ?_
              refine d_p 2 rfl (p_pure rfl) (by kernel_rfl) rfl rfl ?_
              first | refine d_p 3 rfl (p_indexAddr rfl rfl rfl sl_75 (k) (by omega) (by omega) rfl) (by kernel_rfl) rfl rfl ?_ | refine d_p 3 rfl (p_indexAddr rfl rfl rfl sl_75 (k) (by omega) (by omega) (Rw.some hs.1 (by omega))) (by kernel_rfl) rfl rfl ?_ | refine d_p 3 rfl (p_indexAddr rfl rfl rfl sl_75 (k) (by omega) (by omega) (Rw.some ht.1 (by omega))) (by kernel_rfl) rfl rfl ?_ | refine d_p 3 rfl (p_indexAddr rfl rfl rfl sl_75 (k) (by omega) (by omega) (Rw.some (hs.at hi).1 (by omega))) (by kernel_rfl) rfl rfl ?_ | refine d_p 3 rfl (p_indexAddr rfl rfl rfl sl_75 (k) (by omega) (by omega) (Rw.some (ht.at hi2).1 (by omega))) (by kernel_rfl) rfl rfl ?_ | refine d_p 3 rfl (p_indexAddr rfl rfl rfl sl_75 (k) (by omega) (by omega) (Rw.some ((hs.at hi).at hk) (by omega))) (by kernel_rfl) rfl rfl ?_ | refine d_p 3 rfl (p_indexAddr rfl rfl rfl sl_75 (k) (by omega) (by omega) (Rw.some ((ht.at hi2).at hk2) (by omega))) (by kernel_rfl) rfl rfl ?_
              first | refine d_q 4 [[]] rfl (q_loadn rfl rfl sz_48 (by repeat (first | exact .here | apply Pick.there)) rfl) (by kernel_rfl) (by kernel_rfl) (by kernel_rfl) rfl ?_ | refine d_q 4 [[]] rfl (q_load_oldn _ rfl rfl sz_48 rfl (Rw.rd hs.1 hi)) (by kernel_rfl) (by kernel_rfl) (by kernel_rfl) rfl ?_ | refine d_q 4 [[]] rfl (q_load_oldn _ rfl rfl sz_48 rfl (Rw.rd ht.1 hi2)) (by kernel_rfl) (by kernel_rfl) (by kernel_rfl) rfl ?_ | refine d_q 4 [[]] rfl (q_load_oldn _ rfl rfl sz_48 rfl (Rw.rd (hs.at hi).1 hk)) (by kernel_rfl) (by kernel_rfl) (by kernel_rfl) rfl ?_ | refine d_q 4 [[]] rfl (q_load_oldn _ rfl rfl sz_48 rfl (Rw.rd (ht.at hi2).1 hk2)) (by kernel_rfl) (by kernel_rfl) (by kernel_rfl) rfl ?_ | refine d_q 4 [[]] rfl (q_load_oldn _ rfl rfl sz_48 rfl (Rw.rd ((hs.at hi).at hk) hn)) (by kernel_rfl) (by kernel_rfl) (by kernel_rfl) rfl ?_ | refine d_q 4 [[]] rfl (q_load_oldn _ rfl rfl sz_48 rfl (Rw.rd ((ht.at hi2).at hk2) hn2)) (by kernel_rfl) (by kernel_rfl) (by kernel_rfl) rfl ?_
              refine d_p 5 rfl (p_fieldAddr rfl rfl fd_77_2 sz_75 rfl) (by kernel_rfl) rfl rfl ?_
              first | refine d_q 6 [[]] rfl (q_load rfl rfl sz_75 (by repeat (first | exact .here | apply Pick.there)) rfl) (by kernel_rfl) (by kernel_rfl) (by kernel_rfl) rfl ?_ | refine d_q 6 [[]] rfl (q_load_old rfl rfl sz_75 (rfl (Rw.rd hs.1 hi))) (by kernel_rfl) (by kernel_rfl) (by kernel_rfl) rfl ?_ | refine d_q 6 [[]] rfl (q_load_old rfl rfl sz_75 (rfl (Rw.rd ht.1 hi2))) (by kernel_rfl) (by kernel_rfl) (by kernel_rfl) rfl ?_ | refine d_q 6 [[]] rfl (q_load_old rfl rfl sz_75 (rfl (Rw.rd (hs.at hi).1 hk))) (by kernel_rfl) (by kernel_rfl) (by kernel_rfl) rfl ?_ | refine d_q 6 [[]] rfl (q_load_old rfl rfl sz_75 (rfl (Rw.rd (ht.at hi2).1 hk2))) (by kernel_rfl) (by kernel_rfl) (by kernel_rfl) rfl ?_ | refine d_q 6 [[]] rfl (q_load_old rfl rfl sz_75 (rfl (Rw.rd ((hs.at hi).at hk) hn))) (by kernel_rfl) (by kernel_rfl) (by kernel_rfl) rfl ?_ | refine d_q 6 [[]] rfl (q_load_old rfl rfl sz_75 (rfl (Rw.rd ((ht.at hi2).at hk2) hn2))) (by kernel_rfl) (by kernel_rfl) (by kernel_rfl) rfl ?_
              refine d_p 7 rfl (p_pure rfl) (by kernel_rfl) rfl rfl ?_
              first | refine d_p 8 rfl (p_indexAddr rfl rfl rfl sl_75 (k) (by omega) (by omega) rfl) (by kernel_rfl) rfl rfl ?_ | refine d_p 8 rfl (p_indexAddr rfl rfl rfl sl_75 (k) (by omega) (by omega) (Rw.some hs.1 (by omega))) (by kernel_rfl) rfl rfl ?_ | refine d_p 8 rfl (p_indexAddr rfl rfl rfl sl_75 (k) (by omega) (by omega) (Rw.some ht.1 (by omega))) (by kernel_rfl) rfl rfl ?_ | refine d_p 8 rfl (p_indexAddr rfl rfl rfl sl_75 (k) (by omega) (by omega) (Rw.some (hs.at hi).1 (by omega))) (by kernel_rfl) rfl rfl ?_ | refine d_p 8 rfl (p_indexAddr rfl rfl rfl sl_75 (k) (by omega) (by omega) (Rw.some (ht.at hi2).1 (by omega))) (by kernel_rfl) rfl rfl ?_ | refine d_p 8 rfl (p_indexAddr rfl rfl rfl sl_75 (k) (by omega) (by omega) (Rw.some ((hs.at hi).at hk) (by omega))) (by kernel_rfl) rfl rfl ?_ | refine d_p 8 rfl (p_indexAddr rfl rfl rfl sl_75 (k) (by omega) (by omega) (Rw.some ((ht.at hi2).at hk2) (by omega))) (by kernel_rfl) rfl rfl ?_
              first | refine d_q 9 [[]] rfl (q_loadn rfl rfl sz_48 (by repeat (first | exact .here | apply Pick.there)) rfl) (by kernel_rfl) (by kernel_rfl) (by kernel_rfl) rfl ?_ | refine d_q 9 [[]] rfl (q_load_oldn _ rfl rfl sz_48 rfl (Rw.rd hs.1 hi)) (by kernel_rfl) (by kernel_rfl) (by kernel_rfl) rfl ?_ | refine d_q 9 [[]] rfl (q_load_oldn _ rfl rfl sz_48 rfl (Rw.rd ht.1 hi2)) (by kernel_rfl) (by kernel_rfl) (by kernel_rfl) rfl ?_ | refine d_q 9 [[]] rfl (q_load_oldn _ rfl rfl sz_48 rfl (Rw.rd (hs.at hi).1 hk)) (by kernel_rfl) (by kernel_rfl) (by kernel_rfl) rfl ?_ | refine d_q 9 [[]] rfl (q_load_oldn _ rfl rfl sz_48 rfl (Rw.rd (ht.at hi2).1 hk2)) (by kernel_rfl) (by kernel_rfl) (by kernel_rfl) rfl ?_ | refine d_q 9 [[]] rfl (q_load_oldn _ rfl rfl sz_48 rfl (Rw.rd ((hs.at hi).at hk) hn)) (by kernel_rfl) (by kernel_rfl) (by kernel_rfl) rfl ?_ | refine d_q 9 [[]] rfl (q_load_oldn _ rfl rfl sz_48 rfl (Rw.rd ((ht.at hi2).at hk2) hn2)) (by kernel_rfl) (by kernel_rfl) (by kernel_rfl) rfl ?_
              refine d_two 10 11 rfl rfl  (h_alloc rfl zr_48) (h_alloc rfl zr_48) (by kernel_rfl) (fun w h => h.ent (by repeat (first | exact .nil | refine .cons (by repeat (first | exact .here | apply Pick.there)) ?_))) rfl rfl  (fun b23 _ => ?_) (fun b24 _ => ?_)
              · skip
                refine d_h 11 rfl (h_alloc rfl zr_48) (by kernel_rfl) (fun w h => h.ent (by repeat (first | exact .nil | refine .cons (by repeat (first | exact .here | apply Pick.there)) ?_))) rfl (fun b25 _ => ?_)
                refine d_h0 12 rfl (h_store rfl rfl rfl sz_48 rfl (by repeat (first | exact .here | apply Put.there)) (by simp only [setMany_length, List.length_set, List.length_cons, List.length_nil, List.length_map]; omega) rfl) (by kernel_rfl) (fun w h => h.ent (by repeat (first | exact .nil | refine .cons (by repeat (first | exact .here | apply Pick.there)) ?_))) (fun _ _ => ?_)
                refine d_h0 13 rfl (h_store rfl rfl rfl sz_48 rfl (by repeat (first | exact .here | apply Put.there)) (by simp only [setMany_length, List.length_set, List.length_cons, List.length_nil, List.length_map]; omega) rfl) (by kernel_rfl) (fun w h => h.ent (by repeat (first | exact .nil | refine .cons (by repeat (first | exact .here | apply Pick.there)) ?_))) (fun _ _ => ?_)
                refine d_turn [] (by kernel_rfl) ?_
                refine d_nil (by kernel_rfl) (fun w h => h.ent (by repeat (first | exact .nil | refine .cons (by repeat (first | exact .here | apply Pick.there)) ?_))) ?_
                exact s_joinI (_, _) trivial (by repeat (first | exact sl_n | refine sl_c rfl ?_)) (fun w h => h.ent (by repeat (first | exact .nil | refine .cons (by repeat (first | exact .here | apply Pick.there)) ?_)))
              · skip
                refine d_h 10 rfl (h_alloc rfl zr_48) (by kernel_rfl) (fun w h => h.ent (by repeat (first | exact .nil | refine .cons (by repeat (first | exact .here | apply Pick.there)) ?_))) rfl (fun b26 _ => ?_)
                refine d_h0 12 rfl (h_store rfl rfl rfl sz_48 rfl (by repeat (first | exact .here | apply Put.there)) (by simp only [setMany_length, List.length_set, List.length_cons, List.length_nil, List.length_map]; omega) rfl) (by kernel_rfl) (fun w h => h.ent (by repeat (first | exact .nil | refine .cons (by repeat (first | exact .here | apply Pick.there)) ?_))) (fun _ _ => ?_)
                refine d_h0 13 rfl (h_store rfl rfl rfl sz_48 rfl (by repeat (first | exact .here | apply Put.there)) (by simp only [setMany_length, List.length_set, List.length_cons, List.length_nil, List.length_map]; omega) rfl) (by kernel_rfl) (fun w h => h.ent (by repeat (first | exact .nil | refine .cons (by repeat (first | exact .here | apply Pick.there)) ?_))) (fun _ _ => ?_)
                refine d_turn [] (by kernel_rfl) ?_
                refine d_nil (by kernel_rfl) (fun w h => h.ent (by repeat (first | exact .nil | refine .cons (by repeat (first | exact .here | apply Pick.there)) ?_))) ?_
                exact s_joinI (_, _) trivial (by repeat (first | exact sl_n | refine sl_c rfl ?_)) (fun w h => h.ent (by repeat (first | exact .nil | refine .cons (by repeat (first | exact .here | apply Pick.there)) ?_)))
            · intro z _
              refine s_seq ?_
              refine s_seq ?_
              refine s_region ?_
              refine o_p (p_fieldAddr rfl rfl fd_48_0 sz_3 rfl) rfl ?_
              first | refine o_q (q_load rfl rfl sz_3 (by repeat (first | exact .here | apply Pick.there)) rfl) rfl ?_ | refine o_q (q_load_old rfl rfl sz_3 (rfl (Rw.rd hs.1 hi))) rfl ?_ | refine o_q (q_load_old rfl rfl sz_3 (rfl (Rw.rd ht.1 hi2))) rfl ?_ | refine o_q (q_load_old rfl rfl sz_3 (rfl (Rw.rd (hs.at hi).1 hk))) rfl ?_ | refine o_q (q_load_old rfl rfl sz_3 (rfl (Rw.rd (ht.at hi2).1 hk2))) rfl ?_ | refine o_q (q_load_old rfl rfl sz_3 (rfl (Rw.rd ((hs.at hi).at hk) hn))) rfl ?_ | refine o_q (q_load_old rfl rfl sz_3 (rfl (Rw.rd ((ht.at hi2).at hk2) hn2))) rfl ?_
              refine o_p (p_fieldAddr rfl rfl fd_48_0 sz_3 rfl) rfl ?_
              first | refine o_q (q_load rfl rfl sz_3 (by repeat (first | exact .here | apply Pick.there)) rfl) rfl ?_ | refine o_q (q_load_old rfl rfl sz_3 (rfl (Rw.rd hs.1 hi))) rfl ?_ | refine o_q (q_load_old rfl rfl sz_3 (rfl (Rw.rd ht.1 hi2))) rfl ?_ | refine o_q (q_load_old rfl rfl sz_3 (rfl (Rw.rd (hs.at hi).1 hk))) rfl ?_ | refine o_q (q_load_old rfl rfl sz_3 (rfl (Rw.rd (ht.at hi2).1 hk2))) rfl ?_ | refine o_q (q_load_old rfl rfl sz_3 (rfl (Rw.rd ((hs.at hi).at hk) hn))) rfl ?_ | refine o_q (q_load_old rfl rfl sz_3 (rfl (Rw.rd ((ht.at hi2).at hk2) hn2))) rfl ?_
              refine o_p (p_pure rfl) rfl ?_
              refine o_p (p_pure rfl) rfl ?_
              refine o_or 6 86 92 _ _ rfl
                (by
                  intro hg27
                  have hs28 := hg27; try simp only [decide_eq_true_eq, decide_eq_false_iff_not, Bool.not_eq_true', Bool.not_eq_false', Bool.and_eq_true, Bool.or_eq_true, Bool.and_eq_false_iff, Bool.or_eq_false_iff, Bool.not_true, Bool.not_false] at hs28
                  refine o_on 86 _ rfl rfl hg27 ?_
                  refine o_p (p_fieldAddr rfl rfl fd_48_1 sz_3 rfl) rfl ?_
                  refine o_on 86 _ rfl rfl hg27 ?_
                  first | refine o_q (q_load rfl rfl sz_3 (by repeat (first | exact .here | apply Pick.there)) rfl) rfl ?_ | refine o_q (q_load_old rfl rfl sz_3 (rfl (Rw.rd hs.1 hi))) rfl ?_ | refine o_q (q_load_old rfl rfl sz_3 (rfl (Rw.rd ht.1 hi2))) rfl ?_ | refine o_q (q_load_old rfl rfl sz_3 (rfl (Rw.rd (hs.at hi).1 hk))) rfl ?_ | refine o_q (q_load_old rfl rfl sz_3 (rfl (Rw.rd (ht.at hi2).1 hk2))) rfl ?_ | refine o_q (q_load_old rfl rfl sz_3 (rfl (Rw.rd ((hs.at hi).at hk) hn))) rfl ?_ | refine o_q (q_load_old rfl rfl sz_3 (rfl (Rw.rd ((ht.at hi2).at hk2) hn2))) rfl ?_
                  refine o_on 86 _ rfl rfl hg27 ?_
                  refine o_p (p_fieldAddr rfl rfl fd_48_1 sz_3 rfl) rfl ?_
                  refine o_on 86 _ rfl rfl hg27 ?_
                  first | refine o_q (q_load rfl rfl sz_3 (by repeat (first | exact .here | apply Pick.there)) rfl) rfl ?_ | refine o_q (q_load_old rfl rfl sz_3 (rfl (Rw.rd hs.1 hi))) rfl ?_ | refine o_q (q_load_old rfl rfl sz_3 (rfl (Rw.rd ht.1 hi2))) rfl ?_ | refine o_q (q_load_old rfl rfl sz_3 (rfl (Rw.rd (hs.at hi).1 hk))) rfl ?_ | refine o_q (q_load_old rfl rfl sz_3 (rfl (Rw.rd (ht.at hi2).1 hk2))) rfl ?_ | refine o_q (q_load_old rfl rfl sz_3 (rfl (Rw.rd ((hs.at hi).at hk) hn))) rfl ?_ | refine o_q (q_load_old rfl rfl sz_3 (rfl (Rw.rd ((ht.at hi2).at hk2) hn2))) rfl ?_
                  refine o_on 86 _ rfl rfl hg27 ?_
                  refine o_p (p_pure rfl) rfl ?_
                  refine o_p (p_pickf rfl rfl hg27 rfl) rfl ?_
                  refine o_nil ?_
                  exact s_joinN 6 92 _ rfl rfl rfl (fun w h => by first | exact h | exact h.ent (by repeat (first | exact .nil | refine .cons (by repeat (first | exact .here | apply Pick.there)) ?_))))
                (by
                  intro hg29
                  have hs30 := hg29; try simp only [decide_eq_true_eq, decide_eq_false_iff_not, Bool.not_eq_true', Bool.not_eq_false', Bool.and_eq_true, Bool.or_eq_true, Bool.and_eq_false_iff, Bool.or_eq_false_iff, Bool.not_true, Bool.not_false] at hs30
                  refine o_off 86 _ rfl rfl hg29 rfl ?_
                  refine o_off 86 _ rfl rfl hg29 rfl ?_
                  refine o_off 86 _ rfl rfl hg29 rfl ?_
                  refine o_off 86 _ rfl rfl hg29 rfl ?_
                  refine o_off 86 _ rfl rfl hg29 rfl ?_
                  refine o_p (p_pickt rfl rfl hg29 rfl) rfl ?_
                  refine o_nil ?_
                  exact s_joinN 6 92 _ rfl rfl rfl (fun w h => by first | exact h | exact h.ent (by repeat (first | exact .nil | refine .cons (by repeat (first | exact .here | apply Pick.there)) ?_)))) ?_
              refine o_p (p_pure rfl) rfl ?_
              refine o_or 6 93 99 _ _ rfl
                (by
                  intro hg31
                  have hs32 := hg31; try simp only [decide_eq_true_eq, decide_eq_false_iff_not, Bool.not_eq_true', Bool.not_eq_false', Bool.and_eq_true, Bool.or_eq_true, Bool.and_eq_false_iff, Bool.or_eq_false_iff, Bool.not_true, Bool.not_false] at hs32
                  refine o_on 93 _ rfl rfl hg31 ?_
                  refine o_p (p_fieldAddr rfl rfl fd_48_2 sz_3 rfl) rfl ?_
                  refine o_on 93 _ rfl rfl hg31 ?_
                  first | refine o_q (q_load rfl rfl sz_3 (by repeat (first | exact .here | apply Pick.there)) rfl) rfl ?_ | refine o_q (q_load_old rfl rfl sz_3 (rfl (Rw.rd hs.1 hi))) rfl ?_ | refine o_q (q_load_old rfl rfl sz_3 (rfl (Rw.rd ht.1 hi2))) rfl ?_ | refine o_q (q_load_old rfl rfl sz_3 (rfl (Rw.rd (hs.at hi).1 hk))) rfl ?_ | refine o_q (q_load_old rfl rfl sz_3 (rfl (Rw.rd (ht.at hi2).1 hk2))) rfl ?_ | refine o_q (q_load_old rfl rfl sz_3 (rfl (Rw.rd ((hs.at hi).at hk) hn))) rfl ?_ | refine o_q (q_load_old rfl rfl sz_3 (rfl (Rw.rd ((ht.at hi2).at hk2) hn2))) rfl ?_
                  refine o_on 93 _ rfl rfl hg31 ?_
                  refine o_p (p_fieldAddr rfl rfl fd_48_2 sz_3 rfl) rfl ?_
                  refine o_on 93 _ rfl rfl hg31 ?_
                  first | refine o_q (q_load rfl rfl sz_3 (by repeat (first | exact .here | apply Pick.there)) rfl) rfl ?_ | refine o_q (q_load_old rfl rfl sz_3 (rfl (Rw.rd hs.1 hi))) rfl ?_ | refine o_q (q_load_old rfl rfl sz_3 (rfl (Rw.rd ht.1 hi2))) rfl ?_ | refine o_q (q_load_old rfl rfl sz_3 (rfl (Rw.rd (hs.at hi).1 hk))) rfl ?_ | refine o_q (q_load_old rfl rfl sz_3 (rfl (Rw.rd (ht.at hi2).1 hk2))) rfl ?_ | refine o_q (q_load_old rfl rfl sz_3 (rfl (Rw.rd ((hs.at hi).at hk) hn))) rfl ?_ | refine o_q (q_load_old rfl rfl sz_3 (rfl (Rw.rd ((ht.at hi2).at hk2) hn2))) rfl ?_
                  refine o_on 93 _ rfl rfl hg31 ?_
                  refine o_p (p_pure rfl) rfl ?_
                  refine o_p (p_pickf rfl rfl hg31 rfl) rfl ?_
                  refine o_nil ?_
                  exact s_joinN 6 99 _ rfl rfl rfl (fun w h => by first | exact h | exact h.ent (by repeat (first | exact .nil | refine .cons (by repeat (first | exact .here | apply Pick.there)) ?_))))
                (by
                  intro hg33
                  have hs34 := hg33; try simp only [decide_eq_true_eq, decide_eq_false_iff_not, Bool.not_eq_true', Bool.not_eq_false', Bool.and_eq_true, Bool.or_eq_true, Bool.and_eq_false_iff, Bool.or_eq_false_iff, Bool.not_true, Bool.not_false] at hs34
                  refine o_off 93 _ rfl rfl hg33 rfl ?_
                  refine o_off 93 _ rfl rfl hg33 rfl ?_
                  refine o_off 93 _ rfl rfl hg33 rfl ?_
                  refine o_off 93 _ rfl rfl hg33 rfl ?_
                  refine o_off 93 _ rfl rfl hg33 rfl ?_
                  refine o_p (p_pickt rfl rfl hg33 rfl) rfl ?_
                  refine o_nil ?_
                  exact s_joinN 6 99 _ rfl rfl rfl (fun w h => by first | exact h | exact h.ent (by repeat (first | exact .nil | refine .cons (by repeat (first | exact .here | apply Pick.there)) ?_)))) ?_
              refine o_p (p_pure rfl) rfl ?_
              refine o_or 6 100 106 _ _ rfl
                (by
                  intro hg35
                  have hs36 := hg35; try simp only [decide_eq_true_eq, decide_eq_false_iff_not, Bool.not_eq_true', Bool.not_eq_false', Bool.and_eq_true, Bool.or_eq_true, Bool.and_eq_false_iff, Bool.or_eq_false_iff, Bool.not_true, Bool.not_false] at hs36
                  refine o_on 100 _ rfl rfl hg35 ?_
                  refine o_p (p_fieldAddr rfl rfl fd_48_3 sz_4 rfl) rfl ?_
                  refine o_on 100 _ rfl rfl hg35 ?_
                  first | refine o_q (q_load rfl rfl sz_4 (by repeat (first | exact .here | apply Pick.there)) rfl) rfl ?_ | refine o_q (q_load_old rfl rfl sz_4 (rfl (Rw.rd hs.1 hi))) rfl ?_ | refine o_q (q_load_old rfl rfl sz_4 (rfl (Rw.rd ht.1 hi2))) rfl ?_ | refine o_q (q_load_old rfl rfl sz_4 (rfl (Rw.rd (hs.at hi).1 hk))) rfl ?_ | refine o_q (q_load_old rfl rfl sz_4 (rfl (Rw.rd (ht.at hi2).1 hk2))) rfl ?_ | refine o_q (q_load_old rfl rfl sz_4 (rfl (Rw.rd ((hs.at hi).at hk) hn))) rfl ?_ | refine o_q (q_load_old rfl rfl sz_4 (rfl (Rw.rd ((ht.at hi2).at hk2) hn2))) rfl ?_
                  refine o_on 100 _ rfl rfl hg35 ?_
                  refine o_p (p_fieldAddr rfl rfl fd_48_3 sz_4 rfl) rfl ?_
                  refine o_on 100 _ rfl rfl hg35 ?_
                  first | refine o_q (q_load rfl rfl sz_4 (by repeat (first | exact .here | apply Pick.there)) rfl) rfl ?_ | refine o_q (q_load_old rfl rfl sz_4 (rfl (Rw.rd hs.1 hi))) rfl ?_ | refine o_q (q_load_old rfl rfl sz_4 (rfl (Rw.rd ht.1 hi2))) rfl ?_ | refine o_q (q_load_old rfl rfl sz_4 (rfl (Rw.rd (hs.at hi).1 hk))) rfl ?_ | refine o_q (q_load_old rfl rfl sz_4 (rfl (Rw.rd (ht.at hi2).1 hk2))) rfl ?_ | refine o_q (q_load_old rfl rfl sz_4 (rfl (Rw.rd ((hs.at hi).at hk) hn))) rfl ?_ | refine o_q (q_load_old rfl rfl sz_4 (rfl (Rw.rd ((ht.at hi2).at hk2) hn2))) rfl ?_
                  refine o_on 100 _ rfl rfl hg35 ?_
                  refine o_p (p_neq_bool rfl rfl rfl Try.underlying4) rfl ?_
                  refine o_p (p_pickf rfl rfl hg35 rfl) rfl ?_
                  refine o_nil ?_
                  exact s_joinN 6 106 _ rfl rfl rfl (fun w h => by first | exact h | exact h.ent (by repeat (first | exact .nil | refine .cons (by repeat (first | exact .here | apply Pick.there)) ?_))))
                (by
                  intro hg37
                  have hs38 := hg37; try simp only [decide_eq_true_eq, decide_eq_false_iff_not, Bool.not_eq_true', Bool.not_eq_false', Bool.and_eq_true, Bool.or_eq_true, Bool.and_eq_false_iff, Bool.or_eq_false_iff, Bool.not_true, Bool.not_false] at hs38
                  refine o_off 100 _ rfl rfl hg37 rfl ?_
                  refine o_off 100 _ rfl rfl hg37 rfl ?_
                  refine o_off 100 _ rfl rfl hg37 rfl ?_
                  refine o_off 100 _ rfl rfl hg37 rfl ?_
                  refine o_off 100 _ rfl rfl hg37 rfl ?_
                  refine o_p (p_pickt rfl rfl hg37 rfl) rfl ?_
                  refine o_nil ?_
                  exact s_joinN 6 106 _ rfl rfl rfl (fun w h => by first | exact h | exact h.ent (by repeat (first | exact .nil | refine .cons (by repeat (first | exact .here | apply Pick.there)) ?_)))) ?_
              refine o_p (p_pure rfl) rfl ?_
              refine o_or 8 107 115 _ _ rfl
                (by
                  intro hg39
                  have hs40 := hg39; try simp only [decide_eq_true_eq, decide_eq_false_iff_not, Bool.not_eq_true', Bool.not_eq_false', Bool.and_eq_true, Bool.or_eq_true, Bool.and_eq_false_iff, Bool.or_eq_false_iff, Bool.not_true, Bool.not_false] at hs40
                  refine o_on 107 _ rfl rfl hg39 ?_
                  refine o_p (p_fieldAddr rfl rfl fd_48_4 sz_46 rfl) rfl ?_
                  refine o_on 107 _ rfl rfl hg39 ?_
                  first | refine o_q (q_load rfl rfl sz_46 (by repeat (first | exact .here | apply Pick.there)) rfl) rfl ?_ | refine o_q (q_load_old rfl rfl sz_46 (rfl (Rw.rd hs.1 hi))) rfl ?_ | refine o_q (q_load_old rfl rfl sz_46 (rfl (Rw.rd ht.1 hi2))) rfl ?_ | refine o_q (q_load_old rfl rfl sz_46 (rfl (Rw.rd (hs.at hi).1 hk))) rfl ?_ | refine o_q (q_load_old rfl rfl sz_46 (rfl (Rw.rd (ht.at hi2).1 hk2))) rfl ?_ | refine o_q (q_load_old rfl rfl sz_46 (rfl (Rw.rd ((hs.at hi).at hk) hn))) rfl ?_ | refine o_q (q_load_old rfl rfl sz_46 (rfl (Rw.rd ((ht.at hi2).at hk2) hn2))) rfl ?_
                  refine o_on 107 _ rfl rfl hg39 ?_
                  first | refine o_p (p_len_slice rfl rfl Try.underlying46) rfl ?_ | refine o_q (q_len_own rfl rfl Try.underlying46 (by repeat (first | exact .here | apply Pick.there))) rfl ?_
                  refine o_on 107 _ rfl rfl hg39 ?_
                  refine o_p (p_fieldAddr rfl rfl fd_48_4 sz_46 rfl) rfl ?_
                  refine o_on 107 _ rfl rfl hg39 ?_
                  first | refine o_q (q_load rfl rfl sz_46 (by repeat (first | exact .here | apply Pick.there)) rfl) rfl ?_ | refine o_q (q_load_old rfl rfl sz_46 (rfl (Rw.rd hs.1 hi))) rfl ?_ | refine o_q (q_load_old rfl rfl sz_46 (rfl (Rw.rd ht.1 hi2))) rfl ?_ | refine o_q (q_load_old rfl rfl sz_46 (rfl (Rw.rd (hs.at hi).1 hk))) rfl ?_ | refine o_q (q_load_old rfl rfl sz_46 (rfl (Rw.rd (ht.at hi2).1 hk2))) rfl ?_ | refine o_q (q_load_old rfl rfl sz_46 (rfl (Rw.rd ((hs.at hi).at hk) hn))) rfl ?_ | refine o_q (q_load_old rfl rfl sz_46 (rfl (Rw.rd ((ht.at hi2).at hk2) hn2))) rfl ?_
                  refine o_on 107 _ rfl rfl hg39 ?_
                  first | refine o_p (p_len_slice rfl rfl Try.underlying46) rfl ?_ | refine o_q (q_len_own rfl rfl Try.underlying46 (by repeat (first | exact .here | apply Pick.there))) rfl ?_
                  refine o_on 107 _ rfl rfl hg39 ?_
                  refine o_p (p_pure rfl) rfl ?_
                  refine o_p (p_pickf rfl rfl hg39 rfl) rfl ?_
                  refine o_nil ?_
                  exact s_joinN 8 115 _ rfl rfl rfl (fun w h => by first | exact h | exact h.ent (by repeat (first | exact .nil | refine .cons (by repeat (first | exact .here | apply Pick.there)) ?_))))
                (by
                  intro hg41
                  have hs42 := hg41; try simp only [decide_eq_true_eq, decide_eq_false_iff_not, Bool.not_eq_true', Bool.not_eq_false', Bool.and_eq_true, Bool.or_eq_true, Bool.and_eq_false_iff, Bool.or_eq_false_iff, Bool.not_true, Bool.not_false] at hs42
                  refine o_off 107 _ rfl rfl hg41 rfl ?_
                  refine o_off 107 _ rfl rfl hg41 rfl ?_
                  refine o_off 107 _ rfl rfl hg41 rfl ?_
                  refine o_off 107 _ rfl rfl hg41 rfl ?_
                  refine o_off 107 _ rfl rfl hg41 rfl ?_
                  refine o_off 107 _ rfl rfl hg41 rfl ?_
                  refine o_off 107 _ rfl rfl hg41 rfl ?_
                  refine o_p (p_pickt rfl rfl hg41 rfl) rfl ?_
                  refine o_nil ?_
                  exact s_joinN 8 115 _ rfl rfl rfl (fun w h => by first | exact h | exact h.ent (by repeat (first | exact .nil | refine .cons (by repeat (first | exact .here | apply Pick.there)) ?_)))) ?_
              refine o_nil ?_
              refine s_cond rfl (fun h43 => ?_) (fun h43 => ?_)
              · try simp only [decide_eq_true_eq, decide_eq_false_iff_not, Bool.not_eq_true', Bool.not_eq_false', Bool.and_eq_true, Bool.or_eq_true, Bool.and_eq_false_iff, Bool.or_eq_false_iff, Bool.not_true, Bool.not_false] at h43
                exfalso; have hq9 := h43; simp [d1, d2, d3, d4, d6] at hq9
              · try simp only [decide_eq_true_eq, decide_eq_false_iff_not, Bool.not_eq_true', Bool.not_eq_false', Bool.and_eq_true, Bool.or_eq_true, Bool.and_eq_false_iff, Bool.or_eq_false_iff, Bool.not_true, Bool.not_false] at h43
                refine s_skip ?_
                refine s_seq ?_
                refine s_weaken (L' := [(0, _), (1, _), (2, _), (3, _), (5, _), (6, _), (7, _), (8, _), (9, _), (10, _), (12, _), (13, _), (14, _), (15, _), (16, _), (17, _), (25, _)]) (by repeat (first | exact sl_n | refine sl_c rfl ?_)) (fun _ h => h) ?_
                refine s_region ?_
                refine o_p (p_pure rfl) rfl ?_
                refine o_nil ?_
                refine s_block ?_
                refine s_loopI (α := Nat) [4, 11, 116, 117, 118, 119, 120, 121, 122, 123, 124, 125, 126, 127, 128, 129, 130, 131, 132, 133] (fun i => [(11, .int .i64 (i : Int))]) (fun _ => HS w [] [.blk z.1 48 5 (nth (nth L i).op k).vals, .blk z.2 48 5 (nth (nth L2 i).op k).vals, .blk y.1 77 4 (nth L i).vals, .blk y.2 77 4 (nth L2 i).vals, .blk b1 26 2 [.int .i64 next, .slice a L.length cap], .blk b2 26 2 [.int .i64 next, .slice b L2.length cap2]]) (fun n => n ≤ (nth (nth L i).op k).lk.length) (fun n => (nth (nth L i).op k).lk.length - n) 0 (Nat.zero_le _) (by repeat (first | exact sl_n | refine sl_c rfl ?_)) (fun w h => h.ent (by repeat (first | exact .nil | refine .cons (by repeat (first | exact .here | apply Pick.there)) ?_))) (fun n hn1 => ?_)
                refine s_seq ?_
                refine s_seq ?_
                refine s_region ?_
                refine o_p (p_pure rfl) rfl ?_
                refine o_p (p_fieldAddr rfl rfl fd_48_4 sz_46 rfl) rfl ?_
                first | refine o_q (q_load rfl rfl sz_46 (by repeat (first | exact .here | apply Pick.there)) rfl) rfl ?_ | refine o_q (q_load_old rfl rfl sz_46 (rfl (Rw.rd hs.1 hi))) rfl ?_ | refine o_q (q_load_old rfl rfl sz_46 (rfl (Rw.rd ht.1 hi2))) rfl ?_ | refine o_q (q_load_old rfl rfl sz_46 (rfl (Rw.rd (hs.at hi).1 hk))) rfl ?_ | refine o_q (q_load_old rfl rfl sz_46 (rfl (Rw.rd (ht.at hi2).1 hk2))) rfl ?_ | refine o_q (q_load_old rfl rfl sz_46 (rfl (Rw.rd ((hs.at hi).at hk) hn))) rfl ?_ | refine o_q (q_load_old rfl rfl sz_46 (rfl (Rw.rd ((ht.at hi2).at hk2) hn2))) rfl ?_
                first | refine o_p (p_len_slice rfl rfl Try.underlying46) rfl ?_ | refine o_q (q_len_own rfl rfl Try.underlying46 (by repeat (first | exact .here | apply Pick.there))) rfl ?_
                refine o_p (p_pure rfl) rfl ?_
                refine o_nil ?_
                refine s_cond rfl (fun h44 => ?_) (fun h44 => ?_)
                · try simp only [decide_eq_true_eq, decide_eq_false_iff_not, Bool.not_eq_true', Bool.not_eq_false', Bool.and_eq_true, Bool.or_eq_true, Bool.and_eq_false_iff, Bool.or_eq_false_iff, Bool.not_true, Bool.not_false] at h44
                  have hn : n < (nth (nth L i).op k).lk.length := by omega
                  have hn2 : n < (nth (nth L2 i).op k).lk.length := by omega
                  refine s_skip ?_
                  refine s_seq ?_
                  refine s_block ?_
                  refine s_seq ?_
                  refine s_draw [] mixed ?_
                  refine d_p 0 rfl (p_fieldAddr rfl rfl fd_48_4 sz_46 rfl) (by kernel_rfl) rfl rfl ?_
                  first | refine d_q 1 [] rfl (q_load rfl rfl sz_46 (by repeat (first | exact .here | apply Pick.there)) rfl) (by kernel_rfl) (by kernel_rfl) (by kernel_rfl) rfl ?_ | refine d_q 1 [] rfl (q_load_old rfl rfl sz_46 (rfl (Rw.rd hs.1 hi))) (by kernel_rfl) (by kernel_rfl) (by kernel_rfl) rfl ?_ | refine d_q 1 [] rfl (q_load_old rfl rfl sz_46 (rfl (Rw.rd ht.1 hi2))) (by kernel_rfl) (by kernel_rfl) (by kernel_rfl) rfl ?_ | refine d_q 1 [] rfl (q_load_old rfl rfl sz_46 (rfl (Rw.rd (hs.at hi).1 hk))) (by kernel_rfl) (by kernel_rfl) (by kernel_rfl) rfl ?_ | refine d_q 1 [] rfl (q_load_old rfl rfl sz_46 (rfl (Rw.rd (ht.at hi2).1 hk2))) (by kernel_rfl) (by kernel_rfl) (by kernel_rfl) rfl ?_ | refine d_q 1 [] rfl (q_load_old rfl rfl sz_46 (rfl (Rw.rd ((hs.at hi).at hk) hn))) (by kernel_rfl) (by kernel_rfl) (by kernel_rfl) rfl ?_ | refine d_q 1 [] rfl (q_load_old rfl rfl sz_46 (rfl (Rw.rd ((ht.at hi2).at hk2) hn2))) (by kernel_rfl) (by kernel_rfl) (by kernel_rfl) rfl ?_
                  refine d_p 2 rfl (p_pure rfl) (by kernel_rfl) rfl rfl ?_
                  first | refine d_p 3 rfl (p_indexAddr rfl rfl rfl sl_46 (n) (by omega) (by omega) rfl) (by kernel_rfl) rfl rfl ?_ | refine d_p 3 rfl (p_indexAddr rfl rfl rfl sl_46 (n) (by omega) (by omega) (Rw.some hs.1 (by omega))) (by kernel_rfl) rfl rfl ?_ | refine d_p 3 rfl (p_indexAddr rfl rfl rfl sl_46 (n) (by omega) (by omega) (Rw.some ht.1 (by omega))) (by kernel_rfl) rfl rfl ?_ | refine d_p 3 rfl (p_indexAddr rfl rfl rfl sl_46 (n) (by omega) (by omega) (Rw.some (hs.at hi).1 (by omega))) (by kernel_rfl) rfl rfl ?_ | refine d_p 3 rfl (p_indexAddr rfl rfl rfl sl_46 (n) (by omega) (by omega) (Rw.some (ht.at hi2).1 (by omega))) (by kernel_rfl) rfl rfl ?_ | refine d_p 3 rfl (p_indexAddr rfl rfl rfl sl_46 (n) (by omega) (by omega) (Rw.some ((hs.at hi).at hk) (by omega))) (by kernel_rfl) rfl rfl ?_ | refine d_p 3 rfl (p_indexAddr rfl rfl rfl sl_46 (n) (by omega) (by omega) (Rw.some ((ht.at hi2).at hk2) (by omega))) (by kernel_rfl) rfl rfl ?_
                  first | refine d_q 4 [] rfl (q_loadn rfl rfl sz_62 (by repeat (first | exact .here | apply Pick.there)) rfl) (by kernel_rfl) (by kernel_rfl) (by kernel_rfl) rfl ?_ | refine d_q 4 [] rfl (q_load_oldn _ rfl rfl sz_62 rfl (Rw.rd hs.1 hi)) (by kernel_rfl) (by kernel_rfl) (by kernel_rfl) rfl ?_ | refine d_q 4 [] rfl (q_load_oldn _ rfl rfl sz_62 rfl (Rw.rd ht.1 hi2)) (by kernel_rfl) (by kernel_rfl) (by kernel_rfl) rfl ?_ | refine d_q 4 [] rfl (q_load_oldn _ rfl rfl sz_62 rfl (Rw.rd (hs.at hi).1 hk)) (by kernel_rfl) (by kernel_rfl) (by kernel_rfl) rfl ?_ | refine d_q 4 [] rfl (q_load_oldn _ rfl rfl sz_62 rfl (Rw.rd (ht.at hi2).1 hk2)) (by kernel_rfl) (by kernel_rfl) (by kernel_rfl) rfl ?_ | refine d_q 4 [] rfl (q_load_oldn _ rfl rfl sz_62 rfl (Rw.rd ((hs.at hi).at hk) hn)) (by kernel_rfl) (by kernel_rfl) (by kernel_rfl) rfl ?_ | refine d_q 4 [] rfl (q_load_oldn _ rfl rfl sz_62 rfl (Rw.rd ((ht.at hi2).at hk2) hn2)) (by kernel_rfl) (by kernel_rfl) (by kernel_rfl) rfl ?_
                  refine d_p 5 rfl (p_fieldAddr rfl rfl fd_48_4 sz_46 rfl) (by kernel_rfl) rfl rfl ?_
                  first | refine d_q 6 [] rfl (q_load rfl rfl sz_46 (by repeat (first | exact .here | apply Pick.there)) rfl) (by kernel_rfl) (by kernel_rfl) (by kernel_rfl) rfl ?_ | refine d_q 6 [] rfl (q_load_old rfl rfl sz_46 (rfl (Rw.rd hs.1 hi))) (by kernel_rfl) (by kernel_rfl) (by kernel_rfl) rfl ?_ | refine d_q 6 [] rfl (q_load_old rfl rfl sz_46 (rfl (Rw.rd ht.1 hi2))) (by kernel_rfl) (by kernel_rfl) (by kernel_rfl) rfl ?_ | refine d_q 6 [] rfl (q_load_old rfl rfl sz_46 (rfl (Rw.rd (hs.at hi).1 hk))) (by kernel_rfl) (by kernel_rfl) (by kernel_rfl) rfl ?_ | refine d_q 6 [] rfl (q_load_old rfl rfl sz_46 (rfl (Rw.rd (ht.at hi2).1 hk2))) (by kernel_rfl) (by kernel_rfl) (by kernel_rfl) rfl ?_ | refine d_q 6 [] rfl (q_load_old rfl rfl sz_46 (rfl (Rw.rd ((hs.at hi).at hk) hn))) (by kernel_rfl) (by kernel_rfl) (by kernel_rfl) rfl ?_ | refine d_q 6 [] rfl (q_load_old rfl rfl sz_46 (rfl (Rw.rd ((ht.at hi2).at hk2) hn2))) (by kernel_rfl) (by kernel_rfl) (by kernel_rfl) rfl ?_
                  refine d_p 7 rfl (p_pure rfl) (by kernel_rfl) rfl rfl ?_
                  first | refine d_p 8 rfl (p_indexAddr rfl rfl rfl sl_46 (n) (by omega) (by omega) rfl) (by kernel_rfl) rfl rfl ?_ | refine d_p 8 rfl (p_indexAddr rfl rfl rfl sl_46 (n) (by omega) (by omega) (Rw.some hs.1 (by omega))) (by kernel_rfl) rfl rfl ?_ | refine d_p 8 rfl (p_indexAddr rfl rfl rfl sl_46 (n) (by omega) (by omega) (Rw.some ht.1 (by omega))) (by kernel_rfl) rfl rfl ?_ | refine d_p 8 rfl (p_indexAddr rfl rfl rfl sl_46 (n) (by omega) (by omega) (Rw.some (hs.at hi).1 (by omega))) (by kernel_rfl) rfl rfl ?_ | refine d_p 8 rfl (p_indexAddr rfl rfl rfl sl_46 (n) (by omega) (by omega) (Rw.some (ht.at hi2).1 (by omega))) (by kernel_rfl) rfl rfl ?_ | refine d_p 8 rfl (p_indexAddr rfl rfl rfl sl_46 (n) (by omega) (by omega) (Rw.some ((hs.at hi).at hk) (by omega))) (by kernel_rfl) rfl rfl ?_ | refine d_p 8 rfl (p_indexAddr rfl rfl rfl sl_46 (n) (by omega) (by omega) (Rw.some ((ht.at hi2).at hk2) (by omega))) (by kernel_rfl) rfl rfl ?_
                  first | refine d_q 9 [] rfl (q_loadn rfl rfl sz_62 (by repeat (first | exact .here | apply Pick.there)) rfl) (by kernel_rfl) (by kernel_rfl) (by kernel_rfl) rfl ?_ | refine d_q 9 [] rfl (q_load_oldn _ rfl rfl sz_62 rfl (Rw.rd hs.1 hi)) (by kernel_rfl) (by kernel_rfl) (by kernel_rfl) rfl ?_ | refine d_q 9 [] rfl (q_load_oldn _ rfl rfl sz_62 rfl (Rw.rd ht.1 hi2)) (by kernel_rfl) (by kernel_rfl) (by kernel_rfl) rfl ?_ | refine d_q 9 [] rfl (q_load_oldn _ rfl rfl sz_62 rfl (Rw.rd (hs.at hi).1 hk)) (by kernel_rfl) (by kernel_rfl) (by kernel_rfl) rfl ?_ | refine d_q 9 [] rfl (q_load_oldn _ rfl rfl sz_62 rfl (Rw.rd (ht.at hi2).1 hk2)) (by kernel_rfl) (by kernel_rfl) (by kernel_rfl) rfl ?_ | refine d_q 9 [] rfl (q_load_oldn _ rfl rfl sz_62 rfl (Rw.rd ((hs.at hi).at hk) hn)) (by kernel_rfl) (by kernel_rfl) (by kernel_rfl) rfl ?_ | refine d_q 9 [] rfl (q_load_oldn _ rfl rfl sz_62 rfl (Rw.rd ((ht.at hi2).at hk2) hn2)) (by kernel_rfl) (by kernel_rfl) (by kernel_rfl) rfl ?_
                  refine d_p 10 rfl (p_neq_agg rfl rfl rfl eqk_62 (by rfl) (by rfl) (by rfl)) (by kernel_rfl) rfl rfl ?_
                  refine d_nil (by kernel_rfl) (fun w h => h.ent (by repeat (first | exact .nil | refine .cons (by repeat (first | exact .here | apply Pick.there)) ?_))) ?_
                  refine s_cond rfl (fun h45 => ?_) (fun h45 => ?_)
                  · try simp only [decide_eq_true_eq, decide_eq_false_iff_not, Bool.not_eq_true', Bool.not_eq_false', Bool.and_eq_true, Bool.or_eq_true, Bool.and_eq_false_iff, Bool.or_eq_false_iff, Bool.not_true, Bool.not_false] at h45
                    exfalso; have hq9 := h45; simp [d5] at hq9
                  · try simp only [decide_eq_true_eq, decide_eq_false_iff_not, Bool.not_eq_true', Bool.not_eq_false', Bool.and_eq_true, Bool.or_eq_true, Bool.and_eq_false_iff, Bool.or_eq_false_iff, Bool.not_true, Bool.not_false] at h45
                    refine s_skip ?_
                    refine s_blk ?_
                    refine s_weaken (L' := [(0, _), (1, _), (2, _), (3, _), (5, _), (6, _), (7, _), (8, _), (9, _), (10, _), (11, _), (12, _), (13, _), (14, _), (15, _), (16, _), (17, _), (25, _)]) (by repeat (first | exact sl_n | refine sl_c rfl ?_)) (fun _ h => h) ?_
                    refine s_region ?_
                    refine o_p (p_pure rfl) rfl ?_
                    refine o_p (p_pure rfl) rfl ?_
                    try (refine o_slot (i64w (by omega) (by omega)) ?_)
                    refine o_p (p_pure rfl) rfl ?_
                    refine o_nil ?_
                    exact s_backI (n + 1) (by omega) (by omega) (by repeat (first | exact sl_n | refine sl_c rfl ?_)) (fun w h => h.ent (by repeat (first | exact .nil | refine .cons (by repeat (first | exact .here | apply Pick.there)) ?_)))
                · try simp only [decide_eq_true_eq, decide_eq_false_iff_not, Bool.not_eq_true', Bool.not_eq_false', Bool.and_eq_true, Bool.or_eq_true, Bool.and_eq_false_iff, Bool.or_eq_false_iff, Bool.not_true, Bool.not_false] at h44
                  refine s_exit_to rfl ?_
                  refine s_blk ?_
                  refine s_region ?_
                  refine o_p (p_pure rfl) rfl ?_
                  refine o_p (p_pure rfl) rfl ?_
                  try (refine o_slot (i64w (by omega) (by omega)) ?_)
                  refine o_p (p_pure rfl) rfl ?_
                  refine o_nil ?_
                  exact s_backI (k + 1) (by omega) (by omega) (by repeat (first | exact sl_n | refine sl_c rfl ?_)) (fun w h => h.ent (by repeat (first | exact .nil | refine .cons (by repeat (first | exact .here | apply Pick.there)) ?_)))
          · try simp only [decide_eq_true_eq, decide_eq_false_iff_not, Bool.not_eq_true', Bool.not_eq_false', Bool.and_eq_true, Bool.or_eq_true, Bool.and_eq_false_iff, Bool.or_eq_false_iff, Bool.not_true, Bool.not_false] at h22
            refine s_exit_to rfl ?_
            refine s_blk ?_
            refine s_region ?_
            refine o_p (p_pure rfl) rfl ?_
            refine o_p (p_pure rfl) rfl ?_
            try (refine o_slot (i64w (by omega) (by omega)) ?_)
            refine o_p (p_pure rfl) rfl ?_
            refine o_nil ?_
            exact s_backI (i + 1) (by omega) (by omega) (by repeat (first | exact sl_n | refine sl_c rfl ?_)) (fun w h => h.ent (by repeat (first | exact .nil | refine .cons (by repeat (first | exact .here | apply Pick.there)) ?_)))
    · try simp only [decide_eq_true_eq, decide_eq_false_iff_not, Bool.not_eq_true', Bool.not_eq_false', Bool.and_eq_true, Bool.or_eq_true, Bool.and_eq_false_iff, Bool.or_eq_false_iff, Bool.not_true, Bool.not_false] at h8
      refine s_exit_to rfl ?_
      refine s_seq ?_
      refine s_region ?_
      refine o_p (p_pure rfl) rfl ?_
      refine o_nil ?_
      exact s_retv (rs := [.tmp 4]) rfl (.tmp rfl (.nil)) (fun w' h' => ⟨rfl, h'.below⟩)

end Go.Proofs

namespace Go.Proofs
open Go Go.RowKit Gx
set_option linter.unusedVariables false
set_option linter.unusedSimpArgs false
attribute [local irreducible] Go.Calls Gx.S Gx.O Gx.D Gx.OpP Gx.OpQ Gx.OpH



/-- Whether two handles conflict, or the error. -/
def cflT (a b : Opn) : Bool × Int := if openE a.ac a.sh = 0 then if openE b.ac b.sh = 0 then (cfl a b, 0) else (false, openE b.ac b.sh) else (false, openE a.ac a.sh)
theorem cflT_e {a b : Opn} (h : ¬ firstV [.int .i64 (openE a.ac a.sh), .int .i64 (openE b.ac b.sh)] = 0) : cflT a b = (false, firstV [.int .i64 (openE a.ac a.sh), .int .i64 (openE b.ac b.sh)]) := by
  rw [firstV2] at h ⊢
  unfold cflT
  grind
theorem cflT_0 {a b : Opn} (h : openE a.ac a.sh = 0 ∧ openE b.ac b.sh = 0) : cflT a b = (cfl a b, 0) := by rw [cflT, if_pos h.1, if_pos h.2]

set_option maxRecDepth 20000 in
theorem c21 (w : World) (x y : LOpn) : Calls Try.prog 21 #[.agg #[.int .i64 x.hd, .int .i64 x.ac, .int .i64 x.sh, .bool x.dl, .slice x.la x.lk.length x.lc], .agg #[.int .i64 y.hd, .int .i64 y.ac, .int .i64 y.sh, .bool y.dl, .slice y.la y.lk.length y.lc]] w fun en w' => en = .returned (.tuple #[.bool (cflT x.pl y.pl).1, .int .i64 (cflT x.pl y.pl).2]) ∧ Below w.heap.size w w' := by
  refine enter (args := [_, _]) Try.func21 Try.ntmps21 rfl rfl (HS.refl w []) ?_
  refine s_seq ?_
  refine s_region ?_
  refine o_h (h_box rfl rfl) rfl (fun b1 _ => ?_)
  refine o_h (h_box rfl rfl) rfl (fun b2 _ => ?_)
  refine o_p (p_pure rfl) rfl ?_
  refine o_p (p_pure rfl) rfl ?_
  refine o_nil ?_
  refine s_seq ?_
  refine s_seq ?_
  refine s_draw [] mixed ?_
  refine d_q 0 [] rfl (q_loadn rfl rfl sz_48 (by repeat (first | exact .here | apply Pick.there)) rfl) (by kernel_rfl) (by kernel_rfl) (by kernel_rfl) rfl ?_
  refine d_q 1 [] rfl (q_call rfl fn_62 rfl (fun w1 h1 => c62 w1 x)) (by kernel_rfl) (by kernel_rfl) (by kernel_rfl) rfl ?_
  refine d_q 2 [] rfl (q_loadn rfl rfl sz_48 (by repeat (first | exact .here | apply Pick.there)) rfl) (by kernel_rfl) (by kernel_rfl) (by kernel_rfl) rfl ?_
  refine d_q 3 [] rfl (q_call rfl fn_62 rfl (fun w1 h1 => c62 w1 y)) (by kernel_rfl) (by kernel_rfl) (by kernel_rfl) rfl ?_
  refine d_h 4 rfl (h_buildSlice (cs := [_, _]) rfl rfl sl_146 zr_28 rfl rfl rfl) (by kernel_rfl) (fun w h => h.ent (by repeat (first | exact .nil | refine .cons (by repeat (first | exact .here | apply Pick.there)) ?_))) rfl (fun b3 _ => ?_)
  refine d_base (fun w h => h.ent (by repeat (first | exact .nil | refine .cons (by repeat (first | exact .here | apply Pick.there)) ?_))) ?_
  refine d_q 5 [] rfl (q_call rfl fn_52 rfl (fun w1 h1 => f52 h1 (by repeat (first | exact .here | apply Pick.there)) (by rfl) (by rfl) (by decide))) (by kernel_rfl) (by kernel_rfl) (by kernel_rfl) rfl ?_
  refine d_p 6 rfl (p_pure rfl) (by kernel_rfl) rfl rfl ?_
  refine d_nil (by kernel_rfl) (fun w h => h.ent (by repeat (first | exact .nil | refine .cons (by repeat (first | exact .here | apply Pick.there)) ?_))) ?_
  refine s_seq ?_
  refine s_region ?_
  refine o_p (p_pure rfl) rfl ?_
  refine o_p (p_pure rfl) rfl ?_
  refine o_nil ?_
  refine s_cond rfl (fun h4 => ?_) (fun h4 => ?_)
  · try simp only [decide_eq_true_eq, decide_eq_false_iff_not, Bool.not_eq_true', Bool.not_eq_false', Bool.and_eq_true, Bool.or_eq_true, Bool.and_eq_false_iff, Bool.or_eq_false_iff, Bool.not_true, Bool.not_false] at h4
    have he : ¬ firstV [.int .i64 (openE x.pl.ac x.pl.sh), .int .i64 (openE y.pl.ac y.pl.sh)] = 0 := h4
    refine s_seq ?_
    refine s_region ?_
    refine o_p (p_pure rfl) rfl ?_
    refine o_p (p_pure rfl) rfl ?_
    refine o_p (p_pure rfl) rfl ?_
    refine o_nil ?_
    exact s_retv (rs := [.tmp 4, .tmp 5]) rfl (.tmp rfl (.tmp rfl (.nil))) (fun w' h' => ⟨by rw [cflT_e he]; rfl, h'.below⟩)
  · try simp only [decide_eq_true_eq, decide_eq_false_iff_not, Bool.not_eq_true', Bool.not_eq_false', Bool.and_eq_true, Bool.or_eq_true, Bool.and_eq_false_iff, Bool.or_eq_false_iff, Bool.not_true, Bool.not_false] at h4
    have hz := first2_0 h4
    refine s_skip ?_
    refine s_seq ?_
    refine s_region ?_
    refine o_q (q_loadn rfl rfl sz_48 (by repeat (first | exact .here | apply Pick.there)) rfl) rfl ?_
    refine o_q (q_loadn rfl rfl sz_48 (by repeat (first | exact .here | apply Pick.there)) rfl) rfl ?_
    refine o_q (q_call rfl fn_63 rfl (fun w1 h1 => c63 w1 x y hz.1 hz.2)) rfl ?_
    refine o_p (p_pure rfl) rfl ?_
    refine o_p (p_pure rfl) rfl ?_
    refine o_nil ?_
    exact s_retv (rs := [.tmp 4, .tmp 5]) rfl (.tmp rfl (.tmp rfl (.nil))) (fun w' h' => ⟨by rw [cflT_0 (a := x.pl) (b := y.pl) hz]; rfl, h'.below⟩)

end Go.Proofs

namespace Go.Proofs
open Go Go.RowKit Gx
set_option linter.unusedVariables false
set_option linter.unusedSimpArgs false
attribute [local irreducible] Go.Calls Gx.S Gx.O Gx.D Gx.OpP Gx.OpQ Gx.OpH



def fewF (f : LFil) : Bool := decide (f.op.length ≤ 40) && f.op.all fun o => decide (o.lk.length ≤ 20)
/-- Few files, handles and locks. -/
def fewT (L : List LFil) : Bool := decide (L.length ≤ 40) && L.all fewF
theorem fewT_l {L : List LFil} (h : 40 < L.length) : fewT L = false := by
  unfold fewT
  simp
  omega
theorem fewT_f {L : List LFil} {i : Nat} (hi : i < L.length) (h : fewF (nth L i) = false) : fewT L = false := by
  unfold fewT
  rw [Bool.and_eq_false_iff]
  right
  rw [List.all_eq_false]
  exact ⟨_, mem_nth hi, by rw [h]; decide⟩
theorem fewF_l {f : LFil} (h : 40 < f.op.length) : fewF f = false := by
  unfold fewF
  simp
  omega
theorem fewF_k {f : LFil} {k : Nat} (hk : k < f.op.length) (h : 20 < (nth f.op k).lk.length) : fewF f = false := by
  unfold fewF
  rw [Bool.and_eq_false_iff]
  right
  rw [List.all_eq_false]
  exact ⟨_, mem_nth hk, by simp; omega⟩
theorem fewT_1 {L : List LFil} (hl : L.length ≤ 40) (h : ∀ m, m < L.length → fewF (nth L m) = true) : fewT L = true := by
  unfold fewT
  rw [Bool.and_eq_true, List.all_eq_true]
  refine ⟨by simpa using hl, fun f hf => ?_⟩
  obtain ⟨m, hm, rfl⟩ := mem_nth_ex hf
  exact h m hm
theorem fewF_1 {f : LFil} (hl : f.op.length ≤ 40) (h : ∀ m, m < f.op.length → (nth f.op m).lk.length ≤ 20) : fewF f = true := by
  unfold fewF
  rw [Bool.and_eq_true, List.all_eq_true]
  refine ⟨by simpa using hl, fun o ho => ?_⟩
  obtain ⟨m, hm, rfl⟩ := mem_nth_ex ho
  simpa using h m hm
theorem fewT_r {L : List LFil} (h : fewT L = true) : L.length ≤ 40 ∧ (∀ f ∈ L, f.op.length ≤ 40) ∧ ∀ f ∈ L, ∀ o ∈ f.op, o.lk.length ≤ 20 := by
  unfold fewT fewF at h
  simp only [Bool.and_eq_true, decide_eq_true_eq, List.all_eq_true] at h
  exact ⟨h.1, fun f hf => (h.2 f hf).1, fun f hf o ho => (h.2 f hf).2 o ho⟩
/-- What a table of few permits: the bounds that the contracts ask. -/
theorem fewT_b {L : List LFil} (h : fewT L = true) : L.length ≤ 1000 ∧ (∀ f ∈ L, f.op.length ≤ 1000) ∧ ∀ f ∈ L, ∀ o ∈ f.op, o.lk.length ≤ 1000 := by
  obtain ⟨h1, h2, h3⟩ := fewT_r h
  exact ⟨by omega, fun f hf => by have := h2 f hf; omega, fun f hf o ho => by have := h3 f hf o ho; omega⟩
theorem same_b {L N : List LFil} (h : pls N = pls L) (hb : L.length ≤ 1000 ∧ (∀ f ∈ L, f.op.length ≤ 1000) ∧ ∀ f ∈ L, ∀ o ∈ f.op, o.lk.length ≤ 1000) : N.length ≤ 1000 ∧ (∀ f ∈ N, f.op.length ≤ 1000) ∧ ∀ f ∈ N, ∀ o ∈ f.op, o.lk.length ≤ 1000 := by
  have e : N.length = L.length := same_len h
  refine ⟨by omega, fun f hf => ?_, fun f hf o ho => ?_⟩
  · obtain ⟨i, hi, rfl⟩ := mem_nth_ex hf
    have h1 := (same_nth h.symm hi).2
    have h2 : (nth L i).op.length = (nth N i).op.length := by
      have h9 := congrArg (fun f : Fil => f.op.length) h1
      simpa [LFil.pl] using h9
    rw [← h2]
    exact hb.2.1 _ (mem_nth (by omega))
  · obtain ⟨i, hi, rfl⟩ := mem_nth_ex hf
    obtain ⟨k, hk, rfl⟩ := mem_nth_ex ho
    have h1 := (same_nth h.symm hi).2
    obtain ⟨h2, _, h3⟩ := same_op h1 hk
    have h4 : (nth (nth L i).op k).lk = (nth (nth N i).op k).lk := congrArg Opn.lk h3
    rw [← h4]
    exact hb.2.2 _ (mem_nth (by omega)) _ (mem_nth h2)
theorem openE_02 (a b : Int) : openE a b = 0 ∨ openE a b = 2 := by
  unfold openE
  split <;> simp

set_option maxRecDepth 20000 in
theorem c17 (w : World) (next : Int) (a : Option Addr) (cap : Nat) (L : List LFil) (hs : Ft w [] a L) : Calls Try.prog 17 #[.agg #[.int .i64 next, .slice a L.length cap]] w fun en w' => en = .returned (.bool (fewT L)) ∧ Below w.heap.size w w' := by
  refine enter (args := [_]) Try.func17 Try.ntmps17 rfl rfl (HS.refl w []) ?_
  refine s_seq ?_
  refine s_region ?_
  refine o_h (h_box rfl rfl) rfl (fun b1 _ => ?_)
  refine o_p (p_pure rfl) rfl ?_
  refine o_nil ?_
  refine s_seq ?_
  refine s_seq ?_
  refine s_region ?_
  refine o_p (p_fieldAddr rfl rfl fd_26_1 sz_24 rfl) rfl ?_
  first | refine o_q (q_load rfl rfl sz_24 (by repeat (first | exact .here | apply Pick.there)) rfl) rfl ?_ | refine o_q (q_load_old rfl rfl sz_24 ((hs.1.rdj 3 hil rfl))) rfl ?_ | refine o_q (q_load_old rfl rfl sz_24 (((hs.at hil).1.rdj 4 hkl rfl))) rfl ?_
  first | refine o_p (p_len_slice rfl rfl Try.underlying24) rfl ?_ | refine o_q (q_len_own rfl rfl Try.underlying24 (by repeat (first | exact .here | apply Pick.there))) rfl ?_
  refine o_p (p_pure rfl) rfl ?_
  refine o_nil ?_
  refine s_cond rfl (fun h2 => ?_) (fun h2 => ?_)
  · try simp only [decide_eq_true_eq, decide_eq_false_iff_not, Bool.not_eq_true', Bool.not_eq_false', Bool.and_eq_true, Bool.or_eq_true, Bool.and_eq_false_iff, Bool.or_eq_false_iff, Bool.not_true, Bool.not_false] at h2
    refine s_seq ?_
    refine s_region ?_
    refine o_p (p_pure rfl) rfl ?_
    refine o_nil ?_
    exact s_retv (rs := [.tmp 2]) rfl (.tmp rfl (.nil)) (fun w' h' => ⟨by rw [fewT_l (by have hq := h2; omega)]; rfl, h'.below⟩)
  · try simp only [decide_eq_true_eq, decide_eq_false_iff_not, Bool.not_eq_true', Bool.not_eq_false', Bool.and_eq_true, Bool.or_eq_true, Bool.and_eq_false_iff, Bool.or_eq_false_iff, Bool.not_true, Bool.not_false] at h2
    have hl40 : L.length ≤ 40 := by have hq := h2; omega
    refine s_skip ?_
    refine s_seq ?_
    refine s_seq ?_
    refine s_region ?_
    refine o_p (p_pure rfl) rfl ?_
    refine o_nil ?_
    refine s_block ?_
    refine s_loopI (α := Nat) [2, 3, 4, 9, 10, 11, 12, 13, 14, 15, 16, 17, 18, 19, 20, 21, 22, 23, 24, 25, 26, 27, 28, 29, 30, 31, 32, 33, 34, 35, 36, 37, 38, 39, 40, 41, 42, 43, 44, 45, 46] (fun i => [(3, .int .i64 (i : Int))]) (fun _ => HS w [] [.blk b1 26 2 [.int .i64 next, .slice a L.length cap]]) (fun i => i ≤ L.length ∧ ∀ m, m < i → fewF (nth L m) = true) (fun i => L.length - i) 0 ⟨Nat.zero_le _, fun m h => absurd h (Nat.not_lt_zero m)⟩ (by repeat (first | exact sl_n | refine sl_c rfl ?_)) (fun w h => h.ent (by repeat (first | exact .nil | refine .cons (by repeat (first | exact .here | apply Pick.there)) ?_))) (fun i hy => ?_)
    obtain ⟨hi1, hi2⟩ := hy
    refine s_seq ?_
    refine s_seq ?_
    refine s_region ?_
    refine o_p (p_pure rfl) rfl ?_
    refine o_p (p_fieldAddr rfl rfl fd_26_1 sz_24 rfl) rfl ?_
    first | refine o_q (q_load rfl rfl sz_24 (by repeat (first | exact .here | apply Pick.there)) rfl) rfl ?_ | refine o_q (q_load_old rfl rfl sz_24 ((hs.1.rdj 3 hil rfl))) rfl ?_ | refine o_q (q_load_old rfl rfl sz_24 (((hs.at hil).1.rdj 4 hkl rfl))) rfl ?_
    first | refine o_p (p_len_slice rfl rfl Try.underlying24) rfl ?_ | refine o_q (q_len_own rfl rfl Try.underlying24 (by repeat (first | exact .here | apply Pick.there))) rfl ?_
    refine o_p (p_pure rfl) rfl ?_
    refine o_nil ?_
    refine s_cond rfl (fun h3 => ?_) (fun h3 => ?_)
    · try simp only [decide_eq_true_eq, decide_eq_false_iff_not, Bool.not_eq_true', Bool.not_eq_false', Bool.and_eq_true, Bool.or_eq_true, Bool.and_eq_false_iff, Bool.or_eq_false_iff, Bool.not_true, Bool.not_false] at h3
      have hil : i < L.length := by omega
      refine s_skip ?_
      refine s_seq ?_
      refine s_block ?_
      refine s_seq ?_
      refine s_seq ?_
      refine s_region ?_
      refine o_p (p_fieldAddr rfl rfl fd_26_1 sz_24 rfl) rfl ?_
      first | refine o_q (q_load rfl rfl sz_24 (by repeat (first | exact .here | apply Pick.there)) rfl) rfl ?_ | refine o_q (q_load_old rfl rfl sz_24 ((hs.1.rdj 3 hil rfl))) rfl ?_ | refine o_q (q_load_old rfl rfl sz_24 (((hs.at hil).1.rdj 4 hkl rfl))) rfl ?_
      refine o_p (p_pure rfl) rfl ?_
      first | refine o_p (p_indexAddr rfl rfl rfl sl_24 (i) (by omega) (by omega) rfl) rfl ?_ | refine o_p (p_indexAddr rfl rfl rfl sl_24 (i) (by omega) (by omega) (Rw.some hs.1 (by omega))) rfl ?_ | refine o_p (p_indexAddr rfl rfl rfl sl_24 (i) (by omega) (by omega) (Rw.some (hs.at hil).1 (by omega))) rfl ?_
      refine o_p (p_fieldAddr rfl rfl fd_77_2 sz_75 rfl) rfl ?_
      first | refine o_q (q_load rfl rfl sz_75 (by repeat (first | exact .here | apply Pick.there)) rfl) rfl ?_ | refine o_q (q_load_old rfl rfl sz_75 ((hs.1.rdj 3 hil rfl))) rfl ?_ | refine o_q (q_load_old rfl rfl sz_75 (((hs.at hil).1.rdj 4 hkl rfl))) rfl ?_
      first | refine o_p (p_len_slice rfl rfl Try.underlying75) rfl ?_ | refine o_q (q_len_own rfl rfl Try.underlying75 (by repeat (first | exact .here | apply Pick.there))) rfl ?_
      refine o_p (p_pure rfl) rfl ?_
      refine o_nil ?_
      refine s_cond rfl (fun h4 => ?_) (fun h4 => ?_)
      · try simp only [decide_eq_true_eq, decide_eq_false_iff_not, Bool.not_eq_true', Bool.not_eq_false', Bool.and_eq_true, Bool.or_eq_true, Bool.and_eq_false_iff, Bool.or_eq_false_iff, Bool.not_true, Bool.not_false] at h4
        refine s_seq ?_
        refine s_region ?_
        refine o_p (p_pure rfl) rfl ?_
        refine o_nil ?_
        exact s_retv (rs := [.tmp 2]) rfl (.tmp rfl (.nil)) (fun w' h' => ⟨by rw [fewT_f hil (fewF_l (by have hq := h4; omega))]; rfl, h'.below⟩)
      · try simp only [decide_eq_true_eq, decide_eq_false_iff_not, Bool.not_eq_true', Bool.not_eq_false', Bool.and_eq_true, Bool.or_eq_true, Bool.and_eq_false_iff, Bool.or_eq_false_iff, Bool.not_true, Bool.not_false] at h4
        have ho40 : (nth L i).op.length ≤ 40 := by have hq := h4; omega
        refine s_skip ?_
        refine s_seq ?_
        refine s_region ?_
        refine o_p (p_pure rfl) rfl ?_
        refine o_nil ?_
        refine s_block ?_
        refine s_weaken (L' := [(0, _), (1, _), (3, _), (4, _), (5, _), (6, _), (7, _), (8, _)]) (by repeat (first | exact sl_n | refine sl_c rfl ?_)) (fun _ h => h) ?_
        refine s_loopI (α := Nat) [2, 4, 24, 25, 26, 27, 28, 29, 30, 31, 32, 33, 34, 35, 36, 37, 38, 39, 40, 41, 42, 43, 44, 45, 46] (fun k => [(4, .int .i64 (k : Int))]) (fun _ => HS w [] [.blk b1 26 2 [.int .i64 next, .slice a L.length cap]]) (fun k => k ≤ (nth L i).op.length ∧ ∀ m, m < k → (nth (nth L i).op m).lk.length ≤ 20) (fun k => (nth L i).op.length - k) 0 ⟨Nat.zero_le _, fun m h => absurd h (Nat.not_lt_zero m)⟩ (by repeat (first | exact sl_n | refine sl_c rfl ?_)) (fun w h => h.ent (by repeat (first | exact .nil | refine .cons (by repeat (first | exact .here | apply Pick.there)) ?_))) (fun k hy => ?_)
        obtain ⟨hk1, hk2⟩ := hy
        refine s_seq ?_
        refine s_seq ?_
        refine s_region ?_
        refine o_p (p_pure rfl) rfl ?_
        refine o_p (p_fieldAddr rfl rfl fd_26_1 sz_24 rfl) rfl ?_
        first | refine o_q (q_load rfl rfl sz_24 (by repeat (first | exact .here | apply Pick.there)) rfl) rfl ?_ | refine o_q (q_load_old rfl rfl sz_24 ((hs.1.rdj 3 hil rfl))) rfl ?_ | refine o_q (q_load_old rfl rfl sz_24 (((hs.at hil).1.rdj 4 hkl rfl))) rfl ?_
        refine o_p (p_pure rfl) rfl ?_
        first | refine o_p (p_indexAddr rfl rfl rfl sl_24 (i) (by omega) (by omega) rfl) rfl ?_ | refine o_p (p_indexAddr rfl rfl rfl sl_24 (i) (by omega) (by omega) (Rw.some hs.1 (by omega))) rfl ?_ | refine o_p (p_indexAddr rfl rfl rfl sl_24 (i) (by omega) (by omega) (Rw.some (hs.at hil).1 (by omega))) rfl ?_
        refine o_p (p_fieldAddr rfl rfl fd_77_2 sz_75 rfl) rfl ?_
        first | refine o_q (q_load rfl rfl sz_75 (by repeat (first | exact .here | apply Pick.there)) rfl) rfl ?_ | refine o_q (q_load_old rfl rfl sz_75 ((hs.1.rdj 3 hil rfl))) rfl ?_ | refine o_q (q_load_old rfl rfl sz_75 (((hs.at hil).1.rdj 4 hkl rfl))) rfl ?_
        first | refine o_p (p_len_slice rfl rfl Try.underlying75) rfl ?_ | refine o_q (q_len_own rfl rfl Try.underlying75 (by repeat (first | exact .here | apply Pick.there))) rfl ?_
        refine o_p (p_pure rfl) rfl ?_
        refine o_nil ?_
        refine s_cond rfl (fun h5 => ?_) (fun h5 => ?_)
        · try simp only [decide_eq_true_eq, decide_eq_false_iff_not, Bool.not_eq_true', Bool.not_eq_false', Bool.and_eq_true, Bool.or_eq_true, Bool.and_eq_false_iff, Bool.or_eq_false_iff, Bool.not_true, Bool.not_false] at h5
          have hkl : k < (nth L i).op.length := by omega
          refine s_skip ?_
          refine s_seq ?_
          refine s_block ?_
          refine s_seq ?_
          refine s_region ?_
          refine o_p (p_fieldAddr rfl rfl fd_26_1 sz_24 rfl) rfl ?_
          first | refine o_q (q_load rfl rfl sz_24 (by repeat (first | exact .here | apply Pick.there)) rfl) rfl ?_ | refine o_q (q_load_old rfl rfl sz_24 ((hs.1.rdj 3 hil rfl))) rfl ?_ | refine o_q (q_load_old rfl rfl sz_24 (((hs.at hil).1.rdj 4 hkl rfl))) rfl ?_
          refine o_p (p_pure rfl) rfl ?_
          first | refine o_p (p_indexAddr rfl rfl rfl sl_24 (i) (by omega) (by omega) rfl) rfl ?_ | refine o_p (p_indexAddr rfl rfl rfl sl_24 (i) (by omega) (by omega) (Rw.some hs.1 (by omega))) rfl ?_ | refine o_p (p_indexAddr rfl rfl rfl sl_24 (i) (by omega) (by omega) (Rw.some (hs.at hil).1 (by omega))) rfl ?_
          refine o_p (p_fieldAddr rfl rfl fd_77_2 sz_75 rfl) rfl ?_
          first | refine o_q (q_load rfl rfl sz_75 (by repeat (first | exact .here | apply Pick.there)) rfl) rfl ?_ | refine o_q (q_load_old rfl rfl sz_75 ((hs.1.rdj 3 hil rfl))) rfl ?_ | refine o_q (q_load_old rfl rfl sz_75 (((hs.at hil).1.rdj 4 hkl rfl))) rfl ?_
          refine o_p (p_pure rfl) rfl ?_
          first | refine o_p (p_indexAddr rfl rfl rfl sl_75 (k) (by omega) (by omega) rfl) rfl ?_ | refine o_p (p_indexAddr rfl rfl rfl sl_75 (k) (by omega) (by omega) (Rw.some hs.1 (by omega))) rfl ?_ | refine o_p (p_indexAddr rfl rfl rfl sl_75 (k) (by omega) (by omega) (Rw.some (hs.at hil).1 (by omega))) rfl ?_
          refine o_p (p_fieldAddr rfl rfl fd_48_4 sz_46 rfl) rfl ?_
          first | refine o_q (q_load rfl rfl sz_46 (by repeat (first | exact .here | apply Pick.there)) rfl) rfl ?_ | refine o_q (q_load_old rfl rfl sz_46 ((hs.1.rdj 3 hil rfl))) rfl ?_ | refine o_q (q_load_old rfl rfl sz_46 (((hs.at hil).1.rdj 4 hkl rfl))) rfl ?_
          first | refine o_p (p_len_slice rfl rfl Try.underlying46) rfl ?_ | refine o_q (q_len_own rfl rfl Try.underlying46 (by repeat (first | exact .here | apply Pick.there))) rfl ?_
          refine o_p (p_pure rfl) rfl ?_
          refine o_nil ?_
          refine s_cond rfl (fun h6 => ?_) (fun h6 => ?_)
          · try simp only [decide_eq_true_eq, decide_eq_false_iff_not, Bool.not_eq_true', Bool.not_eq_false', Bool.and_eq_true, Bool.or_eq_true, Bool.and_eq_false_iff, Bool.or_eq_false_iff, Bool.not_true, Bool.not_false] at h6
            refine s_seq ?_
            refine s_region ?_
            refine o_p (p_pure rfl) rfl ?_
            refine o_nil ?_
            exact s_retv (rs := [.tmp 2]) rfl (.tmp rfl (.nil)) (fun w' h' => ⟨by rw [fewT_f hil (fewF_k hkl (by have hq := h6; omega))]; rfl, h'.below⟩)
          · try simp only [decide_eq_true_eq, decide_eq_false_iff_not, Bool.not_eq_true', Bool.not_eq_false', Bool.and_eq_true, Bool.or_eq_true, Bool.and_eq_false_iff, Bool.or_eq_false_iff, Bool.not_true, Bool.not_false] at h6
            refine s_skip ?_
            refine s_blk ?_
            refine s_region ?_
            refine o_p (p_pure rfl) rfl ?_
            refine o_p (p_pure rfl) rfl ?_
            try (refine o_slot (i64w (by omega) (by omega)) ?_)
            refine o_p (p_pure rfl) rfl ?_
            refine o_nil ?_
            exact s_backI (k + 1) (by omega) ⟨by omega, fun m hm => (Nat.lt_or_ge m k).elim (hk2 m) (fun h9 => by have e9 : m = k := (by omega); rw [e9]; have hq := h6; omega)⟩ (by repeat (first | exact sl_n | refine sl_c rfl ?_)) (fun w h => h.ent (by repeat (first | exact .nil | refine .cons (by repeat (first | exact .here | apply Pick.there)) ?_)))
        · try simp only [decide_eq_true_eq, decide_eq_false_iff_not, Bool.not_eq_true', Bool.not_eq_false', Bool.and_eq_true, Bool.or_eq_true, Bool.and_eq_false_iff, Bool.or_eq_false_iff, Bool.not_true, Bool.not_false] at h5
          refine s_exit_to rfl ?_
          refine s_blk ?_
          refine s_region ?_
          refine o_p (p_pure rfl) rfl ?_
          refine o_p (p_pure rfl) rfl ?_
          try (refine o_slot (i64w (by omega) (by omega)) ?_)
          refine o_p (p_pure rfl) rfl ?_
          refine o_nil ?_
          exact s_backI (i + 1) (by omega) ⟨by omega, fun m hm => (Nat.lt_or_ge m i).elim (hi2 m) (fun h9 => by have e9 : m = i := (by omega); rw [e9]; exact fewF_1 ho40 (fun q hq => hk2 q (by omega)))⟩ (by repeat (first | exact sl_n | refine sl_c rfl ?_)) (fun w h => h.ent (by repeat (first | exact .nil | refine .cons (by repeat (first | exact .here | apply Pick.there)) ?_)))
    · try simp only [decide_eq_true_eq, decide_eq_false_iff_not, Bool.not_eq_true', Bool.not_eq_false', Bool.and_eq_true, Bool.or_eq_true, Bool.and_eq_false_iff, Bool.or_eq_false_iff, Bool.not_true, Bool.not_false] at h3
      refine s_exit_to rfl ?_
      refine s_seq ?_
      refine s_region ?_
      refine o_p (p_pure rfl) rfl ?_
      refine o_nil ?_
      exact s_retv (rs := [.tmp 2]) rfl (.tmp rfl (.nil)) (fun w' h' => ⟨by rw [fewT_1 hl40 (fun m hm => hi2 m (by omega))]; rfl, h'.below⟩)

end Go.Proofs

namespace Go.Proofs
open Go Go.RowKit Gx
set_option linter.unusedVariables false
set_option linter.unusedSimpArgs false
attribute [local irreducible] Go.Calls Gx.S Gx.O Gx.D Gx.OpP Gx.OpQ Gx.OpH

theorem fn_11 : isFn Try.prog 11 = true := by kernel_rfl
theorem fn_17 : isFn Try.prog 17 = true := by kernel_rfl
theorem ar_49 : tar Try.prog 49 = some (2, 48, 5) := by kernel_rfl
theorem fn_18 : isFn Try.prog 18 = true := by kernel_rfl
theorem fn_21 : isFn Try.prog 21 = true := by kernel_rfl


theorem cflT_max {x y : LOpn} (h : ¬ (if openE x.ac x.sh < openE y.ac y.sh then openE y.ac y.sh else openE x.ac x.sh) = 0) : cflT x.pl y.pl = (false, if openE x.ac x.sh < openE y.ac y.sh then openE y.ac y.sh else openE x.ac x.sh) := by
  unfold cflT
  simp only [LOpn.pl]
  rcases openE_02 x.ac x.sh with h1 | h1 <;> rcases openE_02 y.ac y.sh with h2 | h2 <;> simp [h1, h2] at h ⊢
theorem cflT_maz {x y : LOpn} (h : (if openE x.ac x.sh < openE y.ac y.sh then openE y.ac y.sh else openE x.ac x.sh) = 0) : openE x.ac x.sh = 0 ∧ openE y.ac y.sh = 0 := by
  rcases openE_02 x.ac x.sh with h1 | h1 <;> rcases openE_02 y.ac y.sh with h2 | h2 <;> simp [h1, h2] at h ⊢

set_option maxRecDepth 20000 in
set_option maxHeartbeats 1000000 in
theorem c5 (w : World) (next : Int) (a : Option Addr) (cap : Nat) (L : List LFil) (x y : LOpn) (hs : Ft w [] a L) : Calls Try.prog 5 #[.agg #[.int .i64 next, .slice a L.length cap], .agg #[.int .i64 x.hd, .int .i64 x.ac, .int .i64 x.sh, .bool x.dl, .slice x.la x.lk.length x.lc, .int .i64 y.hd, .int .i64 y.ac, .int .i64 y.sh, .bool y.dl, .slice y.la y.lk.length y.lc]] w fun en w' => en = .returned (.bool true) ∧ Below w.heap.size w w' := by
  refine enter (args := [_, _]) Try.func5 Try.ntmps5 rfl rfl (HS.refl w []) ?_
  refine s_seq ?_
  refine s_region ?_
  refine o_h (h_box rfl rfl) rfl (fun b1 _ => ?_)
  refine o_h (h_box rfl rfl) rfl (fun b2 _ => ?_)
  refine o_p (p_pure rfl) rfl ?_
  refine o_nil ?_
  refine s_seq ?_
  refine s_seq ?_
  refine s_region ?_
  refine o_q (q_call rfl fn_11 rfl (fun w1 h1 => c11 w1)) rfl ?_
  refine o_p (p_pure rfl) rfl ?_
  refine o_nil ?_
  refine s_cond rfl (fun h3 => ?_) (fun h3 => ?_)
  · try simp only [decide_eq_true_eq, decide_eq_false_iff_not, Bool.not_eq_true', Bool.not_eq_false', Bool.and_eq_true, Bool.or_eq_true, Bool.and_eq_false_iff, Bool.or_eq_false_iff, Bool.not_true, Bool.not_false] at h3
    exfalso; first | omega | (simp at h3; done) | (simp_all; done)
  · try simp only [decide_eq_true_eq, decide_eq_false_iff_not, Bool.not_eq_true', Bool.not_eq_false', Bool.and_eq_true, Bool.or_eq_true, Bool.and_eq_false_iff, Bool.or_eq_false_iff, Bool.not_true, Bool.not_false] at h3
    refine s_skip ?_
    refine s_seq ?_
    refine s_seq ?_
    refine s_region ?_
    refine o_q (q_loadn rfl rfl sz_26 (by repeat (first | exact .here | apply Pick.there)) rfl) rfl ?_
    refine o_q (q_call rfl fn_17 rfl (fun w1 h1 => c17 w1 next a cap L (hs.later h1))) rfl ?_
    refine o_p (p_pure rfl) rfl ?_
    refine o_p (p_pure rfl) rfl ?_
    refine o_or 6 17 23 _ _ rfl
      (by
        intro hg4
        have hs5 := hg4; try simp only [decide_eq_true_eq, decide_eq_false_iff_not, Bool.not_eq_true', Bool.not_eq_false', Bool.and_eq_true, Bool.or_eq_true, Bool.and_eq_false_iff, Bool.or_eq_false_iff, Bool.not_true, Bool.not_false] at hs5
        refine o_on 17 _ rfl rfl hg4 ?_
        first | refine o_p (p_indexAddr_arr rfl rfl rfl ar_49 _ rfl (by omega)) rfl ?_ | refine o_p (p_indexAddr_arr rfl rfl rfl ar_49 (Int.toNat _) (Int.toNat_of_nonneg (by omega)).symm (by omega)) rfl ?_
        refine o_on 17 _ rfl rfl hg4 ?_
        refine o_p (p_fieldAddr rfl rfl fd_48_4 sz_46 rfl) rfl ?_
        refine o_on 17 _ rfl rfl hg4 ?_
        refine o_q (q_load rfl rfl sz_46 (by repeat (first | exact .here | apply Pick.there)) rfl) rfl ?_
        refine o_on 17 _ rfl rfl hg4 ?_
        first | refine o_p (p_len_slice rfl rfl Try.underlying46) rfl ?_ | refine o_q (q_len_own rfl rfl Try.underlying46 (by repeat (first | exact .here | apply Pick.there))) rfl ?_
        refine o_on 17 _ rfl rfl hg4 ?_
        refine o_p (p_pure rfl) rfl ?_
        refine o_p (p_pickf rfl rfl hg4 rfl) rfl ?_
        refine o_nil ?_
        exact s_joinN 6 23 _ rfl rfl rfl (fun w h => by first | exact h | exact h.ent (by repeat (first | exact .nil | refine .cons (by repeat (first | exact .here | apply Pick.there)) ?_))))
      (by
        intro hg6
        have hs7 := hg6; try simp only [decide_eq_true_eq, decide_eq_false_iff_not, Bool.not_eq_true', Bool.not_eq_false', Bool.and_eq_true, Bool.or_eq_true, Bool.and_eq_false_iff, Bool.or_eq_false_iff, Bool.not_true, Bool.not_false] at hs7
        refine o_off 17 _ rfl rfl hg6 rfl ?_
        refine o_off 17 _ rfl rfl hg6 rfl ?_
        refine o_off 17 _ rfl rfl hg6 rfl ?_
        refine o_off 17 _ rfl rfl hg6 rfl ?_
        refine o_off 17 _ rfl rfl hg6 rfl ?_
        refine o_p (p_pickt rfl rfl hg6 rfl) rfl ?_
        refine o_nil ?_
        exact s_joinN 6 23 _ rfl rfl rfl (fun w h => by first | exact h | exact h.ent (by repeat (first | exact .nil | refine .cons (by repeat (first | exact .here | apply Pick.there)) ?_)))) ?_
    refine o_p (p_pure rfl) rfl ?_
    refine o_or 6 24 30 _ _ rfl
      (by
        intro hg8
        have hs9 := hg8; try simp only [decide_eq_true_eq, decide_eq_false_iff_not, Bool.not_eq_true', Bool.not_eq_false', Bool.and_eq_true, Bool.or_eq_true, Bool.and_eq_false_iff, Bool.or_eq_false_iff, Bool.not_true, Bool.not_false] at hs9
        refine o_on 24 _ rfl rfl hg8 ?_
        first | refine o_p (p_indexAddr_arr rfl rfl rfl ar_49 _ rfl (by omega)) rfl ?_ | refine o_p (p_indexAddr_arr rfl rfl rfl ar_49 (Int.toNat _) (Int.toNat_of_nonneg (by omega)).symm (by omega)) rfl ?_
        refine o_on 24 _ rfl rfl hg8 ?_
        refine o_p (p_fieldAddr rfl rfl fd_48_4 sz_46 rfl) rfl ?_
        refine o_on 24 _ rfl rfl hg8 ?_
        refine o_q (q_load rfl rfl sz_46 (by repeat (first | exact .here | apply Pick.there)) rfl) rfl ?_
        refine o_on 24 _ rfl rfl hg8 ?_
        first | refine o_p (p_len_slice rfl rfl Try.underlying46) rfl ?_ | refine o_q (q_len_own rfl rfl Try.underlying46 (by repeat (first | exact .here | apply Pick.there))) rfl ?_
        refine o_on 24 _ rfl rfl hg8 ?_
        refine o_p (p_pure rfl) rfl ?_
        refine o_p (p_pickf rfl rfl hg8 rfl) rfl ?_
        refine o_nil ?_
        exact s_joinN 6 30 _ rfl rfl rfl (fun w h => by first | exact h | exact h.ent (by repeat (first | exact .nil | refine .cons (by repeat (first | exact .here | apply Pick.there)) ?_))))
      (by
        intro hg10
        have hs11 := hg10; try simp only [decide_eq_true_eq, decide_eq_false_iff_not, Bool.not_eq_true', Bool.not_eq_false', Bool.and_eq_true, Bool.or_eq_true, Bool.and_eq_false_iff, Bool.or_eq_false_iff, Bool.not_true, Bool.not_false] at hs11
        refine o_off 24 _ rfl rfl hg10 rfl ?_
        refine o_off 24 _ rfl rfl hg10 rfl ?_
        refine o_off 24 _ rfl rfl hg10 rfl ?_
        refine o_off 24 _ rfl rfl hg10 rfl ?_
        refine o_off 24 _ rfl rfl hg10 rfl ?_
        refine o_p (p_pickt rfl rfl hg10 rfl) rfl ?_
        refine o_nil ?_
        exact s_joinN 6 30 _ rfl rfl rfl (fun w h => by first | exact h | exact h.ent (by repeat (first | exact .nil | refine .cons (by repeat (first | exact .here | apply Pick.there)) ?_)))) ?_
    refine o_nil ?_
    refine s_cond rfl (fun h12 => ?_) (fun h12 => ?_)
    · try simp only [decide_eq_true_eq, decide_eq_false_iff_not, Bool.not_eq_true', Bool.not_eq_false', Bool.and_eq_true, Bool.or_eq_true, Bool.and_eq_false_iff, Bool.or_eq_false_iff, Bool.not_true, Bool.not_false] at h12
      refine s_seq ?_
      refine s_region ?_
      refine o_p (p_pure rfl) rfl ?_
      refine o_nil ?_
      exact s_retv (rs := [.tmp 4]) rfl (.tmp rfl (.nil)) (fun w' h' => ⟨by rfl, h'.below⟩)
    · try simp only [decide_eq_true_eq, decide_eq_false_iff_not, Bool.not_eq_true', Bool.not_eq_false', Bool.and_eq_true, Bool.or_eq_true, Bool.and_eq_false_iff, Bool.or_eq_false_iff, Bool.not_true, Bool.not_false] at h12
      have hfw : fewT L = true := by have hq := h12; simp at hq; grind
      have hb := fewT_b hfw
      refine s_skip ?_
      refine s_seq ?_
      refine s_region ?_
      refine o_q (q_loadn rfl rfl sz_26 (by repeat (first | exact .here | apply Pick.there)) rfl) rfl ?_
      refine o_h (h_call rfl fn_19 rfl (fun w1 h1 => c19 w1 next a cap L (hs.later h1) hb.1 hb.2.1 hb.2.2)) rfl (fun ⟨⟨ca, cc⟩, N⟩ hgc => ?_)
      refine o_q (q_call rfl fn_18 rfl (fun w1 h1 => by have nb := same_b hgc hb; have h9 := c18 w1 next ca cc N (HS.ft (a := ca) (cap := cc) (l := N) h1 (by repeat (first | exact .here | apply Pick.there))) nb.1 nb.2.1; rw [show pls N = pls L from hgc] at h9; exact h9)) rfl ?_
      refine o_p (p_pure rfl) rfl ?_
      refine o_p (p_pure rfl) rfl ?_
      refine o_p (p_pure rfl) rfl ?_
      refine o_p (p_pure rfl) rfl ?_
      refine o_p (p_pure rfl) rfl ?_
      refine o_nil ?_
      refine s_seq ?_
      refine s_region ?_
      refine o_q (q_loadn rfl rfl sz_26 (by repeat (first | exact .here | apply Pick.there)) rfl) rfl ?_
      refine o_q (q_call rfl fn_20 rfl (fun w1 h1 => c20 w1 next a cap L (hs.later h1) hb.1 hb.2.1)) rfl ?_
      refine o_p (p_pure rfl) rfl ?_
      refine o_p (p_pure rfl) rfl ?_
      refine o_p (p_pure rfl) rfl ?_
      refine o_p (p_pure rfl) rfl ?_
      refine o_p (p_pure rfl) rfl ?_
      refine o_nil ?_
      refine s_seq ?_
      refine s_seq ?_
      refine s_region ?_
      refine o_p (p_pure rfl) rfl ?_
      refine o_p (p_pure rfl) rfl ?_
      refine o_p (p_pure rfl) rfl ?_
      refine o_p (p_pure rfl) rfl ?_
      refine o_or 4 45 49 _ _ rfl
        (by
          intro hg13
          have hs14 := hg13; try simp only [decide_eq_true_eq, decide_eq_false_iff_not, Bool.not_eq_true', Bool.not_eq_false', Bool.and_eq_true, Bool.or_eq_true, Bool.and_eq_false_iff, Bool.or_eq_false_iff, Bool.not_true, Bool.not_false] at hs14
          refine o_on 45 _ rfl rfl hg13 ?_
          refine o_p (p_pure rfl) rfl ?_
          refine o_on 45 _ rfl rfl hg13 ?_
          refine o_p (p_pure rfl) rfl ?_
          refine o_on 45 _ rfl rfl hg13 ?_
          refine o_p (p_pure rfl) rfl ?_
          refine o_p (p_pickf rfl rfl hg13 rfl) rfl ?_
          refine o_nil ?_
          exact s_joinN 4 49 _ rfl rfl rfl (fun w h => by first | exact h | exact h.ent (by repeat (first | exact .nil | refine .cons (by repeat (first | exact .here | apply Pick.there)) ?_))))
        (by
          intro hg15
          have hs16 := hg15; try simp only [decide_eq_true_eq, decide_eq_false_iff_not, Bool.not_eq_true', Bool.not_eq_false', Bool.and_eq_true, Bool.or_eq_true, Bool.and_eq_false_iff, Bool.or_eq_false_iff, Bool.not_true, Bool.not_false] at hs16
          refine o_off 45 _ rfl rfl hg15 rfl ?_
          refine o_off 45 _ rfl rfl hg15 rfl ?_
          refine o_off 45 _ rfl rfl hg15 rfl ?_
          refine o_p (p_pickt rfl rfl hg15 rfl) rfl ?_
          refine o_nil ?_
          exact s_joinN 4 49 _ rfl rfl rfl (fun w h => by first | exact h | exact h.ent (by repeat (first | exact .nil | refine .cons (by repeat (first | exact .here | apply Pick.there)) ?_)))) ?_
      refine o_nil ?_
      refine s_cond rfl (fun h17 => ?_) (fun h17 => ?_)
      · try simp only [decide_eq_true_eq, decide_eq_false_iff_not, Bool.not_eq_true', Bool.not_eq_false', Bool.and_eq_true, Bool.or_eq_true, Bool.and_eq_false_iff, Bool.or_eq_false_iff, Bool.not_true, Bool.not_false] at h17
        exfalso; first | omega | (simp at h17; done) | (simp_all; done)
      · try simp only [decide_eq_true_eq, decide_eq_false_iff_not, Bool.not_eq_true', Bool.not_eq_false', Bool.and_eq_true, Bool.or_eq_true, Bool.and_eq_false_iff, Bool.or_eq_false_iff, Bool.not_true, Bool.not_false] at h17
        refine s_skip ?_
        refine s_seq ?_
        refine s_weaken (L' := [(3, _), (4, _)]) (by repeat (first | exact sl_n | refine sl_c rfl ?_)) (fun _ h => h) ?_
        refine s_region ?_
        first | refine o_p (p_indexAddr_arr rfl rfl rfl ar_49 _ rfl (by omega)) rfl ?_ | refine o_p (p_indexAddr_arr rfl rfl rfl ar_49 (Int.toNat _) (Int.toNat_of_nonneg (by omega)).symm (by omega)) rfl ?_
        refine o_q (q_loadn rfl rfl sz_48 (by repeat (first | exact .here | apply Pick.there)) rfl) rfl ?_
        first | refine o_p (p_indexAddr_arr rfl rfl rfl ar_49 _ rfl (by omega)) rfl ?_ | refine o_p (p_indexAddr_arr rfl rfl rfl ar_49 (Int.toNat _) (Int.toNat_of_nonneg (by omega)).symm (by omega)) rfl ?_
        refine o_q (q_loadn rfl rfl sz_48 (by repeat (first | exact .here | apply Pick.there)) rfl) rfl ?_
        refine o_q (q_call rfl fn_21 rfl (fun w1 h1 => c21 w1 x y)) rfl ?_
        refine o_p (p_pure rfl) rfl ?_
        refine o_p (p_pure rfl) rfl ?_
        refine o_p (p_pure rfl) rfl ?_
        refine o_p (p_pure rfl) rfl ?_
        refine o_p (p_pure rfl) rfl ?_
        refine o_nil ?_
        refine s_seq ?_
        refine s_draw [] mixed ?_
        first | refine d_p 0 rfl (p_indexAddr_arr rfl rfl rfl ar_49 _ rfl (by omega)) (by kernel_rfl) rfl rfl ?_ | refine d_p 0 rfl (p_indexAddr_arr rfl rfl rfl ar_49 (Int.toNat _) (Int.toNat_of_nonneg (by omega)).symm (by omega)) (by kernel_rfl) rfl rfl ?_
        refine d_q 1 [] rfl (q_loadn rfl rfl sz_48 (by repeat (first | exact .here | apply Pick.there)) rfl) (by kernel_rfl) (by kernel_rfl) (by kernel_rfl) rfl ?_
        refine d_q 2 [] rfl (q_call rfl fn_22 rfl (fun w1 h1 => c22 w1 x)) (by kernel_rfl) (by kernel_rfl) (by kernel_rfl) rfl ?_
        first | refine d_p 3 rfl (p_indexAddr_arr rfl rfl rfl ar_49 _ rfl (by omega)) (by kernel_rfl) rfl rfl ?_ | refine d_p 3 rfl (p_indexAddr_arr rfl rfl rfl ar_49 (Int.toNat _) (Int.toNat_of_nonneg (by omega)).symm (by omega)) (by kernel_rfl) rfl rfl ?_
        refine d_q 4 [] rfl (q_loadn rfl rfl sz_48 (by repeat (first | exact .here | apply Pick.there)) rfl) (by kernel_rfl) (by kernel_rfl) (by kernel_rfl) rfl ?_
        refine d_q 5 [] rfl (q_call rfl fn_22 rfl (fun w1 h1 => c22 w1 y)) (by kernel_rfl) (by kernel_rfl) (by kernel_rfl) rfl ?_
        refine d_p 6 rfl (p_max2 rfl rfl rfl ) (by kernel_rfl) rfl rfl ?_
        refine d_p 7 rfl (p_pure rfl) (by kernel_rfl) rfl rfl ?_
        refine d_nil (by kernel_rfl) (fun w h => h.ent (by repeat (first | exact .nil | refine .cons (by repeat (first | exact .here | apply Pick.there)) ?_))) ?_
        refine s_seq ?_
        refine s_seq ?_
        refine s_region ?_
        refine o_p (p_pure rfl) rfl ?_
        refine o_p (p_pure rfl) rfl ?_
        refine o_nil ?_
        refine s_cond rfl (fun h18 => ?_) (fun h18 => ?_)
        · try simp only [decide_eq_true_eq, decide_eq_false_iff_not, Bool.not_eq_true', Bool.not_eq_false', Bool.and_eq_true, Bool.or_eq_true, Bool.and_eq_false_iff, Bool.or_eq_false_iff, Bool.not_true, Bool.not_false] at h18
          have hmx := h18
          have hcf := cflT_max hmx
          refine s_seq ?_
          refine s_region ?_
          refine o_p (p_pure rfl) rfl ?_
          refine o_p (p_pure rfl) rfl ?_
          refine o_p (p_pure rfl) rfl ?_
          refine o_p (p_pure rfl) rfl ?_
          refine o_and 3 70 73 _ _ rfl
            (by
              intro hg19
              have hs20 := hg19; try simp only [decide_eq_true_eq, decide_eq_false_iff_not, Bool.not_eq_true', Bool.not_eq_false', Bool.and_eq_true, Bool.or_eq_true, Bool.and_eq_false_iff, Bool.or_eq_false_iff, Bool.not_true, Bool.not_false] at hs20
              refine o_on 70 _ rfl rfl hg19 ?_
              refine o_p (p_pure rfl) rfl ?_
              refine o_on 70 _ rfl rfl hg19 ?_
              refine o_p (p_pure rfl) rfl ?_
              refine o_p (p_pickt rfl rfl hg19 rfl) rfl ?_
              refine o_nil ?_
              exact s_joinN 3 73 _ rfl rfl rfl (fun w h => by first | exact h | exact h.ent (by repeat (first | exact .nil | refine .cons (by repeat (first | exact .here | apply Pick.there)) ?_))))
            (by
              intro hg21
              have hs22 := hg21; try simp only [decide_eq_true_eq, decide_eq_false_iff_not, Bool.not_eq_true', Bool.not_eq_false', Bool.and_eq_true, Bool.or_eq_true, Bool.and_eq_false_iff, Bool.or_eq_false_iff, Bool.not_true, Bool.not_false] at hs22
              refine o_off 70 _ rfl rfl hg21 rfl ?_
              refine o_off 70 _ rfl rfl hg21 rfl ?_
              refine o_p (p_pickf rfl rfl hg21 rfl) rfl ?_
              refine o_nil ?_
              exact s_joinN 3 73 _ rfl rfl rfl (fun w h => by first | exact h | exact h.ent (by repeat (first | exact .nil | refine .cons (by repeat (first | exact .here | apply Pick.there)) ?_)))) ?_
          refine o_p (p_pure rfl) rfl ?_
          refine o_nil ?_
          exact s_retv (rs := [.tmp 4]) rfl (.tmp rfl (.nil)) (fun w' h' => ⟨by (try simp only [retV]); simp [hcf], h'.below⟩)
        · try simp only [decide_eq_true_eq, decide_eq_false_iff_not, Bool.not_eq_true', Bool.not_eq_false', Bool.and_eq_true, Bool.or_eq_true, Bool.and_eq_false_iff, Bool.or_eq_false_iff, Bool.not_true, Bool.not_false] at h18
          have hmx := h18
          have hz := cflT_maz hmx
          have hcf := cflT_0 (a := x.pl) (b := y.pl) hz
          refine s_skip ?_
          refine s_seq ?_
          refine s_region ?_
          refine o_p (p_pure rfl) rfl ?_
          refine o_p (p_pure rfl) rfl ?_
          refine o_p (p_pure rfl) rfl ?_
          refine o_and 8 76 84 _ _ rfl
            (by
              intro hg23
              have hs24 := hg23; try simp only [decide_eq_true_eq, decide_eq_false_iff_not, Bool.not_eq_true', Bool.not_eq_false', Bool.and_eq_true, Bool.or_eq_true, Bool.and_eq_false_iff, Bool.or_eq_false_iff, Bool.not_true, Bool.not_false] at hs24
              refine o_on 76 _ rfl rfl hg23 ?_
              refine o_p (p_pure rfl) rfl ?_
              refine o_on 76 _ rfl rfl hg23 ?_
              first | refine o_p (p_indexAddr_arr rfl rfl rfl ar_49 _ rfl (by omega)) rfl ?_ | refine o_p (p_indexAddr_arr rfl rfl rfl ar_49 (Int.toNat _) (Int.toNat_of_nonneg (by omega)).symm (by omega)) rfl ?_
              refine o_on 76 _ rfl rfl hg23 ?_
              refine o_q (q_loadn rfl rfl sz_48 (by repeat (first | exact .here | apply Pick.there)) rfl) rfl ?_
              refine o_on 76 _ rfl rfl hg23 ?_
              first | refine o_p (p_indexAddr_arr rfl rfl rfl ar_49 _ rfl (by omega)) rfl ?_ | refine o_p (p_indexAddr_arr rfl rfl rfl ar_49 (Int.toNat _) (Int.toNat_of_nonneg (by omega)).symm (by omega)) rfl ?_
              refine o_on 76 _ rfl rfl hg23 ?_
              refine o_q (q_loadn rfl rfl sz_48 (by repeat (first | exact .here | apply Pick.there)) rfl) rfl ?_
              refine o_on 76 _ rfl rfl hg23 ?_
              refine o_q (q_call rfl fn_23 rfl (fun w1 h1 => c23 w1 x y hz.1 hz.2)) rfl ?_
              refine o_on 76 _ rfl rfl hg23 ?_
              refine o_p (p_eql_bool rfl rfl rfl Try.underlying4) rfl ?_
              refine o_p (p_pickt rfl rfl hg23 rfl) rfl ?_
              refine o_nil ?_
              exact s_joinN 8 84 _ rfl rfl rfl (fun w h => by first | exact h | exact h.ent (by repeat (first | exact .nil | refine .cons (by repeat (first | exact .here | apply Pick.there)) ?_))))
            (by
              intro hg25
              have hs26 := hg25; try simp only [decide_eq_true_eq, decide_eq_false_iff_not, Bool.not_eq_true', Bool.not_eq_false', Bool.and_eq_true, Bool.or_eq_true, Bool.and_eq_false_iff, Bool.or_eq_false_iff, Bool.not_true, Bool.not_false] at hs26
              refine o_off 76 _ rfl rfl hg25 rfl ?_
              refine o_off 76 _ rfl rfl hg25 rfl ?_
              refine o_off 76 _ rfl rfl hg25 rfl ?_
              refine o_off 76 _ rfl rfl hg25 rfl ?_
              refine o_off 76 _ rfl rfl hg25 rfl ?_
              refine o_off 76 _ rfl rfl hg25 rfl ?_
              refine o_off 76 _ rfl rfl hg25 rfl ?_
              refine o_p (p_pickf rfl rfl hg25 rfl) rfl ?_
              refine o_nil ?_
              exact s_joinN 8 84 _ rfl rfl rfl (fun w h => by first | exact h | exact h.ent (by repeat (first | exact .nil | refine .cons (by repeat (first | exact .here | apply Pick.there)) ?_)))) ?_
          refine o_p (p_pure rfl) rfl ?_
          refine o_nil ?_
          exact s_retv (rs := [.tmp 4]) rfl (.tmp rfl (.nil)) (fun w' h' => ⟨by (try simp only [retV]); simp [hcf], h'.below⟩)

end Go.Proofs

