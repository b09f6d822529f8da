/- Contracts of the program's functions, proved by walking them with the rules of the Gx texts; without conditions beyond those that each contract names. -/
import Derived.WalkKit
import Derived.Deep.Draws
import Derived.Lib.Strings
import Derived.Laws.BytesArg
import Derived.Laws.IdiomStrings
import Derived.Deep.Quiet
import Derived.Laws.StructEq
import Derived.ChangeKeysEq
import Derived.Laws.Externs
import Derived.Lib.Overlaps
import Derived.Carry
import Derived.Test.YtgdigngojonbhaaProg
import Derived.KernelRfl
import Derived.Laws.Small
import Derived.ProofKit
import Derived.OpenShut
import Derived.Test.YtgdigngojonbhaaP3
namespace Go.Proofs
open Go Go.RowKit Gx
set_option linter.unusedVariables false
set_option linter.unusedSimpArgs false
attribute [local irreducible] Go.Calls Gx.S Gx.O Gx.D Gx.OpP Gx.OpQ Gx.OpH

theorem fn_31 : isFn Try.prog 31 = true := by kernel_rfl
def hErr (next : Int) (L : List Fil) (h : Int) : Int := if (chkT next L).2 = 0 then (findF L h 0).2.2 else (chkT next L).2
def fErr (next : Int) (L : List Fil) (rc sq : Int) : Int := if (chkT next L).2 = 0 then if refE rc sq = 0 then if ixI (atB L rc sq) < 0 then 6 else 0 else refE rc sq else (chkT next L).2
section
variable {w0 w : World} {M : List Nat} {As As' : List HA} {a : Option Addr} {cap : Nat}
theorem HS.files_more {l : List LFil} {f : LFil} {n : Nat} {xs : List Value} (h : HS w0 M (.own (.slice a n cap) 77 4 n xs :: .star (l.map subF) :: subF f :: As) w) (hn : n = (l ++ [f]).length) (hx : xs = (l ++ [f]).flatMap LFil.vals) : HS w0 M (.files a cap (l ++ [f]) :: As) w := by
  have h1 : HS w0 M (subF f :: .star (l.map subF) :: .own (.slice a n cap) 77 4 n xs :: As) w := h.perm ((List.Perm.swap ..).trans ((List.Perm.cons _ (List.Perm.swap ..)).trans (List.Perm.swap ..)))
  exact HS.row_shut (h1.sub_app.perm (List.Perm.swap ..)) hn hx
end
theorem app_len1 {α : Type} {l : List α} {x : α} : (l ++ [x]).length = l.length + 1 := by simp
theorem app_flat1 {α : Type} {vals : α → List Value} {l : List α} {x : α} : (l ++ [x]).flatMap vals = l.flatMap vals ++ vals x := by simp
theorem pls_app1 {l : List LFil} {x : LFil} : pls (l ++ [x]) = pls l ++ [x.pl] := by simp [pls]
theorem plo_app1 {l : List LOpn} {x : LOpn} : plo (l ++ [x]) = plo l ++ [x.pl] := by simp [plo]

set_option maxRecDepth 20000 in
set_option maxHeartbeats 1000000 in
theorem c19 (w : World) (next : Int) (a : Option Addr) (cap : Nat) (L : List LFil) (hs : Ft w [] a L) (hm : L.length ≤ 1000) (hmo : ∀ f ∈ L, f.op.length ≤ 1000) (hml : ∀ f ∈ L, ∀ o ∈ f.op, o.lk.length ≤ 1000) : Calls Try.prog 19 #[.agg #[.int .i64 next, .slice a L.length cap]] w fun en w' => ∃ g : (Option Addr × Nat) × List LFil, en = .returned (.agg #[.int .i64 next, .slice g.1.1 g.2.length g.1.2]) ∧ pls g.2 = pls L ∧ HS w [] [.files g.1.1 g.1.2 g.2] w' := by
  have hpl : (pls L).length = L.length := by simp
  refine enter (args := [_]) Try.func19 Try.ntmps19 rfl rfl (HS.refl w []) ?_
  refine s_seq ?_
  refine s_region ?_
  refine o_h (h_box rfl rfl) rfl (fun b1 _ => ?_)
  refine o_h (h_alloc rfl zr_26) rfl (fun b2 _ => ?_)
  refine o_nil ?_
  refine s_seq ?_
  refine s_region ?_
  refine o_p (p_fieldAddr rfl rfl fd_26_0 sz_3 rfl) rfl ?_
  first | refine o_q (q_load rfl rfl sz_3 (by repeat (first | exact .here | apply Pick.there)) rfl) rfl ?_ | refine o_q (q_load_old rfl rfl sz_3 ((hs.1.rdj 2 hil rfl))) rfl ?_ | refine o_q (q_load_old rfl rfl sz_3 ((hs.1.rdj 3 hil rfl))) rfl ?_ | refine o_q (q_load_old rfl rfl sz_3 (rfl (Rw.rd (hs.at hil).1 hkl))) rfl ?_
  refine o_p (p_build (cs := [_, _]) rfl rfl pl_26 zr_26 rfl) rfl ?_
  refine o_h (h_alloc rfl zr_26) rfl (fun b3 _ => ?_)
  refine o_h0 (h_store rfl rfl rfl sz_26 rfl (by repeat (first | exact .here | apply Put.there)) (by simp only [setMany_length, List.length_set, List.length_cons, List.length_nil, List.length_map]; omega) rfl) (fun _ _ => ?_)
  refine o_nil ?_
  refine s_seq ?_
  refine s_seq ?_
  refine s_region ?_
  refine o_p (p_pure rfl) rfl ?_
  refine o_nil ?_
  refine s_block ?_
  refine s_loopI (α := Nat × (Option Addr × Nat) × List LFil) [4, 5, 6, 7, 11, 12, 13, 14, 15, 16, 17, 18, 19, 20, 21, 22, 23, 24, 25, 26, 27, 28, 29, 30, 31, 32, 33, 34, 35, 36, 37, 38, 39, 40, 41, 42, 43, 44, 45, 46, 47, 48, 49, 50, 51, 52, 53, 54, 55, 56, 57, 58, 59, 60, 61, 62, 63, 64, 65, 66, 67] (fun y => [(4, .int .i64 (y.1 : Int))]) (fun y => HS w [] [.blk b3 26 2 [.int .i64 next, .slice y.2.1.1 y.2.2.length y.2.1.2], .files y.2.1.1 y.2.1.2 y.2.2, .blk b1 26 2 [.int .i64 next, .slice a L.length cap], .blk b2 26 2 [.int .i64 0, .slice none 0 0]]) (fun y => y.1 ≤ L.length ∧ pls y.2.2 = (pls L).take y.1) (fun y => L.length - y.1) (0, (none, 0), []) ⟨Nat.zero_le _, rfl⟩ (by repeat (first | exact sl_n | refine sl_c rfl ?_)) (fun w h => (HS.files_none h).ent (by repeat (first | exact .nil | refine .cons (by repeat (first | exact .here | apply Pick.there)) ?_))) (fun ⟨i, x, M⟩ hy => ?_)
  dsimp only at hy ⊢
  obtain ⟨hi1, hi2⟩ := hy
  refine s_seq ?_
  refine s_seq ?_
  refine s_region ?_
  refine o_p (p_pure rfl) rfl ?_
  refine o_p (p_fieldAddr rfl rfl fd_26_1 sz_24 rfl) rfl ?_
  first | refine o_q (q_load rfl rfl sz_24 (by repeat (first | exact .here | apply Pick.there)) rfl) rfl ?_ | refine o_q (q_load_old rfl rfl sz_24 ((hs.1.rdj 2 hil rfl))) rfl ?_ | refine o_q (q_load_old rfl rfl sz_24 ((hs.1.rdj 3 hil rfl))) rfl ?_ | refine o_q (q_load_old rfl rfl sz_24 (rfl (Rw.rd (hs.at hil).1 hkl))) rfl ?_
  first | refine o_p (p_len_slice rfl rfl Try.underlying24) rfl ?_ | refine o_q (q_len_own rfl rfl Try.underlying24 (by repeat (first | exact .here | apply Pick.there))) rfl ?_
  refine o_p (p_pure rfl) rfl ?_
  refine o_nil ?_
  refine s_cond rfl (fun h4 => ?_) (fun h4 => ?_)
  · try simp only [decide_eq_true_eq, decide_eq_false_iff_not, Bool.not_eq_true', Bool.not_eq_false', Bool.and_eq_true, Bool.or_eq_true, Bool.and_eq_false_iff, Bool.or_eq_false_iff, Bool.not_true, Bool.not_false] at h4
    have hil : i < L.length := by omega
    have hoi := hmo _ (mem_nth hil)
    have hMl : M.length = i := by have h9 := congrArg List.length hi2; simp at h9; omega
    refine s_skip ?_
    refine s_seq ?_
    refine s_block ?_
    refine s_seq ?_
    refine s_draw [14] mixed ?_
    refine d_p 0 rfl (p_fieldAddr rfl rfl fd_26_1 sz_24 rfl) (by kernel_rfl) rfl rfl ?_
    first | refine d_q 1 [[]] rfl (q_load rfl rfl sz_24 (by repeat (first | exact .here | apply Pick.there)) rfl) (by kernel_rfl) (by kernel_rfl) (by kernel_rfl) rfl ?_ | refine d_q 1 [[]] rfl (q_load_old rfl rfl sz_24 ((hs.1.rdj 2 hil rfl))) (by kernel_rfl) (by kernel_rfl) (by kernel_rfl) rfl ?_ | refine d_q 1 [[]] rfl (q_load_old rfl rfl sz_24 ((hs.1.rdj 3 hil rfl))) (by kernel_rfl) (by kernel_rfl) (by kernel_rfl) rfl ?_ | refine d_q 1 [[]] rfl (q_load_old rfl rfl sz_24 (rfl (Rw.rd (hs.at hil).1 hkl))) (by kernel_rfl) (by kernel_rfl) (by kernel_rfl) rfl ?_
    refine d_p 2 rfl (p_pure rfl) (by kernel_rfl) rfl rfl ?_
    first | refine d_p 3 rfl (p_indexAddr rfl rfl rfl sl_24 (i) (by omega) (by omega) rfl) (by kernel_rfl) rfl rfl ?_ | refine d_p 3 rfl (p_indexAddr rfl rfl rfl sl_24 (i) (by omega) (by omega) (Rw.some hs.1 (by omega))) (by kernel_rfl) rfl rfl ?_ | refine d_p 3 rfl (p_indexAddr rfl rfl rfl sl_24 (i) (by omega) (by omega) (Rw.some (hs.at hil).1 (by omega))) (by kernel_rfl) rfl rfl ?_
    refine d_p 4 rfl (p_fieldAddr rfl rfl fd_77_0 sz_42 rfl) (by kernel_rfl) rfl rfl ?_
    refine d_q 5 [[]] rfl (q_load_oldn [.int .i64 (nth L i).rc, .int .i64 (nth L i).sq] rfl rfl sz_42 rfl (fun j v hv => Rw.rd hs.1 (i := i) hil j v (by rcases j with _ | _ | j <;> first | exact hv | (simp at hv)))) (by kernel_rfl) (by kernel_rfl) (by kernel_rfl) rfl ?_
    refine d_p 6 rfl (p_fieldAddr rfl rfl fd_26_1 sz_24 rfl) (by kernel_rfl) rfl rfl ?_
    first | refine d_q 7 [[]] rfl (q_load rfl rfl sz_24 (by repeat (first | exact .here | apply Pick.there)) rfl) (by kernel_rfl) (by kernel_rfl) (by kernel_rfl) rfl ?_ | refine d_q 7 [[]] rfl (q_load_old rfl rfl sz_24 ((hs.1.rdj 2 hil rfl))) (by kernel_rfl) (by kernel_rfl) (by kernel_rfl) rfl ?_ | refine d_q 7 [[]] rfl (q_load_old rfl rfl sz_24 ((hs.1.rdj 3 hil rfl))) (by kernel_rfl) (by kernel_rfl) (by kernel_rfl) rfl ?_ | refine d_q 7 [[]] rfl (q_load_old rfl rfl sz_24 (rfl (Rw.rd (hs.at hil).1 hkl))) (by kernel_rfl) (by kernel_rfl) (by kernel_rfl) rfl ?_
    refine d_p 8 rfl (p_pure rfl) (by kernel_rfl) rfl rfl ?_
    first | refine d_p 9 rfl (p_indexAddr rfl rfl rfl sl_24 (i) (by omega) (by omega) rfl) (by kernel_rfl) rfl rfl ?_ | refine d_p 9 rfl (p_indexAddr rfl rfl rfl sl_24 (i) (by omega) (by omega) (Rw.some hs.1 (by omega))) (by kernel_rfl) rfl rfl ?_ | refine d_p 9 rfl (p_indexAddr rfl rfl rfl sl_24 (i) (by omega) (by omega) (Rw.some (hs.at hil).1 (by omega))) (by kernel_rfl) rfl rfl ?_
    refine d_p 10 rfl (p_fieldAddr rfl rfl fd_77_1 sz_4 rfl) (by kernel_rfl) rfl rfl ?_
    first | refine d_q 11 [[]] rfl (q_load rfl rfl sz_4 (by repeat (first | exact .here | apply Pick.there)) rfl) (by kernel_rfl) (by kernel_rfl) (by kernel_rfl) rfl ?_ | refine d_q 11 [[]] rfl (q_load_old rfl rfl sz_4 ((hs.1.rdj 2 hil rfl))) (by kernel_rfl) (by kernel_rfl) (by kernel_rfl) rfl ?_ | refine d_q 11 [[]] rfl (q_load_old rfl rfl sz_4 ((hs.1.rdj 3 hil rfl))) (by kernel_rfl) (by kernel_rfl) (by kernel_rfl) rfl ?_ | refine d_q 11 [[]] rfl (q_load_old rfl rfl sz_4 (rfl (Rw.rd (hs.at hil).1 hkl))) (by kernel_rfl) (by kernel_rfl) (by kernel_rfl) rfl ?_
    refine d_p 12 rfl (p_build (cs := [_, _, _, _]) rfl rfl pl_77 zr_77 rfl) (by kernel_rfl) rfl rfl ?_
    refine d_h 13 rfl (h_alloc rfl zr_77) (by kernel_rfl) (fun w h => h.ent (by repeat (first | exact .nil | refine .cons (by repeat (first | exact .here | apply Pick.there)) ?_))) rfl (fun b5 _ => ?_)
    refine d_base (fun w h => h.ent (by repeat (first | exact .nil | refine .cons (by repeat (first | exact .here | apply Pick.there)) ?_))) ?_
    refine d_h0 14 rfl (h_store rfl rfl rfl sz_77 rfl (by repeat (first | exact .here | apply Put.there)) (by simp only [setMany_length, List.length_set, List.length_cons, List.length_nil, List.length_map]; omega) rfl) (by kernel_rfl) (fun w h => h.ent (by repeat (first | exact .nil | refine .cons (by repeat (first | exact .here | apply Pick.there)) ?_))) (fun _ _ => ?_)
    refine d_turn [] (by kernel_rfl) ?_
    refine d_nil (by kernel_rfl) (fun w h => h.ent (by repeat (first | exact .nil | refine .cons (by repeat (first | exact .here | apply Pick.there)) ?_))) ?_
    refine s_seq ?_
    refine s_seq ?_
    refine s_region ?_
    refine o_p (p_pure rfl) rfl ?_
    refine o_nil ?_
    refine s_block ?_
    refine s_weaken (L' := [(0, _), (1, _), (2, _), (3, _), (4, _), (5, _), (6, _), (8, _), (9, _), (10, _)]) (by repeat (first | exact sl_n | refine sl_c rfl ?_)) (fun _ h => h) ?_
    refine s_loopI (α := Nat × (Option Addr × Nat) × List LOpn) [6, 7, 31, 32, 33, 34, 35, 36, 37, 38, 39, 40, 41, 42, 43, 44, 45, 46, 47, 48, 49, 50, 51, 52, 53, 54, 55, 56, 57, 58, 59, 60, 61] (fun z => [(6, .int .i64 (z.1 : Int))]) (fun z => HS w [] [.blk b5 77 4 [.int .i64 (nth L i).rc, .int .i64 (nth L i).sq, .bool (nth L i).pd, .slice z.2.1.1 z.2.2.length z.2.1.2], .opens z.2.1.1 z.2.1.2 z.2.2, .blk b3 26 2 [.int .i64 next, .slice x.1 M.length x.2], .files x.1 x.2 M, .blk b1 26 2 [.int .i64 next, .slice a L.length cap], .blk b2 26 2 [.int .i64 0, .slice none 0 0]]) (fun z => z.1 ≤ (nth L i).op.length ∧ plo z.2.2 = (plo (nth L i).op).take z.1) (fun z => (nth L i).op.length - z.1) (0, (none, 0), []) ⟨Nat.zero_le _, rfl⟩ (by repeat (first | exact sl_n | refine sl_c rfl ?_)) (fun w h => (HS.opens_none h).ent (by repeat (first | exact .nil | refine .cons (by repeat (first | exact .here | apply Pick.there)) ?_))) (fun ⟨k, o, N⟩ hz => ?_)
    dsimp only at hz ⊢
    obtain ⟨hk1, hk2⟩ := hz
    refine s_seq ?_
    refine s_seq ?_
    refine s_region ?_
    refine o_p (p_pure rfl) rfl ?_
    refine o_p (p_fieldAddr rfl rfl fd_26_1 sz_24 rfl) rfl ?_
    first | refine o_q (q_load rfl rfl sz_24 (by repeat (first | exact .here | apply Pick.there)) rfl) rfl ?_ | refine o_q (q_load_old rfl rfl sz_24 ((hs.1.rdj 2 hil rfl))) rfl ?_ | refine o_q (q_load_old rfl rfl sz_24 ((hs.1.rdj 3 hil rfl))) rfl ?_ | refine o_q (q_load_old rfl rfl sz_24 (rfl (Rw.rd (hs.at hil).1 hkl))) rfl ?_
    refine o_p (p_pure rfl) rfl ?_
    first | refine o_p (p_indexAddr rfl rfl rfl sl_24 (i) (by omega) (by omega) rfl) rfl ?_ | refine o_p (p_indexAddr rfl rfl rfl sl_24 (i) (by omega) (by omega) (Rw.some hs.1 (by omega))) rfl ?_ | refine o_p (p_indexAddr rfl rfl rfl sl_24 (i) (by omega) (by omega) (Rw.some (hs.at hil).1 (by omega))) rfl ?_
    refine o_p (p_fieldAddr rfl rfl fd_77_2 sz_75 rfl) rfl ?_
    first | refine o_q (q_load rfl rfl sz_75 (by repeat (first | exact .here | apply Pick.there)) rfl) rfl ?_ | refine o_q (q_load_old rfl rfl sz_75 ((hs.1.rdj 2 hil rfl))) rfl ?_ | refine o_q (q_load_old rfl rfl sz_75 ((hs.1.rdj 3 hil rfl))) rfl ?_ | refine o_q (q_load_old rfl rfl sz_75 (rfl (Rw.rd (hs.at hil).1 hkl))) rfl ?_
    first | refine o_p (p_len_slice rfl rfl Try.underlying75) rfl ?_ | refine o_q (q_len_own rfl rfl Try.underlying75 (by repeat (first | exact .here | apply Pick.there))) rfl ?_
    refine o_p (p_pure rfl) rfl ?_
    refine o_nil ?_
    refine s_cond rfl (fun h6 => ?_) (fun h6 => ?_)
    · try simp only [decide_eq_true_eq, decide_eq_false_iff_not, Bool.not_eq_true', Bool.not_eq_false', Bool.and_eq_true, Bool.or_eq_true, Bool.and_eq_false_iff, Bool.or_eq_false_iff, Bool.not_true, Bool.not_false] at h6
      have hkl : k < (nth L i).op.length := by omega
      have hki := hml _ (mem_nth hil) _ (mem_nth hkl)
      have hNl : N.length = k := by have h9 := congrArg List.length hk2; simp at h9; omega
      refine s_skip ?_
      refine s_seq ?_
      refine s_block ?_
      refine s_seq ?_
      refine s_region ?_
      refine o_p (p_fieldAddr rfl rfl fd_26_1 sz_24 rfl) rfl ?_
      first | refine o_q (q_load rfl rfl sz_24 (by repeat (first | exact .here | apply Pick.there)) rfl) rfl ?_ | refine o_q (q_load_old rfl rfl sz_24 ((hs.1.rdj 2 hil rfl))) rfl ?_ | refine o_q (q_load_old rfl rfl sz_24 ((hs.1.rdj 3 hil rfl))) rfl ?_ | refine o_q (q_load_old rfl rfl sz_24 (rfl (Rw.rd (hs.at hil).1 hkl))) rfl ?_
      refine o_p (p_pure rfl) rfl ?_
      first | refine o_p (p_indexAddr rfl rfl rfl sl_24 (i) (by omega) (by omega) rfl) rfl ?_ | refine o_p (p_indexAddr rfl rfl rfl sl_24 (i) (by omega) (by omega) (Rw.some hs.1 (by omega))) rfl ?_ | refine o_p (p_indexAddr rfl rfl rfl sl_24 (i) (by omega) (by omega) (Rw.some (hs.at hil).1 (by omega))) rfl ?_
      refine o_p (p_fieldAddr rfl rfl fd_77_2 sz_75 rfl) rfl ?_
      first | refine o_q (q_load rfl rfl sz_75 (by repeat (first | exact .here | apply Pick.there)) rfl) rfl ?_ | refine o_q (q_load_old rfl rfl sz_75 ((hs.1.rdj 2 hil rfl))) rfl ?_ | refine o_q (q_load_old rfl rfl sz_75 ((hs.1.rdj 3 hil rfl))) rfl ?_ | refine o_q (q_load_old rfl rfl sz_75 (rfl (Rw.rd (hs.at hil).1 hkl))) rfl ?_
      refine o_p (p_pure rfl) rfl ?_
      first | refine o_p (p_indexAddr rfl rfl rfl sl_75 (k) (by omega) (by omega) rfl) rfl ?_ | refine o_p (p_indexAddr rfl rfl rfl sl_75 (k) (by omega) (by omega) (Rw.some hs.1 (by omega))) rfl ?_ | refine o_p (p_indexAddr rfl rfl rfl sl_75 (k) (by omega) (by omega) (Rw.some (hs.at hil).1 (by omega))) rfl ?_
      first | refine o_q (q_loadn rfl rfl sz_48 (by repeat (first | exact .here | apply Pick.there)) rfl) rfl ?_ | refine o_q (q_load_oldn _ rfl rfl sz_48 (hs.1.rdj 2 hil rfl)) rfl ?_ | refine o_q (q_load_oldn _ rfl rfl sz_48 (hs.1.rdj 3 hil rfl)) rfl ?_ | refine o_q (q_load_oldn _ rfl rfl sz_48 rfl (Rw.rd (hs.at hil).1 hkl)) rfl ?_
      refine o_h (h_alloc rfl zr_48) rfl (fun b7 _ => ?_)
      refine o_h0 (h_store rfl rfl rfl sz_48 rfl (by repeat (first | exact .here | apply Put.there)) (by simp only [setMany_length, List.length_set, List.length_cons, List.length_nil, List.length_map]; omega) rfl) (fun _ _ => ?_)
      refine o_nil ?_
      refine s_seq ?_
      refine s_region ?_
      refine o_h (h_buildSlice0 rfl sl_46) rfl (fun b8 _ => ?_)
      refine o_p (p_fieldAddr rfl rfl fd_48_4 sz_46 rfl) rfl ?_
      first | refine o_q (q_load rfl rfl sz_46 (by repeat (first | exact .here | apply Pick.there)) rfl) rfl ?_ | refine o_q (q_load_old rfl rfl sz_46 ((hs.1.rdj 2 hil rfl))) rfl ?_ | refine o_q (q_load_old rfl rfl sz_46 ((hs.1.rdj 3 hil rfl))) rfl ?_ | refine o_q (q_load_old rfl rfl sz_46 (rfl (Rw.rd (hs.at hil).1 hkl))) rfl ?_
      refine o_h (h_appendS (n := 0) ((nth (nth L i).op k).lk.flatMap Lock.vals) rfl rfl rfl sl_46 Try.underlying46 zr_62 rfl (by repeat (first | exact .here | apply Pick.there)) (fun w h => Rw.src lv3 ((hs.at hil).at hkl) h) (flat_length lv3 _) (flat_one lv1 _) (by omega) (by simp only [maxLen]; omega)) rfl (fun b9 _ => ?_)
      simp only [Nat.zero_add, List.nil_append]
      refine o_p (p_fieldAddr rfl rfl fd_48_4 sz_46 rfl) rfl ?_
      refine o_h0 (h_store rfl rfl rfl sz_46 rfl (by repeat (first | exact .here | apply Put.there)) (by simp only [setMany_length, List.length_set, List.length_cons, List.length_nil, List.length_map]; omega) rfl) (fun _ _ => ?_)
      refine o_nil ?_
      refine s_weaken (L' := [(0, _), (1, _), (2, _), (3, _), (4, _), (5, _), (6, _), (7, _), (8, _), (9, _), (10, _)]) (by repeat (first | exact sl_n | refine sl_c rfl ?_)) (fun _ h => h) ?_
      refine s_region ?_
      refine o_p (p_fieldAddr rfl rfl fd_77_2 sz_75 rfl) rfl ?_
      first | refine o_q (q_load rfl rfl sz_75 (by repeat (first | exact .here | apply Pick.there)) rfl) rfl ?_ | refine o_q (q_load_old rfl rfl sz_75 ((hs.1.rdj 2 hil rfl))) rfl ?_ | refine o_q (q_load_old rfl rfl sz_75 ((hs.1.rdj 3 hil rfl))) rfl ?_ | refine o_q (q_load_old rfl rfl sz_75 (rfl (Rw.rd (hs.at hil).1 hkl))) rfl ?_
      refine o_class (fun w h => HS.opens_split (a := o.1) (cap := o.2) (l := N) h (by repeat (first | exact .here | apply Pick.there))) ?_
      first | refine o_q (q_loadn rfl rfl sz_48 (by repeat (first | exact .here | apply Pick.there)) rfl) rfl ?_ | refine o_q (q_load_oldn _ rfl rfl sz_48 (hs.1.rdj 2 hil rfl)) rfl ?_ | refine o_q (q_load_oldn _ rfl rfl sz_48 (hs.1.rdj 3 hil rfl)) rfl ?_ | refine o_q (q_load_oldn _ rfl rfl sz_48 rfl (Rw.rd (hs.at hil).1 hkl)) rfl ?_
      refine o_h (h_buildSlice (cs := [_, _, _, _, _]) rfl rfl sl_75 zr_48 rfl rfl rfl) rfl (fun b10 _ => ?_)
      refine o_h (h_appendS (n := N.length) ({ (nth (nth L i).op k) with la := b9.1, lc := b9.2 } : LOpn).vals rfl rfl rfl sl_75 Try.underlying75 zr_48 rfl (by repeat (first | exact .here | apply Pick.there)) (src_blk (by repeat (first | exact .here | apply Pick.there))) rfl (ov1 ({ (nth (nth L i).op k) with la := b9.1, lc := b9.2 } : LOpn)) (by omega) (by simp only [maxLen]; omega)) rfl (fun b11 _ => ?_)
      refine o_p (p_fieldAddr rfl rfl fd_77_2 sz_75 rfl) rfl ?_
      refine o_h0 (h_store rfl rfl rfl sz_75 rfl (by repeat (first | exact .here | apply Put.there)) (by simp only [setMany_length, List.length_set, List.length_cons, List.length_nil, List.length_map]; omega) rfl) (fun _ _ => ?_)
      refine o_nil ?_
      refine s_blk ?_
      refine s_region ?_
      refine o_p (p_pure rfl) rfl ?_
      refine o_p (p_pure rfl) rfl ?_
      try (refine o_slot (i64w (by omega) (by omega)) ?_)
      refine o_p (p_pure rfl) rfl ?_
      refine o_nil ?_
      exact s_backI (k + 1, b11, N ++ [({ (nth (nth L i).op k) with la := b9.1, lc := b9.2 } : LOpn)]) (by show (nth L i).op.length - (k + 1) < (nth L i).op.length - k; omega) ⟨by show k + 1 ≤ (nth L i).op.length; omega, by show plo (N ++ [({ (nth (nth L i).op k) with la := b9.1, lc := b9.2 } : LOpn)]) = (plo (nth L i).op).take (k + 1); rw [plo_app1, hk2, take_succ_nth (by simpa using hkl), nth_plo hkl]; rfl⟩ (by repeat (first | exact sl_n | refine sl_c rfl ?_)) (fun w h => by have h2 := HS.opens_more (o := ({ (nth (nth L i).op k) with la := b9.1, lc := b9.2 } : LOpn)) (l := N) (h.ent (Bs := [.own (.slice b11.1 (N.length + 1) b11.2) 48 5 (N.length + 1) _, .star (N.map subO), subO ({ (nth (nth L i).op k) with la := b9.1, lc := b9.2 } : LOpn), .blk b5 77 4 [.int .i64 (nth L i).rc, .int .i64 (nth L i).sq, .bool (nth L i).pd, .slice b11.1 (N.length + 1) b11.2], .blk b3 26 2 [.int .i64 next, .slice x.1 M.length x.2], .files x.1 x.2 M, .blk b1 26 2 [.int .i64 next, .slice a L.length cap], .blk b2 26 2 [.int .i64 0, .slice none 0 0]]) (by repeat (first | exact .nil | refine .cons (by repeat (first | exact .here | apply Pick.there)) ?_))) app_len1.symm app_flat1.symm; dsimp only; rw [app_len1]; exact h2.ent (by repeat (first | exact .nil | refine .cons (by repeat (first | exact .here | apply Pick.there)) ?_)))
    · try simp only [decide_eq_true_eq, decide_eq_false_iff_not, Bool.not_eq_true', Bool.not_eq_false', Bool.and_eq_true, Bool.or_eq_true, Bool.and_eq_false_iff, Bool.or_eq_false_iff, Bool.not_true, Bool.not_false] at h6
      refine s_exit_to rfl ?_
      refine s_region ?_
      refine o_p (p_fieldAddr rfl rfl fd_26_1 sz_24 rfl) rfl ?_
      first | refine o_q (q_load rfl rfl sz_24 (by repeat (first | exact .here | apply Pick.there)) rfl) rfl ?_ | refine o_q (q_load_old rfl rfl sz_24 ((hs.1.rdj 2 hil rfl))) rfl ?_ | refine o_q (q_load_old rfl rfl sz_24 ((hs.1.rdj 3 hil rfl))) rfl ?_ | refine o_q (q_load_old rfl rfl sz_24 (rfl (Rw.rd (hs.at hil).1 hkl))) rfl ?_
      refine o_class (fun w h => HS.files_open (a := x.1) (cap := x.2) (l := M) h (by repeat (first | exact .here | apply Pick.there))) ?_
      first | refine o_q (q_loadn rfl rfl sz_77 (by repeat (first | exact .here | apply Pick.there)) rfl) rfl ?_ | refine o_q (q_load_oldn _ rfl rfl sz_77 (hs.1.rdj 2 hil rfl)) rfl ?_ | refine o_q (q_load_oldn _ rfl rfl sz_77 (hs.1.rdj 3 hil rfl)) rfl ?_ | refine o_q (q_load_oldn _ rfl rfl sz_77 rfl (Rw.rd (hs.at hil).1 hkl)) rfl ?_
      refine o_h (h_buildSlice (cs := [_, _, _, _]) rfl rfl sl_24 zr_77 rfl rfl rfl) rfl (fun b12 _ => ?_)
      refine o_h (h_appendS (n := M.length) ({ nth L i with oa := o.1, oc := o.2, op := N } : LFil).vals rfl rfl rfl sl_24 Try.underlying24 zr_77 rfl (by repeat (first | exact .here | apply Pick.there)) (src_blk (by repeat (first | exact .here | apply Pick.there))) rfl (fv1 ({ nth L i with oa := o.1, oc := o.2, op := N } : LFil)) (by omega) (by simp only [maxLen]; omega)) rfl (fun b13 _ => ?_)
      refine o_p (p_fieldAddr rfl rfl fd_26_1 sz_24 rfl) rfl ?_
      refine o_h0 (h_store rfl rfl rfl sz_24 rfl (by repeat (first | exact .here | apply Put.there)) (by simp only [setMany_length, List.length_set, List.length_cons, List.length_nil, List.length_map]; omega) rfl) (fun _ _ => ?_)
      refine o_nil ?_
      refine s_blk ?_
      refine s_region ?_
      refine o_p (p_pure rfl) rfl ?_
      refine o_p (p_pure rfl) rfl ?_
      try (refine o_slot (i64w (by omega) (by omega)) ?_)
      refine o_p (p_pure rfl) rfl ?_
      refine o_nil ?_
      exact s_backI (i + 1, b13, M ++ [({ nth L i with oa := o.1, oc := o.2, op := N } : LFil)]) (by show L.length - (i + 1) < L.length - i; omega) ⟨by show i + 1 ≤ L.length; omega, by show pls (M ++ [({ nth L i with oa := o.1, oc := o.2, op := N } : LFil)]) = (pls L).take (i + 1); rw [pls_app1, hi2, take_succ_nth (by omega), nth_pls hil]; have e8 : k = (nth L i).op.length := (by omega); rw [e8, List.take_of_length_le (by simp)] at hk2; simp only [LFil.pl]; rw [show List.map LOpn.pl N = List.map LOpn.pl (nth L i).op from hk2]⟩ (by repeat (first | exact sl_n | refine sl_c rfl ?_)) (fun w h => by have h2 := HS.files_more (f := ({ nth L i with oa := o.1, oc := o.2, op := N } : LFil)) (l := M) (h.ent (Bs := [.own (.slice b13.1 (M.length + 1) b13.2) 77 4 (M.length + 1) _, .star (M.map subF), subF ({ nth L i with oa := o.1, oc := o.2, op := N } : LFil), .blk b3 26 2 [.int .i64 next, .slice b13.1 (M.length + 1) b13.2], .blk b1 26 2 [.int .i64 next, .slice a L.length cap], .blk b2 26 2 [.int .i64 0, .slice none 0 0]]) (by repeat (first | exact .nil | refine .cons (by repeat (first | exact .here | apply Pick.there)) ?_))) app_len1.symm app_flat1.symm; dsimp only; rw [app_len1]; exact h2.ent (by repeat (first | exact .nil | refine .cons (by repeat (first | exact .here | apply Pick.there)) ?_)))
  · try simp only [decide_eq_true_eq, decide_eq_false_iff_not, Bool.not_eq_true', Bool.not_eq_false', Bool.and_eq_true, Bool.or_eq_true, Bool.and_eq_false_iff, Bool.or_eq_false_iff, Bool.not_true, Bool.not_false] at h4
    refine s_exit_to rfl ?_
    refine s_seq ?_
    refine s_region ?_
    first | refine o_q (q_loadn rfl rfl sz_26 (by repeat (first | exact .here | apply Pick.there)) rfl) rfl ?_ | refine o_q (q_load_oldn _ rfl rfl sz_26 (hs.1.rdj 2 hil rfl)) rfl ?_ | refine o_q (q_load_oldn _ rfl rfl sz_26 (hs.1.rdj 3 hil rfl)) rfl ?_ | refine o_q (q_load_oldn _ rfl rfl sz_26 rfl (Rw.rd (hs.at hil).1 hkl)) rfl ?_
    refine o_h0 (h_store rfl rfl rfl sz_26 rfl (by repeat (first | exact .here | apply Put.there)) (by simp only [setMany_length, List.length_set, List.length_cons, List.length_nil, List.length_map]; omega) rfl) (fun _ _ => ?_)
    refine o_nil ?_
    exact s_retv (rs := [.cell 2 26]) rfl (.cell rfl sz_26 (by repeat (first | exact .here | apply Pick.there)) rfl (.nil)) (fun w' h' => ⟨(x, M), rfl, by show pls M = pls L; rw [hi2, List.take_of_length_le (by omega)], h'.ent (by repeat (first | exact .nil | refine .cons (by repeat (first | exact .here | apply Pick.there)) ?_))⟩)

end Go.Proofs

/- Chapter 25, plain: the check accepts exactly the valid tables. -/
namespace Go.Proofs
open Go Go.RowKit Gx
set_option linter.unusedVariables false
set_option linter.unusedSimpArgs false

theorem lksE_iff {l : List Lock} : lksE l = 0 ↔ l.length ≤ 16 ∧ okL l := by
  constructor
  · exact lksE_0
  · rintro ⟨h1, h2⟩
    rw [lksE, if_neg (by omega)]
    unfold rngsE
    rw [eachF_0]
    intro e he
    obtain ⟨k, hk, rfl⟩ := List.mem_map.1 he
    exact h2 k hk
theorem lockedE_iff : ∀ {ks held : List Lock}, lockedE held ks = 0 ↔ (∀ h ∈ held, ∀ k ∈ ks, clsh h k = false) ∧ ks.Pairwise fun a b => clsh a b = false
  | [], held => by simp [lockedE]
  | k :: ks, held => by
    rw [lockedE]
    split
    · rename_i h
      constructor
      · intro h9; exact absurd h9 (by decide)
      · rintro ⟨h1, _⟩
        obtain ⟨x, hx, e⟩ := List.any_eq_true.1 h
        rw [h1 x hx k List.mem_cons_self] at e
        cases e
    · rename_i h
      rw [Bool.not_eq_true, List.any_eq_false] at h
      rw [lockedE_iff, List.pairwise_cons]
      constructor
      · rintro ⟨h1, h2⟩
        refine ⟨fun x hx y hy => ?_, fun y hy => h1 k (by simp) y hy, h2⟩
        rcases List.mem_cons.1 hy with rfl | hy
        · simpa using h x hx
        · exact h1 x (List.mem_append_left _ hx) y hy
      · rintro ⟨h1, h2, h3⟩
        refine ⟨fun x hx y hy => ?_, h3⟩
        rcases List.mem_append.1 hx with hx | hx
        · exact h1 x hx y (List.mem_cons_of_mem _ hy)
        · rw [List.mem_singleton.1 hx]; exact h2 y hy
theorem hdl_iff {next : Int} {known : List Int} {ops : List Opn} {k : Nat} : hdlE next known ops k = 0 ↔ (1 ≤ (nth ops k).hd ∧ (nth ops k).hd ≤ next - 1) ∧ openE (nth ops k).ac (nth ops k).sh = 0 ∧ (k = 0 ∨ (nth ops (k - 1)).hd < (nth ops k).hd) ∧ lksE (nth ops k).lk = 0 ∧ (nth ops k).hd ∉ known ∧ (ops.take k).any (cfl (nth ops k)) = false ∧ lockedE ((ops.take k).flatMap Opn.lk) (nth ops k).lk = 0 := by
  rw [hdl_r]
  grind
theorem fil_iff {next : Int} {L : List Fil} {i : Nat} : filE next L i = 0 ↔ refE (nth L i).rc (nth L i).sq = 0 ∧ (i = 0 ∨ refLt ((nth L (i - 1)).rc, (nth L (i - 1)).sq) ((nth L i).rc, (nth L i).sq) = true) ∧ 0 < (nth L i).op.length ∧ ∀ k, k < (nth L i).op.length → hdlE next (hds (L.take i)) (nth L i).op k = 0 := by
  have e : hdlsE next (hds (L.take i)) (nth L i).op = 0 ↔ ∀ k, k < (nth L i).op.length → hdlE next (hds (L.take i)) (nth L i).op k = 0 := by
    unfold hdlsE
    rw [eachF_0]
    simp
  rw [← e]
  unfold filE
  simp only []
  grind
theorem chk_iff {next : Int} {L : List Fil} : (chkT next L).2 = 0 ↔ (1 ≤ next ∧ next ≤ 2147483647) ∧ (L.length ≤ 32 ∧ cntT L ≤ 32) ∧ ∀ i, i < L.length → filE next L i = 0 := by
  have e : (eachF ((List.range L.length).map (filE next L)) 0).2 = 0 ↔ ∀ i, i < L.length → filE next L i = 0 := by
    rw [eachF_0]
    simp
  rw [← e]
  unfold chkT
  split
  · split
    · rename_i h1 h2; simp [h1, h2]
    · rename_i h1 h2; simp [h1, h2]
  · rename_i h1; simp [h1]
theorem pw_chain {α : Type} [Inhabited α] {R : α → α → Prop} {l : List α} (ht : ∀ a b c, R a b → R b c → R a c) (h : ∀ i, i < l.length → i = 0 ∨ R (nth l (i - 1)) (nth l i)) : l.Pairwise R := by
  have key : ∀ d i, i + d + 1 < l.length → R (nth l i) (nth l (i + d + 1)) := by
    intro d
    induction d with
    | zero =>
      intro i hi
      rcases h (i + 1) (by omega) with h1 | h1
      · omega
      · exact h1
    | succ d ih =>
      intro i hi
      rcases h (i + (d + 1) + 1) (by omega) with h1 | h1
      · omega
      · exact ht _ _ _ (ih i (by omega)) h1
  rw [List.pairwise_iff_getElem]
  intro i j hi hj hij
  have h1 := key (j - i - 1) i (by omega)
  rw [show i + (j - i - 1) + 1 = j by omega] at h1
  rw [nth_eq (List.getElem?_eq_getElem hi), nth_eq (List.getElem?_eq_getElem hj)] at h1
  exact h1
theorem pw_nth {α : Type} [Inhabited α] {R : α → α → Prop} {l : List α} : l.Pairwise R ↔ ∀ i j, i < j → j < l.length → R (nth l i) (nth l j) := by
  rw [List.pairwise_iff_getElem]
  constructor
  · intro h i j hij hj
    rw [nth_eq (List.getElem?_eq_getElem (show i < l.length by omega)), nth_eq (List.getElem?_eq_getElem hj)]
    exact h i j (by omega) hj hij
  · intro h i j hi hj hij
    have := h i j hij hj
    rwa [nth_eq (List.getElem?_eq_getElem hi), nth_eq (List.getElem?_eq_getElem hj)] at this
theorem mem_nth_ex {α : Type} [Inhabited α] {l : List α} {x : α} (h : x ∈ l) : ∃ i, i < l.length ∧ nth l i = x := by
  obtain ⟨i, hi, e⟩ := List.getElem_of_mem h
  exact ⟨i, hi, nth_eq (by rw [List.getElem?_eq_getElem hi, e])⟩
theorem mem_take_of {α : Type} [Inhabited α] {l : List α} {i j : Nat} (h : i < j) (hl : i < l.length) : nth l i ∈ l.take j := by
  have e : nth (l.take j) i = nth l i := nth_take h
  rw [← e]
  exact mem_nth (by rw [List.length_take]; omega)
theorem flat_pw {ops : List Opn} : (∀ k, k < ops.length → lockedE ((ops.take k).flatMap Opn.lk) (nth ops k).lk = 0) ↔ (ops.flatMap Opn.lk).Pairwise fun a b => clsh a b = false := by
  constructor
  · intro h
    have key : ∀ k, k ≤ ops.length → ((ops.take k).flatMap Opn.lk).Pairwise fun a b => clsh a b = false := by
      intro k
      induction k with
      | zero => intro _; simp
      | succ k ih =>
        intro hk
        rw [take_succ_nth (by omega), List.flatMap_append, List.pairwise_append]
        have h1 := lockedE_iff.1 (h k (by omega))
        exact ⟨ih (by omega), by simpa using h1.2, fun a ha b hb => h1.1 a ha b (by simpa using hb)⟩
    have := key ops.length (Nat.le_refl _)
    rwa [List.take_length] at this
  · intro h k hk
    rw [← List.take_append_drop k ops, List.flatMap_append, List.pairwise_append, drop_nth hk, List.flatMap_cons] at h
    rw [lockedE_iff]
    refine ⟨fun x hx y hy => h.2.2 x hx y (List.mem_append_left _ hy), ?_⟩
    exact (List.pairwise_append.1 h.2.1).1
theorem any_cf {ops : List Opn} : (∀ k, k < ops.length → (ops.take k).any (cfl (nth ops k)) = false) ↔ ops.Pairwise fun a b => cfl a b = false := by
  rw [pw_nth]
  constructor
  · intro h i j hij hj
    have h1 := h j hj
    rw [List.any_eq_false] at h1
    have h2 := h1 _ (mem_take_of (l := ops) hij (by omega))
    rw [cfl_comm]
    simpa using h2
  · intro h k hk
    rw [List.any_eq_false]
    intro o ho
    obtain ⟨m, h1, h2, rfl⟩ := nth_mem_take ho
    rw [cfl_comm, h m k h1 hk]
    decide
theorem hds_in {L : List Fil} {i j : Nat} {o : Opn} (h : i < j) (hi : i < L.length) (ho : o ∈ (nth L i).op) : o.hd ∈ hds (L.take j) := by
  unfold hds
  exact List.mem_flatMap.2 ⟨_, mem_take_of h hi, List.mem_map.2 ⟨o, ho, rfl⟩⟩
theorem chk_ok {next : Int} {L : List Fil} (h : (chkT next L).2 = 0) : Ok next L := by
  obtain ⟨h1, h2, h3⟩ := chk_iff.1 h
  have hf : ∀ i, i < L.length → FOk next (nth L i) := by
    intro i hi
    obtain ⟨f1, f2, f3, f4⟩ := fil_iff.1 (h3 i hi)
    have hk := fun k hk => hdl_iff.1 (f4 k hk)
    refine ⟨f1, f3, fun o ho => ?_, fun o ho => ?_, pw_chain (fun a b c p q => (by omega)) fun k hk9 => (hk k hk9).2.2.1, any_cf.1 fun k hk9 => (hk k hk9).2.2.2.2.2.1, flat_pw.1 fun k hk9 => (hk k hk9).2.2.2.2.2.2⟩
    · obtain ⟨k, hk9, rfl⟩ := mem_nth_ex ho
      exact (hk k hk9).1
    · obtain ⟨k, hk9, rfl⟩ := mem_nth_ex ho
      have h9 := lksE_iff.1 (hk k hk9).2.2.2.1
      exact ⟨(hk k hk9).2.1, h9.2, h9.1⟩
  refine ⟨h1, h2.2, fun f hf9 => ?_, pw_chain (fun a b c => refLt_tr) fun i hi => (fil_iff.1 (h3 i hi)).2.1, ?_⟩
  · obtain ⟨i, hi, rfl⟩ := mem_nth_ex hf9
    exact hf i hi
  · rw [pw_nth]
    intro i j hij hj o ho p hp he
    obtain ⟨k, hk9, rfl⟩ := mem_nth_ex hp
    have h9 := (hdl_iff.1 ((fil_iff.1 (h3 j hj)).2.2.2 k hk9)).2.2.2.2.1
    exact h9 (by rw [← he]; exact hds_in hij (by omega) ho)
theorem ok_chk {next : Int} {L : List Fil} (h : Ok next L) : (chkT next L).2 = 0 := by
  rw [chk_iff]
  refine ⟨h.nx, ⟨h.vw.len, h.cnt⟩, fun i hi => ?_⟩
  have hf := nth_Ok h hi
  rw [fil_iff]
  refine ⟨hf.rf, ?_, hf.ne, fun k hk => ?_⟩
  · by_cases h0 : i = 0
    · exact .inl h0
    · exact .inr (pw_nth.1 h.sr (i - 1) i (by omega) hi)
  · rw [hdl_iff]
    have ho := hf.op _ (mem_nth hk)
    refine ⟨hf.hd _ (mem_nth hk), ho.1, ?_, lksE_iff.2 ⟨ho.2.2, ho.2.1⟩, ?_, any_cf.2 hf.cf k hk, flat_pw.2 hf.lk k hk⟩
    · by_cases h0 : k = 0
      · exact .inl h0
      · exact .inr (pw_nth.1 hf.hs (k - 1) k (by omega) hk)
    · intro hm
      unfold hds at hm
      obtain ⟨g, hg, hx⟩ := List.mem_flatMap.1 hm
      obtain ⟨j, h1, h2, rfl⟩ := nth_mem_take hg
      obtain ⟨o, ho9, he⟩ := List.mem_map.1 hx
      exact pw_nth.1 h.ds j i h1 hi o ho9 _ (mem_nth hk) he
theorem ok_chk' {next : Int} {L : List Fil} (h : Ok next L) : chkT next L = (0, 0) := by
  have h2 := ok_chk h
  obtain ⟨h3, h4, h5⟩ := chk_iff.1 h2
  unfold chkT
  rw [if_pos h3, if_pos h4]
  have e : ∀ (es : List Int) (k : Nat), (∀ e ∈ es, e = 0) → eachF es k = (0, 0) := by
    intro es
    induction es with
    | nil => intro k _; rfl
    | cons x es ih => intro k hx; rw [eachF, if_pos (hx x List.mem_cons_self)]; exact ih _ fun y hy => hx y (List.mem_cons_of_mem _ hy)
  refine e _ _ fun x hx => ?_
  obtain ⟨i, hi, rfl⟩ := List.mem_map.1 hx
  exact h5 i (List.mem_range.1 hi)
end Go.Proofs

namespace Go.Proofs
open Go Go.RowKit Gx
set_option linter.unusedVariables false
set_option linter.unusedSimpArgs false
attribute [local irreducible] Go.Calls Gx.S Gx.O Gx.D Gx.OpP Gx.OpQ Gx.OpH

theorem fn_19 : isFn Try.prog 19 = true := by kernel_rfl


/-- A table after something was done to it, or the error of the table, or of what was done. -/
def afT (next : Int) (L : List Fil) (r : List Fil × Int) : (List Fil × Int) × Int := if (chkT next L).2 = 0 then if r.2 = 0 then ((r.1, next), 0) else (([], 0), r.2) else (([], 0), (chkT next L).2)
theorem afT_e {next : Int} {L : List Fil} {r : List Fil × Int} (h1 : (chkT next L).2 = 0) (h2 : ¬ r.2 = 0) : afT next L r = (([], 0), r.2) := by rw [afT, if_pos h1, if_neg h2]
theorem afT_0 {next : Int} {L : List Fil} {r : List Fil × Int} (h1 : (chkT next L).2 = 0) (h2 : r.2 = 0) : afT next L r = ((r.1, next), 0) := by rw [afT, if_pos h1, if_pos h2]
theorem same_nth {N L : List LFil} {i : Nat} (h : pls N = pls L) (hi : i < L.length) : i < N.length ∧ (nth N i).pl = (nth L i).pl := by
  have hl : N.length = L.length := by
    have h9 := congrArg List.length h
    simpa using h9
  refine ⟨by omega, ?_⟩
  rw [← nth_pls (show i < N.length by omega), h, nth_pls hi]
end Go.Proofs

namespace Go.Proofs
open Go Go.RowKit Gx
set_option linter.unusedVariables false
set_option linter.unusedSimpArgs false
attribute [local irreducible] Go.Calls Gx.S Gx.O Gx.D Gx.OpP Gx.OpQ Gx.OpH



def kpW (w ex oth : Bool) : Bool := (ex && oth) || (!ex && w)
theorem kpW_t : kpW true = wrK := by funext ex oth; cases ex <;> cases oth <;> rfl
theorem kpW_f : kpW false = rdK := by funext ex oth; cases ex <;> cases oth <;> rfl
def mayR (next : Int) (L : List Fil) (h fr cnt : Int) (w : Bool) : Int := if (chkT next L).2 = 0 then mayT L h ⟨fr, cnt, false⟩ (bif w then 2 else 1) (kpW w) else (chkT next L).2
end Go.Proofs

namespace Go.Proofs
open Go Go.RowKit Gx
set_option linter.unusedVariables false
set_option linter.unusedSimpArgs false
attribute [local irreducible] Go.Calls Gx.S Gx.O Gx.D Gx.OpP Gx.OpQ Gx.OpH



theorem same_op {f f' : LFil} {k : Nat} (h : f'.pl = f.pl) (hk : k < f.op.length) : k < f'.op.length ∧ f'.op.length = f.op.length ∧ (nth f'.op k).pl = (nth f.op k).pl := by
  have h1 : plo f'.op = plo f.op := congrArg Fil.op h
  have hl : f'.op.length = f.op.length := by
    have h9 := congrArg List.length h1
    simpa using h9
  refine ⟨by omega, hl, ?_⟩
  rw [← nth_plo (show k < f'.op.length by omega), h1, nth_plo hk]

end Go.Proofs

namespace Go.Proofs
open Go Go.RowKit Gx
set_option linter.unusedVariables false
set_option linter.unusedSimpArgs false
attribute [local irreducible] Go.Calls Gx.S Gx.O Gx.D Gx.OpP Gx.OpQ Gx.OpH



end Go.Proofs

namespace Go.Proofs
open Go Go.RowKit Gx
set_option linter.unusedVariables false
set_option linter.unusedSimpArgs false
attribute [local irreducible] Go.Calls Gx.S Gx.O Gx.D Gx.OpP Gx.OpQ Gx.OpH

theorem same_len {L L2 : List LFil} (h : pls L2 = pls L) : L2.length = L.length := by
  have h9 := congrArg List.length h
  simpa using h9

end Go.Proofs

namespace Go.Proofs
open Go Go.RowKit Gx
set_option linter.unusedVariables false
set_option linter.unusedSimpArgs false
attribute [local irreducible] Go.Calls Gx.S Gx.O Gx.D Gx.OpP Gx.OpQ Gx.OpH



/-- Whether two handles conflict, or the error. -/
def cflT (a b : Opn) : Bool × Int := if openE a.ac a.sh = 0 then if openE b.ac b.sh = 0 then (cfl a b, 0) else (false, openE b.ac b.sh) else (false, openE a.ac a.sh)
theorem cflT_e {a b : Opn} (h : ¬ firstV [.int .i64 (openE a.ac a.sh), .int .i64 (openE b.ac b.sh)] = 0) : cflT a b = (false, firstV [.int .i64 (openE a.ac a.sh), .int .i64 (openE b.ac b.sh)]) := by
  rw [firstV2] at h ⊢
  unfold cflT
  grind
theorem cflT_0 {a b : Opn} (h : openE a.ac a.sh = 0 ∧ openE b.ac b.sh = 0) : cflT a b = (cfl a b, 0) := by rw [cflT, if_pos h.1, if_pos h.2]

set_option maxRecDepth 20000 in
theorem c21 (w : World) (x y : LOpn) : Calls Try.prog 21 #[.agg #[.int .i64 x.hd, .int .i64 x.ac, .int .i64 x.sh, .bool x.dl, .slice x.la x.lk.length x.lc], .agg #[.int .i64 y.hd, .int .i64 y.ac, .int .i64 y.sh, .bool y.dl, .slice y.la y.lk.length y.lc]] w fun en w' => en = .returned (.tuple #[.bool (cflT x.pl y.pl).1, .int .i64 (cflT x.pl y.pl).2]) ∧ Below w.heap.size w w' := by
  refine enter (args := [_, _]) Try.func21 Try.ntmps21 rfl rfl (HS.refl w []) ?_
  refine s_seq ?_
  refine s_region ?_
  refine o_h (h_box rfl rfl) rfl (fun b1 _ => ?_)
  refine o_h (h_box rfl rfl) rfl (fun b2 _ => ?_)
  refine o_p (p_pure rfl) rfl ?_
  refine o_p (p_pure rfl) rfl ?_
  refine o_nil ?_
  refine s_seq ?_
  refine s_seq ?_
  refine s_draw [] mixed ?_
  refine d_q 0 [] rfl (q_loadn rfl rfl sz_48 (by repeat (first | exact .here | apply Pick.there)) rfl) (by kernel_rfl) (by kernel_rfl) (by kernel_rfl) rfl ?_
  refine d_q 1 [] rfl (q_call rfl fn_62 rfl (fun w1 h1 => c62 w1 x)) (by kernel_rfl) (by kernel_rfl) (by kernel_rfl) rfl ?_
  refine d_q 2 [] rfl (q_loadn rfl rfl sz_48 (by repeat (first | exact .here | apply Pick.there)) rfl) (by kernel_rfl) (by kernel_rfl) (by kernel_rfl) rfl ?_
  refine d_q 3 [] rfl (q_call rfl fn_62 rfl (fun w1 h1 => c62 w1 y)) (by kernel_rfl) (by kernel_rfl) (by kernel_rfl) rfl ?_
  refine d_h 4 rfl (h_buildSlice (cs := [_, _]) rfl rfl sl_146 zr_28 rfl rfl rfl) (by kernel_rfl) (fun w h => h.ent (by repeat (first | exact .nil | refine .cons (by repeat (first | exact .here | apply Pick.there)) ?_))) rfl (fun b3 _ => ?_)
  refine d_base (fun w h => h.ent (by repeat (first | exact .nil | refine .cons (by repeat (first | exact .here | apply Pick.there)) ?_))) ?_
  refine d_q 5 [] rfl (q_call rfl fn_52 rfl (fun w1 h1 => f52 h1 (by repeat (first | exact .here | apply Pick.there)) (by rfl) (by rfl) (by decide))) (by kernel_rfl) (by kernel_rfl) (by kernel_rfl) rfl ?_
  refine d_p 6 rfl (p_pure rfl) (by kernel_rfl) rfl rfl ?_
  refine d_nil (by kernel_rfl) (fun w h => h.ent (by repeat (first | exact .nil | refine .cons (by repeat (first | exact .here | apply Pick.there)) ?_))) ?_
  refine s_seq ?_
  refine s_region ?_
  refine o_p (p_pure rfl) rfl ?_
  refine o_p (p_pure rfl) rfl ?_
  refine o_nil ?_
  refine s_cond rfl (fun h4 => ?_) (fun h4 => ?_)
  · try simp only [decide_eq_true_eq, decide_eq_false_iff_not, Bool.not_eq_true', Bool.not_eq_false', Bool.and_eq_true, Bool.or_eq_true, Bool.and_eq_false_iff, Bool.or_eq_false_iff, Bool.not_true, Bool.not_false] at h4
    have he : ¬ firstV [.int .i64 (openE x.pl.ac x.pl.sh), .int .i64 (openE y.pl.ac y.pl.sh)] = 0 := h4
    refine s_seq ?_
    refine s_region ?_
    refine o_p (p_pure rfl) rfl ?_
    refine o_p (p_pure rfl) rfl ?_
    refine o_p (p_pure rfl) rfl ?_
    refine o_nil ?_
    exact s_retv (rs := [.tmp 4, .tmp 5]) rfl (.tmp rfl (.tmp rfl (.nil))) (fun w' h' => ⟨by rw [cflT_e he]; rfl, h'.below⟩)
  · try simp only [decide_eq_true_eq, decide_eq_false_iff_not, Bool.not_eq_true', Bool.not_eq_false', Bool.and_eq_true, Bool.or_eq_true, Bool.and_eq_false_iff, Bool.or_eq_false_iff, Bool.not_true, Bool.not_false] at h4
    have hz := first2_0 h4
    refine s_skip ?_
    refine s_seq ?_
    refine s_region ?_
    refine o_q (q_loadn rfl rfl sz_48 (by repeat (first | exact .here | apply Pick.there)) rfl) rfl ?_
    refine o_q (q_loadn rfl rfl sz_48 (by repeat (first | exact .here | apply Pick.there)) rfl) rfl ?_
    refine o_q (q_call rfl fn_63 rfl (fun w1 h1 => c63 w1 x y hz.1 hz.2)) rfl ?_
    refine o_p (p_pure rfl) rfl ?_
    refine o_p (p_pure rfl) rfl ?_
    refine o_nil ?_
    exact s_retv (rs := [.tmp 4, .tmp 5]) rfl (.tmp rfl (.tmp rfl (.nil))) (fun w' h' => ⟨by rw [cflT_0 (a := x.pl) (b := y.pl) hz]; rfl, h'.below⟩)

end Go.Proofs

namespace Go.Proofs
open Go Go.RowKit Gx
set_option linter.unusedVariables false
set_option linter.unusedSimpArgs false
attribute [local irreducible] Go.Calls Gx.S Gx.O Gx.D Gx.OpP Gx.OpQ Gx.OpH



def fewF (f : LFil) : Bool := decide (f.op.length ≤ 40) && f.op.all fun o => decide (o.lk.length ≤ 20)
/-- Few files, handles and locks. -/
def fewT (L : List LFil) : Bool := decide (L.length ≤ 40) && L.all fewF
theorem fewT_l {L : List LFil} (h : 40 < L.length) : fewT L = false := by
  unfold fewT
  simp
  omega
theorem fewT_f {L : List LFil} {i : Nat} (hi : i < L.length) (h : fewF (nth L i) = false) : fewT L = false := by
  unfold fewT
  rw [Bool.and_eq_false_iff]
  right
  rw [List.all_eq_false]
  exact ⟨_, mem_nth hi, by rw [h]; decide⟩
theorem fewF_l {f : LFil} (h : 40 < f.op.length) : fewF f = false := by
  unfold fewF
  simp
  omega
theorem fewF_k {f : LFil} {k : Nat} (hk : k < f.op.length) (h : 20 < (nth f.op k).lk.length) : fewF f = false := by
  unfold fewF
  rw [Bool.and_eq_false_iff]
  right
  rw [List.all_eq_false]
  exact ⟨_, mem_nth hk, by simp; omega⟩
theorem fewT_1 {L : List LFil} (hl : L.length ≤ 40) (h : ∀ m, m < L.length → fewF (nth L m) = true) : fewT L = true := by
  unfold fewT
  rw [Bool.and_eq_true, List.all_eq_true]
  refine ⟨by simpa using hl, fun f hf => ?_⟩
  obtain ⟨m, hm, rfl⟩ := mem_nth_ex hf
  exact h m hm
theorem fewF_1 {f : LFil} (hl : f.op.length ≤ 40) (h : ∀ m, m < f.op.length → (nth f.op m).lk.length ≤ 20) : fewF f = true := by
  unfold fewF
  rw [Bool.and_eq_true, List.all_eq_true]
  refine ⟨by simpa using hl, fun o ho => ?_⟩
  obtain ⟨m, hm, rfl⟩ := mem_nth_ex ho
  simpa using h m hm
theorem fewT_r {L : List LFil} (h : fewT L = true) : L.length ≤ 40 ∧ (∀ f ∈ L, f.op.length ≤ 40) ∧ ∀ f ∈ L, ∀ o ∈ f.op, o.lk.length ≤ 20 := by
  unfold fewT fewF at h
  simp only [Bool.and_eq_true, decide_eq_true_eq, List.all_eq_true] at h
  exact ⟨h.1, fun f hf => (h.2 f hf).1, fun f hf o ho => (h.2 f hf).2 o ho⟩
/-- What a table of few permits: the bounds that the contracts ask. -/
theorem fewT_b {L : List LFil} (h : fewT L = true) : L.length ≤ 1000 ∧ (∀ f ∈ L, f.op.length ≤ 1000) ∧ ∀ f ∈ L, ∀ o ∈ f.op, o.lk.length ≤ 1000 := by
  obtain ⟨h1, h2, h3⟩ := fewT_r h
  exact ⟨by omega, fun f hf => by have := h2 f hf; omega, fun f hf o ho => by have := h3 f hf o ho; omega⟩
theorem same_b {L N : List LFil} (h : pls N = pls L) (hb : L.length ≤ 1000 ∧ (∀ f ∈ L, f.op.length ≤ 1000) ∧ ∀ f ∈ L, ∀ o ∈ f.op, o.lk.length ≤ 1000) : N.length ≤ 1000 ∧ (∀ f ∈ N, f.op.length ≤ 1000) ∧ ∀ f ∈ N, ∀ o ∈ f.op, o.lk.length ≤ 1000 := by
  have e : N.length = L.length := same_len h
  refine ⟨by omega, fun f hf => ?_, fun f hf o ho => ?_⟩
  · obtain ⟨i, hi, rfl⟩ := mem_nth_ex hf
    have h1 := (same_nth h.symm hi).2
    have h2 : (nth L i).op.length = (nth N i).op.length := by
      have h9 := congrArg (fun f : Fil => f.op.length) h1
      simpa [LFil.pl] using h9
    rw [← h2]
    exact hb.2.1 _ (mem_nth (by omega))
  · obtain ⟨i, hi, rfl⟩ := mem_nth_ex hf
    obtain ⟨k, hk, rfl⟩ := mem_nth_ex ho
    have h1 := (same_nth h.symm hi).2
    obtain ⟨h2, _, h3⟩ := same_op h1 hk
    have h4 : (nth (nth L i).op k).lk = (nth (nth N i).op k).lk := congrArg Opn.lk h3
    rw [← h4]
    exact hb.2.2 _ (mem_nth (by omega)) _ (mem_nth h2)
theorem openE_02 (a b : Int) : openE a b = 0 ∨ openE a b = 2 := by
  unfold openE
  split <;> simp

set_option maxRecDepth 20000 in
theorem c17 (w : World) (next : Int) (a : Option Addr) (cap : Nat) (L : List LFil) (hs : Ft w [] a L) : Calls Try.prog 17 #[.agg #[.int .i64 next, .slice a L.length cap]] w fun en w' => en = .returned (.bool (fewT L)) ∧ Below w.heap.size w w' := by
  refine enter (args := [_]) Try.func17 Try.ntmps17 rfl rfl (HS.refl w []) ?_
  refine s_seq ?_
  refine s_region ?_
  refine o_h (h_box rfl rfl) rfl (fun b1 _ => ?_)
  refine o_p (p_pure rfl) rfl ?_
  refine o_nil ?_
  refine s_seq ?_
  refine s_seq ?_
  refine s_region ?_
  refine o_p (p_fieldAddr rfl rfl fd_26_1 sz_24 rfl) rfl ?_
  first | refine o_q (q_load rfl rfl sz_24 (by repeat (first | exact .here | apply Pick.there)) rfl) rfl ?_ | refine o_q (q_load_old rfl rfl sz_24 ((hs.1.rdj 3 hil rfl))) rfl ?_ | refine o_q (q_load_old rfl rfl sz_24 (((hs.at hil).1.rdj 4 hkl rfl))) rfl ?_
  first | refine o_p (p_len_slice rfl rfl Try.underlying24) rfl ?_ | refine o_q (q_len_own rfl rfl Try.underlying24 (by repeat (first | exact .here | apply Pick.there))) rfl ?_
  refine o_p (p_pure rfl) rfl ?_
  refine o_nil ?_
  refine s_cond rfl (fun h2 => ?_) (fun h2 => ?_)
  · try simp only [decide_eq_true_eq, decide_eq_false_iff_not, Bool.not_eq_true', Bool.not_eq_false', Bool.and_eq_true, Bool.or_eq_true, Bool.and_eq_false_iff, Bool.or_eq_false_iff, Bool.not_true, Bool.not_false] at h2
    refine s_seq ?_
    refine s_region ?_
    refine o_p (p_pure rfl) rfl ?_
    refine o_nil ?_
    exact s_retv (rs := [.tmp 2]) rfl (.tmp rfl (.nil)) (fun w' h' => ⟨by rw [fewT_l (by have hq := h2; omega)]; rfl, h'.below⟩)
  · try simp only [decide_eq_true_eq, decide_eq_false_iff_not, Bool.not_eq_true', Bool.not_eq_false', Bool.and_eq_true, Bool.or_eq_true, Bool.and_eq_false_iff, Bool.or_eq_false_iff, Bool.not_true, Bool.not_false] at h2
    have hl40 : L.length ≤ 40 := by have hq := h2; omega
    refine s_skip ?_
    refine s_seq ?_
    refine s_seq ?_
    refine s_region ?_
    refine o_p (p_pure rfl) rfl ?_
    refine o_nil ?_
    refine s_block ?_
    refine s_loopI (α := Nat) [2, 3, 4, 9, 10, 11, 12, 13, 14, 15, 16, 17, 18, 19, 20, 21, 22, 23, 24, 25, 26, 27, 28, 29, 30, 31, 32, 33, 34, 35, 36, 37, 38, 39, 40, 41, 42, 43, 44, 45, 46] (fun i => [(3, .int .i64 (i : Int))]) (fun _ => HS w [] [.blk b1 26 2 [.int .i64 next, .slice a L.length cap]]) (fun i => i ≤ L.length ∧ ∀ m, m < i → fewF (nth L m) = true) (fun i => L.length - i) 0 ⟨Nat.zero_le _, fun m h => absurd h (Nat.not_lt_zero m)⟩ (by repeat (first | exact sl_n | refine sl_c rfl ?_)) (fun w h => h.ent (by repeat (first | exact .nil | refine .cons (by repeat (first | exact .here | apply Pick.there)) ?_))) (fun i hy => ?_)
    obtain ⟨hi1, hi2⟩ := hy
    refine s_seq ?_
    refine s_seq ?_
    refine s_region ?_
    refine o_p (p_pure rfl) rfl ?_
    refine o_p (p_fieldAddr rfl rfl fd_26_1 sz_24 rfl) rfl ?_
    first | refine o_q (q_load rfl rfl sz_24 (by repeat (first | exact .here | apply Pick.there)) rfl) rfl ?_ | refine o_q (q_load_old rfl rfl sz_24 ((hs.1.rdj 3 hil rfl))) rfl ?_ | refine o_q (q_load_old rfl rfl sz_24 (((hs.at hil).1.rdj 4 hkl rfl))) rfl ?_
    first | refine o_p (p_len_slice rfl rfl Try.underlying24) rfl ?_ | refine o_q (q_len_own rfl rfl Try.underlying24 (by repeat (first | exact .here | apply Pick.there))) rfl ?_
    refine o_p (p_pure rfl) rfl ?_
    refine o_nil ?_
    refine s_cond rfl (fun h3 => ?_) (fun h3 => ?_)
    · try simp only [decide_eq_true_eq, decide_eq_false_iff_not, Bool.not_eq_true', Bool.not_eq_false', Bool.and_eq_true, Bool.or_eq_true, Bool.and_eq_false_iff, Bool.or_eq_false_iff, Bool.not_true, Bool.not_false] at h3
      have hil : i < L.length := by omega
      refine s_skip ?_
      refine s_seq ?_
      refine s_block ?_
      refine s_seq ?_
      refine s_seq ?_
      refine s_region ?_
      refine o_p (p_fieldAddr rfl rfl fd_26_1 sz_24 rfl) rfl ?_
      first | refine o_q (q_load rfl rfl sz_24 (by repeat (first | exact .here | apply Pick.there)) rfl) rfl ?_ | refine o_q (q_load_old rfl rfl sz_24 ((hs.1.rdj 3 hil rfl))) rfl ?_ | refine o_q (q_load_old rfl rfl sz_24 (((hs.at hil).1.rdj 4 hkl rfl))) rfl ?_
      refine o_p (p_pure rfl) rfl ?_
      first | refine o_p (p_indexAddr rfl rfl rfl sl_24 (i) (by omega) (by omega) rfl) rfl ?_ | refine o_p (p_indexAddr rfl rfl rfl sl_24 (i) (by omega) (by omega) (Rw.some hs.1 (by omega))) rfl ?_ | refine o_p (p_indexAddr rfl rfl rfl sl_24 (i) (by omega) (by omega) (Rw.some (hs.at hil).1 (by omega))) rfl ?_
      refine o_p (p_fieldAddr rfl rfl fd_77_2 sz_75 rfl) rfl ?_
      first | refine o_q (q_load rfl rfl sz_75 (by repeat (first | exact .here | apply Pick.there)) rfl) rfl ?_ | refine o_q (q_load_old rfl rfl sz_75 ((hs.1.rdj 3 hil rfl))) rfl ?_ | refine o_q (q_load_old rfl rfl sz_75 (((hs.at hil).1.rdj 4 hkl rfl))) rfl ?_
      first | refine o_p (p_len_slice rfl rfl Try.underlying75) rfl ?_ | refine o_q (q_len_own rfl rfl Try.underlying75 (by repeat (first | exact .here | apply Pick.there))) rfl ?_
      refine o_p (p_pure rfl) rfl ?_
      refine o_nil ?_
      refine s_cond rfl (fun h4 => ?_) (fun h4 => ?_)
      · try simp only [decide_eq_true_eq, decide_eq_false_iff_not, Bool.not_eq_true', Bool.not_eq_false', Bool.and_eq_true, Bool.or_eq_true, Bool.and_eq_false_iff, Bool.or_eq_false_iff, Bool.not_true, Bool.not_false] at h4
        refine s_seq ?_
        refine s_region ?_
        refine o_p (p_pure rfl) rfl ?_
        refine o_nil ?_
        exact s_retv (rs := [.tmp 2]) rfl (.tmp rfl (.nil)) (fun w' h' => ⟨by rw [fewT_f hil (fewF_l (by have hq := h4; omega))]; rfl, h'.below⟩)
      · try simp only [decide_eq_true_eq, decide_eq_false_iff_not, Bool.not_eq_true', Bool.not_eq_false', Bool.and_eq_true, Bool.or_eq_true, Bool.and_eq_false_iff, Bool.or_eq_false_iff, Bool.not_true, Bool.not_false] at h4
        have ho40 : (nth L i).op.length ≤ 40 := by have hq := h4; omega
        refine s_skip ?_
        refine s_seq ?_
        refine s_region ?_
        refine o_p (p_pure rfl) rfl ?_
        refine o_nil ?_
        refine s_block ?_
        refine s_weaken (L' := [(0, _), (1, _), (3, _), (4, _), (5, _), (6, _), (7, _), (8, _)]) (by repeat (first | exact sl_n | refine sl_c rfl ?_)) (fun _ h => h) ?_
        refine s_loopI (α := Nat) [2, 4, 24, 25, 26, 27, 28, 29, 30, 31, 32, 33, 34, 35, 36, 37, 38, 39, 40, 41, 42, 43, 44, 45, 46] (fun k => [(4, .int .i64 (k : Int))]) (fun _ => HS w [] [.blk b1 26 2 [.int .i64 next, .slice a L.length cap]]) (fun k => k ≤ (nth L i).op.length ∧ ∀ m, m < k → (nth (nth L i).op m).lk.length ≤ 20) (fun k => (nth L i).op.length - k) 0 ⟨Nat.zero_le _, fun m h => absurd h (Nat.not_lt_zero m)⟩ (by repeat (first | exact sl_n | refine sl_c rfl ?_)) (fun w h => h.ent (by repeat (first | exact .nil | refine .cons (by repeat (first | exact .here | apply Pick.there)) ?_))) (fun k hy => ?_)
        obtain ⟨hk1, hk2⟩ := hy
        refine s_seq ?_
        refine s_seq ?_
        refine s_region ?_
        refine o_p (p_pure rfl) rfl ?_
        refine o_p (p_fieldAddr rfl rfl fd_26_1 sz_24 rfl) rfl ?_
        first | refine o_q (q_load rfl rfl sz_24 (by repeat (first | exact .here | apply Pick.there)) rfl) rfl ?_ | refine o_q (q_load_old rfl rfl sz_24 ((hs.1.rdj 3 hil rfl))) rfl ?_ | refine o_q (q_load_old rfl rfl sz_24 (((hs.at hil).1.rdj 4 hkl rfl))) rfl ?_
        refine o_p (p_pure rfl) rfl ?_
        first | refine o_p (p_indexAddr rfl rfl rfl sl_24 (i) (by omega) (by omega) rfl) rfl ?_ | refine o_p (p_indexAddr rfl rfl rfl sl_24 (i) (by omega) (by omega) (Rw.some hs.1 (by omega))) rfl ?_ | refine o_p (p_indexAddr rfl rfl rfl sl_24 (i) (by omega) (by omega) (Rw.some (hs.at hil).1 (by omega))) rfl ?_
        refine o_p (p_fieldAddr rfl rfl fd_77_2 sz_75 rfl) rfl ?_
        first | refine o_q (q_load rfl rfl sz_75 (by repeat (first | exact .here | apply Pick.there)) rfl) rfl ?_ | refine o_q (q_load_old rfl rfl sz_75 ((hs.1.rdj 3 hil rfl))) rfl ?_ | refine o_q (q_load_old rfl rfl sz_75 (((hs.at hil).1.rdj 4 hkl rfl))) rfl ?_
        first | refine o_p (p_len_slice rfl rfl Try.underlying75) rfl ?_ | refine o_q (q_len_own rfl rfl Try.underlying75 (by repeat (first | exact .here | apply Pick.there))) rfl ?_
        refine o_p (p_pure rfl) rfl ?_
        refine o_nil ?_
        refine s_cond rfl (fun h5 => ?_) (fun h5 => ?_)
        · try simp only [decide_eq_true_eq, decide_eq_false_iff_not, Bool.not_eq_true', Bool.not_eq_false', Bool.and_eq_true, Bool.or_eq_true, Bool.and_eq_false_iff, Bool.or_eq_false_iff, Bool.not_true, Bool.not_false] at h5
          have hkl : k < (nth L i).op.length := by omega
          refine s_skip ?_
          refine s_seq ?_
          refine s_block ?_
          refine s_seq ?_
          refine s_region ?_
          refine o_p (p_fieldAddr rfl rfl fd_26_1 sz_24 rfl) rfl ?_
          first | refine o_q (q_load rfl rfl sz_24 (by repeat (first | exact .here | apply Pick.there)) rfl) rfl ?_ | refine o_q (q_load_old rfl rfl sz_24 ((hs.1.rdj 3 hil rfl))) rfl ?_ | refine o_q (q_load_old rfl rfl sz_24 (((hs.at hil).1.rdj 4 hkl rfl))) rfl ?_
          refine o_p (p_pure rfl) rfl ?_
          first | refine o_p (p_indexAddr rfl rfl rfl sl_24 (i) (by omega) (by omega) rfl) rfl ?_ | refine o_p (p_indexAddr rfl rfl rfl sl_24 (i) (by omega) (by omega) (Rw.some hs.1 (by omega))) rfl ?_ | refine o_p (p_indexAddr rfl rfl rfl sl_24 (i) (by omega) (by omega) (Rw.some (hs.at hil).1 (by omega))) rfl ?_
          refine o_p (p_fieldAddr rfl rfl fd_77_2 sz_75 rfl) rfl ?_
          first | refine o_q (q_load rfl rfl sz_75 (by repeat (first | exact .here | apply Pick.there)) rfl) rfl ?_ | refine o_q (q_load_old rfl rfl sz_75 ((hs.1.rdj 3 hil rfl))) rfl ?_ | refine o_q (q_load_old rfl rfl sz_75 (((hs.at hil).1.rdj 4 hkl rfl))) rfl ?_
          refine o_p (p_pure rfl) rfl ?_
          first | refine o_p (p_indexAddr rfl rfl rfl sl_75 (k) (by omega) (by omega) rfl) rfl ?_ | refine o_p (p_indexAddr rfl rfl rfl sl_75 (k) (by omega) (by omega) (Rw.some hs.1 (by omega))) rfl ?_ | refine o_p (p_indexAddr rfl rfl rfl sl_75 (k) (by omega) (by omega) (Rw.some (hs.at hil).1 (by omega))) rfl ?_
          refine o_p (p_fieldAddr rfl rfl fd_48_4 sz_46 rfl) rfl ?_
          first | refine o_q (q_load rfl rfl sz_46 (by repeat (first | exact .here | apply Pick.there)) rfl) rfl ?_ | refine o_q (q_load_old rfl rfl sz_46 ((hs.1.rdj 3 hil rfl))) rfl ?_ | refine o_q (q_load_old rfl rfl sz_46 (((hs.at hil).1.rdj 4 hkl rfl))) rfl ?_
          first | refine o_p (p_len_slice rfl rfl Try.underlying46) rfl ?_ | refine o_q (q_len_own rfl rfl Try.underlying46 (by repeat (first | exact .here | apply Pick.there))) rfl ?_
          refine o_p (p_pure rfl) rfl ?_
          refine o_nil ?_
          refine s_cond rfl (fun h6 => ?_) (fun h6 => ?_)
          · try simp only [decide_eq_true_eq, decide_eq_false_iff_not, Bool.not_eq_true', Bool.not_eq_false', Bool.and_eq_true, Bool.or_eq_true, Bool.and_eq_false_iff, Bool.or_eq_false_iff, Bool.not_true, Bool.not_false] at h6
            refine s_seq ?_
            refine s_region ?_
            refine o_p (p_pure rfl) rfl ?_
            refine o_nil ?_
            exact s_retv (rs := [.tmp 2]) rfl (.tmp rfl (.nil)) (fun w' h' => ⟨by rw [fewT_f hil (fewF_k hkl (by have hq := h6; omega))]; rfl, h'.below⟩)
          · try simp only [decide_eq_true_eq, decide_eq_false_iff_not, Bool.not_eq_true', Bool.not_eq_false', Bool.and_eq_true, Bool.or_eq_true, Bool.and_eq_false_iff, Bool.or_eq_false_iff, Bool.not_true, Bool.not_false] at h6
            refine s_skip ?_
            refine s_blk ?_
            refine s_region ?_
            refine o_p (p_pure rfl) rfl ?_
            refine o_p (p_pure rfl) rfl ?_
            try (refine o_slot (i64w (by omega) (by omega)) ?_)
            refine o_p (p_pure rfl) rfl ?_
            refine o_nil ?_
            exact s_backI (k + 1) (by omega) ⟨by omega, fun m hm => (Nat.lt_or_ge m k).elim (hk2 m) (fun h9 => by have e9 : m = k := (by omega); rw [e9]; have hq := h6; omega)⟩ (by repeat (first | exact sl_n | refine sl_c rfl ?_)) (fun w h => h.ent (by repeat (first | exact .nil | refine .cons (by repeat (first | exact .here | apply Pick.there)) ?_)))
        · try simp only [decide_eq_true_eq, decide_eq_false_iff_not, Bool.not_eq_true', Bool.not_eq_false', Bool.and_eq_true, Bool.or_eq_true, Bool.and_eq_false_iff, Bool.or_eq_false_iff, Bool.not_true, Bool.not_false] at h5
          refine s_exit_to rfl ?_
          refine s_blk ?_
          refine s_region ?_
          refine o_p (p_pure rfl) rfl ?_
          refine o_p (p_pure rfl) rfl ?_
          try (refine o_slot (i64w (by omega) (by omega)) ?_)
          refine o_p (p_pure rfl) rfl ?_
          refine o_nil ?_
          exact s_backI (i + 1) (by omega) ⟨by omega, fun m hm => (Nat.lt_or_ge m i).elim (hi2 m) (fun h9 => by have e9 : m = i := (by omega); rw [e9]; exact fewF_1 ho40 (fun q hq => hk2 q (by omega)))⟩ (by repeat (first | exact sl_n | refine sl_c rfl ?_)) (fun w h => h.ent (by repeat (first | exact .nil | refine .cons (by repeat (first | exact .here | apply Pick.there)) ?_)))
    · try simp only [decide_eq_true_eq, decide_eq_false_iff_not, Bool.not_eq_true', Bool.not_eq_false', Bool.and_eq_true, Bool.or_eq_true, Bool.and_eq_false_iff, Bool.or_eq_false_iff, Bool.not_true, Bool.not_false] at h3
      refine s_exit_to rfl ?_
      refine s_seq ?_
      refine s_region ?_
      refine o_p (p_pure rfl) rfl ?_
      refine o_nil ?_
      exact s_retv (rs := [.tmp 2]) rfl (.tmp rfl (.nil)) (fun w' h' => ⟨by rw [fewT_1 hl40 (fun m hm => hi2 m (by omega))]; rfl, h'.below⟩)

end Go.Proofs

namespace Go.Proofs
open Go Go.RowKit Gx
set_option linter.unusedVariables false
set_option linter.unusedSimpArgs false
attribute [local irreducible] Go.Calls Gx.S Gx.O Gx.D Gx.OpP Gx.OpQ Gx.OpH

theorem fn_11 : isFn Try.prog 11 = true := by kernel_rfl
theorem fn_17 : isFn Try.prog 17 = true := by kernel_rfl
theorem ar_49 : tar Try.prog 49 = some (2, 48, 5) := by kernel_rfl
theorem fn_18 : isFn Try.prog 18 = true := by kernel_rfl
theorem fn_21 : isFn Try.prog 21 = true := by kernel_rfl


theorem cflT_max {x y : LOpn} (h : ¬ (if openE x.ac x.sh < openE y.ac y.sh then openE y.ac y.sh else openE x.ac x.sh) = 0) : cflT x.pl y.pl = (false, if openE x.ac x.sh < openE y.ac y.sh then openE y.ac y.sh else openE x.ac x.sh) := by
  unfold cflT
  simp only [LOpn.pl]
  rcases openE_02 x.ac x.sh with h1 | h1 <;> rcases openE_02 y.ac y.sh with h2 | h2 <;> simp [h1, h2] at h ⊢
theorem cflT_maz {x y : LOpn} (h : (if openE x.ac x.sh < openE y.ac y.sh then openE y.ac y.sh else openE x.ac x.sh) = 0) : openE x.ac x.sh = 0 ∧ openE y.ac y.sh = 0 := by
  rcases openE_02 x.ac x.sh with h1 | h1 <;> rcases openE_02 y.ac y.sh with h2 | h2 <;> simp [h1, h2] at h ⊢

set_option maxRecDepth 20000 in
set_option maxHeartbeats 1000000 in
theorem c5 (w : World) (next : Int) (a : Option Addr) (cap : Nat) (L : List LFil) (x y : LOpn) (hs : Ft w [] a L) : Calls Try.prog 5 #[.agg #[.int .i64 next, .slice a L.length cap], .agg #[.int .i64 x.hd, .int .i64 x.ac, .int .i64 x.sh, .bool x.dl, .slice x.la x.lk.length x.lc, .int .i64 y.hd, .int .i64 y.ac, .int .i64 y.sh, .bool y.dl, .slice y.la y.lk.length y.lc]] w fun en w' => en = .returned (.bool true) ∧ Below w.heap.size w w' := by
  refine enter (args := [_, _]) Try.func5 Try.ntmps5 rfl rfl (HS.refl w []) ?_
  refine s_seq ?_
  refine s_region ?_
  refine o_h (h_box rfl rfl) rfl (fun b1 _ => ?_)
  refine o_h (h_box rfl rfl) rfl (fun b2 _ => ?_)
  refine o_p (p_pure rfl) rfl ?_
  refine o_nil ?_
  refine s_seq ?_
  refine s_seq ?_
  refine s_region ?_
  refine o_q (q_call rfl fn_11 rfl (fun w1 h1 => c11 w1)) rfl ?_
  refine o_p (p_pure rfl) rfl ?_
  refine o_nil ?_
  refine s_cond rfl (fun h3 => ?_) (fun h3 => ?_)
  · try simp only [decide_eq_true_eq, decide_eq_false_iff_not, Bool.not_eq_true', Bool.not_eq_false', Bool.and_eq_true, Bool.or_eq_true, Bool.and_eq_false_iff, Bool.or_eq_false_iff, Bool.not_true, Bool.not_false] at h3
    exfalso; first | omega | (simp at h3; done) | (simp_all; done)
  · try simp only [decide_eq_true_eq, decide_eq_false_iff_not, Bool.not_eq_true', Bool.not_eq_false', Bool.and_eq_true, Bool.or_eq_true, Bool.and_eq_false_iff, Bool.or_eq_false_iff, Bool.not_true, Bool.not_false] at h3
    refine s_skip ?_
    refine s_seq ?_
    refine s_seq ?_
    refine s_region ?_
    refine o_q (q_loadn rfl rfl sz_26 aPk rfl) rfl ?_
    refine o_q (q_call rfl fn_17 rfl (fun w1 h1 => c17 w1 next a cap L (hs.later h1))) rfl ?_
    refine o_p (p_pure rfl) rfl ?_
    refine o_p (p_pure rfl) rfl ?_
    refine o_or 6 17 23 _ _ rfl
      (by
        intro hg4
        have hs5 := hg4; try simp only [decide_eq_true_eq, decide_eq_false_iff_not, Bool.not_eq_true', Bool.not_eq_false', Bool.and_eq_true, Bool.or_eq_true, Bool.and_eq_false_iff, Bool.or_eq_false_iff, Bool.not_true, Bool.not_false] at hs5
        refine o_on 17 _ rfl rfl hg4 ?_
        refine o_p (p_indexAddr_arr rfl rfl rfl ar_49 (Int.toNat _) (Int.toNat_of_nonneg (by omega)).symm (by omega)) rfl ?_
        refine o_on 17 _ rfl rfl hg4 ?_
        refine o_p (p_fieldAddr rfl rfl fd_48_4 sz_46 rfl) rfl ?_
        refine o_on 17 _ rfl rfl hg4 ?_
        refine o_q (q_load rfl rfl sz_46 aPk rfl) rfl ?_
        refine o_on 17 _ rfl rfl hg4 ?_
        refine o_p (p_len_slice rfl rfl Try.underlying46) rfl ?_
        refine o_on 17 _ rfl rfl hg4 ?_
        refine o_p (p_pure rfl) rfl ?_
        refine o_p (p_pickf rfl rfl hg4 rfl) rfl ?_
        refine o_nil ?_
        exact s_joinN 6 23 _ rfl rfl rfl (fun w h => by first | exact h | exact h.ent aEt))
      (by
        intro hg6
        have hs7 := hg6; try simp only [decide_eq_true_eq, decide_eq_false_iff_not, Bool.not_eq_true', Bool.not_eq_false', Bool.and_eq_true, Bool.or_eq_true, Bool.and_eq_false_iff, Bool.or_eq_false_iff, Bool.not_true, Bool.not_false] at hs7
        refine o_off 17 _ rfl rfl hg6 rfl ?_
        refine o_off 17 _ rfl rfl hg6 rfl ?_
        refine o_off 17 _ rfl rfl hg6 rfl ?_
        refine o_off 17 _ rfl rfl hg6 rfl ?_
        refine o_off 17 _ rfl rfl hg6 rfl ?_
        refine o_p (p_pickt rfl rfl hg6 rfl) rfl ?_
        refine o_nil ?_
        exact s_joinN 6 23 _ rfl rfl rfl (fun w h => by first | exact h | exact h.ent aEt)) ?_
    refine o_p (p_pure rfl) rfl ?_
    refine o_or 6 24 30 _ _ rfl
      (by
        intro hg8
        have hs9 := hg8; try simp only [decide_eq_true_eq, decide_eq_false_iff_not, Bool.not_eq_true', Bool.not_eq_false', Bool.and_eq_true, Bool.or_eq_true, Bool.and_eq_false_iff, Bool.or_eq_false_iff, Bool.not_true, Bool.not_false] at hs9
        refine o_on 24 _ rfl rfl hg8 ?_
        refine o_p (p_indexAddr_arr rfl rfl rfl ar_49 (Int.toNat _) (Int.toNat_of_nonneg (by omega)).symm (by omega)) rfl ?_
        refine o_on 24 _ rfl rfl hg8 ?_
        refine o_p (p_fieldAddr rfl rfl fd_48_4 sz_46 rfl) rfl ?_
        refine o_on 24 _ rfl rfl hg8 ?_
        refine o_q (q_load rfl rfl sz_46 aPk rfl) rfl ?_
        refine o_on 24 _ rfl rfl hg8 ?_
        refine o_p (p_len_slice rfl rfl Try.underlying46) rfl ?_
        refine o_on 24 _ rfl rfl hg8 ?_
        refine o_p (p_pure rfl) rfl ?_
        refine o_p (p_pickf rfl rfl hg8 rfl) rfl ?_
        refine o_nil ?_
        exact s_joinN 6 30 _ rfl rfl rfl (fun w h => by first | exact h | exact h.ent aEt))
      (by
        intro hg10
        have hs11 := hg10; try simp only [decide_eq_true_eq, decide_eq_false_iff_not, Bool.not_eq_true', Bool.not_eq_false', Bool.and_eq_true, Bool.or_eq_true, Bool.and_eq_false_iff, Bool.or_eq_false_iff, Bool.not_true, Bool.not_false] at hs11
        refine o_off 24 _ rfl rfl hg10 rfl ?_
        refine o_off 24 _ rfl rfl hg10 rfl ?_
        refine o_off 24 _ rfl rfl hg10 rfl ?_
        refine o_off 24 _ rfl rfl hg10 rfl ?_
        refine o_off 24 _ rfl rfl hg10 rfl ?_
        refine o_p (p_pickt rfl rfl hg10 rfl) rfl ?_
        refine o_nil ?_
        exact s_joinN 6 30 _ rfl rfl rfl (fun w h => by first | exact h | exact h.ent aEt)) ?_
    refine o_nil ?_
    refine s_cond rfl (fun h12 => ?_) (fun h12 => ?_)
    · try simp only [decide_eq_true_eq, decide_eq_false_iff_not, Bool.not_eq_true', Bool.not_eq_false', Bool.and_eq_true, Bool.or_eq_true, Bool.and_eq_false_iff, Bool.or_eq_false_iff, Bool.not_true, Bool.not_false] at h12
      refine s_seq ?_
      refine s_region ?_
      refine o_p (p_pure rfl) rfl ?_
      refine o_nil ?_
      exact s_retv (rs := [.tmp 4]) rfl (.tmp rfl (.nil)) (fun w' h' => ⟨by rfl, h'.below⟩)
    · try simp only [decide_eq_true_eq, decide_eq_false_iff_not, Bool.not_eq_true', Bool.not_eq_false', Bool.and_eq_true, Bool.or_eq_true, Bool.and_eq_false_iff, Bool.or_eq_false_iff, Bool.not_true, Bool.not_false] at h12
      have hfw : fewT L = true := by have hq := h12; simp at hq; grind
      have hb := fewT_b hfw
      refine s_skip ?_
      refine s_seq ?_
      refine s_region ?_
      refine o_q (q_loadn rfl rfl sz_26 aPk rfl) rfl ?_
      refine o_h (h_call rfl fn_19 rfl (fun w1 h1 => c19 w1 next a cap L (hs.later h1) hb.1 hb.2.1 hb.2.2)) rfl (fun ⟨⟨ca, cc⟩, N⟩ hgc => ?_)
      refine o_q (q_call rfl fn_18 rfl (fun w1 h1 => by have nb := same_b hgc hb; have h9 := c18 w1 next ca cc N (HS.ft (a := ca) (cap := cc) (l := N) h1 aPk) nb.1 nb.2.1; rw [show pls N = pls L from hgc] at h9; exact h9)) rfl ?_
      refine o_p (p_pure rfl) rfl ?_
      refine o_p (p_pure rfl) rfl ?_
      refine o_p (p_pure rfl) rfl ?_
      refine o_p (p_pure rfl) rfl ?_
      refine o_p (p_pure rfl) rfl ?_
      refine o_nil ?_
      refine s_seq ?_
      refine s_region ?_
      refine o_q (q_loadn rfl rfl sz_26 aPk rfl) rfl ?_
      refine o_q (q_call rfl fn_20 rfl (fun w1 h1 => c20 w1 next a cap L (hs.later h1) hb.1 hb.2.1)) rfl ?_
      refine o_p (p_pure rfl) rfl ?_
      refine o_p (p_pure rfl) rfl ?_
      refine o_p (p_pure rfl) rfl ?_
      refine o_p (p_pure rfl) rfl ?_
      refine o_p (p_pure rfl) rfl ?_
      refine o_nil ?_
      refine s_seq ?_
      refine s_seq ?_
      refine s_region ?_
      refine o_p (p_pure rfl) rfl ?_
      refine o_p (p_pure rfl) rfl ?_
      refine o_p (p_pure rfl) rfl ?_
      refine o_p (p_pure rfl) rfl ?_
      refine o_or 4 45 49 _ _ rfl
        (by
          intro hg13
          have hs14 := hg13; try simp only [decide_eq_true_eq, decide_eq_false_iff_not, Bool.not_eq_true', Bool.not_eq_false', Bool.and_eq_true, Bool.or_eq_true, Bool.and_eq_false_iff, Bool.or_eq_false_iff, Bool.not_true, Bool.not_false] at hs14
          refine o_on 45 _ rfl rfl hg13 ?_
          refine o_p (p_pure rfl) rfl ?_
          refine o_on 45 _ rfl rfl hg13 ?_
          refine o_p (p_pure rfl) rfl ?_
          refine o_on 45 _ rfl rfl hg13 ?_
          refine o_p (p_pure rfl) rfl ?_
          refine o_p (p_pickf rfl rfl hg13 rfl) rfl ?_
          refine o_nil ?_
          exact s_joinN 4 49 _ rfl rfl rfl (fun w h => by first | exact h | exact h.ent aEt))
        (by
          intro hg15
          have hs16 := hg15; try simp only [decide_eq_true_eq, decide_eq_false_iff_not, Bool.not_eq_true', Bool.not_eq_false', Bool.and_eq_true, Bool.or_eq_true, Bool.and_eq_false_iff, Bool.or_eq_false_iff, Bool.not_true, Bool.not_false] at hs16
          refine o_off 45 _ rfl rfl hg15 rfl ?_
          refine o_off 45 _ rfl rfl hg15 rfl ?_
          refine o_off 45 _ rfl rfl hg15 rfl ?_
          refine o_p (p_pickt rfl rfl hg15 rfl) rfl ?_
          refine o_nil ?_
          exact s_joinN 4 49 _ rfl rfl rfl (fun w h => by first | exact h | exact h.ent aEt)) ?_
      refine o_nil ?_
      refine s_cond rfl (fun h17 => ?_) (fun h17 => ?_)
      · try simp only [decide_eq_true_eq, decide_eq_false_iff_not, Bool.not_eq_true', Bool.not_eq_false', Bool.and_eq_true, Bool.or_eq_true, Bool.and_eq_false_iff, Bool.or_eq_false_iff, Bool.not_true, Bool.not_false] at h17
        exfalso; first | omega | (simp at h17; done) | (simp_all; done)
      · try simp only [decide_eq_true_eq, decide_eq_false_iff_not, Bool.not_eq_true', Bool.not_eq_false', Bool.and_eq_true, Bool.or_eq_true, Bool.and_eq_false_iff, Bool.or_eq_false_iff, Bool.not_true, Bool.not_false] at h17
        refine s_skip ?_
        refine s_seq ?_
        refine s_weaken (L' := [(3, _), (4, _)]) aSx (fun _ h => h) ?_
        refine s_region ?_
        refine o_p (p_indexAddr_arr rfl rfl rfl ar_49 (Int.toNat _) (Int.toNat_of_nonneg (by omega)).symm (by omega)) rfl ?_
        refine o_q (q_loadn rfl rfl sz_48 aPk rfl) rfl ?_
        refine o_p (p_indexAddr_arr rfl rfl rfl ar_49 (Int.toNat _) (Int.toNat_of_nonneg (by omega)).symm (by omega)) rfl ?_
        refine o_q (q_loadn rfl rfl sz_48 aPk rfl) rfl ?_
        refine o_q (q_call rfl fn_21 rfl (fun w1 h1 => c21 w1 x y)) rfl ?_
        refine o_p (p_pure rfl) rfl ?_
        refine o_p (p_pure rfl) rfl ?_
        refine o_p (p_pure rfl) rfl ?_
        refine o_p (p_pure rfl) rfl ?_
        refine o_p (p_pure rfl) rfl ?_
        refine o_nil ?_
        refine s_seq ?_
        refine s_draw [] mixed ?_
        refine d_p 0 rfl (p_indexAddr_arr rfl rfl rfl ar_49 (Int.toNat _) (Int.toNat_of_nonneg (by omega)).symm (by omega)) (by kernel_rfl) rfl rfl ?_
        refine d_q 1 [] rfl (q_loadn rfl rfl sz_48 aPk rfl) (by kernel_rfl) (by kernel_rfl) (by kernel_rfl) rfl ?_
        refine d_q 2 [] rfl (q_call rfl fn_22 rfl (fun w1 h1 => c22 w1 x)) (by kernel_rfl) (by kernel_rfl) (by kernel_rfl) rfl ?_
        refine d_p 3 rfl (p_indexAddr_arr rfl rfl rfl ar_49 (Int.toNat _) (Int.toNat_of_nonneg (by omega)).symm (by omega)) (by kernel_rfl) rfl rfl ?_
        refine d_q 4 [] rfl (q_loadn rfl rfl sz_48 aPk rfl) (by kernel_rfl) (by kernel_rfl) (by kernel_rfl) rfl ?_
        refine d_q 5 [] rfl (q_call rfl fn_22 rfl (fun w1 h1 => c22 w1 y)) (by kernel_rfl) (by kernel_rfl) (by kernel_rfl) rfl ?_
        refine d_p 6 rfl (p_max2 rfl rfl rfl ) (by kernel_rfl) rfl rfl ?_
        refine d_p 7 rfl (p_pure rfl) (by kernel_rfl) rfl rfl ?_
        refine d_nil (by kernel_rfl) (fun w h => h.ent aEt) ?_
        refine s_seq ?_
        refine s_seq ?_
        refine s_region ?_
        refine o_p (p_pure rfl) rfl ?_
        refine o_p (p_pure rfl) rfl ?_
        refine o_nil ?_
        refine s_cond rfl (fun h18 => ?_) (fun h18 => ?_)
        · try simp only [decide_eq_true_eq, decide_eq_false_iff_not, Bool.not_eq_true', Bool.not_eq_false', Bool.and_eq_true, Bool.or_eq_true, Bool.and_eq_false_iff, Bool.or_eq_false_iff, Bool.not_true, Bool.not_false] at h18
          have hmx := h18
          have hcf := cflT_max hmx
          refine s_seq ?_
          refine s_region ?_
          refine o_p (p_pure rfl) rfl ?_
          refine o_p (p_pure rfl) rfl ?_
          refine o_p (p_pure rfl) rfl ?_
          refine o_p (p_pure rfl) rfl ?_
          refine o_and 3 70 73 _ _ rfl
            (by
              intro hg19
              have hs20 := hg19; try simp only [decide_eq_true_eq, decide_eq_false_iff_not, Bool.not_eq_true', Bool.not_eq_false', Bool.and_eq_true, Bool.or_eq_true, Bool.and_eq_false_iff, Bool.or_eq_false_iff, Bool.not_true, Bool.not_false] at hs20
              refine o_on 70 _ rfl rfl hg19 ?_
              refine o_p (p_pure rfl) rfl ?_
              refine o_on 70 _ rfl rfl hg19 ?_
              refine o_p (p_pure rfl) rfl ?_
              refine o_p (p_pickt rfl rfl hg19 rfl) rfl ?_
              refine o_nil ?_
              exact s_joinN 3 73 _ rfl rfl rfl (fun w h => by first | exact h | exact h.ent aEt))
            (by
              intro hg21
              have hs22 := hg21; try simp only [decide_eq_true_eq, decide_eq_false_iff_not, Bool.not_eq_true', Bool.not_eq_false', Bool.and_eq_true, Bool.or_eq_true, Bool.and_eq_false_iff, Bool.or_eq_false_iff, Bool.not_true, Bool.not_false] at hs22
              refine o_off 70 _ rfl rfl hg21 rfl ?_
              refine o_off 70 _ rfl rfl hg21 rfl ?_
              refine o_p (p_pickf rfl rfl hg21 rfl) rfl ?_
              refine o_nil ?_
              exact s_joinN 3 73 _ rfl rfl rfl (fun w h => by first | exact h | exact h.ent aEt)) ?_
          refine o_p (p_pure rfl) rfl ?_
          refine o_nil ?_
          exact s_retv (rs := [.tmp 4]) rfl (.tmp rfl (.nil)) (fun w' h' => ⟨by (try simp only [retV]); simp [hcf], h'.below⟩)
        · try simp only [decide_eq_true_eq, decide_eq_false_iff_not, Bool.not_eq_true', Bool.not_eq_false', Bool.and_eq_true, Bool.or_eq_true, Bool.and_eq_false_iff, Bool.or_eq_false_iff, Bool.not_true, Bool.not_false] at h18
          have hmx := h18
          have hz := cflT_maz hmx
          have hcf := cflT_0 (a := x.pl) (b := y.pl) hz
          refine s_skip ?_
          refine s_seq ?_
          refine s_region ?_
          refine o_p (p_pure rfl) rfl ?_
          refine o_p (p_pure rfl) rfl ?_
          refine o_p (p_pure rfl) rfl ?_
          refine o_and 8 76 84 _ _ rfl
            (by
              intro hg23
              have hs24 := hg23; try simp only [decide_eq_true_eq, decide_eq_false_iff_not, Bool.not_eq_true', Bool.not_eq_false', Bool.and_eq_true, Bool.or_eq_true, Bool.and_eq_false_iff, Bool.or_eq_false_iff, Bool.not_true, Bool.not_false] at hs24
              refine o_on 76 _ rfl rfl hg23 ?_
              refine o_p (p_pure rfl) rfl ?_
              refine o_on 76 _ rfl rfl hg23 ?_
              refine o_p (p_indexAddr_arr rfl rfl rfl ar_49 (Int.toNat _) (Int.toNat_of_nonneg (by omega)).symm (by omega)) rfl ?_
              refine o_on 76 _ rfl rfl hg23 ?_
              refine o_q (q_loadn rfl rfl sz_48 aPk rfl) rfl ?_
              refine o_on 76 _ rfl rfl hg23 ?_
              refine o_p (p_indexAddr_arr rfl rfl rfl ar_49 (Int.toNat _) (Int.toNat_of_nonneg (by omega)).symm (by omega)) rfl ?_
              refine o_on 76 _ rfl rfl hg23 ?_
              refine o_q (q_loadn rfl rfl sz_48 aPk rfl) rfl ?_
              refine o_on 76 _ rfl rfl hg23 ?_
              refine o_q (q_call rfl fn_23 rfl (fun w1 h1 => c23 w1 x y hz.1 hz.2)) rfl ?_
              refine o_on 76 _ rfl rfl hg23 ?_
              refine o_p (p_eql_bool rfl rfl rfl Try.underlying4) rfl ?_
              refine o_p (p_pickt rfl rfl hg23 rfl) rfl ?_
              refine o_nil ?_
              exact s_joinN 8 84 _ rfl rfl rfl (fun w h => by first | exact h | exact h.ent aEt))
            (by
              intro hg25
              have hs26 := hg25; try simp only [decide_eq_true_eq, decide_eq_false_iff_not, Bool.not_eq_true', Bool.not_eq_false', Bool.and_eq_true, Bool.or_eq_true, Bool.and_eq_false_iff, Bool.or_eq_false_iff, Bool.not_true, Bool.not_false] at hs26
              refine o_off 76 _ rfl rfl hg25 rfl ?_
              refine o_off 76 _ rfl rfl hg25 rfl ?_
              refine o_off 76 _ rfl rfl hg25 rfl ?_
              refine o_off 76 _ rfl rfl hg25 rfl ?_
              refine o_off 76 _ rfl rfl hg25 rfl ?_
              refine o_off 76 _ rfl rfl hg25 rfl ?_
              refine o_off 76 _ rfl rfl hg25 rfl ?_
              refine o_p (p_pickf rfl rfl hg25 rfl) rfl ?_
              refine o_nil ?_
              exact s_joinN 8 84 _ rfl rfl rfl (fun w h => by first | exact h | exact h.ent aEt)) ?_
          refine o_p (p_pure rfl) rfl ?_
          refine o_nil ?_
          exact s_retv (rs := [.tmp 4]) rfl (.tmp rfl (.nil)) (fun w' h' => ⟨by (try simp only [retV]); simp [hcf], h'.below⟩)

end Go.Proofs

namespace Go.Proofs
open Go Go.RowKit Gx
set_option linter.unusedVariables false
set_option linter.unusedSimpArgs false
attribute [local irreducible] Go.Calls Gx.S Gx.O Gx.D Gx.OpP Gx.OpQ Gx.OpH

theorem fn_111 : isFn Try.prog 111 = true := by kernel_rfl
theorem fn_112 : isFn Try.prog 112 = true := by kernel_rfl
theorem fn_113 : isFn Try.prog 113 = true := by kernel_rfl


/-- The first i elements of one list, then the others of another one. -/
def mix {α : Type} (M l : List α) (i : Nat) : List α := M ++ l.drop i
theorem mix_end {α : Type} {M l : List α} {i : Nat} (h : l.length ≤ i) : mix M l i = M := by rw [mix, List.drop_of_length_le h, List.append_nil]
theorem mix_len {α : Type} {M l : List α} {i : Nat} (hM : M.length = i) (hi : i ≤ l.length) : (mix M l i).length = l.length := by
  rw [mix, List.length_append, List.length_drop]
  omega
theorem mix_nth {α : Type} [Inhabited α] {M l : List α} {i : Nat} (hM : M.length = i) (hi : i < l.length) : (mix M l i)[i]? = some (nth l i) := by
  rw [mix, List.getElem?_append_right (by omega), List.getElem?_drop, hM, show i + (i - i) = i by omega, nth_get hi]
theorem mix_get {α : Type} {M l : List α} {x : α} {i : Nat} (hM : M.length = i) : (mix (M ++ [x]) l (i + 1))[i]? = some x := by
  rw [mix, List.append_assoc, List.getElem?_append_right (by omega), hM, Nat.sub_self]
  rfl
theorem mix_set {α : Type} {M l : List α} {x : α} {i : Nat} (hM : M.length = i) (hi : i < l.length) : (mix M l i).set i x = mix (M ++ [x]) l (i + 1) := by
  unfold mix
  rw [List.set_append_right _ _ (by omega), hM, Nat.sub_self, List.drop_eq_getElem_cons hi, List.set_cons_zero, List.append_assoc]
  rfl
theorem mix_store {α : Type} [Inhabited α] {vals : α → List Value} {sz : Nat} (hv : ∀ x, (vals x).length = sz) {M l : List α} {x : α} {i o : Nat} {vs : List Value} (hM : M.length = i) (hi : i < l.length) (he : vals x = setMany (vals (nth l i)) o vs) (ho : o + vs.length ≤ sz) : setMany ((mix M l i).flatMap vals) (i * sz + o) vs = (mix (M ++ [x]) l (i + 1)).flatMap vals := by
  rw [flat_set hv _ i o vs _ _ (mix_nth hM hi) he ho, mix_set hM hi]
theorem mix_same {α : Type} {vals : α → List Value} {M l : List α} {x y : α} {i : Nat} (h : vals x = vals y) : (mix (M ++ [x]) l i).flatMap vals = (mix (M ++ [y]) l i).flatMap vals := by
  unfold mix
  simp only [List.flatMap_append, List.flatMap_cons, List.flatMap_nil, h]
theorem mix_rd {α : Type} [Inhabited α] {vals : α → List Value} {sz : Nat} (hv : ∀ x, (vals x).length = sz) {M l : List α} {i b t tot : Nat} {w0 w : World} {N : List Nat} {As As' : List HA} (hM : M.length = i) (hi : i < l.length) (h : HS w0 N As w) (hp : Pick As (.blk b t tot ((mix M l i).flatMap vals)) As') : ∀ j v, (vals (nth l i))[j]? = some v → Rd w [] b (i * sz + j) v := fun j v hj => by
  have hlt : j < sz := by
    rcases Nat.lt_or_ge j (vals (nth l i)).length with h | h
    · rwa [hv] at h
    · rw [List.getElem?_eq_none h] at hj; cases hj
  exact h.rd_blk (Mc := []) hp (by rw [flat_get hv _ i j _ (mix_nth hM hi) hlt]; exact hj) (by simp)
section
variable {w0 w : World} {N : List Nat} {As As' : List HA} {a : Option Addr} {cap : Nat}
theorem own_to_blk {g t sz n : Nat} {xs : List Value} (hn : 0 < n) (h : HS w0 N As w) (hp : Pick As (.own (.slice (some ⟨g, 0, none⟩) n cap) t sz n xs) As') : HS w0 N (.blk g t (cap * sz) xs :: As') w := by
  obtain ⟨g', e, _, _, _, _, h2⟩ := h.own_blk hn hp
  injection e with e
  injection e with e
  subst e
  exact h2
theorem row_fill {α : Type} [Inhabited α] {sub : α → HA} {K : List α} {x : α} {g t sz n : Nat} {cs xs : List Value} (h : HS w0 N (.blk g t (cap * sz) cs :: sub x :: .star (K.map sub) :: As) w) (hc : cs = xs) (hl : xs.length = n * sz) (hn : n ≤ cap) (hm : cap ≤ maxLen) : HS w0 N (.own (.slice (some ⟨g, 0, none⟩) n cap) t sz n xs :: .star ((K ++ [x]).map sub) :: As) w := by
  subst hc
  have h1 : HS w0 N (sub x :: .star (K.map sub) :: .blk g t (cap * sz) cs :: As) w := h.perm ((List.Perm.swap ..).trans (List.Perm.cons _ (List.Perm.swap ..)))
  have h2 := h1.sub_app
  exact (h2.perm (List.Perm.swap ..)).own_shut hl hn hm
theorem opens_shut {l : List LOpn} {n : Nat} {xs : List Value} (h : HS w0 N (.own (.slice a n cap) 48 5 n xs :: .star (l.map subO) :: As) w) (hn : n = l.length) (hx : xs = l.flatMap LOpn.vals) : HS w0 N (.opens a cap l :: As) w := HS.row_shut h hn hx
end

set_option maxRecDepth 20000 in
set_option maxHeartbeats 1000000 in
theorem c80 (w : World) (next : Int) (a : Option Addr) (cap : Nat) (L : List LFil) (hs : Ft w [] a L) (hm : L.length ≤ 1000) (hmo : ∀ f ∈ L, f.op.length ≤ 1000) (hz : (chkT next (pls L)).2 = 0) : Calls Try.prog 80 #[.agg #[.int .i64 next, .slice a L.length cap]] w fun en w' => ∃ g : Nat × (Option Addr × Nat) × List LFil, en = .returned (.tuple #[.pointer (some ⟨g.1, 0, none⟩), .int .i64 0]) ∧ pls g.2.2 = pls L ∧ HS w [] [.blk g.1 106 2 [.int .i64 next, .slice g.2.1.1 g.2.2.length g.2.1.2], .files g.2.1.1 g.2.1.2 g.2.2] w' := by
  have hok := chk_ok hz
  have hV := hok.vw
  refine enter (args := [_]) Try.func80 Try.ntmps80 rfl rfl (HS.refl w []) ?_
  refine s_seq ?_
  refine s_region ?_
  refine o_h (h_box rfl rfl) rfl (fun b1 _ => ?_)
  refine o_p (p_pure rfl) rfl ?_
  refine o_p (p_pure rfl) rfl ?_
  refine o_nil ?_
  refine s_seq ?_
  refine s_seq ?_
  refine s_region ?_
  first | refine o_q (q_loadn rfl rfl sz_26 (by repeat (first | exact .here | apply Pick.there)) rfl) rfl ?_ | refine o_q (q_load_atn _ rfl rfl sz_26 fun w h => (h.rd_blk (Mc := []) (b := ga) (by repeat (first | exact .here | apply Pick.there)) (by rw [flat_get fv4 _ i 3 _ (mix_get hMl) (by decide)]; rfl) (by simp))) rfl ?_ | refine o_q (q_load_oldn _ rfl rfl sz_26 rfl (Rw.rd (hs.at hil).1 hkl)) rfl ?_
  refine o_q (q_call rfl fn_18 rfl (fun w1 h1 => c18 w1 next a cap L (hs.later h1) hm hmo)) rfl ?_
  refine o_p (p_pure rfl) rfl ?_
  refine o_p (p_pure rfl) rfl ?_
  refine o_p (p_pure rfl) rfl ?_
  refine o_p (p_pure rfl) rfl ?_
  refine o_p (p_pure rfl) rfl ?_
  refine o_nil ?_
  refine s_seq ?_
  refine s_region ?_
  refine o_p (p_pure rfl) rfl ?_
  refine o_p (p_pure rfl) rfl ?_
  refine o_nil ?_
  refine s_cond rfl (fun h2 => ?_) (fun h2 => ?_)
  · try simp only [decide_eq_true_eq, decide_eq_false_iff_not, Bool.not_eq_true', Bool.not_eq_false', Bool.and_eq_true, Bool.or_eq_true, Bool.and_eq_false_iff, Bool.or_eq_false_iff, Bool.not_true, Bool.not_false] at h2
    exfalso; exact absurd hz h2
  · try simp only [decide_eq_true_eq, decide_eq_false_iff_not, Bool.not_eq_true', Bool.not_eq_false', Bool.and_eq_true, Bool.or_eq_true, Bool.and_eq_false_iff, Bool.or_eq_false_iff, Bool.not_true, Bool.not_false] at h2
    refine s_skip ?_
    refine s_seq ?_
    refine s_region ?_
    first | refine o_q (q_loadn rfl rfl sz_26 (by repeat (first | exact .here | apply Pick.there)) rfl) rfl ?_ | refine o_q (q_load_atn _ rfl rfl sz_26 fun w h => (h.rd_blk (Mc := []) (b := ga) (by repeat (first | exact .here | apply Pick.there)) (by rw [flat_get fv4 _ i 3 _ (mix_get hMl) (by decide)]; rfl) (by simp))) rfl ?_ | refine o_q (q_load_oldn _ rfl rfl sz_26 rfl (Rw.rd (hs.at hil).1 hkl)) rfl ?_
    refine o_p (p_build (cs := [_, _]) rfl rfl pl_106 zr_106 rfl) rfl ?_
    refine o_h (h_box rfl rfl) rfl (fun b3 _ => ?_)
    refine o_p (p_pure rfl) rfl ?_
    refine o_nil ?_
    refine s_seq ?_
    refine s_region ?_
    refine o_p (p_pure rfl) rfl ?_
    refine o_p (p_fieldAddr rfl rfl fd_26_1 sz_24 rfl) rfl ?_
    first | refine o_q (q_load rfl rfl sz_24 (by repeat (first | exact .here | apply Pick.there)) rfl) rfl ?_ | refine o_q (q_load_at rfl rfl sz_24 (fun w h => (h.rd_blk (Mc := []) (b := ga) (by repeat (first | exact .here | apply Pick.there)) (by rw [flat_get fv4 _ i 3 _ (mix_get hMl) (by decide)]; rfl) (by simp)))) rfl ?_ | refine o_q (q_load_old rfl rfl sz_24 (rfl (Rw.rd (hs.at hil).1 hkl))) rfl ?_
    refine o_h (h_call rfl fn_111 rfl (fun w1 h1 => c111 w1 a cap L (Rw.later hs.1 h1) (by omega))) rfl (fun ⟨xa, xc⟩ _ => ?_)
    refine o_p (p_pure rfl) rfl ?_
    refine o_p (p_fieldAddr rfl rfl fd_106_0 sz_26 rfl) rfl ?_
    refine o_p (p_fieldAddr rfl rfl fd_26_1 sz_24 rfl) rfl ?_
    refine o_h0 (h_store rfl rfl rfl sz_24 rfl (by repeat (first | exact .here | apply Put.there)) (by show 1 + 1 ≤ 2; omega) rfl) (fun _ _ => ?_)
    refine o_nil ?_
    refine s_seq ?_
    refine s_seq ?_
    refine s_region ?_
    refine o_p (p_pure rfl) rfl ?_
    refine o_p (p_pure rfl) rfl ?_
    refine o_p (p_fieldAddr rfl rfl fd_106_0 sz_26 rfl) rfl ?_
    refine o_p (p_fieldAddr rfl rfl fd_26_1 sz_24 rfl) rfl ?_
    first | refine o_q (q_load rfl rfl sz_24 (by repeat (first | exact .here | apply Pick.there)) rfl) rfl ?_ | refine o_q (q_load_at rfl rfl sz_24 (fun w h => (h.rd_blk (Mc := []) (b := ga) (by repeat (first | exact .here | apply Pick.there)) (by rw [flat_get fv4 _ i 3 _ (mix_get hMl) (by decide)]; rfl) (by simp)))) rfl ?_ | refine o_q (q_load_old rfl rfl sz_24 (rfl (Rw.rd (hs.at hil).1 hkl))) rfl ?_
    first | refine o_p (p_len_slice rfl rfl Try.underlying24) rfl ?_ | refine o_q (q_len_own rfl rfl Try.underlying24 (by repeat (first | exact .here | apply Pick.there))) rfl ?_
    refine o_p (p_pure rfl) rfl ?_
    refine o_nil ?_
    refine s_block ?_
    refine s_weaken (L' := [(2, _), (3, _), (6, _), (33, _), (34, _), (35, _)]) (by repeat (first | exact sl_n | refine sl_c rfl ?_)) (fun _ h => h) ?_
    refine s_loopI (α := Nat × List LFil) [7, 8, 9, 10, 35, 36, 37, 38, 39, 40, 41, 42, 43, 44, 45, 46, 47, 48, 49, 50, 51, 52, 53, 54, 55, 56, 57, 58, 59, 60, 61, 62, 63, 64, 65, 66, 67, 68, 69, 70, 71, 72, 73, 74, 75] (fun y => [(35, .int .i64 (y.1 : Int))]) (fun y => HS w [] [.own (.slice xa L.length xc) 77 4 L.length ((mix y.2 L y.1).flatMap LFil.vals), .star (y.2.map subF), .blk b3 106 2 [.int .i64 next, .slice xa L.length xc], .blk b1 26 2 [.int .i64 next, .slice a L.length cap]]) (fun y => y.1 ≤ L.length ∧ y.2.length = y.1 ∧ pls y.2 = (pls L).take y.1) (fun y => L.length - y.1) (0, []) ⟨Nat.zero_le _, rfl, rfl⟩ (by repeat (first | exact sl_n | refine sl_c rfl ?_)) (fun w h => (HS.star_nil h).ent (by repeat (first | exact .nil | refine .cons (by repeat (first | exact .here | apply Pick.there)) ?_))) (fun ⟨i, M⟩ hy => ?_)
    dsimp only at hy ⊢
    obtain ⟨hi1, hMl, hi2⟩ := hy
    refine s_seq ?_
    refine s_region ?_
    refine o_p (p_pure rfl) rfl ?_
    refine o_nil ?_
    refine s_seq ?_
    refine s_cond rfl (fun h4 => ?_) (fun h4 => ?_)
    · try simp only [decide_eq_true_eq, decide_eq_false_iff_not, Bool.not_eq_true', Bool.not_eq_false', Bool.and_eq_true, Bool.or_eq_true, Bool.and_eq_false_iff, Bool.or_eq_false_iff, Bool.not_true, Bool.not_false] at h4
      have hil : i < L.length := by omega
      have hoi := hmo _ (mem_nth hil)
      refine s_fact (fun w h => own_addr (a := xa) (cap := xc) (xs := (mix M L i).flatMap LFil.vals) (sz := 4) (t := 77) (n := L.length) (by omega) h (by repeat (first | exact .here | apply Pick.there))) (fun hga => ?_)
      obtain ⟨ga, rfl, hcap, hcm⟩ := hga
      refine s_class (fun w h => own_to_blk (g := ga) (t := 77) (sz := 4) (n := L.length) (by omega) h (by repeat (first | exact .here | apply Pick.there))) ?_
      refine s_skip ?_
      refine s_seq ?_
      refine s_block ?_
      refine s_seq ?_
      refine s_region ?_
      refine o_p (p_pure rfl) rfl ?_
      first | refine o_p (p_indexAddr rfl rfl rfl sl_24 (i) (by omega) (by omega) rfl) rfl ?_ | refine o_p (p_indexAddr rfl rfl rfl sl_24 (i) (by omega) (by omega) (Rw.some (hs.at hil).1 (by omega))) rfl ?_
      refine o_slot (show _ = Value.pointer (some ⟨ga, i * 4, none⟩) from by rw [Nat.zero_add]) ?_
      refine o_q (q_load_atn (nth L i).vals rfl rfl sz_77 rfl (fun w h => mix_rd fv4 hMl hil h (by repeat (first | exact .here | apply Pick.there)))) rfl ?_
      refine o_h (h_alloc rfl zr_77) rfl (fun b5 _ => ?_)
      refine o_p (p_pure rfl) rfl ?_
      refine o_h0 (h_store rfl rfl rfl sz_77 rfl (by repeat (first | exact .here | apply Put.there)) (by simp only [setMany_length, List.length_set, List.length_cons, List.length_nil, List.length_map]; omega) rfl) (fun _ _ => ?_)
      refine o_nil ?_
      refine s_seq ?_
      refine s_draw [11] mixed ?_
      refine d_p 0 rfl (p_pure rfl) (by kernel_rfl) rfl rfl ?_
      refine d_p 1 rfl (p_pure rfl) (by kernel_rfl) rfl rfl ?_
      refine d_p 2 rfl (p_fieldAddr rfl rfl fd_106_0 sz_26 rfl) (by kernel_rfl) rfl rfl ?_
      refine d_p 3 rfl (p_fieldAddr rfl rfl fd_26_1 sz_24 rfl) (by kernel_rfl) rfl rfl ?_
      first | refine d_q 4 [[]] rfl (q_load rfl rfl sz_24 (by repeat (first | exact .here | apply Pick.there)) rfl) (by kernel_rfl) (by kernel_rfl) (by kernel_rfl) rfl ?_ | refine d_q 4 [[]] rfl (q_load_at rfl rfl sz_24 (fun w h => (h.rd_blk (Mc := []) (b := ga) (by repeat (first | exact .here | apply Pick.there)) (by rw [flat_get fv4 _ i 3 _ (mix_get hMl) (by decide)]; rfl) (by simp)))) (by kernel_rfl) (by kernel_rfl) (by kernel_rfl) rfl ?_ | refine d_q 4 [[]] rfl (q_load_old rfl rfl sz_24 (rfl (Rw.rd (hs.at hil).1 hkl))) (by kernel_rfl) (by kernel_rfl) (by kernel_rfl) rfl ?_
      refine d_p 5 rfl (p_pure rfl) (by kernel_rfl) rfl rfl ?_
      refine d_p 6 rfl (p_fieldAddr rfl rfl fd_77_2 sz_75 rfl) (by kernel_rfl) rfl rfl ?_
      first | refine d_q 7 [[]] rfl (q_load rfl rfl sz_75 (by repeat (first | exact .here | apply Pick.there)) rfl) (by kernel_rfl) (by kernel_rfl) (by kernel_rfl) rfl ?_ | refine d_q 7 [[]] rfl (q_load_at rfl rfl sz_75 (fun w h => (h.rd_blk (Mc := []) (b := ga) (by repeat (first | exact .here | apply Pick.there)) (by rw [flat_get fv4 _ i 3 _ (mix_get hMl) (by decide)]; rfl) (by simp)))) (by kernel_rfl) (by kernel_rfl) (by kernel_rfl) rfl ?_ | refine d_q 7 [[]] rfl (q_load_old rfl rfl sz_75 (rfl (Rw.rd (hs.at hil).1 hkl))) (by kernel_rfl) (by kernel_rfl) (by kernel_rfl) rfl ?_
      refine d_h 8 rfl (h_call rfl fn_112 rfl (fun w1 h1 => c112 w1 _ _ (nth L i).op (Rw.later (hs.at hil).1 h1) (by omega))) (by kernel_rfl) (fun w h => h.ent (by repeat (first | exact .nil | refine .cons (by repeat (first | exact .here | apply Pick.there)) ?_))) rfl (fun ⟨xo, yo⟩ _ => ?_)
      refine d_base (fun w h => h.ent (by repeat (first | exact .nil | refine .cons (by repeat (first | exact .here | apply Pick.there)) ?_))) ?_
      first | refine d_p 9 rfl (p_indexAddr rfl rfl rfl sl_24 (i) (by omega) (by omega) rfl) (by kernel_rfl) rfl rfl ?_ | refine d_p 9 rfl (p_indexAddr rfl rfl rfl sl_24 (i) (by omega) (by omega) (Rw.some (hs.at hil).1 (by omega))) (by kernel_rfl) rfl rfl ?_
      refine d_slot (show _ = Value.pointer (some ⟨ga, i * 4, none⟩) from by rw [Nat.zero_add]) ?_
      refine d_p 10 rfl (p_fieldAddr rfl rfl fd_77_2 sz_75 rfl) (by kernel_rfl) rfl rfl ?_
      refine d_h0 11 rfl (h_store rfl rfl rfl sz_75 rfl (by repeat (first | exact .here | apply Put.there)) (by rw [flat_length fv4, mix_len hMl hi1]; show i * 4 + 3 + 1 ≤ L.length * 4; omega) rfl) (by kernel_rfl) (fun w h => h.ent (by repeat (first | exact .nil | refine .cons (by repeat (first | exact .here | apply Pick.there)) ?_))) (fun _ _ => ?_)
      refine d_turn [] (by kernel_rfl) ?_
      refine d_nil (by kernel_rfl) (fun w h => h.ent (by repeat (first | exact .nil | refine .cons (by repeat (first | exact .here | apply Pick.there)) ?_))) ?_
      refine s_seq ?_
      refine s_region ?_
      refine o_p (p_fieldAddr rfl rfl fd_77_2 sz_75 rfl) rfl ?_
      first | refine o_q (q_load rfl rfl sz_75 (by repeat (first | exact .here | apply Pick.there)) rfl) rfl ?_ | refine o_q (q_load_at rfl rfl sz_75 (fun w h => (h.rd_blk (Mc := []) (b := ga) (by repeat (first | exact .here | apply Pick.there)) (by rw [flat_get fv4 _ i 3 _ (mix_get hMl) (by decide)]; rfl) (by simp)))) rfl ?_ | refine o_q (q_load_old rfl rfl sz_75 (rfl (Rw.rd (hs.at hil).1 hkl))) rfl ?_
      first | refine o_p (p_len_slice rfl rfl Try.underlying75) rfl ?_ | refine o_q (q_len_own rfl rfl Try.underlying75 (by repeat (first | exact .here | apply Pick.there))) rfl ?_
      refine o_p (p_pure rfl) rfl ?_
      refine o_nil ?_
      refine s_block ?_
      refine s_weaken (L' := [(2, _), (3, _), (6, _), (7, _), (33, _), (34, _), (35, _), (52, _), (53, _), (54, _)]) (by repeat (first | exact sl_n | refine sl_c rfl ?_)) (fun _ h => h) ?_
      refine s_loopI (α := Nat × List LOpn) [9, 10, 54, 55, 56, 57, 58, 59, 60, 61, 62, 63, 64, 65, 66, 67, 68, 69, 70, 71, 72, 73, 74] (fun z => [(54, .int .i64 (z.1 : Int))]) (fun z => HS w [] [.own (.slice xo (nth L i).op.length yo) 48 5 (nth L i).op.length ((mix z.2 (nth L i).op z.1).flatMap LOpn.vals), .star (z.2.map subO), .blk ga 77 (xc * 4) ((mix (M ++ [({ nth L i with oa := xo, oc := yo } : LFil)]) L (i + 1)).flatMap LFil.vals), .star (M.map subF), .blk b5 77 4 (nth L i).vals, .blk b3 106 2 [.int .i64 next, .slice (some ⟨ga, 0, none⟩) L.length xc], .blk b1 26 2 [.int .i64 next, .slice a L.length cap]]) (fun z => z.1 ≤ (nth L i).op.length ∧ z.2.length = z.1 ∧ plo z.2 = (plo (nth L i).op).take z.1) (fun z => (nth L i).op.length - z.1) (0, []) ⟨Nat.zero_le _, rfl, rfl⟩ (by repeat (first | exact sl_n | refine sl_c rfl ?_)) (fun w h => (HS.star_nil (HS.blk_to (b := ga) h (by repeat (first | exact .here | apply Pick.there)) (mix_store fv4 (x := ({ nth L i with oa := xo, oc := yo } : LFil)) hMl hil rfl (by show 3 + 1 ≤ 4; omega)))).ent (by repeat (first | exact .nil | refine .cons (by repeat (first | exact .here | apply Pick.there)) ?_))) (fun ⟨k, K⟩ hz2 => ?_)
      dsimp only at hz2 ⊢
      obtain ⟨hk1, hKl, hk2⟩ := hz2
      refine s_seq ?_
      refine s_region ?_
      refine o_p (p_pure rfl) rfl ?_
      refine o_nil ?_
      refine s_seq ?_
      refine s_cond rfl (fun h6 => ?_) (fun h6 => ?_)
      · try simp only [decide_eq_true_eq, decide_eq_false_iff_not, Bool.not_eq_true', Bool.not_eq_false', Bool.and_eq_true, Bool.or_eq_true, Bool.and_eq_false_iff, Bool.or_eq_false_iff, Bool.not_true, Bool.not_false] at h6
        have hkl : k < (nth L i).op.length := by omega
        have hv9 := VW.at hV hil hkl
        refine s_fact (fun w h => own_addr (a := xo) (cap := yo) (xs := (mix K (nth L i).op k).flatMap LOpn.vals) (sz := 5) (t := 48) (n := (nth L i).op.length) (by omega) h (by repeat (first | exact .here | apply Pick.there))) (fun hgo => ?_)
        obtain ⟨go, rfl, hoc, hom⟩ := hgo
        refine s_class (fun w h => own_to_blk (g := go) (t := 48) (sz := 5) (n := (nth L i).op.length) (by omega) h (by repeat (first | exact .here | apply Pick.there))) ?_
        refine s_skip ?_
        refine s_seq ?_
        refine s_block ?_
        refine s_seq ?_
        refine s_region ?_
        refine o_p (p_pure rfl) rfl ?_
        first | refine o_p (p_indexAddr rfl rfl rfl sl_75 (k) (by omega) (by omega) rfl) rfl ?_ | refine o_p (p_indexAddr rfl rfl rfl sl_75 (k) (by omega) (by omega) (Rw.some (hs.at hil).1 (by omega))) rfl ?_
        first | refine o_q (q_loadn rfl rfl sz_48 (by repeat (first | exact .here | apply Pick.there)) rfl) rfl ?_ | refine o_q (q_load_atn _ rfl rfl sz_48 fun w h => (h.rd_blk (Mc := []) (b := ga) (by repeat (first | exact .here | apply Pick.there)) (by rw [flat_get fv4 _ i 3 _ (mix_get hMl) (by decide)]; rfl) (by simp))) rfl ?_ | refine o_q (q_load_oldn _ rfl rfl sz_48 rfl (Rw.rd (hs.at hil).1 hkl)) rfl ?_
        refine o_h (h_alloc rfl zr_48) rfl (fun b7 _ => ?_)
        refine o_p (p_pure rfl) rfl ?_
        refine o_h0 (h_store rfl rfl rfl sz_48 rfl (by repeat (first | exact .here | apply Put.there)) (by simp only [setMany_length, List.length_set, List.length_cons, List.length_nil, List.length_map]; omega) rfl) (fun _ _ => ?_)
        refine o_nil ?_
        refine s_draw [15] mixed ?_
        refine d_p 0 rfl (p_pure rfl) (by kernel_rfl) rfl rfl ?_
        refine d_p 1 rfl (p_pure rfl) (by kernel_rfl) rfl rfl ?_
        refine d_p 2 rfl (p_fieldAddr rfl rfl fd_106_0 sz_26 rfl) (by kernel_rfl) rfl rfl ?_
        refine d_p 3 rfl (p_fieldAddr rfl rfl fd_26_1 sz_24 rfl) (by kernel_rfl) rfl rfl ?_
        first | refine d_q 4 [[]] rfl (q_load rfl rfl sz_24 (by repeat (first | exact .here | apply Pick.there)) rfl) (by kernel_rfl) (by kernel_rfl) (by kernel_rfl) rfl ?_ | refine d_q 4 [[]] rfl (q_load_at rfl rfl sz_24 (fun w h => (h.rd_blk (Mc := []) (b := ga) (by repeat (first | exact .here | apply Pick.there)) (by rw [flat_get fv4 _ i 3 _ (mix_get hMl) (by decide)]; rfl) (by simp)))) (by kernel_rfl) (by kernel_rfl) (by kernel_rfl) rfl ?_ | refine d_q 4 [[]] rfl (q_load_old rfl rfl sz_24 (rfl (Rw.rd (hs.at hil).1 hkl))) (by kernel_rfl) (by kernel_rfl) (by kernel_rfl) rfl ?_
        refine d_p 5 rfl (p_pure rfl) (by kernel_rfl) rfl rfl ?_
        first | refine d_p 6 rfl (p_indexAddr rfl rfl rfl sl_24 (i) (by omega) (by omega) rfl) (by kernel_rfl) rfl rfl ?_ | refine d_p 6 rfl (p_indexAddr rfl rfl rfl sl_24 (i) (by omega) (by omega) (Rw.some (hs.at hil).1 (by omega))) (by kernel_rfl) rfl rfl ?_
        refine d_slot (show _ = Value.pointer (some ⟨ga, i * 4, none⟩) from by rw [Nat.zero_add]) ?_
        refine d_p 7 rfl (p_fieldAddr rfl rfl fd_77_2 sz_75 rfl) (by kernel_rfl) rfl rfl ?_
        first | refine d_q 8 [[]] rfl (q_load rfl rfl sz_75 (by repeat (first | exact .here | apply Pick.there)) rfl) (by kernel_rfl) (by kernel_rfl) (by kernel_rfl) rfl ?_ | refine d_q 8 [[]] rfl (q_load_at rfl rfl sz_75 (fun w h => (h.rd_blk (Mc := []) (b := ga) (by repeat (first | exact .here | apply Pick.there)) (by rw [flat_get fv4 _ i 3 _ (mix_get hMl) (by decide)]; rfl) (by simp)))) (by kernel_rfl) (by kernel_rfl) (by kernel_rfl) rfl ?_ | refine d_q 8 [[]] rfl (q_load_old rfl rfl sz_75 (rfl (Rw.rd (hs.at hil).1 hkl))) (by kernel_rfl) (by kernel_rfl) (by kernel_rfl) rfl ?_
        refine d_p 9 rfl (p_pure rfl) (by kernel_rfl) rfl rfl ?_
        refine d_p 10 rfl (p_fieldAddr rfl rfl fd_48_4 sz_46 rfl) (by kernel_rfl) rfl rfl ?_
        first | refine d_q 11 [[]] rfl (q_load rfl rfl sz_46 (by repeat (first | exact .here | apply Pick.there)) rfl) (by kernel_rfl) (by kernel_rfl) (by kernel_rfl) rfl ?_ | refine d_q 11 [[]] rfl (q_load_at rfl rfl sz_46 (fun w h => (h.rd_blk (Mc := []) (b := ga) (by repeat (first | exact .here | apply Pick.there)) (by rw [flat_get fv4 _ i 3 _ (mix_get hMl) (by decide)]; rfl) (by simp)))) (by kernel_rfl) (by kernel_rfl) (by kernel_rfl) rfl ?_ | refine d_q 11 [[]] rfl (q_load_old rfl rfl sz_46 (rfl (Rw.rd (hs.at hil).1 hkl))) (by kernel_rfl) (by kernel_rfl) (by kernel_rfl) rfl ?_
        refine d_h 12 rfl (h_call rfl fn_113 rfl (fun w1 h1 => c113 w1 _ _ (nth (nth L i).op k).lk (Rw.later ((hs.at hil).at hkl) h1) (by have := hv9.2.2; omega))) (by kernel_rfl) (fun w h => h.ent (by repeat (first | exact .nil | refine .cons (by repeat (first | exact .here | apply Pick.there)) ?_))) rfl (fun ⟨xl, yl⟩ _ => ?_)
        refine d_base (fun w h => h.ent (by repeat (first | exact .nil | refine .cons (by repeat (first | exact .here | apply Pick.there)) ?_))) ?_
        first | refine d_p 13 rfl (p_indexAddr rfl rfl rfl sl_75 (k) (by omega) (by omega) rfl) (by kernel_rfl) rfl rfl ?_ | refine d_p 13 rfl (p_indexAddr rfl rfl rfl sl_75 (k) (by omega) (by omega) (Rw.some (hs.at hil).1 (by omega))) (by kernel_rfl) rfl rfl ?_
        refine d_slot (show _ = Value.pointer (some ⟨go, k * 5, none⟩) from by rw [Nat.zero_add]) ?_
        refine d_p 14 rfl (p_fieldAddr rfl rfl fd_48_4 sz_46 rfl) (by kernel_rfl) rfl rfl ?_
        refine d_h0 15 rfl (h_store rfl rfl rfl sz_46 rfl (by repeat (first | exact .here | apply Put.there)) (by rw [flat_length ov5, mix_len hKl hk1]; show k * 5 + 4 + 1 ≤ (nth L i).op.length * 5; omega) rfl) (by kernel_rfl) (fun w h => h.ent (by repeat (first | exact .nil | refine .cons (by repeat (first | exact .here | apply Pick.there)) ?_))) (fun _ _ => ?_)
        refine d_turn [] (by kernel_rfl) ?_
        refine d_nil (by kernel_rfl) (fun w h => h.ent (by repeat (first | exact .nil | refine .cons (by repeat (first | exact .here | apply Pick.there)) ?_))) ?_
        refine s_blk ?_
        refine s_weaken (L' := [(2, _), (3, _), (6, _), (7, _), (33, _), (34, _), (35, _), (52, _), (53, _), (54, _)]) (by repeat (first | exact sl_n | refine sl_c rfl ?_)) (fun _ h => h) ?_
        refine s_region ?_
        refine o_p (p_pure rfl) rfl ?_
        try (refine o_slot (i64w (by omega) (by omega)) ?_)
        refine o_p (p_pure rfl) rfl ?_
        refine o_nil ?_
        exact s_backI (k + 1, K ++ [({ (nth (nth L i).op k) with la := xl, lc := yl } : LOpn)]) (by show (nth L i).op.length - (k + 1) < (nth L i).op.length - k; omega) ⟨by show k + 1 ≤ (nth L i).op.length; omega, by simp [hKl], by show plo (K ++ [({ (nth (nth L i).op k) with la := xl, lc := yl } : LOpn)]) = (plo (nth L i).op).take (k + 1); rw [plo_app1, hk2, take_succ_nth (by simpa using hkl), nth_plo hkl]; rfl⟩ (by repeat (first | exact sl_n | refine sl_c rfl ?_)) (fun w h => by have h3 := row_fill (sub := subO) (K := K) (x := ({ (nth (nth L i).op k) with la := xl, lc := yl } : LOpn)) (n := (nth L i).op.length) (xs := (mix (K ++ [({ (nth (nth L i).op k) with la := xl, lc := yl } : LOpn)]) (nth L i).op (k + 1)).flatMap LOpn.vals) (h.ent (Bs := [.blk go 48 (yo * 5) (setMany ((mix K (nth L i).op k).flatMap LOpn.vals) (k * 5 + 4) [.slice xl (nth (nth L i).op k).lk.length yl]), subO ({ (nth (nth L i).op k) with la := xl, lc := yl } : LOpn), .star (K.map subO), .blk ga 77 (xc * 4) ((mix (M ++ [({ nth L i with oa := some ⟨go, 0, none⟩, oc := yo } : LFil)]) L (i + 1)).flatMap LFil.vals), .star (M.map subF), .blk b5 77 4 (nth L i).vals, .blk b3 106 2 [.int .i64 next, .slice (some ⟨ga, 0, none⟩) L.length xc], .blk b1 26 2 [.int .i64 next, .slice a L.length cap]]) (by repeat (first | exact .nil | refine .cons (by repeat (first | exact .here | apply Pick.there)) ?_))) (mix_store ov5 hKl hkl (by simp [LOpn.vals, setMany]) (by simp)) (by rw [flat_length ov5, mix_len (by simp [hKl]) (by omega)]) hoc hom; exact h3.ent (by repeat (first | exact .nil | refine .cons (by repeat (first | exact .here | apply Pick.there)) ?_)))
      · try simp only [decide_eq_true_eq, decide_eq_false_iff_not, Bool.not_eq_true', Bool.not_eq_false', Bool.and_eq_true, Bool.or_eq_true, Bool.and_eq_false_iff, Bool.or_eq_false_iff, Bool.not_true, Bool.not_false] at h6
        refine s_exit_to rfl ?_
        refine s_blk ?_
        refine s_region ?_
        refine o_p (p_pure rfl) rfl ?_
        try (refine o_slot (i64w (by omega) (by omega)) ?_)
        refine o_p (p_pure rfl) rfl ?_
        refine o_nil ?_
        exact s_backI (i + 1, M ++ [({ nth L i with oa := xo, oc := yo, op := K } : LFil)]) (by show L.length - (i + 1) < L.length - i; omega) ⟨by show i + 1 ≤ L.length; omega, by simp [hMl], by show pls (M ++ [({ nth L i with oa := xo, oc := yo, op := K } : LFil)]) = (pls L).take (i + 1); rw [pls_app1, hi2, take_succ_nth (by simpa using hil), nth_pls hil]; have e8 : k = (nth L i).op.length := (by omega); rw [e8, List.take_of_length_le (by simp)] at hk2; simp only [LFil.pl]; rw [show List.map LOpn.pl K = List.map LOpn.pl (nth L i).op from hk2]⟩ (by repeat (first | exact sl_n | refine sl_c rfl ?_)) (fun w h => by have e8 : k = (nth L i).op.length := (by omega); have h2 := opens_shut (l := K) (h.ent (Bs := [.own (.slice xo (nth L i).op.length yo) 48 5 (nth L i).op.length ((mix K (nth L i).op k).flatMap LOpn.vals), .star (K.map subO), .blk ga 77 (xc * 4) ((mix (M ++ [({ nth L i with oa := xo, oc := yo } : LFil)]) L (i + 1)).flatMap LFil.vals), .star (M.map subF), .blk b3 106 2 [.int .i64 next, .slice (some ⟨ga, 0, none⟩) L.length xc], .blk b1 26 2 [.int .i64 next, .slice a L.length cap]]) (by repeat (first | exact .nil | refine .cons (by repeat (first | exact .here | apply Pick.there)) ?_))) (by omega) (by rw [mix_end (by omega)]); have h3 := row_fill (sub := subF) (K := M) (x := ({ nth L i with oa := xo, oc := yo, op := K } : LFil)) (n := L.length) (xs := (mix (M ++ [({ nth L i with oa := xo, oc := yo, op := K } : LFil)]) L (i + 1)).flatMap LFil.vals) (h2.ent (Bs := [.blk ga 77 (xc * 4) ((mix (M ++ [({ nth L i with oa := xo, oc := yo } : LFil)]) L (i + 1)).flatMap LFil.vals), subF ({ nth L i with oa := xo, oc := yo, op := K } : LFil), .star (M.map subF), .blk b3 106 2 [.int .i64 next, .slice (some ⟨ga, 0, none⟩) L.length xc], .blk b1 26 2 [.int .i64 next, .slice a L.length cap]]) (by repeat (first | exact .nil | refine .cons (by repeat (first | exact .here | apply Pick.there)) ?_))) (mix_same (by simp only [LFil.vals]; rw [show K.length = (nth L i).op.length by omega])) (by rw [flat_length fv4, mix_len (by simp [hMl]) (by omega)]) hcap hcm; exact h3.ent (by repeat (first | exact .nil | refine .cons (by repeat (first | exact .here | apply Pick.there)) ?_)))
    · try simp only [decide_eq_true_eq, decide_eq_false_iff_not, Bool.not_eq_true', Bool.not_eq_false', Bool.and_eq_true, Bool.or_eq_true, Bool.and_eq_false_iff, Bool.or_eq_false_iff, Bool.not_true, Bool.not_false] at h4
      refine s_exit_to rfl ?_
      refine s_seq ?_
      refine s_region ?_
      refine o_p (p_pure rfl) rfl ?_
      refine o_p (p_pure rfl) rfl ?_
      refine o_p (p_pure rfl) rfl ?_
      refine o_nil ?_
      exact s_retv (rs := [.tmp 2, .tmp 3]) rfl (.tmp rfl (.tmp rfl (.nil))) (fun w' h' => by have e8 : i = L.length := (by omega); exact ⟨(b3, (xa, xc), M), rfl, by show pls M = pls L; rw [hi2, List.take_of_length_le (by simp; omega)], by have h2 := HS.files_shut (l := M) (h'.ent (Bs := [.own (.slice xa L.length xc) 77 4 L.length ((mix M L i).flatMap LFil.vals), .star (M.map subF), .blk b3 106 2 [.int .i64 next, .slice xa L.length xc]]) (by repeat (first | exact .nil | refine .cons (by repeat (first | exact .here | apply Pick.there)) ?_))) (by omega) (by rw [mix_end (by omega)]); dsimp only; rw [show M.length = L.length by omega]; exact h2.ent (by repeat (first | exact .nil | refine .cons (by repeat (first | exact .here | apply Pick.there)) ?_))⟩)

set_option maxRecDepth 20000 in
theorem d80 (w : World) (next : Int) (a : Option Addr) (cap : Nat) (L : List LFil) (hs : Ft w [] a L) (hm : L.length ≤ 1000) (hmo : ∀ f ∈ L, f.op.length ≤ 1000) (hz : ¬ (chkT next (pls L)).2 = 0) : Calls Try.prog 80 #[.agg #[.int .i64 next, .slice a L.length cap]] w fun en w' => en = .returned (.tuple #[.pointer none, .int .i64 (chkT next (pls L)).2]) ∧ Below w.heap.size w w' := by
  refine enter (args := [_]) Try.func80 Try.ntmps80 rfl rfl (HS.refl w []) ?_
  refine s_seq ?_
  refine s_region ?_
  refine o_h (h_box rfl rfl) rfl (fun b1 _ => ?_)
  refine o_p (p_pure rfl) rfl ?_
  refine o_p (p_pure rfl) rfl ?_
  refine o_nil ?_
  refine s_seq ?_
  refine s_seq ?_
  refine s_region ?_
  refine o_q (q_loadn rfl rfl sz_26 (by repeat (first | exact .here | apply Pick.there)) rfl) rfl ?_
  refine o_q (q_call rfl fn_18 rfl (fun w1 h1 => c18 w1 next a cap L (hs.later h1) hm hmo)) rfl ?_
  refine o_p (p_pure rfl) rfl ?_
  refine o_p (p_pure rfl) rfl ?_
  refine o_p (p_pure rfl) rfl ?_
  refine o_p (p_pure rfl) rfl ?_
  refine o_p (p_pure rfl) rfl ?_
  refine o_nil ?_
  refine s_seq ?_
  refine s_region ?_
  refine o_p (p_pure rfl) rfl ?_
  refine o_p (p_pure rfl) rfl ?_
  refine o_nil ?_
  refine s_cond rfl (fun h2 => ?_) (fun h2 => ?_)
  · try simp only [decide_eq_true_eq, decide_eq_false_iff_not, Bool.not_eq_true', Bool.not_eq_false', Bool.and_eq_true, Bool.or_eq_true, Bool.and_eq_false_iff, Bool.or_eq_false_iff, Bool.not_true, Bool.not_false] at h2
    refine s_seq ?_
    refine s_region ?_
    refine o_p (p_pure rfl) rfl ?_
    refine o_p (p_pure rfl) rfl ?_
    refine o_p (p_pure rfl) rfl ?_
    refine o_nil ?_
    exact s_retv (rs := [.tmp 2, .tmp 3]) rfl (.tmp rfl (.tmp rfl (.nil))) (fun w' h' => ⟨rfl, h'.below⟩)
  · try simp only [decide_eq_true_eq, decide_eq_false_iff_not, Bool.not_eq_true', Bool.not_eq_false', Bool.and_eq_true, Bool.or_eq_true, Bool.and_eq_false_iff, Bool.or_eq_false_iff, Bool.not_true, Bool.not_false] at h2
    exfalso; exact absurd h2 hz

end Go.Proofs

namespace Go.Proofs
open Go Go.RowKit Gx
set_option linter.unusedVariables false
set_option linter.unusedSimpArgs false
attribute [local irreducible] Go.Calls Gx.S Gx.O Gx.D Gx.OpP Gx.OpQ Gx.OpH

theorem fn_80 : isFn Try.prog 80 = true := by kernel_rfl
theorem fn_65 : isFn Try.prog 65 = true := by kernel_rfl


theorem afT_1 {next : Int} {L : List Fil} {r : List Fil × Int} (h1 : ¬ (chkT next L).2 = 0) : afT next L r = (([], 0), (chkT next L).2) := by rw [afT, if_neg h1]
theorem mayR_af {next : Int} {L : List Fil} {h fr cnt : Int} {w : Bool} : (afT next L (L, mayT L h ⟨fr, cnt, false⟩ (bif w then 2 else 1) (kpW w))).2 = mayR next L h fr cnt w := by
  unfold afT mayR
  split
  · split
    · rename_i h2
      exact h2.symm
    · rfl
  · rfl

set_option maxRecDepth 20000 in
theorem e65 (w : World) (next : Int) (a : Option Addr) (cap : Nat) (L : List LFil) (q : Nat) (cv : Array Value) (r : List Fil × Int) (hs : Ft w [] a L) (hm : L.length ≤ 1000) (hmo : ∀ f ∈ L, f.op.length ≤ 1000) (hq : isFn Try.prog q = true) (hc : (chkT next (pls L)).2 = 0 → ∀ (w1 : World) (bt : Nat) (ca : Option Addr) (cc : Nat) (N : List LFil), pls N = pls L → HS w [] [.blk bt 106 2 [.int .i64 next, .slice ca N.length cc], .files ca cc N] w1 → HS w1 (fps [.blk bt 106 2 [.int .i64 next, .slice ca N.length cc], .files ca cc N]) [.blk bt 106 2 [.int .i64 next, .slice ca N.length cc], .files ca cc N] w1 → Calls Try.prog q (#[] ++ [.pointer (some ⟨bt, 0, none⟩)].toArray ++ cv) w1 fun en w2 => ∃ g : (Option Addr × Nat) × List LFil, en = .returned (.int .i64 r.2) ∧ pls g.2 = r.1 ∧ HS w1 (fps [.blk bt 106 2 [.int .i64 next, .slice ca N.length cc], .files ca cc N]) [.blk bt 106 2 [.int .i64 next, .slice g.1.1 g.2.length g.1.2], .files g.1.1 g.1.2 g.2] w2) (hz : (chkT next (pls L)).2 = 0) : Calls Try.prog 65 #[.agg #[.int .i64 next, .slice a L.length cap], .func (.func q) #[] cv] w fun en w' => ∃ g : (Option Addr × Nat) × List LFil, en = .returned (.tuple #[.agg #[.int .i64 (afT next (pls L) r).1.2, .slice g.1.1 g.2.length g.1.2], .int .i64 (afT next (pls L) r).2]) ∧ pls g.2 = (afT next (pls L) r).1.1 ∧ HS w [] [.files g.1.1 g.1.2 g.2] w' := by
  refine enter (args := [_, _]) Try.func65 Try.ntmps65 rfl rfl (HS.refl w []) ?_
  refine s_seq ?_
  refine s_region ?_
  refine o_h (h_box rfl rfl) rfl (fun b1 _ => ?_)
  refine o_h (h_alloc rfl zr_26) rfl (fun b2 _ => ?_)
  refine o_p (p_pure rfl) rfl ?_
  refine o_nil ?_
  refine s_seq ?_
  refine s_region ?_
  refine o_q (q_loadn rfl rfl sz_26 (by repeat (first | exact .here | apply Pick.there)) rfl) rfl ?_
  refine o_h (h_call rfl fn_80 rfl (fun w1 h1 => c80 w1 next a cap L (hs.later h1) hm hmo hz)) rfl (fun ⟨bt, ⟨ca, cc⟩, N⟩ hgc => ?_)
  dsimp only at hgc ⊢
  refine o_p (p_pure rfl) rfl ?_
  refine o_p (p_pure rfl) rfl ?_
  refine o_p (p_pure rfl) rfl ?_
  refine o_p (p_pure rfl) rfl ?_
  refine o_p (p_pure rfl) rfl ?_
  refine o_nil ?_
  refine s_seq ?_
  refine s_seq ?_
  refine s_region ?_
  refine o_p (p_pure rfl) rfl ?_
  refine o_p (p_pure rfl) rfl ?_
  refine o_nil ?_
  refine s_cond rfl (fun h3 => ?_) (fun h3 => ?_)
  · try simp only [decide_eq_true_eq, decide_eq_false_iff_not, Bool.not_eq_true', Bool.not_eq_false', Bool.and_eq_true, Bool.or_eq_true, Bool.and_eq_false_iff, Bool.or_eq_false_iff, Bool.not_true, Bool.not_false] at h3
    refine s_region ?_
    refine o_p (p_pure rfl) rfl ?_
    refine o_p (p_pure rfl) rfl ?_
    refine o_h (h_callvF (Cs := [.blk bt 106 2 [.int .i64 next, .slice ca N.length cc], .files ca cc N]) rfl rfl hq rfl (by repeat (first | exact Picks.nil | (apply Picks.cons; · (repeat (first | exact .here | apply Pick.there))))) (fun w1 h1 hf => hc hz w1 bt ca cc N hgc (h1.ent (by repeat (first | exact .nil | refine .cons (by repeat (first | exact .here | apply Pick.there)) ?_))) hf)) rfl (fun ⟨⟨ga, gc⟩, G⟩ hg9 => ?_)
    dsimp only at hg9 ⊢
    refine o_p (p_pure rfl) rfl ?_
    refine o_nil ?_
    refine s_seq ?_
    refine s_seq ?_
    refine s_region ?_
    refine o_p (p_pure rfl) rfl ?_
    refine o_p (p_pure rfl) rfl ?_
    refine o_nil ?_
    refine s_cond rfl (fun h4 => ?_) (fun h4 => ?_)
    · try simp only [decide_eq_true_eq, decide_eq_false_iff_not, Bool.not_eq_true', Bool.not_eq_false', Bool.and_eq_true, Bool.or_eq_true, Bool.and_eq_false_iff, Bool.or_eq_false_iff, Bool.not_true, Bool.not_false] at h4
      refine s_seq ?_
      refine s_region ?_
      refine o_p (p_build (cs := [_, _]) rfl rfl pl_26 zr_26 rfl) rfl ?_
      refine o_p (p_pure rfl) rfl ?_
      refine o_h0 (h_store rfl rfl rfl sz_26 rfl (by repeat (first | exact .here | apply Put.there)) (by simp only [setMany_length, List.length_set, List.length_cons, List.length_nil, List.length_map]; omega) rfl) (fun _ _ => ?_)
      refine o_p (p_pure rfl) rfl ?_
      refine o_nil ?_
      exact s_retv (rs := [.cell 4 26, .tmp 5]) rfl (.cell rfl sz_26 (by repeat (first | exact .here | apply Pick.there)) rfl (.tmp rfl (.nil))) (fun w' h' => by have hR := afT_e hz h4; exact ⟨((none, 0), []), by rw [hR]; rfl, by rw [hR]; rfl, (HS.files_none h').ent (by repeat (first | exact .nil | refine .cons (by repeat (first | exact .here | apply Pick.there)) ?_))⟩)
    · try simp only [decide_eq_true_eq, decide_eq_false_iff_not, Bool.not_eq_true', Bool.not_eq_false', Bool.and_eq_true, Bool.or_eq_true, Bool.and_eq_false_iff, Bool.or_eq_false_iff, Bool.not_true, Bool.not_false] at h4
      refine s_skip ?_
      refine s_seq ?_
      refine s_region ?_
      refine o_p (p_pure rfl) rfl ?_
      refine o_p (p_pure rfl) rfl ?_
      refine o_p (p_fieldAddr rfl rfl fd_106_0 sz_26 rfl) rfl ?_
      refine o_q (q_loadn rfl rfl sz_26 (by repeat (first | exact .here | apply Pick.there)) rfl) rfl ?_
      refine o_h0 (h_store rfl rfl rfl sz_26 rfl (by repeat (first | exact .here | apply Put.there)) (by simp only [setMany_length, List.length_set, List.length_cons, List.length_nil, List.length_map]; omega) rfl) (fun _ _ => ?_)
      refine o_p (p_pure rfl) rfl ?_
      refine o_nil ?_
      exact s_retv (rs := [.cell 4 26, .tmp 5]) rfl (.cell rfl sz_26 (by repeat (first | exact .here | apply Pick.there)) rfl (.tmp rfl (.nil))) (fun w' h' => by have h9 : r.2 = 0 := h4; have hR := afT_0 (r := r) hz h9; exact ⟨((ga, gc), G), by rw [hR]; rfl, by rw [hR]; exact hg9, h'.ent (by repeat (first | exact .nil | refine .cons (by repeat (first | exact .here | apply Pick.there)) ?_))⟩)
  · try simp only [decide_eq_true_eq, decide_eq_false_iff_not, Bool.not_eq_true', Bool.not_eq_false', Bool.and_eq_true, Bool.or_eq_true, Bool.and_eq_false_iff, Bool.or_eq_false_iff, Bool.not_true, Bool.not_false] at h3
    exfalso; simp at h3

set_option maxRecDepth 20000 in
theorem d65 (w : World) (next : Int) (a : Option Addr) (cap : Nat) (L : List LFil) (q : Nat) (cv : Array Value) (r : List Fil × Int) (hs : Ft w [] a L) (hm : L.length ≤ 1000) (hmo : ∀ f ∈ L, f.op.length ≤ 1000) (hq : isFn Try.prog q = true) (hc : (chkT next (pls L)).2 = 0 → ∀ (w1 : World) (bt : Nat) (ca : Option Addr) (cc : Nat) (N : List LFil), pls N = pls L → HS w [] [.blk bt 106 2 [.int .i64 next, .slice ca N.length cc], .files ca cc N] w1 → HS w1 (fps [.blk bt 106 2 [.int .i64 next, .slice ca N.length cc], .files ca cc N]) [.blk bt 106 2 [.int .i64 next, .slice ca N.length cc], .files ca cc N] w1 → Calls Try.prog q (#[] ++ [.pointer (some ⟨bt, 0, none⟩)].toArray ++ cv) w1 fun en w2 => ∃ g : (Option Addr × Nat) × List LFil, en = .returned (.int .i64 r.2) ∧ pls g.2 = r.1 ∧ HS w1 (fps [.blk bt 106 2 [.int .i64 next, .slice ca N.length cc], .files ca cc N]) [.blk bt 106 2 [.int .i64 next, .slice g.1.1 g.2.length g.1.2], .files g.1.1 g.1.2 g.2] w2) (hz : ¬ (chkT next (pls L)).2 = 0) : Calls Try.prog 65 #[.agg #[.int .i64 next, .slice a L.length cap], .func (.func q) #[] cv] w fun en w' => ∃ g : (Option Addr × Nat) × List LFil, en = .returned (.tuple #[.agg #[.int .i64 (afT next (pls L) r).1.2, .slice g.1.1 g.2.length g.1.2], .int .i64 (afT next (pls L) r).2]) ∧ pls g.2 = (afT next (pls L) r).1.1 ∧ HS w [] [.files g.1.1 g.1.2 g.2] w' := by
  refine enter (args := [_, _]) Try.func65 Try.ntmps65 rfl rfl (HS.refl w []) ?_
  refine s_seq ?_
  refine s_region ?_
  refine o_h (h_box rfl rfl) rfl (fun b1 _ => ?_)
  refine o_h (h_alloc rfl zr_26) rfl (fun b2 _ => ?_)
  refine o_p (p_pure rfl) rfl ?_
  refine o_nil ?_
  refine s_seq ?_
  refine s_region ?_
  refine o_q (q_loadn rfl rfl sz_26 (by repeat (first | exact .here | apply Pick.there)) rfl) rfl ?_
  refine o_q (q_call rfl fn_80 rfl (fun w1 h1 => d80 w1 next a cap L (hs.later h1) hm hmo hz)) rfl ?_
  refine o_p (p_pure rfl) rfl ?_
  refine o_p (p_pure rfl) rfl ?_
  refine o_p (p_pure rfl) rfl ?_
  refine o_p (p_pure rfl) rfl ?_
  refine o_p (p_pure rfl) rfl ?_
  refine o_nil ?_
  refine s_seq ?_
  refine s_seq ?_
  refine s_region ?_
  refine o_p (p_pure rfl) rfl ?_
  refine o_p (p_pure rfl) rfl ?_
  refine o_nil ?_
  refine s_cond rfl (fun h3 => ?_) (fun h3 => ?_)
  · try simp only [decide_eq_true_eq, decide_eq_false_iff_not, Bool.not_eq_true', Bool.not_eq_false', Bool.and_eq_true, Bool.or_eq_true, Bool.and_eq_false_iff, Bool.or_eq_false_iff, Bool.not_true, Bool.not_false] at h3
    exfalso; exact hz h3
  · try simp only [decide_eq_true_eq, decide_eq_false_iff_not, Bool.not_eq_true', Bool.not_eq_false', Bool.and_eq_true, Bool.or_eq_true, Bool.and_eq_false_iff, Bool.or_eq_false_iff, Bool.not_true, Bool.not_false] at h3
    refine s_skip ?_
    refine s_seq ?_
    refine s_seq ?_
    refine s_region ?_
    refine o_p (p_pure rfl) rfl ?_
    refine o_p (p_pure rfl) rfl ?_
    refine o_nil ?_
    refine s_cond rfl (fun h4 => ?_) (fun h4 => ?_)
    · try simp only [decide_eq_true_eq, decide_eq_false_iff_not, Bool.not_eq_true', Bool.not_eq_false', Bool.and_eq_true, Bool.or_eq_true, Bool.and_eq_false_iff, Bool.or_eq_false_iff, Bool.not_true, Bool.not_false] at h4
      refine s_seq ?_
      refine s_region ?_
      refine o_p (p_build (cs := [_, _]) rfl rfl pl_26 zr_26 rfl) rfl ?_
      refine o_p (p_pure rfl) rfl ?_
      refine o_h0 (h_store rfl rfl rfl sz_26 rfl (by repeat (first | exact .here | apply Put.there)) (by simp only [setMany_length, List.length_set, List.length_cons, List.length_nil, List.length_map]; omega) rfl) (fun _ _ => ?_)
      refine o_p (p_pure rfl) rfl ?_
      refine o_nil ?_
      exact s_retv (rs := [.cell 4 26, .tmp 5]) rfl (.cell rfl sz_26 (by repeat (first | exact .here | apply Pick.there)) rfl (.tmp rfl (.nil))) (fun w' h' => by have hR := afT_1 (r := r) hz; exact ⟨((none, 0), []), by rw [hR]; rfl, by rw [hR]; rfl, (HS.files_none h').ent (by repeat (first | exact .nil | refine .cons (by repeat (first | exact .here | apply Pick.there)) ?_))⟩)
    · try simp only [decide_eq_true_eq, decide_eq_false_iff_not, Bool.not_eq_true', Bool.not_eq_false', Bool.and_eq_true, Bool.or_eq_true, Bool.and_eq_false_iff, Bool.or_eq_false_iff, Bool.not_true, Bool.not_false] at h4
      exfalso; exact hz h4

theorem c65 (w : World) (next : Int) (a : Option Addr) (cap : Nat) (L : List LFil) (q : Nat) (cv : Array Value) (r : List Fil × Int) (hs : Ft w [] a L) (hm : L.length ≤ 1000) (hmo : ∀ f ∈ L, f.op.length ≤ 1000) (hq : isFn Try.prog q = true) (hc : (chkT next (pls L)).2 = 0 → ∀ (w1 : World) (bt : Nat) (ca : Option Addr) (cc : Nat) (N : List LFil), pls N = pls L → HS w [] [.blk bt 106 2 [.int .i64 next, .slice ca N.length cc], .files ca cc N] w1 → HS w1 (fps [.blk bt 106 2 [.int .i64 next, .slice ca N.length cc], .files ca cc N]) [.blk bt 106 2 [.int .i64 next, .slice ca N.length cc], .files ca cc N] w1 → Calls Try.prog q (#[] ++ [.pointer (some ⟨bt, 0, none⟩)].toArray ++ cv) w1 fun en w2 => ∃ g : (Option Addr × Nat) × List LFil, en = .returned (.int .i64 r.2) ∧ pls g.2 = r.1 ∧ HS w1 (fps [.blk bt 106 2 [.int .i64 next, .slice ca N.length cc], .files ca cc N]) [.blk bt 106 2 [.int .i64 next, .slice g.1.1 g.2.length g.1.2], .files g.1.1 g.1.2 g.2] w2) : Calls Try.prog 65 #[.agg #[.int .i64 next, .slice a L.length cap], .func (.func q) #[] cv] w fun en w' => ∃ g : (Option Addr × Nat) × List LFil, en = .returned (.tuple #[.agg #[.int .i64 (afT next (pls L) r).1.2, .slice g.1.1 g.2.length g.1.2], .int .i64 (afT next (pls L) r).2]) ∧ pls g.2 = (afT next (pls L) r).1.1 ∧ HS w [] [.files g.1.1 g.1.2 g.2] w' := by
  rcases Classical.em ((chkT next (pls L)).2 = 0) with hz | hz
  · exact e65 w next a cap L q cv r hs hm hmo hq hc hz
  · exact d65 w next a cap L q cv r hs hm hmo hq hc hz

set_option maxRecDepth 20000 in
theorem c75 (w : World) (p1 p2 p3 : Nat) (bt : Nat) (next : Int) (a : Option Addr) (cap : Nat) (L : List LFil) (h fr cnt : Int) (hw : HS w (fps [.blk bt 106 2 [.int .i64 (next), .slice a (L).length cap], .files a cap (L)]) [.blk bt 106 2 [.int .i64 (next), .slice a (L).length cap], .files a cap (L)] w) (hV : VW (pls L)) (h1 : Rd w (fps [.blk bt 106 2 [.int .i64 (next), .slice a (L).length cap], .files a cap (L)]) p1 0 (.int .i64 h)) (h2 : Rd w (fps [.blk bt 106 2 [.int .i64 (next), .slice a (L).length cap], .files a cap (L)]) p2 0 (.int .i64 fr)) (h3 : Rd w (fps [.blk bt 106 2 [.int .i64 (next), .slice a (L).length cap], .files a cap (L)]) p3 0 (.int .i64 cnt)) : Calls Try.prog 75 #[.pointer (some ⟨bt, 0, none⟩), .pointer (some ⟨p1, 0, none⟩), .pointer (some ⟨p2, 0, none⟩), .pointer (some ⟨p3, 0, none⟩)] w fun en w' => ∃ g : (Option Addr × Nat) × List LFil, en = .returned (.int .i64 (pls L, mayT (pls L) h ⟨fr, cnt, false⟩ 1 rdK).2) ∧ pls g.2 = (pls L, mayT (pls L) h ⟨fr, cnt, false⟩ 1 rdK).1 ∧ HS w (fps [.blk bt 106 2 [.int .i64 (next), .slice a (L).length cap], .files a cap (L)]) [.blk bt 106 2 [.int .i64 (next), .slice g.1.1 (g.2).length g.1.2], .files g.1.1 g.1.2 (g.2)] w' := by
  refine enter (args := [_, _, _, _]) Try.func75 Try.ntmps75 rfl rfl hw ?_
  refine s_seq ?_
  refine s_region ?_
  refine o_p (p_pure rfl) rfl ?_
  refine o_nil ?_
  refine s_seq ?_
  refine s_region ?_
  refine o_p (p_pure rfl) rfl ?_
  first | refine o_q (q_load rfl rfl sz_3 (by repeat (first | exact .here | apply Pick.there)) rfl) rfl ?_ | refine o_q (q_load_old rfl rfl sz_3 (h1)) rfl ?_ | refine o_q (q_load_old rfl rfl sz_3 (h2)) rfl ?_ | refine o_q (q_load_old rfl rfl sz_3 (h3)) rfl ?_
  first | refine o_q (q_load rfl rfl sz_3 (by repeat (first | exact .here | apply Pick.there)) rfl) rfl ?_ | refine o_q (q_load_old rfl rfl sz_3 (h1)) rfl ?_ | refine o_q (q_load_old rfl rfl sz_3 (h2)) rfl ?_ | refine o_q (q_load_old rfl rfl sz_3 (h3)) rfl ?_
  first | refine o_q (q_load rfl rfl sz_3 (by repeat (first | exact .here | apply Pick.there)) rfl) rfl ?_ | refine o_q (q_load_old rfl rfl sz_3 (h1)) rfl ?_ | refine o_q (q_load_old rfl rfl sz_3 (h2)) rfl ?_ | refine o_q (q_load_old rfl rfl sz_3 (h3)) rfl ?_
  refine o_p (p_build (cs := [_, _, _]) rfl rfl pl_62 zr_62 rfl) rfl ?_
  refine o_q (q_call rfl fn_76 rfl (fun w1 h1 => c76 w1 bt a cap L h ⟨fr, cnt, false⟩ (h1.rd_blk (Mc := []) (b := bt) (by repeat (first | exact .here | apply Pick.there)) rfl (by simp)) (h1.ft (by repeat (first | exact .here | apply Pick.there))) hV)) rfl ?_
  refine o_p (p_pure rfl) rfl ?_
  refine o_nil ?_
  exact s_retv (rs := [.tmp 5]) rfl (.tmp rfl (.nil)) (fun w' h' => ⟨((a, cap), L), rfl, rfl, h'.ent (by repeat (first | exact .nil | refine .cons (by repeat (first | exact .here | apply Pick.there)) ?_))⟩)

set_option maxRecDepth 20000 in
theorem c77 (w : World) (p1 p2 p3 : Nat) (bt : Nat) (next : Int) (a : Option Addr) (cap : Nat) (L : List LFil) (h fr cnt : Int) (hw : HS w (fps [.blk bt 106 2 [.int .i64 (next), .slice a (L).length cap], .files a cap (L)]) [.blk bt 106 2 [.int .i64 (next), .slice a (L).length cap], .files a cap (L)] w) (hV : VW (pls L)) (h1 : Rd w (fps [.blk bt 106 2 [.int .i64 (next), .slice a (L).length cap], .files a cap (L)]) p1 0 (.int .i64 h)) (h2 : Rd w (fps [.blk bt 106 2 [.int .i64 (next), .slice a (L).length cap], .files a cap (L)]) p2 0 (.int .i64 fr)) (h3 : Rd w (fps [.blk bt 106 2 [.int .i64 (next), .slice a (L).length cap], .files a cap (L)]) p3 0 (.int .i64 cnt)) : Calls Try.prog 77 #[.pointer (some ⟨bt, 0, none⟩), .pointer (some ⟨p1, 0, none⟩), .pointer (some ⟨p2, 0, none⟩), .pointer (some ⟨p3, 0, none⟩)] w fun en w' => ∃ g : (Option Addr × Nat) × List LFil, en = .returned (.int .i64 (pls L, mayT (pls L) h ⟨fr, cnt, false⟩ 2 wrK).2) ∧ pls g.2 = (pls L, mayT (pls L) h ⟨fr, cnt, false⟩ 2 wrK).1 ∧ HS w (fps [.blk bt 106 2 [.int .i64 (next), .slice a (L).length cap], .files a cap (L)]) [.blk bt 106 2 [.int .i64 (next), .slice g.1.1 (g.2).length g.1.2], .files g.1.1 g.1.2 (g.2)] w' := by
  refine enter (args := [_, _, _, _]) Try.func77 Try.ntmps77 rfl rfl hw ?_
  refine s_seq ?_
  refine s_region ?_
  refine o_p (p_pure rfl) rfl ?_
  refine o_nil ?_
  refine s_seq ?_
  refine s_region ?_
  refine o_p (p_pure rfl) rfl ?_
  first | refine o_q (q_load rfl rfl sz_3 (by repeat (first | exact .here | apply Pick.there)) rfl) rfl ?_ | refine o_q (q_load_old rfl rfl sz_3 (h1)) rfl ?_ | refine o_q (q_load_old rfl rfl sz_3 (h2)) rfl ?_ | refine o_q (q_load_old rfl rfl sz_3 (h3)) rfl ?_
  first | refine o_q (q_load rfl rfl sz_3 (by repeat (first | exact .here | apply Pick.there)) rfl) rfl ?_ | refine o_q (q_load_old rfl rfl sz_3 (h1)) rfl ?_ | refine o_q (q_load_old rfl rfl sz_3 (h2)) rfl ?_ | refine o_q (q_load_old rfl rfl sz_3 (h3)) rfl ?_
  first | refine o_q (q_load rfl rfl sz_3 (by repeat (first | exact .here | apply Pick.there)) rfl) rfl ?_ | refine o_q (q_load_old rfl rfl sz_3 (h1)) rfl ?_ | refine o_q (q_load_old rfl rfl sz_3 (h2)) rfl ?_ | refine o_q (q_load_old rfl rfl sz_3 (h3)) rfl ?_
  refine o_p (p_build (cs := [_, _, _]) rfl rfl pl_62 zr_62 rfl) rfl ?_
  refine o_q (q_call rfl fn_78 rfl (fun w1 h1 => c78 w1 bt a cap L h ⟨fr, cnt, false⟩ (h1.rd_blk (Mc := []) (b := bt) (by repeat (first | exact .here | apply Pick.there)) rfl (by simp)) (h1.ft (by repeat (first | exact .here | apply Pick.there))) hV)) rfl ?_
  refine o_p (p_pure rfl) rfl ?_
  refine o_nil ?_
  exact s_retv (rs := [.tmp 5]) rfl (.tmp rfl (.nil)) (fun w' h' => ⟨((a, cap), L), rfl, rfl, h'.ent (by repeat (first | exact .nil | refine .cons (by repeat (first | exact .here | apply Pick.there)) ?_))⟩)

set_option maxRecDepth 20000 in
theorem c28 (w : World) (next : Int) (a : Option Addr) (cap : Nat) (L : List LFil) (h fr cnt : Int) (hs : Ft w [] a L) (hm : L.length ≤ 1000) (hmo : ∀ f ∈ L, f.op.length ≤ 1000) : Calls Try.prog 28 #[.agg #[.int .i64 next, .slice a L.length cap], .int .i64 h, .int .i64 fr, .int .i64 cnt] w fun en w' => en = .returned (.int .i64 (mayR next (pls L) h fr cnt false)) ∧ Below w.heap.size w w' := by
  refine enter (args := [_, _, _, _]) Try.func28 Try.ntmps28 rfl rfl (HS.refl w []) ?_
  refine s_seq ?_
  refine s_region ?_
  refine o_h (h_box rfl rfl) rfl (fun b1 _ => ?_)
  refine o_h (h_box rfl rfl) rfl (fun b2 _ => ?_)
  refine o_h (h_box rfl rfl) rfl (fun b3 _ => ?_)
  refine o_h (h_box rfl rfl) rfl (fun b4 _ => ?_)
  refine o_p (p_pure rfl) rfl ?_
  refine o_nil ?_
  refine s_seq ?_
  refine s_region ?_
  refine o_q (q_loadn rfl rfl sz_26 (by repeat (first | exact .here | apply Pick.there)) rfl) rfl ?_
  refine o_p (p_pure rfl) rfl ?_
  refine o_h (h_call rfl fn_65 rfl (fun w1 h1 => c65 w1 next a cap L 75 #[.pointer (some ⟨b2, 0, none⟩), .pointer (some ⟨b3, 0, none⟩), .pointer (some ⟨b4, 0, none⟩)] (pls L, mayT (pls L) h ⟨fr, cnt, false⟩ 1 rdK) (hs.later h1) hm hmo (by kernel_rfl) (fun hz9 w2 bt ca cc N hp h2 hf => by have h9 := c75 w2 b2 b3 b4 bt next ca cc N h fr cnt hf (by rw [show pls N = pls L from hp]; exact (chk_ok hz9).vw) (HS.keep h2 (h1.rd_blk (Mc := []) (b := b2) (by repeat (first | exact .here | apply Pick.there)) rfl (by simp))) (HS.keep h2 (h1.rd_blk (Mc := []) (b := b3) (by repeat (first | exact .here | apply Pick.there)) rfl (by simp))) (HS.keep h2 (h1.rd_blk (Mc := []) (b := b4) (by repeat (first | exact .here | apply Pick.there)) rfl (by simp))); rw [show pls N = pls L from hp] at h9; exact h9))) rfl (fun ⟨⟨ca, cc⟩, N⟩ hgc => ?_)
  refine o_p (p_pure rfl) rfl ?_
  refine o_p (p_pure rfl) rfl ?_
  refine o_p (p_pure rfl) rfl ?_
  refine o_h (h_alloc rfl zr_26) rfl (fun b5 _ => ?_)
  refine o_h0 (h_store rfl rfl rfl sz_26 rfl (by repeat (first | exact .here | apply Put.there)) (by simp only [setMany_length, List.length_set, List.length_cons, List.length_nil, List.length_map]; omega) rfl) (fun _ _ => ?_)
  refine o_p (p_pure rfl) rfl ?_
  refine o_nil ?_
  refine s_seq ?_
  refine s_region ?_
  refine o_p (p_pure rfl) rfl ?_
  refine o_p (p_pure rfl) rfl ?_
  refine o_nil ?_
  exact s_retv (rs := [.tmp 8]) rfl (.tmp rfl (.nil)) (fun w' h' => ⟨by rw [← mayR_af]; simp only [kpW_f]; rfl, h'.below⟩)

set_option maxRecDepth 20000 in
theorem c29 (w : World) (next : Int) (a : Option Addr) (cap : Nat) (L : List LFil) (h fr cnt : Int) (hs : Ft w [] a L) (hm : L.length ≤ 1000) (hmo : ∀ f ∈ L, f.op.length ≤ 1000) : Calls Try.prog 29 #[.agg #[.int .i64 next, .slice a L.length cap], .int .i64 h, .int .i64 fr, .int .i64 cnt] w fun en w' => en = .returned (.int .i64 (mayR next (pls L) h fr cnt true)) ∧ Below w.heap.size w w' := by
  refine enter (args := [_, _, _, _]) Try.func29 Try.ntmps29 rfl rfl (HS.refl w []) ?_
  refine s_seq ?_
  refine s_region ?_
  refine o_h (h_box rfl rfl) rfl (fun b1 _ => ?_)
  refine o_h (h_box rfl rfl) rfl (fun b2 _ => ?_)
  refine o_h (h_box rfl rfl) rfl (fun b3 _ => ?_)
  refine o_h (h_box rfl rfl) rfl (fun b4 _ => ?_)
  refine o_p (p_pure rfl) rfl ?_
  refine o_nil ?_
  refine s_seq ?_
  refine s_region ?_
  refine o_q (q_loadn rfl rfl sz_26 (by repeat (first | exact .here | apply Pick.there)) rfl) rfl ?_
  refine o_p (p_pure rfl) rfl ?_
  refine o_h (h_call rfl fn_65 rfl (fun w1 h1 => c65 w1 next a cap L 77 #[.pointer (some ⟨b2, 0, none⟩), .pointer (some ⟨b3, 0, none⟩), .pointer (some ⟨b4, 0, none⟩)] (pls L, mayT (pls L) h ⟨fr, cnt, false⟩ 2 wrK) (hs.later h1) hm hmo (by kernel_rfl) (fun hz9 w2 bt ca cc N hp h2 hf => by have h9 := c77 w2 b2 b3 b4 bt next ca cc N h fr cnt hf (by rw [show pls N = pls L from hp]; exact (chk_ok hz9).vw) (HS.keep h2 (h1.rd_blk (Mc := []) (b := b2) (by repeat (first | exact .here | apply Pick.there)) rfl (by simp))) (HS.keep h2 (h1.rd_blk (Mc := []) (b := b3) (by repeat (first | exact .here | apply Pick.there)) rfl (by simp))) (HS.keep h2 (h1.rd_blk (Mc := []) (b := b4) (by repeat (first | exact .here | apply Pick.there)) rfl (by simp))); rw [show pls N = pls L from hp] at h9; exact h9))) rfl (fun ⟨⟨ca, cc⟩, N⟩ hgc => ?_)
  refine o_p (p_pure rfl) rfl ?_
  refine o_p (p_pure rfl) rfl ?_
  refine o_p (p_pure rfl) rfl ?_
  refine o_h (h_alloc rfl zr_26) rfl (fun b5 _ => ?_)
  refine o_h0 (h_store rfl rfl rfl sz_26 rfl (by repeat (first | exact .here | apply Put.there)) (by simp only [setMany_length, List.length_set, List.length_cons, List.length_nil, List.length_map]; omega) rfl) (fun _ _ => ?_)
  refine o_p (p_pure rfl) rfl ?_
  refine o_nil ?_
  refine s_seq ?_
  refine s_region ?_
  refine o_p (p_pure rfl) rfl ?_
  refine o_p (p_pure rfl) rfl ?_
  refine o_nil ?_
  exact s_retv (rs := [.tmp 8]) rfl (.tmp rfl (.nil)) (fun w' h' => ⟨by rw [← mayR_af]; simp only [kpW_t]; rfl, h'.below⟩)

end Go.Proofs

namespace Go.Proofs
open Go Go.RowKit Gx
set_option linter.unusedVariables false
set_option linter.unusedSimpArgs false
attribute [local irreducible] Go.Calls Gx.S Gx.O Gx.D Gx.OpP Gx.OpQ Gx.OpH



def openR (next : Int) (L : List Fil) (rc sq : Int) (x : Opn) : (List Fil × Int) × Int × Int := if (chkT next L).2 = 0 then if (openT next L rc sq x).2.2.2 = 0 then (((openT next L rc sq x).1, (openT next L rc sq x).2.1), (openT next L rc sq x).2.2.1, 0) else (([], 0), 0, (openT next L rc sq x).2.2.2) else (([], 0), 0, (chkT next L).2)
def closeR (next : Int) (L : List Fil) (h : Int) : (List Fil × Int) × Bool × Int := if (chkT next L).2 = 0 then if (closeT L h).2.2 = 0 then (((closeT L h).1, next), (closeT L h).2.1, 0) else (([], 0), false, (closeT L h).2.2) else (([], 0), false, (chkT next L).2)
end Go.Proofs

/- Chapter 25, plain: where a handle of a valid table is, and what its locks keep others from. No program here. -/
namespace Go.Proofs
open Go Go.RowKit Gx
set_option linter.unusedVariables false
set_option linter.unusedSimpArgs false
theorem ixO_none {ops : List Opn} {h : Int} (hn : ∀ o ∈ ops, o.hd ≠ h) : ixO ops h = ops.length := by
  unfold ixO
  refine ixB_eq (by simp) (fun i hi => ?_) (fun hl => absurd hl (by simp))
  rw [List.getD_eq_getElem?_getD, List.getElem?_map, nth_get hi]
  simpa using hn _ (mem_nth hi)
theorem ixO_eq {ops : List Opn} {h : Int} {k : Nat} (hk : k < ops.length) (hn : ∀ j, j < k → (nth ops j).hd ≠ h) (he : (nth ops k).hd = h) : ixO ops h = k := by
  unfold ixO
  refine ixB_eq (by simp; omega) (fun i hi => ?_) (fun _ => ?_)
  · rw [List.getD_eq_getElem?_getD, List.getElem?_map, nth_get (show i < ops.length by omega)]
    simpa using hn i hi
  · rw [List.getD_eq_getElem?_getD, List.getElem?_map, nth_get hk]
    simpa using he
theorem find_skip {L : List Fil} {h : Int} : ∀ {i : Nat}, i ≤ L.length → (∀ j, j < i → ∀ o ∈ (nth L j).op, o.hd ≠ h) → findF L h 0 = findF (L.drop i) h i
  | 0, _, _ => rfl
  | i + 1, hi, hn => by
    rw [find_skip (i := i) (by omega) (fun j hj => hn j (by omega)), findF_drop (by omega), ixO_none (hn i (by omega)), if_neg (by omega)]
/-- A handle of a valid table is found where it is. -/
theorem find_at {next : Int} {L : List Fil} (h : Ok next L) {i k : Nat} (hi : i < L.length) (hk : k < (nth L i).op.length) : findF L (nth (nth L i).op k).hd 0 = (i, k, 0) := by
  have hf := nth_Ok h hi
  rw [find_skip (i := i) (by omega) (fun j hj o ho => by
    have h9 := (pw_nth.1 h.ds) j i hj hi o ho _ (mem_nth hk)
    exact h9), findF_drop hi]
  have e : ixO (nth L i).op (nth (nth L i).op k).hd = k := ixO_eq hk (fun j hj => by
    have h9 := (pw_nth.1 hf.hs) j k hj hk
    omega) rfl
  rw [e, if_pos hk]
theorem may_hit {next : Int} {L : List LFil} (h : Ok next (pls L)) {i k n m : Nat} (hi : i < L.length) (hk : k < (nth L i).op.length) (hn : n < (nth L i).op.length) (hm : m < (nth (nth L i).op n).lk.length) (w : Bool) (hkp : kpW w (nth (nth (nth L i).op n).lk m).ex (decide (n ≠ k)) = true) : ¬ mayR next (pls L) (nth (nth L i).op k).hd ((nth (nth (nth L i).op n).lk m).fr + (nth (nth (nth L i).op n).lk m).cnt - 1) 1 w = 0 := by
  have hi2 : i < (pls L).length := by simpa using hi
  have e1 := nth_pls hi
  have e2 : (nth (pls L) i).op = plo (nth L i).op := by rw [e1]; rfl
  have hk2 : k < (nth (pls L) i).op.length := by rw [e2]; simpa using hk
  have hn2 : n < (nth (pls L) i).op.length := by rw [e2]; simpa using hn
  have ek : nth (nth (pls L) i).op k = (nth (nth L i).op k).pl := by rw [e2, nth_plo hk]
  have en : nth (nth (pls L) i).op n = (nth (nth L i).op n).pl := by rw [e2, nth_plo hn]
  have hfa := find_at h hi2 hk2
  have hd : (nth (nth (pls L) i).op k).hd = (nth (nth L i).op k).hd := by rw [ek]; rfl
  rw [hd] at hfa
  have hlk : (nth (nth (pls L) i).op n).lk = (nth (nth L i).op n).lk := by rw [en]; rfl
  have hr := ((nth_Ok h hi2).op _ (mem_nth hn2)).2.1
  rw [hlk] at hr
  have hr1 := rngE_r (hr _ (mem_nth hm))
  have hrg : rngE ((nth (nth (nth L i).op n).lk m).fr + (nth (nth (nth L i).op n).lk m).cnt - 1) 1 = 0 := by
    unfold rngE
    rw [if_pos (by omega)]
  rw [mayR, if_pos (ok_chk h), mayT, hfa]
  dsimp only
  rw [if_pos rfl, if_pos hrg]
  split
  · have hb : mayB (nth (pls L) i).op k ⟨(nth (nth (nth L i).op n).lk m).fr + (nth (nth (nth L i).op n).lk m).cnt - 1, 1, false⟩ (kpW w) = true := by
      refine mayB_hit (n := n) (m := m) hn2 (by rw [hlk]; exact hm) ?_
      rw [hlk, Bool.and_eq_true]
      refine ⟨?_, hkp⟩
      unfold ovl
      simp
      omega
    rw [if_pos hb]
    decide
  · decide
theorem vw_b {L : List LFil} (hV : VW (pls L)) : L.length ≤ 1000 ∧ (∀ f ∈ L, f.op.length ≤ 1000) ∧ ∀ f ∈ L, ∀ o ∈ f.op, o.lk.length ≤ 1000 := by
  have h := VW.lens hV
  refine ⟨by omega, fun f hf => by have := h.2 f hf; omega, fun f hf o ho => ?_⟩
  obtain ⟨i, hi, rfl⟩ := mem_nth_ex hf
  obtain ⟨k, hk, rfl⟩ := mem_nth_ex ho
  have := (VW.at hV hi hk).2.2
  omega
theorem vw_few {L : List LFil} (hV : VW (pls L)) : fewT L = true := by
  have h := VW.lens hV
  refine fewT_1 (by omega) fun m hm => fewF_1 (by have := h.2 _ (mem_nth hm); omega) fun k hk => ?_
  have := (VW.at hV hm hk).2.2
  omega
theorem runE_15 {l : List HAct} (hl : l.length ≤ 60) (h : ¬ runE l = 0) : runE l = 15 := by
  rw [runE_sm (by omega)] at h ⊢
  have aux : ∀ (es : List Int) (k : Nat), (∀ e ∈ es, e = 0 ∨ e = 15) → ¬ (eachF es k).2 = 0 → (eachF es k).2 = 15 := by
    intro es
    induction es with
    | nil => intro k _ h; exact absurd rfl h
    | cons e es ih =>
      intro k he h
      unfold eachF at h ⊢
      split at h
      · rename_i h0
        rw [if_pos h0]
        exact ih _ (fun x hx => he x (List.mem_cons_of_mem _ hx)) h
      · rename_i h0
        rw [if_neg h0]
        rcases he e List.mem_cons_self with h9 | h9
        · exact absurd h9 h0
        · exact h9
  refine aux _ 0 (fun e he => ?_) h
  obtain ⟨a, _, rfl⟩ := List.mem_map.1 he
  unfold kindE
  split <;> simp
theorem cfl_apart {next : Int} {L : List LFil} (h : Ok next (pls L)) {i k n : Nat} (hi : i < L.length) (hk : k < (nth L i).op.length) (hn : n < (nth L i).op.length) (hne : ¬ n = k) : cflT (nth (nth L i).op k).pl (nth (nth L i).op n).pl = (false, 0) := by
  have hi2 : i < (pls L).length := by simpa using hi
  have hf := nth_Ok h hi2
  have e2 : (nth (pls L) i).op = plo (nth L i).op := by rw [nth_pls hi]; rfl
  have c := pw_nth.1 hf.cf
  rw [e2] at c
  have hl : (plo (nth L i).op).length = (nth L i).op.length := by simp
  have hv := fun j hj => (VW.at h.vw hi (k := j) hj).1
  rw [cflT_0 ⟨hv k hk, hv n hn⟩]
  have hc : cfl (nth (nth L i).op k).pl (nth (nth L i).op n).pl = false := by
    rcases Nat.lt_or_ge k n with hkn | hkn
    · have h9 := c k n hkn (by omega)
      rwa [nth_plo hk, nth_plo hn] at h9
    · have h9 := c n k (by omega) (by omega)
      rw [nth_plo hk, nth_plo hn] at h9
      rw [cfl_comm]
      exact h9
  rw [hc]
theorem lock_addr {w0 w : World} {M : List Nat} {As As' : List HA} {a : Option Addr} {cap : Nat} {l : List LFil} {i k : Nat} (hi : i < l.length) (hk : k < (nth l i).op.length) (hn : 0 < (nth (nth l i).op k).lk.length) (h : HS w0 M As w) (hp : Pick As (.files a cap l) As') : ∃ g, (nth (nth l i).op k).la = some ⟨g, 0, none⟩ ∧ (nth (nth l i).op k).lk.length ≤ (nth (nth l i).op k).lc ∧ (nth (nth l i).op k).lc ≤ maxLen := by
  have h1 := (HS.files_open h hp).tail.sub_open hi
  have h2 := (HS.opens_split (a := (nth l i).oa) (cap := (nth l i).oc) (l := (nth l i).op) h1 .here).tail.sub_open hk
  exact own_addr hn h2 .here
end Go.Proofs

namespace Go.Proofs
open Go Go.RowKit Gx
set_option linter.unusedVariables false
set_option linter.unusedSimpArgs false
attribute [local irreducible] Go.Calls Gx.S Gx.O Gx.D Gx.OpP Gx.OpQ Gx.OpH

theorem fn_28 : isFn Try.prog 28 = true := by kernel_rfl
theorem fn_29 : isFn Try.prog 29 = true := by kernel_rfl


set_option maxRecDepth 20000 in
set_option maxHeartbeats 2000000 in
theorem c7 (w : World) (a : Option Addr) (cap : Nat) (l : List HAct) (hs : Rw HAct.vals 9 w [] a l) : Calls Try.prog 7 #[.slice a l.length cap] w fun en w' => en = .returned (.bool true) ∧ Below w.heap.size w w' := by
  refine enter (args := [_]) Try.func7 Try.ntmps7 rfl rfl (HS.refl w []) ?_
  refine s_seq ?_
  refine s_region ?_
  refine o_p (p_pure rfl) rfl ?_
  refine o_nil ?_
  refine s_seq ?_
  refine s_seq ?_
  refine s_region ?_
  refine o_q (q_call rfl fn_11 rfl (fun w1 h1 => c11 w1)) rfl ?_
  refine o_p (p_pure rfl) rfl ?_
  refine o_nil ?_
  refine s_cond rfl (fun h1 => ?_) (fun h1 => ?_)
  · try simp only [decide_eq_true_eq, decide_eq_false_iff_not, Bool.not_eq_true', Bool.not_eq_false', Bool.and_eq_true, Bool.or_eq_true, Bool.and_eq_false_iff, Bool.or_eq_false_iff, Bool.not_true, Bool.not_false] at h1
    exfalso; first | omega | (simp at h1; done) | (simp_all; done)
  · try simp only [decide_eq_true_eq, decide_eq_false_iff_not, Bool.not_eq_true', Bool.not_eq_false', Bool.and_eq_true, Bool.or_eq_true, Bool.and_eq_false_iff, Bool.or_eq_false_iff, Bool.not_true, Bool.not_false] at h1
    refine s_skip ?_
    refine s_seq ?_
    refine s_seq ?_
    refine s_region ?_
    refine o_p (p_pure rfl) rfl ?_
    refine o_p (p_len_slice rfl rfl Try.underlying22) rfl ?_
    refine o_p (p_pure rfl) rfl ?_
    refine o_nil ?_
    refine s_cond rfl (fun h2 => ?_) (fun h2 => ?_)
    · try simp only [decide_eq_true_eq, decide_eq_false_iff_not, Bool.not_eq_true', Bool.not_eq_false', Bool.and_eq_true, Bool.or_eq_true, Bool.and_eq_false_iff, Bool.or_eq_false_iff, Bool.not_true, Bool.not_false] at h2
      refine s_seq ?_
      refine s_region ?_
      refine o_p (p_pure rfl) rfl ?_
      refine o_nil ?_
      exact s_retv (rs := [.tmp 2]) rfl (.tmp rfl (.nil)) (fun w' h' => ⟨by rfl, h'.below⟩)
    · try simp only [decide_eq_true_eq, decide_eq_false_iff_not, Bool.not_eq_true', Bool.not_eq_false', Bool.and_eq_true, Bool.or_eq_true, Bool.and_eq_false_iff, Bool.or_eq_false_iff, Bool.not_true, Bool.not_false] at h2
      have hl60 : l.length ≤ 60 := by have hq := h2; omega
      refine s_skip ?_
      refine s_seq ?_
      refine s_region ?_
      refine o_h (h_buildSlice0 rfl sl_22) rfl (fun b3 _ => ?_)
      refine o_p (p_pure rfl) rfl ?_
      refine o_h (h_appendS (n := 0) (l.flatMap HAct.vals) rfl rfl rfl sl_22 Try.underlying22 zr_44 rfl aPk (fun w h => Rw.src hv9 hs h) (flat_length hv9 _) (flat_one hv1 _) (by omega) (by simp only [maxLen]; omega)) rfl (fun b4 _ => ?_)
      simp only [Nat.zero_add, List.nil_append]
      refine o_h (h_call rfl fn_12 rfl (fun w1 h1 => c12 w1 b4.1 b4.2 l (h1.rw_own hv9 aPk rfl) (by omega))) rfl (fun ⟨⟨⟨ta, tc⟩, N⟩, o⟩ hN => ?_)
      dsimp only at hN ⊢
      refine o_p (p_pure rfl) rfl ?_
      refine o_p (p_pure rfl) rfl ?_
      refine o_p (p_pure rfl) rfl ?_
      refine o_p (p_pure rfl) rfl ?_
      refine o_h (h_alloc rfl zr_26) rfl (fun b5 _ => ?_)
      refine o_h0 (h_store rfl rfl rfl sz_26 rfl aPt (by simp only [setMany_length, List.length_set, List.length_cons, List.length_nil, List.length_map]; omega) rfl) (fun _ _ => ?_)
      refine o_p (p_pure rfl) rfl ?_
      refine o_p (p_pure rfl) rfl ?_
      refine o_nil ?_
      refine s_seq ?_
      refine s_seq ?_
      refine s_region ?_
      refine o_p (p_pure rfl) rfl ?_
      refine o_p (p_pure rfl) rfl ?_
      refine o_nil ?_
      refine s_cond rfl (fun h6 => ?_) (fun h6 => ?_)
      · try simp only [decide_eq_true_eq, decide_eq_false_iff_not, Bool.not_eq_true', Bool.not_eq_false', Bool.and_eq_true, Bool.or_eq_true, Bool.and_eq_false_iff, Bool.or_eq_false_iff, Bool.not_true, Bool.not_false] at h6
        have hre : ¬ runE l = 0 := h6
        have hr15 := runE_15 hl60 hre
        refine s_seq ?_
        refine s_region ?_
        refine o_p (p_pure rfl) rfl ?_
        refine o_p (p_pure rfl) rfl ?_
        refine o_p (p_pure rfl) rfl ?_
        refine o_nil ?_
        exact s_retv (rs := [.tmp 2]) rfl (.tmp rfl (.nil)) (fun w' h' => ⟨by rw [hr15]; rfl, h'.below⟩)
      · try simp only [decide_eq_true_eq, decide_eq_false_iff_not, Bool.not_eq_true', Bool.not_eq_false', Bool.and_eq_true, Bool.or_eq_true, Bool.and_eq_false_iff, Bool.or_eq_false_iff, Bool.not_true, Bool.not_false] at h6
        have hre : runE l = 0 := h6
        have hrr := runR_0 hre
        have hok := runS_ok l
        rw [← hrr, ← hN] at hok
        have hV := hok.vw
        have hb := vw_b hV
        have hb2 := VW.lens hV
        have hfw := vw_few hV
        have hck := ok_chk' hok
        refine s_skip ?_
        refine s_seq ?_
        refine s_seq ?_
        refine s_region ?_
        refine o_q (q_loadn rfl rfl sz_26 aPk rfl) rfl ?_
        refine o_h (h_call rfl fn_19 rfl (fun w1 h1 => c19 w1 (runR l).1.2 ta tc N (HS.ft (a := ta) (cap := tc) (l := N) h1 aPk) hb.1 hb.2.1 hb.2.2)) rfl (fun ⟨⟨ca, cc⟩, N2⟩ hgd => ?_)
        dsimp only at hgd ⊢
        refine o_q (q_call rfl fn_18 rfl (fun w1 h1 => by have nb := same_b hgd hb; have h9 := c18 w1 (runR l).1.2 ca cc N2 (HS.ft (a := ca) (cap := cc) (l := N2) h1 aPk) nb.1 nb.2.1; rw [show pls N2 = pls N from hgd, hck] at h9; exact h9)) rfl ?_
        refine o_p (p_pure rfl) rfl ?_
        refine o_p (p_pure rfl) rfl ?_
        refine o_p (p_pure rfl) rfl ?_
        refine o_p (p_pure rfl) rfl ?_
        refine o_p (p_pure rfl) rfl ?_
        refine o_nil ?_
        refine s_seq ?_
        refine s_region ?_
        refine o_p (p_pure rfl) rfl ?_
        refine o_p (p_pure rfl) rfl ?_
        refine o_p (p_pure rfl) rfl ?_
        refine o_or 3 44 47 _ _ rfl
          (by
            intro hg7
            have hs8 := hg7; try simp only [decide_eq_true_eq, decide_eq_false_iff_not, Bool.not_eq_true', Bool.not_eq_false', Bool.and_eq_true, Bool.or_eq_true, Bool.and_eq_false_iff, Bool.or_eq_false_iff, Bool.not_true, Bool.not_false] at hs8
            refine o_on 44 _ rfl rfl hg7 ?_
            refine o_p (p_pure rfl) rfl ?_
            refine o_on 44 _ rfl rfl hg7 ?_
            refine o_p (p_pure rfl) rfl ?_
            refine o_p (p_pickf rfl rfl hg7 rfl) rfl ?_
            refine o_nil ?_
            exact s_joinN 3 47 _ rfl rfl rfl (fun w h => by first | exact h | exact h.ent aEt))
          (by
            intro hg9
            have hs10 := hg9; try simp only [decide_eq_true_eq, decide_eq_false_iff_not, Bool.not_eq_true', Bool.not_eq_false', Bool.and_eq_true, Bool.or_eq_true, Bool.and_eq_false_iff, Bool.or_eq_false_iff, Bool.not_true, Bool.not_false] at hs10
            refine o_off 44 _ rfl rfl hg9 rfl ?_
            refine o_off 44 _ rfl rfl hg9 rfl ?_
            refine o_p (p_pickt rfl rfl hg9 rfl) rfl ?_
            refine o_nil ?_
            exact s_joinN 3 47 _ rfl rfl rfl (fun w h => by first | exact h | exact h.ent aEt)) ?_
        refine o_p (p_pure rfl) rfl ?_
        refine o_or 4 48 52 _ _ rfl
          (by
            intro hg11
            have hs12 := hg11; try simp only [decide_eq_true_eq, decide_eq_false_iff_not, Bool.not_eq_true', Bool.not_eq_false', Bool.and_eq_true, Bool.or_eq_true, Bool.and_eq_false_iff, Bool.or_eq_false_iff, Bool.not_true, Bool.not_false] at hs12
            refine o_on 48 _ rfl rfl hg11 ?_
            refine o_q (q_loadn rfl rfl sz_26 aPk rfl) rfl ?_
            refine o_on 48 _ rfl rfl hg11 ?_
            refine o_q (q_call rfl fn_17 rfl (fun w1 h1 => by have h9 := c17 w1 (runR l).1.2 ta tc N (HS.ft (a := ta) (cap := tc) (l := N) h1 aPk); rw [hfw] at h9; exact h9)) rfl ?_
            refine o_on 48 _ rfl rfl hg11 ?_
            refine o_p (p_pure rfl) rfl ?_
            refine o_p (p_pickf rfl rfl hg11 rfl) rfl ?_
            refine o_nil ?_
            exact s_joinN 4 52 _ rfl rfl rfl (fun w h => by first | exact h | exact h.ent aEt))
          (by
            intro hg13
            have hs14 := hg13; try simp only [decide_eq_true_eq, decide_eq_false_iff_not, Bool.not_eq_true', Bool.not_eq_false', Bool.and_eq_true, Bool.or_eq_true, Bool.and_eq_false_iff, Bool.or_eq_false_iff, Bool.not_true, Bool.not_false] at hs14
            refine o_off 48 _ rfl rfl hg13 rfl ?_
            refine o_off 48 _ rfl rfl hg13 rfl ?_
            refine o_off 48 _ rfl rfl hg13 rfl ?_
            refine o_p (p_pickt rfl rfl hg13 rfl) rfl ?_
            refine o_nil ?_
            exact s_joinN 4 52 _ rfl rfl rfl (fun w h => by first | exact h | exact h.ent aEt)) ?_
        refine o_p (p_pure rfl) rfl ?_
        refine o_or 4 53 57 _ _ rfl
          (by
            intro hg15
            have hs16 := hg15; try simp only [decide_eq_true_eq, decide_eq_false_iff_not, Bool.not_eq_true', Bool.not_eq_false', Bool.and_eq_true, Bool.or_eq_true, Bool.and_eq_false_iff, Bool.or_eq_false_iff, Bool.not_true, Bool.not_false] at hs16
            refine o_on 53 _ rfl rfl hg15 ?_
            refine o_q (q_loadn rfl rfl sz_26 aPk rfl) rfl ?_
            refine o_on 53 _ rfl rfl hg15 ?_
            refine o_q (q_call rfl fn_31 rfl (fun w1 h1 => by have h9 := c31 w1 (runR l).1.2 ta tc N (HS.ft (a := ta) (cap := tc) (l := N) h1 aPk) hb.1 hb.2.1; rw [hck] at h9; exact h9)) rfl ?_
            refine o_on 53 _ rfl rfl hg15 ?_
            refine o_p (p_pure rfl) rfl ?_
            refine o_p (p_pickf rfl rfl hg15 rfl) rfl ?_
            refine o_nil ?_
            exact s_joinN 4 57 _ rfl rfl rfl (fun w h => by first | exact h | exact h.ent aEt))
          (by
            intro hg17
            have hs18 := hg17; try simp only [decide_eq_true_eq, decide_eq_false_iff_not, Bool.not_eq_true', Bool.not_eq_false', Bool.and_eq_true, Bool.or_eq_true, Bool.and_eq_false_iff, Bool.or_eq_false_iff, Bool.not_true, Bool.not_false] at hs18
            refine o_off 53 _ rfl rfl hg17 rfl ?_
            refine o_off 53 _ rfl rfl hg17 rfl ?_
            refine o_off 53 _ rfl rfl hg17 rfl ?_
            refine o_p (p_pickt rfl rfl hg17 rfl) rfl ?_
            refine o_nil ?_
            exact s_joinN 4 57 _ rfl rfl rfl (fun w h => by first | exact h | exact h.ent aEt)) ?_
        refine o_nil ?_
        refine s_cond rfl (fun h19 => ?_) (fun h19 => ?_)
        · try simp only [decide_eq_true_eq, decide_eq_false_iff_not, Bool.not_eq_true', Bool.not_eq_false', Bool.and_eq_true, Bool.or_eq_true, Bool.and_eq_false_iff, Bool.or_eq_false_iff, Bool.not_true, Bool.not_false] at h19
          exfalso; have hq := h19; simp at hq
        · try simp only [decide_eq_true_eq, decide_eq_false_iff_not, Bool.not_eq_true', Bool.not_eq_false', Bool.and_eq_true, Bool.or_eq_true, Bool.and_eq_false_iff, Bool.or_eq_false_iff, Bool.not_true, Bool.not_false] at h19
          refine s_skip ?_
          refine s_seq ?_
          refine s_seq ?_
          refine s_weaken (L' := [(2, _), (3, _)]) aSx (fun _ h => h) ?_
          refine s_region ?_
          refine o_p (p_pure rfl) rfl ?_
          refine o_nil ?_
          refine s_block ?_
          refine s_loopI (α := Nat) [2, 8, 9, 10, 11, 12, 13, 14, 15, 16, 17, 18, 58, 59, 60, 61, 62, 63, 64, 65, 66, 67, 68, 69, 70, 71, 72, 73, 74, 75, 76, 77, 78, 79, 80, 81, 82, 83, 84, 85, 86, 87, 88, 89, 90, 91, 92, 93, 94, 95, 96, 97, 98, 99, 100, 101, 102, 103, 104, 105, 106, 107, 108, 109, 110, 111, 112, 113, 114, 115, 116, 117, 118, 119, 120, 121, 122, 123, 124, 125, 126, 127, 128, 129, 130, 131, 132, 133, 134, 135, 136, 137, 138, 139, 140, 141, 142, 143, 144, 145, 146, 147, 148, 149, 150, 151, 152, 153, 154, 155, 156, 157, 158, 159, 160, 161, 162, 163, 164, 165, 166, 167, 168, 169] (fun i => [(8, .int .i64 (i : Int))]) (fun _ => HS w [] [.files ta tc N, .blk b5 26 2 [.int .i64 (runR l).1.2, .slice ta N.length tc]]) (fun i => i ≤ N.length) (fun i => N.length - i) 0 (Nat.zero_le _) aSx (fun w h => h.ent aEt) (fun i hi1 => ?_)
          refine s_seq ?_
          refine s_seq ?_
          refine s_region ?_
          refine o_p (p_pure rfl) rfl ?_
          refine o_p (p_fieldAddr rfl rfl fd_26_1 sz_24 rfl) rfl ?_
          refine o_q (q_load rfl rfl sz_24 aPk rfl) rfl ?_
          refine o_p (p_len_slice rfl rfl Try.underlying24) rfl ?_
          refine o_p (p_pure rfl) rfl ?_
          refine o_nil ?_
          refine s_cond rfl (fun h20 => ?_) (fun h20 => ?_)
          · try simp only [decide_eq_true_eq, decide_eq_false_iff_not, Bool.not_eq_true', Bool.not_eq_false', Bool.and_eq_true, Bool.or_eq_true, Bool.and_eq_false_iff, Bool.or_eq_false_iff, Bool.not_true, Bool.not_false] at h20
            have hi : i < N.length := by omega
            have hi2 : i < (pls N).length := by simpa using hi
            have hop := hb2.2 _ (mem_nth hi)
            have hne : 0 < (nth N i).op.length := by have h9 := (nth_Ok hok hi2).ne; rw [nth_pls hi] at h9; simpa [LFil.pl] using h9
            refine s_fact (fun w h => files_addr (a := ta) (cap := tc) (l := N) (by omega) h aPk) (fun hga => ?_)
            obtain ⟨ga, hga, hcap, hcm⟩ := hga
            refine s_fact (fun w h => file_addr (a := ta) (cap := tc) (l := N) (i := i) hi hne h aPk) (fun hgo => ?_)
            obtain ⟨go, hgo, hoc, hom⟩ := hgo
            refine s_skip ?_
            refine s_seq ?_
            refine s_block ?_
            refine s_seq ?_
            refine s_region ?_
            refine o_p (p_fieldAddr rfl rfl fd_26_1 sz_24 rfl) rfl ?_
            refine o_q (q_load rfl rfl sz_24 aPk rfl) rfl ?_
            refine o_p (p_pure rfl) rfl ?_
            refine o_p (p_indexAddr rfl rfl rfl sl_24 (i) (by omega) (by omega) hga) rfl ?_
            refine o_p (p_fieldAddr rfl rfl fd_77_2 sz_75 rfl) rfl ?_
            refine o_q (q_load_at rfl rfl sz_75 (fun w h => by have h9 := (HS.ft (a := ta) (cap := tc) (l := N) h aPk).1.rdj 3 hi rfl; rw [hga] at h9; exact h9)) rfl ?_
            refine o_p (p_pure rfl) rfl ?_
            refine o_nil ?_
            refine s_seq ?_
            refine s_region ?_
            refine o_p (p_pure rfl) rfl ?_
            refine o_nil ?_
            refine s_block ?_
            refine s_weaken (L' := [(3, _), (8, _), (9, _), (10, _)]) aSx (fun _ h => h) ?_
            refine s_loopI (α := Nat) [2, 10, 11, 12, 13, 14, 15, 16, 17, 18, 71, 72, 73, 74, 75, 76, 77, 78, 79, 80, 81, 82, 83, 84, 85, 86, 87, 88, 89, 90, 91, 92, 93, 94, 95, 96, 97, 98, 99, 100, 101, 102, 103, 104, 105, 106, 107, 108, 109, 110, 111, 112, 113, 114, 115, 116, 117, 118, 119, 120, 121, 122, 123, 124, 125, 126, 127, 128, 129, 130, 131, 132, 133, 134, 135, 136, 137, 138, 139, 140, 141, 142, 143, 144, 145, 146, 147, 148, 149, 150, 151, 152, 153, 154, 155, 156, 157, 158, 159, 160, 161, 162, 163, 164, 165, 166, 167, 168, 169] (fun k => [(10, .int .i64 (k : Int))]) (fun _ => HS w [] [.files ta tc N, .blk b5 26 2 [.int .i64 (runR l).1.2, .slice ta N.length tc]]) (fun k => k ≤ (nth N i).op.length) (fun k => (nth N i).op.length - k) 0 (Nat.zero_le _) aSx (fun w h => h.ent aEt) (fun k hk1 => ?_)
            refine s_seq ?_
            refine s_seq ?_
            refine s_region ?_
            refine o_p (p_pure rfl) rfl ?_
            refine o_p (p_pure rfl) rfl ?_
            refine o_p (p_len_slice rfl rfl Try.underlying75) rfl ?_
            refine o_p (p_pure rfl) rfl ?_
            refine o_nil ?_
            refine s_cond rfl (fun h21 => ?_) (fun h21 => ?_)
            · try simp only [decide_eq_true_eq, decide_eq_false_iff_not, Bool.not_eq_true', Bool.not_eq_false', Bool.and_eq_true, Bool.or_eq_true, Bool.and_eq_false_iff, Bool.or_eq_false_iff, Bool.not_true, Bool.not_false] at h21
              have hk : k < (nth N i).op.length := by omega
              refine s_skip ?_
              refine s_seq ?_
              refine s_block ?_
              refine s_seq ?_
              refine s_region ?_
              refine o_p (p_pure rfl) rfl ?_
              refine o_nil ?_
              refine s_block ?_
              refine s_loopI (α := Nat) [2, 11, 12, 13, 14, 15, 16, 17, 18, 77, 78, 79, 80, 81, 82, 83, 84, 85, 86, 87, 88, 89, 90, 91, 92, 93, 94, 95, 96, 97, 98, 99, 100, 101, 102, 103, 104, 105, 106, 107, 108, 109, 110, 111, 112, 113, 114, 115, 116, 117, 118, 119, 120, 121, 122, 123, 124, 125, 126, 127, 128, 129, 130, 131, 132, 133, 134, 135, 136, 137, 138, 139, 140, 141, 142, 143, 144, 145, 146, 147, 148, 149, 150, 151, 152, 153, 154, 155, 156, 157, 158, 159, 160, 161, 162, 163, 164, 165, 166, 167, 168, 169] (fun n => [(11, .int .i64 (n : Int))]) (fun _ => HS w [] [.files ta tc N, .blk b5 26 2 [.int .i64 (runR l).1.2, .slice ta N.length tc]]) (fun n => n ≤ (nth N i).op.length) (fun n => (nth N i).op.length - n) 0 (Nat.zero_le _) aSx (fun w h => h.ent aEt) (fun n hn1 => ?_)
              refine s_seq ?_
              refine s_seq ?_
              refine s_region ?_
              refine o_p (p_pure rfl) rfl ?_
              refine o_p (p_pure rfl) rfl ?_
              refine o_p (p_len_slice rfl rfl Try.underlying75) rfl ?_
              refine o_p (p_pure rfl) rfl ?_
              refine o_nil ?_
              refine s_cond rfl (fun h22 => ?_) (fun h22 => ?_)
              · try simp only [decide_eq_true_eq, decide_eq_false_iff_not, Bool.not_eq_true', Bool.not_eq_false', Bool.and_eq_true, Bool.or_eq_true, Bool.and_eq_false_iff, Bool.or_eq_false_iff, Bool.not_true, Bool.not_false] at h22
                have hn : n < (nth N i).op.length := by omega
                have hv9 := VW.at hV hi hn
                refine s_skip ?_
                refine s_seq ?_
                refine s_block ?_
                refine s_seq ?_
                refine s_seq ?_
                refine s_region ?_
                refine o_p (p_pure rfl) rfl ?_
                refine o_p (p_pure rfl) rfl ?_
                refine o_p (p_pure rfl) rfl ?_
                refine o_nil ?_
                refine s_cond rfl (fun h23 => ?_) (fun h23 => ?_)
                · try simp only [decide_eq_true_eq, decide_eq_false_iff_not, Bool.not_eq_true', Bool.not_eq_false', Bool.and_eq_true, Bool.or_eq_true, Bool.and_eq_false_iff, Bool.or_eq_false_iff, Bool.not_true, Bool.not_false] at h23
                  have hnk : ¬ n = k := by have hq := h23; (try simp at hq); omega
                  have hcf := cfl_apart hok hi hk hn hnk
                  refine s_seq ?_
                  refine s_draw [] mixed ?_
                  refine d_p 0 rfl (p_pure rfl) (by kernel_rfl) rfl rfl ?_
                  refine d_p 1 rfl (p_pure rfl) (by kernel_rfl) rfl rfl ?_
                  refine d_p 2 rfl (p_indexAddr rfl rfl rfl sl_75 (k) (by omega) (by omega) hgo) (by kernel_rfl) rfl rfl ?_
                  refine d_q 3 [] rfl (q_load_atn (nth (nth N i).op k).vals rfl rfl sz_48 rfl (fun w h j v hj => by have h9 := Rw.rd ((HS.ft (a := ta) (cap := tc) (l := N) h aPk).at hi).1 hk j v hj; rw [hgo] at h9; exact h9)) (by kernel_rfl) (by kernel_rfl) (by kernel_rfl) rfl ?_
                  refine d_p 4 rfl (p_pure rfl) (by kernel_rfl) rfl rfl ?_
                  refine d_p 5 rfl (p_pure rfl) (by kernel_rfl) rfl rfl ?_
                  refine d_p 6 rfl (p_indexAddr rfl rfl rfl sl_75 (n) (by omega) (by omega) hgo) (by kernel_rfl) rfl rfl ?_
                  refine d_q 7 [] rfl (q_load_atn (nth (nth N i).op n).vals rfl rfl sz_48 rfl (fun w h j v hj => by have h9 := Rw.rd ((HS.ft (a := ta) (cap := tc) (l := N) h aPk).at hi).1 hn j v hj; rw [hgo] at h9; exact h9)) (by kernel_rfl) (by kernel_rfl) (by kernel_rfl) rfl ?_
                  refine d_q 8 [] rfl (q_call rfl fn_21 rfl (fun w1 h1 => by have h9 := c21 w1 (nth (nth N i).op k) (nth (nth N i).op n); rw [hcf] at h9; exact h9)) (by kernel_rfl) (by kernel_rfl) (by kernel_rfl) rfl ?_
                  refine d_p 9 rfl (p_pure rfl) (by kernel_rfl) rfl rfl ?_
                  refine d_p 10 rfl (p_pure rfl) (by kernel_rfl) rfl rfl ?_
                  refine d_p 11 rfl (p_pure rfl) (by kernel_rfl) rfl rfl ?_
                  refine d_p 12 rfl (p_pure rfl) (by kernel_rfl) rfl rfl ?_
                  refine d_p 13 rfl (p_pure rfl) (by kernel_rfl) rfl rfl ?_
                  refine d_nil (by kernel_rfl) (fun w h => h.ent aEt) ?_
                  refine s_seq ?_
                  refine s_weaken (L' := [(3, _), (8, _), (9, _), (10, _), (11, _), (12, _), (13, _), (71, _), (72, _), (73, _), (74, _)]) aSx (fun _ h => h) ?_
                  refine s_region ?_
                  refine o_p (p_pure rfl) rfl ?_
                  refine o_p (p_pure rfl) rfl ?_
                  refine o_p (p_pure rfl) rfl ?_
                  refine o_or 2 100 102 _ _ rfl
                    (by
                      intro hg24
                      have hs25 := hg24; try simp only [decide_eq_true_eq, decide_eq_false_iff_not, Bool.not_eq_true', Bool.not_eq_false', Bool.and_eq_true, Bool.or_eq_true, Bool.and_eq_false_iff, Bool.or_eq_false_iff, Bool.not_true, Bool.not_false] at hs25
                      refine o_on 100 _ rfl rfl hg24 ?_
                      refine o_p (p_pure rfl) rfl ?_
                      refine o_p (p_pickf rfl rfl hg24 rfl) rfl ?_
                      refine o_nil ?_
                      exact s_joinN 2 102 _ rfl rfl rfl (fun w h => by first | exact h | exact h.ent aEt))
                    (by
                      intro hg26
                      have hs27 := hg26; try simp only [decide_eq_true_eq, decide_eq_false_iff_not, Bool.not_eq_true', Bool.not_eq_false', Bool.and_eq_true, Bool.or_eq_true, Bool.and_eq_false_iff, Bool.or_eq_false_iff, Bool.not_true, Bool.not_false] at hs27
                      refine o_off 100 _ rfl rfl hg26 rfl ?_
                      refine o_p (p_pickt rfl rfl hg26 rfl) rfl ?_
                      refine o_nil ?_
                      exact s_joinN 2 102 _ rfl rfl rfl (fun w h => by first | exact h | exact h.ent aEt)) ?_
                  refine o_nil ?_
                  refine s_cond rfl (fun h28 => ?_) (fun h28 => ?_)
                  · try simp only [decide_eq_true_eq, decide_eq_false_iff_not, Bool.not_eq_true', Bool.not_eq_false', Bool.and_eq_true, Bool.or_eq_true, Bool.and_eq_false_iff, Bool.or_eq_false_iff, Bool.not_true, Bool.not_false] at h28
                    exfalso; have hq := h28; simp at hq
                  · try simp only [decide_eq_true_eq, decide_eq_false_iff_not, Bool.not_eq_true', Bool.not_eq_false', Bool.and_eq_true, Bool.or_eq_true, Bool.and_eq_false_iff, Bool.or_eq_false_iff, Bool.not_true, Bool.not_false] at h28
                    refine s_skip ?_
                    refine s_seq ?_
                    refine s_region ?_
                    refine o_p (p_pure rfl) rfl ?_
                    refine o_nil ?_
                    refine s_block ?_
                    refine s_loopI (α := Nat) [2, 14, 15, 16, 17, 18, 103, 104, 105, 106, 107, 108, 109, 110, 111, 112, 113, 114, 115, 116, 117, 118, 119, 120, 121, 122, 123, 124, 125, 126, 127, 128, 129, 130, 131, 132, 133, 134, 135, 136, 137, 138, 139, 140, 141, 142, 143, 144, 145, 146, 147, 148, 149, 150, 151, 152, 153, 154, 155, 156, 157, 158, 159, 160, 161, 162, 163, 164, 165, 166, 167, 168, 169] (fun m => [(14, .int .i64 (m : Int))]) (fun _ => HS w [] [.files ta tc N, .blk b5 26 2 [.int .i64 (runR l).1.2, .slice ta N.length tc]]) (fun m => m ≤ (nth (nth N i).op n).lk.length) (fun m => (nth (nth N i).op n).lk.length - m) 0 (Nat.zero_le _) aSx (fun w h => h.ent aEt) (fun m hm1 => ?_)
                    refine s_seq ?_
                    refine s_seq ?_
                    refine s_region ?_
                    refine o_p (p_pure rfl) rfl ?_
                    refine o_p (p_pure rfl) rfl ?_
                    refine o_p (p_pure rfl) rfl ?_
                    refine o_p (p_indexAddr rfl rfl rfl sl_75 (n) (by omega) (by omega) hgo) rfl ?_
                    refine o_p (p_fieldAddr rfl rfl fd_48_4 sz_46 rfl) rfl ?_
                    refine o_q (q_load_at rfl rfl sz_46 (fun w h => by have h9 := ((HS.ft (a := ta) (cap := tc) (l := N) h aPk).at hi).1.rdj 4 hn rfl; rw [hgo] at h9; exact h9)) rfl ?_
                    refine o_p (p_len_slice rfl rfl Try.underlying46) rfl ?_
                    refine o_p (p_pure rfl) rfl ?_
                    refine o_nil ?_
                    refine s_cond rfl (fun h29 => ?_) (fun h29 => ?_)
                    · try simp only [decide_eq_true_eq, decide_eq_false_iff_not, Bool.not_eq_true', Bool.not_eq_false', Bool.and_eq_true, Bool.or_eq_true, Bool.and_eq_false_iff, Bool.or_eq_false_iff, Bool.not_true, Bool.not_false] at h29
                      have hm : m < (nth (nth N i).op n).lk.length := by omega
                      have hrg := rngE_r (okL_nth hv9.2.1 hm)
                      refine s_fact (fun w h => lock_addr (a := ta) (cap := tc) (l := N) (i := i) (k := n) hi hn (by omega) h aPk) (fun hgl => ?_)
                      obtain ⟨gl, hgl, hlc, hlm⟩ := hgl
                      have hW := may_hit hok hi hk hn hm true
                      have hR := may_hit hok hi hk hn hm false
                      rw [kpW_t, wrK] at hW
                      rw [kpW_f, rdK] at hR
                      refine s_skip ?_
                      refine s_seq ?_
                      refine s_block ?_
                      refine s_seq ?_
                      refine s_region ?_
                      refine o_p (p_pure rfl) rfl ?_
                      refine o_p (p_pure rfl) rfl ?_
                      refine o_p (p_indexAddr rfl rfl rfl sl_75 (n) (by omega) (by omega) hgo) rfl ?_
                      refine o_p (p_fieldAddr rfl rfl fd_48_4 sz_46 rfl) rfl ?_
                      refine o_q (q_load_at rfl rfl sz_46 (fun w h => by have h9 := ((HS.ft (a := ta) (cap := tc) (l := N) h aPk).at hi).1.rdj 4 hn rfl; rw [hgo] at h9; exact h9)) rfl ?_
                      refine o_p (p_pure rfl) rfl ?_
                      refine o_p (p_indexAddr rfl rfl rfl sl_46 (m) (by omega) (by omega) hgl) rfl ?_
                      refine o_q (q_load_atn (nth (nth (nth N i).op n).lk m).vals rfl rfl sz_62 rfl (fun w h j v hj => by have h9 := Rw.rd (((HS.ft (a := ta) (cap := tc) (l := N) h aPk).at hi).at hn) hm j v hj; rw [hgl] at h9; exact h9)) rfl ?_
                      refine o_h (h_alloc rfl zr_62) rfl (fun b30 _ => ?_)
                      refine o_h0 (h_store rfl rfl rfl sz_62 rfl aPt (by simp only [setMany_length, List.length_set, List.length_cons, List.length_nil, List.length_map]; omega) rfl) (fun _ _ => ?_)
                      refine o_nil ?_
                      refine s_seq ?_
                      refine s_weaken (L' := [(3, _), (8, _), (9, _), (10, _), (11, _), (12, _), (13, _), (14, _), (15, _), (71, _), (72, _), (73, _), (74, _), (98, _), (99, _), (100, _), (102, _)]) aSx (fun _ h => h) ?_
                      refine s_region ?_
                      refine o_p (p_fieldAddr rfl rfl fd_62_0 sz_3 rfl) rfl ?_
                      refine o_q (q_load rfl rfl sz_3 aPk rfl) rfl ?_
                      refine o_p (p_fieldAddr rfl rfl fd_62_1 sz_3 rfl) rfl ?_
                      refine o_q (q_load rfl rfl sz_3 aPk rfl) rfl ?_
                      refine o_p (p_pure rfl) rfl ?_
                      try (refine o_slot (i64w (by omega) (by omega)) ?_)
                      refine o_p (p_pure rfl) rfl ?_
                      try (refine o_slot (i64w (by omega) (by omega)) ?_)
                      refine o_p (p_pure rfl) rfl ?_
                      refine o_nil ?_
                      refine s_seq ?_
                      refine s_draw [] mixed ?_
                      refine d_q 0 [] rfl (q_loadn rfl rfl sz_26 aPk rfl) (by kernel_rfl) (by kernel_rfl) (by kernel_rfl) rfl ?_
                      refine d_p 2 rfl (p_pure rfl) (by kernel_rfl) rfl rfl ?_
                      refine d_p 3 rfl (p_pure rfl) (by kernel_rfl) rfl rfl ?_
                      refine d_p 4 rfl (p_indexAddr rfl rfl rfl sl_75 (k) (by omega) (by omega) hgo) (by kernel_rfl) rfl rfl ?_
                      refine d_p 5 rfl (p_fieldAddr rfl rfl fd_48_0 sz_3 rfl) (by kernel_rfl) rfl rfl ?_
                      refine d_q 6 [] rfl (q_load_at rfl rfl sz_3 (fun w h => by have h9 := ((HS.ft (a := ta) (cap := tc) (l := N) h aPk).at hi).1.rdj 0 hk rfl; rw [hgo] at h9; exact h9)) (by kernel_rfl) (by kernel_rfl) (by kernel_rfl) rfl ?_
                      refine d_p 7 rfl (p_pure rfl) (by kernel_rfl) rfl rfl ?_
                      refine d_h 1 rfl (h_call rfl fn_19 rfl (fun w1 h1 => c19 w1 (runR l).1.2 ta tc N (HS.ft (a := ta) (cap := tc) (l := N) h1 aPk) hb.1 hb.2.1 hb.2.2)) (by kernel_rfl) (fun w h => h.ent aEt) rfl (fun ⟨⟨ca, cc⟩, N2⟩ hgd => ?_)
                      refine d_base (fun w h => h.ent aEt) ?_
                      dsimp only at hgd ⊢
                      refine d_q 8 [] rfl (q_call rfl fn_28 rfl (fun w1 h1 => by have nb := same_b hgd hb; have h9 := c28 w1 (runR l).1.2 ca cc N2 (nth (nth N i).op k).hd ((nth (nth (nth N i).op n).lk m).fr + (nth (nth (nth N i).op n).lk m).cnt - 1) 1 (HS.ft (a := ca) (cap := cc) (l := N2) h1 aPk) nb.1 nb.2.1; rw [show pls N2 = pls N from hgd] at h9; exact h9)) (by kernel_rfl) (by kernel_rfl) (by kernel_rfl) rfl ?_
                      refine d_p 9 rfl (p_pure rfl) (by kernel_rfl) rfl rfl ?_
                      refine d_nil (by kernel_rfl) (fun w h => h.ent aEt) ?_
                      refine s_seq ?_
                      refine s_weaken (L' := [(3, _), (8, _), (9, _), (10, _), (11, _), (12, _), (13, _), (14, _), (15, _), (16, _), (17, _), (71, _), (72, _), (73, _), (74, _), (98, _), (99, _), (100, _), (102, _)]) aSx (fun _ h => h) ?_
                      refine s_draw [] mixed ?_
                      refine d_q 0 [] rfl (q_loadn rfl rfl sz_26 aPk rfl) (by kernel_rfl) (by kernel_rfl) (by kernel_rfl) rfl ?_
                      refine d_p 2 rfl (p_pure rfl) (by kernel_rfl) rfl rfl ?_
                      refine d_p 3 rfl (p_pure rfl) (by kernel_rfl) rfl rfl ?_
                      refine d_p 4 rfl (p_indexAddr rfl rfl rfl sl_75 (k) (by omega) (by omega) hgo) (by kernel_rfl) rfl rfl ?_
                      refine d_p 5 rfl (p_fieldAddr rfl rfl fd_48_0 sz_3 rfl) (by kernel_rfl) rfl rfl ?_
                      refine d_q 6 [] rfl (q_load_at rfl rfl sz_3 (fun w h => by have h9 := ((HS.ft (a := ta) (cap := tc) (l := N) h aPk).at hi).1.rdj 0 hk rfl; rw [hgo] at h9; exact h9)) (by kernel_rfl) (by kernel_rfl) (by kernel_rfl) rfl ?_
                      refine d_p 7 rfl (p_pure rfl) (by kernel_rfl) rfl rfl ?_
                      refine d_h 1 rfl (h_call rfl fn_19 rfl (fun w1 h1 => c19 w1 (runR l).1.2 ta tc N (HS.ft (a := ta) (cap := tc) (l := N) h1 aPk) hb.1 hb.2.1 hb.2.2)) (by kernel_rfl) (fun w h => h.ent aEt) rfl (fun ⟨⟨ca, cc⟩, N2⟩ hgd => ?_)
                      refine d_base (fun w h => h.ent aEt) ?_
                      dsimp only at hgd ⊢
                      refine d_q 8 [] rfl (q_call rfl fn_29 rfl (fun w1 h1 => by have nb := same_b hgd hb; have h9 := c29 w1 (runR l).1.2 ca cc N2 (nth (nth N i).op k).hd ((nth (nth (nth N i).op n).lk m).fr + (nth (nth (nth N i).op n).lk m).cnt - 1) 1 (HS.ft (a := ca) (cap := cc) (l := N2) h1 aPk) nb.1 nb.2.1; rw [show pls N2 = pls N from hgd] at h9; exact h9)) (by kernel_rfl) (by kernel_rfl) (by kernel_rfl) rfl ?_
                      refine d_p 9 rfl (p_pure rfl) (by kernel_rfl) rfl rfl ?_
                      refine d_nil (by kernel_rfl) (fun w h => h.ent aEt) ?_
                      refine s_seq ?_
                      refine s_region ?_
                      refine o_p (p_pure rfl) rfl ?_
                      refine o_p (p_pure rfl) rfl ?_
                      refine o_p (p_pure rfl) rfl ?_
                      refine o_and 9 147 156 _ _ rfl
                        (by
                          intro hg31
                          have hs32 := hg31; try simp only [decide_eq_true_eq, decide_eq_false_iff_not, Bool.not_eq_true', Bool.not_eq_false', Bool.and_eq_true, Bool.or_eq_true, Bool.and_eq_false_iff, Bool.or_eq_false_iff, Bool.not_true, Bool.not_false] at hs32
                          refine o_on 147 _ rfl rfl hg31 ?_
                          refine o_p (p_fieldAddr rfl rfl fd_62_2 sz_4 rfl) rfl ?_
                          refine o_on 147 _ rfl rfl hg31 ?_
                          refine o_q (q_load rfl rfl sz_4 aPk rfl) rfl ?_
                          refine o_on 147 _ rfl rfl hg31 ?_
                          refine o_p (p_pure rfl) rfl ?_
                          refine o_on 147 _ rfl rfl hg31 ?_
                          refine o_p (p_pure rfl) rfl ?_
                          refine o_or 4 151 155 _ _ rfl
                            (by
                              intro hg33
                              have hs34 := hg33; try simp only [decide_eq_true_eq, decide_eq_false_iff_not, Bool.not_eq_true', Bool.not_eq_false', Bool.and_eq_true, Bool.or_eq_true, Bool.and_eq_false_iff, Bool.or_eq_false_iff, Bool.not_true, Bool.not_false] at hs34
                              refine o_on 151 _ rfl rfl hg33 ?_
                              refine o_p (p_pure rfl) rfl ?_
                              refine o_on 151 _ rfl rfl hg33 ?_
                              refine o_p (p_pure rfl) rfl ?_
                              refine o_on 151 _ rfl rfl hg33 ?_
                              refine o_p (p_pure rfl) rfl ?_
                              refine o_on 147 _ rfl rfl hg31 ?_
                              refine o_p (p_pickf rfl rfl hg33 rfl) rfl ?_
                              refine o_nil ?_
                              exact s_joinN 4 155 _ rfl rfl rfl (fun w h => by first | exact h | exact h.ent aEt))
                            (by
                              intro hg35
                              have hs36 := hg35; try simp only [decide_eq_true_eq, decide_eq_false_iff_not, Bool.not_eq_true', Bool.not_eq_false', Bool.and_eq_true, Bool.or_eq_true, Bool.and_eq_false_iff, Bool.or_eq_false_iff, Bool.not_true, Bool.not_false] at hs36
                              refine o_off 151 _ rfl rfl hg35 rfl ?_
                              refine o_off 151 _ rfl rfl hg35 rfl ?_
                              refine o_off 151 _ rfl rfl hg35 rfl ?_
                              refine o_on 147 _ rfl rfl hg31 ?_
                              refine o_p (p_pickt rfl rfl hg35 rfl) rfl ?_
                              refine o_nil ?_
                              exact s_joinN 4 155 _ rfl rfl rfl (fun w h => by first | exact h | exact h.ent aEt)) ?_
                          refine o_p (p_pickt rfl rfl hg31 rfl) rfl ?_
                          refine o_nil ?_
                          exact s_joinN 6 156 _ rfl rfl rfl (fun w h => by first | exact h | exact h.ent aEt))
                        (by
                          intro hg37
                          have hs38 := hg37; try simp only [decide_eq_true_eq, decide_eq_false_iff_not, Bool.not_eq_true', Bool.not_eq_false', Bool.and_eq_true, Bool.or_eq_true, Bool.and_eq_false_iff, Bool.or_eq_false_iff, Bool.not_true, Bool.not_false] at hs38
                          refine o_off 147 _ rfl rfl hg37 rfl ?_
                          refine o_off 147 _ rfl rfl hg37 rfl ?_
                          refine o_off 147 _ rfl rfl hg37 rfl ?_
                          refine o_off 147 _ rfl rfl hg37 rfl ?_
                          refine o_off' 151 rfl rfl rfl ?_
                          refine o_off' 151 rfl rfl rfl ?_
                          refine o_off' 151 rfl rfl rfl ?_
                          refine o_off 147 _ rfl rfl hg37 rfl ?_
                          refine o_p (p_pickf rfl rfl hg37 rfl) rfl ?_
                          refine o_nil ?_
                          exact s_joinN 9 156 _ rfl rfl rfl (fun w h => by first | exact h | exact h.ent aEt)) ?_
                      refine o_p (p_pure rfl) rfl ?_
                      refine o_or 12 157 169 _ _ rfl
                        (by
                          intro hg39
                          have hs40 := hg39; try simp only [decide_eq_true_eq, decide_eq_false_iff_not, Bool.not_eq_true', Bool.not_eq_false', Bool.and_eq_true, Bool.or_eq_true, Bool.and_eq_false_iff, Bool.or_eq_false_iff, Bool.not_true, Bool.not_false] at hs40
                          refine o_on 157 _ rfl rfl hg39 ?_
                          refine o_p (p_pure rfl) rfl ?_
                          refine o_on 157 _ rfl rfl hg39 ?_
                          refine o_p (p_pure rfl) rfl ?_
                          refine o_on 157 _ rfl rfl hg39 ?_
                          refine o_p (p_pure rfl) rfl ?_
                          refine o_and 3 160 163 _ _ rfl
                            (by
                              intro hg41
                              have hs42 := hg41; try simp only [decide_eq_true_eq, decide_eq_false_iff_not, Bool.not_eq_true', Bool.not_eq_false', Bool.and_eq_true, Bool.or_eq_true, Bool.and_eq_false_iff, Bool.or_eq_false_iff, Bool.not_true, Bool.not_false] at hs42
                              refine o_on 160 _ rfl rfl hg41 ?_
                              refine o_p (p_fieldAddr rfl rfl fd_62_2 sz_4 rfl) rfl ?_
                              refine o_on 160 _ rfl rfl hg41 ?_
                              refine o_q (q_load rfl rfl sz_4 aPk rfl) rfl ?_
                              refine o_on 157 _ rfl rfl hg39 ?_
                              refine o_p (p_pickt rfl rfl hg41 rfl) rfl ?_
                              refine o_nil ?_
                              exact s_joinN 3 163 _ rfl rfl rfl (fun w h => by first | exact h | exact h.ent aEt))
                            (by
                              intro hg43
                              have hs44 := hg43; try simp only [decide_eq_true_eq, decide_eq_false_iff_not, Bool.not_eq_true', Bool.not_eq_false', Bool.and_eq_true, Bool.or_eq_true, Bool.and_eq_false_iff, Bool.or_eq_false_iff, Bool.not_true, Bool.not_false] at hs44
                              refine o_off 160 _ rfl rfl hg43 rfl ?_
                              refine o_off 160 _ rfl rfl hg43 rfl ?_
                              refine o_on 157 _ rfl rfl hg39 ?_
                              refine o_p (p_pickf rfl rfl hg43 rfl) rfl ?_
                              refine o_nil ?_
                              exact s_joinN 3 163 _ rfl rfl rfl (fun w h => by first | exact h | exact h.ent aEt)) ?_
                          refine o_on 157 _ rfl rfl hg39 ?_
                          refine o_p (p_pure rfl) rfl ?_
                          refine o_and 4 164 168 _ _ rfl
                            (by
                              intro hg45
                              have hs46 := hg45; try simp only [decide_eq_true_eq, decide_eq_false_iff_not, Bool.not_eq_true', Bool.not_eq_false', Bool.and_eq_true, Bool.or_eq_true, Bool.and_eq_false_iff, Bool.or_eq_false_iff, Bool.not_true, Bool.not_false] at hs46
                              refine o_on 164 _ rfl rfl hg45 ?_
                              refine o_p (p_pure rfl) rfl ?_
                              refine o_on 164 _ rfl rfl hg45 ?_
                              refine o_p (p_pure rfl) rfl ?_
                              refine o_on 164 _ rfl rfl hg45 ?_
                              refine o_p (p_pure rfl) rfl ?_
                              refine o_on 157 _ rfl rfl hg39 ?_
                              refine o_p (p_pickt rfl rfl hg45 rfl) rfl ?_
                              refine o_nil ?_
                              exact s_joinN 4 168 _ rfl rfl rfl (fun w h => by first | exact h | exact h.ent aEt))
                            (by
                              intro hg47
                              have hs48 := hg47; try simp only [decide_eq_true_eq, decide_eq_false_iff_not, Bool.not_eq_true', Bool.not_eq_false', Bool.and_eq_true, Bool.or_eq_true, Bool.and_eq_false_iff, Bool.or_eq_false_iff, Bool.not_true, Bool.not_false] at hs48
                              refine o_off 164 _ rfl rfl hg47 rfl ?_
                              refine o_off 164 _ rfl rfl hg47 rfl ?_
                              refine o_off 164 _ rfl rfl hg47 rfl ?_
                              refine o_on 157 _ rfl rfl hg39 ?_
                              refine o_p (p_pickf rfl rfl hg47 rfl) rfl ?_
                              refine o_nil ?_
                              exact s_joinN 4 168 _ rfl rfl rfl (fun w h => by first | exact h | exact h.ent aEt)) ?_
                          refine o_p (p_pickf rfl rfl hg39 rfl) rfl ?_
                          refine o_nil ?_
                          exact s_joinN 7 169 _ rfl rfl rfl (fun w h => by first | exact h | exact h.ent aEt))
                        (by
                          intro hg49
                          have hs50 := hg49; try simp only [decide_eq_true_eq, decide_eq_false_iff_not, Bool.not_eq_true', Bool.not_eq_false', Bool.and_eq_true, Bool.or_eq_true, Bool.and_eq_false_iff, Bool.or_eq_false_iff, Bool.not_true, Bool.not_false] at hs50
                          refine o_off 157 _ rfl rfl hg49 rfl ?_
                          refine o_off 157 _ rfl rfl hg49 rfl ?_
                          refine o_off 157 _ rfl rfl hg49 rfl ?_
                          refine o_off' 160 rfl rfl rfl ?_
                          refine o_off' 160 rfl rfl rfl ?_
                          refine o_off 157 _ rfl rfl hg49 rfl ?_
                          refine o_off 157 _ rfl rfl hg49 rfl ?_
                          refine o_off' 164 rfl rfl rfl ?_
                          refine o_off' 164 rfl rfl rfl ?_
                          refine o_off' 164 rfl rfl rfl ?_
                          refine o_off 157 _ rfl rfl hg49 rfl ?_
                          refine o_p (p_pickt rfl rfl hg49 rfl) rfl ?_
                          refine o_nil ?_
                          exact s_joinN 12 169 _ rfl rfl rfl (fun w h => by first | exact h | exact h.ent aEt)) ?_
                      refine o_nil ?_
                      refine s_cond rfl (fun h51 => ?_) (fun h51 => ?_)
                      · try simp only [decide_eq_true_eq, decide_eq_false_iff_not, Bool.not_eq_true', Bool.not_eq_false', Bool.and_eq_true, Bool.or_eq_true, Bool.and_eq_false_iff, Bool.or_eq_false_iff, Bool.not_true, Bool.not_false] at h51
                        exfalso; grind
                      · try simp only [decide_eq_true_eq, decide_eq_false_iff_not, Bool.not_eq_true', Bool.not_eq_false', Bool.and_eq_true, Bool.or_eq_true, Bool.and_eq_false_iff, Bool.or_eq_false_iff, Bool.not_true, Bool.not_false] at h51
                        refine s_skip ?_
                        refine s_blk ?_
                        refine s_weaken (L' := [(3, _), (8, _), (9, _), (10, _), (11, _), (12, _), (13, _), (14, _), (71, _), (72, _), (73, _), (74, _), (98, _), (99, _), (100, _), (102, _)]) aSx (fun _ h => h) ?_
                        refine s_region ?_
                        refine o_p (p_pure rfl) rfl ?_
                        refine o_p (p_pure rfl) rfl ?_
                        try (refine o_slot (i64w (by omega) (by omega)) ?_)
                        refine o_p (p_pure rfl) rfl ?_
                        refine o_nil ?_
                        exact s_backI (m + 1) (by omega) (by omega) aSx (fun w h => h.ent aEt)
                    · try simp only [decide_eq_true_eq, decide_eq_false_iff_not, Bool.not_eq_true', Bool.not_eq_false', Bool.and_eq_true, Bool.or_eq_true, Bool.and_eq_false_iff, Bool.or_eq_false_iff, Bool.not_true, Bool.not_false] at h29
                      refine s_exit_to rfl ?_
                      refine s_blk ?_
                      refine s_region ?_
                      refine o_p (p_pure rfl) rfl ?_
                      refine o_p (p_pure rfl) rfl ?_
                      try (refine o_slot (i64w (by omega) (by omega)) ?_)
                      refine o_p (p_pure rfl) rfl ?_
                      refine o_nil ?_
                      exact s_backI (n + 1) (by omega) (by omega) aSx (fun w h => h.ent aEt)
                · try simp only [decide_eq_true_eq, decide_eq_false_iff_not, Bool.not_eq_true', Bool.not_eq_false', Bool.and_eq_true, Bool.or_eq_true, Bool.and_eq_false_iff, Bool.or_eq_false_iff, Bool.not_true, Bool.not_false] at h23
                  refine s_skip ?_
                  refine s_seq ?_
                  refine s_region ?_
                  refine o_p (p_pure rfl) rfl ?_
                  refine o_nil ?_
                  refine s_block ?_
                  refine s_loopI (α := Nat) [2, 14, 15, 16, 17, 18, 103, 104, 105, 106, 107, 108, 109, 110, 111, 112, 113, 114, 115, 116, 117, 118, 119, 120, 121, 122, 123, 124, 125, 126, 127, 128, 129, 130, 131, 132, 133, 134, 135, 136, 137, 138, 139, 140, 141, 142, 143, 144, 145, 146, 147, 148, 149, 150, 151, 152, 153, 154, 155, 156, 157, 158, 159, 160, 161, 162, 163, 164, 165, 166, 167, 168, 169] (fun m => [(14, .int .i64 (m : Int))]) (fun _ => HS w [] [.files ta tc N, .blk b5 26 2 [.int .i64 (runR l).1.2, .slice ta N.length tc]]) (fun m => m ≤ (nth (nth N i).op n).lk.length) (fun m => (nth (nth N i).op n).lk.length - m) 0 (Nat.zero_le _) aSx (fun w h => h.ent aEt) (fun m hm1 => ?_)
                  refine s_seq ?_
                  refine s_seq ?_
                  refine s_region ?_
                  refine o_p (p_pure rfl) rfl ?_
                  refine o_p (p_pure rfl) rfl ?_
                  refine o_p (p_pure rfl) rfl ?_
                  refine o_p (p_indexAddr rfl rfl rfl sl_75 (n) (by omega) (by omega) hgo) rfl ?_
                  refine o_p (p_fieldAddr rfl rfl fd_48_4 sz_46 rfl) rfl ?_
                  refine o_q (q_load_at rfl rfl sz_46 (fun w h => by have h9 := ((HS.ft (a := ta) (cap := tc) (l := N) h aPk).at hi).1.rdj 4 hn rfl; rw [hgo] at h9; exact h9)) rfl ?_
                  refine o_p (p_len_slice rfl rfl Try.underlying46) rfl ?_
                  refine o_p (p_pure rfl) rfl ?_
                  refine o_nil ?_
                  refine s_cond rfl (fun h52 => ?_) (fun h52 => ?_)
                  · try simp only [decide_eq_true_eq, decide_eq_false_iff_not, Bool.not_eq_true', Bool.not_eq_false', Bool.and_eq_true, Bool.or_eq_true, Bool.and_eq_false_iff, Bool.or_eq_false_iff, Bool.not_true, Bool.not_false] at h52
                    have hm : m < (nth (nth N i).op n).lk.length := by omega
                    have hrg := rngE_r (okL_nth hv9.2.1 hm)
                    refine s_fact (fun w h => lock_addr (a := ta) (cap := tc) (l := N) (i := i) (k := n) hi hn (by omega) h aPk) (fun hgl => ?_)
                    obtain ⟨gl, hgl, hlc, hlm⟩ := hgl
                    have hW := may_hit hok hi hk hn hm true
                    have hR := may_hit hok hi hk hn hm false
                    rw [kpW_t, wrK] at hW
                    rw [kpW_f, rdK] at hR
                    refine s_skip ?_
                    refine s_seq ?_
                    refine s_block ?_
                    refine s_seq ?_
                    refine s_region ?_
                    refine o_p (p_pure rfl) rfl ?_
                    refine o_p (p_pure rfl) rfl ?_
                    refine o_p (p_indexAddr rfl rfl rfl sl_75 (n) (by omega) (by omega) hgo) rfl ?_
                    refine o_p (p_fieldAddr rfl rfl fd_48_4 sz_46 rfl) rfl ?_
                    refine o_q (q_load_at rfl rfl sz_46 (fun w h => by have h9 := ((HS.ft (a := ta) (cap := tc) (l := N) h aPk).at hi).1.rdj 4 hn rfl; rw [hgo] at h9; exact h9)) rfl ?_
                    refine o_p (p_pure rfl) rfl ?_
                    refine o_p (p_indexAddr rfl rfl rfl sl_46 (m) (by omega) (by omega) hgl) rfl ?_
                    refine o_q (q_load_atn (nth (nth (nth N i).op n).lk m).vals rfl rfl sz_62 rfl (fun w h j v hj => by have h9 := Rw.rd (((HS.ft (a := ta) (cap := tc) (l := N) h aPk).at hi).at hn) hm j v hj; rw [hgl] at h9; exact h9)) rfl ?_
                    refine o_h (h_alloc rfl zr_62) rfl (fun b53 _ => ?_)
                    refine o_h0 (h_store rfl rfl rfl sz_62 rfl aPt (by simp only [setMany_length, List.length_set, List.length_cons, List.length_nil, List.length_map]; omega) rfl) (fun _ _ => ?_)
                    refine o_nil ?_
                    refine s_seq ?_
                    refine s_weaken (L' := [(3, _), (8, _), (9, _), (10, _), (11, _), (14, _), (15, _), (71, _), (72, _), (73, _), (74, _), (77, _), (78, _), (79, _), (80, _), (83, _), (84, _), (85, _)]) aSx (fun _ h => h) ?_
                    refine s_region ?_
                    refine o_p (p_fieldAddr rfl rfl fd_62_0 sz_3 rfl) rfl ?_
                    refine o_q (q_load rfl rfl sz_3 aPk rfl) rfl ?_
                    refine o_p (p_fieldAddr rfl rfl fd_62_1 sz_3 rfl) rfl ?_
                    refine o_q (q_load rfl rfl sz_3 aPk rfl) rfl ?_
                    refine o_p (p_pure rfl) rfl ?_
                    try (refine o_slot (i64w (by omega) (by omega)) ?_)
                    refine o_p (p_pure rfl) rfl ?_
                    try (refine o_slot (i64w (by omega) (by omega)) ?_)
                    refine o_p (p_pure rfl) rfl ?_
                    refine o_nil ?_
                    refine s_seq ?_
                    refine s_draw [] mixed ?_
                    refine d_q 0 [] rfl (q_loadn rfl rfl sz_26 aPk rfl) (by kernel_rfl) (by kernel_rfl) (by kernel_rfl) rfl ?_
                    refine d_p 2 rfl (p_pure rfl) (by kernel_rfl) rfl rfl ?_
                    refine d_p 3 rfl (p_pure rfl) (by kernel_rfl) rfl rfl ?_
                    refine d_p 4 rfl (p_indexAddr rfl rfl rfl sl_75 (k) (by omega) (by omega) hgo) (by kernel_rfl) rfl rfl ?_
                    refine d_p 5 rfl (p_fieldAddr rfl rfl fd_48_0 sz_3 rfl) (by kernel_rfl) rfl rfl ?_
                    refine d_q 6 [] rfl (q_load_at rfl rfl sz_3 (fun w h => by have h9 := ((HS.ft (a := ta) (cap := tc) (l := N) h aPk).at hi).1.rdj 0 hk rfl; rw [hgo] at h9; exact h9)) (by kernel_rfl) (by kernel_rfl) (by kernel_rfl) rfl ?_
                    refine d_p 7 rfl (p_pure rfl) (by kernel_rfl) rfl rfl ?_
                    refine d_h 1 rfl (h_call rfl fn_19 rfl (fun w1 h1 => c19 w1 (runR l).1.2 ta tc N (HS.ft (a := ta) (cap := tc) (l := N) h1 aPk) hb.1 hb.2.1 hb.2.2)) (by kernel_rfl) (fun w h => h.ent aEt) rfl (fun ⟨⟨ca, cc⟩, N2⟩ hgd => ?_)
                    refine d_base (fun w h => h.ent aEt) ?_
                    dsimp only at hgd ⊢
                    refine d_q 8 [] rfl (q_call rfl fn_28 rfl (fun w1 h1 => by have nb := same_b hgd hb; have h9 := c28 w1 (runR l).1.2 ca cc N2 (nth (nth N i).op k).hd ((nth (nth (nth N i).op n).lk m).fr + (nth (nth (nth N i).op n).lk m).cnt - 1) 1 (HS.ft (a := ca) (cap := cc) (l := N2) h1 aPk) nb.1 nb.2.1; rw [show pls N2 = pls N from hgd] at h9; exact h9)) (by kernel_rfl) (by kernel_rfl) (by kernel_rfl) rfl ?_
                    refine d_p 9 rfl (p_pure rfl) (by kernel_rfl) rfl rfl ?_
                    refine d_nil (by kernel_rfl) (fun w h => h.ent aEt) ?_
                    refine s_seq ?_
                    refine s_weaken (L' := [(3, _), (8, _), (9, _), (10, _), (11, _), (14, _), (15, _), (16, _), (17, _), (71, _), (72, _), (73, _), (74, _), (77, _), (78, _), (79, _), (80, _), (83, _), (84, _), (85, _)]) aSx (fun _ h => h) ?_
                    refine s_draw [] mixed ?_
                    refine d_q 0 [] rfl (q_loadn rfl rfl sz_26 aPk rfl) (by kernel_rfl) (by kernel_rfl) (by kernel_rfl) rfl ?_
                    refine d_p 2 rfl (p_pure rfl) (by kernel_rfl) rfl rfl ?_
                    refine d_p 3 rfl (p_pure rfl) (by kernel_rfl) rfl rfl ?_
                    refine d_p 4 rfl (p_indexAddr rfl rfl rfl sl_75 (k) (by omega) (by omega) hgo) (by kernel_rfl) rfl rfl ?_
                    refine d_p 5 rfl (p_fieldAddr rfl rfl fd_48_0 sz_3 rfl) (by kernel_rfl) rfl rfl ?_
                    refine d_q 6 [] rfl (q_load_at rfl rfl sz_3 (fun w h => by have h9 := ((HS.ft (a := ta) (cap := tc) (l := N) h aPk).at hi).1.rdj 0 hk rfl; rw [hgo] at h9; exact h9)) (by kernel_rfl) (by kernel_rfl) (by kernel_rfl) rfl ?_
                    refine d_p 7 rfl (p_pure rfl) (by kernel_rfl) rfl rfl ?_
                    refine d_h 1 rfl (h_call rfl fn_19 rfl (fun w1 h1 => c19 w1 (runR l).1.2 ta tc N (HS.ft (a := ta) (cap := tc) (l := N) h1 aPk) hb.1 hb.2.1 hb.2.2)) (by kernel_rfl) (fun w h => h.ent aEt) rfl (fun ⟨⟨ca, cc⟩, N2⟩ hgd => ?_)
                    refine d_base (fun w h => h.ent aEt) ?_
                    dsimp only at hgd ⊢
                    refine d_q 8 [] rfl (q_call rfl fn_29 rfl (fun w1 h1 => by have nb := same_b hgd hb; have h9 := c29 w1 (runR l).1.2 ca cc N2 (nth (nth N i).op k).hd ((nth (nth (nth N i).op n).lk m).fr + (nth (nth (nth N i).op n).lk m).cnt - 1) 1 (HS.ft (a := ca) (cap := cc) (l := N2) h1 aPk) nb.1 nb.2.1; rw [show pls N2 = pls N from hgd] at h9; exact h9)) (by kernel_rfl) (by kernel_rfl) (by kernel_rfl) rfl ?_
                    refine d_p 9 rfl (p_pure rfl) (by kernel_rfl) rfl rfl ?_
                    refine d_nil (by kernel_rfl) (fun w h => h.ent aEt) ?_
                    refine s_seq ?_
                    refine s_weaken (L' := [(3, _), (8, _), (9, _), (10, _), (11, _), (14, _), (15, _), (17, _), (18, _), (71, _), (72, _), (73, _), (74, _), (77, _), (78, _), (79, _), (80, _), (83, _), (84, _), (85, _)]) aSx (fun _ h => h) ?_
                    refine s_region ?_
                    refine o_p (p_pure rfl) rfl ?_
                    refine o_p (p_pure rfl) rfl ?_
                    refine o_p (p_pure rfl) rfl ?_
                    refine o_and 9 147 156 _ _ rfl
                      (by
                        intro hg54
                        have hs55 := hg54; try simp only [decide_eq_true_eq, decide_eq_false_iff_not, Bool.not_eq_true', Bool.not_eq_false', Bool.and_eq_true, Bool.or_eq_true, Bool.and_eq_false_iff, Bool.or_eq_false_iff, Bool.not_true, Bool.not_false] at hs55
                        refine o_on 147 _ rfl rfl hg54 ?_
                        refine o_p (p_fieldAddr rfl rfl fd_62_2 sz_4 rfl) rfl ?_
                        refine o_on 147 _ rfl rfl hg54 ?_
                        refine o_q (q_load rfl rfl sz_4 aPk rfl) rfl ?_
                        refine o_on 147 _ rfl rfl hg54 ?_
                        refine o_p (p_pure rfl) rfl ?_
                        refine o_on 147 _ rfl rfl hg54 ?_
                        refine o_p (p_pure rfl) rfl ?_
                        refine o_or 4 151 155 _ _ rfl
                          (by
                            intro hg56
                            have hs57 := hg56; try simp only [decide_eq_true_eq, decide_eq_false_iff_not, Bool.not_eq_true', Bool.not_eq_false', Bool.and_eq_true, Bool.or_eq_true, Bool.and_eq_false_iff, Bool.or_eq_false_iff, Bool.not_true, Bool.not_false] at hs57
                            refine o_on 151 _ rfl rfl hg56 ?_
                            refine o_p (p_pure rfl) rfl ?_
                            refine o_on 151 _ rfl rfl hg56 ?_
                            refine o_p (p_pure rfl) rfl ?_
                            refine o_on 151 _ rfl rfl hg56 ?_
                            refine o_p (p_pure rfl) rfl ?_
                            refine o_on 147 _ rfl rfl hg54 ?_
                            refine o_p (p_pickf rfl rfl hg56 rfl) rfl ?_
                            refine o_nil ?_
                            exact s_joinN 4 155 _ rfl rfl rfl (fun w h => by first | exact h | exact h.ent aEt))
                          (by
                            intro hg58
                            have hs59 := hg58; try simp only [decide_eq_true_eq, decide_eq_false_iff_not, Bool.not_eq_true', Bool.not_eq_false', Bool.and_eq_true, Bool.or_eq_true, Bool.and_eq_false_iff, Bool.or_eq_false_iff, Bool.not_true, Bool.not_false] at hs59
                            refine o_off 151 _ rfl rfl hg58 rfl ?_
                            refine o_off 151 _ rfl rfl hg58 rfl ?_
                            refine o_off 151 _ rfl rfl hg58 rfl ?_
                            refine o_on 147 _ rfl rfl hg54 ?_
                            refine o_p (p_pickt rfl rfl hg58 rfl) rfl ?_
                            refine o_nil ?_
                            exact s_joinN 4 155 _ rfl rfl rfl (fun w h => by first | exact h | exact h.ent aEt)) ?_
                        refine o_p (p_pickt rfl rfl hg54 rfl) rfl ?_
                        refine o_nil ?_
                        exact s_joinN 6 156 _ rfl rfl rfl (fun w h => by first | exact h | exact h.ent aEt))
                      (by
                        intro hg60
                        have hs61 := hg60; try simp only [decide_eq_true_eq, decide_eq_false_iff_not, Bool.not_eq_true', Bool.not_eq_false', Bool.and_eq_true, Bool.or_eq_true, Bool.and_eq_false_iff, Bool.or_eq_false_iff, Bool.not_true, Bool.not_false] at hs61
                        refine o_off 147 _ rfl rfl hg60 rfl ?_
                        refine o_off 147 _ rfl rfl hg60 rfl ?_
                        refine o_off 147 _ rfl rfl hg60 rfl ?_
                        refine o_off 147 _ rfl rfl hg60 rfl ?_
                        refine o_off' 151 rfl rfl rfl ?_
                        refine o_off' 151 rfl rfl rfl ?_
                        refine o_off' 151 rfl rfl rfl ?_
                        refine o_off 147 _ rfl rfl hg60 rfl ?_
                        refine o_p (p_pickf rfl rfl hg60 rfl) rfl ?_
                        refine o_nil ?_
                        exact s_joinN 9 156 _ rfl rfl rfl (fun w h => by first | exact h | exact h.ent aEt)) ?_
                    refine o_p (p_pure rfl) rfl ?_
                    refine o_or 12 157 169 _ _ rfl
                      (by
                        intro hg62
                        have hs63 := hg62; try simp only [decide_eq_true_eq, decide_eq_false_iff_not, Bool.not_eq_true', Bool.not_eq_false', Bool.and_eq_true, Bool.or_eq_true, Bool.and_eq_false_iff, Bool.or_eq_false_iff, Bool.not_true, Bool.not_false] at hs63
                        refine o_on 157 _ rfl rfl hg62 ?_
                        refine o_p (p_pure rfl) rfl ?_
                        refine o_on 157 _ rfl rfl hg62 ?_
                        refine o_p (p_pure rfl) rfl ?_
                        refine o_on 157 _ rfl rfl hg62 ?_
                        refine o_p (p_pure rfl) rfl ?_
                        refine o_and 3 160 163 _ _ rfl
                          (by
                            intro hg64
                            have hs65 := hg64; try simp only [decide_eq_true_eq, decide_eq_false_iff_not, Bool.not_eq_true', Bool.not_eq_false', Bool.and_eq_true, Bool.or_eq_true, Bool.and_eq_false_iff, Bool.or_eq_false_iff, Bool.not_true, Bool.not_false] at hs65
                            refine o_on 160 _ rfl rfl hg64 ?_
                            refine o_p (p_fieldAddr rfl rfl fd_62_2 sz_4 rfl) rfl ?_
                            refine o_on 160 _ rfl rfl hg64 ?_
                            refine o_q (q_load rfl rfl sz_4 aPk rfl) rfl ?_
                            refine o_on 157 _ rfl rfl hg62 ?_
                            refine o_p (p_pickt rfl rfl hg64 rfl) rfl ?_
                            refine o_nil ?_
                            exact s_joinN 3 163 _ rfl rfl rfl (fun w h => by first | exact h | exact h.ent aEt))
                          (by
                            intro hg66
                            have hs67 := hg66; try simp only [decide_eq_true_eq, decide_eq_false_iff_not, Bool.not_eq_true', Bool.not_eq_false', Bool.and_eq_true, Bool.or_eq_true, Bool.and_eq_false_iff, Bool.or_eq_false_iff, Bool.not_true, Bool.not_false] at hs67
                            refine o_off 160 _ rfl rfl hg66 rfl ?_
                            refine o_off 160 _ rfl rfl hg66 rfl ?_
                            refine o_on 157 _ rfl rfl hg62 ?_
                            refine o_p (p_pickf rfl rfl hg66 rfl) rfl ?_
                            refine o_nil ?_
                            exact s_joinN 3 163 _ rfl rfl rfl (fun w h => by first | exact h | exact h.ent aEt)) ?_
                        refine o_on 157 _ rfl rfl hg62 ?_
                        refine o_p (p_pure rfl) rfl ?_
                        refine o_and 4 164 168 _ _ rfl
                          (by
                            intro hg68
                            have hs69 := hg68; try simp only [decide_eq_true_eq, decide_eq_false_iff_not, Bool.not_eq_true', Bool.not_eq_false', Bool.and_eq_true, Bool.or_eq_true, Bool.and_eq_false_iff, Bool.or_eq_false_iff, Bool.not_true, Bool.not_false] at hs69
                            refine o_on 164 _ rfl rfl hg68 ?_
                            refine o_p (p_pure rfl) rfl ?_
                            refine o_on 164 _ rfl rfl hg68 ?_
                            refine o_p (p_pure rfl) rfl ?_
                            refine o_on 164 _ rfl rfl hg68 ?_
                            refine o_p (p_pure rfl) rfl ?_
                            refine o_on 157 _ rfl rfl hg62 ?_
                            refine o_p (p_pickt rfl rfl hg68 rfl) rfl ?_
                            refine o_nil ?_
                            exact s_joinN 4 168 _ rfl rfl rfl (fun w h => by first | exact h | exact h.ent aEt))
                          (by
                            intro hg70
                            have hs71 := hg70; try simp only [decide_eq_true_eq, decide_eq_false_iff_not, Bool.not_eq_true', Bool.not_eq_false', Bool.and_eq_true, Bool.or_eq_true, Bool.and_eq_false_iff, Bool.or_eq_false_iff, Bool.not_true, Bool.not_false] at hs71
                            refine o_off 164 _ rfl rfl hg70 rfl ?_
                            refine o_off 164 _ rfl rfl hg70 rfl ?_
                            refine o_off 164 _ rfl rfl hg70 rfl ?_
                            refine o_on 157 _ rfl rfl hg62 ?_
                            refine o_p (p_pickf rfl rfl hg70 rfl) rfl ?_
                            refine o_nil ?_
                            exact s_joinN 4 168 _ rfl rfl rfl (fun w h => by first | exact h | exact h.ent aEt)) ?_
                        refine o_p (p_pickf rfl rfl hg62 rfl) rfl ?_
                        refine o_nil ?_
                        exact s_joinN 7 169 _ rfl rfl rfl (fun w h => by first | exact h | exact h.ent aEt))
                      (by
                        intro hg72
                        have hs73 := hg72; try simp only [decide_eq_true_eq, decide_eq_false_iff_not, Bool.not_eq_true', Bool.not_eq_false', Bool.and_eq_true, Bool.or_eq_true, Bool.and_eq_false_iff, Bool.or_eq_false_iff, Bool.not_true, Bool.not_false] at hs73
                        refine o_off 157 _ rfl rfl hg72 rfl ?_
                        refine o_off 157 _ rfl rfl hg72 rfl ?_
                        refine o_off 157 _ rfl rfl hg72 rfl ?_
                        refine o_off' 160 rfl rfl rfl ?_
                        refine o_off' 160 rfl rfl rfl ?_
                        refine o_off 157 _ rfl rfl hg72 rfl ?_
                        refine o_off 157 _ rfl rfl hg72 rfl ?_
                        refine o_off' 164 rfl rfl rfl ?_
                        refine o_off' 164 rfl rfl rfl ?_
                        refine o_off' 164 rfl rfl rfl ?_
                        refine o_off 157 _ rfl rfl hg72 rfl ?_
                        refine o_p (p_pickt rfl rfl hg72 rfl) rfl ?_
                        refine o_nil ?_
                        exact s_joinN 12 169 _ rfl rfl rfl (fun w h => by first | exact h | exact h.ent aEt)) ?_
                    refine o_nil ?_
                    refine s_cond rfl (fun h74 => ?_) (fun h74 => ?_)
                    · try simp only [decide_eq_true_eq, decide_eq_false_iff_not, Bool.not_eq_true', Bool.not_eq_false', Bool.and_eq_true, Bool.or_eq_true, Bool.and_eq_false_iff, Bool.or_eq_false_iff, Bool.not_true, Bool.not_false] at h74
                      exfalso; grind
                    · try simp only [decide_eq_true_eq, decide_eq_false_iff_not, Bool.not_eq_true', Bool.not_eq_false', Bool.and_eq_true, Bool.or_eq_true, Bool.and_eq_false_iff, Bool.or_eq_false_iff, Bool.not_true, Bool.not_false] at h74
                      refine s_skip ?_
                      refine s_blk ?_
                      refine s_region ?_
                      refine o_p (p_pure rfl) rfl ?_
                      refine o_p (p_pure rfl) rfl ?_
                      try (refine o_slot (i64w (by omega) (by omega)) ?_)
                      refine o_p (p_pure rfl) rfl ?_
                      refine o_nil ?_
                      exact s_backI (m + 1) (by omega) (by omega) aSx (fun w h => h.ent aEt)
                  · try simp only [decide_eq_true_eq, decide_eq_false_iff_not, Bool.not_eq_true', Bool.not_eq_false', Bool.and_eq_true, Bool.or_eq_true, Bool.and_eq_false_iff, Bool.or_eq_false_iff, Bool.not_true, Bool.not_false] at h52
                    refine s_exit_to rfl ?_
                    refine s_blk ?_
                    refine s_region ?_
                    refine o_p (p_pure rfl) rfl ?_
                    refine o_p (p_pure rfl) rfl ?_
                    try (refine o_slot (i64w (by omega) (by omega)) ?_)
                    refine o_p (p_pure rfl) rfl ?_
                    refine o_nil ?_
                    exact s_backI (n + 1) (by omega) (by omega) aSx (fun w h => h.ent aEt)
              · try simp only [decide_eq_true_eq, decide_eq_false_iff_not, Bool.not_eq_true', Bool.not_eq_false', Bool.and_eq_true, Bool.or_eq_true, Bool.and_eq_false_iff, Bool.or_eq_false_iff, Bool.not_true, Bool.not_false] at h22
                refine s_exit_to rfl ?_
                refine s_blk ?_
                refine s_region ?_
                refine o_p (p_pure rfl) rfl ?_
                refine o_p (p_pure rfl) rfl ?_
                try (refine o_slot (i64w (by omega) (by omega)) ?_)
                refine o_p (p_pure rfl) rfl ?_
                refine o_nil ?_
                exact s_backI (k + 1) (by omega) (by omega) aSx (fun w h => h.ent aEt)
            · try simp only [decide_eq_true_eq, decide_eq_false_iff_not, Bool.not_eq_true', Bool.not_eq_false', Bool.and_eq_true, Bool.or_eq_true, Bool.and_eq_false_iff, Bool.or_eq_false_iff, Bool.not_true, Bool.not_false] at h21
              refine s_exit_to rfl ?_
              refine s_blk ?_
              refine s_region ?_
              refine o_p (p_pure rfl) rfl ?_
              refine o_p (p_pure rfl) rfl ?_
              try (refine o_slot (i64w (by omega) (by omega)) ?_)
              refine o_p (p_pure rfl) rfl ?_
              refine o_nil ?_
              exact s_backI (i + 1) (by omega) (by omega) aSx (fun w h => h.ent aEt)
          · try simp only [decide_eq_true_eq, decide_eq_false_iff_not, Bool.not_eq_true', Bool.not_eq_false', Bool.and_eq_true, Bool.or_eq_true, Bool.and_eq_false_iff, Bool.or_eq_false_iff, Bool.not_true, Bool.not_false] at h20
            refine s_exit_to rfl ?_
            refine s_seq ?_
            refine s_region ?_
            refine o_p (p_pure rfl) rfl ?_
            refine o_nil ?_
            exact s_retv (rs := [.tmp 2]) rfl (.tmp rfl (.nil)) (fun w' h' => ⟨by rfl, h'.below⟩)

end Go.Proofs

