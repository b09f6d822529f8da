/- Contracts of the program's functions, proved by walking them with the rules of the Gx texts; without conditions beyond those that each contract names. -/
import Derived.Test.YtgdigngojonbhaaC25M
namespace Go.Proofs
open Go Go.RowKit Gx
set_option linter.unusedVariables false
set_option linter.unusedSimpArgs false
attribute [local irreducible] Go.Calls Gx.S Gx.O Gx.D Gx.OpP Gx.OpQ Gx.OpH

theorem eqk_40 : teqk Try.prog 40 = some [0, 0] := by kernel_rfl
theorem pl_42 : tplaces Try.prog 42 = some [(0, 1), (1, 1)] := by kernel_rfl
theorem zr_42 : tzero Try.prog 42 = some [.int .i64 0, .int .i64 0] := by kernel_rfl
theorem pl_44 : tplaces Try.prog 44 = some [(0, 1), (1, 1), (2, 1), (3, 1), (4, 1), (5, 1), (6, 2), (8, 1)] := by kernel_rfl
theorem fn_12 : isFn Try.prog 12 = true := by kernel_rfl
theorem pl_40 : tplaces Try.prog 40 = some [(0, 1), (1, 1)] := by kernel_rfl
theorem fn_15 : isFn Try.prog 15 = true := by kernel_rfl


def awkL : List HAct := [⟨0, 0, 1, 1, 0, 0, 20, 1, false⟩, ⟨0, 0, 2, 7, 0, 0, 20, 1, false⟩, ⟨1, 1, 0, 0, 0, 0, 0, 0, false⟩, ⟨0, 0, 3, 7, 0, 0, 20, 1, false⟩, ⟨3, 2, 0, 0, 0, 10, 0, 0, false⟩, ⟨6, 2, 0, 0, 5, 1, 0, 0, false⟩]
def awkA : List (Int × Int) := [(0, 1), (28, 0), (0, 0), (0, 2), (0, 0), (29, 0)]
theorem awk_E : runE awkL = 0 := by decide +kernel
theorem awk_A : (runR awkL).2 = awkA := by decide +kernel
theorem awk_N : (runR awkL).1.2 = 3 := by decide +kernel
theorem awk_L : (runR awkL).1.1.length = 1 := by decide +kernel
theorem y12 (w : World) (a : Option Addr) (cap : Nat) (hs : Rw HAct.vals 9 w [] a awkL) : Calls Try.prog 12 #[.slice a 6 cap] w fun en w' => ∃ g : (Option Addr × Nat) × (Option Addr × Nat), en = .returned (.tuple #[.agg #[.int .i64 3, .slice g.1.1 1 g.1.2], .slice g.2.1 6 g.2.2, .int .i64 0]) ∧ True ∧ HS w [] [.own (.slice g.2.1 6 g.2.2) 40 2 6 (awkA.flatMap ansV)] w' := by
  refine Calls.mono (c12 w a cap awkL hs (by decide)) fun en w' hh => ?_
  obtain ⟨g, rfl, hp, h⟩ := hh
  have hl : g.1.2.length = 1 := by
    have h9 := congrArg List.length hp
    rw [awk_L] at h9
    simpa using h9
  rw [awk_E, awk_N, awk_A, hl]
  rw [awk_A] at h
  exact ⟨(g.1.1, g.2), rfl, trivial, h.ent (by repeat (first | exact .nil | refine .cons (by repeat (first | exact .here | apply Pick.there)) ?_))⟩

set_option maxRecDepth 20000 in
theorem c15 (w : World) (a b : Option Addr) (ca cb : Nat) (l : List (Int × Int)) (ha : Rw ansV 2 w [] a l) (hb : Rw ansV 2 w [] b l) (hm : l.length ≤ 1000000) : Calls Try.prog 15 #[.slice a l.length ca, .slice b l.length cb] w fun en w' => en = .returned (.bool true) ∧ Below w.heap.size w w' := by
  refine enter (args := [_, _]) Try.func15 Try.ntmps15 rfl rfl (HS.refl w []) ?_
  refine s_seq ?_
  refine s_region ?_
  refine o_p (p_pure rfl) rfl ?_
  refine o_nil ?_
  refine s_seq ?_
  refine s_seq ?_
  refine s_region ?_
  refine o_p (p_pure rfl) rfl ?_
  first | refine o_p (p_len_slice rfl rfl Try.underlying27) rfl ?_ | refine o_q (q_len_own rfl rfl Try.underlying27 (by repeat (first | exact .here | apply Pick.there))) rfl ?_
  refine o_p (p_pure rfl) rfl ?_
  first | refine o_p (p_len_slice rfl rfl Try.underlying27) rfl ?_ | refine o_q (q_len_own rfl rfl Try.underlying27 (by repeat (first | exact .here | apply Pick.there))) rfl ?_
  refine o_p (p_pure rfl) rfl ?_
  refine o_nil ?_
  refine s_cond rfl (fun h1 => ?_) (fun h1 => ?_)
  · try simp only [decide_eq_true_eq, decide_eq_false_iff_not, Bool.not_eq_true', Bool.not_eq_false', Bool.and_eq_true, Bool.or_eq_true, Bool.and_eq_false_iff, Bool.or_eq_false_iff, Bool.not_true, Bool.not_false] at h1
    exfalso; first | omega | (simp at h1; done) | (simp_all; done)
  · try simp only [decide_eq_true_eq, decide_eq_false_iff_not, Bool.not_eq_true', Bool.not_eq_false', Bool.and_eq_true, Bool.or_eq_true, Bool.and_eq_false_iff, Bool.or_eq_false_iff, Bool.not_true, Bool.not_false] at h1
    refine s_skip ?_
    refine s_seq ?_
    refine s_seq ?_
    refine s_region ?_
    refine o_p (p_pure rfl) rfl ?_
    refine o_nil ?_
    refine s_block ?_
    refine s_loopI (α := Nat) [4, 5, 11, 12, 13, 14, 15, 16, 17, 18, 19, 20, 21, 22, 23, 24, 25] (fun k => [(5, .int .i64 (k : Int))]) (fun _ => HS w [] []) (fun k => k ≤ l.length) (fun k => l.length - k) 0 (Nat.zero_le _) (by repeat (first | exact sl_n | refine sl_c rfl ?_)) (fun w h => h.ent (by repeat (first | exact .nil | refine .cons (by repeat (first | exact .here | apply Pick.there)) ?_))) (fun k hk => ?_)
    refine s_seq ?_
    refine s_seq ?_
    refine s_region ?_
    refine o_p (p_pure rfl) rfl ?_
    refine o_p (p_pure rfl) rfl ?_
    first | refine o_p (p_len_slice rfl rfl Try.underlying27) rfl ?_ | refine o_q (q_len_own rfl rfl Try.underlying27 (by repeat (first | exact .here | apply Pick.there))) rfl ?_
    refine o_p (p_pure rfl) rfl ?_
    refine o_nil ?_
    refine s_cond rfl (fun h2 => ?_) (fun h2 => ?_)
    · try simp only [decide_eq_true_eq, decide_eq_false_iff_not, Bool.not_eq_true', Bool.not_eq_false', Bool.and_eq_true, Bool.or_eq_true, Bool.and_eq_false_iff, Bool.or_eq_false_iff, Bool.not_true, Bool.not_false] at h2
      have hkl : k < l.length := by omega
      refine s_skip ?_
      refine s_seq ?_
      refine s_block ?_
      refine s_seq ?_
      refine s_draw [] mixed ?_
      refine d_p 0 rfl (p_pure rfl) (by kernel_rfl) rfl rfl ?_
      refine d_p 1 rfl (p_pure rfl) (by kernel_rfl) rfl rfl ?_
      first | refine d_p 2 rfl (p_indexAddr rfl rfl rfl sl_27 (k) (by omega) (by omega) rfl) (by kernel_rfl) rfl rfl ?_ | refine d_p 2 rfl (p_indexAddr rfl rfl rfl sl_27 (k) (by omega) (by omega) (Rw.some ha (by omega))) (by kernel_rfl) rfl rfl ?_ | refine d_p 2 rfl (p_indexAddr rfl rfl rfl sl_27 (k) (by omega) (by omega) (Rw.some hb (by omega))) (by kernel_rfl) rfl rfl ?_
      first | refine d_q 3 [] rfl (q_loadn rfl rfl sz_40 (by repeat (first | exact .here | apply Pick.there)) rfl) (by kernel_rfl) (by kernel_rfl) (by kernel_rfl) rfl ?_ | refine d_q 3 [] rfl (q_load_oldn _ rfl rfl sz_40 rfl (Rw.rd ha hkl)) (by kernel_rfl) (by kernel_rfl) (by kernel_rfl) rfl ?_ | refine d_q 3 [] rfl (q_load_oldn _ rfl rfl sz_40 rfl (Rw.rd hb hkl)) (by kernel_rfl) (by kernel_rfl) (by kernel_rfl) rfl ?_
      refine d_p 4 rfl (p_pure rfl) (by kernel_rfl) rfl rfl ?_
      refine d_p 5 rfl (p_pure rfl) (by kernel_rfl) rfl rfl ?_
      first | refine d_p 6 rfl (p_indexAddr rfl rfl rfl sl_27 (k) (by omega) (by omega) rfl) (by kernel_rfl) rfl rfl ?_ | refine d_p 6 rfl (p_indexAddr rfl rfl rfl sl_27 (k) (by omega) (by omega) (Rw.some ha (by omega))) (by kernel_rfl) rfl rfl ?_ | refine d_p 6 rfl (p_indexAddr rfl rfl rfl sl_27 (k) (by omega) (by omega) (Rw.some hb (by omega))) (by kernel_rfl) rfl rfl ?_
      first | refine d_q 7 [] rfl (q_loadn rfl rfl sz_40 (by repeat (first | exact .here | apply Pick.there)) rfl) (by kernel_rfl) (by kernel_rfl) (by kernel_rfl) rfl ?_ | refine d_q 7 [] rfl (q_load_oldn _ rfl rfl sz_40 rfl (Rw.rd ha hkl)) (by kernel_rfl) (by kernel_rfl) (by kernel_rfl) rfl ?_ | refine d_q 7 [] rfl (q_load_oldn _ rfl rfl sz_40 rfl (Rw.rd hb hkl)) (by kernel_rfl) (by kernel_rfl) (by kernel_rfl) rfl ?_
      refine d_p 8 rfl (p_neq_agg rfl rfl rfl eqk_40 (by rfl) (by rfl) (by rfl)) (by kernel_rfl) rfl rfl ?_
      refine d_nil (by kernel_rfl) (fun w h => h.ent (by repeat (first | exact .nil | refine .cons (by repeat (first | exact .here | apply Pick.there)) ?_))) ?_
      refine s_cond rfl (fun h3 => ?_) (fun h3 => ?_)
      · try simp only [decide_eq_true_eq, decide_eq_false_iff_not, Bool.not_eq_true', Bool.not_eq_false', Bool.and_eq_true, Bool.or_eq_true, Bool.and_eq_false_iff, Bool.or_eq_false_iff, Bool.not_true, Bool.not_false] at h3
        exfalso; first | omega | (simp at h3; done) | (simp_all; done)
      · try simp only [decide_eq_true_eq, decide_eq_false_iff_not, Bool.not_eq_true', Bool.not_eq_false', Bool.and_eq_true, Bool.or_eq_true, Bool.and_eq_false_iff, Bool.or_eq_false_iff, Bool.not_true, Bool.not_false] at h3
        refine s_skip ?_
        refine s_blk ?_
        refine s_region ?_
        refine o_p (p_pure rfl) rfl ?_
        refine o_p (p_pure rfl) rfl ?_
        try (refine o_slot (i64w (by omega) (by omega)) ?_)
        refine o_p (p_pure rfl) rfl ?_
        refine o_nil ?_
        exact s_backI (k + 1) (by omega) (by omega) (by repeat (first | exact sl_n | refine sl_c rfl ?_)) (fun w h => h.ent (by repeat (first | exact .nil | refine .cons (by repeat (first | exact .here | apply Pick.there)) ?_)))
    · try simp only [decide_eq_true_eq, decide_eq_false_iff_not, Bool.not_eq_true', Bool.not_eq_false', Bool.and_eq_true, Bool.or_eq_true, Bool.and_eq_false_iff, Bool.or_eq_false_iff, Bool.not_true, Bool.not_false] at h2
      refine s_exit_to rfl ?_
      refine s_seq ?_
      refine s_region ?_
      refine o_p (p_pure rfl) rfl ?_
      refine o_nil ?_
      exact s_retv (rs := [.tmp 4]) rfl (.tmp rfl (.nil)) (fun w' h' => ⟨rfl, h'.below⟩)

set_option maxRecDepth 20000 in
theorem c11 (w : World)  : Calls Try.prog 11 #[] w fun en w' => en = .returned (.bool true) ∧ Below w.heap.size w w' := by
  refine enter (args := []) Try.func11 Try.ntmps11 rfl rfl (HS.refl w []) ?_
  refine s_seq ?_
  refine s_region ?_
  refine o_p (p_pure rfl) rfl ?_
  refine o_nil ?_
  refine s_seq ?_
  refine s_region ?_
  refine o_p (p_build (cs := [_, _]) rfl rfl pl_42 zr_42 rfl) rfl ?_
  refine o_h (h_alloc rfl zr_42) rfl (fun b1 _ => ?_)
  refine o_h0 (h_store rfl rfl rfl sz_42 rfl (by repeat (first | exact .here | apply Put.there)) (by simp only [setMany_length, List.length_set, List.length_cons, List.length_nil, List.length_map]; omega) rfl) (fun _ _ => ?_)
  refine o_nil ?_
  refine s_seq ?_
  refine s_region ?_
  refine o_q (q_loadn rfl rfl sz_42 (by repeat (first | exact .here | apply Pick.there)) rfl) rfl ?_
  refine o_p (p_build (cs := [_, _, _, _, _, _, _, _, _]) rfl rfl pl_44 zr_44 rfl) rfl ?_
  refine o_q (q_loadn rfl rfl sz_42 (by repeat (first | exact .here | apply Pick.there)) rfl) rfl ?_
  refine o_p (p_build (cs := [_, _, _, _, _, _, _, _, _]) rfl rfl pl_44 zr_44 rfl) rfl ?_
  refine o_p (p_build (cs := [_, _, _, _, _, _, _, _, _]) rfl rfl pl_44 zr_44 rfl) rfl ?_
  refine o_q (q_loadn rfl rfl sz_42 (by repeat (first | exact .here | apply Pick.there)) rfl) rfl ?_
  refine o_p (p_build (cs := [_, _, _, _, _, _, _, _, _]) rfl rfl pl_44 zr_44 rfl) rfl ?_
  refine o_p (p_build (cs := [_, _, _, _, _, _, _, _, _]) rfl rfl pl_44 zr_44 rfl) rfl ?_
  refine o_p (p_build (cs := [_, _, _, _, _, _, _, _, _]) rfl rfl pl_44 zr_44 rfl) rfl ?_
  refine o_h (h_buildSlice (cs := [_, _, _, _, _, _, _, _, _, _, _, _, _, _, _, _, _, _, _, _, _, _, _, _, _, _, _, _, _, _, _, _, _, _, _, _, _, _, _, _, _, _, _, _, _, _, _, _, _, _, _, _, _, _]) rfl rfl sl_22 zr_44 rfl rfl rfl) rfl (fun b2 _ => ?_)
  refine o_h (h_call rfl fn_12 rfl (fun w1 h1 => y12 w1 _ 6 (h1.rw_blk (l := awkL) hv9 (by repeat (first | exact .here | apply Pick.there))))) rfl (fun b3 _ => ?_)
  refine o_p (p_pure rfl) rfl ?_
  refine o_p (p_pure rfl) rfl ?_
  refine o_p (p_pure rfl) rfl ?_
  refine o_p (p_pure rfl) rfl ?_
  refine o_h (h_alloc rfl zr_26) rfl (fun b4 _ => ?_)
  refine o_h0 (h_store rfl rfl rfl sz_26 rfl (by repeat (first | exact .here | apply Put.there)) (by simp only [setMany_length, List.length_set, List.length_cons, List.length_nil, List.length_map]; omega) rfl) (fun _ _ => ?_)
  refine o_p (p_pure rfl) rfl ?_
  refine o_p (p_pure rfl) rfl ?_
  refine o_nil ?_
  refine s_seq ?_
  refine s_region ?_
  refine o_p (p_pure rfl) rfl ?_
  refine o_p (p_pure rfl) rfl ?_
  refine o_p (p_pure rfl) rfl ?_
  refine o_and 10 23 33 _ _ rfl
    (by
      intro hg5
      have hs6 := hg5; try simp only [decide_eq_true_eq, decide_eq_false_iff_not, Bool.not_eq_true', Bool.not_eq_false', Bool.and_eq_true, Bool.or_eq_true, Bool.and_eq_false_iff, Bool.or_eq_false_iff, Bool.not_true, Bool.not_false] at hs6
      refine o_on 23 _ rfl rfl hg5 ?_
      refine o_p (p_pure rfl) rfl ?_
      refine o_on 23 _ rfl rfl hg5 ?_
      refine o_p (p_build (cs := [_, _]) rfl rfl pl_40 zr_40 rfl) rfl ?_
      refine o_on 23 _ rfl rfl hg5 ?_
      refine o_p (p_build (cs := [_, _]) rfl rfl pl_40 zr_40 rfl) rfl ?_
      refine o_on 23 _ rfl rfl hg5 ?_
      refine o_p (p_build (cs := [_, _]) rfl rfl pl_40 zr_40 rfl) rfl ?_
      refine o_on 23 _ rfl rfl hg5 ?_
      refine o_p (p_build (cs := [_, _]) rfl rfl pl_40 zr_40 rfl) rfl ?_
      refine o_on 23 _ rfl rfl hg5 ?_
      refine o_p (p_build (cs := [_, _]) rfl rfl pl_40 zr_40 rfl) rfl ?_
      refine o_on 23 _ rfl rfl hg5 ?_
      refine o_p (p_build (cs := [_, _]) rfl rfl pl_40 zr_40 rfl) rfl ?_
      refine o_on 23 _ rfl rfl hg5 ?_
      refine o_h (h_buildSlice (cs := [_, _, _, _, _, _, _, _, _, _, _, _]) rfl rfl sl_27 zr_40 rfl rfl rfl) rfl (fun b7 _ => ?_)
      refine o_on 23 _ rfl rfl hg5 ?_
      refine o_q (q_call rfl fn_15 rfl (fun w1 h1 => c15 w1 _ _ _ _ awkA (h1.rw_own (vals := ansV) (fun _ => rfl) (by repeat (first | exact .here | apply Pick.there)) rfl) (h1.rw_blk (vals := ansV) (fun _ => rfl) (by repeat (first | exact .here | apply Pick.there))) (by decide))) rfl ?_
      refine o_p (p_pickt rfl rfl hg5 rfl) rfl ?_
      refine o_nil ?_
      exact s_joinN 10 33 _ rfl rfl rfl (fun w h => by first | exact h | exact h.ent (by repeat (first | exact .nil | refine .cons (by repeat (first | exact .here | apply Pick.there)) ?_))))
    (by
      intro hg8
      have hs9 := hg8; try simp only [decide_eq_true_eq, decide_eq_false_iff_not, Bool.not_eq_true', Bool.not_eq_false', Bool.and_eq_true, Bool.or_eq_true, Bool.and_eq_false_iff, Bool.or_eq_false_iff, Bool.not_true, Bool.not_false] at hs9
      refine o_off 23 _ rfl rfl hg8 rfl ?_
      refine o_off 23 _ rfl rfl hg8 rfl ?_
      refine o_off 23 _ rfl rfl hg8 rfl ?_
      refine o_off 23 _ rfl rfl hg8 rfl ?_
      refine o_off 23 _ rfl rfl hg8 rfl ?_
      refine o_off 23 _ rfl rfl hg8 rfl ?_
      refine o_off 23 _ rfl rfl hg8 rfl ?_
      refine o_off 23 _ rfl rfl hg8 rfl ?_
      refine o_off 23 _ rfl rfl hg8 rfl ?_
      refine o_p (p_pickf rfl rfl hg8 rfl) rfl ?_
      refine o_nil ?_
      exact s_joinN 10 33 _ rfl rfl rfl (fun w h => by first | exact h | exact h.ent (by repeat (first | exact .nil | refine .cons (by repeat (first | exact .here | apply Pick.there)) ?_)))) ?_
  refine o_p (p_pure rfl) rfl ?_
  refine o_and 4 34 38 _ _ rfl
    (by
      intro hg10
      have hs11 := hg10; try simp only [decide_eq_true_eq, decide_eq_false_iff_not, Bool.not_eq_true', Bool.not_eq_false', Bool.and_eq_true, Bool.or_eq_true, Bool.and_eq_false_iff, Bool.or_eq_false_iff, Bool.not_true, Bool.not_false] at hs11
      refine o_on 34 _ rfl rfl hg10 ?_
      refine o_p (p_fieldAddr rfl rfl fd_26_0 sz_3 rfl) rfl ?_
      refine o_on 34 _ rfl rfl hg10 ?_
      refine o_q (q_load rfl rfl sz_3 (by repeat (first | exact .here | apply Pick.there)) rfl) rfl ?_
      refine o_on 34 _ rfl rfl hg10 ?_
      refine o_p (p_pure rfl) rfl ?_
      refine o_p (p_pickt rfl rfl hg10 rfl) rfl ?_
      refine o_nil ?_
      exact s_joinN 4 38 _ rfl rfl rfl (fun w h => by first | exact h | exact h.ent (by repeat (first | exact .nil | refine .cons (by repeat (first | exact .here | apply Pick.there)) ?_))))
    (by
      intro hg12
      have hs13 := hg12; try simp only [decide_eq_true_eq, decide_eq_false_iff_not, Bool.not_eq_true', Bool.not_eq_false', Bool.and_eq_true, Bool.or_eq_true, Bool.and_eq_false_iff, Bool.or_eq_false_iff, Bool.not_true, Bool.not_false] at hs13
      refine o_off 34 _ rfl rfl hg12 rfl ?_
      refine o_off 34 _ rfl rfl hg12 rfl ?_
      refine o_off 34 _ rfl rfl hg12 rfl ?_
      refine o_p (p_pickf rfl rfl hg12 rfl) rfl ?_
      refine o_nil ?_
      exact s_joinN 4 38 _ rfl rfl rfl (fun w h => by first | exact h | exact h.ent (by repeat (first | exact .nil | refine .cons (by repeat (first | exact .here | apply Pick.there)) ?_)))) ?_
  refine o_p (p_pure rfl) rfl ?_
  refine o_and 5 39 44 _ _ rfl
    (by
      intro hg14
      have hs15 := hg14; try simp only [decide_eq_true_eq, decide_eq_false_iff_not, Bool.not_eq_true', Bool.not_eq_false', Bool.and_eq_true, Bool.or_eq_true, Bool.and_eq_false_iff, Bool.or_eq_false_iff, Bool.not_true, Bool.not_false] at hs15
      refine o_on 39 _ rfl rfl hg14 ?_
      refine o_p (p_fieldAddr rfl rfl fd_26_1 sz_24 rfl) rfl ?_
      refine o_on 39 _ rfl rfl hg14 ?_
      refine o_q (q_load rfl rfl sz_24 (by repeat (first | exact .here | apply Pick.there)) rfl) rfl ?_
      refine o_on 39 _ rfl rfl hg14 ?_
      first | refine o_p (p_len_slice rfl rfl Try.underlying24) rfl ?_ | refine o_q (q_len_own rfl rfl Try.underlying24 (by repeat (first | exact .here | apply Pick.there))) rfl ?_
      refine o_on 39 _ rfl rfl hg14 ?_
      refine o_p (p_pure rfl) rfl ?_
      refine o_p (p_pickt rfl rfl hg14 rfl) rfl ?_
      refine o_nil ?_
      exact s_joinN 5 44 _ rfl rfl rfl (fun w h => by first | exact h | exact h.ent (by repeat (first | exact .nil | refine .cons (by repeat (first | exact .here | apply Pick.there)) ?_))))
    (by
      intro hg16
      have hs17 := hg16; try simp only [decide_eq_true_eq, decide_eq_false_iff_not, Bool.not_eq_true', Bool.not_eq_false', Bool.and_eq_true, Bool.or_eq_true, Bool.and_eq_false_iff, Bool.or_eq_false_iff, Bool.not_true, Bool.not_false] at hs17
      refine o_off 39 _ rfl rfl hg16 rfl ?_
      refine o_off 39 _ rfl rfl hg16 rfl ?_
      refine o_off 39 _ rfl rfl hg16 rfl ?_
      refine o_off 39 _ rfl rfl hg16 rfl ?_
      refine o_p (p_pickf rfl rfl hg16 rfl) rfl ?_
      refine o_nil ?_
      exact s_joinN 5 44 _ rfl rfl rfl (fun w h => by first | exact h | exact h.ent (by repeat (first | exact .nil | refine .cons (by repeat (first | exact .here | apply Pick.there)) ?_)))) ?_
  refine o_p (p_pure rfl) rfl ?_
  refine o_nil ?_
  exact s_retv (rs := [.tmp 0]) rfl (.tmp rfl (.nil)) (fun w' h' => ⟨rfl, h'.below⟩)

end Go.Proofs
