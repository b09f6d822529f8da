/- Contracts of the program's functions, proved by walking them with the rules of the Gx texts; without conditions beyond those that each contract names. -/
import Derived.Test.YtgdigngojonbhaaC25K
namespace Go.Proofs
open Go Go.RowKit Gx
set_option linter.unusedVariables false
set_option linter.unusedSimpArgs false
attribute [local irreducible] Go.Calls Gx.S Gx.O Gx.D Gx.OpP Gx.OpQ Gx.OpH

theorem zr_40 : tzero Try.prog 40 = some [.int .i64 0, .int .i64 0] := by kernel_rfl
theorem fd_44_4 : tfd Try.prog 44 4 = some (4, 3) := by kernel_rfl
theorem fd_44_5 : tfd Try.prog 44 5 = some (5, 3) := by kernel_rfl
theorem fd_44_7 : tfd Try.prog 44 7 = some (8, 4) := by kernel_rfl
theorem pl_62 : tplaces Try.prog 62 = some [(0, 1), (1, 1), (2, 1)] := by kernel_rfl
theorem fd_44_0 : tfd Try.prog 44 0 = some (0, 3) := by kernel_rfl
theorem fd_44_6 : tfd Try.prog 44 6 = some (6, 42) := by kernel_rfl
theorem fd_44_2 : tfd Try.prog 44 2 = some (2, 3) := by kernel_rfl
theorem fd_44_3 : tfd Try.prog 44 3 = some (3, 3) := by kernel_rfl
theorem pl_48 : tplaces Try.prog 48 = some [(0, 1), (1, 1), (2, 1), (3, 1), (4, 1)] := by kernel_rfl
theorem fn_81 : isFn Try.prog 81 = true := by kernel_rfl
theorem fd_40_1 : tfd Try.prog 40 1 = some (1, 3) := by kernel_rfl
theorem fd_40_0 : tfd Try.prog 40 0 = some (0, 28) := by kernel_rfl
theorem sz_40 : tsz Try.prog 40 = some (2, true) := by kernel_rfl
theorem fd_44_1 : tfd Try.prog 44 1 = some (1, 3) := by kernel_rfl
theorem fn_82 : isFn Try.prog 82 = true := by kernel_rfl
theorem fn_84 : isFn Try.prog 84 = true := by kernel_rfl
theorem fn_67 : isFn Try.prog 67 = true := by kernel_rfl
theorem fn_74 : isFn Try.prog 74 = true := by kernel_rfl
theorem fn_76 : isFn Try.prog 76 = true := by kernel_rfl
theorem fn_78 : isFn Try.prog 78 = true := by kernel_rfl


structure HAct where
  kd : Int
  hd : Int
  ac : Int
  sh : Int
  fr : Int
  cnt : Int
  rc : Int
  sq : Int
  fl : Bool
instance : Inhabited HAct := ⟨⟨0, 0, 0, 0, 0, 0, 0, 0, false⟩⟩
def HAct.vals (a : HAct) : List Value := [.int .i64 a.kd, .int .i64 a.hd, .int .i64 a.ac, .int .i64 a.sh, .int .i64 a.fr, .int .i64 a.cnt, .int .i64 a.rc, .int .i64 a.sq, .bool a.fl]
theorem hv9 (a : HAct) : a.vals.length = 9 := rfl
theorem hv1 (a : HAct) : ∀ u ∈ a.vals, u.oneCell' = true := by
  intro u hu
  simp only [HAct.vals, List.mem_cons, List.mem_nil_iff, or_false] at hu
  rcases hu with rfl | rfl | rfl | rfl | rfl | rfl | rfl | rfl | rfl <;> rfl
def HAct.lock (a : HAct) : Lock := ⟨a.fr, a.cnt, a.fl⟩
/-- The files, the next number, the value, the error after an act. -/
def doT (next : Int) (L : List Fil) (a : HAct) : List Fil × Int × Int × Int :=
  if a.kd = 0 then openT next L a.rc a.sq ⟨0, a.ac, a.sh, a.fl, []⟩
  else if a.kd = 1 then ((closeT L a.hd).1, next, (if (closeT L a.hd).2.1 = true then 1 else 0), (closeT L a.hd).2.2)
  else if a.kd = 2 then ((markT L a.hd a.fl).1, next, 0, (markT L a.hd a.fl).2)
  else if a.kd = 3 then ((lockT L a.hd a.lock).1, next, 0, (lockT L a.hd a.lock).2)
  else if a.kd = 4 then ((unlockT L a.hd a.fr a.cnt).1, next, 0, (unlockT L a.hd a.fr a.cnt).2)
  else if a.kd = 5 then (L, next, 0, mayT L a.hd a.lock 1 rdK)
  else if a.kd = 6 then (L, next, 0, mayT L a.hd a.lock 2 wrK)
  else (L, next, 0, 0)

set_option maxRecDepth 20000 in
set_option maxHeartbeats 1000000 in
theorem c50 (w : World) (bt : Nat) (next : Int) (a : Option Addr) (cap : Nat) (L : List LFil) (a9 : HAct) (hw : HS w (fps [.blk bt 106 2 [.int .i64 (next), .slice a (L).length cap], .files a cap (L)]) [.blk bt 106 2 [.int .i64 (next), .slice a (L).length cap], .files a cap (L)] w) (hV : VW (pls L)) (hn0 : 0 ≤ next ∧ next ≤ 2147483647) : Calls Try.prog 50 #[.pointer (some ⟨bt, 0, none⟩), .agg #[.int .i64 a9.kd, .int .i64 a9.hd, .int .i64 a9.ac, .int .i64 a9.sh, .int .i64 a9.fr, .int .i64 a9.cnt, .int .i64 a9.rc, .int .i64 a9.sq, .bool a9.fl]] w fun en w' => ∃ g : (Option Addr × Nat) × List LFil, en = .returned (.agg #[.int .i64 (doT next (pls L) a9).2.2.2, .int .i64 (doT next (pls L) a9).2.2.1]) ∧ pls g.2 = (doT next (pls L) a9).1 ∧ HS w (fps [.blk bt 106 2 [.int .i64 (next), .slice a (L).length cap], .files a cap (L)]) [.blk bt 106 2 [.int .i64 ((doT next (pls L) a9).2.1), .slice g.1.1 (g.2).length g.1.2], .files g.1.1 g.1.2 (g.2)] w' := by
  refine enter (args := [_, _]) Try.func50 Try.ntmps50 rfl rfl hw ?_
  refine s_seq ?_
  refine s_region ?_
  refine o_h (h_box rfl rfl) rfl (fun b1 _ => ?_)
  refine o_h (h_alloc rfl zr_40) rfl (fun b2 _ => ?_)
  refine o_nil ?_
  refine s_seq ?_
  refine s_region ?_
  refine o_p (p_fieldAddr rfl rfl fd_44_4 sz_3 rfl) rfl ?_
  refine o_q (q_load rfl rfl sz_3 (by repeat (first | exact .here | apply Pick.there)) rfl) rfl ?_
  refine o_p (p_fieldAddr rfl rfl fd_44_5 sz_3 rfl) rfl ?_
  refine o_q (q_load rfl rfl sz_3 (by repeat (first | exact .here | apply Pick.there)) rfl) rfl ?_
  refine o_p (p_fieldAddr rfl rfl fd_44_7 sz_4 rfl) rfl ?_
  refine o_q (q_load rfl rfl sz_4 (by repeat (first | exact .here | apply Pick.there)) rfl) rfl ?_
  refine o_p (p_build (cs := [_, _, _]) rfl rfl pl_62 zr_62 rfl) rfl ?_
  refine o_h (h_alloc rfl zr_62) rfl (fun b3 _ => ?_)
  refine o_h0 (h_store rfl rfl rfl sz_62 rfl (by repeat (first | exact .here | apply Put.there)) (by simp only [setMany_length, List.length_set, List.length_cons, List.length_nil, List.length_map]; omega) rfl) (fun _ _ => ?_)
  refine o_nil ?_
  refine s_seq ?_
  refine s_seq ?_
  refine s_region ?_
  refine o_p (p_fieldAddr rfl rfl fd_44_0 sz_3 rfl) rfl ?_
  refine o_q (q_load rfl rfl sz_3 (by repeat (first | exact .here | apply Pick.there)) rfl) rfl ?_
  refine o_nil ?_
  refine s_block ?_
  refine s_seq ?_
  refine s_region ?_
  refine o_p (p_pure rfl) rfl ?_
  refine o_p (p_pure rfl) rfl ?_
  refine o_nil ?_
  refine s_cond rfl (fun h4 => ?_) (fun h4 => ?_)
  · try simp only [decide_eq_true_eq, decide_eq_false_iff_not, Bool.not_eq_true', Bool.not_eq_false', Bool.and_eq_true, Bool.or_eq_true, Bool.and_eq_false_iff, Bool.or_eq_false_iff, Bool.not_true, Bool.not_false] at h4
    have k0 : a9.kd = 0 := h4
    refine s_region ?_
    refine o_p (p_pure rfl) rfl ?_
    refine o_p (p_fieldAddr rfl rfl fd_44_6 sz_42 rfl) rfl ?_
    refine o_q (q_loadn rfl rfl sz_42 (by repeat (first | exact .here | apply Pick.there)) rfl) rfl ?_
    refine o_p (p_fieldAddr rfl rfl fd_44_2 sz_3 rfl) rfl ?_
    refine o_q (q_load rfl rfl sz_3 (by repeat (first | exact .here | apply Pick.there)) rfl) rfl ?_
    refine o_p (p_fieldAddr rfl rfl fd_44_3 sz_3 rfl) rfl ?_
    refine o_q (q_load rfl rfl sz_3 (by repeat (first | exact .here | apply Pick.there)) rfl) rfl ?_
    refine o_p (p_fieldAddr rfl rfl fd_44_7 sz_4 rfl) rfl ?_
    refine o_q (q_load rfl rfl sz_4 (by repeat (first | exact .here | apply Pick.there)) rfl) rfl ?_
    refine o_p (p_build (cs := [_, _, _, _, _]) rfl rfl pl_48 zr_48 rfl) rfl ?_
    refine o_h (h_callF (Cs := [.blk bt 106 2 [.int .i64 (next), .slice a (L).length cap], .files a cap (L)]) rfl fn_81 rfl (by repeat (first | exact Picks.nil | (apply Picks.cons; · (repeat (first | exact .here | apply Pick.there))))) (fun w1 h1 hf => c81 w1 bt next a cap L a9.rc a9.sq (⟨0, a9.ac, a9.sh, a9.fl, none, 0, []⟩ : LOpn) hf hV hn0)) rfl (fun gz hgz => ?_)
    refine o_p (p_pure rfl) rfl ?_
    refine o_p (p_pure rfl) rfl ?_
    refine o_p (p_pure rfl) rfl ?_
    refine o_p (p_fieldAddr rfl rfl fd_40_1 sz_3 rfl) rfl ?_
    refine o_h0 (h_store rfl rfl rfl sz_3 rfl (by repeat (first | exact .here | apply Put.there)) (by simp only [setMany_length, List.length_set, List.length_cons, List.length_nil, List.length_map]; omega) rfl) (fun _ _ => ?_)
    refine o_p (p_fieldAddr rfl rfl fd_40_0 sz_28 rfl) rfl ?_
    refine o_h0 (h_store rfl rfl rfl sz_28 rfl (by repeat (first | exact .here | apply Put.there)) (by simp only [setMany_length, List.length_set, List.length_cons, List.length_nil, List.length_map]; omega) rfl) (fun _ _ => ?_)
    refine o_nil ?_
    refine s_blk ?_
    refine s_seq ?_
    refine s_weaken (L' := [(4, _)]) (by repeat (first | exact sl_n | refine sl_c rfl ?_)) (fun _ h => h) ?_
    refine s_region ?_
    refine o_q (q_loadn rfl rfl sz_40 (by repeat (first | exact .here | apply Pick.there)) rfl) rfl ?_
    refine o_h0 (h_store rfl rfl rfl sz_40 rfl (by repeat (first | exact .here | apply Put.there)) (by simp only [setMany_length, List.length_set, List.length_cons, List.length_nil, List.length_map]; omega) rfl) (fun _ _ => ?_)
    refine o_nil ?_
    exact s_retv (rs := [.cell 4 40]) rfl (.cell rfl sz_40 (by repeat (first | exact .here | apply Pick.there)) rfl (.nil)) (fun w' h' => by first | exact ⟨gz, by rw [doT, if_pos k0]; rfl, by rw [doT, if_pos k0]; exact hgz, by rw [doT, if_pos k0]; exact h'.ent (by repeat (first | exact .nil | refine .cons (by repeat (first | exact .here | apply Pick.there)) ?_))⟩ | exact ⟨gz, by rw [doT, if_neg n0, if_pos k1]; dsimp only; rw [if_pos hdl]; rfl, by rw [doT, if_neg n0, if_pos k1]; exact hgz, by rw [doT, if_neg n0, if_pos k1]; exact h'.ent (by repeat (first | exact .nil | refine .cons (by repeat (first | exact .here | apply Pick.there)) ?_))⟩ | exact ⟨gz, by rw [doT, if_neg n0, if_pos k1]; dsimp only; rw [if_neg (by rw [hdl]; decide)]; rfl, by rw [doT, if_neg n0, if_pos k1]; exact hgz, by rw [doT, if_neg n0, if_pos k1]; exact h'.ent (by repeat (first | exact .nil | refine .cons (by repeat (first | exact .here | apply Pick.there)) ?_))⟩ | exact ⟨gz, by rw [doT, if_neg n0, if_neg n1, if_pos k2]; rfl, by rw [doT, if_neg n0, if_neg n1, if_pos k2]; exact hgz, by rw [doT, if_neg n0, if_neg n1, if_pos k2]; exact h'.ent (by repeat (first | exact .nil | refine .cons (by repeat (first | exact .here | apply Pick.there)) ?_))⟩ | exact ⟨gz, by rw [doT, if_neg n0, if_neg n1, if_neg n2, if_pos k3]; rfl, by rw [doT, if_neg n0, if_neg n1, if_neg n2, if_pos k3]; exact hgz, by rw [doT, if_neg n0, if_neg n1, if_neg n2, if_pos k3]; exact h'.ent (by repeat (first | exact .nil | refine .cons (by repeat (first | exact .here | apply Pick.there)) ?_))⟩ | exact ⟨gz, by rw [doT, if_neg n0, if_neg n1, if_neg n2, if_neg n3, if_pos k4]; rfl, by rw [doT, if_neg n0, if_neg n1, if_neg n2, if_neg n3, if_pos k4]; exact hgz, by rw [doT, if_neg n0, if_neg n1, if_neg n2, if_neg n3, if_pos k4]; exact h'.ent (by repeat (first | exact .nil | refine .cons (by repeat (first | exact .here | apply Pick.there)) ?_))⟩ | exact ⟨((a, cap), L), by rw [doT, if_neg n0, if_neg n1, if_neg n2, if_neg n3, if_neg n4, if_pos k5]; rfl, by rw [doT, if_neg n0, if_neg n1, if_neg n2, if_neg n3, if_neg n4, if_pos k5], by rw [doT, if_neg n0, if_neg n1, if_neg n2, if_neg n3, if_neg n4, if_pos k5]; exact h'.ent (by repeat (first | exact .nil | refine .cons (by repeat (first | exact .here | apply Pick.there)) ?_))⟩ | exact ⟨((a, cap), L), by rw [doT, if_neg n0, if_neg n1, if_neg n2, if_neg n3, if_neg n4, if_neg n5, if_pos k6]; rfl, by rw [doT, if_neg n0, if_neg n1, if_neg n2, if_neg n3, if_neg n4, if_neg n5, if_pos k6], by rw [doT, if_neg n0, if_neg n1, if_neg n2, if_neg n3, if_neg n4, if_neg n5, if_pos k6]; exact h'.ent (by repeat (first | exact .nil | refine .cons (by repeat (first | exact .here | apply Pick.there)) ?_))⟩ | exact ⟨((a, cap), L), by rw [doT, if_neg n0, if_neg n1, if_neg n2, if_neg n3, if_neg n4, if_neg n5, if_neg n6]; rfl, by rw [doT, if_neg n0, if_neg n1, if_neg n2, if_neg n3, if_neg n4, if_neg n5, if_neg n6], by rw [doT, if_neg n0, if_neg n1, if_neg n2, if_neg n3, if_neg n4, if_neg n5, if_neg n6]; exact h'.ent (by repeat (first | exact .nil | refine .cons (by repeat (first | exact .here | apply Pick.there)) ?_))⟩)
  · try simp only [decide_eq_true_eq, decide_eq_false_iff_not, Bool.not_eq_true', Bool.not_eq_false', Bool.and_eq_true, Bool.or_eq_true, Bool.and_eq_false_iff, Bool.or_eq_false_iff, Bool.not_true, Bool.not_false] at h4
    have n0 : ¬ a9.kd = 0 := h4
    refine s_seq ?_
    refine s_region ?_
    refine o_p (p_pure rfl) rfl ?_
    refine o_p (p_pure rfl) rfl ?_
    refine o_nil ?_
    refine s_cond rfl (fun h5 => ?_) (fun h5 => ?_)
    · try simp only [decide_eq_true_eq, decide_eq_false_iff_not, Bool.not_eq_true', Bool.not_eq_false', Bool.and_eq_true, Bool.or_eq_true, Bool.and_eq_false_iff, Bool.or_eq_false_iff, Bool.not_true, Bool.not_false] at h5
      have k1 : a9.kd = 1 := h5
      refine s_seq ?_
      refine s_region ?_
      refine o_p (p_pure rfl) rfl ?_
      refine o_nil ?_
      refine s_seq ?_
      refine s_region ?_
      refine o_p (p_pure rfl) rfl ?_
      refine o_p (p_fieldAddr rfl rfl fd_44_1 sz_3 rfl) rfl ?_
      refine o_q (q_load rfl rfl sz_3 (by repeat (first | exact .here | apply Pick.there)) rfl) rfl ?_
      refine o_h (h_callF (Cs := [.blk bt 106 2 [.int .i64 (next), .slice a (L).length cap], .files a cap (L)]) rfl fn_82 rfl (by repeat (first | exact Picks.nil | (apply Picks.cons; · (repeat (first | exact .here | apply Pick.there))))) (fun w1 h1 hf => c82 w1 bt next a cap L a9.hd hf hV)) rfl (fun gz hgz => ?_)
      refine o_p (p_pure rfl) rfl ?_
      refine o_p (p_pure rfl) rfl ?_
      refine o_p (p_pure rfl) rfl ?_
      refine o_p (p_pure rfl) rfl ?_
      refine o_p (p_fieldAddr rfl rfl fd_40_0 sz_28 rfl) rfl ?_
      refine o_h0 (h_store rfl rfl rfl sz_28 rfl (by repeat (first | exact .here | apply Put.there)) (by simp only [setMany_length, List.length_set, List.length_cons, List.length_nil, List.length_map]; omega) rfl) (fun _ _ => ?_)
      refine o_nil ?_
      refine s_seq ?_
      refine s_region ?_
      refine o_p (p_pure rfl) rfl ?_
      refine o_nil ?_
      refine s_cond rfl (fun h6 => ?_) (fun h6 => ?_)
      · try simp only [decide_eq_true_eq, decide_eq_false_iff_not, Bool.not_eq_true', Bool.not_eq_false', Bool.and_eq_true, Bool.or_eq_true, Bool.and_eq_false_iff, Bool.or_eq_false_iff, Bool.not_true, Bool.not_false] at h6
        have hdl : (closeT (pls L) a9.hd).2.1 = true := h6
        refine s_region ?_
        refine o_p (p_fieldAddr rfl rfl fd_40_1 sz_3 rfl) rfl ?_
        refine o_h0 (h_store rfl rfl rfl sz_3 rfl (by repeat (first | exact .here | apply Put.there)) (by simp only [setMany_length, List.length_set, List.length_cons, List.length_nil, List.length_map]; omega) rfl) (fun _ _ => ?_)
        refine o_nil ?_
        refine s_blk ?_
        refine s_seq ?_
        refine s_region ?_
        refine o_q (q_loadn rfl rfl sz_40 (by repeat (first | exact .here | apply Pick.there)) rfl) rfl ?_
        refine o_h0 (h_store rfl rfl rfl sz_40 rfl (by repeat (first | exact .here | apply Put.there)) (by simp only [setMany_length, List.length_set, List.length_cons, List.length_nil, List.length_map]; omega) rfl) (fun _ _ => ?_)
        refine o_nil ?_
        exact s_retv (rs := [.cell 4 40]) rfl (.cell rfl sz_40 (by repeat (first | exact .here | apply Pick.there)) rfl (.nil)) (fun w' h' => by first | exact ⟨gz, by rw [doT, if_pos k0]; rfl, by rw [doT, if_pos k0]; exact hgz, by rw [doT, if_pos k0]; exact h'.ent (by repeat (first | exact .nil | refine .cons (by repeat (first | exact .here | apply Pick.there)) ?_))⟩ | exact ⟨gz, by rw [doT, if_neg n0, if_pos k1]; dsimp only; rw [if_pos hdl]; rfl, by rw [doT, if_neg n0, if_pos k1]; exact hgz, by rw [doT, if_neg n0, if_pos k1]; exact h'.ent (by repeat (first | exact .nil | refine .cons (by repeat (first | exact .here | apply Pick.there)) ?_))⟩ | exact ⟨gz, by rw [doT, if_neg n0, if_pos k1]; dsimp only; rw [if_neg (by rw [hdl]; decide)]; rfl, by rw [doT, if_neg n0, if_pos k1]; exact hgz, by rw [doT, if_neg n0, if_pos k1]; exact h'.ent (by repeat (first | exact .nil | refine .cons (by repeat (first | exact .here | apply Pick.there)) ?_))⟩ | exact ⟨gz, by rw [doT, if_neg n0, if_neg n1, if_pos k2]; rfl, by rw [doT, if_neg n0, if_neg n1, if_pos k2]; exact hgz, by rw [doT, if_neg n0, if_neg n1, if_pos k2]; exact h'.ent (by repeat (first | exact .nil | refine .cons (by repeat (first | exact .here | apply Pick.there)) ?_))⟩ | exact ⟨gz, by rw [doT, if_neg n0, if_neg n1, if_neg n2, if_pos k3]; rfl, by rw [doT, if_neg n0, if_neg n1, if_neg n2, if_pos k3]; exact hgz, by rw [doT, if_neg n0, if_neg n1, if_neg n2, if_pos k3]; exact h'.ent (by repeat (first | exact .nil | refine .cons (by repeat (first | exact .here | apply Pick.there)) ?_))⟩ | exact ⟨gz, by rw [doT, if_neg n0, if_neg n1, if_neg n2, if_neg n3, if_pos k4]; rfl, by rw [doT, if_neg n0, if_neg n1, if_neg n2, if_neg n3, if_pos k4]; exact hgz, by rw [doT, if_neg n0, if_neg n1, if_neg n2, if_neg n3, if_pos k4]; exact h'.ent (by repeat (first | exact .nil | refine .cons (by repeat (first | exact .here | apply Pick.there)) ?_))⟩ | exact ⟨((a, cap), L), by rw [doT, if_neg n0, if_neg n1, if_neg n2, if_neg n3, if_neg n4, if_pos k5]; rfl, by rw [doT, if_neg n0, if_neg n1, if_neg n2, if_neg n3, if_neg n4, if_pos k5], by rw [doT, if_neg n0, if_neg n1, if_neg n2, if_neg n3, if_neg n4, if_pos k5]; exact h'.ent (by repeat (first | exact .nil | refine .cons (by repeat (first | exact .here | apply Pick.there)) ?_))⟩ | exact ⟨((a, cap), L), by rw [doT, if_neg n0, if_neg n1, if_neg n2, if_neg n3, if_neg n4, if_neg n5, if_pos k6]; rfl, by rw [doT, if_neg n0, if_neg n1, if_neg n2, if_neg n3, if_neg n4, if_neg n5, if_pos k6], by rw [doT, if_neg n0, if_neg n1, if_neg n2, if_neg n3, if_neg n4, if_neg n5, if_pos k6]; exact h'.ent (by repeat (first | exact .nil | refine .cons (by repeat (first | exact .here | apply Pick.there)) ?_))⟩ | exact ⟨((a, cap), L), by rw [doT, if_neg n0, if_neg n1, if_neg n2, if_neg n3, if_neg n4, if_neg n5, if_neg n6]; rfl, by rw [doT, if_neg n0, if_neg n1, if_neg n2, if_neg n3, if_neg n4, if_neg n5, if_neg n6], by rw [doT, if_neg n0, if_neg n1, if_neg n2, if_neg n3, if_neg n4, if_neg n5, if_neg n6]; exact h'.ent (by repeat (first | exact .nil | refine .cons (by repeat (first | exact .here | apply Pick.there)) ?_))⟩)
      · try simp only [decide_eq_true_eq, decide_eq_false_iff_not, Bool.not_eq_true', Bool.not_eq_false', Bool.and_eq_true, Bool.or_eq_true, Bool.and_eq_false_iff, Bool.or_eq_false_iff, Bool.not_true, Bool.not_false] at h6
        have hdl : (closeT (pls L) a9.hd).2.1 = false := by have hq := h6; simpa using hq
        refine s_skip ?_
        refine s_blk ?_
        refine s_seq ?_
        refine s_region ?_
        refine o_q (q_loadn rfl rfl sz_40 (by repeat (first | exact .here | apply Pick.there)) rfl) rfl ?_
        refine o_h0 (h_store rfl rfl rfl sz_40 rfl (by repeat (first | exact .here | apply Put.there)) (by simp only [setMany_length, List.length_set, List.length_cons, List.length_nil, List.length_map]; omega) rfl) (fun _ _ => ?_)
        refine o_nil ?_
        exact s_retv (rs := [.cell 4 40]) rfl (.cell rfl sz_40 (by repeat (first | exact .here | apply Pick.there)) rfl (.nil)) (fun w' h' => by first | exact ⟨gz, by rw [doT, if_pos k0]; rfl, by rw [doT, if_pos k0]; exact hgz, by rw [doT, if_pos k0]; exact h'.ent (by repeat (first | exact .nil | refine .cons (by repeat (first | exact .here | apply Pick.there)) ?_))⟩ | exact ⟨gz, by rw [doT, if_neg n0, if_pos k1]; dsimp only; rw [if_pos hdl]; rfl, by rw [doT, if_neg n0, if_pos k1]; exact hgz, by rw [doT, if_neg n0, if_pos k1]; exact h'.ent (by repeat (first | exact .nil | refine .cons (by repeat (first | exact .here | apply Pick.there)) ?_))⟩ | exact ⟨gz, by rw [doT, if_neg n0, if_pos k1]; dsimp only; rw [if_neg (by rw [hdl]; decide)]; rfl, by rw [doT, if_neg n0, if_pos k1]; exact hgz, by rw [doT, if_neg n0, if_pos k1]; exact h'.ent (by repeat (first | exact .nil | refine .cons (by repeat (first | exact .here | apply Pick.there)) ?_))⟩ | exact ⟨gz, by rw [doT, if_neg n0, if_neg n1, if_pos k2]; rfl, by rw [doT, if_neg n0, if_neg n1, if_pos k2]; exact hgz, by rw [doT, if_neg n0, if_neg n1, if_pos k2]; exact h'.ent (by repeat (first | exact .nil | refine .cons (by repeat (first | exact .here | apply Pick.there)) ?_))⟩ | exact ⟨gz, by rw [doT, if_neg n0, if_neg n1, if_neg n2, if_pos k3]; rfl, by rw [doT, if_neg n0, if_neg n1, if_neg n2, if_pos k3]; exact hgz, by rw [doT, if_neg n0, if_neg n1, if_neg n2, if_pos k3]; exact h'.ent (by repeat (first | exact .nil | refine .cons (by repeat (first | exact .here | apply Pick.there)) ?_))⟩ | exact ⟨gz, by rw [doT, if_neg n0, if_neg n1, if_neg n2, if_neg n3, if_pos k4]; rfl, by rw [doT, if_neg n0, if_neg n1, if_neg n2, if_neg n3, if_pos k4]; exact hgz, by rw [doT, if_neg n0, if_neg n1, if_neg n2, if_neg n3, if_pos k4]; exact h'.ent (by repeat (first | exact .nil | refine .cons (by repeat (first | exact .here | apply Pick.there)) ?_))⟩ | exact ⟨((a, cap), L), by rw [doT, if_neg n0, if_neg n1, if_neg n2, if_neg n3, if_neg n4, if_pos k5]; rfl, by rw [doT, if_neg n0, if_neg n1, if_neg n2, if_neg n3, if_neg n4, if_pos k5], by rw [doT, if_neg n0, if_neg n1, if_neg n2, if_neg n3, if_neg n4, if_pos k5]; exact h'.ent (by repeat (first | exact .nil | refine .cons (by repeat (first | exact .here | apply Pick.there)) ?_))⟩ | exact ⟨((a, cap), L), by rw [doT, if_neg n0, if_neg n1, if_neg n2, if_neg n3, if_neg n4, if_neg n5, if_pos k6]; rfl, by rw [doT, if_neg n0, if_neg n1, if_neg n2, if_neg n3, if_neg n4, if_neg n5, if_pos k6], by rw [doT, if_neg n0, if_neg n1, if_neg n2, if_neg n3, if_neg n4, if_neg n5, if_pos k6]; exact h'.ent (by repeat (first | exact .nil | refine .cons (by repeat (first | exact .here | apply Pick.there)) ?_))⟩ | exact ⟨((a, cap), L), by rw [doT, if_neg n0, if_neg n1, if_neg n2, if_neg n3, if_neg n4, if_neg n5, if_neg n6]; rfl, by rw [doT, if_neg n0, if_neg n1, if_neg n2, if_neg n3, if_neg n4, if_neg n5, if_neg n6], by rw [doT, if_neg n0, if_neg n1, if_neg n2, if_neg n3, if_neg n4, if_neg n5, if_neg n6]; exact h'.ent (by repeat (first | exact .nil | refine .cons (by repeat (first | exact .here | apply Pick.there)) ?_))⟩)
    · try simp only [decide_eq_true_eq, decide_eq_false_iff_not, Bool.not_eq_true', Bool.not_eq_false', Bool.and_eq_true, Bool.or_eq_true, Bool.and_eq_false_iff, Bool.or_eq_false_iff, Bool.not_true, Bool.not_false] at h5
      have n1 : ¬ a9.kd = 1 := h5
      refine s_seq ?_
      refine s_region ?_
      refine o_p (p_pure rfl) rfl ?_
      refine o_p (p_pure rfl) rfl ?_
      refine o_nil ?_
      refine s_cond rfl (fun h7 => ?_) (fun h7 => ?_)
      · try simp only [decide_eq_true_eq, decide_eq_false_iff_not, Bool.not_eq_true', Bool.not_eq_false', Bool.and_eq_true, Bool.or_eq_true, Bool.and_eq_false_iff, Bool.or_eq_false_iff, Bool.not_true, Bool.not_false] at h7
        have k2 : a9.kd = 2 := h7
        refine s_region ?_
        refine o_p (p_pure rfl) rfl ?_
        refine o_p (p_fieldAddr rfl rfl fd_44_1 sz_3 rfl) rfl ?_
        refine o_q (q_load rfl rfl sz_3 (by repeat (first | exact .here | apply Pick.there)) rfl) rfl ?_
        refine o_p (p_fieldAddr rfl rfl fd_44_7 sz_4 rfl) rfl ?_
        refine o_q (q_load rfl rfl sz_4 (by repeat (first | exact .here | apply Pick.there)) rfl) rfl ?_
        refine o_h (h_callF (Cs := [.blk bt 106 2 [.int .i64 (next), .slice a (L).length cap], .files a cap (L)]) rfl fn_84 rfl (by repeat (first | exact Picks.nil | (apply Picks.cons; · (repeat (first | exact .here | apply Pick.there))))) (fun w1 h1 hf => c84 w1 bt next a cap L a9.hd a9.fl hf hV)) rfl (fun gz hgz => ?_)
        refine o_p (p_fieldAddr rfl rfl fd_40_0 sz_28 rfl) rfl ?_
        refine o_h0 (h_store rfl rfl rfl sz_28 rfl (by repeat (first | exact .here | apply Put.there)) (by simp only [setMany_length, List.length_set, List.length_cons, List.length_nil, List.length_map]; omega) rfl) (fun _ _ => ?_)
        refine o_nil ?_
        refine s_blk ?_
        refine s_seq ?_
        refine s_region ?_
        refine o_q (q_loadn rfl rfl sz_40 (by repeat (first | exact .here | apply Pick.there)) rfl) rfl ?_
        refine o_h0 (h_store rfl rfl rfl sz_40 rfl (by repeat (first | exact .here | apply Put.there)) (by simp only [setMany_length, List.length_set, List.length_cons, List.length_nil, List.length_map]; omega) rfl) (fun _ _ => ?_)
        refine o_nil ?_
        exact s_retv (rs := [.cell 4 40]) rfl (.cell rfl sz_40 (by repeat (first | exact .here | apply Pick.there)) rfl (.nil)) (fun w' h' => by first | exact ⟨gz, by rw [doT, if_pos k0]; rfl, by rw [doT, if_pos k0]; exact hgz, by rw [doT, if_pos k0]; exact h'.ent (by repeat (first | exact .nil | refine .cons (by repeat (first | exact .here | apply Pick.there)) ?_))⟩ | exact ⟨gz, by rw [doT, if_neg n0, if_pos k1]; dsimp only; rw [if_pos hdl]; rfl, by rw [doT, if_neg n0, if_pos k1]; exact hgz, by rw [doT, if_neg n0, if_pos k1]; exact h'.ent (by repeat (first | exact .nil | refine .cons (by repeat (first | exact .here | apply Pick.there)) ?_))⟩ | exact ⟨gz, by rw [doT, if_neg n0, if_pos k1]; dsimp only; rw [if_neg (by rw [hdl]; decide)]; rfl, by rw [doT, if_neg n0, if_pos k1]; exact hgz, by rw [doT, if_neg n0, if_pos k1]; exact h'.ent (by repeat (first | exact .nil | refine .cons (by repeat (first | exact .here | apply Pick.there)) ?_))⟩ | exact ⟨gz, by rw [doT, if_neg n0, if_neg n1, if_pos k2]; rfl, by rw [doT, if_neg n0, if_neg n1, if_pos k2]; exact hgz, by rw [doT, if_neg n0, if_neg n1, if_pos k2]; exact h'.ent (by repeat (first | exact .nil | refine .cons (by repeat (first | exact .here | apply Pick.there)) ?_))⟩ | exact ⟨gz, by rw [doT, if_neg n0, if_neg n1, if_neg n2, if_pos k3]; rfl, by rw [doT, if_neg n0, if_neg n1, if_neg n2, if_pos k3]; exact hgz, by rw [doT, if_neg n0, if_neg n1, if_neg n2, if_pos k3]; exact h'.ent (by repeat (first | exact .nil | refine .cons (by repeat (first | exact .here | apply Pick.there)) ?_))⟩ | exact ⟨gz, by rw [doT, if_neg n0, if_neg n1, if_neg n2, if_neg n3, if_pos k4]; rfl, by rw [doT, if_neg n0, if_neg n1, if_neg n2, if_neg n3, if_pos k4]; exact hgz, by rw [doT, if_neg n0, if_neg n1, if_neg n2, if_neg n3, if_pos k4]; exact h'.ent (by repeat (first | exact .nil | refine .cons (by repeat (first | exact .here | apply Pick.there)) ?_))⟩ | exact ⟨((a, cap), L), by rw [doT, if_neg n0, if_neg n1, if_neg n2, if_neg n3, if_neg n4, if_pos k5]; rfl, by rw [doT, if_neg n0, if_neg n1, if_neg n2, if_neg n3, if_neg n4, if_pos k5], by rw [doT, if_neg n0, if_neg n1, if_neg n2, if_neg n3, if_neg n4, if_pos k5]; exact h'.ent (by repeat (first | exact .nil | refine .cons (by repeat (first | exact .here | apply Pick.there)) ?_))⟩ | exact ⟨((a, cap), L), by rw [doT, if_neg n0, if_neg n1, if_neg n2, if_neg n3, if_neg n4, if_neg n5, if_pos k6]; rfl, by rw [doT, if_neg n0, if_neg n1, if_neg n2, if_neg n3, if_neg n4, if_neg n5, if_pos k6], by rw [doT, if_neg n0, if_neg n1, if_neg n2, if_neg n3, if_neg n4, if_neg n5, if_pos k6]; exact h'.ent (by repeat (first | exact .nil | refine .cons (by repeat (first | exact .here | apply Pick.there)) ?_))⟩ | exact ⟨((a, cap), L), by rw [doT, if_neg n0, if_neg n1, if_neg n2, if_neg n3, if_neg n4, if_neg n5, if_neg n6]; rfl, by rw [doT, if_neg n0, if_neg n1, if_neg n2, if_neg n3, if_neg n4, if_neg n5, if_neg n6], by rw [doT, if_neg n0, if_neg n1, if_neg n2, if_neg n3, if_neg n4, if_neg n5, if_neg n6]; exact h'.ent (by repeat (first | exact .nil | refine .cons (by repeat (first | exact .here | apply Pick.there)) ?_))⟩)
      · try simp only [decide_eq_true_eq, decide_eq_false_iff_not, Bool.not_eq_true', Bool.not_eq_false', Bool.and_eq_true, Bool.or_eq_true, Bool.and_eq_false_iff, Bool.or_eq_false_iff, Bool.not_true, Bool.not_false] at h7
        have n2 : ¬ a9.kd = 2 := h7
        refine s_seq ?_
        refine s_region ?_
        refine o_p (p_pure rfl) rfl ?_
        refine o_p (p_pure rfl) rfl ?_
        refine o_nil ?_
        refine s_cond rfl (fun h8 => ?_) (fun h8 => ?_)
        · try simp only [decide_eq_true_eq, decide_eq_false_iff_not, Bool.not_eq_true', Bool.not_eq_false', Bool.and_eq_true, Bool.or_eq_true, Bool.and_eq_false_iff, Bool.or_eq_false_iff, Bool.not_true, Bool.not_false] at h8
          have k3 : a9.kd = 3 := h8
          refine s_region ?_
          refine o_p (p_pure rfl) rfl ?_
          refine o_p (p_fieldAddr rfl rfl fd_44_1 sz_3 rfl) rfl ?_
          refine o_q (q_load rfl rfl sz_3 (by repeat (first | exact .here | apply Pick.there)) rfl) rfl ?_
          refine o_q (q_loadn rfl rfl sz_62 (by repeat (first | exact .here | apply Pick.there)) rfl) rfl ?_
          refine o_h (h_callF (Cs := [.blk bt 106 2 [.int .i64 (next), .slice a (L).length cap], .files a cap (L)]) rfl fn_67 rfl (by repeat (first | exact Picks.nil | (apply Picks.cons; · (repeat (first | exact .here | apply Pick.there))))) (fun w1 h1 hf => c67 w1 bt next a cap L a9.hd a9.lock hf hV)) rfl (fun gz hgz => ?_)
          refine o_p (p_fieldAddr rfl rfl fd_40_0 sz_28 rfl) rfl ?_
          refine o_h0 (h_store rfl rfl rfl sz_28 rfl (by repeat (first | exact .here | apply Put.there)) (by simp only [setMany_length, List.length_set, List.length_cons, List.length_nil, List.length_map]; omega) rfl) (fun _ _ => ?_)
          refine o_nil ?_
          refine s_blk ?_
          refine s_seq ?_
          refine s_region ?_
          refine o_q (q_loadn rfl rfl sz_40 (by repeat (first | exact .here | apply Pick.there)) rfl) rfl ?_
          refine o_h0 (h_store rfl rfl rfl sz_40 rfl (by repeat (first | exact .here | apply Put.there)) (by simp only [setMany_length, List.length_set, List.length_cons, List.length_nil, List.length_map]; omega) rfl) (fun _ _ => ?_)
          refine o_nil ?_
          exact s_retv (rs := [.cell 4 40]) rfl (.cell rfl sz_40 (by repeat (first | exact .here | apply Pick.there)) rfl (.nil)) (fun w' h' => by first | exact ⟨gz, by rw [doT, if_pos k0]; rfl, by rw [doT, if_pos k0]; exact hgz, by rw [doT, if_pos k0]; exact h'.ent (by repeat (first | exact .nil | refine .cons (by repeat (first | exact .here | apply Pick.there)) ?_))⟩ | exact ⟨gz, by rw [doT, if_neg n0, if_pos k1]; dsimp only; rw [if_pos hdl]; rfl, by rw [doT, if_neg n0, if_pos k1]; exact hgz, by rw [doT, if_neg n0, if_pos k1]; exact h'.ent (by repeat (first | exact .nil | refine .cons (by repeat (first | exact .here | apply Pick.there)) ?_))⟩ | exact ⟨gz, by rw [doT, if_neg n0, if_pos k1]; dsimp only; rw [if_neg (by rw [hdl]; decide)]; rfl, by rw [doT, if_neg n0, if_pos k1]; exact hgz, by rw [doT, if_neg n0, if_pos k1]; exact h'.ent (by repeat (first | exact .nil | refine .cons (by repeat (first | exact .here | apply Pick.there)) ?_))⟩ | exact ⟨gz, by rw [doT, if_neg n0, if_neg n1, if_pos k2]; rfl, by rw [doT, if_neg n0, if_neg n1, if_pos k2]; exact hgz, by rw [doT, if_neg n0, if_neg n1, if_pos k2]; exact h'.ent (by repeat (first | exact .nil | refine .cons (by repeat (first | exact .here | apply Pick.there)) ?_))⟩ | exact ⟨gz, by rw [doT, if_neg n0, if_neg n1, if_neg n2, if_pos k3]; rfl, by rw [doT, if_neg n0, if_neg n1, if_neg n2, if_pos k3]; exact hgz, by rw [doT, if_neg n0, if_neg n1, if_neg n2, if_pos k3]; exact h'.ent (by repeat (first | exact .nil | refine .cons (by repeat (first | exact .here | apply Pick.there)) ?_))⟩ | exact ⟨gz, by rw [doT, if_neg n0, if_neg n1, if_neg n2, if_neg n3, if_pos k4]; rfl, by rw [doT, if_neg n0, if_neg n1, if_neg n2, if_neg n3, if_pos k4]; exact hgz, by rw [doT, if_neg n0, if_neg n1, if_neg n2, if_neg n3, if_pos k4]; exact h'.ent (by repeat (first | exact .nil | refine .cons (by repeat (first | exact .here | apply Pick.there)) ?_))⟩ | exact ⟨((a, cap), L), by rw [doT, if_neg n0, if_neg n1, if_neg n2, if_neg n3, if_neg n4, if_pos k5]; rfl, by rw [doT, if_neg n0, if_neg n1, if_neg n2, if_neg n3, if_neg n4, if_pos k5], by rw [doT, if_neg n0, if_neg n1, if_neg n2, if_neg n3, if_neg n4, if_pos k5]; exact h'.ent (by repeat (first | exact .nil | refine .cons (by repeat (first | exact .here | apply Pick.there)) ?_))⟩ | exact ⟨((a, cap), L), by rw [doT, if_neg n0, if_neg n1, if_neg n2, if_neg n3, if_neg n4, if_neg n5, if_pos k6]; rfl, by rw [doT, if_neg n0, if_neg n1, if_neg n2, if_neg n3, if_neg n4, if_neg n5, if_pos k6], by rw [doT, if_neg n0, if_neg n1, if_neg n2, if_neg n3, if_neg n4, if_neg n5, if_pos k6]; exact h'.ent (by repeat (first | exact .nil | refine .cons (by repeat (first | exact .here | apply Pick.there)) ?_))⟩ | exact ⟨((a, cap), L), by rw [doT, if_neg n0, if_neg n1, if_neg n2, if_neg n3, if_neg n4, if_neg n5, if_neg n6]; rfl, by rw [doT, if_neg n0, if_neg n1, if_neg n2, if_neg n3, if_neg n4, if_neg n5, if_neg n6], by rw [doT, if_neg n0, if_neg n1, if_neg n2, if_neg n3, if_neg n4, if_neg n5, if_neg n6]; exact h'.ent (by repeat (first | exact .nil | refine .cons (by repeat (first | exact .here | apply Pick.there)) ?_))⟩)
        · try simp only [decide_eq_true_eq, decide_eq_false_iff_not, Bool.not_eq_true', Bool.not_eq_false', Bool.and_eq_true, Bool.or_eq_true, Bool.and_eq_false_iff, Bool.or_eq_false_iff, Bool.not_true, Bool.not_false] at h8
          have n3 : ¬ a9.kd = 3 := h8
          refine s_seq ?_
          refine s_region ?_
          refine o_p (p_pure rfl) rfl ?_
          refine o_p (p_pure rfl) rfl ?_
          refine o_nil ?_
          refine s_cond rfl (fun h9 => ?_) (fun h9 => ?_)
          · try simp only [decide_eq_true_eq, decide_eq_false_iff_not, Bool.not_eq_true', Bool.not_eq_false', Bool.and_eq_true, Bool.or_eq_true, Bool.and_eq_false_iff, Bool.or_eq_false_iff, Bool.not_true, Bool.not_false] at h9
            have k4 : a9.kd = 4 := h9
            refine s_region ?_
            refine o_p (p_pure rfl) rfl ?_
            refine o_p (p_fieldAddr rfl rfl fd_44_1 sz_3 rfl) rfl ?_
            refine o_q (q_load rfl rfl sz_3 (by repeat (first | exact .here | apply Pick.there)) rfl) rfl ?_
            refine o_p (p_fieldAddr rfl rfl fd_44_4 sz_3 rfl) rfl ?_
            refine o_q (q_load rfl rfl sz_3 (by repeat (first | exact .here | apply Pick.there)) rfl) rfl ?_
            refine o_p (p_fieldAddr rfl rfl fd_44_5 sz_3 rfl) rfl ?_
            refine o_q (q_load rfl rfl sz_3 (by repeat (first | exact .here | apply Pick.there)) rfl) rfl ?_
            refine o_h (h_callF (Cs := [.blk bt 106 2 [.int .i64 (next), .slice a (L).length cap], .files a cap (L)]) rfl fn_74 rfl (by repeat (first | exact Picks.nil | (apply Picks.cons; · (repeat (first | exact .here | apply Pick.there))))) (fun w1 h1 hf => c74 w1 bt next a cap L a9.hd a9.fr a9.cnt hf hV)) rfl (fun gz hgz => ?_)
            refine o_p (p_fieldAddr rfl rfl fd_40_0 sz_28 rfl) rfl ?_
            refine o_h0 (h_store rfl rfl rfl sz_28 rfl (by repeat (first | exact .here | apply Put.there)) (by simp only [setMany_length, List.length_set, List.length_cons, List.length_nil, List.length_map]; omega) rfl) (fun _ _ => ?_)
            refine o_nil ?_
            refine s_blk ?_
            refine s_seq ?_
            refine s_weaken (L' := [(4, _)]) (by repeat (first | exact sl_n | refine sl_c rfl ?_)) (fun _ h => h) ?_
            refine s_region ?_
            refine o_q (q_loadn rfl rfl sz_40 (by repeat (first | exact .here | apply Pick.there)) rfl) rfl ?_
            refine o_h0 (h_store rfl rfl rfl sz_40 rfl (by repeat (first | exact .here | apply Put.there)) (by simp only [setMany_length, List.length_set, List.length_cons, List.length_nil, List.length_map]; omega) rfl) (fun _ _ => ?_)
            refine o_nil ?_
            exact s_retv (rs := [.cell 4 40]) rfl (.cell rfl sz_40 (by repeat (first | exact .here | apply Pick.there)) rfl (.nil)) (fun w' h' => by first | exact ⟨gz, by rw [doT, if_pos k0]; rfl, by rw [doT, if_pos k0]; exact hgz, by rw [doT, if_pos k0]; exact h'.ent (by repeat (first | exact .nil | refine .cons (by repeat (first | exact .here | apply Pick.there)) ?_))⟩ | exact ⟨gz, by rw [doT, if_neg n0, if_pos k1]; dsimp only; rw [if_pos hdl]; rfl, by rw [doT, if_neg n0, if_pos k1]; exact hgz, by rw [doT, if_neg n0, if_pos k1]; exact h'.ent (by repeat (first | exact .nil | refine .cons (by repeat (first | exact .here | apply Pick.there)) ?_))⟩ | exact ⟨gz, by rw [doT, if_neg n0, if_pos k1]; dsimp only; rw [if_neg (by rw [hdl]; decide)]; rfl, by rw [doT, if_neg n0, if_pos k1]; exact hgz, by rw [doT, if_neg n0, if_pos k1]; exact h'.ent (by repeat (first | exact .nil | refine .cons (by repeat (first | exact .here | apply Pick.there)) ?_))⟩ | exact ⟨gz, by rw [doT, if_neg n0, if_neg n1, if_pos k2]; rfl, by rw [doT, if_neg n0, if_neg n1, if_pos k2]; exact hgz, by rw [doT, if_neg n0, if_neg n1, if_pos k2]; exact h'.ent (by repeat (first | exact .nil | refine .cons (by repeat (first | exact .here | apply Pick.there)) ?_))⟩ | exact ⟨gz, by rw [doT, if_neg n0, if_neg n1, if_neg n2, if_pos k3]; rfl, by rw [doT, if_neg n0, if_neg n1, if_neg n2, if_pos k3]; exact hgz, by rw [doT, if_neg n0, if_neg n1, if_neg n2, if_pos k3]; exact h'.ent (by repeat (first | exact .nil | refine .cons (by repeat (first | exact .here | apply Pick.there)) ?_))⟩ | exact ⟨gz, by rw [doT, if_neg n0, if_neg n1, if_neg n2, if_neg n3, if_pos k4]; rfl, by rw [doT, if_neg n0, if_neg n1, if_neg n2, if_neg n3, if_pos k4]; exact hgz, by rw [doT, if_neg n0, if_neg n1, if_neg n2, if_neg n3, if_pos k4]; exact h'.ent (by repeat (first | exact .nil | refine .cons (by repeat (first | exact .here | apply Pick.there)) ?_))⟩ | exact ⟨((a, cap), L), by rw [doT, if_neg n0, if_neg n1, if_neg n2, if_neg n3, if_neg n4, if_pos k5]; rfl, by rw [doT, if_neg n0, if_neg n1, if_neg n2, if_neg n3, if_neg n4, if_pos k5], by rw [doT, if_neg n0, if_neg n1, if_neg n2, if_neg n3, if_neg n4, if_pos k5]; exact h'.ent (by repeat (first | exact .nil | refine .cons (by repeat (first | exact .here | apply Pick.there)) ?_))⟩ | exact ⟨((a, cap), L), by rw [doT, if_neg n0, if_neg n1, if_neg n2, if_neg n3, if_neg n4, if_neg n5, if_pos k6]; rfl, by rw [doT, if_neg n0, if_neg n1, if_neg n2, if_neg n3, if_neg n4, if_neg n5, if_pos k6], by rw [doT, if_neg n0, if_neg n1, if_neg n2, if_neg n3, if_neg n4, if_neg n5, if_pos k6]; exact h'.ent (by repeat (first | exact .nil | refine .cons (by repeat (first | exact .here | apply Pick.there)) ?_))⟩ | exact ⟨((a, cap), L), by rw [doT, if_neg n0, if_neg n1, if_neg n2, if_neg n3, if_neg n4, if_neg n5, if_neg n6]; rfl, by rw [doT, if_neg n0, if_neg n1, if_neg n2, if_neg n3, if_neg n4, if_neg n5, if_neg n6], by rw [doT, if_neg n0, if_neg n1, if_neg n2, if_neg n3, if_neg n4, if_neg n5, if_neg n6]; exact h'.ent (by repeat (first | exact .nil | refine .cons (by repeat (first | exact .here | apply Pick.there)) ?_))⟩)
          · try simp only [decide_eq_true_eq, decide_eq_false_iff_not, Bool.not_eq_true', Bool.not_eq_false', Bool.and_eq_true, Bool.or_eq_true, Bool.and_eq_false_iff, Bool.or_eq_false_iff, Bool.not_true, Bool.not_false] at h9
            have n4 : ¬ a9.kd = 4 := h9
            refine s_seq ?_
            refine s_region ?_
            refine o_p (p_pure rfl) rfl ?_
            refine o_p (p_pure rfl) rfl ?_
            refine o_nil ?_
            refine s_cond rfl (fun h10 => ?_) (fun h10 => ?_)
            · try simp only [decide_eq_true_eq, decide_eq_false_iff_not, Bool.not_eq_true', Bool.not_eq_false', Bool.and_eq_true, Bool.or_eq_true, Bool.and_eq_false_iff, Bool.or_eq_false_iff, Bool.not_true, Bool.not_false] at h10
              have k5 : a9.kd = 5 := h10
              refine s_region ?_
              refine o_p (p_pure rfl) rfl ?_
              refine o_p (p_fieldAddr rfl rfl fd_44_1 sz_3 rfl) rfl ?_
              refine o_q (q_load rfl rfl sz_3 (by repeat (first | exact .here | apply Pick.there)) rfl) rfl ?_
              refine o_q (q_loadn rfl rfl sz_62 (by repeat (first | exact .here | apply Pick.there)) rfl) rfl ?_
              refine o_q (q_call rfl fn_76 rfl (fun w1 h1 => c76 w1 bt a cap L a9.hd a9.lock (h1.rd_blk (Mc := []) (b := bt) (by repeat (first | exact .here | apply Pick.there)) rfl (by simp)) (h1.ft (by repeat (first | exact .here | apply Pick.there))) hV)) rfl ?_
              refine o_p (p_fieldAddr rfl rfl fd_40_0 sz_28 rfl) rfl ?_
              refine o_h0 (h_store rfl rfl rfl sz_28 rfl (by repeat (first | exact .here | apply Put.there)) (by simp only [setMany_length, List.length_set, List.length_cons, List.length_nil, List.length_map]; omega) rfl) (fun _ _ => ?_)
              refine o_nil ?_
              refine s_blk ?_
              refine s_seq ?_
              refine s_weaken (L' := [(4, _)]) (by repeat (first | exact sl_n | refine sl_c rfl ?_)) (fun _ h => h) ?_
              refine s_region ?_
              refine o_q (q_loadn rfl rfl sz_40 (by repeat (first | exact .here | apply Pick.there)) rfl) rfl ?_
              refine o_h0 (h_store rfl rfl rfl sz_40 rfl (by repeat (first | exact .here | apply Put.there)) (by simp only [setMany_length, List.length_set, List.length_cons, List.length_nil, List.length_map]; omega) rfl) (fun _ _ => ?_)
              refine o_nil ?_
              exact s_retv (rs := [.cell 4 40]) rfl (.cell rfl sz_40 (by repeat (first | exact .here | apply Pick.there)) rfl (.nil)) (fun w' h' => by first | exact ⟨gz, by rw [doT, if_pos k0]; rfl, by rw [doT, if_pos k0]; exact hgz, by rw [doT, if_pos k0]; exact h'.ent (by repeat (first | exact .nil | refine .cons (by repeat (first | exact .here | apply Pick.there)) ?_))⟩ | exact ⟨gz, by rw [doT, if_neg n0, if_pos k1]; dsimp only; rw [if_pos hdl]; rfl, by rw [doT, if_neg n0, if_pos k1]; exact hgz, by rw [doT, if_neg n0, if_pos k1]; exact h'.ent (by repeat (first | exact .nil | refine .cons (by repeat (first | exact .here | apply Pick.there)) ?_))⟩ | exact ⟨gz, by rw [doT, if_neg n0, if_pos k1]; dsimp only; rw [if_neg (by rw [hdl]; decide)]; rfl, by rw [doT, if_neg n0, if_pos k1]; exact hgz, by rw [doT, if_neg n0, if_pos k1]; exact h'.ent (by repeat (first | exact .nil | refine .cons (by repeat (first | exact .here | apply Pick.there)) ?_))⟩ | exact ⟨gz, by rw [doT, if_neg n0, if_neg n1, if_pos k2]; rfl, by rw [doT, if_neg n0, if_neg n1, if_pos k2]; exact hgz, by rw [doT, if_neg n0, if_neg n1, if_pos k2]; exact h'.ent (by repeat (first | exact .nil | refine .cons (by repeat (first | exact .here | apply Pick.there)) ?_))⟩ | exact ⟨gz, by rw [doT, if_neg n0, if_neg n1, if_neg n2, if_pos k3]; rfl, by rw [doT, if_neg n0, if_neg n1, if_neg n2, if_pos k3]; exact hgz, by rw [doT, if_neg n0, if_neg n1, if_neg n2, if_pos k3]; exact h'.ent (by repeat (first | exact .nil | refine .cons (by repeat (first | exact .here | apply Pick.there)) ?_))⟩ | exact ⟨gz, by rw [doT, if_neg n0, if_neg n1, if_neg n2, if_neg n3, if_pos k4]; rfl, by rw [doT, if_neg n0, if_neg n1, if_neg n2, if_neg n3, if_pos k4]; exact hgz, by rw [doT, if_neg n0, if_neg n1, if_neg n2, if_neg n3, if_pos k4]; exact h'.ent (by repeat (first | exact .nil | refine .cons (by repeat (first | exact .here | apply Pick.there)) ?_))⟩ | exact ⟨((a, cap), L), by rw [doT, if_neg n0, if_neg n1, if_neg n2, if_neg n3, if_neg n4, if_pos k5]; rfl, by rw [doT, if_neg n0, if_neg n1, if_neg n2, if_neg n3, if_neg n4, if_pos k5], by rw [doT, if_neg n0, if_neg n1, if_neg n2, if_neg n3, if_neg n4, if_pos k5]; exact h'.ent (by repeat (first | exact .nil | refine .cons (by repeat (first | exact .here | apply Pick.there)) ?_))⟩ | exact ⟨((a, cap), L), by rw [doT, if_neg n0, if_neg n1, if_neg n2, if_neg n3, if_neg n4, if_neg n5, if_pos k6]; rfl, by rw [doT, if_neg n0, if_neg n1, if_neg n2, if_neg n3, if_neg n4, if_neg n5, if_pos k6], by rw [doT, if_neg n0, if_neg n1, if_neg n2, if_neg n3, if_neg n4, if_neg n5, if_pos k6]; exact h'.ent (by repeat (first | exact .nil | refine .cons (by repeat (first | exact .here | apply Pick.there)) ?_))⟩ | exact ⟨((a, cap), L), by rw [doT, if_neg n0, if_neg n1, if_neg n2, if_neg n3, if_neg n4, if_neg n5, if_neg n6]; rfl, by rw [doT, if_neg n0, if_neg n1, if_neg n2, if_neg n3, if_neg n4, if_neg n5, if_neg n6], by rw [doT, if_neg n0, if_neg n1, if_neg n2, if_neg n3, if_neg n4, if_neg n5, if_neg n6]; exact h'.ent (by repeat (first | exact .nil | refine .cons (by repeat (first | exact .here | apply Pick.there)) ?_))⟩)
            · try simp only [decide_eq_true_eq, decide_eq_false_iff_not, Bool.not_eq_true', Bool.not_eq_false', Bool.and_eq_true, Bool.or_eq_true, Bool.and_eq_false_iff, Bool.or_eq_false_iff, Bool.not_true, Bool.not_false] at h10
              have n5 : ¬ a9.kd = 5 := h10
              refine s_seq ?_
              refine s_region ?_
              refine o_p (p_pure rfl) rfl ?_
              refine o_p (p_pure rfl) rfl ?_
              refine o_nil ?_
              refine s_cond rfl (fun h11 => ?_) (fun h11 => ?_)
              · try simp only [decide_eq_true_eq, decide_eq_false_iff_not, Bool.not_eq_true', Bool.not_eq_false', Bool.and_eq_true, Bool.or_eq_true, Bool.and_eq_false_iff, Bool.or_eq_false_iff, Bool.not_true, Bool.not_false] at h11
                have k6 : a9.kd = 6 := h11
                refine s_region ?_
                refine o_p (p_pure rfl) rfl ?_
                refine o_p (p_fieldAddr rfl rfl fd_44_1 sz_3 rfl) rfl ?_
                refine o_q (q_load rfl rfl sz_3 (by repeat (first | exact .here | apply Pick.there)) rfl) rfl ?_
                refine o_q (q_loadn rfl rfl sz_62 (by repeat (first | exact .here | apply Pick.there)) rfl) rfl ?_
                refine o_q (q_call rfl fn_78 rfl (fun w1 h1 => c78 w1 bt a cap L a9.hd a9.lock (h1.rd_blk (Mc := []) (b := bt) (by repeat (first | exact .here | apply Pick.there)) rfl (by simp)) (h1.ft (by repeat (first | exact .here | apply Pick.there))) hV)) rfl ?_
                refine o_p (p_fieldAddr rfl rfl fd_40_0 sz_28 rfl) rfl ?_
                refine o_h0 (h_store rfl rfl rfl sz_28 rfl (by repeat (first | exact .here | apply Put.there)) (by simp only [setMany_length, List.length_set, List.length_cons, List.length_nil, List.length_map]; omega) rfl) (fun _ _ => ?_)
                refine o_nil ?_
                refine s_blk ?_
                refine s_seq ?_
                refine s_weaken (L' := [(4, _)]) (by repeat (first | exact sl_n | refine sl_c rfl ?_)) (fun _ h => h) ?_
                refine s_region ?_
                refine o_q (q_loadn rfl rfl sz_40 (by repeat (first | exact .here | apply Pick.there)) rfl) rfl ?_
                refine o_h0 (h_store rfl rfl rfl sz_40 rfl (by repeat (first | exact .here | apply Put.there)) (by simp only [setMany_length, List.length_set, List.length_cons, List.length_nil, List.length_map]; omega) rfl) (fun _ _ => ?_)
                refine o_nil ?_
                exact s_retv (rs := [.cell 4 40]) rfl (.cell rfl sz_40 (by repeat (first | exact .here | apply Pick.there)) rfl (.nil)) (fun w' h' => by first | exact ⟨gz, by rw [doT, if_pos k0]; rfl, by rw [doT, if_pos k0]; exact hgz, by rw [doT, if_pos k0]; exact h'.ent (by repeat (first | exact .nil | refine .cons (by repeat (first | exact .here | apply Pick.there)) ?_))⟩ | exact ⟨gz, by rw [doT, if_neg n0, if_pos k1]; dsimp only; rw [if_pos hdl]; rfl, by rw [doT, if_neg n0, if_pos k1]; exact hgz, by rw [doT, if_neg n0, if_pos k1]; exact h'.ent (by repeat (first | exact .nil | refine .cons (by repeat (first | exact .here | apply Pick.there)) ?_))⟩ | exact ⟨gz, by rw [doT, if_neg n0, if_pos k1]; dsimp only; rw [if_neg (by rw [hdl]; decide)]; rfl, by rw [doT, if_neg n0, if_pos k1]; exact hgz, by rw [doT, if_neg n0, if_pos k1]; exact h'.ent (by repeat (first | exact .nil | refine .cons (by repeat (first | exact .here | apply Pick.there)) ?_))⟩ | exact ⟨gz, by rw [doT, if_neg n0, if_neg n1, if_pos k2]; rfl, by rw [doT, if_neg n0, if_neg n1, if_pos k2]; exact hgz, by rw [doT, if_neg n0, if_neg n1, if_pos k2]; exact h'.ent (by repeat (first | exact .nil | refine .cons (by repeat (first | exact .here | apply Pick.there)) ?_))⟩ | exact ⟨gz, by rw [doT, if_neg n0, if_neg n1, if_neg n2, if_pos k3]; rfl, by rw [doT, if_neg n0, if_neg n1, if_neg n2, if_pos k3]; exact hgz, by rw [doT, if_neg n0, if_neg n1, if_neg n2, if_pos k3]; exact h'.ent (by repeat (first | exact .nil | refine .cons (by repeat (first | exact .here | apply Pick.there)) ?_))⟩ | exact ⟨gz, by rw [doT, if_neg n0, if_neg n1, if_neg n2, if_neg n3, if_pos k4]; rfl, by rw [doT, if_neg n0, if_neg n1, if_neg n2, if_neg n3, if_pos k4]; exact hgz, by rw [doT, if_neg n0, if_neg n1, if_neg n2, if_neg n3, if_pos k4]; exact h'.ent (by repeat (first | exact .nil | refine .cons (by repeat (first | exact .here | apply Pick.there)) ?_))⟩ | exact ⟨((a, cap), L), by rw [doT, if_neg n0, if_neg n1, if_neg n2, if_neg n3, if_neg n4, if_pos k5]; rfl, by rw [doT, if_neg n0, if_neg n1, if_neg n2, if_neg n3, if_neg n4, if_pos k5], by rw [doT, if_neg n0, if_neg n1, if_neg n2, if_neg n3, if_neg n4, if_pos k5]; exact h'.ent (by repeat (first | exact .nil | refine .cons (by repeat (first | exact .here | apply Pick.there)) ?_))⟩ | exact ⟨((a, cap), L), by rw [doT, if_neg n0, if_neg n1, if_neg n2, if_neg n3, if_neg n4, if_neg n5, if_pos k6]; rfl, by rw [doT, if_neg n0, if_neg n1, if_neg n2, if_neg n3, if_neg n4, if_neg n5, if_pos k6], by rw [doT, if_neg n0, if_neg n1, if_neg n2, if_neg n3, if_neg n4, if_neg n5, if_pos k6]; exact h'.ent (by repeat (first | exact .nil | refine .cons (by repeat (first | exact .here | apply Pick.there)) ?_))⟩ | exact ⟨((a, cap), L), by rw [doT, if_neg n0, if_neg n1, if_neg n2, if_neg n3, if_neg n4, if_neg n5, if_neg n6]; rfl, by rw [doT, if_neg n0, if_neg n1, if_neg n2, if_neg n3, if_neg n4, if_neg n5, if_neg n6], by rw [doT, if_neg n0, if_neg n1, if_neg n2, if_neg n3, if_neg n4, if_neg n5, if_neg n6]; exact h'.ent (by repeat (first | exact .nil | refine .cons (by repeat (first | exact .here | apply Pick.there)) ?_))⟩)
              · try simp only [decide_eq_true_eq, decide_eq_false_iff_not, Bool.not_eq_true', Bool.not_eq_false', Bool.and_eq_true, Bool.or_eq_true, Bool.and_eq_false_iff, Bool.or_eq_false_iff, Bool.not_true, Bool.not_false] at h11
                have n6 : ¬ a9.kd = 6 := h11
                refine s_skip ?_
                refine s_blk ?_
                refine s_seq ?_
                refine s_region ?_
                refine o_q (q_loadn rfl rfl sz_40 (by repeat (first | exact .here | apply Pick.there)) rfl) rfl ?_
                refine o_h0 (h_store rfl rfl rfl sz_40 rfl (by repeat (first | exact .here | apply Put.there)) (by simp only [setMany_length, List.length_set, List.length_cons, List.length_nil, List.length_map]; omega) rfl) (fun _ _ => ?_)
                refine o_nil ?_
                exact s_retv (rs := [.cell 4 40]) rfl (.cell rfl sz_40 (by repeat (first | exact .here | apply Pick.there)) rfl (.nil)) (fun w' h' => by first | exact ⟨gz, by rw [doT, if_pos k0]; rfl, by rw [doT, if_pos k0]; exact hgz, by rw [doT, if_pos k0]; exact h'.ent (by repeat (first | exact .nil | refine .cons (by repeat (first | exact .here | apply Pick.there)) ?_))⟩ | exact ⟨gz, by rw [doT, if_neg n0, if_pos k1]; dsimp only; rw [if_pos hdl]; rfl, by rw [doT, if_neg n0, if_pos k1]; exact hgz, by rw [doT, if_neg n0, if_pos k1]; exact h'.ent (by repeat (first | exact .nil | refine .cons (by repeat (first | exact .here | apply Pick.there)) ?_))⟩ | exact ⟨gz, by rw [doT, if_neg n0, if_pos k1]; dsimp only; rw [if_neg (by rw [hdl]; decide)]; rfl, by rw [doT, if_neg n0, if_pos k1]; exact hgz, by rw [doT, if_neg n0, if_pos k1]; exact h'.ent (by repeat (first | exact .nil | refine .cons (by repeat (first | exact .here | apply Pick.there)) ?_))⟩ | exact ⟨gz, by rw [doT, if_neg n0, if_neg n1, if_pos k2]; rfl, by rw [doT, if_neg n0, if_neg n1, if_pos k2]; exact hgz, by rw [doT, if_neg n0, if_neg n1, if_pos k2]; exact h'.ent (by repeat (first | exact .nil | refine .cons (by repeat (first | exact .here | apply Pick.there)) ?_))⟩ | exact ⟨gz, by rw [doT, if_neg n0, if_neg n1, if_neg n2, if_pos k3]; rfl, by rw [doT, if_neg n0, if_neg n1, if_neg n2, if_pos k3]; exact hgz, by rw [doT, if_neg n0, if_neg n1, if_neg n2, if_pos k3]; exact h'.ent (by repeat (first | exact .nil | refine .cons (by repeat (first | exact .here | apply Pick.there)) ?_))⟩ | exact ⟨gz, by rw [doT, if_neg n0, if_neg n1, if_neg n2, if_neg n3, if_pos k4]; rfl, by rw [doT, if_neg n0, if_neg n1, if_neg n2, if_neg n3, if_pos k4]; exact hgz, by rw [doT, if_neg n0, if_neg n1, if_neg n2, if_neg n3, if_pos k4]; exact h'.ent (by repeat (first | exact .nil | refine .cons (by repeat (first | exact .here | apply Pick.there)) ?_))⟩ | exact ⟨((a, cap), L), by rw [doT, if_neg n0, if_neg n1, if_neg n2, if_neg n3, if_neg n4, if_pos k5]; rfl, by rw [doT, if_neg n0, if_neg n1, if_neg n2, if_neg n3, if_neg n4, if_pos k5], by rw [doT, if_neg n0, if_neg n1, if_neg n2, if_neg n3, if_neg n4, if_pos k5]; exact h'.ent (by repeat (first | exact .nil | refine .cons (by repeat (first | exact .here | apply Pick.there)) ?_))⟩ | exact ⟨((a, cap), L), by rw [doT, if_neg n0, if_neg n1, if_neg n2, if_neg n3, if_neg n4, if_neg n5, if_pos k6]; rfl, by rw [doT, if_neg n0, if_neg n1, if_neg n2, if_neg n3, if_neg n4, if_neg n5, if_pos k6], by rw [doT, if_neg n0, if_neg n1, if_neg n2, if_neg n3, if_neg n4, if_neg n5, if_pos k6]; exact h'.ent (by repeat (first | exact .nil | refine .cons (by repeat (first | exact .here | apply Pick.there)) ?_))⟩ | exact ⟨((a, cap), L), by rw [doT, if_neg n0, if_neg n1, if_neg n2, if_neg n3, if_neg n4, if_neg n5, if_neg n6]; rfl, by rw [doT, if_neg n0, if_neg n1, if_neg n2, if_neg n3, if_neg n4, if_neg n5, if_neg n6], by rw [doT, if_neg n0, if_neg n1, if_neg n2, if_neg n3, if_neg n4, if_neg n5, if_neg n6]; exact h'.ent (by repeat (first | exact .nil | refine .cons (by repeat (first | exact .here | apply Pick.there)) ?_))⟩)

end Go.Proofs
