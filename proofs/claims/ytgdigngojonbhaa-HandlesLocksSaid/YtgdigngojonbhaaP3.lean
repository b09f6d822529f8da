/- Contracts of the program's functions, proved by walking them with the rules of the Gx texts; without conditions beyond those that each contract names. -/
import Derived.WalkKit
import Derived.Deep.Draws
import Derived.Lib.Strings
import Derived.Laws.BytesArg
import Derived.Laws.IdiomStrings
import Derived.Deep.Quiet
import Derived.Laws.StructEq
import Derived.ChangeKeysEq
import Derived.Laws.Externs
import Derived.Lib.Overlaps
import Derived.Carry
import Derived.Test.YtgdigngojonbhaaProg
import Derived.KernelRfl
import Derived.Laws.Small
import Derived.ProofKit
import Derived.OpenShut
import Derived.Test.YtgdigngojonbhaaP2
namespace Go.Proofs
open Go Go.RowKit Gx
set_option linter.unusedVariables false
set_option linter.unusedSimpArgs false
attribute [local irreducible] Go.Calls Gx.S Gx.O Gx.D Gx.OpP Gx.OpQ Gx.OpH

theorem zr_40 : tzero Try.prog 40 = some [.int .i64 0, .int .i64 0] := by kernel_rfl
theorem fd_44_4 : tfd Try.prog 44 4 = some (4, 3) := by kernel_rfl
theorem fd_44_5 : tfd Try.prog 44 5 = some (5, 3) := by kernel_rfl
theorem fd_44_7 : tfd Try.prog 44 7 = some (8, 4) := by kernel_rfl
theorem pl_62 : tplaces Try.prog 62 = some [(0, 1), (1, 1), (2, 1)] := by kernel_rfl
theorem fd_44_0 : tfd Try.prog 44 0 = some (0, 3) := by kernel_rfl
theorem fd_44_6 : tfd Try.prog 44 6 = some (6, 42) := by kernel_rfl
theorem fd_44_2 : tfd Try.prog 44 2 = some (2, 3) := by kernel_rfl
theorem fd_44_3 : tfd Try.prog 44 3 = some (3, 3) := by kernel_rfl
theorem pl_48 : tplaces Try.prog 48 = some [(0, 1), (1, 1), (2, 1), (3, 1), (4, 1)] := by kernel_rfl
theorem fn_81 : isFn Try.prog 81 = true := by kernel_rfl
theorem fd_40_1 : tfd Try.prog 40 1 = some (1, 3) := by kernel_rfl
theorem fd_40_0 : tfd Try.prog 40 0 = some (0, 28) := by kernel_rfl
theorem sz_40 : tsz Try.prog 40 = some (2, true) := by kernel_rfl
theorem fd_44_1 : tfd Try.prog 44 1 = some (1, 3) := by kernel_rfl
theorem fn_82 : isFn Try.prog 82 = true := by kernel_rfl
theorem fn_84 : isFn Try.prog 84 = true := by kernel_rfl
theorem fn_67 : isFn Try.prog 67 = true := by kernel_rfl
theorem fn_74 : isFn Try.prog 74 = true := by kernel_rfl
theorem fn_76 : isFn Try.prog 76 = true := by kernel_rfl
theorem fn_78 : isFn Try.prog 78 = true := by kernel_rfl


structure HAct where
  kd : Int
  hd : Int
  ac : Int
  sh : Int
  fr : Int
  cnt : Int
  rc : Int
  sq : Int
  fl : Bool
instance : Inhabited HAct := ⟨⟨0, 0, 0, 0, 0, 0, 0, 0, false⟩⟩
def HAct.vals (a : HAct) : List Value := [.int .i64 a.kd, .int .i64 a.hd, .int .i64 a.ac, .int .i64 a.sh, .int .i64 a.fr, .int .i64 a.cnt, .int .i64 a.rc, .int .i64 a.sq, .bool a.fl]
theorem hv9 (a : HAct) : a.vals.length = 9 := rfl
def HAct.lock (a : HAct) : Lock := ⟨a.fr, a.cnt, a.fl⟩
/-- The files, the next number, the value, the error after an act. -/
def doT (next : Int) (L : List Fil) (a : HAct) : List Fil × Int × Int × Int :=
  if a.kd = 0 then openT next L a.rc a.sq ⟨0, a.ac, a.sh, a.fl, []⟩
  else if a.kd = 1 then ((closeT L a.hd).1, next, (if (closeT L a.hd).2.1 = true then 1 else 0), (closeT L a.hd).2.2)
  else if a.kd = 2 then ((markT L a.hd a.fl).1, next, 0, (markT L a.hd a.fl).2)
  else if a.kd = 3 then ((lockT L a.hd a.lock).1, next, 0, (lockT L a.hd a.lock).2)
  else if a.kd = 4 then ((unlockT L a.hd a.fr a.cnt).1, next, 0, (unlockT L a.hd a.fr a.cnt).2)
  else if a.kd = 5 then (L, next, 0, mayT L a.hd a.lock 1 rdK)
  else if a.kd = 6 then (L, next, 0, mayT L a.hd a.lock 2 wrK)
  else (L, next, 0, 0)

set_option maxRecDepth 20000 in
set_option maxHeartbeats 1000000 in
theorem c50 (w : World) (bt : Nat) (next : Int) (a : Option Addr) (cap : Nat) (L : List LFil) (a9 : HAct) (hw : HS w (fps [.blk bt 106 2 [.int .i64 (next), .slice a (L).length cap], .files a cap (L)]) [.blk bt 106 2 [.int .i64 (next), .slice a (L).length cap], .files a cap (L)] w) (hV : VW (pls L)) (hn0 : 0 ≤ next ∧ next ≤ 2147483647) : Calls Try.prog 50 #[.pointer (some ⟨bt, 0, none⟩), .agg #[.int .i64 a9.kd, .int .i64 a9.hd, .int .i64 a9.ac, .int .i64 a9.sh, .int .i64 a9.fr, .int .i64 a9.cnt, .int .i64 a9.rc, .int .i64 a9.sq, .bool a9.fl]] w fun en w' => ∃ g : (Option Addr × Nat) × List LFil, en = .returned (.agg #[.int .i64 (doT next (pls L) a9).2.2.2, .int .i64 (doT next (pls L) a9).2.2.1]) ∧ pls g.2 = (doT next (pls L) a9).1 ∧ HS w (fps [.blk bt 106 2 [.int .i64 (next), .slice a (L).length cap], .files a cap (L)]) [.blk bt 106 2 [.int .i64 ((doT next (pls L) a9).2.1), .slice g.1.1 (g.2).length g.1.2], .files g.1.1 g.1.2 (g.2)] w' := by
  refine enter (args := [_, _]) Try.func50 Try.ntmps50 rfl rfl hw ?_
  refine s_seq ?_
  refine s_region ?_
  refine o_h (h_box rfl rfl) rfl (fun b1 _ => ?_)
  refine o_h (h_alloc rfl zr_40) rfl (fun b2 _ => ?_)
  refine o_nil ?_
  refine s_seq ?_
  refine s_region ?_
  refine o_p (p_fieldAddr rfl rfl fd_44_4 sz_3 rfl) rfl ?_
  refine o_q (q_load rfl rfl sz_3 (by repeat (first | exact .here | apply Pick.there)) rfl) rfl ?_
  refine o_p (p_fieldAddr rfl rfl fd_44_5 sz_3 rfl) rfl ?_
  refine o_q (q_load rfl rfl sz_3 (by repeat (first | exact .here | apply Pick.there)) rfl) rfl ?_
  refine o_p (p_fieldAddr rfl rfl fd_44_7 sz_4 rfl) rfl ?_
  refine o_q (q_load rfl rfl sz_4 (by repeat (first | exact .here | apply Pick.there)) rfl) rfl ?_
  refine o_p (p_build (cs := [_, _, _]) rfl rfl pl_62 zr_62 rfl) rfl ?_
  refine o_h (h_alloc rfl zr_62) rfl (fun b3 _ => ?_)
  refine o_h0 (h_store rfl rfl rfl sz_62 rfl (by repeat (first | exact .here | apply Put.there)) (by simp only [setMany_length, List.length_set, List.length_cons, List.length_nil, List.length_map]; omega) rfl) (fun _ _ => ?_)
  refine o_nil ?_
  refine s_seq ?_
  refine s_seq ?_
  refine s_region ?_
  refine o_p (p_fieldAddr rfl rfl fd_44_0 sz_3 rfl) rfl ?_
  refine o_q (q_load rfl rfl sz_3 (by repeat (first | exact .here | apply Pick.there)) rfl) rfl ?_
  refine o_nil ?_
  refine s_block ?_
  refine s_seq ?_
  refine s_region ?_
  refine o_p (p_pure rfl) rfl ?_
  refine o_p (p_pure rfl) rfl ?_
  refine o_nil ?_
  refine s_cond rfl (fun h4 => ?_) (fun h4 => ?_)
  · try simp only [decide_eq_true_eq, decide_eq_false_iff_not, Bool.not_eq_true', Bool.not_eq_false', Bool.and_eq_true, Bool.or_eq_true, Bool.and_eq_false_iff, Bool.or_eq_false_iff, Bool.not_true, Bool.not_false] at h4
    have k0 : a9.kd = 0 := h4
    refine s_region ?_
    refine o_p (p_pure rfl) rfl ?_
    refine o_p (p_fieldAddr rfl rfl fd_44_6 sz_42 rfl) rfl ?_
    refine o_q (q_loadn rfl rfl sz_42 (by repeat (first | exact .here | apply Pick.there)) rfl) rfl ?_
    refine o_p (p_fieldAddr rfl rfl fd_44_2 sz_3 rfl) rfl ?_
    refine o_q (q_load rfl rfl sz_3 (by repeat (first | exact .here | apply Pick.there)) rfl) rfl ?_
    refine o_p (p_fieldAddr rfl rfl fd_44_3 sz_3 rfl) rfl ?_
    refine o_q (q_load rfl rfl sz_3 (by repeat (first | exact .here | apply Pick.there)) rfl) rfl ?_
    refine o_p (p_fieldAddr rfl rfl fd_44_7 sz_4 rfl) rfl ?_
    refine o_q (q_load rfl rfl sz_4 (by repeat (first | exact .here | apply Pick.there)) rfl) rfl ?_
    refine o_p (p_build (cs := [_, _, _, _, _]) rfl rfl pl_48 zr_48 rfl) rfl ?_
    refine o_h (h_callF (Cs := [.blk bt 106 2 [.int .i64 (next), .slice a (L).length cap], .files a cap (L)]) rfl fn_81 rfl (by repeat (first | exact Picks.nil | (apply Picks.cons; · (repeat (first | exact .here | apply Pick.there))))) (fun w1 h1 hf => c81 w1 bt next a cap L a9.rc a9.sq (⟨0, a9.ac, a9.sh, a9.fl, none, 0, []⟩ : LOpn) hf hV hn0)) rfl (fun gz hgz => ?_)
    refine o_p (p_pure rfl) rfl ?_
    refine o_p (p_pure rfl) rfl ?_
    refine o_p (p_pure rfl) rfl ?_
    refine o_p (p_fieldAddr rfl rfl fd_40_1 sz_3 rfl) rfl ?_
    refine o_h0 (h_store rfl rfl rfl sz_3 rfl (by repeat (first | exact .here | apply Put.there)) (by simp only [setMany_length, List.length_set, List.length_cons, List.length_nil, List.length_map]; omega) rfl) (fun _ _ => ?_)
    refine o_p (p_fieldAddr rfl rfl fd_40_0 sz_28 rfl) rfl ?_
    refine o_h0 (h_store rfl rfl rfl sz_28 rfl (by repeat (first | exact .here | apply Put.there)) (by simp only [setMany_length, List.length_set, List.length_cons, List.length_nil, List.length_map]; omega) rfl) (fun _ _ => ?_)
    refine o_nil ?_
    refine s_blk ?_
    refine s_seq ?_
    refine s_weaken (L' := [(4, _)]) (by repeat (first | exact sl_n | refine sl_c rfl ?_)) (fun _ h => h) ?_
    refine s_region ?_
    refine o_q (q_loadn rfl rfl sz_40 (by repeat (first | exact .here | apply Pick.there)) rfl) rfl ?_
    refine o_h0 (h_store rfl rfl rfl sz_40 rfl (by repeat (first | exact .here | apply Put.there)) (by simp only [setMany_length, List.length_set, List.length_cons, List.length_nil, List.length_map]; omega) rfl) (fun _ _ => ?_)
    refine o_nil ?_
    exact s_retv (rs := [.cell 4 40]) rfl (.cell rfl sz_40 (by repeat (first | exact .here | apply Pick.there)) rfl (.nil)) (fun w' h' => by first | exact ⟨gz, by rw [doT, if_pos k0]; rfl, by rw [doT, if_pos k0]; exact hgz, by rw [doT, if_pos k0]; exact h'.ent (by repeat (first | exact .nil | refine .cons (by repeat (first | exact .here | apply Pick.there)) ?_))⟩ | exact ⟨gz, by rw [doT, if_neg n0, if_pos k1]; dsimp only; rw [if_pos hdl]; rfl, by rw [doT, if_neg n0, if_pos k1]; exact hgz, by rw [doT, if_neg n0, if_pos k1]; exact h'.ent (by repeat (first | exact .nil | refine .cons (by repeat (first | exact .here | apply Pick.there)) ?_))⟩ | exact ⟨gz, by rw [doT, if_neg n0, if_pos k1]; dsimp only; rw [if_neg (by rw [hdl]; decide)]; rfl, by rw [doT, if_neg n0, if_pos k1]; exact hgz, by rw [doT, if_neg n0, if_pos k1]; exact h'.ent (by repeat (first | exact .nil | refine .cons (by repeat (first | exact .here | apply Pick.there)) ?_))⟩ | exact ⟨gz, by rw [doT, if_neg n0, if_neg n1, if_pos k2]; rfl, by rw [doT, if_neg n0, if_neg n1, if_pos k2]; exact hgz, by rw [doT, if_neg n0, if_neg n1, if_pos k2]; exact h'.ent (by repeat (first | exact .nil | refine .cons (by repeat (first | exact .here | apply Pick.there)) ?_))⟩ | exact ⟨gz, by rw [doT, if_neg n0, if_neg n1, if_neg n2, if_pos k3]; rfl, by rw [doT, if_neg n0, if_neg n1, if_neg n2, if_pos k3]; exact hgz, by rw [doT, if_neg n0, if_neg n1, if_neg n2, if_pos k3]; exact h'.ent (by repeat (first | exact .nil | refine .cons (by repeat (first | exact .here | apply Pick.there)) ?_))⟩ | exact ⟨gz, by rw [doT, if_neg n0, if_neg n1, if_neg n2, if_neg n3, if_pos k4]; rfl, by rw [doT, if_neg n0, if_neg n1, if_neg n2, if_neg n3, if_pos k4]; exact hgz, by rw [doT, if_neg n0, if_neg n1, if_neg n2, if_neg n3, if_pos k4]; exact h'.ent (by repeat (first | exact .nil | refine .cons (by repeat (first | exact .here | apply Pick.there)) ?_))⟩ | exact ⟨((a, cap), L), by rw [doT, if_neg n0, if_neg n1, if_neg n2, if_neg n3, if_neg n4, if_pos k5]; rfl, by rw [doT, if_neg n0, if_neg n1, if_neg n2, if_neg n3, if_neg n4, if_pos k5], by rw [doT, if_neg n0, if_neg n1, if_neg n2, if_neg n3, if_neg n4, if_pos k5]; exact h'.ent (by repeat (first | exact .nil | refine .cons (by repeat (first | exact .here | apply Pick.there)) ?_))⟩ | exact ⟨((a, cap), L), by rw [doT, if_neg n0, if_neg n1, if_neg n2, if_neg n3, if_neg n4, if_neg n5, if_pos k6]; rfl, by rw [doT, if_neg n0, if_neg n1, if_neg n2, if_neg n3, if_neg n4, if_neg n5, if_pos k6], by rw [doT, if_neg n0, if_neg n1, if_neg n2, if_neg n3, if_neg n4, if_neg n5, if_pos k6]; exact h'.ent (by repeat (first | exact .nil | refine .cons (by repeat (first | exact .here | apply Pick.there)) ?_))⟩ | exact ⟨((a, cap), L), by rw [doT, if_neg n0, if_neg n1, if_neg n2, if_neg n3, if_neg n4, if_neg n5, if_neg n6]; rfl, by rw [doT, if_neg n0, if_neg n1, if_neg n2, if_neg n3, if_neg n4, if_neg n5, if_neg n6], by rw [doT, if_neg n0, if_neg n1, if_neg n2, if_neg n3, if_neg n4, if_neg n5, if_neg n6]; exact h'.ent (by repeat (first | exact .nil | refine .cons (by repeat (first | exact .here | apply Pick.there)) ?_))⟩)
  · try simp only [decide_eq_true_eq, decide_eq_false_iff_not, Bool.not_eq_true', Bool.not_eq_false', Bool.and_eq_true, Bool.or_eq_true, Bool.and_eq_false_iff, Bool.or_eq_false_iff, Bool.not_true, Bool.not_false] at h4
    have n0 : ¬ a9.kd = 0 := h4
    refine s_seq ?_
    refine s_region ?_
    refine o_p (p_pure rfl) rfl ?_
    refine o_p (p_pure rfl) rfl ?_
    refine o_nil ?_
    refine s_cond rfl (fun h5 => ?_) (fun h5 => ?_)
    · try simp only [decide_eq_true_eq, decide_eq_false_iff_not, Bool.not_eq_true', Bool.not_eq_false', Bool.and_eq_true, Bool.or_eq_true, Bool.and_eq_false_iff, Bool.or_eq_false_iff, Bool.not_true, Bool.not_false] at h5
      have k1 : a9.kd = 1 := h5
      refine s_seq ?_
      refine s_region ?_
      refine o_p (p_pure rfl) rfl ?_
      refine o_nil ?_
      refine s_seq ?_
      refine s_region ?_
      refine o_p (p_pure rfl) rfl ?_
      refine o_p (p_fieldAddr rfl rfl fd_44_1 sz_3 rfl) rfl ?_
      refine o_q (q_load rfl rfl sz_3 (by repeat (first | exact .here | apply Pick.there)) rfl) rfl ?_
      refine o_h (h_callF (Cs := [.blk bt 106 2 [.int .i64 (next), .slice a (L).length cap], .files a cap (L)]) rfl fn_82 rfl (by repeat (first | exact Picks.nil | (apply Picks.cons; · (repeat (first | exact .here | apply Pick.there))))) (fun w1 h1 hf => c82 w1 bt next a cap L a9.hd hf hV)) rfl (fun gz hgz => ?_)
      refine o_p (p_pure rfl) rfl ?_
      refine o_p (p_pure rfl) rfl ?_
      refine o_p (p_pure rfl) rfl ?_
      refine o_p (p_pure rfl) rfl ?_
      refine o_p (p_fieldAddr rfl rfl fd_40_0 sz_28 rfl) rfl ?_
      refine o_h0 (h_store rfl rfl rfl sz_28 rfl (by repeat (first | exact .here | apply Put.there)) (by simp only [setMany_length, List.length_set, List.length_cons, List.length_nil, List.length_map]; omega) rfl) (fun _ _ => ?_)
      refine o_nil ?_
      refine s_seq ?_
      refine s_region ?_
      refine o_p (p_pure rfl) rfl ?_
      refine o_nil ?_
      refine s_cond rfl (fun h6 => ?_) (fun h6 => ?_)
      · try simp only [decide_eq_true_eq, decide_eq_false_iff_not, Bool.not_eq_true', Bool.not_eq_false', Bool.and_eq_true, Bool.or_eq_true, Bool.and_eq_false_iff, Bool.or_eq_false_iff, Bool.not_true, Bool.not_false] at h6
        have hdl : (closeT (pls L) a9.hd).2.1 = true := h6
        refine s_region ?_
        refine o_p (p_fieldAddr rfl rfl fd_40_1 sz_3 rfl) rfl ?_
        refine o_h0 (h_store rfl rfl rfl sz_3 rfl (by repeat (first | exact .here | apply Put.there)) (by simp only [setMany_length, List.length_set, List.length_cons, List.length_nil, List.length_map]; omega) rfl) (fun _ _ => ?_)
        refine o_nil ?_
        refine s_blk ?_
        refine s_seq ?_
        refine s_region ?_
        refine o_q (q_loadn rfl rfl sz_40 (by repeat (first | exact .here | apply Pick.there)) rfl) rfl ?_
        refine o_h0 (h_store rfl rfl rfl sz_40 rfl (by repeat (first | exact .here | apply Put.there)) (by simp only [setMany_length, List.length_set, List.length_cons, List.length_nil, List.length_map]; omega) rfl) (fun _ _ => ?_)
        refine o_nil ?_
        exact s_retv (rs := [.cell 4 40]) rfl (.cell rfl sz_40 (by repeat (first | exact .here | apply Pick.there)) rfl (.nil)) (fun w' h' => by first | exact ⟨gz, by rw [doT, if_pos k0]; rfl, by rw [doT, if_pos k0]; exact hgz, by rw [doT, if_pos k0]; exact h'.ent (by repeat (first | exact .nil | refine .cons (by repeat (first | exact .here | apply Pick.there)) ?_))⟩ | exact ⟨gz, by rw [doT, if_neg n0, if_pos k1]; dsimp only; rw [if_pos hdl]; rfl, by rw [doT, if_neg n0, if_pos k1]; exact hgz, by rw [doT, if_neg n0, if_pos k1]; exact h'.ent (by repeat (first | exact .nil | refine .cons (by repeat (first | exact .here | apply Pick.there)) ?_))⟩ | exact ⟨gz, by rw [doT, if_neg n0, if_pos k1]; dsimp only; rw [if_neg (by rw [hdl]; decide)]; rfl, by rw [doT, if_neg n0, if_pos k1]; exact hgz, by rw [doT, if_neg n0, if_pos k1]; exact h'.ent (by repeat (first | exact .nil | refine .cons (by repeat (first | exact .here | apply Pick.there)) ?_))⟩ | exact ⟨gz, by rw [doT, if_neg n0, if_neg n1, if_pos k2]; rfl, by rw [doT, if_neg n0, if_neg n1, if_pos k2]; exact hgz, by rw [doT, if_neg n0, if_neg n1, if_pos k2]; exact h'.ent (by repeat (first | exact .nil | refine .cons (by repeat (first | exact .here | apply Pick.there)) ?_))⟩ | exact ⟨gz, by rw [doT, if_neg n0, if_neg n1, if_neg n2, if_pos k3]; rfl, by rw [doT, if_neg n0, if_neg n1, if_neg n2, if_pos k3]; exact hgz, by rw [doT, if_neg n0, if_neg n1, if_neg n2, if_pos k3]; exact h'.ent (by repeat (first | exact .nil | refine .cons (by repeat (first | exact .here | apply Pick.there)) ?_))⟩ | exact ⟨gz, by rw [doT, if_neg n0, if_neg n1, if_neg n2, if_neg n3, if_pos k4]; rfl, by rw [doT, if_neg n0, if_neg n1, if_neg n2, if_neg n3, if_pos k4]; exact hgz, by rw [doT, if_neg n0, if_neg n1, if_neg n2, if_neg n3, if_pos k4]; exact h'.ent (by repeat (first | exact .nil | refine .cons (by repeat (first | exact .here | apply Pick.there)) ?_))⟩ | exact ⟨((a, cap), L), by rw [doT, if_neg n0, if_neg n1, if_neg n2, if_neg n3, if_neg n4, if_pos k5]; rfl, by rw [doT, if_neg n0, if_neg n1, if_neg n2, if_neg n3, if_neg n4, if_pos k5], by rw [doT, if_neg n0, if_neg n1, if_neg n2, if_neg n3, if_neg n4, if_pos k5]; exact h'.ent (by repeat (first | exact .nil | refine .cons (by repeat (first | exact .here | apply Pick.there)) ?_))⟩ | exact ⟨((a, cap), L), by rw [doT, if_neg n0, if_neg n1, if_neg n2, if_neg n3, if_neg n4, if_neg n5, if_pos k6]; rfl, by rw [doT, if_neg n0, if_neg n1, if_neg n2, if_neg n3, if_neg n4, if_neg n5, if_pos k6], by rw [doT, if_neg n0, if_neg n1, if_neg n2, if_neg n3, if_neg n4, if_neg n5, if_pos k6]; exact h'.ent (by repeat (first | exact .nil | refine .cons (by repeat (first | exact .here | apply Pick.there)) ?_))⟩ | exact ⟨((a, cap), L), by rw [doT, if_neg n0, if_neg n1, if_neg n2, if_neg n3, if_neg n4, if_neg n5, if_neg n6]; rfl, by rw [doT, if_neg n0, if_neg n1, if_neg n2, if_neg n3, if_neg n4, if_neg n5, if_neg n6], by rw [doT, if_neg n0, if_neg n1, if_neg n2, if_neg n3, if_neg n4, if_neg n5, if_neg n6]; exact h'.ent (by repeat (first | exact .nil | refine .cons (by repeat (first | exact .here | apply Pick.there)) ?_))⟩)
      · try simp only [decide_eq_true_eq, decide_eq_false_iff_not, Bool.not_eq_true', Bool.not_eq_false', Bool.and_eq_true, Bool.or_eq_true, Bool.and_eq_false_iff, Bool.or_eq_false_iff, Bool.not_true, Bool.not_false] at h6
        have hdl : (closeT (pls L) a9.hd).2.1 = false := by have hq := h6; simpa using hq
        refine s_skip ?_
        refine s_blk ?_
        refine s_seq ?_
        refine s_region ?_
        refine o_q (q_loadn rfl rfl sz_40 (by repeat (first | exact .here | apply Pick.there)) rfl) rfl ?_
        refine o_h0 (h_store rfl rfl rfl sz_40 rfl (by repeat (first | exact .here | apply Put.there)) (by simp only [setMany_length, List.length_set, List.length_cons, List.length_nil, List.length_map]; omega) rfl) (fun _ _ => ?_)
        refine o_nil ?_
        exact s_retv (rs := [.cell 4 40]) rfl (.cell rfl sz_40 (by repeat (first | exact .here | apply Pick.there)) rfl (.nil)) (fun w' h' => by first | exact ⟨gz, by rw [doT, if_pos k0]; rfl, by rw [doT, if_pos k0]; exact hgz, by rw [doT, if_pos k0]; exact h'.ent (by repeat (first | exact .nil | refine .cons (by repeat (first | exact .here | apply Pick.there)) ?_))⟩ | exact ⟨gz, by rw [doT, if_neg n0, if_pos k1]; dsimp only; rw [if_pos hdl]; rfl, by rw [doT, if_neg n0, if_pos k1]; exact hgz, by rw [doT, if_neg n0, if_pos k1]; exact h'.ent (by repeat (first | exact .nil | refine .cons (by repeat (first | exact .here | apply Pick.there)) ?_))⟩ | exact ⟨gz, by rw [doT, if_neg n0, if_pos k1]; dsimp only; rw [if_neg (by rw [hdl]; decide)]; rfl, by rw [doT, if_neg n0, if_pos k1]; exact hgz, by rw [doT, if_neg n0, if_pos k1]; exact h'.ent (by repeat (first | exact .nil | refine .cons (by repeat (first | exact .here | apply Pick.there)) ?_))⟩ | exact ⟨gz, by rw [doT, if_neg n0, if_neg n1, if_pos k2]; rfl, by rw [doT, if_neg n0, if_neg n1, if_pos k2]; exact hgz, by rw [doT, if_neg n0, if_neg n1, if_pos k2]; exact h'.ent (by repeat (first | exact .nil | refine .cons (by repeat (first | exact .here | apply Pick.there)) ?_))⟩ | exact ⟨gz, by rw [doT, if_neg n0, if_neg n1, if_neg n2, if_pos k3]; rfl, by rw [doT, if_neg n0, if_neg n1, if_neg n2, if_pos k3]; exact hgz, by rw [doT, if_neg n0, if_neg n1, if_neg n2, if_pos k3]; exact h'.ent (by repeat (first | exact .nil | refine .cons (by repeat (first | exact .here | apply Pick.there)) ?_))⟩ | exact ⟨gz, by rw [doT, if_neg n0, if_neg n1, if_neg n2, if_neg n3, if_pos k4]; rfl, by rw [doT, if_neg n0, if_neg n1, if_neg n2, if_neg n3, if_pos k4]; exact hgz, by rw [doT, if_neg n0, if_neg n1, if_neg n2, if_neg n3, if_pos k4]; exact h'.ent (by repeat (first | exact .nil | refine .cons (by repeat (first | exact .here | apply Pick.there)) ?_))⟩ | exact ⟨((a, cap), L), by rw [doT, if_neg n0, if_neg n1, if_neg n2, if_neg n3, if_neg n4, if_pos k5]; rfl, by rw [doT, if_neg n0, if_neg n1, if_neg n2, if_neg n3, if_neg n4, if_pos k5], by rw [doT, if_neg n0, if_neg n1, if_neg n2, if_neg n3, if_neg n4, if_pos k5]; exact h'.ent (by repeat (first | exact .nil | refine .cons (by repeat (first | exact .here | apply Pick.there)) ?_))⟩ | exact ⟨((a, cap), L), by rw [doT, if_neg n0, if_neg n1, if_neg n2, if_neg n3, if_neg n4, if_neg n5, if_pos k6]; rfl, by rw [doT, if_neg n0, if_neg n1, if_neg n2, if_neg n3, if_neg n4, if_neg n5, if_pos k6], by rw [doT, if_neg n0, if_neg n1, if_neg n2, if_neg n3, if_neg n4, if_neg n5, if_pos k6]; exact h'.ent (by repeat (first | exact .nil | refine .cons (by repeat (first | exact .here | apply Pick.there)) ?_))⟩ | exact ⟨((a, cap), L), by rw [doT, if_neg n0, if_neg n1, if_neg n2, if_neg n3, if_neg n4, if_neg n5, if_neg n6]; rfl, by rw [doT, if_neg n0, if_neg n1, if_neg n2, if_neg n3, if_neg n4, if_neg n5, if_neg n6], by rw [doT, if_neg n0, if_neg n1, if_neg n2, if_neg n3, if_neg n4, if_neg n5, if_neg n6]; exact h'.ent (by repeat (first | exact .nil | refine .cons (by repeat (first | exact .here | apply Pick.there)) ?_))⟩)
    · try simp only [decide_eq_true_eq, decide_eq_false_iff_not, Bool.not_eq_true', Bool.not_eq_false', Bool.and_eq_true, Bool.or_eq_true, Bool.and_eq_false_iff, Bool.or_eq_false_iff, Bool.not_true, Bool.not_false] at h5
      have n1 : ¬ a9.kd = 1 := h5
      refine s_seq ?_
      refine s_region ?_
      refine o_p (p_pure rfl) rfl ?_
      refine o_p (p_pure rfl) rfl ?_
      refine o_nil ?_
      refine s_cond rfl (fun h7 => ?_) (fun h7 => ?_)
      · try simp only [decide_eq_true_eq, decide_eq_false_iff_not, Bool.not_eq_true', Bool.not_eq_false', Bool.and_eq_true, Bool.or_eq_true, Bool.and_eq_false_iff, Bool.or_eq_false_iff, Bool.not_true, Bool.not_false] at h7
        have k2 : a9.kd = 2 := h7
        refine s_region ?_
        refine o_p (p_pure rfl) rfl ?_
        refine o_p (p_fieldAddr rfl rfl fd_44_1 sz_3 rfl) rfl ?_
        refine o_q (q_load rfl rfl sz_3 (by repeat (first | exact .here | apply Pick.there)) rfl) rfl ?_
        refine o_p (p_fieldAddr rfl rfl fd_44_7 sz_4 rfl) rfl ?_
        refine o_q (q_load rfl rfl sz_4 (by repeat (first | exact .here | apply Pick.there)) rfl) rfl ?_
        refine o_h (h_callF (Cs := [.blk bt 106 2 [.int .i64 (next), .slice a (L).length cap], .files a cap (L)]) rfl fn_84 rfl (by repeat (first | exact Picks.nil | (apply Picks.cons; · (repeat (first | exact .here | apply Pick.there))))) (fun w1 h1 hf => c84 w1 bt next a cap L a9.hd a9.fl hf hV)) rfl (fun gz hgz => ?_)
        refine o_p (p_fieldAddr rfl rfl fd_40_0 sz_28 rfl) rfl ?_
        refine o_h0 (h_store rfl rfl rfl sz_28 rfl (by repeat (first | exact .here | apply Put.there)) (by simp only [setMany_length, List.length_set, List.length_cons, List.length_nil, List.length_map]; omega) rfl) (fun _ _ => ?_)
        refine o_nil ?_
        refine s_blk ?_
        refine s_seq ?_
        refine s_region ?_
        refine o_q (q_loadn rfl rfl sz_40 (by repeat (first | exact .here | apply Pick.there)) rfl) rfl ?_
        refine o_h0 (h_store rfl rfl rfl sz_40 rfl (by repeat (first | exact .here | apply Put.there)) (by simp only [setMany_length, List.length_set, List.length_cons, List.length_nil, List.length_map]; omega) rfl) (fun _ _ => ?_)
        refine o_nil ?_
        exact s_retv (rs := [.cell 4 40]) rfl (.cell rfl sz_40 (by repeat (first | exact .here | apply Pick.there)) rfl (.nil)) (fun w' h' => by first | exact ⟨gz, by rw [doT, if_pos k0]; rfl, by rw [doT, if_pos k0]; exact hgz, by rw [doT, if_pos k0]; exact h'.ent (by repeat (first | exact .nil | refine .cons (by repeat (first | exact .here | apply Pick.there)) ?_))⟩ | exact ⟨gz, by rw [doT, if_neg n0, if_pos k1]; dsimp only; rw [if_pos hdl]; rfl, by rw [doT, if_neg n0, if_pos k1]; exact hgz, by rw [doT, if_neg n0, if_pos k1]; exact h'.ent (by repeat (first | exact .nil | refine .cons (by repeat (first | exact .here | apply Pick.there)) ?_))⟩ | exact ⟨gz, by rw [doT, if_neg n0, if_pos k1]; dsimp only; rw [if_neg (by rw [hdl]; decide)]; rfl, by rw [doT, if_neg n0, if_pos k1]; exact hgz, by rw [doT, if_neg n0, if_pos k1]; exact h'.ent (by repeat (first | exact .nil | refine .cons (by repeat (first | exact .here | apply Pick.there)) ?_))⟩ | exact ⟨gz, by rw [doT, if_neg n0, if_neg n1, if_pos k2]; rfl, by rw [doT, if_neg n0, if_neg n1, if_pos k2]; exact hgz, by rw [doT, if_neg n0, if_neg n1, if_pos k2]; exact h'.ent (by repeat (first | exact .nil | refine .cons (by repeat (first | exact .here | apply Pick.there)) ?_))⟩ | exact ⟨gz, by rw [doT, if_neg n0, if_neg n1, if_neg n2, if_pos k3]; rfl, by rw [doT, if_neg n0, if_neg n1, if_neg n2, if_pos k3]; exact hgz, by rw [doT, if_neg n0, if_neg n1, if_neg n2, if_pos k3]; exact h'.ent (by repeat (first | exact .nil | refine .cons (by repeat (first | exact .here | apply Pick.there)) ?_))⟩ | exact ⟨gz, by rw [doT, if_neg n0, if_neg n1, if_neg n2, if_neg n3, if_pos k4]; rfl, by rw [doT, if_neg n0, if_neg n1, if_neg n2, if_neg n3, if_pos k4]; exact hgz, by rw [doT, if_neg n0, if_neg n1, if_neg n2, if_neg n3, if_pos k4]; exact h'.ent (by repeat (first | exact .nil | refine .cons (by repeat (first | exact .here | apply Pick.there)) ?_))⟩ | exact ⟨((a, cap), L), by rw [doT, if_neg n0, if_neg n1, if_neg n2, if_neg n3, if_neg n4, if_pos k5]; rfl, by rw [doT, if_neg n0, if_neg n1, if_neg n2, if_neg n3, if_neg n4, if_pos k5], by rw [doT, if_neg n0, if_neg n1, if_neg n2, if_neg n3, if_neg n4, if_pos k5]; exact h'.ent (by repeat (first | exact .nil | refine .cons (by repeat (first | exact .here | apply Pick.there)) ?_))⟩ | exact ⟨((a, cap), L), by rw [doT, if_neg n0, if_neg n1, if_neg n2, if_neg n3, if_neg n4, if_neg n5, if_pos k6]; rfl, by rw [doT, if_neg n0, if_neg n1, if_neg n2, if_neg n3, if_neg n4, if_neg n5, if_pos k6], by rw [doT, if_neg n0, if_neg n1, if_neg n2, if_neg n3, if_neg n4, if_neg n5, if_pos k6]; exact h'.ent (by repeat (first | exact .nil | refine .cons (by repeat (first | exact .here | apply Pick.there)) ?_))⟩ | exact ⟨((a, cap), L), by rw [doT, if_neg n0, if_neg n1, if_neg n2, if_neg n3, if_neg n4, if_neg n5, if_neg n6]; rfl, by rw [doT, if_neg n0, if_neg n1, if_neg n2, if_neg n3, if_neg n4, if_neg n5, if_neg n6], by rw [doT, if_neg n0, if_neg n1, if_neg n2, if_neg n3, if_neg n4, if_neg n5, if_neg n6]; exact h'.ent (by repeat (first | exact .nil | refine .cons (by repeat (first | exact .here | apply Pick.there)) ?_))⟩)
      · try simp only [decide_eq_true_eq, decide_eq_false_iff_not, Bool.not_eq_true', Bool.not_eq_false', Bool.and_eq_true, Bool.or_eq_true, Bool.and_eq_false_iff, Bool.or_eq_false_iff, Bool.not_true, Bool.not_false] at h7
        have n2 : ¬ a9.kd = 2 := h7
        refine s_seq ?_
        refine s_region ?_
        refine o_p (p_pure rfl) rfl ?_
        refine o_p (p_pure rfl) rfl ?_
        refine o_nil ?_
        refine s_cond rfl (fun h8 => ?_) (fun h8 => ?_)
        · try simp only [decide_eq_true_eq, decide_eq_false_iff_not, Bool.not_eq_true', Bool.not_eq_false', Bool.and_eq_true, Bool.or_eq_true, Bool.and_eq_false_iff, Bool.or_eq_false_iff, Bool.not_true, Bool.not_false] at h8
          have k3 : a9.kd = 3 := h8
          refine s_region ?_
          refine o_p (p_pure rfl) rfl ?_
          refine o_p (p_fieldAddr rfl rfl fd_44_1 sz_3 rfl) rfl ?_
          refine o_q (q_load rfl rfl sz_3 (by repeat (first | exact .here | apply Pick.there)) rfl) rfl ?_
          refine o_q (q_loadn rfl rfl sz_62 (by repeat (first | exact .here | apply Pick.there)) rfl) rfl ?_
          refine o_h (h_callF (Cs := [.blk bt 106 2 [.int .i64 (next), .slice a (L).length cap], .files a cap (L)]) rfl fn_67 rfl (by repeat (first | exact Picks.nil | (apply Picks.cons; · (repeat (first | exact .here | apply Pick.there))))) (fun w1 h1 hf => c67 w1 bt next a cap L a9.hd a9.lock hf hV)) rfl (fun gz hgz => ?_)
          refine o_p (p_fieldAddr rfl rfl fd_40_0 sz_28 rfl) rfl ?_
          refine o_h0 (h_store rfl rfl rfl sz_28 rfl (by repeat (first | exact .here | apply Put.there)) (by simp only [setMany_length, List.length_set, List.length_cons, List.length_nil, List.length_map]; omega) rfl) (fun _ _ => ?_)
          refine o_nil ?_
          refine s_blk ?_
          refine s_seq ?_
          refine s_region ?_
          refine o_q (q_loadn rfl rfl sz_40 (by repeat (first | exact .here | apply Pick.there)) rfl) rfl ?_
          refine o_h0 (h_store rfl rfl rfl sz_40 rfl (by repeat (first | exact .here | apply Put.there)) (by simp only [setMany_length, List.length_set, List.length_cons, List.length_nil, List.length_map]; omega) rfl) (fun _ _ => ?_)
          refine o_nil ?_
          exact s_retv (rs := [.cell 4 40]) rfl (.cell rfl sz_40 (by repeat (first | exact .here | apply Pick.there)) rfl (.nil)) (fun w' h' => by first | exact ⟨gz, by rw [doT, if_pos k0]; rfl, by rw [doT, if_pos k0]; exact hgz, by rw [doT, if_pos k0]; exact h'.ent (by repeat (first | exact .nil | refine .cons (by repeat (first | exact .here | apply Pick.there)) ?_))⟩ | exact ⟨gz, by rw [doT, if_neg n0, if_pos k1]; dsimp only; rw [if_pos hdl]; rfl, by rw [doT, if_neg n0, if_pos k1]; exact hgz, by rw [doT, if_neg n0, if_pos k1]; exact h'.ent (by repeat (first | exact .nil | refine .cons (by repeat (first | exact .here | apply Pick.there)) ?_))⟩ | exact ⟨gz, by rw [doT, if_neg n0, if_pos k1]; dsimp only; rw [if_neg (by rw [hdl]; decide)]; rfl, by rw [doT, if_neg n0, if_pos k1]; exact hgz, by rw [doT, if_neg n0, if_pos k1]; exact h'.ent (by repeat (first | exact .nil | refine .cons (by repeat (first | exact .here | apply Pick.there)) ?_))⟩ | exact ⟨gz, by rw [doT, if_neg n0, if_neg n1, if_pos k2]; rfl, by rw [doT, if_neg n0, if_neg n1, if_pos k2]; exact hgz, by rw [doT, if_neg n0, if_neg n1, if_pos k2]; exact h'.ent (by repeat (first | exact .nil | refine .cons (by repeat (first | exact .here | apply Pick.there)) ?_))⟩ | exact ⟨gz, by rw [doT, if_neg n0, if_neg n1, if_neg n2, if_pos k3]; rfl, by rw [doT, if_neg n0, if_neg n1, if_neg n2, if_pos k3]; exact hgz, by rw [doT, if_neg n0, if_neg n1, if_neg n2, if_pos k3]; exact h'.ent (by repeat (first | exact .nil | refine .cons (by repeat (first | exact .here | apply Pick.there)) ?_))⟩ | exact ⟨gz, by rw [doT, if_neg n0, if_neg n1, if_neg n2, if_neg n3, if_pos k4]; rfl, by rw [doT, if_neg n0, if_neg n1, if_neg n2, if_neg n3, if_pos k4]; exact hgz, by rw [doT, if_neg n0, if_neg n1, if_neg n2, if_neg n3, if_pos k4]; exact h'.ent (by repeat (first | exact .nil | refine .cons (by repeat (first | exact .here | apply Pick.there)) ?_))⟩ | exact ⟨((a, cap), L), by rw [doT, if_neg n0, if_neg n1, if_neg n2, if_neg n3, if_neg n4, if_pos k5]; rfl, by rw [doT, if_neg n0, if_neg n1, if_neg n2, if_neg n3, if_neg n4, if_pos k5], by rw [doT, if_neg n0, if_neg n1, if_neg n2, if_neg n3, if_neg n4, if_pos k5]; exact h'.ent (by repeat (first | exact .nil | refine .cons (by repeat (first | exact .here | apply Pick.there)) ?_))⟩ | exact ⟨((a, cap), L), by rw [doT, if_neg n0, if_neg n1, if_neg n2, if_neg n3, if_neg n4, if_neg n5, if_pos k6]; rfl, by rw [doT, if_neg n0, if_neg n1, if_neg n2, if_neg n3, if_neg n4, if_neg n5, if_pos k6], by rw [doT, if_neg n0, if_neg n1, if_neg n2, if_neg n3, if_neg n4, if_neg n5, if_pos k6]; exact h'.ent (by repeat (first | exact .nil | refine .cons (by repeat (first | exact .here | apply Pick.there)) ?_))⟩ | exact ⟨((a, cap), L), by rw [doT, if_neg n0, if_neg n1, if_neg n2, if_neg n3, if_neg n4, if_neg n5, if_neg n6]; rfl, by rw [doT, if_neg n0, if_neg n1, if_neg n2, if_neg n3, if_neg n4, if_neg n5, if_neg n6], by rw [doT, if_neg n0, if_neg n1, if_neg n2, if_neg n3, if_neg n4, if_neg n5, if_neg n6]; exact h'.ent (by repeat (first | exact .nil | refine .cons (by repeat (first | exact .here | apply Pick.there)) ?_))⟩)
        · try simp only [decide_eq_true_eq, decide_eq_false_iff_not, Bool.not_eq_true', Bool.not_eq_false', Bool.and_eq_true, Bool.or_eq_true, Bool.and_eq_false_iff, Bool.or_eq_false_iff, Bool.not_true, Bool.not_false] at h8
          have n3 : ¬ a9.kd = 3 := h8
          refine s_seq ?_
          refine s_region ?_
          refine o_p (p_pure rfl) rfl ?_
          refine o_p (p_pure rfl) rfl ?_
          refine o_nil ?_
          refine s_cond rfl (fun h9 => ?_) (fun h9 => ?_)
          · try simp only [decide_eq_true_eq, decide_eq_false_iff_not, Bool.not_eq_true', Bool.not_eq_false', Bool.and_eq_true, Bool.or_eq_true, Bool.and_eq_false_iff, Bool.or_eq_false_iff, Bool.not_true, Bool.not_false] at h9
            have k4 : a9.kd = 4 := h9
            refine s_region ?_
            refine o_p (p_pure rfl) rfl ?_
            refine o_p (p_fieldAddr rfl rfl fd_44_1 sz_3 rfl) rfl ?_
            refine o_q (q_load rfl rfl sz_3 (by repeat (first | exact .here | apply Pick.there)) rfl) rfl ?_
            refine o_p (p_fieldAddr rfl rfl fd_44_4 sz_3 rfl) rfl ?_
            refine o_q (q_load rfl rfl sz_3 (by repeat (first | exact .here | apply Pick.there)) rfl) rfl ?_
            refine o_p (p_fieldAddr rfl rfl fd_44_5 sz_3 rfl) rfl ?_
            refine o_q (q_load rfl rfl sz_3 (by repeat (first | exact .here | apply Pick.there)) rfl) rfl ?_
            refine o_h (h_callF (Cs := [.blk bt 106 2 [.int .i64 (next), .slice a (L).length cap], .files a cap (L)]) rfl fn_74 rfl (by repeat (first | exact Picks.nil | (apply Picks.cons; · (repeat (first | exact .here | apply Pick.there))))) (fun w1 h1 hf => c74 w1 bt next a cap L a9.hd a9.fr a9.cnt hf hV)) rfl (fun gz hgz => ?_)
            refine o_p (p_fieldAddr rfl rfl fd_40_0 sz_28 rfl) rfl ?_
            refine o_h0 (h_store rfl rfl rfl sz_28 rfl (by repeat (first | exact .here | apply Put.there)) (by simp only [setMany_length, List.length_set, List.length_cons, List.length_nil, List.length_map]; omega) rfl) (fun _ _ => ?_)
            refine o_nil ?_
            refine s_blk ?_
            refine s_seq ?_
            refine s_weaken (L' := [(4, _)]) (by repeat (first | exact sl_n | refine sl_c rfl ?_)) (fun _ h => h) ?_
            refine s_region ?_
            refine o_q (q_loadn rfl rfl sz_40 (by repeat (first | exact .here | apply Pick.there)) rfl) rfl ?_
            refine o_h0 (h_store rfl rfl rfl sz_40 rfl (by repeat (first | exact .here | apply Put.there)) (by simp only [setMany_length, List.length_set, List.length_cons, List.length_nil, List.length_map]; omega) rfl) (fun _ _ => ?_)
            refine o_nil ?_
            exact s_retv (rs := [.cell 4 40]) rfl (.cell rfl sz_40 (by repeat (first | exact .here | apply Pick.there)) rfl (.nil)) (fun w' h' => by first | exact ⟨gz, by rw [doT, if_pos k0]; rfl, by rw [doT, if_pos k0]; exact hgz, by rw [doT, if_pos k0]; exact h'.ent (by repeat (first | exact .nil | refine .cons (by repeat (first | exact .here | apply Pick.there)) ?_))⟩ | exact ⟨gz, by rw [doT, if_neg n0, if_pos k1]; dsimp only; rw [if_pos hdl]; rfl, by rw [doT, if_neg n0, if_pos k1]; exact hgz, by rw [doT, if_neg n0, if_pos k1]; exact h'.ent (by repeat (first | exact .nil | refine .cons (by repeat (first | exact .here | apply Pick.there)) ?_))⟩ | exact ⟨gz, by rw [doT, if_neg n0, if_pos k1]; dsimp only; rw [if_neg (by rw [hdl]; decide)]; rfl, by rw [doT, if_neg n0, if_pos k1]; exact hgz, by rw [doT, if_neg n0, if_pos k1]; exact h'.ent (by repeat (first | exact .nil | refine .cons (by repeat (first | exact .here | apply Pick.there)) ?_))⟩ | exact ⟨gz, by rw [doT, if_neg n0, if_neg n1, if_pos k2]; rfl, by rw [doT, if_neg n0, if_neg n1, if_pos k2]; exact hgz, by rw [doT, if_neg n0, if_neg n1, if_pos k2]; exact h'.ent (by repeat (first | exact .nil | refine .cons (by repeat (first | exact .here | apply Pick.there)) ?_))⟩ | exact ⟨gz, by rw [doT, if_neg n0, if_neg n1, if_neg n2, if_pos k3]; rfl, by rw [doT, if_neg n0, if_neg n1, if_neg n2, if_pos k3]; exact hgz, by rw [doT, if_neg n0, if_neg n1, if_neg n2, if_pos k3]; exact h'.ent (by repeat (first | exact .nil | refine .cons (by repeat (first | exact .here | apply Pick.there)) ?_))⟩ | exact ⟨gz, by rw [doT, if_neg n0, if_neg n1, if_neg n2, if_neg n3, if_pos k4]; rfl, by rw [doT, if_neg n0, if_neg n1, if_neg n2, if_neg n3, if_pos k4]; exact hgz, by rw [doT, if_neg n0, if_neg n1, if_neg n2, if_neg n3, if_pos k4]; exact h'.ent (by repeat (first | exact .nil | refine .cons (by repeat (first | exact .here | apply Pick.there)) ?_))⟩ | exact ⟨((a, cap), L), by rw [doT, if_neg n0, if_neg n1, if_neg n2, if_neg n3, if_neg n4, if_pos k5]; rfl, by rw [doT, if_neg n0, if_neg n1, if_neg n2, if_neg n3, if_neg n4, if_pos k5], by rw [doT, if_neg n0, if_neg n1, if_neg n2, if_neg n3, if_neg n4, if_pos k5]; exact h'.ent (by repeat (first | exact .nil | refine .cons (by repeat (first | exact .here | apply Pick.there)) ?_))⟩ | exact ⟨((a, cap), L), by rw [doT, if_neg n0, if_neg n1, if_neg n2, if_neg n3, if_neg n4, if_neg n5, if_pos k6]; rfl, by rw [doT, if_neg n0, if_neg n1, if_neg n2, if_neg n3, if_neg n4, if_neg n5, if_pos k6], by rw [doT, if_neg n0, if_neg n1, if_neg n2, if_neg n3, if_neg n4, if_neg n5, if_pos k6]; exact h'.ent (by repeat (first | exact .nil | refine .cons (by repeat (first | exact .here | apply Pick.there)) ?_))⟩ | exact ⟨((a, cap), L), by rw [doT, if_neg n0, if_neg n1, if_neg n2, if_neg n3, if_neg n4, if_neg n5, if_neg n6]; rfl, by rw [doT, if_neg n0, if_neg n1, if_neg n2, if_neg n3, if_neg n4, if_neg n5, if_neg n6], by rw [doT, if_neg n0, if_neg n1, if_neg n2, if_neg n3, if_neg n4, if_neg n5, if_neg n6]; exact h'.ent (by repeat (first | exact .nil | refine .cons (by repeat (first | exact .here | apply Pick.there)) ?_))⟩)
          · try simp only [decide_eq_true_eq, decide_eq_false_iff_not, Bool.not_eq_true', Bool.not_eq_false', Bool.and_eq_true, Bool.or_eq_true, Bool.and_eq_false_iff, Bool.or_eq_false_iff, Bool.not_true, Bool.not_false] at h9
            have n4 : ¬ a9.kd = 4 := h9
            refine s_seq ?_
            refine s_region ?_
            refine o_p (p_pure rfl) rfl ?_
            refine o_p (p_pure rfl) rfl ?_
            refine o_nil ?_
            refine s_cond rfl (fun h10 => ?_) (fun h10 => ?_)
            · try simp only [decide_eq_true_eq, decide_eq_false_iff_not, Bool.not_eq_true', Bool.not_eq_false', Bool.and_eq_true, Bool.or_eq_true, Bool.and_eq_false_iff, Bool.or_eq_false_iff, Bool.not_true, Bool.not_false] at h10
              have k5 : a9.kd = 5 := h10
              refine s_region ?_
              refine o_p (p_pure rfl) rfl ?_
              refine o_p (p_fieldAddr rfl rfl fd_44_1 sz_3 rfl) rfl ?_
              refine o_q (q_load rfl rfl sz_3 (by repeat (first | exact .here | apply Pick.there)) rfl) rfl ?_
              refine o_q (q_loadn rfl rfl sz_62 (by repeat (first | exact .here | apply Pick.there)) rfl) rfl ?_
              refine o_q (q_call rfl fn_76 rfl (fun w1 h1 => c76 w1 bt a cap L a9.hd a9.lock (h1.rd_blk (Mc := []) (b := bt) (by repeat (first | exact .here | apply Pick.there)) rfl (by simp)) (h1.ft (by repeat (first | exact .here | apply Pick.there))) hV)) rfl ?_
              refine o_p (p_fieldAddr rfl rfl fd_40_0 sz_28 rfl) rfl ?_
              refine o_h0 (h_store rfl rfl rfl sz_28 rfl (by repeat (first | exact .here | apply Put.there)) (by simp only [setMany_length, List.length_set, List.length_cons, List.length_nil, List.length_map]; omega) rfl) (fun _ _ => ?_)
              refine o_nil ?_
              refine s_blk ?_
              refine s_seq ?_
              refine s_weaken (L' := [(4, _)]) (by repeat (first | exact sl_n | refine sl_c rfl ?_)) (fun _ h => h) ?_
              refine s_region ?_
              refine o_q (q_loadn rfl rfl sz_40 (by repeat (first | exact .here | apply Pick.there)) rfl) rfl ?_
              refine o_h0 (h_store rfl rfl rfl sz_40 rfl (by repeat (first | exact .here | apply Put.there)) (by simp only [setMany_length, List.length_set, List.length_cons, List.length_nil, List.length_map]; omega) rfl) (fun _ _ => ?_)
              refine o_nil ?_
              exact s_retv (rs := [.cell 4 40]) rfl (.cell rfl sz_40 (by repeat (first | exact .here | apply Pick.there)) rfl (.nil)) (fun w' h' => by first | exact ⟨gz, by rw [doT, if_pos k0]; rfl, by rw [doT, if_pos k0]; exact hgz, by rw [doT, if_pos k0]; exact h'.ent (by repeat (first | exact .nil | refine .cons (by repeat (first | exact .here | apply Pick.there)) ?_))⟩ | exact ⟨gz, by rw [doT, if_neg n0, if_pos k1]; dsimp only; rw [if_pos hdl]; rfl, by rw [doT, if_neg n0, if_pos k1]; exact hgz, by rw [doT, if_neg n0, if_pos k1]; exact h'.ent (by repeat (first | exact .nil | refine .cons (by repeat (first | exact .here | apply Pick.there)) ?_))⟩ | exact ⟨gz, by rw [doT, if_neg n0, if_pos k1]; dsimp only; rw [if_neg (by rw [hdl]; decide)]; rfl, by rw [doT, if_neg n0, if_pos k1]; exact hgz, by rw [doT, if_neg n0, if_pos k1]; exact h'.ent (by repeat (first | exact .nil | refine .cons (by repeat (first | exact .here | apply Pick.there)) ?_))⟩ | exact ⟨gz, by rw [doT, if_neg n0, if_neg n1, if_pos k2]; rfl, by rw [doT, if_neg n0, if_neg n1, if_pos k2]; exact hgz, by rw [doT, if_neg n0, if_neg n1, if_pos k2]; exact h'.ent (by repeat (first | exact .nil | refine .cons (by repeat (first | exact .here | apply Pick.there)) ?_))⟩ | exact ⟨gz, by rw [doT, if_neg n0, if_neg n1, if_neg n2, if_pos k3]; rfl, by rw [doT, if_neg n0, if_neg n1, if_neg n2, if_pos k3]; exact hgz, by rw [doT, if_neg n0, if_neg n1, if_neg n2, if_pos k3]; exact h'.ent (by repeat (first | exact .nil | refine .cons (by repeat (first | exact .here | apply Pick.there)) ?_))⟩ | exact ⟨gz, by rw [doT, if_neg n0, if_neg n1, if_neg n2, if_neg n3, if_pos k4]; rfl, by rw [doT, if_neg n0, if_neg n1, if_neg n2, if_neg n3, if_pos k4]; exact hgz, by rw [doT, if_neg n0, if_neg n1, if_neg n2, if_neg n3, if_pos k4]; exact h'.ent (by repeat (first | exact .nil | refine .cons (by repeat (first | exact .here | apply Pick.there)) ?_))⟩ | exact ⟨((a, cap), L), by rw [doT, if_neg n0, if_neg n1, if_neg n2, if_neg n3, if_neg n4, if_pos k5]; rfl, by rw [doT, if_neg n0, if_neg n1, if_neg n2, if_neg n3, if_neg n4, if_pos k5], by rw [doT, if_neg n0, if_neg n1, if_neg n2, if_neg n3, if_neg n4, if_pos k5]; exact h'.ent (by repeat (first | exact .nil | refine .cons (by repeat (first | exact .here | apply Pick.there)) ?_))⟩ | exact ⟨((a, cap), L), by rw [doT, if_neg n0, if_neg n1, if_neg n2, if_neg n3, if_neg n4, if_neg n5, if_pos k6]; rfl, by rw [doT, if_neg n0, if_neg n1, if_neg n2, if_neg n3, if_neg n4, if_neg n5, if_pos k6], by rw [doT, if_neg n0, if_neg n1, if_neg n2, if_neg n3, if_neg n4, if_neg n5, if_pos k6]; exact h'.ent (by repeat (first | exact .nil | refine .cons (by repeat (first | exact .here | apply Pick.there)) ?_))⟩ | exact ⟨((a, cap), L), by rw [doT, if_neg n0, if_neg n1, if_neg n2, if_neg n3, if_neg n4, if_neg n5, if_neg n6]; rfl, by rw [doT, if_neg n0, if_neg n1, if_neg n2, if_neg n3, if_neg n4, if_neg n5, if_neg n6], by rw [doT, if_neg n0, if_neg n1, if_neg n2, if_neg n3, if_neg n4, if_neg n5, if_neg n6]; exact h'.ent (by repeat (first | exact .nil | refine .cons (by repeat (first | exact .here | apply Pick.there)) ?_))⟩)
            · try simp only [decide_eq_true_eq, decide_eq_false_iff_not, Bool.not_eq_true', Bool.not_eq_false', Bool.and_eq_true, Bool.or_eq_true, Bool.and_eq_false_iff, Bool.or_eq_false_iff, Bool.not_true, Bool.not_false] at h10
              have n5 : ¬ a9.kd = 5 := h10
              refine s_seq ?_
              refine s_region ?_
              refine o_p (p_pure rfl) rfl ?_
              refine o_p (p_pure rfl) rfl ?_
              refine o_nil ?_
              refine s_cond rfl (fun h11 => ?_) (fun h11 => ?_)
              · try simp only [decide_eq_true_eq, decide_eq_false_iff_not, Bool.not_eq_true', Bool.not_eq_false', Bool.and_eq_true, Bool.or_eq_true, Bool.and_eq_false_iff, Bool.or_eq_false_iff, Bool.not_true, Bool.not_false] at h11
                have k6 : a9.kd = 6 := h11
                refine s_region ?_
                refine o_p (p_pure rfl) rfl ?_
                refine o_p (p_fieldAddr rfl rfl fd_44_1 sz_3 rfl) rfl ?_
                refine o_q (q_load rfl rfl sz_3 (by repeat (first | exact .here | apply Pick.there)) rfl) rfl ?_
                refine o_q (q_loadn rfl rfl sz_62 (by repeat (first | exact .here | apply Pick.there)) rfl) rfl ?_
                refine o_q (q_call rfl fn_78 rfl (fun w1 h1 => c78 w1 bt a cap L a9.hd a9.lock (h1.rd_blk (Mc := []) (b := bt) (by repeat (first | exact .here | apply Pick.there)) rfl (by simp)) (h1.ft (by repeat (first | exact .here | apply Pick.there))) hV)) rfl ?_
                refine o_p (p_fieldAddr rfl rfl fd_40_0 sz_28 rfl) rfl ?_
                refine o_h0 (h_store rfl rfl rfl sz_28 rfl (by repeat (first | exact .here | apply Put.there)) (by simp only [setMany_length, List.length_set, List.length_cons, List.length_nil, List.length_map]; omega) rfl) (fun _ _ => ?_)
                refine o_nil ?_
                refine s_blk ?_
                refine s_seq ?_
                refine s_weaken (L' := [(4, _)]) (by repeat (first | exact sl_n | refine sl_c rfl ?_)) (fun _ h => h) ?_
                refine s_region ?_
                refine o_q (q_loadn rfl rfl sz_40 (by repeat (first | exact .here | apply Pick.there)) rfl) rfl ?_
                refine o_h0 (h_store rfl rfl rfl sz_40 rfl (by repeat (first | exact .here | apply Put.there)) (by simp only [setMany_length, List.length_set, List.length_cons, List.length_nil, List.length_map]; omega) rfl) (fun _ _ => ?_)
                refine o_nil ?_
                exact s_retv (rs := [.cell 4 40]) rfl (.cell rfl sz_40 (by repeat (first | exact .here | apply Pick.there)) rfl (.nil)) (fun w' h' => by first | exact ⟨gz, by rw [doT, if_pos k0]; rfl, by rw [doT, if_pos k0]; exact hgz, by rw [doT, if_pos k0]; exact h'.ent (by repeat (first | exact .nil | refine .cons (by repeat (first | exact .here | apply Pick.there)) ?_))⟩ | exact ⟨gz, by rw [doT, if_neg n0, if_pos k1]; dsimp only; rw [if_pos hdl]; rfl, by rw [doT, if_neg n0, if_pos k1]; exact hgz, by rw [doT, if_neg n0, if_pos k1]; exact h'.ent (by repeat (first | exact .nil | refine .cons (by repeat (first | exact .here | apply Pick.there)) ?_))⟩ | exact ⟨gz, by rw [doT, if_neg n0, if_pos k1]; dsimp only; rw [if_neg (by rw [hdl]; decide)]; rfl, by rw [doT, if_neg n0, if_pos k1]; exact hgz, by rw [doT, if_neg n0, if_pos k1]; exact h'.ent (by repeat (first | exact .nil | refine .cons (by repeat (first | exact .here | apply Pick.there)) ?_))⟩ | exact ⟨gz, by rw [doT, if_neg n0, if_neg n1, if_pos k2]; rfl, by rw [doT, if_neg n0, if_neg n1, if_pos k2]; exact hgz, by rw [doT, if_neg n0, if_neg n1, if_pos k2]; exact h'.ent (by repeat (first | exact .nil | refine .cons (by repeat (first | exact .here | apply Pick.there)) ?_))⟩ | exact ⟨gz, by rw [doT, if_neg n0, if_neg n1, if_neg n2, if_pos k3]; rfl, by rw [doT, if_neg n0, if_neg n1, if_neg n2, if_pos k3]; exact hgz, by rw [doT, if_neg n0, if_neg n1, if_neg n2, if_pos k3]; exact h'.ent (by repeat (first | exact .nil | refine .cons (by repeat (first | exact .here | apply Pick.there)) ?_))⟩ | exact ⟨gz, by rw [doT, if_neg n0, if_neg n1, if_neg n2, if_neg n3, if_pos k4]; rfl, by rw [doT, if_neg n0, if_neg n1, if_neg n2, if_neg n3, if_pos k4]; exact hgz, by rw [doT, if_neg n0, if_neg n1, if_neg n2, if_neg n3, if_pos k4]; exact h'.ent (by repeat (first | exact .nil | refine .cons (by repeat (first | exact .here | apply Pick.there)) ?_))⟩ | exact ⟨((a, cap), L), by rw [doT, if_neg n0, if_neg n1, if_neg n2, if_neg n3, if_neg n4, if_pos k5]; rfl, by rw [doT, if_neg n0, if_neg n1, if_neg n2, if_neg n3, if_neg n4, if_pos k5], by rw [doT, if_neg n0, if_neg n1, if_neg n2, if_neg n3, if_neg n4, if_pos k5]; exact h'.ent (by repeat (first | exact .nil | refine .cons (by repeat (first | exact .here | apply Pick.there)) ?_))⟩ | exact ⟨((a, cap), L), by rw [doT, if_neg n0, if_neg n1, if_neg n2, if_neg n3, if_neg n4, if_neg n5, if_pos k6]; rfl, by rw [doT, if_neg n0, if_neg n1, if_neg n2, if_neg n3, if_neg n4, if_neg n5, if_pos k6], by rw [doT, if_neg n0, if_neg n1, if_neg n2, if_neg n3, if_neg n4, if_neg n5, if_pos k6]; exact h'.ent (by repeat (first | exact .nil | refine .cons (by repeat (first | exact .here | apply Pick.there)) ?_))⟩ | exact ⟨((a, cap), L), by rw [doT, if_neg n0, if_neg n1, if_neg n2, if_neg n3, if_neg n4, if_neg n5, if_neg n6]; rfl, by rw [doT, if_neg n0, if_neg n1, if_neg n2, if_neg n3, if_neg n4, if_neg n5, if_neg n6], by rw [doT, if_neg n0, if_neg n1, if_neg n2, if_neg n3, if_neg n4, if_neg n5, if_neg n6]; exact h'.ent (by repeat (first | exact .nil | refine .cons (by repeat (first | exact .here | apply Pick.there)) ?_))⟩)
              · try simp only [decide_eq_true_eq, decide_eq_false_iff_not, Bool.not_eq_true', Bool.not_eq_false', Bool.and_eq_true, Bool.or_eq_true, Bool.and_eq_false_iff, Bool.or_eq_false_iff, Bool.not_true, Bool.not_false] at h11
                have n6 : ¬ a9.kd = 6 := h11
                refine s_skip ?_
                refine s_blk ?_
                refine s_seq ?_
                refine s_region ?_
                refine o_q (q_loadn rfl rfl sz_40 (by repeat (first | exact .here | apply Pick.there)) rfl) rfl ?_
                refine o_h0 (h_store rfl rfl rfl sz_40 rfl (by repeat (first | exact .here | apply Put.there)) (by simp only [setMany_length, List.length_set, List.length_cons, List.length_nil, List.length_map]; omega) rfl) (fun _ _ => ?_)
                refine o_nil ?_
                exact s_retv (rs := [.cell 4 40]) rfl (.cell rfl sz_40 (by repeat (first | exact .here | apply Pick.there)) rfl (.nil)) (fun w' h' => by first | exact ⟨gz, by rw [doT, if_pos k0]; rfl, by rw [doT, if_pos k0]; exact hgz, by rw [doT, if_pos k0]; exact h'.ent (by repeat (first | exact .nil | refine .cons (by repeat (first | exact .here | apply Pick.there)) ?_))⟩ | exact ⟨gz, by rw [doT, if_neg n0, if_pos k1]; dsimp only; rw [if_pos hdl]; rfl, by rw [doT, if_neg n0, if_pos k1]; exact hgz, by rw [doT, if_neg n0, if_pos k1]; exact h'.ent (by repeat (first | exact .nil | refine .cons (by repeat (first | exact .here | apply Pick.there)) ?_))⟩ | exact ⟨gz, by rw [doT, if_neg n0, if_pos k1]; dsimp only; rw [if_neg (by rw [hdl]; decide)]; rfl, by rw [doT, if_neg n0, if_pos k1]; exact hgz, by rw [doT, if_neg n0, if_pos k1]; exact h'.ent (by repeat (first | exact .nil | refine .cons (by repeat (first | exact .here | apply Pick.there)) ?_))⟩ | exact ⟨gz, by rw [doT, if_neg n0, if_neg n1, if_pos k2]; rfl, by rw [doT, if_neg n0, if_neg n1, if_pos k2]; exact hgz, by rw [doT, if_neg n0, if_neg n1, if_pos k2]; exact h'.ent (by repeat (first | exact .nil | refine .cons (by repeat (first | exact .here | apply Pick.there)) ?_))⟩ | exact ⟨gz, by rw [doT, if_neg n0, if_neg n1, if_neg n2, if_pos k3]; rfl, by rw [doT, if_neg n0, if_neg n1, if_neg n2, if_pos k3]; exact hgz, by rw [doT, if_neg n0, if_neg n1, if_neg n2, if_pos k3]; exact h'.ent (by repeat (first | exact .nil | refine .cons (by repeat (first | exact .here | apply Pick.there)) ?_))⟩ | exact ⟨gz, by rw [doT, if_neg n0, if_neg n1, if_neg n2, if_neg n3, if_pos k4]; rfl, by rw [doT, if_neg n0, if_neg n1, if_neg n2, if_neg n3, if_pos k4]; exact hgz, by rw [doT, if_neg n0, if_neg n1, if_neg n2, if_neg n3, if_pos k4]; exact h'.ent (by repeat (first | exact .nil | refine .cons (by repeat (first | exact .here | apply Pick.there)) ?_))⟩ | exact ⟨((a, cap), L), by rw [doT, if_neg n0, if_neg n1, if_neg n2, if_neg n3, if_neg n4, if_pos k5]; rfl, by rw [doT, if_neg n0, if_neg n1, if_neg n2, if_neg n3, if_neg n4, if_pos k5], by rw [doT, if_neg n0, if_neg n1, if_neg n2, if_neg n3, if_neg n4, if_pos k5]; exact h'.ent (by repeat (first | exact .nil | refine .cons (by repeat (first | exact .here | apply Pick.there)) ?_))⟩ | exact ⟨((a, cap), L), by rw [doT, if_neg n0, if_neg n1, if_neg n2, if_neg n3, if_neg n4, if_neg n5, if_pos k6]; rfl, by rw [doT, if_neg n0, if_neg n1, if_neg n2, if_neg n3, if_neg n4, if_neg n5, if_pos k6], by rw [doT, if_neg n0, if_neg n1, if_neg n2, if_neg n3, if_neg n4, if_neg n5, if_pos k6]; exact h'.ent (by repeat (first | exact .nil | refine .cons (by repeat (first | exact .here | apply Pick.there)) ?_))⟩ | exact ⟨((a, cap), L), by rw [doT, if_neg n0, if_neg n1, if_neg n2, if_neg n3, if_neg n4, if_neg n5, if_neg n6]; rfl, by rw [doT, if_neg n0, if_neg n1, if_neg n2, if_neg n3, if_neg n4, if_neg n5, if_neg n6], by rw [doT, if_neg n0, if_neg n1, if_neg n2, if_neg n3, if_neg n4, if_neg n5, if_neg n6]; exact h'.ent (by repeat (first | exact .nil | refine .cons (by repeat (first | exact .here | apply Pick.there)) ?_))⟩)

end Go.Proofs

/- Chapter 25, plain: valid tables stay valid. No program here. -/
namespace Go.Proofs
open Go Go.RowKit Gx
set_option linter.unusedVariables false
set_option linter.unusedSimpArgs false

structure FOk (next : Int) (f : Fil) : Prop where
  rf : refE f.rc f.sq = 0
  ne : 0 < f.op.length
  hd : ∀ o ∈ f.op, 1 ≤ o.hd ∧ o.hd ≤ next - 1
  op : ∀ o ∈ f.op, openE o.ac o.sh = 0 ∧ (∀ k ∈ o.lk, rngE k.fr k.cnt = 0) ∧ o.lk.length ≤ 16
  hs : f.op.Pairwise (fun a b => a.hd < b.hd)
  cf : f.op.Pairwise (fun a b => cfl a b = false)
  lk : (f.op.flatMap Opn.lk).Pairwise (fun a b => clsh a b = false)
structure Ok (next : Int) (L : List Fil) : Prop where
  nx : 1 ≤ next ∧ next ≤ 2147483647
  cnt : cntT L ≤ 32
  fl : ∀ f ∈ L, FOk next f
  sr : L.Pairwise (fun f g => refLt (f.rc, f.sq) (g.rc, g.sq) = true)
  ds : L.Pairwise (fun f g => ∀ o ∈ f.op, ∀ p ∈ g.op, o.hd ≠ p.hd)
theorem cntT_cons (f : Fil) (L : List Fil) : cntT (f :: L) = f.op.length + cntT L := by simp [cntT]
theorem cntT_app (L M : List Fil) : cntT (L ++ M) = cntT L + cntT M := by simp [cntT]
theorem len_cnt : ∀ {L : List Fil}, (∀ f ∈ L, 0 < f.op.length) → L.length ≤ cntT L
  | [], _ => by simp
  | f :: L, h => by
    have h1 := len_cnt (fun g hg => h g (List.mem_cons_of_mem _ hg))
    have h2 := h f List.mem_cons_self
    rw [cntT_cons, List.length_cons]
    omega
theorem Ok.vw {next : Int} {L : List Fil} (h : Ok next L) : VW L := by
  refine ⟨?_, h.cnt, fun f hf o ho => (h.fl f hf).op o ho⟩
  have := len_cnt (fun f hf => (h.fl f hf).ne)
  have := h.cnt
  omega
theorem Ok.nil : Ok 1 [] := ⟨by omega, by simp [cntT], fun f hf => (by cases hf), .nil, .nil⟩
theorem others_sub {α : Type} (l : List α) (i : Nat) : (others l i).Sublist l := by
  have h : l = l.take i ++ l.drop i := (List.take_append_drop i l).symm
  conv => rhs; rw [h]
  unfold others
  exact (List.Sublist.refl _).append (by rw [← List.drop_drop]; exact List.drop_sublist _ _)
theorem cnt_sub {L M : List Fil} (h : L.Sublist M) : cntT L ≤ cntT M := by
  induction h with
  | slnil => exact Nat.le_refl _
  | cons a _ ih => rw [cntT_cons]; omega
  | cons_cons a _ ih => rw [cntT_cons, cntT_cons]; omega
theorem Ok.sub {next : Int} {L M : List Fil} (h : Ok next M) (hs : L.Sublist M) : Ok next L :=
  ⟨h.nx, Nat.le_trans (cnt_sub hs) h.cnt, fun f hf => h.fl f (hs.subset hf), h.sr.sublist hs, h.ds.sublist hs⟩
theorem pw_map_set {α β : Type} [Inhabited α] {R : β → β → Prop} {g : α → β} {l : List α} {k : Nat} {x : α} (hx : g x = g (nth l k)) (h : l.Pairwise (fun a b => R (g a) (g b))) : (l.set k x).Pairwise (fun a b => R (g a) (g b)) := by
  rw [← List.pairwise_map] at h ⊢
  have e : (l.set k x).map g = l.map g := by
    apply List.ext_getElem?
    intro j
    rw [List.getElem?_map, List.getElem?_map, List.getElem?_set]
    split
    · rename_i e
      subst e
      split
      · rename_i h2
        rw [nth_get h2, Option.map_some, Option.map_some, hx]
      · rename_i h2
        rw [List.getElem?_eq_none (by omega)]
    · rfl
  rw [e]
  exact h
theorem mem_set_or {α : Type} {l : List α} {k : Nat} {x y : α} (h : y ∈ l.set k x) : y = x ∨ y ∈ l := (List.mem_or_eq_of_mem_set h).symm
theorem pw_set {α : Type} [Inhabited α] {R : α → α → Prop} {l : List α} {k : Nat} {x : α} (h : l.Pairwise R) (h1 : ∀ y ∈ l, R y (nth l k) → R y x) (h2 : ∀ y ∈ l, R (nth l k) y → R x y) : (l.set k x).Pairwise R := by
  rw [List.pairwise_iff_getElem] at h ⊢
  intro i j hi hj hij
  rw [List.length_set] at hi hj
  have h9 := h i j hi hj hij
  rw [List.getElem_set, List.getElem_set]
  split
  · rename_i e
    subst e
    rw [if_neg (by omega)]
    have e2 : nth l k = l[k] := nth_eq (by rw [List.getElem?_eq_getElem hi])
    exact h2 _ (List.getElem_mem hj) (by rw [e2]; exact h9)
  · split
    · rename_i e
      subst e
      have e2 : nth l k = l[k] := nth_eq (by rw [List.getElem?_eq_getElem hj])
      exact h1 _ (List.getElem_mem hi) (by rw [e2]; exact h9)
    · exact h9
theorem cnt_set : ∀ {L : List Fil} {i : Nat} {f : Fil}, i < L.length → cntT (L.set i f) + (nth L i).op.length = cntT L + f.op.length
  | [], i, f, h => by cases h
  | g :: L, 0, f, h => by
    rw [List.set_cons_zero, cntT_cons, cntT_cons]
    show _ + g.op.length = _
    omega
  | g :: L, i + 1, f, h => by
    have h1 := cnt_set (L := L) (i := i) (f := f) (by simpa using h)
    rw [List.set_cons_succ, cntT_cons, cntT_cons]
    have e : nth (g :: L) (i + 1) = nth L i := by simp [nth]
    rw [e]
    omega
theorem Ok.set {next : Int} {L : List Fil} {i : Nat} {f : Fil} (h : Ok next L) (hi : i < L.length) (hf : FOk next f) (h1 : f.rc = (nth L i).rc) (h2 : f.sq = (nth L i).sq) (h3 : ∀ o ∈ f.op, ∃ p ∈ (nth L i).op, p.hd = o.hd) (h4 : f.op.length ≤ (nth L i).op.length) : Ok next (L.set i f) := by
  refine ⟨h.nx, ?_, fun g hg => ?_, ?_, ?_⟩
  · have := cnt_set (L := L) (f := f) hi
    have := h.cnt
    omega
  · rcases mem_set_or hg with rfl | h9
    · exact hf
    · exact h.fl g h9
  · exact pw_map_set (g := fun f : Fil => (f.rc, f.sq)) (R := fun a b => refLt a b = true) (by rw [h1, h2]) h.sr
  · refine pw_set h.ds (fun y hy hR o ho p hp => ?_) (fun y hy hR o ho p hp => ?_)
    · obtain ⟨q, hq, e⟩ := h3 p hp
      rw [← e]
      exact hR o ho q hq
    · obtain ⟨q, hq, e⟩ := h3 o ho
      rw [← e]
      exact hR q hq p hp
theorem nth_Ok {next : Int} {L : List Fil} {i : Nat} (h : Ok next L) (hi : i < L.length) : FOk next (nth L i) := h.fl _ (mem_nth hi)
theorem sub_flat {α β : Type} {g : α → List β} {l m : List α} (h : l.Sublist m) : (l.flatMap g).Sublist (m.flatMap g) := by
  induction h with
  | slnil => exact List.Sublist.refl _
  | cons a _ ih => rw [List.flatMap_cons]; exact ih.trans (List.sublist_append_right _ _)
  | cons_cons a _ ih => rw [List.flatMap_cons, List.flatMap_cons]; exact List.Sublist.append (List.Sublist.refl _) ih
theorem FOk.less {next : Int} {f : Fil} {k : Nat} {pd : Bool} (h : FOk next f) (hn : 0 < (others f.op k).length) : FOk next { f with pd := pd, op := others f.op k } := by
  have hs := others_sub f.op k
  exact ⟨h.rf, hn, fun o ho => h.hd o (hs.subset ho), fun o ho => h.op o (hs.subset ho), h.hs.sublist hs, h.cf.sublist hs, h.lk.sublist (sub_flat hs)⟩
theorem flat_set_sub : ∀ {l : List Opn} {k : Nat} {o : Opn}, o.lk.Sublist (nth l k).lk → ((l.set k o).flatMap Opn.lk).Sublist (l.flatMap Opn.lk)
  | [], k, o, h => by simp
  | x :: l, 0, o, h => by
    rw [List.set_cons_zero, List.flatMap_cons, List.flatMap_cons]
    exact List.Sublist.append h (List.Sublist.refl _)
  | x :: l, k + 1, o, h => by
    rw [List.set_cons_succ, List.flatMap_cons, List.flatMap_cons]
    exact List.Sublist.append (List.Sublist.refl _) (flat_set_sub (by simpa [nth] using h))
theorem flat_set_perm : ∀ {l : List Opn} {k : Nat} {o : Opn} {q : Lock}, k < l.length → o.lk = (nth l k).lk ++ [q] → ((l.set k o).flatMap Opn.lk).Perm (q :: l.flatMap Opn.lk)
  | [], k, o, q, h, _ => by cases h
  | x :: l, 0, o, q, _, h => by
    rw [List.set_cons_zero, List.flatMap_cons, List.flatMap_cons, h]
    show (x.lk ++ [q] ++ _).Perm (q :: (x.lk ++ _))
    rw [List.append_assoc]
    exact List.perm_middle
  | x :: l, k + 1, o, q, hk, h => by
    rw [List.set_cons_succ, List.flatMap_cons, List.flatMap_cons]
    exact ((flat_set_perm (l := l) (k := k) (by simpa using hk) (by simpa [nth] using h)).append_left _).trans List.perm_middle
theorem FOk.locks {next : Int} {f : Fil} {k : Nat} {o : Opn} (h : FOk next f) (hk : k < f.op.length) (h1 : o.hd = (nth f.op k).hd) (h2 : o.ac = (nth f.op k).ac) (h3 : o.sh = (nth f.op k).sh) (h4 : (∀ k ∈ o.lk, rngE k.fr k.cnt = 0) ∧ o.lk.length ≤ 16) (h5 : ((f.op.set k o).flatMap Opn.lk).Pairwise (fun a b => clsh a b = false)) : FOk next { f with op := f.op.set k o } := by
  refine ⟨h.rf, by show 0 < (f.op.set k o).length; rw [List.length_set]; exact h.ne, fun p hp => ?_, fun p hp => ?_, ?_, ?_, h5⟩
  · rcases mem_set_or hp with rfl | h9
    · rw [h1]; exact h.hd _ (mem_nth hk)
    · exact h.hd p h9
  · rcases mem_set_or hp with rfl | h9
    · exact ⟨by rw [h2, h3]; exact (h.op _ (mem_nth hk)).1, h4⟩
    · exact h.op p h9
  · exact pw_map_set (g := Opn.hd) (R := fun a b => a < b) h1 h.hs
  · exact pw_map_set (g := fun o : Opn => (o.ac, o.sh)) (R := fun (a b : Int × Int) => (missN a.1.toNat b.2.toNat || missN b.1.toNat a.2.toNat) = false) (by rw [h2, h3]) h.cf
theorem hd_set {f : Fil} {k : Nat} {o : Opn} (hk : k < f.op.length) (h1 : o.hd = (nth f.op k).hd) : ∀ p ∈ f.op.set k o, ∃ q ∈ f.op, q.hd = p.hd := by
  intro p hp
  rcases mem_set_or hp with rfl | h9
  · exact ⟨_, mem_nth hk, h1.symm⟩
  · exact ⟨p, h9, rfl⟩
theorem mark_ok {next : Int} {L : List Fil} {h : Int} {d : Bool} (hk : Ok next L) : Ok next (markT L h d).1 := by
  unfold markT
  split
  · rename_i e
    obtain ⟨i, k, e2, hi, hk2, _⟩ := findF_spec e
    rw [e2]
    split
    · simp only [Nat.zero_add, updF]
      have hf := nth_Ok hk hi
      exact hk.set hi ⟨hf.rf, hf.ne, hf.hd, hf.op, hf.hs, hf.cf, hf.lk⟩ rfl rfl (fun o ho => ⟨o, ho, rfl⟩) (Nat.le_refl _)
    · exact hk
  · exact hk
theorem lock_ok {next : Int} {L : List Fil} {h : Int} {q : Lock} (hk : Ok next L) : Ok next (lockT L h q).1 := by
  unfold lockT
  split
  · rename_i e
    split
    · rename_i hr
      split
      · rename_i hle
        obtain ⟨i, k, e2, hi, hk2, _⟩ := findF_spec e
        rw [e2] at hle ⊢
        simp only [Nat.zero_add, updO, updF] at hle ⊢
        have hp := lockE_pos hle
        have hf := nth_Ok hk hi
        have ho := hf.op _ (mem_nth hk2)
        refine hk.set hi (hf.locks hk2 rfl rfl rfl ⟨?_, ?_⟩ ?_) rfl rfl (hd_set hk2 rfl) (by show (List.set _ _ _).length ≤ _; rw [List.length_set]; exact Nat.le_refl _)
        · intro c hc
          rcases List.mem_append.1 hc with h9 | h9
          · exact ho.2.1 c h9
          · rw [List.mem_singleton.1 h9]; exact hr
        · show (_ ++ [q]).length ≤ 16
          rw [List.length_append]
          have := hp.1
          simp only [List.length_singleton]
          omega
        · refine ((flat_set_perm (q := q) hk2 rfl).pairwise_iff (fun {x y} e => by rw [clsh_comm]; exact e)).2 ?_
          refine List.pairwise_cons.2 ⟨fun c hc => ?_, hf.lk⟩
          obtain ⟨o, ho1, ho2⟩ := List.mem_flatMap.1 hc
          have h9 := hp.2
          unfold anyK at h9
          rw [List.any_eq_false] at h9
          have h8 := h9 o ho1
          rw [Bool.not_eq_true, List.any_eq_false] at h8
          have h7 := h8 c ho2
          rw [clsh_comm]
          simpa using h7
      · exact hk
    · exact hk
  · exact hk
theorem unlock_ok {next : Int} {L : List Fil} {h fr cnt : Int} (hk : Ok next L) : Ok next (unlockT L h fr cnt).1 := by
  unfold unlockT
  split
  · rename_i e
    split
    · split
      · rename_i hle
        obtain ⟨i, k, e2, hi, hk2, _⟩ := findF_spec e
        rw [e2] at hle ⊢
        simp only [Nat.zero_add, updO, updF] at hle ⊢
        have hf := nth_Ok hk hi
        have ho := hf.op _ (mem_nth hk2)
        have hs := others_sub (nth (nth L i).op k).lk (ixB ((nth (nth L i).op k).lk.map (eqK fr cnt)))
        refine hk.set hi (hf.locks hk2 rfl rfl rfl ⟨fun c hc => ho.2.1 c (hs.subset hc), Nat.le_trans hs.length_le ho.2.2⟩ (hf.lk.sublist (flat_set_sub hs))) rfl rfl (hd_set hk2 rfl) (by show (List.set _ _ _).length ≤ _; rw [List.length_set]; exact Nat.le_refl _)
      · exact hk
    · exact hk
  · exact hk
theorem close_ok {next : Int} {L : List Fil} {h : Int} (hk : Ok next L) : Ok next (closeT L h).1 := by
  unfold closeT
  split
  · rename_i e
    obtain ⟨i, k, e2, hi, hk2, _⟩ := findF_spec e
    rw [e2]
    simp only [Nat.zero_add]
    split
    · rename_i hn
      have hs := others_sub (nth L i).op k
      exact hk.set hi ((nth_Ok hk hi).less hn) rfl rfl (fun o ho => ⟨o, hs.subset ho, rfl⟩) hs.length_le
    · exact hk.sub (others_sub L i)
  · exact hk
theorem FOk.mono {next next' : Int} {f : Fil} (h : FOk next f) (hn : next ≤ next') : FOk next' f := ⟨h.rf, h.ne, fun o ho => by have := h.hd o ho; omega, h.op, h.hs, h.cf, h.lk⟩
theorem Ok.mono {next next' : Int} {L : List Fil} (h : Ok next L) (hn : next ≤ next' ∧ next' ≤ 2147483647) : Ok next' L := ⟨by have := h.nx; omega, h.cnt, fun f hf => (h.fl f hf).mono hn.1, h.sr, h.ds⟩
theorem refLt_tr {a b c : Int × Int} (h1 : refLt a b = true) (h2 : refLt b c = true) : refLt a c = true := by
  unfold refLt at *
  simp only [Bool.or_eq_true, Bool.and_eq_true, decide_eq_true_eq] at *
  omega
/-- Where a row changes from 'less' to 'not less'. -/
theorem turn {α : Type} [Inhabited α] {P : α → Prop} [DecidablePred P] : ∀ {l : List α}, l.Pairwise (fun a b => P b → P a) → ∃ p, p ≤ l.length ∧ (∀ i, i < p → P (nth l i)) ∧ ∀ i, p ≤ i → i < l.length → ¬ P (nth l i)
  | [], _ => ⟨0, Nat.le_refl _, fun i h => absurd h (Nat.not_lt_zero i), fun i _ h => absurd h (Nat.not_lt_zero i)⟩
  | x :: l, h => by
    have hc := List.pairwise_cons.1 h
    by_cases hx : P x
    · obtain ⟨p, h1, h2, h3⟩ := turn hc.2
      refine ⟨p + 1, by simpa using h1, fun i hi => ?_, fun i hi hl => ?_⟩
      · cases i with
        | zero => exact hx
        | succ i => exact h2 i (by omega)
      · cases i with
        | zero => omega
        | succ i => exact h3 i (by omega) (by simpa using hl)
    · refine ⟨0, Nat.zero_le _, fun i h => absurd h (Nat.not_lt_zero i), fun i _ hl => ?_⟩
      cases i with
      | zero => exact hx
      | succ i =>
        have hl' : i < l.length := by simpa using hl
        exact fun hp => hx (hc.1 _ (mem_nth hl') hp)
theorem cmps_get {L : List Fil} {rc sq : Int} {i : Nat} (h : i < L.length) : (cmps L rc sq).getD i 0 = cmp2 ((nth L i).rc, (nth L i).sq) (rc, sq) := by
  unfold cmps
  exact map_getD_nth h
theorem place_spec {next : Int} {L : List Fil} {rc sq : Int} (h : Ok next L) : bsL (cmps L rc sq) ≤ L.length ∧ (∀ i, i < bsL (cmps L rc sq) → refLt ((nth L i).rc, (nth L i).sq) (rc, sq) = true) ∧ ∀ i, bsL (cmps L rc sq) ≤ i → i < L.length → refLt ((nth L i).rc, (nth L i).sq) (rc, sq) = false := by
  obtain ⟨p, h1, h2, h3⟩ := turn (P := fun f : Fil => refLt (f.rc, f.sq) (rc, sq) = true) (l := L) (h.sr.imp fun hab hb => refLt_tr hab hb)
  have e : bsL (cmps L rc sq) = p := by
    refine bsL_spec (by simpa [cmps] using h1) (fun i hi => ?_) (fun i hi hl => ?_)
    · rw [cmps_get (by omega)]
      have := h2 i hi
      rw [← cmp2_lt] at this
      simpa using this
    · have hl' : i < L.length := by simpa [cmps] using hl
      rw [cmps_get hl']
      have := h3 i hi hl'
      rw [← cmp2_lt] at this
      simpa using this
  rw [e]
  exact ⟨h1, h2, fun i a b => by simpa using h3 i a b⟩
theorem put_ok {next : Int} {f : Fil} {x : Opn} (h : FOk next f) (hn : 1 ≤ next) (hx : openE x.ac x.sh = 0) (ho : oldE f x = 0) : FOk (next + 1) (putO f x next) := by
  have h9 : ∀ y ∈ f.op, cfl x y = false := by
    intro y hy
    unfold oldE at ho
    split at ho
    · exact absurd ho (by decide)
    · split at ho
      · exact absurd ho (by decide)
      · rename_i h8
        rw [Bool.not_eq_true, List.any_eq_false] at h8
        simpa using h8 y hy
  refine ⟨h.rf, by simp [putO], fun o ho => ?_, fun o ho => ?_, ?_, ?_, ?_⟩
  · rcases List.mem_append.1 ho with h1 | h1
    · have := h.hd o h1; omega
    · rw [List.mem_singleton.1 h1]
      show 1 ≤ next ∧ next ≤ next + 1 - 1
      omega
  · rcases List.mem_append.1 ho with h1 | h1
    · exact h.op o h1
    · rw [List.mem_singleton.1 h1]
      exact ⟨hx, fun k hk => (by cases hk), by simp⟩
  · refine List.pairwise_append.2 ⟨h.hs, List.pairwise_singleton _ _, fun a ha b hb => ?_⟩
    rw [List.mem_singleton.1 hb]
    have := h.hd a ha
    show a.hd < next
    omega
  · refine List.pairwise_append.2 ⟨h.cf, List.pairwise_singleton _ _, fun a ha b hb => ?_⟩
    rw [List.mem_singleton.1 hb, cfl_comm]
    exact h9 a ha
  · show ((f.op ++ [_]).flatMap Opn.lk).Pairwise _
    rw [List.flatMap_append]
    simpa using h.lk
theorem new_ok {next rc sq : Int} {x : Opn} (hn : 1 ≤ next) (hr : refE rc sq = 0) (hx : openE x.ac x.sh = 0) : FOk (next + 1) (putO ⟨rc, sq, false, []⟩ x next) := by
  refine ⟨hr, by simp [putO], fun o ho => ?_, fun o ho => ?_, List.pairwise_singleton _ _, List.pairwise_singleton _ _, by simp [putO]⟩
  · rw [List.mem_singleton.1 ho]
    show 1 ≤ next ∧ next ≤ next + 1 - 1
    omega
  · rw [List.mem_singleton.1 ho]
    exact ⟨hx, fun k hk => (by cases hk), by simp⟩
theorem refLt_tri {a b : Int × Int} (h1 : refLt a b = false) (h2 : a ≠ b) : refLt b a = true := by
  obtain ⟨a1, a2⟩ := a
  obtain ⟨b1, b2⟩ := b
  unfold refLt at *
  simp only [Bool.or_eq_false_iff, Bool.and_eq_false_iff, decide_eq_false_iff_not, Bool.or_eq_true, Bool.and_eq_true, decide_eq_true_eq, ne_eq, Prod.mk.injEq, not_and] at *
  omega
theorem bsF_iff {next : Int} {L : List Fil} {rc sq : Int} (h : Ok next L) : bsF' (cmps L rc sq) = true ↔ bsL (cmps L rc sq) < L.length ∧ ((nth L (bsL (cmps L rc sq))).rc, (nth L (bsL (cmps L rc sq))).sq) = (rc, sq) := by
  unfold bsF'
  rw [Bool.and_eq_true, decide_eq_true_eq, decide_eq_true_eq]
  have e : (cmps L rc sq).length = L.length := by simp [cmps]
  constructor
  · rintro ⟨h1, h2⟩
    rw [e] at h1
    rw [cmps_get h1, cmp2_eq] at h2
    exact ⟨h1, h2⟩
  · rintro ⟨h1, h2⟩
    refine ⟨by rw [e]; exact h1, ?_⟩
    rw [cmps_get h1, cmp2_eq]
    exact h2
theorem not_at {next : Int} {L : List Fil} {rc sq : Int} (h : Ok next L) (hn : ¬ bsF' (cmps L rc sq) = true) : ∀ f ∈ L, (f.rc, f.sq) ≠ (rc, sq) := by
  intro f hf he
  obtain ⟨i, hi, e⟩ := List.getElem_of_mem hf
  have e2 : nth L i = f := nth_eq (by rw [List.getElem?_eq_getElem hi, e])
  obtain ⟨p1, p2, p3⟩ := place_spec (rc := rc) (sq := sq) h
  have irr : refLt (rc, sq) (rc, sq) = false := by simp [refLt]
  rcases Nat.lt_trichotomy i (bsL (cmps L rc sq)) with h1 | h1 | h1
  · have := p2 i h1
    rw [e2, he, irr] at this
    cases this
  · exact hn ((bsF_iff h).2 ⟨by omega, by rw [← h1, e2]; exact he⟩)
  · have hp : bsL (cmps L rc sq) < L.length := by omega
    have h4 := List.pairwise_iff_getElem.1 h.sr (bsL (cmps L rc sq)) i hp hi h1
    have e3 : nth L (bsL (cmps L rc sq)) = L[bsL (cmps L rc sq)] := nth_eq (by rw [List.getElem?_eq_getElem hp])
    rw [← e3, e, he] at h4
    rw [p3 _ (Nat.le_refl _) hp] at h4
    cases h4
theorem cnt_ins {L : List Fil} {i : Nat} {f : Fil} : cntT (insAt L i f) = cntT L + f.op.length := by
  have h : cntT L = cntT (L.take i) + cntT (L.drop i) := by rw [← cntT_app, List.take_append_drop]
  rw [insAt, cntT_app, cntT_cons, h]
  omega
theorem nth_mem_take {α : Type} [Inhabited α] {l : List α} {i : Nat} {y : α} (h : y ∈ l.take i) : ∃ j, j < i ∧ j < l.length ∧ nth l j = y := by
  obtain ⟨j, hj, e⟩ := List.getElem_of_mem h
  rw [List.length_take] at hj
  refine ⟨j, by omega, by omega, nth_eq ?_⟩
  rw [List.getElem_take] at e
  rw [List.getElem?_eq_getElem (by omega), e]
theorem nth_mem_drop {α : Type} [Inhabited α] {l : List α} {i : Nat} {y : α} (h : y ∈ l.drop i) : ∃ j, i ≤ j ∧ j < l.length ∧ nth l j = y := by
  obtain ⟨j, hj, e⟩ := List.getElem_of_mem h
  rw [List.length_drop] at hj
  refine ⟨i + j, by omega, by omega, nth_eq ?_⟩
  rw [List.getElem_drop] at e
  rw [List.getElem?_eq_getElem (by omega), e]
theorem pw_ins {α : Type} {R : α → α → Prop} {l : List α} {i : Nat} {x : α} (h : l.Pairwise R) (h1 : ∀ y ∈ l.take i, R y x) (h2 : ∀ y ∈ l.drop i, R x y) : (insAt l i x).Pairwise R := by
  rw [← List.take_append_drop i l, List.pairwise_append] at h
  unfold insAt
  refine List.pairwise_append.2 ⟨h.1, List.pairwise_cons.2 ⟨h2, h.2.1⟩, fun a ha b hb => ?_⟩
  rcases List.mem_cons.1 hb with rfl | hb
  · exact h1 a ha
  · exact h.2.2 a ha b hb
theorem open_ok {next : Int} {L : List Fil} {rc sq : Int} {x : Opn} (hk : Ok next L) : Ok (openT next L rc sq x).2.1 (openT next L rc sq x).1 := by
  unfold openT
  split
  · rename_i hz
    obtain ⟨z1, z2, z3, z4⟩ := opnE_pos hz
    have hk' := hk.mono (next' := next + 1) (by omega)
    split
    · rename_i hb
      obtain ⟨hi, he⟩ := (bsF_iff hk).1 hb
      split
      · rename_i ho
        have hf := put_ok (nth_Ok hk hi) hk.nx.1 z2 ho
        refine ⟨hk'.nx, ?_, fun g hg => ?_, ?_, ?_⟩
        · have := cnt_set (L := L) (f := putO (nth L (bsL (cmps L rc sq))) x next) hi
          have e : (putO (nth L (bsL (cmps L rc sq))) x next).op.length = (nth L (bsL (cmps L rc sq))).op.length + 1 := by simp [putO]
          show cntT (L.set (bsL (cmps L rc sq)) (putO (nth L (bsL (cmps L rc sq))) x next)) ≤ 32
          omega
        · rcases mem_set_or hg with rfl | h9
          · exact hf
          · exact hk'.fl g h9
        · exact pw_map_set (g := fun f : Fil => (f.rc, f.sq)) (R := fun a b => refLt a b = true) rfl hk.sr
        · refine pw_set hk.ds (fun y hy hR o ho p hp => ?_) (fun y hy hR o ho p hp => ?_)
          · rcases List.mem_append.1 hp with h1 | h1
            · exact hR o ho p h1
            · have := (hk.fl y hy).hd o ho
              rw [List.mem_singleton.1 h1]
              show o.hd ≠ next
              omega
          · rcases List.mem_append.1 ho with h1 | h1
            · exact hR o h1 p hp
            · have := (hk.fl y hy).hd p hp
              rw [List.mem_singleton.1 h1]
              show next ≠ p.hd
              omega
      · exact hk
    · rename_i hb
      have hna := not_at hk hb
      obtain ⟨p1, p2, p3⟩ := place_spec (rc := rc) (sq := sq) hk
      refine ⟨hk'.nx, ?_, fun g hg => ?_, ?_, ?_⟩
      · show cntT (insAt _ _ _) ≤ 32
        rw [cnt_ins]
        show cntT L + 1 ≤ 32
        omega
      · rcases ins_le g hg with rfl | h9
        · exact new_ok hk.nx.1 z1 z2
        · exact hk'.fl g h9
      · refine pw_ins hk.sr (fun y hy => ?_) (fun y hy => ?_)
        · obtain ⟨j, h1, h2, rfl⟩ := nth_mem_take hy
          exact p2 j h1
        · obtain ⟨j, h1, h2, rfl⟩ := nth_mem_drop hy
          exact refLt_tri (p3 j h1 h2) (hna _ (mem_nth h2))
      · refine pw_ins hk.ds (fun y hy o ho p hp => ?_) (fun y hy o ho p hp => ?_)
        · have := (hk.fl y (List.mem_of_mem_take hy)).hd o ho
          rw [List.mem_singleton.1 hp]
          show o.hd ≠ next
          omega
        · have := (hk.fl y (List.mem_of_mem_drop hy)).hd p hp
          rw [List.mem_singleton.1 ho]
          show next ≠ p.hd
          omega
  · exact hk
theorem doT_ok {next : Int} {L : List Fil} {a : HAct} (hk : Ok next L) : Ok (doT next L a).2.1 (doT next L a).1 := by
  unfold doT
  by_cases h0 : a.kd = 0
  · rw [if_pos h0]; exact open_ok hk
  rw [if_neg h0]
  by_cases h1 : a.kd = 1
  · rw [if_pos h1]; exact close_ok hk
  rw [if_neg h1]
  by_cases h2 : a.kd = 2
  · rw [if_pos h2]; exact mark_ok hk
  rw [if_neg h2]
  by_cases h3 : a.kd = 3
  · rw [if_pos h3]; exact lock_ok hk
  rw [if_neg h3]
  by_cases h4 : a.kd = 4
  · rw [if_pos h4]; exact unlock_ok hk
  rw [if_neg h4]
  repeat' split
  all_goals exact hk
end Go.Proofs

namespace Go.Proofs
open Go Go.RowKit Gx
set_option linter.unusedVariables false
set_option linter.unusedSimpArgs false
attribute [local irreducible] Go.Calls Gx.S Gx.O Gx.D Gx.OpP Gx.OpQ Gx.OpH

theorem sl_22 : tsl Try.prog 22 = some (44, 9, 72) := by kernel_rfl
theorem sz_44 : tsz Try.prog 44 = some (9, true) := by kernel_rfl
theorem zr_44 : tzero Try.prog 44 = some [.int .i64 0, .int .i64 0, .int .i64 0, .int .i64 0, .int .i64 0, .int .i64 0, .int .i64 0, .int .i64 0, .bool false] := by kernel_rfl
theorem zr_26 : tzero Try.prog 26 = some [.int .i64 0, .slice none 0 0] := by kernel_rfl
theorem pl_26 : tplaces Try.prog 26 = some [(0, 1), (1, 1)] := by kernel_rfl
theorem fn_46 : isFn Try.prog 46 = true := by kernel_rfl
theorem pl_106 : tplaces Try.prog 106 = some [(0, 2)] := by kernel_rfl
theorem zr_106 : tzero Try.prog 106 = some [.int .i64 0, .slice none 0 0] := by kernel_rfl
theorem fn_50 : isFn Try.prog 50 = true := by kernel_rfl
theorem sl_27 : tsl Try.prog 27 = some (40, 2, 16) := by kernel_rfl


def kindE (a : HAct) : Int := if 0 ≤ a.kd ∧ a.kd ≤ 6 then 0 else 15
def runE (l : List HAct) : Int := if 100 < l.length then 8 else (eachF (l.map kindE) 0).2
def stepT (s : (List Fil × Int) × List (Int × Int)) (a : HAct) : (List Fil × Int) × List (Int × Int) :=
  (((doT s.1.2 s.1.1 a).1, (doT s.1.2 s.1.1 a).2.1), s.2 ++ [((doT s.1.2 s.1.1 a).2.2.2, (doT s.1.2 s.1.1 a).2.2.1)])
def runS (l : List HAct) : (List Fil × Int) × List (Int × Int) := l.foldl stepT (([], 1), [])
def runR (l : List HAct) : (List Fil × Int) × List (Int × Int) := if runE l = 0 then runS l else (([], 0), [])
def ansV (p : Int × Int) : List Value := [.int .i64 p.1, .int .i64 p.2]
theorem runS_ok (l : List HAct) : Ok (runS l).1.2 (runS l).1.1 := by
  suffices h : ∀ (l : List HAct) (s : (List Fil × Int) × List (Int × Int)), Ok s.1.2 s.1.1 → Ok (l.foldl stepT s).1.2 (l.foldl stepT s).1.1 from h l _ Ok.nil
  intro l
  induction l with
  | nil => exact fun s h => h
  | cons a l ih => exact fun s h => ih _ (doT_ok h)
theorem runS_succ {l : List HAct} {k : Nat} (h : k < l.length) : runS (l.take (k + 1)) = stepT (runS (l.take k)) (nth l k) := by
  unfold runS
  rw [take_succ_nth h, List.foldl_append]
  rfl
theorem runS_len (l : List HAct) : (runS l).2.length = l.length := by
  suffices h : ∀ (l : List HAct) (s : (List Fil × Int) × List (Int × Int)), (l.foldl stepT s).2.length = s.2.length + l.length from by
    have := h l (([], 1), [])
    unfold runS
    rw [this]
    simp
  intro l
  induction l with
  | nil => intro s; rfl
  | cons a l ih =>
    intro s
    rw [List.foldl_cons, ih]
    simp [stepT]
    omega
theorem HS.files_none {w0 w : World} {M : List Nat} {As : List HA} (h : HS w0 M As w) : HS w0 M (.files none 0 [] :: As) w := HS.row_shut (n := 0) (xs := []) (h.star_nil.own_nil 77 4) rfl rfl
theorem runE_big {l : List HAct} (h : 100 < l.length) : runE l = 8 := by rw [runE, if_pos h]
theorem runE_sm {l : List HAct} (h : ¬ 100 < l.length) : runE l = (eachF (l.map kindE) 0).2 := by rw [runE, if_neg h]
theorem runR_0 {l : List HAct} (h : runE l = 0) : runR l = runS l := by rw [runR, if_pos h]
theorem runR_e {l : List HAct} (h : ¬ runE l = 0) : runR l = (([], 0), []) := by rw [runR, if_neg h]

set_option maxRecDepth 20000 in
theorem c46 (w : World) (a : Option Addr) (cap : Nat) (l : List HAct) (q : Nat) (cv : Array Value) (es : List Int) (hs : Rw HAct.vals 9 w [] a l) (hm : l.length ≤ 1000000) (hq : isFn Try.prog q = true) (he : es.length = l.length) (hc : ∀ k w1, k < l.length → (∀ j, j < k → es.getD j 0 = 0) → HS w [] [] w1 → Calls Try.prog q (#[] ++ [.int .i64 (k : Int), .agg (HAct.vals (nth l k)).toArray].toArray ++ cv) w1 fun en w2 => en = .returned (.int .i64 (es.getD k 0)) ∧ Below w1.heap.size w1 w2) : Calls Try.prog 46 #[.slice a l.length cap, .func (.func q) #[] cv] w fun en w' => en = .returned (.tuple #[.int .i64 (eachF es 0).1, .int .i64 (eachF es 0).2]) ∧ Below w.heap.size w w' := by
  refine enter (args := [_, _]) Try.func46 Try.ntmps46 rfl rfl (HS.refl w []) ?_
  refine s_seq ?_
  refine s_region ?_
  refine o_p (p_pure rfl) rfl ?_
  refine o_p (p_pure rfl) rfl ?_
  refine o_nil ?_
  refine s_seq ?_
  refine s_seq ?_
  refine s_region ?_
  refine o_p (p_pure rfl) rfl ?_
  first | refine o_p (p_len_slice rfl rfl Try.underlying22) rfl ?_ | refine o_q (q_len_own rfl rfl Try.underlying22 (by repeat (first | exact .here | apply Pick.there))) rfl ?_
  refine o_p (p_pure rfl) rfl ?_
  refine o_nil ?_
  refine s_block ?_
  refine s_loopI (α := Nat) [4, 5, 6, 7, 8, 11, 12, 13, 14, 15, 16, 17, 18, 19, 20, 21, 22, 23, 24] (fun k => [(11, .int .i64 (k : Int))]) (fun _ => HS w [] []) (fun k => k ≤ l.length ∧ eachF es 0 = eachF (es.drop k) k ∧ ∀ j, j < k → es.getD j 0 = 0) (fun k => l.length - k) 0 ⟨by omega, rfl, fun i h => absurd h (Nat.not_lt_zero i)⟩ (by repeat (first | exact sl_n | refine sl_c rfl ?_)) (fun w h => h.ent (by repeat (first | exact .nil | refine .cons (by repeat (first | exact .here | apply Pick.there)) ?_))) (fun k hk => ?_)
  obtain ⟨hk1, hk2, hk3⟩ := hk
  refine s_seq ?_
  refine s_region ?_
  refine o_p (p_pure rfl) rfl ?_
  refine o_nil ?_
  refine s_seq ?_
  refine s_cond rfl (fun h1 => ?_) (fun h1 => ?_)
  · try simp only [decide_eq_true_eq, decide_eq_false_iff_not, Bool.not_eq_true', Bool.not_eq_false', Bool.and_eq_true, Bool.or_eq_true, Bool.and_eq_false_iff, Bool.or_eq_false_iff, Bool.not_true, Bool.not_false] at h1
    refine s_skip ?_
    refine s_seq ?_
    refine s_block ?_
    refine s_seq ?_
    refine s_region ?_
    refine o_p (p_pure rfl) rfl ?_
    first | refine o_p (p_indexAddr rfl rfl rfl sl_22 (k) (by omega) (by omega) rfl) rfl ?_ | refine o_p (p_indexAddr rfl rfl rfl sl_22 (k) (by omega) (by omega) (Rw.some hs (by omega))) rfl ?_
    first | refine o_q (q_loadn rfl rfl sz_44 (by repeat (first | exact .here | apply Pick.there)) rfl) rfl ?_ | refine o_q (q_load_oldn _ rfl rfl sz_44 rfl (Rw.rd hs (by omega))) rfl ?_ | refine o_q (q_load_oldn _ rfl rfl sz_44 (hs.rdj 0 (by omega) rfl)) rfl ?_
    refine o_h (h_alloc rfl zr_44) rfl (fun b2 _ => ?_)
    refine o_p (p_pure rfl) rfl ?_
    refine o_h0 (h_store rfl rfl rfl sz_44 rfl (by repeat (first | exact .here | apply Put.there)) (by simp only [setMany_length, List.length_set, List.length_cons, List.length_nil, List.length_map]; omega) rfl) (fun _ _ => ?_)
    refine o_nil ?_
    refine s_seq ?_
    refine s_region ?_
    refine o_p (p_pure rfl) rfl ?_
    refine o_p (p_pure rfl) rfl ?_
    first | refine o_q (q_loadn rfl rfl sz_44 (by repeat (first | exact .here | apply Pick.there)) rfl) rfl ?_ | refine o_q (q_load_oldn _ rfl rfl sz_44 rfl (Rw.rd hs (by omega))) rfl ?_ | refine o_q (q_load_oldn _ rfl rfl sz_44 (hs.rdj 0 (by omega) rfl)) rfl ?_
    refine o_q (q_callv rfl rfl hq rfl (fun w1 h1 => hc k w1 (by omega) hk3 (h1.ent (by repeat (first | exact .nil | refine .cons (by repeat (first | exact .here | apply Pick.there)) ?_))))) rfl ?_
    refine o_p (p_pure rfl) rfl ?_
    refine o_nil ?_
    refine s_seq ?_
    refine s_region ?_
    refine o_p (p_pure rfl) rfl ?_
    refine o_p (p_pure rfl) rfl ?_
    refine o_nil ?_
    refine s_cond rfl (fun h3 => ?_) (fun h3 => ?_)
    · try simp only [decide_eq_true_eq, decide_eq_false_iff_not, Bool.not_eq_true', Bool.not_eq_false', Bool.and_eq_true, Bool.or_eq_true, Bool.and_eq_false_iff, Bool.or_eq_false_iff, Bool.not_true, Bool.not_false] at h3
      refine s_seq ?_
      refine s_region ?_
      refine o_p (p_pure rfl) rfl ?_
      refine o_p (p_pure rfl) rfl ?_
      refine o_p (p_pure rfl) rfl ?_
      refine o_p (p_pure rfl) rfl ?_
      refine o_nil ?_
      exact s_retv (rs := [.tmp 4, .tmp 5]) rfl (.tmp rfl (.tmp rfl (.nil))) (fun w' h' => ⟨by simp only [retV]; rw [hk2, eachF_drop (by omega), if_neg (by assumption)], h'.below⟩)
    · try simp only [decide_eq_true_eq, decide_eq_false_iff_not, Bool.not_eq_true', Bool.not_eq_false', Bool.and_eq_true, Bool.or_eq_true, Bool.and_eq_false_iff, Bool.or_eq_false_iff, Bool.not_true, Bool.not_false] at h3
      refine s_skip ?_
      refine s_blk ?_
      refine s_region ?_
      refine o_p (p_pure rfl) rfl ?_
      try (refine o_slot (i64w (by omega) (by omega)) ?_)
      refine o_p (p_pure rfl) rfl ?_
      refine o_nil ?_
      exact s_backI (k+1) (by omega) ⟨by omega, by rw [hk2, eachF_drop (by omega), if_pos (by assumption)], fun j hj => (Nat.lt_or_ge j k).elim (hk3 j) (fun h => by obtain rfl : j = k := (by omega); assumption)⟩ (by repeat (first | exact sl_n | refine sl_c rfl ?_)) (fun w h => h.ent (by repeat (first | exact .nil | refine .cons (by repeat (first | exact .here | apply Pick.there)) ?_)))
  · try simp only [decide_eq_true_eq, decide_eq_false_iff_not, Bool.not_eq_true', Bool.not_eq_false', Bool.and_eq_true, Bool.or_eq_true, Bool.and_eq_false_iff, Bool.or_eq_false_iff, Bool.not_true, Bool.not_false] at h1
    refine s_exit_to rfl ?_
    refine s_seq ?_
    refine s_region ?_
    refine o_p (p_pure rfl) rfl ?_
    refine o_p (p_pure rfl) rfl ?_
    refine o_nil ?_
    exact s_retv (rs := [.tmp 4, .tmp 5]) rfl (.tmp rfl (.tmp rfl (.nil))) (fun w' h' => ⟨by simp only [retV]; rw [hk2, eachF_end (by omega)], h'.below⟩)

set_option maxRecDepth 20000 in
theorem c47 (w : World) (i : Int) (a9 : HAct) : Calls Try.prog 47 #[.int .i64 i, .agg #[.int .i64 a9.kd, .int .i64 a9.hd, .int .i64 a9.ac, .int .i64 a9.sh, .int .i64 a9.fr, .int .i64 a9.cnt, .int .i64 a9.rc, .int .i64 a9.sq, .bool a9.fl]] w fun en w' => en = .returned (.int .i64 (kindE a9)) ∧ Below w.heap.size w w' := by
  refine enter (args := [_, _]) Try.func47 Try.ntmps47 rfl rfl (HS.refl w []) ?_
  refine s_seq ?_
  refine s_region ?_
  refine o_h (h_box rfl rfl) rfl (fun b1 _ => ?_)
  refine o_p (p_pure rfl) rfl ?_
  refine o_nil ?_
  refine s_seq ?_
  refine s_region ?_
  refine o_p (p_fieldAddr rfl rfl fd_44_0 sz_3 rfl) rfl ?_
  refine o_q (q_load rfl rfl sz_3 (by repeat (first | exact .here | apply Pick.there)) rfl) rfl ?_
  refine o_q (q_call rfl fn_49 rfl (fun w1 h1 => c49 w1 _ _ _)) rfl ?_
  refine o_q (q_call rfl fn_48 rfl (fun w1 h1 => c48 w1 _ _)) rfl ?_
  refine o_p (p_pure rfl) rfl ?_
  refine o_nil ?_
  exact s_retv (rs := [.tmp 4]) rfl (.tmp rfl (.nil)) (fun w' h' => ⟨by simp only [retV, kindE, cond_eq_ite, Bool.and_eq_true, decide_eq_true_eq], h'.below⟩)

set_option maxRecDepth 20000 in
set_option maxHeartbeats 1000000 in
theorem c12 (w : World) (a : Option Addr) (cap : Nat) (l : List HAct) (hs : Rw HAct.vals 9 w [] a l) (hm : l.length ≤ 1000000) : Calls Try.prog 12 #[.slice a l.length cap] w fun en w' => ∃ g : ((Option Addr × Nat) × List LFil) × (Option Addr × Nat), en = .returned (.tuple #[.agg #[.int .i64 (runR l).1.2, .slice g.1.1.1 g.1.2.length g.1.1.2], .slice g.2.1 (runR l).2.length g.2.2, .int .i64 (runE l)]) ∧ pls g.1.2 = (runR l).1.1 ∧ HS w [] [.files g.1.1.1 g.1.1.2 g.1.2, .own (.slice g.2.1 (runR l).2.length g.2.2) 40 2 (runR l).2.length ((runR l).2.flatMap ansV)] w' := by
  refine enter (args := [_]) Try.func12 Try.ntmps12 rfl rfl (HS.refl w []) ?_
  refine s_seq ?_
  refine s_region ?_
  refine o_h (h_alloc rfl zr_26) rfl (fun b1 _ => ?_)
  refine o_p (p_pure rfl) rfl ?_
  refine o_p (p_pure rfl) rfl ?_
  refine o_nil ?_
  refine s_seq ?_
  refine s_seq ?_
  refine s_region ?_
  refine o_p (p_pure rfl) rfl ?_
  first | refine o_p (p_len_slice rfl rfl Try.underlying22) rfl ?_ | refine o_q (q_len_own rfl rfl Try.underlying22 (by repeat (first | exact .here | apply Pick.there))) rfl ?_
  refine o_p (p_pure rfl) rfl ?_
  refine o_nil ?_
  refine s_cond rfl (fun h2 => ?_) (fun h2 => ?_)
  · try simp only [decide_eq_true_eq, decide_eq_false_iff_not, Bool.not_eq_true', Bool.not_eq_false', Bool.and_eq_true, Bool.or_eq_true, Bool.and_eq_false_iff, Bool.or_eq_false_iff, Bool.not_true, Bool.not_false] at h2
    have hbig : 100 < l.length := by have hq := h2; omega
    refine s_seq ?_
    refine s_region ?_
    refine o_p (p_build (cs := [_, _]) rfl rfl pl_26 zr_26 rfl) rfl ?_
    refine o_h0 (h_store rfl rfl rfl sz_26 rfl (by repeat (first | exact .here | apply Put.there)) (by simp only [setMany_length, List.length_set, List.length_cons, List.length_nil, List.length_map]; omega) rfl) (fun _ _ => ?_)
    refine o_p (p_pure rfl) rfl ?_
    refine o_p (p_pure rfl) rfl ?_
    refine o_nil ?_
    exact s_retv (rs := [.cell 2 26, .tmp 3, .tmp 4]) rfl (.cell rfl sz_26 (by repeat (first | exact .here | apply Pick.there)) rfl (.tmp rfl (.tmp rfl (.nil)))) (fun w' h' => ⟨(((none, 0), []), (none, 0)), by rw [runR_e (by rw [runE_big hbig]; decide)]; rw [runE_big hbig]; rfl, by rw [runR_e (by rw [runE_big hbig]; decide)]; rfl, by rw [runR_e (by rw [runE_big hbig]; decide)]; exact ((HS.files_none h').own_nil 40 2).ent (by repeat (first | exact .nil | refine .cons (by repeat (first | exact .here | apply Pick.there)) ?_))⟩)
  · try simp only [decide_eq_true_eq, decide_eq_false_iff_not, Bool.not_eq_true', Bool.not_eq_false', Bool.and_eq_true, Bool.or_eq_true, Bool.and_eq_false_iff, Bool.or_eq_false_iff, Bool.not_true, Bool.not_false] at h2
    have hbig : ¬ 100 < l.length := by have hq := h2; omega
    refine s_skip ?_
    refine s_seq ?_
    refine s_seq ?_
    refine s_region ?_
    refine o_p (p_pure rfl) rfl ?_
    refine o_q (q_call rfl fn_46 rfl (fun w1 h1 => c46 w1 a cap l 47 #[] (l.map kindE) (hs.later h1) hm (by kernel_rfl) (by simp) (fun k w2 hk _ h2 => by rw [map_getD_nth hk]; exact c47 w2 _ _))) rfl ?_
    refine o_p (p_pure rfl) rfl ?_
    refine o_p (p_pure rfl) rfl ?_
    refine o_p (p_pure rfl) rfl ?_
    refine o_p (p_pure rfl) rfl ?_
    refine o_p (p_pure rfl) rfl ?_
    refine o_nil ?_
    refine s_seq ?_
    refine s_region ?_
    refine o_p (p_pure rfl) rfl ?_
    refine o_p (p_pure rfl) rfl ?_
    refine o_nil ?_
    refine s_cond rfl (fun h3 => ?_) (fun h3 => ?_)
    · try simp only [decide_eq_true_eq, decide_eq_false_iff_not, Bool.not_eq_true', Bool.not_eq_false', Bool.and_eq_true, Bool.or_eq_true, Bool.and_eq_false_iff, Bool.or_eq_false_iff, Bool.not_true, Bool.not_false] at h3
      have hke : ¬ (eachF (l.map kindE) 0).2 = 0 := h3
      refine s_seq ?_
      refine s_region ?_
      refine o_p (p_build (cs := [_, _]) rfl rfl pl_26 zr_26 rfl) rfl ?_
      refine o_p (p_pure rfl) rfl ?_
      refine o_h0 (h_store rfl rfl rfl sz_26 rfl (by repeat (first | exact .here | apply Put.there)) (by simp only [setMany_length, List.length_set, List.length_cons, List.length_nil, List.length_map]; omega) rfl) (fun _ _ => ?_)
      refine o_p (p_pure rfl) rfl ?_
      refine o_p (p_pure rfl) rfl ?_
      refine o_nil ?_
      exact s_retv (rs := [.cell 2 26, .tmp 3, .tmp 4]) rfl (.cell rfl sz_26 (by repeat (first | exact .here | apply Pick.there)) rfl (.tmp rfl (.tmp rfl (.nil)))) (fun w' h' => ⟨(((none, 0), []), (none, 0)), by rw [runR_e (by rw [runE_sm hbig]; exact hke)]; rw [runE_sm hbig]; rfl, by rw [runR_e (by rw [runE_sm hbig]; exact hke)]; rfl, by rw [runR_e (by rw [runE_sm hbig]; exact hke)]; exact ((HS.files_none h').own_nil 40 2).ent (by repeat (first | exact .nil | refine .cons (by repeat (first | exact .here | apply Pick.there)) ?_))⟩)
    · try simp only [decide_eq_true_eq, decide_eq_false_iff_not, Bool.not_eq_true', Bool.not_eq_false', Bool.and_eq_true, Bool.or_eq_true, Bool.and_eq_false_iff, Bool.or_eq_false_iff, Bool.not_true, Bool.not_false] at h3
      have hke : (eachF (l.map kindE) 0).2 = 0 := h3
      have hrz : runE l = 0 := by rw [runE_sm hbig]; exact hke
      refine s_skip ?_
      refine s_seq ?_
      refine s_region ?_
      refine o_p (p_build (cs := [_, _]) rfl rfl pl_26 zr_26 rfl) rfl ?_
      refine o_p (p_build (cs := [_, _]) rfl rfl pl_106 zr_106 rfl) rfl ?_
      refine o_h (h_box rfl rfl) rfl (fun b4 _ => ?_)
      refine o_p (p_pure rfl) rfl ?_
      refine o_nil ?_
      refine s_seq ?_
      refine s_region ?_
      refine o_p (p_pure rfl) rfl ?_
      refine o_nil ?_
      refine s_seq ?_
      refine s_seq ?_
      refine s_region ?_
      refine o_p (p_pure rfl) rfl ?_
      first | refine o_p (p_len_slice rfl rfl Try.underlying22) rfl ?_ | refine o_q (q_len_own rfl rfl Try.underlying22 (by repeat (first | exact .here | apply Pick.there))) rfl ?_
      refine o_p (p_pure rfl) rfl ?_
      refine o_nil ?_
      refine s_block ?_
      refine s_weaken (L' := [(2, _), (3, _), (4, _), (7, _), (8, _), (27, _), (28, _), (29, _)]) (by repeat (first | exact sl_n | refine sl_c rfl ?_)) (fun _ h => h) ?_
      refine s_loopI (α := Nat × ((Option Addr × Nat) × List LFil) × (Option Addr × Nat)) [8, 10, 29, 30, 31, 32, 33, 34, 35, 36, 37, 38, 39] (fun y => [(29, .int .i64 (y.1 : Int)), (8, .slice y.2.2.1 y.1 y.2.2.2)]) (fun y => HS w [] [.blk b4 106 2 [.int .i64 (runS (l.take y.1)).1.2, .slice y.2.1.1.1 y.2.1.2.length y.2.1.1.2], .files y.2.1.1.1 y.2.1.1.2 y.2.1.2, .own (.slice y.2.2.1 y.1 y.2.2.2) 40 2 y.1 ((runS (l.take y.1)).2.flatMap ansV), .blk b1 26 2 [.int .i64 0, .slice none 0 0]]) (fun y => y.1 ≤ l.length ∧ pls y.2.1.2 = (runS (l.take y.1)).1.1) (fun y => l.length - y.1) (0, ((none, 0), []), (none, 0)) ⟨Nat.zero_le _, rfl⟩ (by repeat (first | exact sl_n | refine sl_c rfl ?_)) (fun w h => ((HS.files_none h).own_nil 40 2).ent (by repeat (first | exact .nil | refine .cons (by repeat (first | exact .here | apply Pick.there)) ?_))) (fun ⟨k, x, o⟩ hk => ?_)
      dsimp only at hk ⊢
      obtain ⟨hk1, hk2⟩ := hk
      refine s_seq ?_
      refine s_region ?_
      refine o_p (p_pure rfl) rfl ?_
      refine o_nil ?_
      refine s_seq ?_
      refine s_cond rfl (fun h5 => ?_) (fun h5 => ?_)
      · try simp only [decide_eq_true_eq, decide_eq_false_iff_not, Bool.not_eq_true', Bool.not_eq_false', Bool.and_eq_true, Bool.or_eq_true, Bool.and_eq_false_iff, Bool.or_eq_false_iff, Bool.not_true, Bool.not_false] at h5
        have hkl : k < l.length := by omega
        have hok := runS_ok (l.take k)
        have hnx := hok.nx
        rw [← hk2] at hok
        have hvw := hok.vw
        have e : runS (l.take (k + 1)) = (((doT (runS (l.take k)).1.2 (pls x.2) (nth l k)).1, (doT (runS (l.take k)).1.2 (pls x.2) (nth l k)).2.1), (runS (l.take k)).2 ++ [((doT (runS (l.take k)).1.2 (pls x.2) (nth l k)).2.2.2, (doT (runS (l.take k)).1.2 (pls x.2) (nth l k)).2.2.1)]) := by rw [runS_succ hkl, stepT, ← hk2]
        have e3 : (runS (l.take (k + 1))).2.flatMap ansV = (runS (l.take k)).2.flatMap ansV ++ [.int .i64 (doT (runS (l.take k)).1.2 (pls x.2) (nth l k)).2.2.2, .int .i64 (doT (runS (l.take k)).1.2 (pls x.2) (nth l k)).2.2.1] := by rw [e, flat_append]; rfl
        refine s_skip ?_
        refine s_seq ?_
        refine s_block ?_
        refine s_seq ?_
        refine s_region ?_
        first | refine o_p (p_indexAddr rfl rfl rfl sl_22 (k) (by omega) (by omega) rfl) rfl ?_ | refine o_p (p_indexAddr rfl rfl rfl sl_22 (k) (by omega) (by omega) (Rw.some hs (by omega))) rfl ?_
        first | refine o_q (q_loadn rfl rfl sz_44 (by repeat (first | exact .here | apply Pick.there)) rfl) rfl ?_ | refine o_q (q_load_oldn _ rfl rfl sz_44 rfl (Rw.rd hs hkl)) rfl ?_
        refine o_h (h_alloc rfl zr_44) rfl (fun b6 _ => ?_)
        refine o_h0 (h_store rfl rfl rfl sz_44 rfl (by repeat (first | exact .here | apply Put.there)) (by simp only [setMany_length, List.length_set, List.length_cons, List.length_nil, List.length_map]; omega) rfl) (fun _ _ => ?_)
        refine o_nil ?_
        refine s_region ?_
        refine o_p (p_pure rfl) rfl ?_
        refine o_p (p_pure rfl) rfl ?_
        first | refine o_q (q_loadn rfl rfl sz_44 (by repeat (first | exact .here | apply Pick.there)) rfl) rfl ?_ | refine o_q (q_load_oldn _ rfl rfl sz_44 rfl (Rw.rd hs hkl)) rfl ?_
        refine o_h (h_callF (Cs := [.blk b4 106 2 [.int .i64 (runS (l.take k)).1.2, .slice x.1.1 x.2.length x.1.2], .files x.1.1 x.1.2 x.2]) rfl fn_50 rfl (by repeat (first | exact Picks.nil | (apply Picks.cons; · (repeat (first | exact .here | apply Pick.there))))) (fun w1 h1 hf => c50 w1 b4 _ x.1.1 x.1.2 x.2 (nth l k) hf hvw (by omega))) rfl (fun gz hgz => ?_)
        refine o_h (h_buildSlice (cs := [_, _]) rfl rfl sl_27 zr_40 rfl rfl rfl) rfl (fun b7 _ => ?_)
        refine o_h (h_appendS (n := k) (ansV ((doT (runS (l.take k)).1.2 (pls x.2) (nth l k)).2.2.2, (doT (runS (l.take k)).1.2 (pls x.2) (nth l k)).2.2.1)) rfl rfl rfl sl_27 Try.underlying27 zr_40 rfl (by repeat (first | exact .here | apply Pick.there)) (src_blk (by repeat (first | exact .here | apply Pick.there))) rfl (by intro u hu; simp only [ansV, List.mem_cons, List.mem_nil_iff, or_false] at hu; rcases hu with rfl | rfl <;> rfl) (by omega) (by simp only [maxLen]; omega)) rfl (fun b8 _ => ?_)
        refine o_p (p_pure rfl) rfl ?_
        refine o_nil ?_
        refine s_blk ?_
        refine s_region ?_
        refine o_p (p_pure rfl) rfl ?_
        try (refine o_slot (i64w (by omega) (by omega)) ?_)
        refine o_p (p_pure rfl) rfl ?_
        refine o_nil ?_
        exact s_backI (k + 1, gz, b8) (by show l.length - (k + 1) < l.length - k; omega) ⟨by show k + 1 ≤ l.length; omega, by show pls gz.2 = (runS (l.take (k + 1))).1.1; rw [hgz, e]⟩ (by repeat (first | exact sl_n | refine sl_c rfl ?_)) (fun w h => by dsimp only; rw [e3]; rw [e]; exact h.ent (by repeat (first | exact .nil | refine .cons (by repeat (first | exact .here | apply Pick.there)) ?_)))
      · try simp only [decide_eq_true_eq, decide_eq_false_iff_not, Bool.not_eq_true', Bool.not_eq_false', Bool.and_eq_true, Bool.or_eq_true, Bool.and_eq_false_iff, Bool.or_eq_false_iff, Bool.not_true, Bool.not_false] at h5
        obtain rfl : k = l.length := by omega
        rw [List.take_length]
        rw [List.take_length] at hk2
        refine s_exit_to rfl ?_
        refine s_seq ?_
        refine s_region ?_
        refine o_p (p_pure rfl) rfl ?_
        refine o_p (p_pure rfl) rfl ?_
        refine o_p (p_fieldAddr rfl rfl fd_106_0 sz_26 rfl) rfl ?_
        first | refine o_q (q_loadn rfl rfl sz_26 (by repeat (first | exact .here | apply Pick.there)) rfl) rfl ?_ | refine o_q (q_load_oldn _ rfl rfl sz_26 rfl (Rw.rd hs hkl)) rfl ?_
        refine o_p (p_pure rfl) rfl ?_
        refine o_h0 (h_store rfl rfl rfl sz_26 rfl (by repeat (first | exact .here | apply Put.there)) (by simp only [setMany_length, List.length_set, List.length_cons, List.length_nil, List.length_map]; omega) rfl) (fun _ _ => ?_)
        refine o_p (p_pure rfl) rfl ?_
        refine o_p (p_pure rfl) rfl ?_
        refine o_nil ?_
        exact s_retv (rs := [.cell 2 26, .tmp 3, .tmp 4]) rfl (.cell rfl sz_26 (by repeat (first | exact .here | apply Pick.there)) rfl (.tmp rfl (.tmp rfl (.nil)))) (fun w' h' => ⟨(x, o), by rw [runR_0 hrz, hrz, runS_len]; rfl, by rw [runR_0 hrz]; exact hk2, by rw [runR_0 hrz, runS_len]; exact h'.ent (by repeat (first | exact .nil | refine .cons (by repeat (first | exact .here | apply Pick.there)) ?_))⟩)

end Go.Proofs

namespace Go.Proofs
open Go Go.RowKit Gx
set_option linter.unusedVariables false
set_option linter.unusedSimpArgs false
attribute [local irreducible] Go.Calls Gx.S Gx.O Gx.D Gx.OpP Gx.OpQ Gx.OpH

theorem eqk_40 : teqk Try.prog 40 = some [0, 0] := by kernel_rfl
theorem pl_42 : tplaces Try.prog 42 = some [(0, 1), (1, 1)] := by kernel_rfl
theorem zr_42 : tzero Try.prog 42 = some [.int .i64 0, .int .i64 0] := by kernel_rfl
theorem pl_44 : tplaces Try.prog 44 = some [(0, 1), (1, 1), (2, 1), (3, 1), (4, 1), (5, 1), (6, 2), (8, 1)] := by kernel_rfl
theorem fn_12 : isFn Try.prog 12 = true := by kernel_rfl
theorem pl_40 : tplaces Try.prog 40 = some [(0, 1), (1, 1)] := by kernel_rfl
theorem fn_15 : isFn Try.prog 15 = true := by kernel_rfl


def awkL : List HAct := [⟨0, 0, 1, 1, 0, 0, 20, 1, false⟩, ⟨0, 0, 2, 7, 0, 0, 20, 1, false⟩, ⟨1, 1, 0, 0, 0, 0, 0, 0, false⟩, ⟨0, 0, 3, 7, 0, 0, 20, 1, false⟩, ⟨3, 2, 0, 0, 0, 10, 0, 0, false⟩, ⟨6, 2, 0, 0, 5, 1, 0, 0, false⟩]
def awkA : List (Int × Int) := [(0, 1), (28, 0), (0, 0), (0, 2), (0, 0), (29, 0)]
theorem awk_E : runE awkL = 0 := by decide +kernel
theorem awk_A : (runR awkL).2 = awkA := by decide +kernel
theorem awk_N : (runR awkL).1.2 = 3 := by decide +kernel
theorem awk_L : (runR awkL).1.1.length = 1 := by decide +kernel
theorem y12 (w : World) (a : Option Addr) (cap : Nat) (hs : Rw HAct.vals 9 w [] a awkL) : Calls Try.prog 12 #[.slice a 6 cap] w fun en w' => ∃ g : (Option Addr × Nat) × (Option Addr × Nat), en = .returned (.tuple #[.agg #[.int .i64 3, .slice g.1.1 1 g.1.2], .slice g.2.1 6 g.2.2, .int .i64 0]) ∧ True ∧ HS w [] [.own (.slice g.2.1 6 g.2.2) 40 2 6 (awkA.flatMap ansV)] w' := by
  refine Calls.mono (c12 w a cap awkL hs (by decide)) fun en w' hh => ?_
  obtain ⟨g, rfl, hp, h⟩ := hh
  have hl : g.1.2.length = 1 := by
    have h9 := congrArg List.length hp
    rw [awk_L] at h9
    simpa using h9
  rw [awk_E, awk_N, awk_A, hl]
  rw [awk_A] at h
  exact ⟨(g.1.1, g.2), rfl, trivial, h.ent (by repeat (first | exact .nil | refine .cons (by repeat (first | exact .here | apply Pick.there)) ?_))⟩

set_option maxRecDepth 20000 in
theorem c15 (w : World) (a b : Option Addr) (ca cb : Nat) (l : List (Int × Int)) (ha : Rw ansV 2 w [] a l) (hb : Rw ansV 2 w [] b l) (hm : l.length ≤ 1000000) : Calls Try.prog 15 #[.slice a l.length ca, .slice b l.length cb] w fun en w' => en = .returned (.bool true) ∧ Below w.heap.size w w' := by
  refine enter (args := [_, _]) Try.func15 Try.ntmps15 rfl rfl (HS.refl w []) ?_
  refine s_seq ?_
  refine s_region ?_
  refine o_p (p_pure rfl) rfl ?_
  refine o_nil ?_
  refine s_seq ?_
  refine s_seq ?_
  refine s_region ?_
  refine o_p (p_pure rfl) rfl ?_
  first | refine o_p (p_len_slice rfl rfl Try.underlying27) rfl ?_ | refine o_q (q_len_own rfl rfl Try.underlying27 (by repeat (first | exact .here | apply Pick.there))) rfl ?_
  refine o_p (p_pure rfl) rfl ?_
  first | refine o_p (p_len_slice rfl rfl Try.underlying27) rfl ?_ | refine o_q (q_len_own rfl rfl Try.underlying27 (by repeat (first | exact .here | apply Pick.there))) rfl ?_
  refine o_p (p_pure rfl) rfl ?_
  refine o_nil ?_
  refine s_cond rfl (fun h1 => ?_) (fun h1 => ?_)
  · try simp only [decide_eq_true_eq, decide_eq_false_iff_not, Bool.not_eq_true', Bool.not_eq_false', Bool.and_eq_true, Bool.or_eq_true, Bool.and_eq_false_iff, Bool.or_eq_false_iff, Bool.not_true, Bool.not_false] at h1
    exfalso; first | omega | (simp at h1; done) | (simp_all; done)
  · try simp only [decide_eq_true_eq, decide_eq_false_iff_not, Bool.not_eq_true', Bool.not_eq_false', Bool.and_eq_true, Bool.or_eq_true, Bool.and_eq_false_iff, Bool.or_eq_false_iff, Bool.not_true, Bool.not_false] at h1
    refine s_skip ?_
    refine s_seq ?_
    refine s_seq ?_
    refine s_region ?_
    refine o_p (p_pure rfl) rfl ?_
    refine o_nil ?_
    refine s_block ?_
    refine s_loopI (α := Nat) [4, 5, 11, 12, 13, 14, 15, 16, 17, 18, 19, 20, 21, 22, 23, 24, 25] (fun k => [(5, .int .i64 (k : Int))]) (fun _ => HS w [] []) (fun k => k ≤ l.length) (fun k => l.length - k) 0 (Nat.zero_le _) (by repeat (first | exact sl_n | refine sl_c rfl ?_)) (fun w h => h.ent (by repeat (first | exact .nil | refine .cons (by repeat (first | exact .here | apply Pick.there)) ?_))) (fun k hk => ?_)
    refine s_seq ?_
    refine s_seq ?_
    refine s_region ?_
    refine o_p (p_pure rfl) rfl ?_
    refine o_p (p_pure rfl) rfl ?_
    first | refine o_p (p_len_slice rfl rfl Try.underlying27) rfl ?_ | refine o_q (q_len_own rfl rfl Try.underlying27 (by repeat (first | exact .here | apply Pick.there))) rfl ?_
    refine o_p (p_pure rfl) rfl ?_
    refine o_nil ?_
    refine s_cond rfl (fun h2 => ?_) (fun h2 => ?_)
    · try simp only [decide_eq_true_eq, decide_eq_false_iff_not, Bool.not_eq_true', Bool.not_eq_false', Bool.and_eq_true, Bool.or_eq_true, Bool.and_eq_false_iff, Bool.or_eq_false_iff, Bool.not_true, Bool.not_false] at h2
      have hkl : k < l.length := by omega
      refine s_skip ?_
      refine s_seq ?_
      refine s_block ?_
      refine s_seq ?_
      refine s_draw [] mixed ?_
      refine d_p 0 rfl (p_pure rfl) (by kernel_rfl) rfl rfl ?_
      refine d_p 1 rfl (p_pure rfl) (by kernel_rfl) rfl rfl ?_
      first | refine d_p 2 rfl (p_indexAddr rfl rfl rfl sl_27 (k) (by omega) (by omega) rfl) (by kernel_rfl) rfl rfl ?_ | refine d_p 2 rfl (p_indexAddr rfl rfl rfl sl_27 (k) (by omega) (by omega) (Rw.some ha (by omega))) (by kernel_rfl) rfl rfl ?_ | refine d_p 2 rfl (p_indexAddr rfl rfl rfl sl_27 (k) (by omega) (by omega) (Rw.some hb (by omega))) (by kernel_rfl) rfl rfl ?_
      first | refine d_q 3 [] rfl (q_loadn rfl rfl sz_40 (by repeat (first | exact .here | apply Pick.there)) rfl) (by kernel_rfl) (by kernel_rfl) (by kernel_rfl) rfl ?_ | refine d_q 3 [] rfl (q_load_oldn _ rfl rfl sz_40 rfl (Rw.rd ha hkl)) (by kernel_rfl) (by kernel_rfl) (by kernel_rfl) rfl ?_ | refine d_q 3 [] rfl (q_load_oldn _ rfl rfl sz_40 rfl (Rw.rd hb hkl)) (by kernel_rfl) (by kernel_rfl) (by kernel_rfl) rfl ?_
      refine d_p 4 rfl (p_pure rfl) (by kernel_rfl) rfl rfl ?_
      refine d_p 5 rfl (p_pure rfl) (by kernel_rfl) rfl rfl ?_
      first | refine d_p 6 rfl (p_indexAddr rfl rfl rfl sl_27 (k) (by omega) (by omega) rfl) (by kernel_rfl) rfl rfl ?_ | refine d_p 6 rfl (p_indexAddr rfl rfl rfl sl_27 (k) (by omega) (by omega) (Rw.some ha (by omega))) (by kernel_rfl) rfl rfl ?_ | refine d_p 6 rfl (p_indexAddr rfl rfl rfl sl_27 (k) (by omega) (by omega) (Rw.some hb (by omega))) (by kernel_rfl) rfl rfl ?_
      first | refine d_q 7 [] rfl (q_loadn rfl rfl sz_40 (by repeat (first | exact .here | apply Pick.there)) rfl) (by kernel_rfl) (by kernel_rfl) (by kernel_rfl) rfl ?_ | refine d_q 7 [] rfl (q_load_oldn _ rfl rfl sz_40 rfl (Rw.rd ha hkl)) (by kernel_rfl) (by kernel_rfl) (by kernel_rfl) rfl ?_ | refine d_q 7 [] rfl (q_load_oldn _ rfl rfl sz_40 rfl (Rw.rd hb hkl)) (by kernel_rfl) (by kernel_rfl) (by kernel_rfl) rfl ?_
      refine d_p 8 rfl (p_neq_agg rfl rfl rfl eqk_40 (by rfl) (by rfl) (by rfl)) (by kernel_rfl) rfl rfl ?_
      refine d_nil (by kernel_rfl) (fun w h => h.ent (by repeat (first | exact .nil | refine .cons (by repeat (first | exact .here | apply Pick.there)) ?_))) ?_
      refine s_cond rfl (fun h3 => ?_) (fun h3 => ?_)
      · try simp only [decide_eq_true_eq, decide_eq_false_iff_not, Bool.not_eq_true', Bool.not_eq_false', Bool.and_eq_true, Bool.or_eq_true, Bool.and_eq_false_iff, Bool.or_eq_false_iff, Bool.not_true, Bool.not_false] at h3
        exfalso; first | omega | (simp at h3; done) | (simp_all; done)
      · try simp only [decide_eq_true_eq, decide_eq_false_iff_not, Bool.not_eq_true', Bool.not_eq_false', Bool.and_eq_true, Bool.or_eq_true, Bool.and_eq_false_iff, Bool.or_eq_false_iff, Bool.not_true, Bool.not_false] at h3
        refine s_skip ?_
        refine s_blk ?_
        refine s_region ?_
        refine o_p (p_pure rfl) rfl ?_
        refine o_p (p_pure rfl) rfl ?_
        try (refine o_slot (i64w (by omega) (by omega)) ?_)
        refine o_p (p_pure rfl) rfl ?_
        refine o_nil ?_
        exact s_backI (k + 1) (by omega) (by omega) (by repeat (first | exact sl_n | refine sl_c rfl ?_)) (fun w h => h.ent (by repeat (first | exact .nil | refine .cons (by repeat (first | exact .here | apply Pick.there)) ?_)))
    · try simp only [decide_eq_true_eq, decide_eq_false_iff_not, Bool.not_eq_true', Bool.not_eq_false', Bool.and_eq_true, Bool.or_eq_true, Bool.and_eq_false_iff, Bool.or_eq_false_iff, Bool.not_true, Bool.not_false] at h2
      refine s_exit_to rfl ?_
      refine s_seq ?_
      refine s_region ?_
      refine o_p (p_pure rfl) rfl ?_
      refine o_nil ?_
      exact s_retv (rs := [.tmp 4]) rfl (.tmp rfl (.nil)) (fun w' h' => ⟨rfl, h'.below⟩)

set_option maxRecDepth 20000 in
theorem c11 (w : World)  : Calls Try.prog 11 #[] w fun en w' => en = .returned (.bool true) ∧ Below w.heap.size w w' := by
  refine enter (args := []) Try.func11 Try.ntmps11 rfl rfl (HS.refl w []) ?_
  refine s_seq ?_
  refine s_region ?_
  refine o_p (p_pure rfl) rfl ?_
  refine o_nil ?_
  refine s_seq ?_
  refine s_region ?_
  refine o_p (p_build (cs := [_, _]) rfl rfl pl_42 zr_42 rfl) rfl ?_
  refine o_h (h_alloc rfl zr_42) rfl (fun b1 _ => ?_)
  refine o_h0 (h_store rfl rfl rfl sz_42 rfl (by repeat (first | exact .here | apply Put.there)) (by simp only [setMany_length, List.length_set, List.length_cons, List.length_nil, List.length_map]; omega) rfl) (fun _ _ => ?_)
  refine o_nil ?_
  refine s_seq ?_
  refine s_region ?_
  refine o_q (q_loadn rfl rfl sz_42 (by repeat (first | exact .here | apply Pick.there)) rfl) rfl ?_
  refine o_p (p_build (cs := [_, _, _, _, _, _, _, _, _]) rfl rfl pl_44 zr_44 rfl) rfl ?_
  refine o_q (q_loadn rfl rfl sz_42 (by repeat (first | exact .here | apply Pick.there)) rfl) rfl ?_
  refine o_p (p_build (cs := [_, _, _, _, _, _, _, _, _]) rfl rfl pl_44 zr_44 rfl) rfl ?_
  refine o_p (p_build (cs := [_, _, _, _, _, _, _, _, _]) rfl rfl pl_44 zr_44 rfl) rfl ?_
  refine o_q (q_loadn rfl rfl sz_42 (by repeat (first | exact .here | apply Pick.there)) rfl) rfl ?_
  refine o_p (p_build (cs := [_, _, _, _, _, _, _, _, _]) rfl rfl pl_44 zr_44 rfl) rfl ?_
  refine o_p (p_build (cs := [_, _, _, _, _, _, _, _, _]) rfl rfl pl_44 zr_44 rfl) rfl ?_
  refine o_p (p_build (cs := [_, _, _, _, _, _, _, _, _]) rfl rfl pl_44 zr_44 rfl) rfl ?_
  refine o_h (h_buildSlice (cs := [_, _, _, _, _, _, _, _, _, _, _, _, _, _, _, _, _, _, _, _, _, _, _, _, _, _, _, _, _, _, _, _, _, _, _, _, _, _, _, _, _, _, _, _, _, _, _, _, _, _, _, _, _, _]) rfl rfl sl_22 zr_44 rfl rfl rfl) rfl (fun b2 _ => ?_)
  refine o_h (h_call rfl fn_12 rfl (fun w1 h1 => y12 w1 _ 6 (h1.rw_blk (l := awkL) hv9 (by repeat (first | exact .here | apply Pick.there))))) rfl (fun b3 _ => ?_)
  refine o_p (p_pure rfl) rfl ?_
  refine o_p (p_pure rfl) rfl ?_
  refine o_p (p_pure rfl) rfl ?_
  refine o_p (p_pure rfl) rfl ?_
  refine o_h (h_alloc rfl zr_26) rfl (fun b4 _ => ?_)
  refine o_h0 (h_store rfl rfl rfl sz_26 rfl (by repeat (first | exact .here | apply Put.there)) (by simp only [setMany_length, List.length_set, List.length_cons, List.length_nil, List.length_map]; omega) rfl) (fun _ _ => ?_)
  refine o_p (p_pure rfl) rfl ?_
  refine o_p (p_pure rfl) rfl ?_
  refine o_nil ?_
  refine s_seq ?_
  refine s_region ?_
  refine o_p (p_pure rfl) rfl ?_
  refine o_p (p_pure rfl) rfl ?_
  refine o_p (p_pure rfl) rfl ?_
  refine o_and 10 23 33 _ _ rfl
    (by
      intro hg5
      have hs6 := hg5; try simp only [decide_eq_true_eq, decide_eq_false_iff_not, Bool.not_eq_true', Bool.not_eq_false', Bool.and_eq_true, Bool.or_eq_true, Bool.and_eq_false_iff, Bool.or_eq_false_iff, Bool.not_true, Bool.not_false] at hs6
      refine o_on 23 _ rfl rfl hg5 ?_
      refine o_p (p_pure rfl) rfl ?_
      refine o_on 23 _ rfl rfl hg5 ?_
      refine o_p (p_build (cs := [_, _]) rfl rfl pl_40 zr_40 rfl) rfl ?_
      refine o_on 23 _ rfl rfl hg5 ?_
      refine o_p (p_build (cs := [_, _]) rfl rfl pl_40 zr_40 rfl) rfl ?_
      refine o_on 23 _ rfl rfl hg5 ?_
      refine o_p (p_build (cs := [_, _]) rfl rfl pl_40 zr_40 rfl) rfl ?_
      refine o_on 23 _ rfl rfl hg5 ?_
      refine o_p (p_build (cs := [_, _]) rfl rfl pl_40 zr_40 rfl) rfl ?_
      refine o_on 23 _ rfl rfl hg5 ?_
      refine o_p (p_build (cs := [_, _]) rfl rfl pl_40 zr_40 rfl) rfl ?_
      refine o_on 23 _ rfl rfl hg5 ?_
      refine o_p (p_build (cs := [_, _]) rfl rfl pl_40 zr_40 rfl) rfl ?_
      refine o_on 23 _ rfl rfl hg5 ?_
      refine o_h (h_buildSlice (cs := [_, _, _, _, _, _, _, _, _, _, _, _]) rfl rfl sl_27 zr_40 rfl rfl rfl) rfl (fun b7 _ => ?_)
      refine o_on 23 _ rfl rfl hg5 ?_
      refine o_q (q_call rfl fn_15 rfl (fun w1 h1 => c15 w1 _ _ _ _ awkA (h1.rw_own (vals := ansV) (fun _ => rfl) (by repeat (first | exact .here | apply Pick.there)) rfl) (h1.rw_blk (vals := ansV) (fun _ => rfl) (by repeat (first | exact .here | apply Pick.there))) (by decide))) rfl ?_
      refine o_p (p_pickt rfl rfl hg5 rfl) rfl ?_
      refine o_nil ?_
      exact s_joinN 10 33 _ rfl rfl rfl (fun w h => by first | exact h | exact h.ent (by repeat (first | exact .nil | refine .cons (by repeat (first | exact .here | apply Pick.there)) ?_))))
    (by
      intro hg8
      have hs9 := hg8; try simp only [decide_eq_true_eq, decide_eq_false_iff_not, Bool.not_eq_true', Bool.not_eq_false', Bool.and_eq_true, Bool.or_eq_true, Bool.and_eq_false_iff, Bool.or_eq_false_iff, Bool.not_true, Bool.not_false] at hs9
      refine o_off 23 _ rfl rfl hg8 rfl ?_
      refine o_off 23 _ rfl rfl hg8 rfl ?_
      refine o_off 23 _ rfl rfl hg8 rfl ?_
      refine o_off 23 _ rfl rfl hg8 rfl ?_
      refine o_off 23 _ rfl rfl hg8 rfl ?_
      refine o_off 23 _ rfl rfl hg8 rfl ?_
      refine o_off 23 _ rfl rfl hg8 rfl ?_
      refine o_off 23 _ rfl rfl hg8 rfl ?_
      refine o_off 23 _ rfl rfl hg8 rfl ?_
      refine o_p (p_pickf rfl rfl hg8 rfl) rfl ?_
      refine o_nil ?_
      exact s_joinN 10 33 _ rfl rfl rfl (fun w h => by first | exact h | exact h.ent (by repeat (first | exact .nil | refine .cons (by repeat (first | exact .here | apply Pick.there)) ?_)))) ?_
  refine o_p (p_pure rfl) rfl ?_
  refine o_and 4 34 38 _ _ rfl
    (by
      intro hg10
      have hs11 := hg10; try simp only [decide_eq_true_eq, decide_eq_false_iff_not, Bool.not_eq_true', Bool.not_eq_false', Bool.and_eq_true, Bool.or_eq_true, Bool.and_eq_false_iff, Bool.or_eq_false_iff, Bool.not_true, Bool.not_false] at hs11
      refine o_on 34 _ rfl rfl hg10 ?_
      refine o_p (p_fieldAddr rfl rfl fd_26_0 sz_3 rfl) rfl ?_
      refine o_on 34 _ rfl rfl hg10 ?_
      refine o_q (q_load rfl rfl sz_3 (by repeat (first | exact .here | apply Pick.there)) rfl) rfl ?_
      refine o_on 34 _ rfl rfl hg10 ?_
      refine o_p (p_pure rfl) rfl ?_
      refine o_p (p_pickt rfl rfl hg10 rfl) rfl ?_
      refine o_nil ?_
      exact s_joinN 4 38 _ rfl rfl rfl (fun w h => by first | exact h | exact h.ent (by repeat (first | exact .nil | refine .cons (by repeat (first | exact .here | apply Pick.there)) ?_))))
    (by
      intro hg12
      have hs13 := hg12; try simp only [decide_eq_true_eq, decide_eq_false_iff_not, Bool.not_eq_true', Bool.not_eq_false', Bool.and_eq_true, Bool.or_eq_true, Bool.and_eq_false_iff, Bool.or_eq_false_iff, Bool.not_true, Bool.not_false] at hs13
      refine o_off 34 _ rfl rfl hg12 rfl ?_
      refine o_off 34 _ rfl rfl hg12 rfl ?_
      refine o_off 34 _ rfl rfl hg12 rfl ?_
      refine o_p (p_pickf rfl rfl hg12 rfl) rfl ?_
      refine o_nil ?_
      exact s_joinN 4 38 _ rfl rfl rfl (fun w h => by first | exact h | exact h.ent (by repeat (first | exact .nil | refine .cons (by repeat (first | exact .here | apply Pick.there)) ?_)))) ?_
  refine o_p (p_pure rfl) rfl ?_
  refine o_and 5 39 44 _ _ rfl
    (by
      intro hg14
      have hs15 := hg14; try simp only [decide_eq_true_eq, decide_eq_false_iff_not, Bool.not_eq_true', Bool.not_eq_false', Bool.and_eq_true, Bool.or_eq_true, Bool.and_eq_false_iff, Bool.or_eq_false_iff, Bool.not_true, Bool.not_false] at hs15
      refine o_on 39 _ rfl rfl hg14 ?_
      refine o_p (p_fieldAddr rfl rfl fd_26_1 sz_24 rfl) rfl ?_
      refine o_on 39 _ rfl rfl hg14 ?_
      refine o_q (q_load rfl rfl sz_24 (by repeat (first | exact .here | apply Pick.there)) rfl) rfl ?_
      refine o_on 39 _ rfl rfl hg14 ?_
      first | refine o_p (p_len_slice rfl rfl Try.underlying24) rfl ?_ | refine o_q (q_len_own rfl rfl Try.underlying24 (by repeat (first | exact .here | apply Pick.there))) rfl ?_
      refine o_on 39 _ rfl rfl hg14 ?_
      refine o_p (p_pure rfl) rfl ?_
      refine o_p (p_pickt rfl rfl hg14 rfl) rfl ?_
      refine o_nil ?_
      exact s_joinN 5 44 _ rfl rfl rfl (fun w h => by first | exact h | exact h.ent (by repeat (first | exact .nil | refine .cons (by repeat (first | exact .here | apply Pick.there)) ?_))))
    (by
      intro hg16
      have hs17 := hg16; try simp only [decide_eq_true_eq, decide_eq_false_iff_not, Bool.not_eq_true', Bool.not_eq_false', Bool.and_eq_true, Bool.or_eq_true, Bool.and_eq_false_iff, Bool.or_eq_false_iff, Bool.not_true, Bool.not_false] at hs17
      refine o_off 39 _ rfl rfl hg16 rfl ?_
      refine o_off 39 _ rfl rfl hg16 rfl ?_
      refine o_off 39 _ rfl rfl hg16 rfl ?_
      refine o_off 39 _ rfl rfl hg16 rfl ?_
      refine o_p (p_pickf rfl rfl hg16 rfl) rfl ?_
      refine o_nil ?_
      exact s_joinN 5 44 _ rfl rfl rfl (fun w h => by first | exact h | exact h.ent (by repeat (first | exact .nil | refine .cons (by repeat (first | exact .here | apply Pick.there)) ?_)))) ?_
  refine o_p (p_pure rfl) rfl ?_
  refine o_nil ?_
  exact s_retv (rs := [.tmp 0]) rfl (.tmp rfl (.nil)) (fun w' h' => ⟨rfl, h'.below⟩)

end Go.Proofs

namespace Go.Proofs
open Go Go.RowKit Gx
set_option linter.unusedVariables false
set_option linter.unusedSimpArgs false
attribute [local irreducible] Go.Calls Gx.S Gx.O Gx.D Gx.OpP Gx.OpQ Gx.OpH

theorem fn_69 : isFn Try.prog 69 = true := by kernel_rfl
theorem eqk_42 : teqk Try.prog 42 = some [0, 0] := by kernel_rfl


def lksE (l : List Lock) : Int := if 16 < l.length then 8 else rngsE l
def rngEs (l : List Lock) : List Int := l.map fun k => rngE k.fr k.cnt
theorem rngEs_get {l : List Lock} {k : Nat} (h : k < l.length) : (rngEs l).getD k 0 = rngE (nth l k).fr (nth l k).cnt := map_getD_nth h
theorem rngEs_len (l : List Lock) : (rngEs l).length = l.length := by simp [rngEs]
theorem lockedE_drop {held lk : List Lock} {i : Nat} (hi : i < lk.length) : lockedE held (lk.drop i) = if held.any (clsh · (nth lk i)) = true then 29 else lockedE (held ++ [nth lk i]) (lk.drop (i + 1)) := by
  rw [drop_nth hi, lockedE]
/-- Of the handles up to k of a file: no lock clashes with q, of handle k itself the first i. -/
def noCl (ops : List LOpn) (k i n m : Nat) (q : Lock) : Prop := ∀ n2 m2, n2 < ops.length → m2 < (nth ops n2).lk.length → (n2 < n ∨ n2 = n ∧ m2 < m) → n2 ≤ k → (n2 < k ∨ m2 < i) → clsh q (nth (nth ops n2).lk m2) = false
theorem held_mem {ops : List LOpn} {k i : Nat} (hk : k < ops.length) {x : Lock} : x ∈ ((plo ops).take k).flatMap Opn.lk ++ (nth ops k).lk.take i ↔ ∃ n2 m2, n2 < ops.length ∧ m2 < (nth ops n2).lk.length ∧ n2 ≤ k ∧ (n2 < k ∨ m2 < i) ∧ nth (nth ops n2).lk m2 = x := by
  rw [List.mem_append, List.mem_flatMap]
  constructor
  · rintro (⟨o, ho, hx⟩ | hx)
    · obtain ⟨j, hj, hl, rfl⟩ := nth_mem_take ho
      have hl' : j < ops.length := by simpa using hl
      rw [nth_plo hl'] at hx
      obtain ⟨m, hm, e⟩ := List.getElem_of_mem hx
      exact ⟨j, m, hl', hm, by omega, .inl hj, nth_eq (by rw [← e]; exact List.getElem?_eq_getElem hm)⟩
    · obtain ⟨m, h1, h2, h3⟩ := nth_mem_take hx
      exact ⟨k, m, hk, h2, Nat.le_refl _, .inr h1, h3⟩
  · rintro ⟨n2, m2, h1, h2, h3, h4, rfl⟩
    by_cases h : n2 < k
    · refine .inl ⟨(nth ops n2).pl, ?_, mem_nth h2⟩
      have e : nth ((plo ops).take k) n2 = (nth ops n2).pl := by rw [nth_take h, nth_plo h1]
      rw [← e]
      exact mem_nth (by rw [List.length_take, List.length_map]; omega)
    · obtain rfl : n2 = k := by omega
      refine .inr ?_
      have hm : m2 < i := by omega
      have e : nth ((nth ops n2).lk.take i) m2 = nth (nth ops n2).lk m2 := nth_take hm
      rw [← e]
      exact mem_nth (by rw [List.length_take]; omega)
theorem noCl_all {ops : List LOpn} {k i n : Nat} {q : Lock} (hk : k < ops.length) (hn : k < n) (h : noCl ops k i n 0 q) : (((plo ops).take k).flatMap Opn.lk ++ (nth ops k).lk.take i).any (clsh · q) = false := by
  rw [List.any_eq_false]
  intro x hx
  obtain ⟨n2, m2, h1, h2, h3, h4, rfl⟩ := (held_mem hk).1 hx
  have := h n2 m2 h1 h2 (.inl (by omega)) h3 h4
  rw [clsh_comm]
  simpa using this
theorem noCl_hit {ops : List LOpn} {k i n m : Nat} {q : Lock} (hk : k < ops.length) (hn : n < ops.length) (hm : m < (nth ops n).lk.length) (hnk : n ≤ k) (hw : n < k ∨ m < i) (h : clsh q (nth (nth ops n).lk m) = true) : (((plo ops).take k).flatMap Opn.lk ++ (nth ops k).lk.take i).any (clsh · q) = true := by
  rw [List.any_eq_true]
  exact ⟨_, (held_mem hk).2 ⟨n, m, hn, hm, hnk, hw, rfl⟩, by rw [clsh_comm]; exact h⟩
def fdI (L : List Fil) (h : Int) : Int × Int := if (findF L h 0).2.2 = 0 then (((findF L h 0).1 : Int), ((findF L h 0).2.1 : Int)) else (-1, -1)
def atB (L : List Fil) (rc sq : Int) : List Bool := L.map fun f => decide (f.rc = rc) && decide (f.sq = sq)
theorem findF_hit {L : List LFil} {h : Int} {i k : Nat} (hi : i < L.length) (hk : k < (nth L i).op.length) (hb : ∀ j, j < k → (nth (nth L i).op j).hd ≠ h) (he : (nth (nth L i).op k).hd = h) : ixO (nth (pls L) i).op h = k := by
  rw [nth_pls hi]
  unfold ixO LFil.pl
  rw [List.map_map]
  refine ixB_eq (by rw [List.length_map]; omega) (fun j hj => ?_) (fun _ => ?_)
  · rw [map_getD_nthB (by omega)]
    exact decide_eq_false (hb j hj)
  · rw [map_getD_nthB hk]
    exact decide_eq_true he
theorem findF_miss {L : List LFil} {h : Int} {i : Nat} (hi : i < L.length) (hb : ∀ j, j < (nth L i).op.length → (nth (nth L i).op j).hd ≠ h) : ¬ ixO (nth (pls L) i).op h < (nth (pls L) i).op.length := by
  rw [nth_pls hi]
  have e : ixO (nth L i).pl.op h = (nth L i).op.length := by
    unfold ixO LFil.pl
    rw [List.map_map]
    refine ixB_eq (by rw [List.length_map]; exact Nat.le_refl _) (fun j hj => ?_) (fun h9 => by rw [List.length_map] at h9; omega)
    rw [map_getD_nthB (by omega)]
    exact decide_eq_false (hb j hj)
  rw [e]
  simp [LFil.pl]

set_option maxRecDepth 20000 in
theorem c98 (w : World) (o : LOpn) (hk : Kt w [] o.la o.lk) : Calls Try.prog 98 #[.agg #[.int .i64 o.hd, .int .i64 o.ac, .int .i64 o.sh, .bool o.dl, .slice o.la o.lk.length o.lc]] w fun en w' => en = .returned (.int .i64 (lksE o.lk)) ∧ Below w.heap.size w w' := by
  have hel := rngEs_len o.lk
  refine enter (args := [_]) Try.func98 Try.ntmps98 rfl rfl (HS.refl w []) ?_
  refine s_seq ?_
  refine s_region ?_
  refine o_h (h_box rfl rfl) rfl (fun b1 _ => ?_)
  refine o_p (p_pure rfl) rfl ?_
  refine o_nil ?_
  refine s_seq ?_
  refine s_seq ?_
  refine s_region ?_
  refine o_p (p_fieldAddr rfl rfl fd_48_4 sz_46 rfl) rfl ?_
  first | refine o_q (q_load rfl rfl sz_46 (by repeat (first | exact .here | apply Pick.there)) rfl) rfl ?_ | refine o_q (q_load_old rfl rfl sz_46 ((Rw.rdj hk 0 hkl rfl))) rfl ?_ | refine o_q (q_load_old rfl rfl sz_46 ((Rw.rdj hk 1 hkl rfl))) rfl ?_
  first | refine o_p (p_len_slice rfl rfl Try.underlying46) rfl ?_ | refine o_q (q_len_own rfl rfl Try.underlying46 (by repeat (first | exact .here | apply Pick.there))) rfl ?_
  refine o_p (p_pure rfl) rfl ?_
  refine o_nil ?_
  refine s_cond rfl (fun h2 => ?_) (fun h2 => ?_)
  · try simp only [decide_eq_true_eq, decide_eq_false_iff_not, Bool.not_eq_true', Bool.not_eq_false', Bool.and_eq_true, Bool.or_eq_true, Bool.and_eq_false_iff, Bool.or_eq_false_iff, Bool.not_true, Bool.not_false] at h2
    refine s_seq ?_
    refine s_region ?_
    refine o_p (p_pure rfl) rfl ?_
    refine o_nil ?_
    exact s_retv (rs := [.tmp 2]) rfl (.tmp rfl (.nil)) (fun w' h' => ⟨by rw [lksE, if_pos (by omega)]; rfl, h'.below⟩)
  · try simp only [decide_eq_true_eq, decide_eq_false_iff_not, Bool.not_eq_true', Bool.not_eq_false', Bool.and_eq_true, Bool.or_eq_true, Bool.and_eq_false_iff, Bool.or_eq_false_iff, Bool.not_true, Bool.not_false] at h2
    have hm : o.lk.length ≤ 16 := by omega
    refine s_skip ?_
    refine s_seq ?_
    refine s_seq ?_
    refine s_region ?_
    refine o_p (p_pure rfl) rfl ?_
    refine o_nil ?_
    refine s_block ?_
    refine s_loopI (α := Nat) [2, 3, 4, 9, 10, 11, 12, 13, 14, 15, 16, 17, 18, 19, 20, 21, 22, 23, 24, 25, 26, 27, 28, 29, 30, 31] (fun k => [(3, .int .i64 (k : Int))]) (fun _ => HS w [] [.blk b1 48 5 o.vals]) (fun k => k ≤ o.lk.length ∧ eachF (rngEs o.lk) 0 = eachF ((rngEs o.lk).drop k) k) (fun k => o.lk.length - k) 0 ⟨by omega, rfl⟩ (by repeat (first | exact sl_n | refine sl_c rfl ?_)) (fun w h => h.ent (by repeat (first | exact .nil | refine .cons (by repeat (first | exact .here | apply Pick.there)) ?_))) (fun k hy => ?_)
    obtain ⟨hk1, hk2⟩ := hy
    refine s_seq ?_
    refine s_seq ?_
    refine s_region ?_
    refine o_p (p_pure rfl) rfl ?_
    refine o_p (p_fieldAddr rfl rfl fd_48_4 sz_46 rfl) rfl ?_
    first | refine o_q (q_load rfl rfl sz_46 (by repeat (first | exact .here | apply Pick.there)) rfl) rfl ?_ | refine o_q (q_load_old rfl rfl sz_46 ((Rw.rdj hk 0 hkl rfl))) rfl ?_ | refine o_q (q_load_old rfl rfl sz_46 ((Rw.rdj hk 1 hkl rfl))) rfl ?_
    first | refine o_p (p_len_slice rfl rfl Try.underlying46) rfl ?_ | refine o_q (q_len_own rfl rfl Try.underlying46 (by repeat (first | exact .here | apply Pick.there))) rfl ?_
    refine o_p (p_pure rfl) rfl ?_
    refine o_nil ?_
    refine s_cond rfl (fun h3 => ?_) (fun h3 => ?_)
    · try simp only [decide_eq_true_eq, decide_eq_false_iff_not, Bool.not_eq_true', Bool.not_eq_false', Bool.and_eq_true, Bool.or_eq_true, Bool.and_eq_false_iff, Bool.or_eq_false_iff, Bool.not_true, Bool.not_false] at h3
      have hkl : k < o.lk.length := by omega
      refine s_skip ?_
      refine s_seq ?_
      refine s_block ?_
      refine s_seq ?_
      refine s_draw [] mixed ?_
      refine d_p 0 rfl (p_fieldAddr rfl rfl fd_48_4 sz_46 rfl) (by kernel_rfl) rfl rfl ?_
      first | refine d_q 1 [] rfl (q_load rfl rfl sz_46 (by repeat (first | exact .here | apply Pick.there)) rfl) (by kernel_rfl) (by kernel_rfl) (by kernel_rfl) rfl ?_ | refine d_q 1 [] rfl (q_load_old rfl rfl sz_46 ((Rw.rdj hk 0 hkl rfl))) (by kernel_rfl) (by kernel_rfl) (by kernel_rfl) rfl ?_ | refine d_q 1 [] rfl (q_load_old rfl rfl sz_46 ((Rw.rdj hk 1 hkl rfl))) (by kernel_rfl) (by kernel_rfl) (by kernel_rfl) rfl ?_
      refine d_p 2 rfl (p_pure rfl) (by kernel_rfl) rfl rfl ?_
      first | refine d_p 3 rfl (p_indexAddr rfl rfl rfl sl_46 (k) (by omega) (by omega) rfl) (by kernel_rfl) rfl rfl ?_ | refine d_p 3 rfl (p_indexAddr rfl rfl rfl sl_46 (k) (by omega) (by omega) (Rw.some hk (by omega))) (by kernel_rfl) rfl rfl ?_
      refine d_p 4 rfl (p_fieldAddr rfl rfl fd_62_0 sz_3 rfl) (by kernel_rfl) rfl rfl ?_
      first | refine d_q 5 [] rfl (q_load rfl rfl sz_3 (by repeat (first | exact .here | apply Pick.there)) rfl) (by kernel_rfl) (by kernel_rfl) (by kernel_rfl) rfl ?_ | refine d_q 5 [] rfl (q_load_old rfl rfl sz_3 ((Rw.rdj hk 0 hkl rfl))) (by kernel_rfl) (by kernel_rfl) (by kernel_rfl) rfl ?_ | refine d_q 5 [] rfl (q_load_old rfl rfl sz_3 ((Rw.rdj hk 1 hkl rfl))) (by kernel_rfl) (by kernel_rfl) (by kernel_rfl) rfl ?_
      refine d_p 6 rfl (p_fieldAddr rfl rfl fd_48_4 sz_46 rfl) (by kernel_rfl) rfl rfl ?_
      first | refine d_q 7 [] rfl (q_load rfl rfl sz_46 (by repeat (first | exact .here | apply Pick.there)) rfl) (by kernel_rfl) (by kernel_rfl) (by kernel_rfl) rfl ?_ | refine d_q 7 [] rfl (q_load_old rfl rfl sz_46 ((Rw.rdj hk 0 hkl rfl))) (by kernel_rfl) (by kernel_rfl) (by kernel_rfl) rfl ?_ | refine d_q 7 [] rfl (q_load_old rfl rfl sz_46 ((Rw.rdj hk 1 hkl rfl))) (by kernel_rfl) (by kernel_rfl) (by kernel_rfl) rfl ?_
      refine d_p 8 rfl (p_pure rfl) (by kernel_rfl) rfl rfl ?_
      first | refine d_p 9 rfl (p_indexAddr rfl rfl rfl sl_46 (k) (by omega) (by omega) rfl) (by kernel_rfl) rfl rfl ?_ | refine d_p 9 rfl (p_indexAddr rfl rfl rfl sl_46 (k) (by omega) (by omega) (Rw.some hk (by omega))) (by kernel_rfl) rfl rfl ?_
      refine d_p 10 rfl (p_fieldAddr rfl rfl fd_62_1 sz_3 rfl) (by kernel_rfl) rfl rfl ?_
      first | refine d_q 11 [] rfl (q_load rfl rfl sz_3 (by repeat (first | exact .here | apply Pick.there)) rfl) (by kernel_rfl) (by kernel_rfl) (by kernel_rfl) rfl ?_ | refine d_q 11 [] rfl (q_load_old rfl rfl sz_3 ((Rw.rdj hk 0 hkl rfl))) (by kernel_rfl) (by kernel_rfl) (by kernel_rfl) rfl ?_ | refine d_q 11 [] rfl (q_load_old rfl rfl sz_3 ((Rw.rdj hk 1 hkl rfl))) (by kernel_rfl) (by kernel_rfl) (by kernel_rfl) rfl ?_
      refine d_q 12 [] rfl (q_call rfl fn_69 rfl (fun w1 h1 => c69 w1 _ _)) (by kernel_rfl) (by kernel_rfl) (by kernel_rfl) rfl ?_
      refine d_p 13 rfl (p_pure rfl) (by kernel_rfl) rfl rfl ?_
      refine d_nil (by kernel_rfl) (fun w h => h.ent (by repeat (first | exact .nil | refine .cons (by repeat (first | exact .here | apply Pick.there)) ?_))) ?_
      refine s_seq ?_
      refine s_region ?_
      refine o_p (p_pure rfl) rfl ?_
      refine o_p (p_pure rfl) rfl ?_
      refine o_nil ?_
      refine s_cond rfl (fun h4 => ?_) (fun h4 => ?_)
      · try simp only [decide_eq_true_eq, decide_eq_false_iff_not, Bool.not_eq_true', Bool.not_eq_false', Bool.and_eq_true, Bool.or_eq_true, Bool.and_eq_false_iff, Bool.or_eq_false_iff, Bool.not_true, Bool.not_false] at h4
        refine s_seq ?_
        refine s_region ?_
        refine o_p (p_pure rfl) rfl ?_
        refine o_p (p_pure rfl) rfl ?_
        refine o_nil ?_
        exact s_retv (rs := [.tmp 2]) rfl (.tmp rfl (.nil)) (fun w' h' => ⟨by rw [lksE, if_neg (by omega)]; show _ = Ending.returned (.int .i64 (eachF (rngEs o.lk) 0).2); rw [hk2, eachF_drop (by omega), if_neg (by rw [rngEs_get hkl]; exact h4), rngEs_get hkl]; rfl, h'.below⟩)
      · try simp only [decide_eq_true_eq, decide_eq_false_iff_not, Bool.not_eq_true', Bool.not_eq_false', Bool.and_eq_true, Bool.or_eq_true, Bool.and_eq_false_iff, Bool.or_eq_false_iff, Bool.not_true, Bool.not_false] at h4
        refine s_skip ?_
        refine s_blk ?_
        refine s_region ?_
        refine o_p (p_pure rfl) rfl ?_
        refine o_p (p_pure rfl) rfl ?_
        try (refine o_slot (i64w (by omega) (by omega)) ?_)
        refine o_p (p_pure rfl) rfl ?_
        refine o_nil ?_
        exact s_backI (k + 1) (by omega) ⟨by omega, by rw [hk2, eachF_drop (by omega), if_pos (by rw [rngEs_get hkl]; exact h4)]⟩ (by repeat (first | exact sl_n | refine sl_c rfl ?_)) (fun w h => h.ent (by repeat (first | exact .nil | refine .cons (by repeat (first | exact .here | apply Pick.there)) ?_)))
    · try simp only [decide_eq_true_eq, decide_eq_false_iff_not, Bool.not_eq_true', Bool.not_eq_false', Bool.and_eq_true, Bool.or_eq_true, Bool.and_eq_false_iff, Bool.or_eq_false_iff, Bool.not_true, Bool.not_false] at h3
      refine s_exit_to rfl ?_
      refine s_seq ?_
      refine s_region ?_
      refine o_p (p_pure rfl) rfl ?_
      refine o_nil ?_
      exact s_retv (rs := [.tmp 2]) rfl (.tmp rfl (.nil)) (fun w' h' => ⟨by rw [lksE, if_neg (by omega)]; show _ = Ending.returned (.int .i64 (eachF (rngEs o.lk) 0).2); rw [hk2, eachF_end (by omega)]; rfl, h'.below⟩)

set_option maxRecDepth 20000 in
theorem c34 (w : World) (next : Int) (a : Option Addr) (cap : Nat) (L : List LFil) (hs : Ft w [] a L) (hm : L.length ≤ 1000) (hmo : ∀ f ∈ L, f.op.length ≤ 1000) : Calls Try.prog 34 #[.agg #[.int .i64 next, .slice a L.length cap]] w fun en w' => en = .returned (.int .i64 (cntT (pls L) : Int)) ∧ Below w.heap.size w w' := by
  have hcl := cntT_le hmo L.length (Nat.le_refl _)
  refine enter (args := [_]) Try.func34 Try.ntmps34 rfl rfl (HS.refl w []) ?_
  refine s_seq ?_
  refine s_region ?_
  refine o_h (h_box rfl rfl) rfl (fun b1 _ => ?_)
  refine o_p (p_pure rfl) rfl ?_
  refine o_nil ?_
  refine s_seq ?_
  refine s_region ?_
  refine o_p (p_pure rfl) rfl ?_
  refine o_nil ?_
  refine s_seq ?_
  refine s_seq ?_
  refine s_region ?_
  refine o_p (p_pure rfl) rfl ?_
  refine o_nil ?_
  refine s_block ?_
  refine s_loopI (α := Nat) [3, 4, 5, 6, 7, 8, 9, 10, 11, 12, 13, 14, 15, 16, 17, 18, 19, 20] (fun k => [(4, .int .i64 (k : Int)), (3, .int .i64 (cntT (pls (L.take k)) : Int))]) (fun _ => HS w [] [.blk b1 26 2 [.int .i64 next, .slice a L.length cap]]) (fun k => k ≤ L.length) (fun k => L.length - k) 0 (by simp) (sl_c rfl (sl_c (congrArg (fun e => some (Value.int .i64 e)) (by simp [cntT, pls])) (by repeat (first | exact sl_n | refine sl_c rfl ?_)))) (fun w h => h.ent (by repeat (first | exact .nil | refine .cons (by repeat (first | exact .here | apply Pick.there)) ?_))) (fun k hk => ?_)
  have hck := cntT_le hmo k hk
  refine s_seq ?_
  refine s_seq ?_
  refine s_region ?_
  refine o_p (p_pure rfl) rfl ?_
  refine o_p (p_fieldAddr rfl rfl fd_26_1 sz_24 rfl) rfl ?_
  first | refine o_q (q_load rfl rfl sz_24 (by repeat (first | exact .here | apply Pick.there)) rfl) rfl ?_ | refine o_q (q_load_old rfl rfl sz_24 ((hs.1.rdj 3 hkl rfl))) rfl ?_
  first | refine o_p (p_len_slice rfl rfl Try.underlying24) rfl ?_ | refine o_q (q_len_own rfl rfl Try.underlying24 (by repeat (first | exact .here | apply Pick.there))) rfl ?_
  refine o_p (p_pure rfl) rfl ?_
  refine o_nil ?_
  refine s_cond rfl (fun h2 => ?_) (fun h2 => ?_)
  · try simp only [decide_eq_true_eq, decide_eq_false_iff_not, Bool.not_eq_true', Bool.not_eq_false', Bool.and_eq_true, Bool.or_eq_true, Bool.and_eq_false_iff, Bool.or_eq_false_iff, Bool.not_true, Bool.not_false] at h2
    have hkl : k < L.length := by omega
    have hmk := hmo _ (mem_nth hkl)
    refine s_skip ?_
    refine s_seq ?_
    refine s_block ?_
    refine s_region ?_
    refine o_p (p_pure rfl) rfl ?_
    refine o_p (p_fieldAddr rfl rfl fd_26_1 sz_24 rfl) rfl ?_
    first | refine o_q (q_load rfl rfl sz_24 (by repeat (first | exact .here | apply Pick.there)) rfl) rfl ?_ | refine o_q (q_load_old rfl rfl sz_24 ((hs.1.rdj 3 hkl rfl))) rfl ?_
    refine o_p (p_pure rfl) rfl ?_
    first | refine o_p (p_indexAddr rfl rfl rfl sl_24 (k) (by omega) (by omega) rfl) rfl ?_ | refine o_p (p_indexAddr rfl rfl rfl sl_24 (k) (by omega) (by omega) (Rw.some hs.1 (by omega))) rfl ?_
    refine o_p (p_fieldAddr rfl rfl fd_77_2 sz_75 rfl) rfl ?_
    first | refine o_q (q_load rfl rfl sz_75 (by repeat (first | exact .here | apply Pick.there)) rfl) rfl ?_ | refine o_q (q_load_old rfl rfl sz_75 ((hs.1.rdj 3 hkl rfl))) rfl ?_
    first | refine o_p (p_len_slice rfl rfl Try.underlying75) rfl ?_ | refine o_q (q_len_own rfl rfl Try.underlying75 (by repeat (first | exact .here | apply Pick.there))) rfl ?_
    refine o_p (p_pure rfl) rfl ?_
    try (refine o_slot (i64w (by omega) (by omega)) ?_)
    refine o_p (p_pure rfl) rfl ?_
    refine o_nil ?_
    refine s_blk ?_
    refine s_region ?_
    refine o_p (p_pure rfl) rfl ?_
    refine o_p (p_pure rfl) rfl ?_
    try (refine o_slot (i64w (by omega) (by omega)) ?_)
    refine o_p (p_pure rfl) rfl ?_
    refine o_nil ?_
    exact s_backI (k + 1) (by omega) (by omega) (sl_c rfl (sl_c (congrArg (fun e => some (Value.int .i64 e)) (by rw [cntT_succ (by omega)]; omega)) (by repeat (first | exact sl_n | refine sl_c rfl ?_)))) (fun w h => h.ent (by repeat (first | exact .nil | refine .cons (by repeat (first | exact .here | apply Pick.there)) ?_)))
  · try simp only [decide_eq_true_eq, decide_eq_false_iff_not, Bool.not_eq_true', Bool.not_eq_false', Bool.and_eq_true, Bool.or_eq_true, Bool.and_eq_false_iff, Bool.or_eq_false_iff, Bool.not_true, Bool.not_false] at h2
    obtain rfl : k = L.length := by omega
    rw [List.take_length] at *
    refine s_exit_to rfl ?_
    refine s_seq ?_
    refine s_region ?_
    refine o_p (p_pure rfl) rfl ?_
    refine o_p (p_pure rfl) rfl ?_
    refine o_nil ?_
    exact s_retv (rs := [.tmp 2]) rfl (.tmp rfl (.nil)) (fun w' h' => ⟨rfl, h'.below⟩)

set_option maxRecDepth 20000 in
theorem c70 (w : World) (next : Int) (a : Option Addr) (cap : Nat) (L : List LFil) (h : Int) (hs : Ft w [] a L) (hm : L.length ≤ 1000) (hmo : ∀ f ∈ L, f.op.length ≤ 1000) : Calls Try.prog 70 #[.agg #[.int .i64 next, .slice a L.length cap], .int .i64 h] w fun en w' => en = .returned (.tuple #[.int .i64 (fdI (pls L) h).1, .int .i64 (fdI (pls L) h).2]) ∧ Below w.heap.size w w' := by
  have hpl : (pls L).length = L.length := by simp
  refine enter (args := [_, _]) Try.func70 Try.ntmps70 rfl rfl (HS.refl w []) ?_
  refine s_seq ?_
  refine s_region ?_
  refine o_h (h_box rfl rfl) rfl (fun b1 _ => ?_)
  refine o_p (p_pure rfl) rfl ?_
  refine o_p (p_pure rfl) rfl ?_
  refine o_nil ?_
  refine s_seq ?_
  refine s_seq ?_
  refine s_region ?_
  refine o_p (p_pure rfl) rfl ?_
  refine o_nil ?_
  refine s_block ?_
  refine s_loopI (α := Nat) [4, 5, 6, 7, 8, 9, 10, 11, 12, 13, 14, 15, 16, 17, 18, 19, 20, 21, 22, 23, 24, 25, 26, 27, 28, 29, 30, 31, 32, 33, 34, 35, 36, 37, 38, 39] (fun k => [(6, .int .i64 (k : Int))]) (fun _ => HS w [] [.blk b1 26 2 [.int .i64 next, .slice a L.length cap]]) (fun k => k ≤ L.length ∧ findF (pls L) h 0 = findF ((pls L).drop k) h k) (fun k => L.length - k) 0 ⟨by omega, rfl⟩ (by repeat (first | exact sl_n | refine sl_c rfl ?_)) (fun w h => h.ent (by repeat (first | exact .nil | refine .cons (by repeat (first | exact .here | apply Pick.there)) ?_))) (fun i hk => ?_)
  obtain ⟨hk1, hk2⟩ := hk
  refine s_seq ?_
  refine s_seq ?_
  refine s_region ?_
  refine o_p (p_pure rfl) rfl ?_
  refine o_p (p_fieldAddr rfl rfl fd_26_1 sz_24 rfl) rfl ?_
  first | refine o_q (q_load rfl rfl sz_24 (by repeat (first | exact .here | apply Pick.there)) rfl) rfl ?_ | refine o_q (q_load_old rfl rfl sz_24 ((hs.1.rdj 3 hil rfl))) rfl ?_ | refine o_q (q_load_old rfl rfl sz_24 (((hs.at hil).1.rdj 0 hkl rfl))) rfl ?_
  first | refine o_p (p_len_slice rfl rfl Try.underlying24) rfl ?_ | refine o_q (q_len_own rfl rfl Try.underlying24 (by repeat (first | exact .here | apply Pick.there))) rfl ?_
  refine o_p (p_pure rfl) rfl ?_
  refine o_nil ?_
  refine s_cond rfl (fun h2 => ?_) (fun h2 => ?_)
  · try simp only [decide_eq_true_eq, decide_eq_false_iff_not, Bool.not_eq_true', Bool.not_eq_false', Bool.and_eq_true, Bool.or_eq_true, Bool.and_eq_false_iff, Bool.or_eq_false_iff, Bool.not_true, Bool.not_false] at h2
    have hil : i < L.length := by omega
    have hoi := hmo _ (mem_nth hil)
    refine s_skip ?_
    refine s_seq ?_
    refine s_block ?_
    refine s_seq ?_
    refine s_region ?_
    refine o_p (p_pure rfl) rfl ?_
    refine o_nil ?_
    refine s_block ?_
    refine s_loopI (α := Nat) [4, 5, 7, 15, 16, 17, 18, 19, 20, 21, 22, 23, 24, 25, 26, 27, 28, 29, 30, 31, 32, 33, 34, 35, 36, 37, 38, 39] (fun k => [(7, .int .i64 (k : Int))]) (fun _ => HS w [] [.blk b1 26 2 [.int .i64 next, .slice a L.length cap]]) (fun k => k ≤ (nth L i).op.length ∧ ∀ j, j < k → (nth (nth L i).op j).hd ≠ h) (fun k => (nth L i).op.length - k) 0 ⟨by omega, fun j h => absurd h (Nat.not_lt_zero j)⟩ (by repeat (first | exact sl_n | refine sl_c rfl ?_)) (fun w h => h.ent (by repeat (first | exact .nil | refine .cons (by repeat (first | exact .here | apply Pick.there)) ?_))) (fun k hk => ?_)
    obtain ⟨hk3, hk4⟩ := hk
    refine s_seq ?_
    refine s_seq ?_
    refine s_region ?_
    refine o_p (p_pure rfl) rfl ?_
    refine o_p (p_fieldAddr rfl rfl fd_26_1 sz_24 rfl) rfl ?_
    first | refine o_q (q_load rfl rfl sz_24 (by repeat (first | exact .here | apply Pick.there)) rfl) rfl ?_ | refine o_q (q_load_old rfl rfl sz_24 ((hs.1.rdj 3 hil rfl))) rfl ?_ | refine o_q (q_load_old rfl rfl sz_24 (((hs.at hil).1.rdj 0 hkl rfl))) rfl ?_
    refine o_p (p_pure rfl) rfl ?_
    first | refine o_p (p_indexAddr rfl rfl rfl sl_24 (i) (by omega) (by omega) rfl) rfl ?_ | refine o_p (p_indexAddr rfl rfl rfl sl_24 (i) (by omega) (by omega) (Rw.some hs.1 (by omega))) rfl ?_ | refine o_p (p_indexAddr rfl rfl rfl sl_24 (i) (by omega) (by omega) (Rw.some (hs.at hil).1 (by omega))) rfl ?_
    refine o_p (p_fieldAddr rfl rfl fd_77_2 sz_75 rfl) rfl ?_
    first | refine o_q (q_load rfl rfl sz_75 (by repeat (first | exact .here | apply Pick.there)) rfl) rfl ?_ | refine o_q (q_load_old rfl rfl sz_75 ((hs.1.rdj 3 hil rfl))) rfl ?_ | refine o_q (q_load_old rfl rfl sz_75 (((hs.at hil).1.rdj 0 hkl rfl))) rfl ?_
    first | refine o_p (p_len_slice rfl rfl Try.underlying75) rfl ?_ | refine o_q (q_len_own rfl rfl Try.underlying75 (by repeat (first | exact .here | apply Pick.there))) rfl ?_
    refine o_p (p_pure rfl) rfl ?_
    refine o_nil ?_
    refine s_cond rfl (fun h3 => ?_) (fun h3 => ?_)
    · try simp only [decide_eq_true_eq, decide_eq_false_iff_not, Bool.not_eq_true', Bool.not_eq_false', Bool.and_eq_true, Bool.or_eq_true, Bool.and_eq_false_iff, Bool.or_eq_false_iff, Bool.not_true, Bool.not_false] at h3
      have hkl : k < (nth L i).op.length := by omega
      refine s_skip ?_
      refine s_seq ?_
      refine s_block ?_
      refine s_seq ?_
      refine s_region ?_
      refine o_p (p_fieldAddr rfl rfl fd_26_1 sz_24 rfl) rfl ?_
      first | refine o_q (q_load rfl rfl sz_24 (by repeat (first | exact .here | apply Pick.there)) rfl) rfl ?_ | refine o_q (q_load_old rfl rfl sz_24 ((hs.1.rdj 3 hil rfl))) rfl ?_ | refine o_q (q_load_old rfl rfl sz_24 (((hs.at hil).1.rdj 0 hkl rfl))) rfl ?_
      refine o_p (p_pure rfl) rfl ?_
      first | refine o_p (p_indexAddr rfl rfl rfl sl_24 (i) (by omega) (by omega) rfl) rfl ?_ | refine o_p (p_indexAddr rfl rfl rfl sl_24 (i) (by omega) (by omega) (Rw.some hs.1 (by omega))) rfl ?_ | refine o_p (p_indexAddr rfl rfl rfl sl_24 (i) (by omega) (by omega) (Rw.some (hs.at hil).1 (by omega))) rfl ?_
      refine o_p (p_fieldAddr rfl rfl fd_77_2 sz_75 rfl) rfl ?_
      first | refine o_q (q_load rfl rfl sz_75 (by repeat (first | exact .here | apply Pick.there)) rfl) rfl ?_ | refine o_q (q_load_old rfl rfl sz_75 ((hs.1.rdj 3 hil rfl))) rfl ?_ | refine o_q (q_load_old rfl rfl sz_75 (((hs.at hil).1.rdj 0 hkl rfl))) rfl ?_
      refine o_p (p_pure rfl) rfl ?_
      first | refine o_p (p_indexAddr rfl rfl rfl sl_75 (k) (by omega) (by omega) rfl) rfl ?_ | refine o_p (p_indexAddr rfl rfl rfl sl_75 (k) (by omega) (by omega) (Rw.some hs.1 (by omega))) rfl ?_ | refine o_p (p_indexAddr rfl rfl rfl sl_75 (k) (by omega) (by omega) (Rw.some (hs.at hil).1 (by omega))) rfl ?_
      refine o_p (p_fieldAddr rfl rfl fd_48_0 sz_3 rfl) rfl ?_
      first | refine o_q (q_load rfl rfl sz_3 (by repeat (first | exact .here | apply Pick.there)) rfl) rfl ?_ | refine o_q (q_load_old rfl rfl sz_3 ((hs.1.rdj 3 hil rfl))) rfl ?_ | refine o_q (q_load_old rfl rfl sz_3 (((hs.at hil).1.rdj 0 hkl rfl))) rfl ?_
      refine o_p (p_pure rfl) rfl ?_
      refine o_p (p_pure rfl) rfl ?_
      refine o_nil ?_
      refine s_cond rfl (fun h4 => ?_) (fun h4 => ?_)
      · try simp only [decide_eq_true_eq, decide_eq_false_iff_not, Bool.not_eq_true', Bool.not_eq_false', Bool.and_eq_true, Bool.or_eq_true, Bool.and_eq_false_iff, Bool.or_eq_false_iff, Bool.not_true, Bool.not_false] at h4
        have hit := findF_hit hil hkl hk4 h4
        have hfe : findF (pls L) h 0 = (i, k, 0) := by rw [hk2, findF_drop (by omega), hit, if_pos (by rw [nth_pls hil]; simpa [LFil.pl] using hkl)]
        refine s_seq ?_
        refine s_weaken (L' := [(0, _), (1, _), (2, _), (6, _), (7, _), (8, _), (9, _), (10, _), (11, _), (12, _)]) (by repeat (first | exact sl_n | refine sl_c rfl ?_)) (fun _ h => h) ?_
        refine s_region ?_
        refine o_p (p_pure rfl) rfl ?_
        refine o_p (p_pure rfl) rfl ?_
        refine o_p (p_pure rfl) rfl ?_
        refine o_p (p_pure rfl) rfl ?_
        refine o_nil ?_
        exact s_retv (rs := [.tmp 4, .tmp 5]) rfl (.tmp rfl (.tmp rfl (.nil))) (fun w' h' => ⟨by rw [fdI, hfe]; rfl, h'.below⟩)
      · try simp only [decide_eq_true_eq, decide_eq_false_iff_not, Bool.not_eq_true', Bool.not_eq_false', Bool.and_eq_true, Bool.or_eq_true, Bool.and_eq_false_iff, Bool.or_eq_false_iff, Bool.not_true, Bool.not_false] at h4
        refine s_skip ?_
        refine s_blk ?_
        refine s_weaken (L' := [(0, _), (1, _), (2, _), (6, _), (7, _), (8, _), (9, _), (10, _), (11, _), (12, _)]) (by repeat (first | exact sl_n | refine sl_c rfl ?_)) (fun _ h => h) ?_
        refine s_region ?_
        refine o_p (p_pure rfl) rfl ?_
        refine o_p (p_pure rfl) rfl ?_
        try (refine o_slot (i64w (by omega) (by omega)) ?_)
        refine o_p (p_pure rfl) rfl ?_
        refine o_nil ?_
        exact s_backI (k + 1) (by omega) ⟨by omega, fun j hj => (Nat.lt_or_ge j k).elim (hk4 j) (fun h => by obtain rfl : j = k := (by omega); exact h4)⟩ (by repeat (first | exact sl_n | refine sl_c rfl ?_)) (fun w h => h.ent (by repeat (first | exact .nil | refine .cons (by repeat (first | exact .here | apply Pick.there)) ?_)))
    · try simp only [decide_eq_true_eq, decide_eq_false_iff_not, Bool.not_eq_true', Bool.not_eq_false', Bool.and_eq_true, Bool.or_eq_true, Bool.and_eq_false_iff, Bool.or_eq_false_iff, Bool.not_true, Bool.not_false] at h3
      refine s_exit_to rfl ?_
      refine s_blk ?_
      refine s_region ?_
      refine o_p (p_pure rfl) rfl ?_
      refine o_p (p_pure rfl) rfl ?_
      try (refine o_slot (i64w (by omega) (by omega)) ?_)
      refine o_p (p_pure rfl) rfl ?_
      refine o_nil ?_
      exact s_backI (i + 1) (by omega) ⟨by omega, by rw [hk2, findF_drop (by omega), if_neg (findF_miss hil (fun j hj => hk4 j (by omega)))]⟩ (by repeat (first | exact sl_n | refine sl_c rfl ?_)) (fun w h => h.ent (by repeat (first | exact .nil | refine .cons (by repeat (first | exact .here | apply Pick.there)) ?_)))
  · try simp only [decide_eq_true_eq, decide_eq_false_iff_not, Bool.not_eq_true', Bool.not_eq_false', Bool.and_eq_true, Bool.or_eq_true, Bool.and_eq_false_iff, Bool.or_eq_false_iff, Bool.not_true, Bool.not_false] at h2
    have hfe : findF (pls L) h 0 = (0, 0, 6) := by rw [hk2, findF_end (by omega)]
    refine s_exit_to rfl ?_
    refine s_seq ?_
    refine s_region ?_
    refine o_p (p_pure rfl) rfl ?_
    refine o_p (p_pure rfl) rfl ?_
    refine o_nil ?_
    exact s_retv (rs := [.tmp 4, .tmp 5]) rfl (.tmp rfl (.tmp rfl (.nil))) (fun w' h' => ⟨by rw [fdI, hfe]; rfl, h'.below⟩)

end Go.Proofs

namespace Go.Proofs
open Go Go.RowKit Gx
set_option linter.unusedVariables false
set_option linter.unusedSimpArgs false
attribute [local irreducible] Go.Calls Gx.S Gx.O Gx.D Gx.OpP Gx.OpQ Gx.OpH

theorem fn_72 : isFn Try.prog 72 = true := by kernel_rfl


theorem hdl_r (next : Int) (known : List Int) (ops : List Opn) (k : Nat) : hdlE next known ops k = if ¬ (1 ≤ (nth ops k).hd ∧ (nth ops k).hd ≤ next - 1) then 2 else if ¬ openE (nth ops k).ac (nth ops k).sh = 0 then openE (nth ops k).ac (nth ops k).sh else if ¬ (k = 0 ∨ (nth ops (k - 1)).hd < (nth ops k).hd) then 9 else if ¬ lksE (nth ops k).lk = 0 then lksE (nth ops k).lk else if (nth ops k).hd ∈ known then 23 else if (ops.take k).any (cfl (nth ops k)) = true then 28 else lockedE ((ops.take k).flatMap Opn.lk) (nth ops k).lk := by
  unfold hdlE lksE
  simp only []
  grind
theorem lksE_0 {l : List Lock} (h : lksE l = 0) : l.length ≤ 16 ∧ okL l := by
  unfold lksE at h
  split at h
  · exact absurd h (by decide)
  · exact ⟨by omega, rngs_ok h⟩
theorem hdl_ok {next : Int} {known : List Int} {ops : List Opn} {k : Nat} (h : hdlE next known ops k = 0) : openE (nth ops k).ac (nth ops k).sh = 0 ∧ (nth ops k).lk.length ≤ 16 ∧ okL (nth ops k).lk := by
  rw [hdl_r] at h
  split at h
  · exact absurd h (by decide)
  split at h
  · contradiction
  rename_i h2
  split at h
  · exact absurd h (by decide)
  split at h
  · contradiction
  rename_i h3
  exact ⟨Decidable.not_not.1 h2, lksE_0 (Decidable.not_not.1 h3)⟩
theorem fil_r {next : Int} {L : List LFil} {i : Nat} (hi : i < L.length) : filE next (pls L) i = if ¬ refE (nth L i).rc (nth L i).sq = 0 then refE (nth L i).rc (nth L i).sq else if ¬ (i = 0 ∨ refLt ((nth L (i - 1)).rc, (nth L (i - 1)).sq) ((nth L i).rc, (nth L i).sq) = true) then 9 else if (nth L i).op.length = 0 then 17 else hdlsE next (hds ((pls L).take i)) (plo (nth L i).op) := by
  unfold filE
  rw [nth_pls hi, nth_pls (show i - 1 < L.length by omega)]
  simp only [LFil.pl, List.length_map]
  grind
theorem hds_mem {L : List LFil} {i : Nat} {x : Int} : x ∈ hds ((pls L).take i) ↔ ∃ n m, n < i ∧ n < L.length ∧ m < (nth L n).op.length ∧ (nth (nth L n).op m).hd = x := by
  unfold hds
  rw [List.mem_flatMap]
  constructor
  · rintro ⟨f, hf, hx⟩
    obtain ⟨n, h1, h2, rfl⟩ := nth_mem_take hf
    have h2' : n < L.length := by simpa using h2
    rw [nth_pls h2'] at hx
    obtain ⟨o, ho, rfl⟩ := List.mem_map.1 hx
    obtain ⟨p, hp, rfl⟩ := List.mem_map.1 ho
    obtain ⟨m, hm, e⟩ := List.getElem_of_mem hp
    exact ⟨n, m, h1, h2', hm, by rw [nth_eq ((List.getElem?_eq_getElem hm).trans (congrArg some e))]; rfl⟩
  · rintro ⟨n, m, h1, h2, h3, rfl⟩
    refine ⟨(nth L n).pl, ?_, List.mem_map.2 ⟨(nth (nth L n).op m).pl, List.mem_map.2 ⟨_, mem_nth h3, rfl⟩, rfl⟩⟩
    have e : nth ((pls L).take i) n = (nth L n).pl := by rw [nth_take h1, nth_pls h2]
    rw [← e]
    exact mem_nth (by rw [List.length_take, List.length_map]; omega)
theorem any_take {ops : List LOpn} {k : Nat} {x : Opn} (hk : k ≤ ops.length) : ((plo ops).take k).any (cfl x) = true ↔ ∃ m, m < k ∧ cfl x (nth ops m).pl = true := by
  rw [List.any_eq_true]
  constructor
  · rintro ⟨o, ho, hx⟩
    obtain ⟨m, h1, h2, rfl⟩ := nth_mem_take ho
    rw [nth_plo (by simpa using h2)] at hx
    exact ⟨m, h1, hx⟩
  · rintro ⟨m, h1, hx⟩
    refine ⟨(nth ops m).pl, ?_, hx⟩
    have e : nth ((plo ops).take k) m = (nth ops m).pl := by rw [nth_take h1, nth_plo (by omega)]
    rw [← e]
    exact mem_nth (by rw [List.length_take, List.length_map]; omega)

set_option maxRecDepth 20000 in
theorem c99 (w : World) (f : LFil) (k : Nat) (hs : Ot w [] f.oa f.op) (hk : k < f.op.length) (hm0 : f.op.length ≤ 1000) (hv : ∀ n, n ≤ k → okL (nth f.op n).lk ∧ (nth f.op n).lk.length ≤ 16) : Calls Try.prog 99 #[.agg #[.int .i64 f.rc, .int .i64 f.sq, .bool f.pd, .slice f.oa f.op.length f.oc], .int .i64 (k : Int)] w fun en w' => en = .returned (.int .i64 (lockedE (((plo f.op).take k).flatMap Opn.lk) (nth f.op k).lk)) ∧ Below w.heap.size w w' := by
  have hvk := hv k (Nat.le_refl _)
  refine enter (args := [_, _]) Try.func99 Try.ntmps99 rfl rfl (HS.refl w []) ?_
  refine s_seq ?_
  refine s_region ?_
  refine o_h (h_box rfl rfl) rfl (fun b1 _ => ?_)
  refine o_p (p_pure rfl) rfl ?_
  refine o_nil ?_
  refine s_seq ?_
  refine s_seq ?_
  refine s_region ?_
  refine o_p (p_pure rfl) rfl ?_
  refine o_nil ?_
  refine s_block ?_
  refine s_loopI (α := Nat) [4, 5, 6, 7, 8, 9, 10, 11, 12, 13, 14, 15, 16, 17, 18, 19, 20, 21, 22, 23, 24, 25, 26, 27, 28, 29, 30, 31, 32, 33, 34, 35, 36, 37, 38, 39, 40, 41, 42, 43, 44, 45, 46, 47, 48, 49, 50, 51, 52, 53, 54, 55, 56, 57, 58, 59, 60, 61, 62, 63, 64, 65] (fun i => [(5, .int .i64 (i : Int))]) (fun _ => HS w [] [.blk b1 77 4 f.vals]) (fun i => i ≤ (nth f.op k).lk.length ∧ lockedE (((plo f.op).take k).flatMap Opn.lk) (nth f.op k).lk = lockedE ((((plo f.op).take k).flatMap Opn.lk) ++ (nth f.op k).lk.take i) ((nth f.op k).lk.drop i)) (fun i => (nth f.op k).lk.length - i) 0 ⟨Nat.zero_le _, by simp⟩ (by repeat (first | exact sl_n | refine sl_c rfl ?_)) (fun w h => h.ent (by repeat (first | exact .nil | refine .cons (by repeat (first | exact .here | apply Pick.there)) ?_))) (fun i hy => ?_)
  obtain ⟨hi1, hi2⟩ := hy
  refine s_seq ?_
  refine s_seq ?_
  refine s_region ?_
  refine o_p (p_pure rfl) rfl ?_
  refine o_p (p_fieldAddr rfl rfl fd_77_2 sz_75 rfl) rfl ?_
  first | refine o_q (q_load rfl rfl sz_75 (by repeat (first | exact .here | apply Pick.there)) rfl) rfl ?_ | refine o_q (q_load_old rfl rfl sz_75 ((hs.1.rdj 4 hk rfl))) rfl ?_ | refine o_q (q_load_old rfl rfl sz_75 (rfl (Rw.rd (hs.at hk) hil))) rfl ?_ | refine o_q (q_load_old rfl rfl sz_75 ((hs.1.rdj 4 hnl rfl))) rfl ?_ | refine o_q (q_load_old rfl rfl sz_75 (rfl (Rw.rd (hs.at hnl) hml))) rfl ?_
  refine o_p (p_pure rfl) rfl ?_
  first | refine o_p (p_indexAddr rfl rfl rfl sl_75 (k) (by omega) (by omega) rfl) rfl ?_ | refine o_p (p_indexAddr rfl rfl rfl sl_75 (k) (by omega) (by omega) (Rw.some hs.1 (by omega))) rfl ?_ | refine o_p (p_indexAddr rfl rfl rfl sl_75 (k) (by omega) (by omega) (Rw.some (hs.at hk) (by omega))) rfl ?_ | refine o_p (p_indexAddr rfl rfl rfl sl_75 (k) (by omega) (by omega) (Rw.some (hs.at hnl) (by omega))) rfl ?_
  refine o_p (p_fieldAddr rfl rfl fd_48_4 sz_46 rfl) rfl ?_
  first | refine o_q (q_load rfl rfl sz_46 (by repeat (first | exact .here | apply Pick.there)) rfl) rfl ?_ | refine o_q (q_load_old rfl rfl sz_46 ((hs.1.rdj 4 hk rfl))) rfl ?_ | refine o_q (q_load_old rfl rfl sz_46 (rfl (Rw.rd (hs.at hk) hil))) rfl ?_ | refine o_q (q_load_old rfl rfl sz_46 ((hs.1.rdj 4 hnl rfl))) rfl ?_ | refine o_q (q_load_old rfl rfl sz_46 (rfl (Rw.rd (hs.at hnl) hml))) rfl ?_
  first | refine o_p (p_len_slice rfl rfl Try.underlying46) rfl ?_ | refine o_q (q_len_own rfl rfl Try.underlying46 (by repeat (first | exact .here | apply Pick.there))) rfl ?_
  refine o_p (p_pure rfl) rfl ?_
  refine o_nil ?_
  refine s_cond rfl (fun h2 => ?_) (fun h2 => ?_)
  · try simp only [decide_eq_true_eq, decide_eq_false_iff_not, Bool.not_eq_true', Bool.not_eq_false', Bool.and_eq_true, Bool.or_eq_true, Bool.and_eq_false_iff, Bool.or_eq_false_iff, Bool.not_true, Bool.not_false] at h2
    have hil : i < (nth f.op k).lk.length := by omega
    refine s_skip ?_
    refine s_seq ?_
    refine s_block ?_
    refine s_seq ?_
    refine s_region ?_
    refine o_p (p_fieldAddr rfl rfl fd_77_2 sz_75 rfl) rfl ?_
    first | refine o_q (q_load rfl rfl sz_75 (by repeat (first | exact .here | apply Pick.there)) rfl) rfl ?_ | refine o_q (q_load_old rfl rfl sz_75 ((hs.1.rdj 4 hk rfl))) rfl ?_ | refine o_q (q_load_old rfl rfl sz_75 (rfl (Rw.rd (hs.at hk) hil))) rfl ?_ | refine o_q (q_load_old rfl rfl sz_75 ((hs.1.rdj 4 hnl rfl))) rfl ?_ | refine o_q (q_load_old rfl rfl sz_75 (rfl (Rw.rd (hs.at hnl) hml))) rfl ?_
    refine o_p (p_pure rfl) rfl ?_
    first | refine o_p (p_indexAddr rfl rfl rfl sl_75 (k) (by omega) (by omega) rfl) rfl ?_ | refine o_p (p_indexAddr rfl rfl rfl sl_75 (k) (by omega) (by omega) (Rw.some hs.1 (by omega))) rfl ?_ | refine o_p (p_indexAddr rfl rfl rfl sl_75 (k) (by omega) (by omega) (Rw.some (hs.at hk) (by omega))) rfl ?_ | refine o_p (p_indexAddr rfl rfl rfl sl_75 (k) (by omega) (by omega) (Rw.some (hs.at hnl) (by omega))) rfl ?_
    refine o_p (p_fieldAddr rfl rfl fd_48_4 sz_46 rfl) rfl ?_
    first | refine o_q (q_load rfl rfl sz_46 (by repeat (first | exact .here | apply Pick.there)) rfl) rfl ?_ | refine o_q (q_load_old rfl rfl sz_46 ((hs.1.rdj 4 hk rfl))) rfl ?_ | refine o_q (q_load_old rfl rfl sz_46 (rfl (Rw.rd (hs.at hk) hil))) rfl ?_ | refine o_q (q_load_old rfl rfl sz_46 ((hs.1.rdj 4 hnl rfl))) rfl ?_ | refine o_q (q_load_old rfl rfl sz_46 (rfl (Rw.rd (hs.at hnl) hml))) rfl ?_
    refine o_p (p_pure rfl) rfl ?_
    first | refine o_p (p_indexAddr rfl rfl rfl sl_46 (i) (by omega) (by omega) rfl) rfl ?_ | refine o_p (p_indexAddr rfl rfl rfl sl_46 (i) (by omega) (by omega) (Rw.some hs.1 (by omega))) rfl ?_ | refine o_p (p_indexAddr rfl rfl rfl sl_46 (i) (by omega) (by omega) (Rw.some (hs.at hk) (by omega))) rfl ?_ | refine o_p (p_indexAddr rfl rfl rfl sl_46 (i) (by omega) (by omega) (Rw.some (hs.at hnl) (by omega))) rfl ?_
    first | refine o_q (q_loadn rfl rfl sz_62 (by repeat (first | exact .here | apply Pick.there)) rfl) rfl ?_ | refine o_q (q_load_oldn _ rfl rfl sz_62 (hs.1.rdj 4 hk rfl)) rfl ?_ | refine o_q (q_load_oldn _ rfl rfl sz_62 rfl (Rw.rd (hs.at hk) hil)) rfl ?_ | refine o_q (q_load_oldn _ rfl rfl sz_62 (hs.1.rdj 4 hnl rfl)) rfl ?_ | refine o_q (q_load_oldn _ rfl rfl sz_62 rfl (Rw.rd (hs.at hnl) hml)) rfl ?_
    refine o_h (h_alloc rfl zr_62) rfl (fun b3 _ => ?_)
    refine o_h0 (h_store rfl rfl rfl sz_62 rfl (by repeat (first | exact .here | apply Put.there)) (by simp only [setMany_length, List.length_set, List.length_cons, List.length_nil, List.length_map]; omega) rfl) (fun _ _ => ?_)
    refine o_nil ?_
    refine s_seq ?_
    refine s_region ?_
    refine o_p (p_pure rfl) rfl ?_
    refine o_nil ?_
    refine s_block ?_
    refine s_weaken (L' := [(0, _), (1, _), (2, _), (5, _), (6, _), (7, _)]) (by repeat (first | exact sl_n | refine sl_c rfl ?_)) (fun _ h => h) ?_
    refine s_loopI (α := Nat) [4, 7, 8, 29, 30, 31, 32, 33, 34, 35, 36, 37, 38, 39, 40, 41, 42, 43, 44, 45, 46, 47, 48, 49, 50, 51, 52, 53, 54, 55, 56, 57, 58, 59, 60, 61, 62, 63, 64, 65] (fun n => [(7, .int .i64 (n : Int))]) (fun _ => HS w [] [.blk b1 77 4 f.vals, .blk b3 62 3 (nth (nth f.op k).lk i).vals]) (fun n => n ≤ k + 1 ∧ noCl f.op k i n 0 (nth (nth f.op k).lk i)) (fun n => k + 1 - n) 0 ⟨by omega, fun n2 m2 h1 h2 h3 => by omega⟩ (by repeat (first | exact sl_n | refine sl_c rfl ?_)) (fun w h => h.ent (by repeat (first | exact .nil | refine .cons (by repeat (first | exact .here | apply Pick.there)) ?_))) (fun n hy => ?_)
    obtain ⟨hn1, hn2⟩ := hy
    refine s_seq ?_
    refine s_seq ?_
    refine s_region ?_
    refine o_p (p_pure rfl) rfl ?_
    refine o_p (p_pure rfl) rfl ?_
    refine o_p (p_pure rfl) rfl ?_
    refine o_nil ?_
    refine s_cond rfl (fun h4 => ?_) (fun h4 => ?_)
    · try simp only [decide_eq_true_eq, decide_eq_false_iff_not, Bool.not_eq_true', Bool.not_eq_false', Bool.and_eq_true, Bool.or_eq_true, Bool.and_eq_false_iff, Bool.or_eq_false_iff, Bool.not_true, Bool.not_false] at h4
      have hnk : n ≤ k := by omega
      have hnl : n < f.op.length := by omega
      have hvn := hv n hnk
      refine s_skip ?_
      refine s_seq ?_
      refine s_block ?_
      refine s_seq ?_
      refine s_region ?_
      refine o_p (p_pure rfl) rfl ?_
      refine o_nil ?_
      refine s_block ?_
      refine s_loopI (α := Nat) [4, 8, 34, 35, 36, 37, 38, 39, 40, 41, 42, 43, 44, 45, 46, 47, 48, 49, 50, 51, 52, 53, 54, 55, 56, 57, 58, 59, 60, 61, 62, 63, 64, 65] (fun m => [(8, .int .i64 (m : Int))]) (fun _ => HS w [] [.blk b1 77 4 f.vals, .blk b3 62 3 (nth (nth f.op k).lk i).vals]) (fun m => m ≤ (nth f.op n).lk.length ∧ noCl f.op k i n m (nth (nth f.op k).lk i)) (fun m => (nth f.op n).lk.length - m) 0 ⟨Nat.zero_le _, hn2⟩ (by repeat (first | exact sl_n | refine sl_c rfl ?_)) (fun w h => h.ent (by repeat (first | exact .nil | refine .cons (by repeat (first | exact .here | apply Pick.there)) ?_))) (fun m hy => ?_)
      obtain ⟨hm1, hm2⟩ := hy
      refine s_seq ?_
      refine s_seq ?_
      refine s_region ?_
      refine o_p (p_pure rfl) rfl ?_
      refine o_p (p_fieldAddr rfl rfl fd_77_2 sz_75 rfl) rfl ?_
      first | refine o_q (q_load rfl rfl sz_75 (by repeat (first | exact .here | apply Pick.there)) rfl) rfl ?_ | refine o_q (q_load_old rfl rfl sz_75 ((hs.1.rdj 4 hk rfl))) rfl ?_ | refine o_q (q_load_old rfl rfl sz_75 (rfl (Rw.rd (hs.at hk) hil))) rfl ?_ | refine o_q (q_load_old rfl rfl sz_75 ((hs.1.rdj 4 hnl rfl))) rfl ?_ | refine o_q (q_load_old rfl rfl sz_75 (rfl (Rw.rd (hs.at hnl) hml))) rfl ?_
      refine o_p (p_pure rfl) rfl ?_
      first | refine o_p (p_indexAddr rfl rfl rfl sl_75 (n) (by omega) (by omega) rfl) rfl ?_ | refine o_p (p_indexAddr rfl rfl rfl sl_75 (n) (by omega) (by omega) (Rw.some hs.1 (by omega))) rfl ?_ | refine o_p (p_indexAddr rfl rfl rfl sl_75 (n) (by omega) (by omega) (Rw.some (hs.at hk) (by omega))) rfl ?_ | refine o_p (p_indexAddr rfl rfl rfl sl_75 (n) (by omega) (by omega) (Rw.some (hs.at hnl) (by omega))) rfl ?_
      refine o_p (p_fieldAddr rfl rfl fd_48_4 sz_46 rfl) rfl ?_
      first | refine o_q (q_load rfl rfl sz_46 (by repeat (first | exact .here | apply Pick.there)) rfl) rfl ?_ | refine o_q (q_load_old rfl rfl sz_46 ((hs.1.rdj 4 hk rfl))) rfl ?_ | refine o_q (q_load_old rfl rfl sz_46 (rfl (Rw.rd (hs.at hk) hil))) rfl ?_ | refine o_q (q_load_old rfl rfl sz_46 ((hs.1.rdj 4 hnl rfl))) rfl ?_ | refine o_q (q_load_old rfl rfl sz_46 (rfl (Rw.rd (hs.at hnl) hml))) rfl ?_
      first | refine o_p (p_len_slice rfl rfl Try.underlying46) rfl ?_ | refine o_q (q_len_own rfl rfl Try.underlying46 (by repeat (first | exact .here | apply Pick.there))) rfl ?_
      refine o_p (p_pure rfl) rfl ?_
      refine o_nil ?_
      refine s_cond rfl (fun h5 => ?_) (fun h5 => ?_)
      · try simp only [decide_eq_true_eq, decide_eq_false_iff_not, Bool.not_eq_true', Bool.not_eq_false', Bool.and_eq_true, Bool.or_eq_true, Bool.and_eq_false_iff, Bool.or_eq_false_iff, Bool.not_true, Bool.not_false] at h5
        have hml : m < (nth f.op n).lk.length := by omega
        refine s_skip ?_
        refine s_seq ?_
        refine s_block ?_
        refine s_seq ?_
        refine s_cutI (α := Unit) [45, 46, 47, 48, 49, 50, 51, 52, 53, 54, 55, 56, 57, 58, 59, 60, 61, 62, 63, 64, 65] (fun _ => [(65, (.bool ((decide ((n : Int) < (k : Int)) || decide ((m : Int) < (i : Int))) && clsh (nth (nth f.op k).lk i) (nth (nth f.op n).lk m))))]) (fun _ => HS w [] [.blk b1 77 4 f.vals, .blk b3 62 3 (nth (nth f.op k).lk i).vals]) (fun _ => True) ?_ ?_
        · skip
          refine s_draw [] mixed ?_
          refine d_p 0 rfl (p_pure rfl) (by kernel_rfl) rfl rfl ?_
          refine d_p 1 rfl (p_pure rfl) (by kernel_rfl) rfl rfl ?_
          refine d_p 2 rfl (p_pure rfl) (by kernel_rfl) rfl rfl ?_
          refine d_p 3 rfl (p_pure rfl) (by kernel_rfl) rfl rfl ?_
          apply d_split 48
          · exact rfl
          · intro hg6
            have hs7 := hg6; try simp only [decide_eq_true_eq, decide_eq_false_iff_not, Bool.not_eq_true', Bool.not_eq_false', Bool.and_eq_true, Bool.or_eq_true, Bool.and_eq_false_iff, Bool.or_eq_false_iff, Bool.not_true, Bool.not_false] at hs7
            refine d_off 4 48 rfl rfl rfl hg6 (by kernel_rfl) rfl rfl ?_
            refine d_off 5 48 rfl rfl rfl hg6 (by kernel_rfl) rfl rfl ?_
            refine d_off 6 48 rfl rfl rfl hg6 (by kernel_rfl) rfl rfl ?_
            refine d_p 7 rfl (p_pickt rfl rfl hg6 rfl) (by kernel_rfl) rfl rfl ?_
            refine d_p 8 rfl (p_pure rfl) (by kernel_rfl) rfl rfl ?_
            apply d_split 53
            · exact rfl
            · intro hg8
              have hs9 := hg8; try simp only [decide_eq_true_eq, decide_eq_false_iff_not, Bool.not_eq_true', Bool.not_eq_false', Bool.and_eq_true, Bool.or_eq_true, Bool.and_eq_false_iff, Bool.or_eq_false_iff, Bool.not_true, Bool.not_false] at hs9
              first | refine d_qon 9 53 [] rfl rfl rfl hg8 (q_loadn rfl rfl sz_62 (by repeat (first | exact .here | apply Pick.there)) rfl) (by kernel_rfl) (by kernel_rfl) (by kernel_rfl) rfl ?_ | refine d_qon 9 53 [] rfl rfl rfl hg8 (q_load_oldn _ rfl rfl sz_62 (hs.1.rdj 4 hk rfl)) (by kernel_rfl) (by kernel_rfl) (by kernel_rfl) rfl ?_ | refine d_qon 9 53 [] rfl rfl rfl hg8 (q_load_oldn _ rfl rfl sz_62 rfl (Rw.rd (hs.at hk) hil)) (by kernel_rfl) (by kernel_rfl) (by kernel_rfl) rfl ?_ | refine d_qon 9 53 [] rfl rfl rfl hg8 (q_load_oldn _ rfl rfl sz_62 (hs.1.rdj 4 hnl rfl)) (by kernel_rfl) (by kernel_rfl) (by kernel_rfl) rfl ?_ | refine d_qon 9 53 [] rfl rfl rfl hg8 (q_load_oldn _ rfl rfl sz_62 rfl (Rw.rd (hs.at hnl) hml)) (by kernel_rfl) (by kernel_rfl) (by kernel_rfl) rfl ?_
              refine d_pon 10 53 rfl rfl rfl hg8 (p_fieldAddr rfl rfl fd_77_2 sz_75 rfl) (by kernel_rfl) rfl rfl ?_
              first | refine d_qon 11 53 [] rfl rfl rfl hg8 (q_load rfl rfl sz_75 (by repeat (first | exact .here | apply Pick.there)) rfl) (by kernel_rfl) (by kernel_rfl) (by kernel_rfl) rfl ?_ | refine d_qon 11 53 [] rfl rfl rfl hg8 (q_load_old rfl rfl sz_75 ((hs.1.rdj 4 hk rfl))) (by kernel_rfl) (by kernel_rfl) (by kernel_rfl) rfl ?_ | refine d_qon 11 53 [] rfl rfl rfl hg8 (q_load_old rfl rfl sz_75 (rfl (Rw.rd (hs.at hk) hil))) (by kernel_rfl) (by kernel_rfl) (by kernel_rfl) rfl ?_ | refine d_qon 11 53 [] rfl rfl rfl hg8 (q_load_old rfl rfl sz_75 ((hs.1.rdj 4 hnl rfl))) (by kernel_rfl) (by kernel_rfl) (by kernel_rfl) rfl ?_ | refine d_qon 11 53 [] rfl rfl rfl hg8 (q_load_old rfl rfl sz_75 (rfl (Rw.rd (hs.at hnl) hml))) (by kernel_rfl) (by kernel_rfl) (by kernel_rfl) rfl ?_
              refine d_pon 12 53 rfl rfl rfl hg8 (p_pure rfl) (by kernel_rfl) rfl rfl ?_
              first | refine d_pon 13 53 rfl rfl rfl hg8 (p_indexAddr rfl rfl rfl sl_75 (n) (by omega) (by omega) rfl) (by kernel_rfl) rfl rfl ?_ | refine d_pon 13 53 rfl rfl rfl hg8 (p_indexAddr rfl rfl rfl sl_75 (n) (by omega) (by omega) (Rw.some hs.1 (by omega))) (by kernel_rfl) rfl rfl ?_ | refine d_pon 13 53 rfl rfl rfl hg8 (p_indexAddr rfl rfl rfl sl_75 (n) (by omega) (by omega) (Rw.some (hs.at hk) (by omega))) (by kernel_rfl) rfl rfl ?_ | refine d_pon 13 53 rfl rfl rfl hg8 (p_indexAddr rfl rfl rfl sl_75 (n) (by omega) (by omega) (Rw.some (hs.at hnl) (by omega))) (by kernel_rfl) rfl rfl ?_
              refine d_pon 14 53 rfl rfl rfl hg8 (p_fieldAddr rfl rfl fd_48_4 sz_46 rfl) (by kernel_rfl) rfl rfl ?_
              first | refine d_qon 15 53 [] rfl rfl rfl hg8 (q_load rfl rfl sz_46 (by repeat (first | exact .here | apply Pick.there)) rfl) (by kernel_rfl) (by kernel_rfl) (by kernel_rfl) rfl ?_ | refine d_qon 15 53 [] rfl rfl rfl hg8 (q_load_old rfl rfl sz_46 ((hs.1.rdj 4 hk rfl))) (by kernel_rfl) (by kernel_rfl) (by kernel_rfl) rfl ?_ | refine d_qon 15 53 [] rfl rfl rfl hg8 (q_load_old rfl rfl sz_46 (rfl (Rw.rd (hs.at hk) hil))) (by kernel_rfl) (by kernel_rfl) (by kernel_rfl) rfl ?_ | refine d_qon 15 53 [] rfl rfl rfl hg8 (q_load_old rfl rfl sz_46 ((hs.1.rdj 4 hnl rfl))) (by kernel_rfl) (by kernel_rfl) (by kernel_rfl) rfl ?_ | refine d_qon 15 53 [] rfl rfl rfl hg8 (q_load_old rfl rfl sz_46 (rfl (Rw.rd (hs.at hnl) hml))) (by kernel_rfl) (by kernel_rfl) (by kernel_rfl) rfl ?_
              refine d_pon 16 53 rfl rfl rfl hg8 (p_pure rfl) (by kernel_rfl) rfl rfl ?_
              first | refine d_pon 17 53 rfl rfl rfl hg8 (p_indexAddr rfl rfl rfl sl_46 (m) (by omega) (by omega) rfl) (by kernel_rfl) rfl rfl ?_ | refine d_pon 17 53 rfl rfl rfl hg8 (p_indexAddr rfl rfl rfl sl_46 (m) (by omega) (by omega) (Rw.some hs.1 (by omega))) (by kernel_rfl) rfl rfl ?_ | refine d_pon 17 53 rfl rfl rfl hg8 (p_indexAddr rfl rfl rfl sl_46 (m) (by omega) (by omega) (Rw.some (hs.at hk) (by omega))) (by kernel_rfl) rfl rfl ?_ | refine d_pon 17 53 rfl rfl rfl hg8 (p_indexAddr rfl rfl rfl sl_46 (m) (by omega) (by omega) (Rw.some (hs.at hnl) (by omega))) (by kernel_rfl) rfl rfl ?_
              first | refine d_qon 18 53 [] rfl rfl rfl hg8 (q_loadn rfl rfl sz_62 (by repeat (first | exact .here | apply Pick.there)) rfl) (by kernel_rfl) (by kernel_rfl) (by kernel_rfl) rfl ?_ | refine d_qon 18 53 [] rfl rfl rfl hg8 (q_load_oldn _ rfl rfl sz_62 (hs.1.rdj 4 hk rfl)) (by kernel_rfl) (by kernel_rfl) (by kernel_rfl) rfl ?_ | refine d_qon 18 53 [] rfl rfl rfl hg8 (q_load_oldn _ rfl rfl sz_62 rfl (Rw.rd (hs.at hk) hil)) (by kernel_rfl) (by kernel_rfl) (by kernel_rfl) rfl ?_ | refine d_qon 18 53 [] rfl rfl rfl hg8 (q_load_oldn _ rfl rfl sz_62 (hs.1.rdj 4 hnl rfl)) (by kernel_rfl) (by kernel_rfl) (by kernel_rfl) rfl ?_ | refine d_qon 18 53 [] rfl rfl rfl hg8 (q_load_oldn _ rfl rfl sz_62 rfl (Rw.rd (hs.at hnl) hml)) (by kernel_rfl) (by kernel_rfl) (by kernel_rfl) rfl ?_
              refine d_qon 19 53 [] rfl rfl rfl hg8 (q_call rfl fn_72 rfl (fun w1 h1 => c72 w1 _ _ (okL_nth hvk.1 hil) (okL_nth hvn.1 hml))) (by kernel_rfl) (by kernel_rfl) (by kernel_rfl) rfl ?_
              refine d_p 20 rfl (p_pickt rfl rfl hg8 rfl) (by kernel_rfl) rfl rfl ?_
              refine d_nil (by kernel_rfl) (fun w h => h.ent (by repeat (first | exact .nil | refine .cons (by repeat (first | exact .here | apply Pick.there)) ?_))) ?_
              exact s_joinI () trivial (sl_c (congrArg (fun e => some (Value.bool e)) (by first | (simp_all; done) | (simp_all; intro h9; omega))) (by repeat (first | exact sl_n | refine sl_c rfl ?_))) (fun w h => h.ent (by repeat (first | exact .nil | refine .cons (by repeat (first | exact .here | apply Pick.there)) ?_)))
            · intro hg10
              have hs11 := hg10; try simp only [decide_eq_true_eq, decide_eq_false_iff_not, Bool.not_eq_true', Bool.not_eq_false', Bool.and_eq_true, Bool.or_eq_true, Bool.and_eq_false_iff, Bool.or_eq_false_iff, Bool.not_true, Bool.not_false] at hs11
              refine d_off 9 53 rfl rfl rfl hg10 (by kernel_rfl) rfl rfl ?_
              refine d_off 10 53 rfl rfl rfl hg10 (by kernel_rfl) rfl rfl ?_
              refine d_off 11 53 rfl rfl rfl hg10 (by kernel_rfl) rfl rfl ?_
              refine d_off 12 53 rfl rfl rfl hg10 (by kernel_rfl) rfl rfl ?_
              refine d_off 13 53 rfl rfl rfl hg10 (by kernel_rfl) rfl rfl ?_
              refine d_off 14 53 rfl rfl rfl hg10 (by kernel_rfl) rfl rfl ?_
              refine d_off 15 53 rfl rfl rfl hg10 (by kernel_rfl) rfl rfl ?_
              refine d_off 16 53 rfl rfl rfl hg10 (by kernel_rfl) rfl rfl ?_
              refine d_off 17 53 rfl rfl rfl hg10 (by kernel_rfl) rfl rfl ?_
              refine d_off 18 53 rfl rfl rfl hg10 (by kernel_rfl) rfl rfl ?_
              refine d_off 19 53 rfl rfl rfl hg10 (by kernel_rfl) rfl rfl ?_
              refine d_p 20 rfl (p_pickf rfl rfl hg10 rfl) (by kernel_rfl) rfl rfl ?_
              refine d_nil (by kernel_rfl) (fun w h => h.ent (by repeat (first | exact .nil | refine .cons (by repeat (first | exact .here | apply Pick.there)) ?_))) ?_
              exact s_joinI () trivial (sl_c (congrArg (fun e => some (Value.bool e)) (by first | (simp_all; done) | (simp_all; intro h9; omega))) (by repeat (first | exact sl_n | refine sl_c rfl ?_))) (fun w h => h.ent (by repeat (first | exact .nil | refine .cons (by repeat (first | exact .here | apply Pick.there)) ?_)))
          · intro hg12
            have hs13 := hg12; try simp only [decide_eq_true_eq, decide_eq_false_iff_not, Bool.not_eq_true', Bool.not_eq_false', Bool.and_eq_true, Bool.or_eq_true, Bool.and_eq_false_iff, Bool.or_eq_false_iff, Bool.not_true, Bool.not_false] at hs13
            refine d_pon 4 48 rfl rfl rfl hg12 (p_pure rfl) (by kernel_rfl) rfl rfl ?_
            refine d_pon 5 48 rfl rfl rfl hg12 (p_pure rfl) (by kernel_rfl) rfl rfl ?_
            refine d_pon 6 48 rfl rfl rfl hg12 (p_pure rfl) (by kernel_rfl) rfl rfl ?_
            refine d_p 7 rfl (p_pickf rfl rfl hg12 rfl) (by kernel_rfl) rfl rfl ?_
            refine d_p 8 rfl (p_pure rfl) (by kernel_rfl) rfl rfl ?_
            apply d_split 53
            · exact rfl
            · intro hg14
              have hs15 := hg14; try simp only [decide_eq_true_eq, decide_eq_false_iff_not, Bool.not_eq_true', Bool.not_eq_false', Bool.and_eq_true, Bool.or_eq_true, Bool.and_eq_false_iff, Bool.or_eq_false_iff, Bool.not_true, Bool.not_false] at hs15
              first | refine d_qon 9 53 [] rfl rfl rfl hg14 (q_loadn rfl rfl sz_62 (by repeat (first | exact .here | apply Pick.there)) rfl) (by kernel_rfl) (by kernel_rfl) (by kernel_rfl) rfl ?_ | refine d_qon 9 53 [] rfl rfl rfl hg14 (q_load_oldn _ rfl rfl sz_62 (hs.1.rdj 4 hk rfl)) (by kernel_rfl) (by kernel_rfl) (by kernel_rfl) rfl ?_ | refine d_qon 9 53 [] rfl rfl rfl hg14 (q_load_oldn _ rfl rfl sz_62 rfl (Rw.rd (hs.at hk) hil)) (by kernel_rfl) (by kernel_rfl) (by kernel_rfl) rfl ?_ | refine d_qon 9 53 [] rfl rfl rfl hg14 (q_load_oldn _ rfl rfl sz_62 (hs.1.rdj 4 hnl rfl)) (by kernel_rfl) (by kernel_rfl) (by kernel_rfl) rfl ?_ | refine d_qon 9 53 [] rfl rfl rfl hg14 (q_load_oldn _ rfl rfl sz_62 rfl (Rw.rd (hs.at hnl) hml)) (by kernel_rfl) (by kernel_rfl) (by kernel_rfl) rfl ?_
              refine d_pon 10 53 rfl rfl rfl hg14 (p_fieldAddr rfl rfl fd_77_2 sz_75 rfl) (by kernel_rfl) rfl rfl ?_
              first | refine d_qon 11 53 [] rfl rfl rfl hg14 (q_load rfl rfl sz_75 (by repeat (first | exact .here | apply Pick.there)) rfl) (by kernel_rfl) (by kernel_rfl) (by kernel_rfl) rfl ?_ | refine d_qon 11 53 [] rfl rfl rfl hg14 (q_load_old rfl rfl sz_75 ((hs.1.rdj 4 hk rfl))) (by kernel_rfl) (by kernel_rfl) (by kernel_rfl) rfl ?_ | refine d_qon 11 53 [] rfl rfl rfl hg14 (q_load_old rfl rfl sz_75 (rfl (Rw.rd (hs.at hk) hil))) (by kernel_rfl) (by kernel_rfl) (by kernel_rfl) rfl ?_ | refine d_qon 11 53 [] rfl rfl rfl hg14 (q_load_old rfl rfl sz_75 ((hs.1.rdj 4 hnl rfl))) (by kernel_rfl) (by kernel_rfl) (by kernel_rfl) rfl ?_ | refine d_qon 11 53 [] rfl rfl rfl hg14 (q_load_old rfl rfl sz_75 (rfl (Rw.rd (hs.at hnl) hml))) (by kernel_rfl) (by kernel_rfl) (by kernel_rfl) rfl ?_
              refine d_pon 12 53 rfl rfl rfl hg14 (p_pure rfl) (by kernel_rfl) rfl rfl ?_
              first | refine d_pon 13 53 rfl rfl rfl hg14 (p_indexAddr rfl rfl rfl sl_75 (n) (by omega) (by omega) rfl) (by kernel_rfl) rfl rfl ?_ | refine d_pon 13 53 rfl rfl rfl hg14 (p_indexAddr rfl rfl rfl sl_75 (n) (by omega) (by omega) (Rw.some hs.1 (by omega))) (by kernel_rfl) rfl rfl ?_ | refine d_pon 13 53 rfl rfl rfl hg14 (p_indexAddr rfl rfl rfl sl_75 (n) (by omega) (by omega) (Rw.some (hs.at hk) (by omega))) (by kernel_rfl) rfl rfl ?_ | refine d_pon 13 53 rfl rfl rfl hg14 (p_indexAddr rfl rfl rfl sl_75 (n) (by omega) (by omega) (Rw.some (hs.at hnl) (by omega))) (by kernel_rfl) rfl rfl ?_
              refine d_pon 14 53 rfl rfl rfl hg14 (p_fieldAddr rfl rfl fd_48_4 sz_46 rfl) (by kernel_rfl) rfl rfl ?_
              first | refine d_qon 15 53 [] rfl rfl rfl hg14 (q_load rfl rfl sz_46 (by repeat (first | exact .here | apply Pick.there)) rfl) (by kernel_rfl) (by kernel_rfl) (by kernel_rfl) rfl ?_ | refine d_qon 15 53 [] rfl rfl rfl hg14 (q_load_old rfl rfl sz_46 ((hs.1.rdj 4 hk rfl))) (by kernel_rfl) (by kernel_rfl) (by kernel_rfl) rfl ?_ | refine d_qon 15 53 [] rfl rfl rfl hg14 (q_load_old rfl rfl sz_46 (rfl (Rw.rd (hs.at hk) hil))) (by kernel_rfl) (by kernel_rfl) (by kernel_rfl) rfl ?_ | refine d_qon 15 53 [] rfl rfl rfl hg14 (q_load_old rfl rfl sz_46 ((hs.1.rdj 4 hnl rfl))) (by kernel_rfl) (by kernel_rfl) (by kernel_rfl) rfl ?_ | refine d_qon 15 53 [] rfl rfl rfl hg14 (q_load_old rfl rfl sz_46 (rfl (Rw.rd (hs.at hnl) hml))) (by kernel_rfl) (by kernel_rfl) (by kernel_rfl) rfl ?_
              refine d_pon 16 53 rfl rfl rfl hg14 (p_pure rfl) (by kernel_rfl) rfl rfl ?_
              first | refine d_pon 17 53 rfl rfl rfl hg14 (p_indexAddr rfl rfl rfl sl_46 (m) (by omega) (by omega) rfl) (by kernel_rfl) rfl rfl ?_ | refine d_pon 17 53 rfl rfl rfl hg14 (p_indexAddr rfl rfl rfl sl_46 (m) (by omega) (by omega) (Rw.some hs.1 (by omega))) (by kernel_rfl) rfl rfl ?_ | refine d_pon 17 53 rfl rfl rfl hg14 (p_indexAddr rfl rfl rfl sl_46 (m) (by omega) (by omega) (Rw.some (hs.at hk) (by omega))) (by kernel_rfl) rfl rfl ?_ | refine d_pon 17 53 rfl rfl rfl hg14 (p_indexAddr rfl rfl rfl sl_46 (m) (by omega) (by omega) (Rw.some (hs.at hnl) (by omega))) (by kernel_rfl) rfl rfl ?_
              first | refine d_qon 18 53 [] rfl rfl rfl hg14 (q_loadn rfl rfl sz_62 (by repeat (first | exact .here | apply Pick.there)) rfl) (by kernel_rfl) (by kernel_rfl) (by kernel_rfl) rfl ?_ | refine d_qon 18 53 [] rfl rfl rfl hg14 (q_load_oldn _ rfl rfl sz_62 (hs.1.rdj 4 hk rfl)) (by kernel_rfl) (by kernel_rfl) (by kernel_rfl) rfl ?_ | refine d_qon 18 53 [] rfl rfl rfl hg14 (q_load_oldn _ rfl rfl sz_62 rfl (Rw.rd (hs.at hk) hil)) (by kernel_rfl) (by kernel_rfl) (by kernel_rfl) rfl ?_ | refine d_qon 18 53 [] rfl rfl rfl hg14 (q_load_oldn _ rfl rfl sz_62 (hs.1.rdj 4 hnl rfl)) (by kernel_rfl) (by kernel_rfl) (by kernel_rfl) rfl ?_ | refine d_qon 18 53 [] rfl rfl rfl hg14 (q_load_oldn _ rfl rfl sz_62 rfl (Rw.rd (hs.at hnl) hml)) (by kernel_rfl) (by kernel_rfl) (by kernel_rfl) rfl ?_
              refine d_qon 19 53 [] rfl rfl rfl hg14 (q_call rfl fn_72 rfl (fun w1 h1 => c72 w1 _ _ (okL_nth hvk.1 hil) (okL_nth hvn.1 hml))) (by kernel_rfl) (by kernel_rfl) (by kernel_rfl) rfl ?_
              refine d_p 20 rfl (p_pickt rfl rfl hg14 rfl) (by kernel_rfl) rfl rfl ?_
              refine d_nil (by kernel_rfl) (fun w h => h.ent (by repeat (first | exact .nil | refine .cons (by repeat (first | exact .here | apply Pick.there)) ?_))) ?_
              exact s_joinI () trivial (sl_c (congrArg (fun e => some (Value.bool e)) (by first | (simp_all; done) | (simp_all; intro h9; omega))) (by repeat (first | exact sl_n | refine sl_c rfl ?_))) (fun w h => h.ent (by repeat (first | exact .nil | refine .cons (by repeat (first | exact .here | apply Pick.there)) ?_)))
            · intro hg16
              have hs17 := hg16; try simp only [decide_eq_true_eq, decide_eq_false_iff_not, Bool.not_eq_true', Bool.not_eq_false', Bool.and_eq_true, Bool.or_eq_true, Bool.and_eq_false_iff, Bool.or_eq_false_iff, Bool.not_true, Bool.not_false] at hs17
              refine d_off 9 53 rfl rfl rfl hg16 (by kernel_rfl) rfl rfl ?_
              refine d_off 10 53 rfl rfl rfl hg16 (by kernel_rfl) rfl rfl ?_
              refine d_off 11 53 rfl rfl rfl hg16 (by kernel_rfl) rfl rfl ?_
              refine d_off 12 53 rfl rfl rfl hg16 (by kernel_rfl) rfl rfl ?_
              refine d_off 13 53 rfl rfl rfl hg16 (by kernel_rfl) rfl rfl ?_
              refine d_off 14 53 rfl rfl rfl hg16 (by kernel_rfl) rfl rfl ?_
              refine d_off 15 53 rfl rfl rfl hg16 (by kernel_rfl) rfl rfl ?_
              refine d_off 16 53 rfl rfl rfl hg16 (by kernel_rfl) rfl rfl ?_
              refine d_off 17 53 rfl rfl rfl hg16 (by kernel_rfl) rfl rfl ?_
              refine d_off 18 53 rfl rfl rfl hg16 (by kernel_rfl) rfl rfl ?_
              refine d_off 19 53 rfl rfl rfl hg16 (by kernel_rfl) rfl rfl ?_
              refine d_p 20 rfl (p_pickf rfl rfl hg16 rfl) (by kernel_rfl) rfl rfl ?_
              refine d_nil (by kernel_rfl) (fun w h => h.ent (by repeat (first | exact .nil | refine .cons (by repeat (first | exact .here | apply Pick.there)) ?_))) ?_
              exact s_joinI () trivial (sl_c (congrArg (fun e => some (Value.bool e)) (by first | (simp_all; done) | (simp_all; intro h9; omega))) (by repeat (first | exact sl_n | refine sl_c rfl ?_))) (fun w h => h.ent (by repeat (first | exact .nil | refine .cons (by repeat (first | exact .here | apply Pick.there)) ?_)))
        · intro _ _
          refine s_cond rfl (fun h18 => ?_) (fun h18 => ?_)
          · try simp only [decide_eq_true_eq, decide_eq_false_iff_not, Bool.not_eq_true', Bool.not_eq_false', Bool.and_eq_true, Bool.or_eq_true, Bool.and_eq_false_iff, Bool.or_eq_false_iff, Bool.not_true, Bool.not_false] at h18
            have hhit : (n < k ∨ m < i) ∧ clsh (nth (nth f.op k).lk i) (nth (nth f.op n).lk m) = true := by have hq := h18; simpa using hq
            refine s_seq ?_
            refine s_region ?_
            refine o_p (p_pure rfl) rfl ?_
            refine o_nil ?_
            exact s_retv (rs := [.tmp 4]) rfl (.tmp rfl (.nil)) (fun w' h' => ⟨by rw [hi2, lockedE_drop hil, if_pos (noCl_hit hk hnl hml hnk hhit.1 hhit.2)]; rfl, h'.below⟩)
          · try simp only [decide_eq_true_eq, decide_eq_false_iff_not, Bool.not_eq_true', Bool.not_eq_false', Bool.and_eq_true, Bool.or_eq_true, Bool.and_eq_false_iff, Bool.or_eq_false_iff, Bool.not_true, Bool.not_false] at h18
            have hmiss : (n < k ∨ m < i) → clsh (nth (nth f.op k).lk i) (nth (nth f.op n).lk m) = false := by have hq := h18; (try simp at hq); intro h9; rcases h9 with h9 | h9 <;> grind
            refine s_skip ?_
            refine s_blk ?_
            refine s_region ?_
            refine o_p (p_pure rfl) rfl ?_
            refine o_p (p_pure rfl) rfl ?_
            try (refine o_slot (i64w (by omega) (by omega)) ?_)
            refine o_p (p_pure rfl) rfl ?_
            refine o_nil ?_
            exact s_backI (m + 1) (by omega) ⟨by omega, fun n2 m2 p1 p2 p3 p4 p5 => (Decidable.em (n2 = n ∧ m2 = m)).elim (fun he => by have q1 := he.1; have q2 := he.2; rw [q1, q2]; exact hmiss (by omega)) (fun he => hm2 n2 m2 p1 p2 (by omega) p4 p5)⟩ (by repeat (first | exact sl_n | refine sl_c rfl ?_)) (fun w h => h.ent (by repeat (first | exact .nil | refine .cons (by repeat (first | exact .here | apply Pick.there)) ?_)))
      · try simp only [decide_eq_true_eq, decide_eq_false_iff_not, Bool.not_eq_true', Bool.not_eq_false', Bool.and_eq_true, Bool.or_eq_true, Bool.and_eq_false_iff, Bool.or_eq_false_iff, Bool.not_true, Bool.not_false] at h5
        refine s_exit_to rfl ?_
        refine s_blk ?_
        refine s_region ?_
        refine o_p (p_pure rfl) rfl ?_
        refine o_p (p_pure rfl) rfl ?_
        try (refine o_slot (i64w (by omega) (by omega)) ?_)
        refine o_p (p_pure rfl) rfl ?_
        refine o_nil ?_
        exact s_backI (n + 1) (by omega) ⟨by omega, fun n2 m2 p1 p2 p3 => hm2 n2 m2 p1 p2 ((Nat.lt_or_ge n2 n).elim Or.inl (fun p9 => .inr (by have e9 : n2 = n := (by omega); rw [e9] at p2; exact ⟨e9, by omega⟩)))⟩ (by repeat (first | exact sl_n | refine sl_c rfl ?_)) (fun w h => h.ent (by repeat (first | exact .nil | refine .cons (by repeat (first | exact .here | apply Pick.there)) ?_)))
    · try simp only [decide_eq_true_eq, decide_eq_false_iff_not, Bool.not_eq_true', Bool.not_eq_false', Bool.and_eq_true, Bool.or_eq_true, Bool.and_eq_false_iff, Bool.or_eq_false_iff, Bool.not_true, Bool.not_false] at h4
      refine s_exit_to rfl ?_
      refine s_blk ?_
      refine s_region ?_
      refine o_p (p_pure rfl) rfl ?_
      refine o_p (p_pure rfl) rfl ?_
      try (refine o_slot (i64w (by omega) (by omega)) ?_)
      refine o_p (p_pure rfl) rfl ?_
      refine o_nil ?_
      exact s_backI (i + 1) (by omega) ⟨by omega, by rw [hi2, lockedE_drop hil, if_neg (by rw [noCl_all hk (n := n) (by omega) hn2]; decide), List.append_assoc, take_succ_nth hil]⟩ (by repeat (first | exact sl_n | refine sl_c rfl ?_)) (fun w h => h.ent (by repeat (first | exact .nil | refine .cons (by repeat (first | exact .here | apply Pick.there)) ?_)))
  · try simp only [decide_eq_true_eq, decide_eq_false_iff_not, Bool.not_eq_true', Bool.not_eq_false', Bool.and_eq_true, Bool.or_eq_true, Bool.and_eq_false_iff, Bool.or_eq_false_iff, Bool.not_true, Bool.not_false] at h2
    refine s_exit_to rfl ?_
    refine s_seq ?_
    refine s_region ?_
    refine o_p (p_pure rfl) rfl ?_
    refine o_nil ?_
    exact s_retv (rs := [.tmp 4]) rfl (.tmp rfl (.nil)) (fun w' h' => ⟨by rw [hi2, List.drop_of_length_le (by omega)]; rfl, h'.below⟩)

end Go.Proofs

namespace Go.Proofs
open Go Go.RowKit Gx
set_option linter.unusedVariables false
set_option linter.unusedSimpArgs false
attribute [local irreducible] Go.Calls Gx.S Gx.O Gx.D Gx.OpP Gx.OpQ Gx.OpH

theorem fn_22 : isFn Try.prog 22 = true := by kernel_rfl
theorem fn_98 : isFn Try.prog 98 = true := by kernel_rfl
theorem fn_23 : isFn Try.prog 23 = true := by kernel_rfl
theorem fn_99 : isFn Try.prog 99 = true := by kernel_rfl


theorem hdl_l {next : Int} {known : List Int} {ops : List LOpn} {k : Nat} (hk : k < ops.length) : hdlE next known (plo ops) k = if ¬ (1 ≤ (nth ops k).hd ∧ (nth ops k).hd ≤ next - 1) then 2 else if ¬ openE (nth ops k).ac (nth ops k).sh = 0 then openE (nth ops k).ac (nth ops k).sh else if ¬ (k = 0 ∨ (nth ops (k - 1)).hd < (nth ops k).hd) then 9 else if ¬ lksE (nth ops k).lk = 0 then lksE (nth ops k).lk else if (nth ops k).hd ∈ known then 23 else if ((plo ops).take k).any (cfl (nth ops k).pl) = true then 28 else lockedE (((plo ops).take k).flatMap Opn.lk) (nth ops k).lk := by
  rw [hdl_r, nth_plo hk, nth_plo (show k - 1 < ops.length by omega)]
  rfl
theorem hdl_okl {next : Int} {known : List Int} {ops : List LOpn} {k : Nat} (hk : k < ops.length) (h : hdlE next known (plo ops) k = 0) : openE (nth ops k).ac (nth ops k).sh = 0 ∧ (nth ops k).lk.length ≤ 16 ∧ okL (nth ops k).lk := by
  have h9 := hdl_ok h
  rw [nth_plo hk] at h9
  exact h9

set_option maxRecDepth 20000 in
set_option maxHeartbeats 1000000 in
theorem c61 (w : World) (next : Int) (a : Option Addr) (cap : Nat) (L : List LFil) (i k : Nat) (hs : Ft w [] a L) (hm : L.length ≤ 1000) (hmo : ∀ f ∈ L, f.op.length ≤ 1000) (hi : i < L.length) (hk : k < (nth L i).op.length) (hn : 1 ≤ next ∧ next ≤ 2147483647) (hv : ∀ j, j < k → hdlE next (hds ((pls L).take i)) (plo (nth L i).op) j = 0) : Calls Try.prog 61 #[.agg #[.int .i64 next, .slice a L.length cap], .int .i64 (i : Int), .int .i64 (k : Int)] w fun en w' => en = .returned (.int .i64 (hdlE next (hds ((pls L).take i)) (plo (nth L i).op) k)) ∧ Below w.heap.size w w' := by
  have hoi := hmo _ (mem_nth hi)
  refine enter (args := [_, _, _]) Try.func61 Try.ntmps61 rfl rfl (HS.refl w []) ?_
  refine s_seq ?_
  refine s_region ?_
  refine o_h (h_box rfl rfl) rfl (fun b1 _ => ?_)
  refine o_p (p_pure rfl) rfl ?_
  refine o_nil ?_
  refine s_seq ?_
  refine s_region ?_
  refine o_p (p_fieldAddr rfl rfl fd_26_1 sz_24 rfl) rfl ?_
  first | refine o_q (q_load rfl rfl sz_24 (by repeat (first | exact .here | apply Pick.there)) rfl) rfl ?_ | refine o_q (q_load_old rfl rfl sz_24 (rfl (Rw.rd hs.1 hi))) rfl ?_ | refine o_q (q_load_old rfl rfl sz_24 (rfl (Rw.rd (hs.at hi).1 hk))) rfl ?_ | refine o_q (q_load_old rfl rfl sz_24 (((hs.at hi).1.rdj 0 (show k - 1 < (nth L i).op.length by omega) rfl))) rfl ?_ | refine o_q (q_load_old rfl rfl sz_24 ((hs.1.rdj 3 hnl rfl))) rfl ?_ | refine o_q (q_load_old rfl rfl sz_24 (((hs.at hnl).1.rdj 0 hml rfl))) rfl ?_ | refine o_q (q_load_old rfl rfl sz_24 (rfl (Rw.rd (hs.at hi).1 hpl))) rfl ?_
  refine o_p (p_pure rfl) rfl ?_
  first | refine o_p (p_indexAddr rfl rfl rfl sl_24 (i) (by omega) (by omega) rfl) rfl ?_ | refine o_p (p_indexAddr rfl rfl rfl sl_24 (i) (by omega) (by omega) (Rw.some hs.1 (by omega))) rfl ?_ | refine o_p (p_indexAddr rfl rfl rfl sl_24 (i) (by omega) (by omega) (Rw.some (hs.at hi).1 (by omega))) rfl ?_ | refine o_p (p_indexAddr rfl rfl rfl sl_24 (i) (by omega) (by omega) (Rw.some (hs.at hnl).1 (by omega))) rfl ?_
  first | refine o_q (q_loadn rfl rfl sz_77 (by repeat (first | exact .here | apply Pick.there)) rfl) rfl ?_ | refine o_q (q_load_oldn _ rfl rfl sz_77 rfl (Rw.rd hs.1 hi)) rfl ?_ | refine o_q (q_load_oldn _ rfl rfl sz_77 rfl (Rw.rd (hs.at hi).1 hk)) rfl ?_ | refine o_q (q_load_oldn _ rfl rfl sz_77 ((hs.at hi).1.rdj 0 (show k - 1 < (nth L i).op.length by omega) rfl)) rfl ?_ | refine o_q (q_load_oldn _ rfl rfl sz_77 (hs.1.rdj 3 hnl rfl)) rfl ?_ | refine o_q (q_load_oldn _ rfl rfl sz_77 ((hs.at hnl).1.rdj 0 hml rfl)) rfl ?_ | refine o_q (q_load_oldn _ rfl rfl sz_77 rfl (Rw.rd (hs.at hi).1 hpl)) rfl ?_
  refine o_h (h_alloc rfl zr_77) rfl (fun b2 _ => ?_)
  refine o_h0 (h_store rfl rfl rfl sz_77 rfl (by repeat (first | exact .here | apply Put.there)) (by simp only [setMany_length, List.length_set, List.length_cons, List.length_nil, List.length_map]; omega) rfl) (fun _ _ => ?_)
  refine o_nil ?_
  refine s_seq ?_
  refine s_region ?_
  refine o_p (p_fieldAddr rfl rfl fd_77_2 sz_75 rfl) rfl ?_
  first | refine o_q (q_load rfl rfl sz_75 (by repeat (first | exact .here | apply Pick.there)) rfl) rfl ?_ | refine o_q (q_load_old rfl rfl sz_75 (rfl (Rw.rd hs.1 hi))) rfl ?_ | refine o_q (q_load_old rfl rfl sz_75 (rfl (Rw.rd (hs.at hi).1 hk))) rfl ?_ | refine o_q (q_load_old rfl rfl sz_75 (((hs.at hi).1.rdj 0 (show k - 1 < (nth L i).op.length by omega) rfl))) rfl ?_ | refine o_q (q_load_old rfl rfl sz_75 ((hs.1.rdj 3 hnl rfl))) rfl ?_ | refine o_q (q_load_old rfl rfl sz_75 (((hs.at hnl).1.rdj 0 hml rfl))) rfl ?_ | refine o_q (q_load_old rfl rfl sz_75 (rfl (Rw.rd (hs.at hi).1 hpl))) rfl ?_
  refine o_p (p_pure rfl) rfl ?_
  first | refine o_p (p_indexAddr rfl rfl rfl sl_75 (k) (by omega) (by omega) rfl) rfl ?_ | refine o_p (p_indexAddr rfl rfl rfl sl_75 (k) (by omega) (by omega) (Rw.some hs.1 (by omega))) rfl ?_ | refine o_p (p_indexAddr rfl rfl rfl sl_75 (k) (by omega) (by omega) (Rw.some (hs.at hi).1 (by omega))) rfl ?_ | refine o_p (p_indexAddr rfl rfl rfl sl_75 (k) (by omega) (by omega) (Rw.some (hs.at hnl).1 (by omega))) rfl ?_
  first | refine o_q (q_loadn rfl rfl sz_48 (by repeat (first | exact .here | apply Pick.there)) rfl) rfl ?_ | refine o_q (q_load_oldn _ rfl rfl sz_48 rfl (Rw.rd hs.1 hi)) rfl ?_ | refine o_q (q_load_oldn _ rfl rfl sz_48 rfl (Rw.rd (hs.at hi).1 hk)) rfl ?_ | refine o_q (q_load_oldn _ rfl rfl sz_48 ((hs.at hi).1.rdj 0 (show k - 1 < (nth L i).op.length by omega) rfl)) rfl ?_ | refine o_q (q_load_oldn _ rfl rfl sz_48 (hs.1.rdj 3 hnl rfl)) rfl ?_ | refine o_q (q_load_oldn _ rfl rfl sz_48 ((hs.at hnl).1.rdj 0 hml rfl)) rfl ?_ | refine o_q (q_load_oldn _ rfl rfl sz_48 rfl (Rw.rd (hs.at hi).1 hpl)) rfl ?_
  refine o_h (h_alloc rfl zr_48) rfl (fun b3 _ => ?_)
  refine o_h0 (h_store rfl rfl rfl sz_48 rfl (by repeat (first | exact .here | apply Put.there)) (by simp only [setMany_length, List.length_set, List.length_cons, List.length_nil, List.length_map]; omega) rfl) (fun _ _ => ?_)
  refine o_nil ?_
  refine s_seq ?_
  refine s_seq ?_
  refine s_region ?_
  refine o_p (p_fieldAddr rfl rfl fd_48_0 sz_3 rfl) rfl ?_
  first | refine o_q (q_load rfl rfl sz_3 (by repeat (first | exact .here | apply Pick.there)) rfl) rfl ?_ | refine o_q (q_load_old rfl rfl sz_3 (rfl (Rw.rd hs.1 hi))) rfl ?_ | refine o_q (q_load_old rfl rfl sz_3 (rfl (Rw.rd (hs.at hi).1 hk))) rfl ?_ | refine o_q (q_load_old rfl rfl sz_3 (((hs.at hi).1.rdj 0 (show k - 1 < (nth L i).op.length by omega) rfl))) rfl ?_ | refine o_q (q_load_old rfl rfl sz_3 ((hs.1.rdj 3 hnl rfl))) rfl ?_ | refine o_q (q_load_old rfl rfl sz_3 (((hs.at hnl).1.rdj 0 hml rfl))) rfl ?_ | refine o_q (q_load_old rfl rfl sz_3 (rfl (Rw.rd (hs.at hi).1 hpl))) rfl ?_
  refine o_p (p_fieldAddr rfl rfl fd_26_0 sz_3 rfl) rfl ?_
  first | refine o_q (q_load rfl rfl sz_3 (by repeat (first | exact .here | apply Pick.there)) rfl) rfl ?_ | refine o_q (q_load_old rfl rfl sz_3 (rfl (Rw.rd hs.1 hi))) rfl ?_ | refine o_q (q_load_old rfl rfl sz_3 (rfl (Rw.rd (hs.at hi).1 hk))) rfl ?_ | refine o_q (q_load_old rfl rfl sz_3 (((hs.at hi).1.rdj 0 (show k - 1 < (nth L i).op.length by omega) rfl))) rfl ?_ | refine o_q (q_load_old rfl rfl sz_3 ((hs.1.rdj 3 hnl rfl))) rfl ?_ | refine o_q (q_load_old rfl rfl sz_3 (((hs.at hnl).1.rdj 0 hml rfl))) rfl ?_ | refine o_q (q_load_old rfl rfl sz_3 (rfl (Rw.rd (hs.at hi).1 hpl))) rfl ?_
  refine o_p (p_pure rfl) rfl ?_
  try (refine o_slot (i64w (by omega) (by omega)) ?_)
  refine o_q (q_call rfl fn_16 rfl (fun w1 h1 => c16 w1 _ _ _)) rfl ?_
  refine o_p (p_pure rfl) rfl ?_
  refine o_nil ?_
  refine s_cond rfl (fun h4 => ?_) (fun h4 => ?_)
  · try simp only [decide_eq_true_eq, decide_eq_false_iff_not, Bool.not_eq_true', Bool.not_eq_false', Bool.and_eq_true, Bool.or_eq_true, Bool.and_eq_false_iff, Bool.or_eq_false_iff, Bool.not_true, Bool.not_false] at h4
    have hA : ¬ (1 ≤ (nth (nth L i).op k).hd ∧ (nth (nth L i).op k).hd ≤ next - 1) := by have hq := h4; (try simp at hq); omega
    refine s_seq ?_
    refine s_region ?_
    refine o_p (p_pure rfl) rfl ?_
    refine o_nil ?_
    exact s_retv (rs := [.tmp 6]) rfl (.tmp rfl (.nil)) (fun w' h' => ⟨by rw [hdl_l hk, if_pos hA]; rfl, h'.below⟩)
  · try simp only [decide_eq_true_eq, decide_eq_false_iff_not, Bool.not_eq_true', Bool.not_eq_false', Bool.and_eq_true, Bool.or_eq_true, Bool.and_eq_false_iff, Bool.or_eq_false_iff, Bool.not_true, Bool.not_false] at h4
    have hA : 1 ≤ (nth (nth L i).op k).hd ∧ (nth (nth L i).op k).hd ≤ next - 1 := by have hq := h4; (try simp at hq); omega
    refine s_skip ?_
    refine s_seq ?_
    refine s_seq ?_
    refine s_region ?_
    first | refine o_q (q_loadn rfl rfl sz_48 (by repeat (first | exact .here | apply Pick.there)) rfl) rfl ?_ | refine o_q (q_load_oldn _ rfl rfl sz_48 rfl (Rw.rd hs.1 hi)) rfl ?_ | refine o_q (q_load_oldn _ rfl rfl sz_48 rfl (Rw.rd (hs.at hi).1 hk)) rfl ?_ | refine o_q (q_load_oldn _ rfl rfl sz_48 ((hs.at hi).1.rdj 0 (show k - 1 < (nth L i).op.length by omega) rfl)) rfl ?_ | refine o_q (q_load_oldn _ rfl rfl sz_48 (hs.1.rdj 3 hnl rfl)) rfl ?_ | refine o_q (q_load_oldn _ rfl rfl sz_48 ((hs.at hnl).1.rdj 0 hml rfl)) rfl ?_ | refine o_q (q_load_oldn _ rfl rfl sz_48 rfl (Rw.rd (hs.at hi).1 hpl)) rfl ?_
    refine o_q (q_call rfl fn_22 rfl (fun w1 h1 => c22 w1 (nth (nth L i).op k))) rfl ?_
    refine o_p (p_pure rfl) rfl ?_
    refine o_nil ?_
    refine s_seq ?_
    refine s_region ?_
    refine o_p (p_pure rfl) rfl ?_
    refine o_p (p_pure rfl) rfl ?_
    refine o_nil ?_
    refine s_cond rfl (fun h5 => ?_) (fun h5 => ?_)
    · try simp only [decide_eq_true_eq, decide_eq_false_iff_not, Bool.not_eq_true', Bool.not_eq_false', Bool.and_eq_true, Bool.or_eq_true, Bool.and_eq_false_iff, Bool.or_eq_false_iff, Bool.not_true, Bool.not_false] at h5
      have hB : ¬ openE (nth (nth L i).op k).ac (nth (nth L i).op k).sh = 0 := h5
      refine s_seq ?_
      refine s_region ?_
      refine o_p (p_pure rfl) rfl ?_
      refine o_p (p_pure rfl) rfl ?_
      refine o_nil ?_
      exact s_retv (rs := [.tmp 6]) rfl (.tmp rfl (.nil)) (fun w' h' => ⟨by rw [hdl_l hk, if_neg (not_not_intro hA), if_pos hB]; rfl, h'.below⟩)
    · try simp only [decide_eq_true_eq, decide_eq_false_iff_not, Bool.not_eq_true', Bool.not_eq_false', Bool.and_eq_true, Bool.or_eq_true, Bool.and_eq_false_iff, Bool.or_eq_false_iff, Bool.not_true, Bool.not_false] at h5
      have hB : openE (nth (nth L i).op k).ac (nth (nth L i).op k).sh = 0 := h5
      refine s_skip ?_
      refine s_seq ?_
      refine s_seq ?_
      refine s_weaken (L' := [(1, _), (2, _), (3, _), (6, _), (7, _), (8, _)]) (by repeat (first | exact sl_n | refine sl_c rfl ?_)) (fun _ h => h) ?_
      refine s_cutI (α := Unit) [36, 37, 38, 39, 40, 41, 42, 43, 44, 45, 46, 47, 48, 49] (fun _ => [(49, .bool (decide (¬ (k = 0 ∨ (nth (nth L i).op (k - 1)).hd < (nth (nth L i).op k).hd))))]) (fun _ => HS w [] [.blk b1 26 2 [.int .i64 next, .slice a L.length cap], .blk b2 77 4 (nth L i).vals, .blk b3 48 5 (nth (nth L i).op k).vals]) (fun _ => True) ?_ ?_
      · skip
        refine s_draw [] mixed ?_
        refine d_p 0 rfl (p_pure rfl) (by kernel_rfl) rfl rfl ?_
        refine d_p 1 rfl (p_pure rfl) (by kernel_rfl) rfl rfl ?_
        refine d_p 2 rfl (p_pure rfl) (by kernel_rfl) rfl rfl ?_
        apply d_split 38
        · exact rfl
        · intro hg6
          have hs7 := hg6; try simp only [decide_eq_true_eq, decide_eq_false_iff_not, Bool.not_eq_true', Bool.not_eq_false', Bool.and_eq_true, Bool.or_eq_true, Bool.and_eq_false_iff, Bool.or_eq_false_iff, Bool.not_true, Bool.not_false] at hs7
          refine d_pon 3 38 rfl rfl rfl hg6 (p_fieldAddr rfl rfl fd_48_0 sz_3 rfl) (by kernel_rfl) rfl rfl ?_
          first | refine d_qon 4 38 [] rfl rfl rfl hg6 (q_load rfl rfl sz_3 (by repeat (first | exact .here | apply Pick.there)) rfl) (by kernel_rfl) (by kernel_rfl) (by kernel_rfl) rfl ?_ | refine d_qon 4 38 [] rfl rfl rfl hg6 (q_load_old rfl rfl sz_3 (rfl (Rw.rd hs.1 hi))) (by kernel_rfl) (by kernel_rfl) (by kernel_rfl) rfl ?_ | refine d_qon 4 38 [] rfl rfl rfl hg6 (q_load_old rfl rfl sz_3 (rfl (Rw.rd (hs.at hi).1 hk))) (by kernel_rfl) (by kernel_rfl) (by kernel_rfl) rfl ?_ | refine d_qon 4 38 [] rfl rfl rfl hg6 (q_load_old rfl rfl sz_3 (((hs.at hi).1.rdj 0 (show k - 1 < (nth L i).op.length by omega) rfl))) (by kernel_rfl) (by kernel_rfl) (by kernel_rfl) rfl ?_ | refine d_qon 4 38 [] rfl rfl rfl hg6 (q_load_old rfl rfl sz_3 ((hs.1.rdj 3 hnl rfl))) (by kernel_rfl) (by kernel_rfl) (by kernel_rfl) rfl ?_ | refine d_qon 4 38 [] rfl rfl rfl hg6 (q_load_old rfl rfl sz_3 (((hs.at hnl).1.rdj 0 hml rfl))) (by kernel_rfl) (by kernel_rfl) (by kernel_rfl) rfl ?_ | refine d_qon 4 38 [] rfl rfl rfl hg6 (q_load_old rfl rfl sz_3 (rfl (Rw.rd (hs.at hi).1 hpl))) (by kernel_rfl) (by kernel_rfl) (by kernel_rfl) rfl ?_
          refine d_pon 5 38 rfl rfl rfl hg6 (p_fieldAddr rfl rfl fd_77_2 sz_75 rfl) (by kernel_rfl) rfl rfl ?_
          first | refine d_qon 6 38 [] rfl rfl rfl hg6 (q_load rfl rfl sz_75 (by repeat (first | exact .here | apply Pick.there)) rfl) (by kernel_rfl) (by kernel_rfl) (by kernel_rfl) rfl ?_ | refine d_qon 6 38 [] rfl rfl rfl hg6 (q_load_old rfl rfl sz_75 (rfl (Rw.rd hs.1 hi))) (by kernel_rfl) (by kernel_rfl) (by kernel_rfl) rfl ?_ | refine d_qon 6 38 [] rfl rfl rfl hg6 (q_load_old rfl rfl sz_75 (rfl (Rw.rd (hs.at hi).1 hk))) (by kernel_rfl) (by kernel_rfl) (by kernel_rfl) rfl ?_ | refine d_qon 6 38 [] rfl rfl rfl hg6 (q_load_old rfl rfl sz_75 (((hs.at hi).1.rdj 0 (show k - 1 < (nth L i).op.length by omega) rfl))) (by kernel_rfl) (by kernel_rfl) (by kernel_rfl) rfl ?_ | refine d_qon 6 38 [] rfl rfl rfl hg6 (q_load_old rfl rfl sz_75 ((hs.1.rdj 3 hnl rfl))) (by kernel_rfl) (by kernel_rfl) (by kernel_rfl) rfl ?_ | refine d_qon 6 38 [] rfl rfl rfl hg6 (q_load_old rfl rfl sz_75 (((hs.at hnl).1.rdj 0 hml rfl))) (by kernel_rfl) (by kernel_rfl) (by kernel_rfl) rfl ?_ | refine d_qon 6 38 [] rfl rfl rfl hg6 (q_load_old rfl rfl sz_75 (rfl (Rw.rd (hs.at hi).1 hpl))) (by kernel_rfl) (by kernel_rfl) (by kernel_rfl) rfl ?_
          refine d_pon 7 38 rfl rfl rfl hg6 (p_pure rfl) (by kernel_rfl) rfl rfl ?_
          refine d_pon 8 38 rfl rfl rfl hg6 (p_pure rfl) (by kernel_rfl) rfl rfl ?_
          try (refine d_slot (i64w (by omega) (by omega)) ?_)
          first | refine d_pon 9 38 rfl rfl rfl hg6 (p_indexAddr rfl rfl rfl sl_75 ((k - 1)) (by omega) (by omega) rfl) (by kernel_rfl) rfl rfl ?_ | refine d_pon 9 38 rfl rfl rfl hg6 (p_indexAddr rfl rfl rfl sl_75 ((k - 1)) (by omega) (by omega) (Rw.some hs.1 (by omega))) (by kernel_rfl) rfl rfl ?_ | refine d_pon 9 38 rfl rfl rfl hg6 (p_indexAddr rfl rfl rfl sl_75 ((k - 1)) (by omega) (by omega) (Rw.some (hs.at hi).1 (by omega))) (by kernel_rfl) rfl rfl ?_ | refine d_pon 9 38 rfl rfl rfl hg6 (p_indexAddr rfl rfl rfl sl_75 ((k - 1)) (by omega) (by omega) (Rw.some (hs.at hnl).1 (by omega))) (by kernel_rfl) rfl rfl ?_
          refine d_pon 10 38 rfl rfl rfl hg6 (p_fieldAddr rfl rfl fd_48_0 sz_3 rfl) (by kernel_rfl) rfl rfl ?_
          first | refine d_qon 11 38 [] rfl rfl rfl hg6 (q_load rfl rfl sz_3 (by repeat (first | exact .here | apply Pick.there)) rfl) (by kernel_rfl) (by kernel_rfl) (by kernel_rfl) rfl ?_ | refine d_qon 11 38 [] rfl rfl rfl hg6 (q_load_old rfl rfl sz_3 (rfl (Rw.rd hs.1 hi))) (by kernel_rfl) (by kernel_rfl) (by kernel_rfl) rfl ?_ | refine d_qon 11 38 [] rfl rfl rfl hg6 (q_load_old rfl rfl sz_3 (rfl (Rw.rd (hs.at hi).1 hk))) (by kernel_rfl) (by kernel_rfl) (by kernel_rfl) rfl ?_ | refine d_qon 11 38 [] rfl rfl rfl hg6 (q_load_old rfl rfl sz_3 (((hs.at hi).1.rdj 0 (show k - 1 < (nth L i).op.length by omega) rfl))) (by kernel_rfl) (by kernel_rfl) (by kernel_rfl) rfl ?_ | refine d_qon 11 38 [] rfl rfl rfl hg6 (q_load_old rfl rfl sz_3 ((hs.1.rdj 3 hnl rfl))) (by kernel_rfl) (by kernel_rfl) (by kernel_rfl) rfl ?_ | refine d_qon 11 38 [] rfl rfl rfl hg6 (q_load_old rfl rfl sz_3 (((hs.at hnl).1.rdj 0 hml rfl))) (by kernel_rfl) (by kernel_rfl) (by kernel_rfl) rfl ?_ | refine d_qon 11 38 [] rfl rfl rfl hg6 (q_load_old rfl rfl sz_3 (rfl (Rw.rd (hs.at hi).1 hpl))) (by kernel_rfl) (by kernel_rfl) (by kernel_rfl) rfl ?_
          refine d_pon 12 38 rfl rfl rfl hg6 (p_pure rfl) (by kernel_rfl) rfl rfl ?_
          refine d_p 13 rfl (p_pickt rfl rfl hg6 rfl) (by kernel_rfl) rfl rfl ?_
          refine d_nil (by kernel_rfl) (fun w h => h.ent (by repeat (first | exact .nil | refine .cons (by repeat (first | exact .here | apply Pick.there)) ?_))) ?_
          exact s_joinI () trivial (sl_c (congrArg (fun e => some (Value.bool e)) (by have hq := hg6; simp at hq; first | (rw [decide_eq_decide]; omega) | (subst hq; simp; done) | (have h0 : k = 0 := by omega); simp [h0])) (by repeat (first | exact sl_n | refine sl_c rfl ?_))) (fun w h => h.ent (by repeat (first | exact .nil | refine .cons (by repeat (first | exact .here | apply Pick.there)) ?_)))
        · intro hg8
          have hs9 := hg8; try simp only [decide_eq_true_eq, decide_eq_false_iff_not, Bool.not_eq_true', Bool.not_eq_false', Bool.and_eq_true, Bool.or_eq_true, Bool.and_eq_false_iff, Bool.or_eq_false_iff, Bool.not_true, Bool.not_false] at hs9
          refine d_off 3 38 rfl rfl rfl hg8 (by kernel_rfl) rfl rfl ?_
          refine d_off 4 38 rfl rfl rfl hg8 (by kernel_rfl) rfl rfl ?_
          refine d_off 5 38 rfl rfl rfl hg8 (by kernel_rfl) rfl rfl ?_
          refine d_off 6 38 rfl rfl rfl hg8 (by kernel_rfl) rfl rfl ?_
          refine d_off 7 38 rfl rfl rfl hg8 (by kernel_rfl) rfl rfl ?_
          refine d_off 8 38 rfl rfl rfl hg8 (by kernel_rfl) rfl rfl ?_
          refine d_off 9 38 rfl rfl rfl hg8 (by kernel_rfl) rfl rfl ?_
          refine d_off 10 38 rfl rfl rfl hg8 (by kernel_rfl) rfl rfl ?_
          refine d_off 11 38 rfl rfl rfl hg8 (by kernel_rfl) rfl rfl ?_
          refine d_off 12 38 rfl rfl rfl hg8 (by kernel_rfl) rfl rfl ?_
          refine d_p 13 rfl (p_pickf rfl rfl hg8 rfl) (by kernel_rfl) rfl rfl ?_
          refine d_nil (by kernel_rfl) (fun w h => h.ent (by repeat (first | exact .nil | refine .cons (by repeat (first | exact .here | apply Pick.there)) ?_))) ?_
          exact s_joinI () trivial (sl_c (congrArg (fun e => some (Value.bool e)) (by have hq := hg8; simp at hq; first | (rw [decide_eq_decide]; omega) | (subst hq; simp; done) | (have h0 : k = 0 := by omega); simp [h0])) (by repeat (first | exact sl_n | refine sl_c rfl ?_))) (fun w h => h.ent (by repeat (first | exact .nil | refine .cons (by repeat (first | exact .here | apply Pick.there)) ?_)))
      · intro _ _
        refine s_cond rfl (fun h10 => ?_) (fun h10 => ?_)
        · try simp only [decide_eq_true_eq, decide_eq_false_iff_not, Bool.not_eq_true', Bool.not_eq_false', Bool.and_eq_true, Bool.or_eq_true, Bool.and_eq_false_iff, Bool.or_eq_false_iff, Bool.not_true, Bool.not_false] at h10
          have hC : ¬ (k = 0 ∨ (nth (nth L i).op (k - 1)).hd < (nth (nth L i).op k).hd) := by have hq := h10; simpa using hq
          refine s_seq ?_
          refine s_region ?_
          refine o_p (p_pure rfl) rfl ?_
          refine o_nil ?_
          exact s_retv (rs := [.tmp 6]) rfl (.tmp rfl (.nil)) (fun w' h' => ⟨by rw [hdl_l hk, if_neg (not_not_intro hA), if_neg (not_not_intro hB), if_pos hC]; rfl, h'.below⟩)
        · try simp only [decide_eq_true_eq, decide_eq_false_iff_not, Bool.not_eq_true', Bool.not_eq_false', Bool.and_eq_true, Bool.or_eq_true, Bool.and_eq_false_iff, Bool.or_eq_false_iff, Bool.not_true, Bool.not_false] at h10
          have hC : k = 0 ∨ (nth (nth L i).op (k - 1)).hd < (nth (nth L i).op k).hd := by have hq := h10; (try simp at hq); omega
          refine s_skip ?_
          refine s_seq ?_
          refine s_seq ?_
          refine s_region ?_
          first | refine o_q (q_loadn rfl rfl sz_48 (by repeat (first | exact .here | apply Pick.there)) rfl) rfl ?_ | refine o_q (q_load_oldn _ rfl rfl sz_48 rfl (Rw.rd hs.1 hi)) rfl ?_ | refine o_q (q_load_oldn _ rfl rfl sz_48 rfl (Rw.rd (hs.at hi).1 hk)) rfl ?_ | refine o_q (q_load_oldn _ rfl rfl sz_48 ((hs.at hi).1.rdj 0 (show k - 1 < (nth L i).op.length by omega) rfl)) rfl ?_ | refine o_q (q_load_oldn _ rfl rfl sz_48 (hs.1.rdj 3 hnl rfl)) rfl ?_ | refine o_q (q_load_oldn _ rfl rfl sz_48 ((hs.at hnl).1.rdj 0 hml rfl)) rfl ?_ | refine o_q (q_load_oldn _ rfl rfl sz_48 rfl (Rw.rd (hs.at hi).1 hpl)) rfl ?_
          refine o_q (q_call rfl fn_98 rfl (fun w1 h1 => c98 w1 (nth (nth L i).op k) (((hs.at hi).at hk).later h1))) rfl ?_
          refine o_p (p_pure rfl) rfl ?_
          refine o_nil ?_
          refine s_seq ?_
          refine s_region ?_
          refine o_p (p_pure rfl) rfl ?_
          refine o_p (p_pure rfl) rfl ?_
          refine o_nil ?_
          refine s_cond rfl (fun h11 => ?_) (fun h11 => ?_)
          · try simp only [decide_eq_true_eq, decide_eq_false_iff_not, Bool.not_eq_true', Bool.not_eq_false', Bool.and_eq_true, Bool.or_eq_true, Bool.and_eq_false_iff, Bool.or_eq_false_iff, Bool.not_true, Bool.not_false] at h11
            have hD : ¬ lksE (nth (nth L i).op k).lk = 0 := h11
            refine s_seq ?_
            refine s_region ?_
            refine o_p (p_pure rfl) rfl ?_
            refine o_p (p_pure rfl) rfl ?_
            refine o_nil ?_
            exact s_retv (rs := [.tmp 6]) rfl (.tmp rfl (.nil)) (fun w' h' => ⟨by rw [hdl_l hk, if_neg (not_not_intro hA), if_neg (not_not_intro hB), if_neg (not_not_intro hC), if_pos hD]; rfl, h'.below⟩)
          · try simp only [decide_eq_true_eq, decide_eq_false_iff_not, Bool.not_eq_true', Bool.not_eq_false', Bool.and_eq_true, Bool.or_eq_true, Bool.and_eq_false_iff, Bool.or_eq_false_iff, Bool.not_true, Bool.not_false] at h11
            have hD : lksE (nth (nth L i).op k).lk = 0 := h11
            have hD2 := lksE_0 hD
            refine s_skip ?_
            refine s_seq ?_
            refine s_seq ?_
            refine s_region ?_
            refine o_p (p_pure rfl) rfl ?_
            refine o_nil ?_
            refine s_block ?_
            refine s_loopI (α := Nat) [6, 11, 12, 55, 56, 57, 58, 59, 60, 61, 62, 63, 64, 65, 66, 67, 68, 69, 70, 71, 72, 73, 74, 75, 76, 77, 78, 79, 80, 81, 82, 83] (fun n => [(11, .int .i64 (n : Int))]) (fun _ => HS w [] [.blk b1 26 2 [.int .i64 next, .slice a L.length cap], .blk b2 77 4 (nth L i).vals, .blk b3 48 5 (nth (nth L i).op k).vals]) (fun n => n ≤ i ∧ ∀ n2, n2 < n → ∀ m2, m2 < (nth L n2).op.length → (nth (nth L n2).op m2).hd ≠ (nth (nth L i).op k).hd) (fun n => i - n) 0 ⟨Nat.zero_le _, fun n2 h => absurd h (Nat.not_lt_zero n2)⟩ (by repeat (first | exact sl_n | refine sl_c rfl ?_)) (fun w h => h.ent (by repeat (first | exact .nil | refine .cons (by repeat (first | exact .here | apply Pick.there)) ?_))) (fun n hy => ?_)
            obtain ⟨hn1, hn2⟩ := hy
            refine s_seq ?_
            refine s_seq ?_
            refine s_region ?_
            refine o_p (p_pure rfl) rfl ?_
            refine o_p (p_pure rfl) rfl ?_
            refine o_p (p_pure rfl) rfl ?_
            refine o_nil ?_
            refine s_cond rfl (fun h12 => ?_) (fun h12 => ?_)
            · try simp only [decide_eq_true_eq, decide_eq_false_iff_not, Bool.not_eq_true', Bool.not_eq_false', Bool.and_eq_true, Bool.or_eq_true, Bool.and_eq_false_iff, Bool.or_eq_false_iff, Bool.not_true, Bool.not_false] at h12
              have hni : n < i := by omega
              have hnl : n < L.length := by omega
              have hon := hmo _ (mem_nth hnl)
              refine s_skip ?_
              refine s_seq ?_
              refine s_block ?_
              refine s_seq ?_
              refine s_region ?_
              refine o_p (p_pure rfl) rfl ?_
              refine o_nil ?_
              refine s_block ?_
              refine s_loopI (α := Nat) [6, 12, 60, 61, 62, 63, 64, 65, 66, 67, 68, 69, 70, 71, 72, 73, 74, 75, 76, 77, 78, 79, 80, 81, 82, 83] (fun m => [(12, .int .i64 (m : Int))]) (fun _ => HS w [] [.blk b1 26 2 [.int .i64 next, .slice a L.length cap], .blk b2 77 4 (nth L i).vals, .blk b3 48 5 (nth (nth L i).op k).vals]) (fun m => m ≤ (nth L n).op.length ∧ ∀ m2, m2 < m → (nth (nth L n).op m2).hd ≠ (nth (nth L i).op k).hd) (fun m => (nth L n).op.length - m) 0 ⟨Nat.zero_le _, fun n2 h => absurd h (Nat.not_lt_zero n2)⟩ (by repeat (first | exact sl_n | refine sl_c rfl ?_)) (fun w h => h.ent (by repeat (first | exact .nil | refine .cons (by repeat (first | exact .here | apply Pick.there)) ?_))) (fun m hy => ?_)
              obtain ⟨hm1, hm2⟩ := hy
              refine s_seq ?_
              refine s_seq ?_
              refine s_region ?_
              refine o_p (p_pure rfl) rfl ?_
              refine o_p (p_fieldAddr rfl rfl fd_26_1 sz_24 rfl) rfl ?_
              first | refine o_q (q_load rfl rfl sz_24 (by repeat (first | exact .here | apply Pick.there)) rfl) rfl ?_ | refine o_q (q_load_old rfl rfl sz_24 (rfl (Rw.rd hs.1 hi))) rfl ?_ | refine o_q (q_load_old rfl rfl sz_24 (rfl (Rw.rd (hs.at hi).1 hk))) rfl ?_ | refine o_q (q_load_old rfl rfl sz_24 (((hs.at hi).1.rdj 0 (show k - 1 < (nth L i).op.length by omega) rfl))) rfl ?_ | refine o_q (q_load_old rfl rfl sz_24 ((hs.1.rdj 3 hnl rfl))) rfl ?_ | refine o_q (q_load_old rfl rfl sz_24 (((hs.at hnl).1.rdj 0 hml rfl))) rfl ?_ | refine o_q (q_load_old rfl rfl sz_24 (rfl (Rw.rd (hs.at hi).1 hpl))) rfl ?_
              refine o_p (p_pure rfl) rfl ?_
              first | refine o_p (p_indexAddr rfl rfl rfl sl_24 (n) (by omega) (by omega) rfl) rfl ?_ | refine o_p (p_indexAddr rfl rfl rfl sl_24 (n) (by omega) (by omega) (Rw.some hs.1 (by omega))) rfl ?_ | refine o_p (p_indexAddr rfl rfl rfl sl_24 (n) (by omega) (by omega) (Rw.some (hs.at hi).1 (by omega))) rfl ?_ | refine o_p (p_indexAddr rfl rfl rfl sl_24 (n) (by omega) (by omega) (Rw.some (hs.at hnl).1 (by omega))) rfl ?_
              refine o_p (p_fieldAddr rfl rfl fd_77_2 sz_75 rfl) rfl ?_
              first | refine o_q (q_load rfl rfl sz_75 (by repeat (first | exact .here | apply Pick.there)) rfl) rfl ?_ | refine o_q (q_load_old rfl rfl sz_75 (rfl (Rw.rd hs.1 hi))) rfl ?_ | refine o_q (q_load_old rfl rfl sz_75 (rfl (Rw.rd (hs.at hi).1 hk))) rfl ?_ | refine o_q (q_load_old rfl rfl sz_75 (((hs.at hi).1.rdj 0 (show k - 1 < (nth L i).op.length by omega) rfl))) rfl ?_ | refine o_q (q_load_old rfl rfl sz_75 ((hs.1.rdj 3 hnl rfl))) rfl ?_ | refine o_q (q_load_old rfl rfl sz_75 (((hs.at hnl).1.rdj 0 hml rfl))) rfl ?_ | refine o_q (q_load_old rfl rfl sz_75 (rfl (Rw.rd (hs.at hi).1 hpl))) rfl ?_
              first | refine o_p (p_len_slice rfl rfl Try.underlying75) rfl ?_ | refine o_q (q_len_own rfl rfl Try.underlying75 (by repeat (first | exact .here | apply Pick.there))) rfl ?_
              refine o_p (p_pure rfl) rfl ?_
              refine o_nil ?_
              refine s_cond rfl (fun h13 => ?_) (fun h13 => ?_)
              · try simp only [decide_eq_true_eq, decide_eq_false_iff_not, Bool.not_eq_true', Bool.not_eq_false', Bool.and_eq_true, Bool.or_eq_true, Bool.and_eq_false_iff, Bool.or_eq_false_iff, Bool.not_true, Bool.not_false] at h13
                have hml : m < (nth L n).op.length := by omega
                refine s_skip ?_
                refine s_seq ?_
                refine s_block ?_
                refine s_seq ?_
                refine s_draw [] mixed ?_
                refine d_p 0 rfl (p_fieldAddr rfl rfl fd_26_1 sz_24 rfl) (by kernel_rfl) rfl rfl ?_
                first | refine d_q 1 [] rfl (q_load rfl rfl sz_24 (by repeat (first | exact .here | apply Pick.there)) rfl) (by kernel_rfl) (by kernel_rfl) (by kernel_rfl) rfl ?_ | refine d_q 1 [] rfl (q_load_old rfl rfl sz_24 (rfl (Rw.rd hs.1 hi))) (by kernel_rfl) (by kernel_rfl) (by kernel_rfl) rfl ?_ | refine d_q 1 [] rfl (q_load_old rfl rfl sz_24 (rfl (Rw.rd (hs.at hi).1 hk))) (by kernel_rfl) (by kernel_rfl) (by kernel_rfl) rfl ?_ | refine d_q 1 [] rfl (q_load_old rfl rfl sz_24 (((hs.at hi).1.rdj 0 (show k - 1 < (nth L i).op.length by omega) rfl))) (by kernel_rfl) (by kernel_rfl) (by kernel_rfl) rfl ?_ | refine d_q 1 [] rfl (q_load_old rfl rfl sz_24 ((hs.1.rdj 3 hnl rfl))) (by kernel_rfl) (by kernel_rfl) (by kernel_rfl) rfl ?_ | refine d_q 1 [] rfl (q_load_old rfl rfl sz_24 (((hs.at hnl).1.rdj 0 hml rfl))) (by kernel_rfl) (by kernel_rfl) (by kernel_rfl) rfl ?_ | refine d_q 1 [] rfl (q_load_old rfl rfl sz_24 (rfl (Rw.rd (hs.at hi).1 hpl))) (by kernel_rfl) (by kernel_rfl) (by kernel_rfl) rfl ?_
                refine d_p 2 rfl (p_pure rfl) (by kernel_rfl) rfl rfl ?_
                first | refine d_p 3 rfl (p_indexAddr rfl rfl rfl sl_24 (n) (by omega) (by omega) rfl) (by kernel_rfl) rfl rfl ?_ | refine d_p 3 rfl (p_indexAddr rfl rfl rfl sl_24 (n) (by omega) (by omega) (Rw.some hs.1 (by omega))) (by kernel_rfl) rfl rfl ?_ | refine d_p 3 rfl (p_indexAddr rfl rfl rfl sl_24 (n) (by omega) (by omega) (Rw.some (hs.at hi).1 (by omega))) (by kernel_rfl) rfl rfl ?_ | refine d_p 3 rfl (p_indexAddr rfl rfl rfl sl_24 (n) (by omega) (by omega) (Rw.some (hs.at hnl).1 (by omega))) (by kernel_rfl) rfl rfl ?_
                refine d_p 4 rfl (p_fieldAddr rfl rfl fd_77_2 sz_75 rfl) (by kernel_rfl) rfl rfl ?_
                first | refine d_q 5 [] rfl (q_load rfl rfl sz_75 (by repeat (first | exact .here | apply Pick.there)) rfl) (by kernel_rfl) (by kernel_rfl) (by kernel_rfl) rfl ?_ | refine d_q 5 [] rfl (q_load_old rfl rfl sz_75 (rfl (Rw.rd hs.1 hi))) (by kernel_rfl) (by kernel_rfl) (by kernel_rfl) rfl ?_ | refine d_q 5 [] rfl (q_load_old rfl rfl sz_75 (rfl (Rw.rd (hs.at hi).1 hk))) (by kernel_rfl) (by kernel_rfl) (by kernel_rfl) rfl ?_ | refine d_q 5 [] rfl (q_load_old rfl rfl sz_75 (((hs.at hi).1.rdj 0 (show k - 1 < (nth L i).op.length by omega) rfl))) (by kernel_rfl) (by kernel_rfl) (by kernel_rfl) rfl ?_ | refine d_q 5 [] rfl (q_load_old rfl rfl sz_75 ((hs.1.rdj 3 hnl rfl))) (by kernel_rfl) (by kernel_rfl) (by kernel_rfl) rfl ?_ | refine d_q 5 [] rfl (q_load_old rfl rfl sz_75 (((hs.at hnl).1.rdj 0 hml rfl))) (by kernel_rfl) (by kernel_rfl) (by kernel_rfl) rfl ?_ | refine d_q 5 [] rfl (q_load_old rfl rfl sz_75 (rfl (Rw.rd (hs.at hi).1 hpl))) (by kernel_rfl) (by kernel_rfl) (by kernel_rfl) rfl ?_
                refine d_p 6 rfl (p_pure rfl) (by kernel_rfl) rfl rfl ?_
                first | refine d_p 7 rfl (p_indexAddr rfl rfl rfl sl_75 (m) (by omega) (by omega) rfl) (by kernel_rfl) rfl rfl ?_ | refine d_p 7 rfl (p_indexAddr rfl rfl rfl sl_75 (m) (by omega) (by omega) (Rw.some hs.1 (by omega))) (by kernel_rfl) rfl rfl ?_ | refine d_p 7 rfl (p_indexAddr rfl rfl rfl sl_75 (m) (by omega) (by omega) (Rw.some (hs.at hi).1 (by omega))) (by kernel_rfl) rfl rfl ?_ | refine d_p 7 rfl (p_indexAddr rfl rfl rfl sl_75 (m) (by omega) (by omega) (Rw.some (hs.at hnl).1 (by omega))) (by kernel_rfl) rfl rfl ?_
                refine d_p 8 rfl (p_fieldAddr rfl rfl fd_48_0 sz_3 rfl) (by kernel_rfl) rfl rfl ?_
                first | refine d_q 9 [] rfl (q_load rfl rfl sz_3 (by repeat (first | exact .here | apply Pick.there)) rfl) (by kernel_rfl) (by kernel_rfl) (by kernel_rfl) rfl ?_ | refine d_q 9 [] rfl (q_load_old rfl rfl sz_3 (rfl (Rw.rd hs.1 hi))) (by kernel_rfl) (by kernel_rfl) (by kernel_rfl) rfl ?_ | refine d_q 9 [] rfl (q_load_old rfl rfl sz_3 (rfl (Rw.rd (hs.at hi).1 hk))) (by kernel_rfl) (by kernel_rfl) (by kernel_rfl) rfl ?_ | refine d_q 9 [] rfl (q_load_old rfl rfl sz_3 (((hs.at hi).1.rdj 0 (show k - 1 < (nth L i).op.length by omega) rfl))) (by kernel_rfl) (by kernel_rfl) (by kernel_rfl) rfl ?_ | refine d_q 9 [] rfl (q_load_old rfl rfl sz_3 ((hs.1.rdj 3 hnl rfl))) (by kernel_rfl) (by kernel_rfl) (by kernel_rfl) rfl ?_ | refine d_q 9 [] rfl (q_load_old rfl rfl sz_3 (((hs.at hnl).1.rdj 0 hml rfl))) (by kernel_rfl) (by kernel_rfl) (by kernel_rfl) rfl ?_ | refine d_q 9 [] rfl (q_load_old rfl rfl sz_3 (rfl (Rw.rd (hs.at hi).1 hpl))) (by kernel_rfl) (by kernel_rfl) (by kernel_rfl) rfl ?_
                refine d_p 10 rfl (p_fieldAddr rfl rfl fd_48_0 sz_3 rfl) (by kernel_rfl) rfl rfl ?_
                first | refine d_q 11 [] rfl (q_load rfl rfl sz_3 (by repeat (first | exact .here | apply Pick.there)) rfl) (by kernel_rfl) (by kernel_rfl) (by kernel_rfl) rfl ?_ | refine d_q 11 [] rfl (q_load_old rfl rfl sz_3 (rfl (Rw.rd hs.1 hi))) (by kernel_rfl) (by kernel_rfl) (by kernel_rfl) rfl ?_ | refine d_q 11 [] rfl (q_load_old rfl rfl sz_3 (rfl (Rw.rd (hs.at hi).1 hk))) (by kernel_rfl) (by kernel_rfl) (by kernel_rfl) rfl ?_ | refine d_q 11 [] rfl (q_load_old rfl rfl sz_3 (((hs.at hi).1.rdj 0 (show k - 1 < (nth L i).op.length by omega) rfl))) (by kernel_rfl) (by kernel_rfl) (by kernel_rfl) rfl ?_ | refine d_q 11 [] rfl (q_load_old rfl rfl sz_3 ((hs.1.rdj 3 hnl rfl))) (by kernel_rfl) (by kernel_rfl) (by kernel_rfl) rfl ?_ | refine d_q 11 [] rfl (q_load_old rfl rfl sz_3 (((hs.at hnl).1.rdj 0 hml rfl))) (by kernel_rfl) (by kernel_rfl) (by kernel_rfl) rfl ?_ | refine d_q 11 [] rfl (q_load_old rfl rfl sz_3 (rfl (Rw.rd (hs.at hi).1 hpl))) (by kernel_rfl) (by kernel_rfl) (by kernel_rfl) rfl ?_
                refine d_p 12 rfl (p_pure rfl) (by kernel_rfl) rfl rfl ?_
                refine d_nil (by kernel_rfl) (fun w h => h.ent (by repeat (first | exact .nil | refine .cons (by repeat (first | exact .here | apply Pick.there)) ?_))) ?_
                refine s_cond rfl (fun h14 => ?_) (fun h14 => ?_)
                · try simp only [decide_eq_true_eq, decide_eq_false_iff_not, Bool.not_eq_true', Bool.not_eq_false', Bool.and_eq_true, Bool.or_eq_true, Bool.and_eq_false_iff, Bool.or_eq_false_iff, Bool.not_true, Bool.not_false] at h14
                  have hyes : (nth (nth L i).op k).hd ∈ (hds ((pls L).take i)) := hds_mem.2 ⟨n, m, hni, hnl, hml, h14⟩
                  refine s_seq ?_
                  refine s_weaken (L' := [(1, _), (2, _), (3, _), (7, _), (8, _), (10, _), (11, _), (12, _), (49, _), (50, _), (51, _), (52, _), (53, _), (55, _), (56, _), (57, _)]) (by repeat (first | exact sl_n | refine sl_c rfl ?_)) (fun _ h => h) ?_
                  refine s_region ?_
                  refine o_p (p_pure rfl) rfl ?_
                  refine o_nil ?_
                  exact s_retv (rs := [.tmp 6]) rfl (.tmp rfl (.nil)) (fun w' h' => ⟨by rw [hdl_l hk, if_neg (not_not_intro hA), if_neg (not_not_intro hB), if_neg (not_not_intro hC), if_neg (not_not_intro hD), if_pos hyes]; rfl, h'.below⟩)
                · try simp only [decide_eq_true_eq, decide_eq_false_iff_not, Bool.not_eq_true', Bool.not_eq_false', Bool.and_eq_true, Bool.or_eq_true, Bool.and_eq_false_iff, Bool.or_eq_false_iff, Bool.not_true, Bool.not_false] at h14
                  refine s_skip ?_
                  refine s_blk ?_
                  refine s_weaken (L' := [(1, _), (2, _), (3, _), (7, _), (8, _), (10, _), (11, _), (12, _), (49, _), (50, _), (51, _), (52, _), (53, _), (55, _), (56, _), (57, _)]) (by repeat (first | exact sl_n | refine sl_c rfl ?_)) (fun _ h => h) ?_
                  refine s_region ?_
                  refine o_p (p_pure rfl) rfl ?_
                  refine o_p (p_pure rfl) rfl ?_
                  try (refine o_slot (i64w (by omega) (by omega)) ?_)
                  refine o_p (p_pure rfl) rfl ?_
                  refine o_nil ?_
                  exact s_backI (m + 1) (by omega) ⟨by omega, fun m2 p1 => (Nat.lt_or_ge m2 m).elim (hm2 m2) (fun p3 => by have e9 : m2 = m := (by omega); rw [e9]; exact h14)⟩ (by repeat (first | exact sl_n | refine sl_c rfl ?_)) (fun w h => h.ent (by repeat (first | exact .nil | refine .cons (by repeat (first | exact .here | apply Pick.there)) ?_)))
              · try simp only [decide_eq_true_eq, decide_eq_false_iff_not, Bool.not_eq_true', Bool.not_eq_false', Bool.and_eq_true, Bool.or_eq_true, Bool.and_eq_false_iff, Bool.or_eq_false_iff, Bool.not_true, Bool.not_false] at h13
                refine s_exit_to rfl ?_
                refine s_blk ?_
                refine s_region ?_
                refine o_p (p_pure rfl) rfl ?_
                refine o_p (p_pure rfl) rfl ?_
                try (refine o_slot (i64w (by omega) (by omega)) ?_)
                refine o_p (p_pure rfl) rfl ?_
                refine o_nil ?_
                exact s_backI (n + 1) (by omega) ⟨by omega, fun n2 p1 m2 p2 => (Nat.lt_or_ge n2 n).elim (fun p3 => hn2 n2 p3 m2 p2) (fun p3 => by have e9 : n2 = n := (by omega); rw [e9] at p2 ⊢; exact hm2 m2 (by omega))⟩ (by repeat (first | exact sl_n | refine sl_c rfl ?_)) (fun w h => h.ent (by repeat (first | exact .nil | refine .cons (by repeat (first | exact .here | apply Pick.there)) ?_)))
            · try simp only [decide_eq_true_eq, decide_eq_false_iff_not, Bool.not_eq_true', Bool.not_eq_false', Bool.and_eq_true, Bool.or_eq_true, Bool.and_eq_false_iff, Bool.or_eq_false_iff, Bool.not_true, Bool.not_false] at h12
              have hno : (nth (nth L i).op k).hd ∉ (hds ((pls L).take i)) := by rw [hds_mem]; rintro ⟨n2, m2, p1, p2, p3, p4⟩; exact hn2 n2 (by omega) m2 p3 p4
              refine s_exit_to rfl ?_
              refine s_seq ?_
              refine s_seq ?_
              refine s_region ?_
              refine o_p (p_pure rfl) rfl ?_
              refine o_nil ?_
              refine s_block ?_
              refine s_loopI (α := Nat) [6, 13, 84, 85, 86, 87, 88, 89, 90, 91, 92, 93, 94, 95] (fun m => [(13, .int .i64 (m : Int))]) (fun _ => HS w [] [.blk b1 26 2 [.int .i64 next, .slice a L.length cap], .blk b2 77 4 (nth L i).vals, .blk b3 48 5 (nth (nth L i).op k).vals]) (fun m => m ≤ k ∧ ∀ m2, m2 < m → cfl (nth (nth L i).op m2).pl (nth (nth L i).op k).pl = false) (fun m => k - m) 0 ⟨Nat.zero_le _, fun n2 h => absurd h (Nat.not_lt_zero n2)⟩ (by repeat (first | exact sl_n | refine sl_c rfl ?_)) (fun w h => h.ent (by repeat (first | exact .nil | refine .cons (by repeat (first | exact .here | apply Pick.there)) ?_))) (fun p hy => ?_)
              obtain ⟨hp1, hp2⟩ := hy
              refine s_seq ?_
              refine s_seq ?_
              refine s_region ?_
              refine o_p (p_pure rfl) rfl ?_
              refine o_p (p_pure rfl) rfl ?_
              refine o_p (p_pure rfl) rfl ?_
              refine o_nil ?_
              refine s_cond rfl (fun h15 => ?_) (fun h15 => ?_)
              · try simp only [decide_eq_true_eq, decide_eq_false_iff_not, Bool.not_eq_true', Bool.not_eq_false', Bool.and_eq_true, Bool.or_eq_true, Bool.and_eq_false_iff, Bool.or_eq_false_iff, Bool.not_true, Bool.not_false] at h15
                have hpk : p < k := by omega
                have hpl : p < (nth L i).op.length := by omega
                refine s_skip ?_
                refine s_seq ?_
                refine s_block ?_
                refine s_seq ?_
                refine s_draw [] mixed ?_
                refine d_p 0 rfl (p_fieldAddr rfl rfl fd_77_2 sz_75 rfl) (by kernel_rfl) rfl rfl ?_
                first | refine d_q 1 [] rfl (q_load rfl rfl sz_75 (by repeat (first | exact .here | apply Pick.there)) rfl) (by kernel_rfl) (by kernel_rfl) (by kernel_rfl) rfl ?_ | refine d_q 1 [] rfl (q_load_old rfl rfl sz_75 (rfl (Rw.rd hs.1 hi))) (by kernel_rfl) (by kernel_rfl) (by kernel_rfl) rfl ?_ | refine d_q 1 [] rfl (q_load_old rfl rfl sz_75 (rfl (Rw.rd (hs.at hi).1 hk))) (by kernel_rfl) (by kernel_rfl) (by kernel_rfl) rfl ?_ | refine d_q 1 [] rfl (q_load_old rfl rfl sz_75 (((hs.at hi).1.rdj 0 (show k - 1 < (nth L i).op.length by omega) rfl))) (by kernel_rfl) (by kernel_rfl) (by kernel_rfl) rfl ?_ | refine d_q 1 [] rfl (q_load_old rfl rfl sz_75 ((hs.1.rdj 3 hnl rfl))) (by kernel_rfl) (by kernel_rfl) (by kernel_rfl) rfl ?_ | refine d_q 1 [] rfl (q_load_old rfl rfl sz_75 (((hs.at hnl).1.rdj 0 hml rfl))) (by kernel_rfl) (by kernel_rfl) (by kernel_rfl) rfl ?_ | refine d_q 1 [] rfl (q_load_old rfl rfl sz_75 (rfl (Rw.rd (hs.at hi).1 hpl))) (by kernel_rfl) (by kernel_rfl) (by kernel_rfl) rfl ?_
                refine d_p 2 rfl (p_pure rfl) (by kernel_rfl) rfl rfl ?_
                first | refine d_p 3 rfl (p_indexAddr rfl rfl rfl sl_75 (p) (by omega) (by omega) rfl) (by kernel_rfl) rfl rfl ?_ | refine d_p 3 rfl (p_indexAddr rfl rfl rfl sl_75 (p) (by omega) (by omega) (Rw.some hs.1 (by omega))) (by kernel_rfl) rfl rfl ?_ | refine d_p 3 rfl (p_indexAddr rfl rfl rfl sl_75 (p) (by omega) (by omega) (Rw.some (hs.at hi).1 (by omega))) (by kernel_rfl) rfl rfl ?_ | refine d_p 3 rfl (p_indexAddr rfl rfl rfl sl_75 (p) (by omega) (by omega) (Rw.some (hs.at hnl).1 (by omega))) (by kernel_rfl) rfl rfl ?_
                first | refine d_q 4 [] rfl (q_loadn rfl rfl sz_48 (by repeat (first | exact .here | apply Pick.there)) rfl) (by kernel_rfl) (by kernel_rfl) (by kernel_rfl) rfl ?_ | refine d_q 4 [] rfl (q_load_oldn _ rfl rfl sz_48 rfl (Rw.rd hs.1 hi)) (by kernel_rfl) (by kernel_rfl) (by kernel_rfl) rfl ?_ | refine d_q 4 [] rfl (q_load_oldn _ rfl rfl sz_48 rfl (Rw.rd (hs.at hi).1 hk)) (by kernel_rfl) (by kernel_rfl) (by kernel_rfl) rfl ?_ | refine d_q 4 [] rfl (q_load_oldn _ rfl rfl sz_48 ((hs.at hi).1.rdj 0 (show k - 1 < (nth L i).op.length by omega) rfl)) (by kernel_rfl) (by kernel_rfl) (by kernel_rfl) rfl ?_ | refine d_q 4 [] rfl (q_load_oldn _ rfl rfl sz_48 (hs.1.rdj 3 hnl rfl)) (by kernel_rfl) (by kernel_rfl) (by kernel_rfl) rfl ?_ | refine d_q 4 [] rfl (q_load_oldn _ rfl rfl sz_48 ((hs.at hnl).1.rdj 0 hml rfl)) (by kernel_rfl) (by kernel_rfl) (by kernel_rfl) rfl ?_ | refine d_q 4 [] rfl (q_load_oldn _ rfl rfl sz_48 rfl (Rw.rd (hs.at hi).1 hpl)) (by kernel_rfl) (by kernel_rfl) (by kernel_rfl) rfl ?_
                first | refine d_q 5 [] rfl (q_loadn rfl rfl sz_48 (by repeat (first | exact .here | apply Pick.there)) rfl) (by kernel_rfl) (by kernel_rfl) (by kernel_rfl) rfl ?_ | refine d_q 5 [] rfl (q_load_oldn _ rfl rfl sz_48 rfl (Rw.rd hs.1 hi)) (by kernel_rfl) (by kernel_rfl) (by kernel_rfl) rfl ?_ | refine d_q 5 [] rfl (q_load_oldn _ rfl rfl sz_48 rfl (Rw.rd (hs.at hi).1 hk)) (by kernel_rfl) (by kernel_rfl) (by kernel_rfl) rfl ?_ | refine d_q 5 [] rfl (q_load_oldn _ rfl rfl sz_48 ((hs.at hi).1.rdj 0 (show k - 1 < (nth L i).op.length by omega) rfl)) (by kernel_rfl) (by kernel_rfl) (by kernel_rfl) rfl ?_ | refine d_q 5 [] rfl (q_load_oldn _ rfl rfl sz_48 (hs.1.rdj 3 hnl rfl)) (by kernel_rfl) (by kernel_rfl) (by kernel_rfl) rfl ?_ | refine d_q 5 [] rfl (q_load_oldn _ rfl rfl sz_48 ((hs.at hnl).1.rdj 0 hml rfl)) (by kernel_rfl) (by kernel_rfl) (by kernel_rfl) rfl ?_ | refine d_q 5 [] rfl (q_load_oldn _ rfl rfl sz_48 rfl (Rw.rd (hs.at hi).1 hpl)) (by kernel_rfl) (by kernel_rfl) (by kernel_rfl) rfl ?_
                refine d_q 6 [] rfl (q_call rfl fn_23 rfl (fun w1 h1 => c23 w1 (nth (nth L i).op p) (nth (nth L i).op k) (hdl_okl hpl (hv p hpk)).1 hB)) (by kernel_rfl) (by kernel_rfl) (by kernel_rfl) rfl ?_
                refine d_nil (by kernel_rfl) (fun w h => h.ent (by repeat (first | exact .nil | refine .cons (by repeat (first | exact .here | apply Pick.there)) ?_))) ?_
                refine s_cond rfl (fun h16 => ?_) (fun h16 => ?_)
                · try simp only [decide_eq_true_eq, decide_eq_false_iff_not, Bool.not_eq_true', Bool.not_eq_false', Bool.and_eq_true, Bool.or_eq_true, Bool.and_eq_false_iff, Bool.or_eq_false_iff, Bool.not_true, Bool.not_false] at h16
                  have hyc : ((plo (nth L i).op).take k).any (cfl (nth (nth L i).op k).pl) = true := (any_take (by omega)).2 ⟨p, hpk, by rw [cfl_comm]; exact h16⟩
                  refine s_seq ?_
                  refine s_region ?_
                  refine o_p (p_pure rfl) rfl ?_
                  refine o_nil ?_
                  exact s_retv (rs := [.tmp 6]) rfl (.tmp rfl (.nil)) (fun w' h' => ⟨by rw [hdl_l hk, if_neg (not_not_intro hA), if_neg (not_not_intro hB), if_neg (not_not_intro hC), if_neg (not_not_intro hD), if_neg hno, if_pos hyc]; rfl, h'.below⟩)
                · try simp only [decide_eq_true_eq, decide_eq_false_iff_not, Bool.not_eq_true', Bool.not_eq_false', Bool.and_eq_true, Bool.or_eq_true, Bool.and_eq_false_iff, Bool.or_eq_false_iff, Bool.not_true, Bool.not_false] at h16
                  have hmiss : cfl (nth (nth L i).op p).pl (nth (nth L i).op k).pl = false := by have hq := h16; simpa using hq
                  refine s_skip ?_
                  refine s_blk ?_
                  refine s_region ?_
                  refine o_p (p_pure rfl) rfl ?_
                  refine o_p (p_pure rfl) rfl ?_
                  try (refine o_slot (i64w (by omega) (by omega)) ?_)
                  refine o_p (p_pure rfl) rfl ?_
                  refine o_nil ?_
                  exact s_backI (p + 1) (by omega) ⟨by omega, fun m2 p1 => (Nat.lt_or_ge m2 p).elim (hp2 m2) (fun p3 => by have e9 : m2 = p := (by omega); rw [e9]; exact hmiss)⟩ (by repeat (first | exact sl_n | refine sl_c rfl ?_)) (fun w h => h.ent (by repeat (first | exact .nil | refine .cons (by repeat (first | exact .here | apply Pick.there)) ?_)))
              · try simp only [decide_eq_true_eq, decide_eq_false_iff_not, Bool.not_eq_true', Bool.not_eq_false', Bool.and_eq_true, Bool.or_eq_true, Bool.and_eq_false_iff, Bool.or_eq_false_iff, Bool.not_true, Bool.not_false] at h15
                have hnc : ¬ ((plo (nth L i).op).take k).any (cfl (nth (nth L i).op k).pl) = true := by rw [any_take (by omega)]; rintro ⟨m2, p1, p2⟩; rw [cfl_comm, hp2 m2 (by omega)] at p2; cases p2
                refine s_exit_to rfl ?_
                refine s_seq ?_
                refine s_region ?_
                first | refine o_q (q_loadn rfl rfl sz_77 (by repeat (first | exact .here | apply Pick.there)) rfl) rfl ?_ | refine o_q (q_load_oldn _ rfl rfl sz_77 rfl (Rw.rd hs.1 hi)) rfl ?_ | refine o_q (q_load_oldn _ rfl rfl sz_77 rfl (Rw.rd (hs.at hi).1 hk)) rfl ?_ | refine o_q (q_load_oldn _ rfl rfl sz_77 ((hs.at hi).1.rdj 0 (show k - 1 < (nth L i).op.length by omega) rfl)) rfl ?_ | refine o_q (q_load_oldn _ rfl rfl sz_77 (hs.1.rdj 3 hnl rfl)) rfl ?_ | refine o_q (q_load_oldn _ rfl rfl sz_77 ((hs.at hnl).1.rdj 0 hml rfl)) rfl ?_ | refine o_q (q_load_oldn _ rfl rfl sz_77 rfl (Rw.rd (hs.at hi).1 hpl)) rfl ?_
                refine o_p (p_pure rfl) rfl ?_
                refine o_q (q_call rfl fn_99 rfl (fun w1 h1 => c99 w1 (nth L i) k ((hs.at hi).later h1) hk hoi (fun n p1 => (Nat.lt_or_ge n k).elim (fun p2 => (hdl_okl (by omega) (hv n p2)).2.symm) (fun p2 => by have e9 : n = k := (by omega); rw [e9]; exact hD2.symm)))) rfl ?_
                refine o_p (p_pure rfl) rfl ?_
                refine o_nil ?_
                exact s_retv (rs := [.tmp 6]) rfl (.tmp rfl (.nil)) (fun w' h' => ⟨by rw [hdl_l hk, if_neg (not_not_intro hA), if_neg (not_not_intro hB), if_neg (not_not_intro hC), if_neg (not_not_intro hD), if_neg hno, if_neg hnc]; rfl, h'.below⟩)

end Go.Proofs

namespace Go.Proofs
open Go Go.RowKit Gx
set_option linter.unusedVariables false
set_option linter.unusedSimpArgs false
attribute [local irreducible] Go.Calls Gx.S Gx.O Gx.D Gx.OpP Gx.OpQ Gx.OpH

theorem fn_34 : isFn Try.prog 34 = true := by kernel_rfl
theorem fn_32 : isFn Try.prog 32 = true := by kernel_rfl
theorem fn_60 : isFn Try.prog 60 = true := by kernel_rfl
theorem fn_61 : isFn Try.prog 61 = true := by kernel_rfl
theorem fn_20 : isFn Try.prog 20 = true := by kernel_rfl


theorem hdlEs_len {next : Int} {ks : List Int} {ops : List LOpn} : (hdlEs next ks (plo ops)).length = ops.length := by simp [hdlEs]
theorem filEs_len {next : Int} {L : List LFil} : (filEs next (pls L)).length = L.length := by simp [filEs]
theorem filEs_getl {next : Int} {L : List LFil} {k : Nat} (h : k < L.length) : (filEs next (pls L)).getD k 0 = filE next (pls L) k := filEs_get (by simpa using h)
theorem hdlEs_getl {next : Int} {ks : List Int} {ops : List LOpn} {k : Nat} (h : k < ops.length) : (hdlEs next ks (plo ops)).getD k 0 = hdlE next ks (plo ops) k := hdlEs_get (by simpa using h)
theorem chk_r {next : Int} {L : List LFil} (h1 : 1 ≤ next ∧ next ≤ 2147483647) (h2 : L.length ≤ 32 ∧ cntT (pls L) ≤ 32) : chkT next (pls L) = eachF (filEs next (pls L)) 0 := by
  unfold chkT filEs
  rw [if_pos h1, if_pos (by simpa using h2)]
theorem chk_1 {next : Int} {L : List LFil} (h1 : ¬ (1 ≤ next ∧ next ≤ 2147483647)) : chkT next (pls L) = (0, 2) := by
  unfold chkT
  rw [if_neg h1]
theorem chk_2 {next : Int} {L : List LFil} (h1 : 1 ≤ next ∧ next ≤ 2147483647) (h2 : ¬ (L.length ≤ 32 ∧ cntT (pls L) ≤ 32)) : chkT next (pls L) = (0, 8) := by
  unfold chkT
  rw [if_pos h1, if_neg (by simpa using h2)]
theorem chk_at {next : Int} {L : List LFil} {i : Nat} (h1 : 1 ≤ next ∧ next ≤ 2147483647) (h2 : L.length ≤ 32 ∧ cntT (pls L) ≤ 32) (h3 : eachF (filEs next (pls L)) 0 = eachF ((filEs next (pls L)).drop i) i) (hi : i < L.length) (h4 : ¬ filE next (pls L) i = 0) : chkT next (pls L) = ((i : Int), filE next (pls L) i) := by
  rw [chk_r h1 h2, h3, eachF_drop (by rw [filEs_len]; exact hi), filEs_getl hi, if_neg h4]

set_option maxRecDepth 20000 in
set_option maxHeartbeats 1000000 in
theorem c20 (w : World) (next : Int) (a : Option Addr) (cap : Nat) (L : List LFil) (hs : Ft w [] a L) (hm : L.length ≤ 1000) (hmo : ∀ f ∈ L, f.op.length ≤ 1000) : Calls Try.prog 20 #[.agg #[.int .i64 next, .slice a L.length cap]] w fun en w' => en = .returned (.tuple #[.int .i64 (chkT next (pls L)).1, .int .i64 (chkT next (pls L)).2]) ∧ Below w.heap.size w w' := by
  have hfl := filEs_len (next := next) (L := L)
  refine enter (args := [_]) Try.func20 Try.ntmps20 rfl rfl (HS.refl w []) ?_
  refine s_seq ?_
  refine s_region ?_
  refine o_h (h_box rfl rfl) rfl (fun b1 _ => ?_)
  refine o_p (p_pure rfl) rfl ?_
  refine o_p (p_pure rfl) rfl ?_
  refine o_nil ?_
  refine s_seq ?_
  refine s_seq ?_
  refine s_region ?_
  refine o_p (p_fieldAddr rfl rfl fd_26_0 sz_3 rfl) rfl ?_
  first | refine o_q (q_load rfl rfl sz_3 (by repeat (first | exact .here | apply Pick.there)) rfl) rfl ?_ | refine o_q (q_load_old rfl rfl sz_3 (rfl (Rw.rd hs.1 hil))) rfl ?_
  refine o_q (q_call rfl fn_16 rfl (fun w1 h1 => c16 w1 _ _ _)) rfl ?_
  refine o_p (p_pure rfl) rfl ?_
  refine o_nil ?_
  refine s_cond rfl (fun h2 => ?_) (fun h2 => ?_)
  · try simp only [decide_eq_true_eq, decide_eq_false_iff_not, Bool.not_eq_true', Bool.not_eq_false', Bool.and_eq_true, Bool.or_eq_true, Bool.and_eq_false_iff, Bool.or_eq_false_iff, Bool.not_true, Bool.not_false] at h2
    have hn : ¬ (1 ≤ next ∧ next ≤ 2147483647) := by have hq := h2; (try simp at hq); omega
    refine s_seq ?_
    refine s_region ?_
    refine o_p (p_pure rfl) rfl ?_
    refine o_p (p_pure rfl) rfl ?_
    refine o_nil ?_
    exact s_retv (rs := [.tmp 2, .tmp 3]) rfl (.tmp rfl (.tmp rfl (.nil))) (fun w' h' => ⟨by rw [chk_1 hn]; rfl, h'.below⟩)
  · try simp only [decide_eq_true_eq, decide_eq_false_iff_not, Bool.not_eq_true', Bool.not_eq_false', Bool.and_eq_true, Bool.or_eq_true, Bool.and_eq_false_iff, Bool.or_eq_false_iff, Bool.not_true, Bool.not_false] at h2
    have hn : 1 ≤ next ∧ next ≤ 2147483647 := by have hq := h2; (try simp at hq); omega
    refine s_skip ?_
    refine s_seq ?_
    refine s_seq ?_
    refine s_region ?_
    refine o_p (p_fieldAddr rfl rfl fd_26_1 sz_24 rfl) rfl ?_
    first | refine o_q (q_load rfl rfl sz_24 (by repeat (first | exact .here | apply Pick.there)) rfl) rfl ?_ | refine o_q (q_load_old rfl rfl sz_24 (rfl (Rw.rd hs.1 hil))) rfl ?_
    first | refine o_p (p_len_slice rfl rfl Try.underlying24) rfl ?_ | refine o_q (q_len_own rfl rfl Try.underlying24 (by repeat (first | exact .here | apply Pick.there))) rfl ?_
    refine o_p (p_pure rfl) rfl ?_
    refine o_p (p_pure rfl) rfl ?_
    refine o_or 4 17 21 _ _ rfl
      (by
        intro hg3
        have hs4 := hg3; try simp only [decide_eq_true_eq, decide_eq_false_iff_not, Bool.not_eq_true', Bool.not_eq_false', Bool.and_eq_true, Bool.or_eq_true, Bool.and_eq_false_iff, Bool.or_eq_false_iff, Bool.not_true, Bool.not_false] at hs4
        refine o_on 17 _ rfl rfl hg3 ?_
        first | refine o_q (q_loadn rfl rfl sz_26 (by repeat (first | exact .here | apply Pick.there)) rfl) rfl ?_ | refine o_q (q_load_oldn _ rfl rfl sz_26 rfl (Rw.rd hs.1 hil)) rfl ?_
        refine o_on 17 _ rfl rfl hg3 ?_
        refine o_q (q_call rfl fn_34 rfl (fun w1 h1 => c34 w1 next a cap L (hs.later h1) hm hmo)) rfl ?_
        refine o_on 17 _ rfl rfl hg3 ?_
        refine o_p (p_pure rfl) rfl ?_
        refine o_p (p_pickf rfl rfl hg3 rfl) rfl ?_
        refine o_nil ?_
        exact s_joinN 4 21 _ rfl rfl rfl (fun w h => by first | exact h | exact h.ent (by repeat (first | exact .nil | refine .cons (by repeat (first | exact .here | apply Pick.there)) ?_))))
      (by
        intro hg5
        have hs6 := hg5; try simp only [decide_eq_true_eq, decide_eq_false_iff_not, Bool.not_eq_true', Bool.not_eq_false', Bool.and_eq_true, Bool.or_eq_true, Bool.and_eq_false_iff, Bool.or_eq_false_iff, Bool.not_true, Bool.not_false] at hs6
        refine o_off 17 _ rfl rfl hg5 rfl ?_
        refine o_off 17 _ rfl rfl hg5 rfl ?_
        refine o_off 17 _ rfl rfl hg5 rfl ?_
        refine o_p (p_pickt rfl rfl hg5 rfl) rfl ?_
        refine o_nil ?_
        exact s_joinN 4 21 _ rfl rfl rfl (fun w h => by first | exact h | exact h.ent (by repeat (first | exact .nil | refine .cons (by repeat (first | exact .here | apply Pick.there)) ?_)))) ?_
    refine o_nil ?_
    refine s_cond rfl (fun h7 => ?_) (fun h7 => ?_)
    · try simp only [decide_eq_true_eq, decide_eq_false_iff_not, Bool.not_eq_true', Bool.not_eq_false', Bool.and_eq_true, Bool.or_eq_true, Bool.and_eq_false_iff, Bool.or_eq_false_iff, Bool.not_true, Bool.not_false] at h7
      have hc2 : ¬ (L.length ≤ 32 ∧ cntT (pls L) ≤ 32) := by have hq := h7; (try simp at hq); omega
      refine s_seq ?_
      refine s_region ?_
      refine o_p (p_pure rfl) rfl ?_
      refine o_p (p_pure rfl) rfl ?_
      refine o_nil ?_
      exact s_retv (rs := [.tmp 2, .tmp 3]) rfl (.tmp rfl (.tmp rfl (.nil))) (fun w' h' => ⟨by rw [chk_2 hn hc2]; rfl, h'.below⟩)
    · try simp only [decide_eq_true_eq, decide_eq_false_iff_not, Bool.not_eq_true', Bool.not_eq_false', Bool.and_eq_true, Bool.or_eq_true, Bool.and_eq_false_iff, Bool.or_eq_false_iff, Bool.not_true, Bool.not_false] at h7
      have hc2 : L.length ≤ 32 ∧ cntT (pls L) ≤ 32 := by have hq := h7; (try simp at hq); omega
      refine s_skip ?_
      refine s_seq ?_
      refine s_seq ?_
      refine s_region ?_
      refine o_p (p_pure rfl) rfl ?_
      refine o_nil ?_
      refine s_block ?_
      refine s_weaken (L' := [(1, _), (2, _), (3, _), (4, _)]) (by repeat (first | exact sl_n | refine sl_c rfl ?_)) (fun _ h => h) ?_
      refine s_loopI (α := Nat) [2, 3, 4, 5, 6, 7, 8, 22, 23, 24, 25, 26, 27, 28, 29, 30, 31, 32, 33, 34, 35, 36, 37, 38, 39, 40, 41, 42, 43, 44, 45, 46, 47, 48, 49, 50, 51, 52, 53, 54, 55, 56, 57, 58, 59, 60, 61, 62, 63, 64, 65, 66, 67, 68, 69, 70, 71, 72, 73, 74, 75, 76] (fun i => [(4, .int .i64 (i : Int))]) (fun _ => HS w [] [.blk b1 26 2 [.int .i64 next, .slice a L.length cap]]) (fun i => i ≤ L.length ∧ eachF (filEs next (pls L)) 0 = eachF ((filEs next (pls L)).drop i) i) (fun i => L.length - i) 0 ⟨Nat.zero_le _, rfl⟩ (by repeat (first | exact sl_n | refine sl_c rfl ?_)) (fun w h => h.ent (by repeat (first | exact .nil | refine .cons (by repeat (first | exact .here | apply Pick.there)) ?_))) (fun i hy => ?_)
      obtain ⟨hi1, hi2⟩ := hy
      refine s_seq ?_
      refine s_seq ?_
      refine s_region ?_
      refine o_p (p_pure rfl) rfl ?_
      refine o_p (p_fieldAddr rfl rfl fd_26_1 sz_24 rfl) rfl ?_
      first | refine o_q (q_load rfl rfl sz_24 (by repeat (first | exact .here | apply Pick.there)) rfl) rfl ?_ | refine o_q (q_load_old rfl rfl sz_24 (rfl (Rw.rd hs.1 hil))) rfl ?_
      first | refine o_p (p_len_slice rfl rfl Try.underlying24) rfl ?_ | refine o_q (q_len_own rfl rfl Try.underlying24 (by repeat (first | exact .here | apply Pick.there))) rfl ?_
      refine o_p (p_pure rfl) rfl ?_
      refine o_nil ?_
      refine s_cond rfl (fun h8 => ?_) (fun h8 => ?_)
      · try simp only [decide_eq_true_eq, decide_eq_false_iff_not, Bool.not_eq_true', Bool.not_eq_false', Bool.and_eq_true, Bool.or_eq_true, Bool.and_eq_false_iff, Bool.or_eq_false_iff, Bool.not_true, Bool.not_false] at h8
        have hil : i < L.length := by omega
        have hoi := hmo _ (mem_nth hil)
        refine s_skip ?_
        refine s_seq ?_
        refine s_block ?_
        refine s_seq ?_
        refine s_region ?_
        refine o_p (p_fieldAddr rfl rfl fd_26_1 sz_24 rfl) rfl ?_
        first | refine o_q (q_load rfl rfl sz_24 (by repeat (first | exact .here | apply Pick.there)) rfl) rfl ?_ | refine o_q (q_load_old rfl rfl sz_24 (rfl (Rw.rd hs.1 hil))) rfl ?_
        refine o_p (p_pure rfl) rfl ?_
        first | refine o_p (p_indexAddr rfl rfl rfl sl_24 (i) (by omega) (by omega) rfl) rfl ?_ | refine o_p (p_indexAddr rfl rfl rfl sl_24 (i) (by omega) (by omega) (Rw.some hs.1 (by omega))) rfl ?_
        first | refine o_q (q_loadn rfl rfl sz_77 (by repeat (first | exact .here | apply Pick.there)) rfl) rfl ?_ | refine o_q (q_load_oldn _ rfl rfl sz_77 rfl (Rw.rd hs.1 hil)) rfl ?_
        refine o_h (h_alloc rfl zr_77) rfl (fun b9 _ => ?_)
        refine o_h0 (h_store rfl rfl rfl sz_77 rfl (by repeat (first | exact .here | apply Put.there)) (by simp only [setMany_length, List.length_set, List.length_cons, List.length_nil, List.length_map]; omega) rfl) (fun _ _ => ?_)
        refine o_nil ?_
        refine s_seq ?_
        refine s_seq ?_
        refine s_region ?_
        refine o_p (p_fieldAddr rfl rfl fd_77_0 sz_42 rfl) rfl ?_
        first | refine o_q (q_loadn rfl rfl sz_42 (by repeat (first | exact .here | apply Pick.there)) rfl) rfl ?_ | refine o_q (q_load_oldn _ rfl rfl sz_42 rfl (Rw.rd hs.1 hil)) rfl ?_
        refine o_q (q_call rfl fn_32 rfl (fun w1 h1 => c32 w1 _ _)) rfl ?_
        refine o_p (p_pure rfl) rfl ?_
        refine o_nil ?_
        refine s_seq ?_
        refine s_region ?_
        refine o_p (p_pure rfl) rfl ?_
        refine o_p (p_pure rfl) rfl ?_
        refine o_nil ?_
        refine s_cond rfl (fun h10 => ?_) (fun h10 => ?_)
        · try simp only [decide_eq_true_eq, decide_eq_false_iff_not, Bool.not_eq_true', Bool.not_eq_false', Bool.and_eq_true, Bool.or_eq_true, Bool.and_eq_false_iff, Bool.or_eq_false_iff, Bool.not_true, Bool.not_false] at h10
          have hA : ¬ refE (nth L i).rc (nth L i).sq = 0 := h10
          refine s_seq ?_
          refine s_region ?_
          refine o_p (p_pure rfl) rfl ?_
          refine o_p (p_pure rfl) rfl ?_
          refine o_p (p_pure rfl) rfl ?_
          refine o_p (p_pure rfl) rfl ?_
          refine o_nil ?_
          exact s_retv (rs := [.tmp 2, .tmp 3]) rfl (.tmp rfl (.tmp rfl (.nil))) (fun w' h' => ⟨by have hfe : filE next (pls L) i = refE (nth L i).rc (nth L i).sq := (by rw [fil_r hil]; rw [if_pos hA]); rw [chk_at hn hc2 hi2 hil (by rw [hfe]; exact hA), hfe]; rfl, h'.below⟩)
        · try simp only [decide_eq_true_eq, decide_eq_false_iff_not, Bool.not_eq_true', Bool.not_eq_false', Bool.and_eq_true, Bool.or_eq_true, Bool.and_eq_false_iff, Bool.or_eq_false_iff, Bool.not_true, Bool.not_false] at h10
          have hA : refE (nth L i).rc (nth L i).sq = 0 := h10
          refine s_skip ?_
          refine s_seq ?_
          refine s_seq ?_
          refine s_weaken (L' := [(1, _), (4, _), (5, _)]) (by repeat (first | exact sl_n | refine sl_c rfl ?_)) (fun _ h => h) ?_
          refine s_cutI (α := Unit) [41, 42, 43, 44, 45, 46, 47, 48, 49, 50, 51, 52, 53, 54, 55] (fun _ => [(55, .bool (decide (¬ (i = 0 ∨ refLt ((nth L (i - 1)).rc, (nth L (i - 1)).sq) ((nth L i).rc, (nth L i).sq) = true))))]) (fun _ => HS w [] [.blk b1 26 2 [.int .i64 next, .slice a L.length cap], .blk b9 77 4 (nth L i).vals]) (fun _ => True) ?_ ?_
          · skip
            refine s_draw [] mixed ?_
            refine d_p 0 rfl (p_pure rfl) (by kernel_rfl) rfl rfl ?_
            refine d_p 1 rfl (p_pure rfl) (by kernel_rfl) rfl rfl ?_
            refine d_p 2 rfl (p_pure rfl) (by kernel_rfl) rfl rfl ?_
            apply d_split 43
            · exact rfl
            · intro hg11
              have hs12 := hg11; try simp only [decide_eq_true_eq, decide_eq_false_iff_not, Bool.not_eq_true', Bool.not_eq_false', Bool.and_eq_true, Bool.or_eq_true, Bool.and_eq_false_iff, Bool.or_eq_false_iff, Bool.not_true, Bool.not_false] at hs12
              refine d_pon 3 43 rfl rfl rfl hg11 (p_fieldAddr rfl rfl fd_26_1 sz_24 rfl) (by kernel_rfl) rfl rfl ?_
              first | refine d_qon 4 43 [] rfl rfl rfl hg11 (q_load rfl rfl sz_24 (by repeat (first | exact .here | apply Pick.there)) rfl) (by kernel_rfl) (by kernel_rfl) (by kernel_rfl) rfl ?_ | refine d_qon 4 43 [] rfl rfl rfl hg11 (q_load_old rfl rfl sz_24 (rfl (Rw.rd hs.1 hil))) (by kernel_rfl) (by kernel_rfl) (by kernel_rfl) rfl ?_
              refine d_pon 5 43 rfl rfl rfl hg11 (p_pure rfl) (by kernel_rfl) rfl rfl ?_
              refine d_pon 6 43 rfl rfl rfl hg11 (p_pure rfl) (by kernel_rfl) rfl rfl ?_
              try (refine d_slot (i64w (by omega) (by omega)) ?_)
              first | refine d_pon 7 43 rfl rfl rfl hg11 (p_indexAddr rfl rfl rfl sl_24 ((i - 1)) (by omega) (by omega) rfl) (by kernel_rfl) rfl rfl ?_ | refine d_pon 7 43 rfl rfl rfl hg11 (p_indexAddr rfl rfl rfl sl_24 ((i - 1)) (by omega) (by omega) (Rw.some hs.1 (by omega))) (by kernel_rfl) rfl rfl ?_
              refine d_pon 8 43 rfl rfl rfl hg11 (p_fieldAddr rfl rfl fd_77_0 sz_42 rfl) (by kernel_rfl) rfl rfl ?_
              refine d_qon 9 43 [] rfl rfl rfl hg11 (q_load_oldn [.int .i64 (nth L (i - 1)).rc, .int .i64 (nth L (i - 1)).sq] rfl rfl sz_42 rfl (fun j v hv => Rw.rd hs.1 (i := i - 1) (by omega) j v (by rcases j with _ | _ | j <;> first | exact hv | (simp at hv)))) (by kernel_rfl) (by kernel_rfl) (by kernel_rfl) rfl ?_
              refine d_pon 10 43 rfl rfl rfl hg11 (p_fieldAddr rfl rfl fd_77_0 sz_42 rfl) (by kernel_rfl) rfl rfl ?_
              first | refine d_qon 11 43 [] rfl rfl rfl hg11 (q_loadn rfl rfl sz_42 (by repeat (first | exact .here | apply Pick.there)) rfl) (by kernel_rfl) (by kernel_rfl) (by kernel_rfl) rfl ?_ | refine d_qon 11 43 [] rfl rfl rfl hg11 (q_load_oldn _ rfl rfl sz_42 rfl (Rw.rd hs.1 hil)) (by kernel_rfl) (by kernel_rfl) (by kernel_rfl) rfl ?_
              refine d_qon 12 43 [] rfl rfl rfl hg11 (q_call rfl fn_60 rfl (fun w1 h1 => c60 w1 _ _ _ _)) (by kernel_rfl) (by kernel_rfl) (by kernel_rfl) rfl ?_
              refine d_pon 13 43 rfl rfl rfl hg11 (p_pure rfl) (by kernel_rfl) rfl rfl ?_
              refine d_p 14 rfl (p_pickt rfl rfl hg11 rfl) (by kernel_rfl) rfl rfl ?_
              refine d_nil (by kernel_rfl) (fun w h => h.ent (by repeat (first | exact .nil | refine .cons (by repeat (first | exact .here | apply Pick.there)) ?_))) ?_
              exact s_joinI () trivial (sl_c (congrArg (fun e => some (Value.bool e)) (by have hq := hg11; simp at hq; first | (have h0 : i ≠ 0 := by omega); simp [h0] | (have h0 : i = 0 := by omega); simp [h0])) (by repeat (first | exact sl_n | refine sl_c rfl ?_))) (fun w h => h.ent (by repeat (first | exact .nil | refine .cons (by repeat (first | exact .here | apply Pick.there)) ?_)))
            · intro hg13
              have hs14 := hg13; try simp only [decide_eq_true_eq, decide_eq_false_iff_not, Bool.not_eq_true', Bool.not_eq_false', Bool.and_eq_true, Bool.or_eq_true, Bool.and_eq_false_iff, Bool.or_eq_false_iff, Bool.not_true, Bool.not_false] at hs14
              refine d_off 3 43 rfl rfl rfl hg13 (by kernel_rfl) rfl rfl ?_
              refine d_off 4 43 rfl rfl rfl hg13 (by kernel_rfl) rfl rfl ?_
              refine d_off 5 43 rfl rfl rfl hg13 (by kernel_rfl) rfl rfl ?_
              refine d_off 6 43 rfl rfl rfl hg13 (by kernel_rfl) rfl rfl ?_
              refine d_off 7 43 rfl rfl rfl hg13 (by kernel_rfl) rfl rfl ?_
              refine d_off 8 43 rfl rfl rfl hg13 (by kernel_rfl) rfl rfl ?_
              refine d_off 9 43 rfl rfl rfl hg13 (by kernel_rfl) rfl rfl ?_
              refine d_off 10 43 rfl rfl rfl hg13 (by kernel_rfl) rfl rfl ?_
              refine d_off 11 43 rfl rfl rfl hg13 (by kernel_rfl) rfl rfl ?_
              refine d_off 12 43 rfl rfl rfl hg13 (by kernel_rfl) rfl rfl ?_
              refine d_off 13 43 rfl rfl rfl hg13 (by kernel_rfl) rfl rfl ?_
              refine d_p 14 rfl (p_pickf rfl rfl hg13 rfl) (by kernel_rfl) rfl rfl ?_
              refine d_nil (by kernel_rfl) (fun w h => h.ent (by repeat (first | exact .nil | refine .cons (by repeat (first | exact .here | apply Pick.there)) ?_))) ?_
              exact s_joinI () trivial (sl_c (congrArg (fun e => some (Value.bool e)) (by have hq := hg13; simp at hq; first | (have h0 : i ≠ 0 := by omega); simp [h0] | (have h0 : i = 0 := by omega); simp [h0])) (by repeat (first | exact sl_n | refine sl_c rfl ?_))) (fun w h => h.ent (by repeat (first | exact .nil | refine .cons (by repeat (first | exact .here | apply Pick.there)) ?_)))
          · intro _ _
            refine s_cond rfl (fun h15 => ?_) (fun h15 => ?_)
            · try simp only [decide_eq_true_eq, decide_eq_false_iff_not, Bool.not_eq_true', Bool.not_eq_false', Bool.and_eq_true, Bool.or_eq_true, Bool.and_eq_false_iff, Bool.or_eq_false_iff, Bool.not_true, Bool.not_false] at h15
              have hB : ¬ (i = 0 ∨ refLt ((nth L (i - 1)).rc, (nth L (i - 1)).sq) ((nth L i).rc, (nth L i).sq) = true) := by have hq := h15; simpa using hq
              refine s_seq ?_
              refine s_region ?_
              refine o_p (p_pure rfl) rfl ?_
              refine o_p (p_pure rfl) rfl ?_
              refine o_p (p_pure rfl) rfl ?_
              refine o_nil ?_
              exact s_retv (rs := [.tmp 2, .tmp 3]) rfl (.tmp rfl (.tmp rfl (.nil))) (fun w' h' => ⟨by have hfe : filE next (pls L) i = 9 := (by rw [fil_r hil]; rw [if_neg (not_not_intro hA), if_pos hB]); rw [chk_at hn hc2 hi2 hil (by rw [hfe]; decide), hfe]; rfl, h'.below⟩)
            · try simp only [decide_eq_true_eq, decide_eq_false_iff_not, Bool.not_eq_true', Bool.not_eq_false', Bool.and_eq_true, Bool.or_eq_true, Bool.and_eq_false_iff, Bool.or_eq_false_iff, Bool.not_true, Bool.not_false] at h15
              have hB : i = 0 ∨ refLt ((nth L (i - 1)).rc, (nth L (i - 1)).sq) ((nth L i).rc, (nth L i).sq) = true := by have hq := h15; (try simp only [Bool.not_eq_true, decide_eq_false_iff_not, Decidable.not_not] at hq); first | exact hq | (by_cases h0 : i = 0 <;> simp_all)
              refine s_skip ?_
              refine s_seq ?_
              refine s_seq ?_
              refine s_region ?_
              refine o_p (p_fieldAddr rfl rfl fd_77_2 sz_75 rfl) rfl ?_
              first | refine o_q (q_load rfl rfl sz_75 (by repeat (first | exact .here | apply Pick.there)) rfl) rfl ?_ | refine o_q (q_load_old rfl rfl sz_75 (rfl (Rw.rd hs.1 hil))) rfl ?_
              first | refine o_p (p_len_slice rfl rfl Try.underlying75) rfl ?_ | refine o_q (q_len_own rfl rfl Try.underlying75 (by repeat (first | exact .here | apply Pick.there))) rfl ?_
              refine o_p (p_pure rfl) rfl ?_
              refine o_nil ?_
              refine s_cond rfl (fun h16 => ?_) (fun h16 => ?_)
              · try simp only [decide_eq_true_eq, decide_eq_false_iff_not, Bool.not_eq_true', Bool.not_eq_false', Bool.and_eq_true, Bool.or_eq_true, Bool.and_eq_false_iff, Bool.or_eq_false_iff, Bool.not_true, Bool.not_false] at h16
                have hC : (nth L i).op.length = 0 := by have hq := h16; omega
                refine s_seq ?_
                refine s_region ?_
                refine o_p (p_pure rfl) rfl ?_
                refine o_p (p_pure rfl) rfl ?_
                refine o_p (p_pure rfl) rfl ?_
                refine o_nil ?_
                exact s_retv (rs := [.tmp 2, .tmp 3]) rfl (.tmp rfl (.tmp rfl (.nil))) (fun w' h' => ⟨by have hfe : filE next (pls L) i = 17 := (by rw [fil_r hil]; rw [if_neg (not_not_intro hA), if_neg (not_not_intro hB), if_pos hC]); rw [chk_at hn hc2 hi2 hil (by rw [hfe]; decide), hfe]; rfl, h'.below⟩)
              · try simp only [decide_eq_true_eq, decide_eq_false_iff_not, Bool.not_eq_true', Bool.not_eq_false', Bool.and_eq_true, Bool.or_eq_true, Bool.and_eq_false_iff, Bool.or_eq_false_iff, Bool.not_true, Bool.not_false] at h16
                have hC : ¬ (nth L i).op.length = 0 := by have hq := h16; omega
                have hfi : filE next (pls L) i = hdlsE next (hds ((pls L).take i)) (plo (nth L i).op) := by rw [fil_r hil, if_neg (not_not_intro hA), if_neg (not_not_intro hB), if_neg hC]
                refine s_skip ?_
                refine s_seq ?_
                refine s_region ?_
                refine o_p (p_pure rfl) rfl ?_
                refine o_nil ?_
                refine s_block ?_
                refine s_loopI (α := Nat) [2, 3, 7, 8, 62, 63, 64, 65, 66, 67, 68, 69, 70, 71, 72, 73, 74, 75, 76] (fun k => [(7, .int .i64 (k : Int))]) (fun _ => HS w [] [.blk b1 26 2 [.int .i64 next, .slice a L.length cap], .blk b9 77 4 (nth L i).vals]) (fun k => k ≤ (nth L i).op.length ∧ eachF (hdlEs next (hds ((pls L).take i)) (plo (nth L i).op)) 0 = eachF ((hdlEs next (hds ((pls L).take i)) (plo (nth L i).op)).drop k) k ∧ ∀ j, j < k → hdlE next (hds ((pls L).take i)) (plo (nth L i).op) j = 0) (fun k => (nth L i).op.length - k) 0 ⟨Nat.zero_le _, rfl, fun j h => absurd h (Nat.not_lt_zero j)⟩ (by repeat (first | exact sl_n | refine sl_c rfl ?_)) (fun w h => h.ent (by repeat (first | exact .nil | refine .cons (by repeat (first | exact .here | apply Pick.there)) ?_))) (fun k hy => ?_)
                obtain ⟨hk1, hk2, hk3⟩ := hy
                refine s_seq ?_
                refine s_seq ?_
                refine s_region ?_
                refine o_p (p_pure rfl) rfl ?_
                refine o_p (p_fieldAddr rfl rfl fd_77_2 sz_75 rfl) rfl ?_
                first | refine o_q (q_load rfl rfl sz_75 (by repeat (first | exact .here | apply Pick.there)) rfl) rfl ?_ | refine o_q (q_load_old rfl rfl sz_75 (rfl (Rw.rd hs.1 hil))) rfl ?_
                first | refine o_p (p_len_slice rfl rfl Try.underlying75) rfl ?_ | refine o_q (q_len_own rfl rfl Try.underlying75 (by repeat (first | exact .here | apply Pick.there))) rfl ?_
                refine o_p (p_pure rfl) rfl ?_
                refine o_nil ?_
                refine s_cond rfl (fun h17 => ?_) (fun h17 => ?_)
                · try simp only [decide_eq_true_eq, decide_eq_false_iff_not, Bool.not_eq_true', Bool.not_eq_false', Bool.and_eq_true, Bool.or_eq_true, Bool.and_eq_false_iff, Bool.or_eq_false_iff, Bool.not_true, Bool.not_false] at h17
                  have hkl : k < (nth L i).op.length := by omega
                  refine s_skip ?_
                  refine s_seq ?_
                  refine s_block ?_
                  refine s_seq ?_
                  refine s_region ?_
                  first | refine o_q (q_loadn rfl rfl sz_26 (by repeat (first | exact .here | apply Pick.there)) rfl) rfl ?_ | refine o_q (q_load_oldn _ rfl rfl sz_26 rfl (Rw.rd hs.1 hil)) rfl ?_
                  refine o_p (p_pure rfl) rfl ?_
                  refine o_p (p_pure rfl) rfl ?_
                  refine o_q (q_call rfl fn_61 rfl (fun w1 h1 => c61 w1 next a cap L i k (hs.later h1) hm hmo hil hkl hn hk3)) rfl ?_
                  refine o_p (p_pure rfl) rfl ?_
                  refine o_nil ?_
                  refine s_seq ?_
                  refine s_region ?_
                  refine o_p (p_pure rfl) rfl ?_
                  refine o_p (p_pure rfl) rfl ?_
                  refine o_nil ?_
                  refine s_cond rfl (fun h18 => ?_) (fun h18 => ?_)
                  · try simp only [decide_eq_true_eq, decide_eq_false_iff_not, Bool.not_eq_true', Bool.not_eq_false', Bool.and_eq_true, Bool.or_eq_true, Bool.and_eq_false_iff, Bool.or_eq_false_iff, Bool.not_true, Bool.not_false] at h18
                    have hke : ¬ hdlE next (hds ((pls L).take i)) (plo (nth L i).op) k = 0 := h18
                    have hfe : filE next (pls L) i = hdlE next (hds ((pls L).take i)) (plo (nth L i).op) k := by rw [hfi]; show (eachF (hdlEs next (hds ((pls L).take i)) (plo (nth L i).op)) 0).2 = _; rw [hk2, eachF_drop (by rw [hdlEs_len]; exact hkl), hdlEs_getl hkl, if_neg hke]
                    refine s_seq ?_
                    refine s_region ?_
                    refine o_p (p_pure rfl) rfl ?_
                    refine o_p (p_pure rfl) rfl ?_
                    refine o_p (p_pure rfl) rfl ?_
                    refine o_p (p_pure rfl) rfl ?_
                    refine o_nil ?_
                    exact s_retv (rs := [.tmp 2, .tmp 3]) rfl (.tmp rfl (.tmp rfl (.nil))) (fun w' h' => ⟨by rw [chk_at hn hc2 hi2 hil (by rw [hfe]; exact hke), hfe]; rfl, h'.below⟩)
                  · try simp only [decide_eq_true_eq, decide_eq_false_iff_not, Bool.not_eq_true', Bool.not_eq_false', Bool.and_eq_true, Bool.or_eq_true, Bool.and_eq_false_iff, Bool.or_eq_false_iff, Bool.not_true, Bool.not_false] at h18
                    have hkz : hdlE next (hds ((pls L).take i)) (plo (nth L i).op) k = 0 := by have hq := h18; simpa using hq
                    refine s_skip ?_
                    refine s_blk ?_
                    refine s_region ?_
                    refine o_p (p_pure rfl) rfl ?_
                    refine o_p (p_pure rfl) rfl ?_
                    try (refine o_slot (i64w (by omega) (by omega)) ?_)
                    refine o_p (p_pure rfl) rfl ?_
                    refine o_nil ?_
                    exact s_backI (k + 1) (by omega) ⟨by omega, by rw [hk2, eachF_drop (by rw [hdlEs_len]; exact hkl), hdlEs_getl hkl, if_pos hkz], fun j hj => (Nat.lt_or_ge j k).elim (hk3 j) (fun p3 => by have e9 : j = k := (by omega); rw [e9]; exact hkz)⟩ (by repeat (first | exact sl_n | refine sl_c rfl ?_)) (fun w h => h.ent (by repeat (first | exact .nil | refine .cons (by repeat (first | exact .here | apply Pick.there)) ?_)))
                · try simp only [decide_eq_true_eq, decide_eq_false_iff_not, Bool.not_eq_true', Bool.not_eq_false', Bool.and_eq_true, Bool.or_eq_true, Bool.and_eq_false_iff, Bool.or_eq_false_iff, Bool.not_true, Bool.not_false] at h17
                  have hfz : filE next (pls L) i = 0 := by rw [hfi]; show (eachF (hdlEs next (hds ((pls L).take i)) (plo (nth L i).op)) 0).2 = 0; rw [hk2, eachF_end (by rw [hdlEs_len]; omega)]
                  refine s_exit_to rfl ?_
                  refine s_blk ?_
                  refine s_region ?_
                  refine o_p (p_pure rfl) rfl ?_
                  refine o_p (p_pure rfl) rfl ?_
                  try (refine o_slot (i64w (by omega) (by omega)) ?_)
                  refine o_p (p_pure rfl) rfl ?_
                  refine o_nil ?_
                  exact s_backI (i + 1) (by omega) ⟨by omega, by rw [hi2, eachF_drop (by omega), filEs_getl hil, if_pos hfz]⟩ (by repeat (first | exact sl_n | refine sl_c rfl ?_)) (fun w h => h.ent (by repeat (first | exact .nil | refine .cons (by repeat (first | exact .here | apply Pick.there)) ?_)))
      · try simp only [decide_eq_true_eq, decide_eq_false_iff_not, Bool.not_eq_true', Bool.not_eq_false', Bool.and_eq_true, Bool.or_eq_true, Bool.and_eq_false_iff, Bool.or_eq_false_iff, Bool.not_true, Bool.not_false] at h8
        refine s_exit_to rfl ?_
        refine s_seq ?_
        refine s_region ?_
        refine o_p (p_pure rfl) rfl ?_
        refine o_p (p_pure rfl) rfl ?_
        refine o_nil ?_
        exact s_retv (rs := [.tmp 2, .tmp 3]) rfl (.tmp rfl (.tmp rfl (.nil))) (fun w' h' => ⟨by rw [chk_r hn hc2, hi2, eachF_end (by omega)]; rfl, h'.below⟩)

set_option maxRecDepth 20000 in
theorem c31 (w : World) (next : Int) (a : Option Addr) (cap : Nat) (L : List LFil) (hs : Ft w [] a L) (hm : L.length ≤ 1000) (hmo : ∀ f ∈ L, f.op.length ≤ 1000) : Calls Try.prog 31 #[.agg #[.int .i64 next, .slice a L.length cap]] w fun en w' => en = .returned (.int .i64 (chkT next (pls L)).2) ∧ Below w.heap.size w w' := by
  refine enter (args := [_]) Try.func31 Try.ntmps31 rfl rfl (HS.refl w []) ?_
  refine s_seq ?_
  refine s_region ?_
  refine o_h (h_box rfl rfl) rfl (fun b1 _ => ?_)
  refine o_p (p_pure rfl) rfl ?_
  refine o_nil ?_
  refine s_seq ?_
  refine s_region ?_
  refine o_q (q_loadn rfl rfl sz_26 (by repeat (first | exact .here | apply Pick.there)) rfl) rfl ?_
  refine o_q (q_call rfl fn_20 rfl (fun w1 h1 => c20 w1 next a cap L (hs.later h1) hm hmo)) rfl ?_
  refine o_p (p_pure rfl) rfl ?_
  refine o_p (p_pure rfl) rfl ?_
  refine o_p (p_pure rfl) rfl ?_
  refine o_p (p_pure rfl) rfl ?_
  refine o_p (p_pure rfl) rfl ?_
  refine o_nil ?_
  refine s_seq ?_
  refine s_region ?_
  refine o_p (p_pure rfl) rfl ?_
  refine o_p (p_pure rfl) rfl ?_
  refine o_nil ?_
  exact s_retv (rs := [.tmp 2]) rfl (.tmp rfl (.nil)) (fun w' h' => ⟨rfl, h'.below⟩)

end Go.Proofs

