/- Contracts of the program's functions, proved by walking them with the rules of the Gx texts; without conditions beyond those that each contract names. -/
import Derived.Test.YtaffndpaehiafaaC07ZG
namespace Go.Proofs
open Go Go.RowKit Gx
set_option linter.unusedVariables false
set_option linter.unusedSimpArgs false
attribute [local irreducible] Go.Calls Gx.S Gx.O Gx.D Gx.OpP Gx.OpQ Gx.OpH

theorem fn_43 : isFn Try.prog 43 = true := by kernel_rfl
theorem fn_44 : isFn Try.prog 44 = true := by kernel_rfl
theorem fn_45 : isFn Try.prog 45 = true := by kernel_rfl
theorem fn_46 : isFn Try.prog 46 = true := by kernel_rfl
theorem fn_48 : isFn Try.prog 48 = true := by kernel_rfl
theorem fn_49 : isFn Try.prog 49 = true := by kernel_rfl
theorem fn_50 : isFn Try.prog 50 = true := by kernel_rfl
theorem fn_51 : isFn Try.prog 51 = true := by kernel_rfl
theorem fn_52 : isFn Try.prog 52 = true := by kernel_rfl
theorem fn_53 : isFn Try.prog 53 = true := by kernel_rfl


theorem remT_le (fs : Fds) (u : Int) : (remT fs u).1.length ≤ fs.length := by
  unfold remT
  split
  · split
    · split
      · exact Nat.zero_le _
      · simp only [remL, List.length_append, List.length_take, List.length_drop]; omega
    · exact Nat.zero_le _
  · exact Nat.zero_le _
theorem fofT_le (s : List UInt8) : (fofT s).1.length ≤ 256 := by
  have hb := (s.getD 0 0).toNat_lt
  unfold fofT
  split
  · exact Nat.zero_le _
  · split
    · exact Nat.zero_le _
    · split
      · exact Nat.zero_le _
      · split
        · rw [parF_length]; omega
        · exact Nat.zero_le _
theorem addT_le (fs : Fds) (u : Int) (own : List UInt8) (u2 : Int) (own2 : List UInt8) : (addT fs u own u2 own2).1.length ≤ fs.length + 1 := by
  unfold addT
  repeat' split
  all_goals first
    | exact Nat.zero_le _
    | (rw [insL_length (lbF_le _ _)]; exact Nat.le_refl _)

set_option maxRecDepth 20000 in
theorem c9 (w : World) (a : Option Addr) (cap : Nat) (fs : Fds) (u : Int) (own s : List UInt8) (hs : Fl w a fs) (hm0 : fs.length ≤ 9223372036854775807) (hu : -9223372036854775808 ≤ u ∧ u ≤ 9223372036854775807) : Calls Try.prog 9 #[.slice a fs.length cap, .agg #[.int .i64 u, .string (bs own)], .string (bs s)] w fun en w' => en = .returned (.bool true) ∧ Below w.heap.size w w' := by
  refine enter (args := [_, _, _]) Try.func9 Try.ntmps9 rfl rfl (HS.refl w []) ?_
  refine s_seq ?_
  refine s_region ?_
  refine o_h (h_box rfl rfl) rfl (fun b1 _ => ?_)
  refine o_p (p_pure rfl) rfl ?_
  refine o_nil ?_
  refine s_seq ?_
  refine s_seq ?_
  refine s_region ?_
  refine o_q (q_call rfl fn_12 rfl (fun w1 h1 => c12 w1)) rfl ?_
  refine o_p (p_pure rfl) rfl ?_
  refine o_nil ?_
  refine s_cond rfl (fun h2 => ?_) (fun h2 => ?_)
  · try simp only [decide_eq_true_eq, decide_eq_false_iff_not, Bool.not_eq_true', Bool.not_eq_false', Bool.and_eq_true, Bool.or_eq_true, Bool.and_eq_false_iff, Bool.or_eq_false_iff, Bool.not_true, Bool.not_false] at h2
    exfalso; first | omega | (simp at h2; done) | (simp_all; done)
  · try simp only [decide_eq_true_eq, decide_eq_false_iff_not, Bool.not_eq_true', Bool.not_eq_false', Bool.and_eq_true, Bool.or_eq_true, Bool.and_eq_false_iff, Bool.or_eq_false_iff, Bool.not_true, Bool.not_false] at h2
    refine s_skip ?_
    refine s_seq ?_
    refine s_seq ?_
    refine s_region ?_
    refine o_p (p_pure rfl) rfl ?_
    refine o_p (p_build (cs := [_, _, _]) rfl rfl pl_43 zr_43 rfl) rfl ?_
    refine o_q (q_call rfl fn_23 rfl (fun w1 h1 => c23 w1 _ _ fs 0 [] (hs.later h1) (by omega))) rfl ?_
    refine o_p (p_pure rfl) rfl ?_
    refine o_p (p_pure rfl) rfl ?_
    refine o_or 7 29 36 _ _ rfl
      (by
        intro hg3
        have hs4 := hg3; try simp only [decide_eq_true_eq, decide_eq_false_iff_not, Bool.not_eq_true', Bool.not_eq_false', Bool.and_eq_true, Bool.or_eq_true, Bool.and_eq_false_iff, Bool.or_eq_false_iff, Bool.not_true, Bool.not_false] at hs4
        refine o_on 29 _ rfl rfl hg3 ?_
        refine o_p (p_fieldAddr rfl rfl fd_31_1 sz_9 rfl) rfl ?_
        refine o_on 29 _ rfl rfl hg3 ?_
        refine o_q (q_load rfl rfl sz_9 (by repeat (first | exact .here | apply Pick.there)) rfl) rfl ?_
        refine o_on 29 _ rfl rfl hg3 ?_
        refine o_p (p_pure rfl) rfl ?_
        refine o_on 29 _ rfl rfl hg3 ?_
        refine o_h (h_buildSlice (cs := [_, _]) rfl rfl sl_104 zr_9 rfl rfl rfl) rfl (fun b5 _ => ?_)
        refine o_on 29 _ rfl rfl hg3 ?_
        refine o_q (q_call rfl fn_16 rfl (fun w1 h1 => x16 w1 _ 2 _ [own, s] rfl (h1.vl_blk (by repeat (first | exact .here | apply Pick.there))) (by decide))) rfl ?_
        refine o_on 29 _ rfl rfl hg3 ?_
        refine o_p (p_pure rfl) rfl ?_
        refine o_p (p_pickf rfl rfl hg3 rfl) rfl ?_
        refine o_nil ?_
        exact s_joinN 7 36 _ rfl rfl rfl (fun w h => by first | exact h | exact h.ent (by repeat (first | exact .nil | refine .cons (by repeat (first | exact .here | apply Pick.there)) ?_))))
      (by
        intro hg6
        have hs7 := hg6; try simp only [decide_eq_true_eq, decide_eq_false_iff_not, Bool.not_eq_true', Bool.not_eq_false', Bool.and_eq_true, Bool.or_eq_true, Bool.and_eq_false_iff, Bool.or_eq_false_iff, Bool.not_true, Bool.not_false] at hs7
        refine o_off 29 _ rfl rfl hg6 rfl ?_
        refine o_off 29 _ rfl rfl hg6 rfl ?_
        refine o_off 29 _ rfl rfl hg6 rfl ?_
        refine o_off 29 _ rfl rfl hg6 rfl ?_
        refine o_off 29 _ rfl rfl hg6 rfl ?_
        refine o_off 29 _ rfl rfl hg6 rfl ?_
        refine o_p (p_pickt rfl rfl hg6 rfl) rfl ?_
        refine o_nil ?_
        exact s_joinN 7 36 _ rfl rfl rfl (fun w h => by first | exact h | exact h.ent (by repeat (first | exact .nil | refine .cons (by repeat (first | exact .here | apply Pick.there)) ?_)))) ?_
    refine o_nil ?_
    refine s_cond rfl (fun h8 => ?_) (fun h8 => ?_)
    · try simp only [decide_eq_true_eq, decide_eq_false_iff_not, Bool.not_eq_true', Bool.not_eq_false', Bool.and_eq_true, Bool.or_eq_true, Bool.and_eq_false_iff, Bool.or_eq_false_iff, Bool.not_true, Bool.not_false] at h8
      refine s_seq ?_
      refine s_region ?_
      refine o_p (p_pure rfl) rfl ?_
      refine o_nil ?_
      exact s_retv (rs := [.tmp 6]) rfl (.tmp rfl (.nil)) (fun w' h' => ⟨by rfl, h'.below⟩)
    · try simp only [decide_eq_true_eq, decide_eq_false_iff_not, Bool.not_eq_true', Bool.not_eq_false', Bool.and_eq_true, Bool.or_eq_true, Bool.and_eq_false_iff, Bool.or_eq_false_iff, Bool.not_true, Bool.not_false] at h8
      have hh : likeB fs 0 = true ∧ fewB [own, s] = true := by have hq := h8; simpa using hq
      obtain ⟨hm, hsl2, _⟩ := likeB_le hh.1
      have hd : own.length ≤ 400 ∧ s.length ≤ 400 := by have hq := hh.2; simpa [fewB] using hq
      refine s_skip ?_
      refine s_seq ?_
      refine s_region ?_
      refine o_p (p_pure rfl) rfl ?_
      refine o_h (h_call rfl fn_41 rfl (fun w1 h1 => c41 w1 _ _ fs (hs.later h1) (by omega))) rfl (fun b9 _ => ?_)
      refine o_q (q_call rfl fn_40 rfl (fun w1 h1 => c40 w1 _ _ fs (h1.fl (by repeat (first | exact .here | apply Pick.there)) rfl) (by omega))) rfl ?_
      refine o_p (p_pure rfl) rfl ?_
      refine o_p (p_pure rfl) rfl ?_
      refine o_p (p_pure rfl) rfl ?_
      refine o_p (p_pure rfl) rfl ?_
      refine o_p (p_pure rfl) rfl ?_
      refine o_nil ?_
      refine s_seq ?_
      refine s_region ?_
      refine o_p (p_pure rfl) rfl ?_
      refine o_q (q_call rfl fn_42 rfl (fun w1 h1 => c42 w1 _ _ fs (hs.later h1) (by omega))) rfl ?_
      refine o_p (p_pure rfl) rfl ?_
      refine o_p (p_pure rfl) rfl ?_
      refine o_p (p_pure rfl) rfl ?_
      refine o_p (p_pure rfl) rfl ?_
      refine o_p (p_pure rfl) rfl ?_
      refine o_nil ?_
      refine s_seq ?_
      refine s_seq ?_
      refine s_region ?_
      refine o_p (p_pure rfl) rfl ?_
      refine o_p (p_pure rfl) rfl ?_
      refine o_p (p_pure rfl) rfl ?_
      refine o_p (p_pure rfl) rfl ?_
      refine o_or 4 51 55 _ _ rfl
        (by
          intro hg10
          have hs11 := hg10; try simp only [decide_eq_true_eq, decide_eq_false_iff_not, Bool.not_eq_true', Bool.not_eq_false', Bool.and_eq_true, Bool.or_eq_true, Bool.and_eq_false_iff, Bool.or_eq_false_iff, Bool.not_true, Bool.not_false] at hs11
          refine o_on 51 _ rfl rfl hg10 ?_
          refine o_p (p_pure rfl) rfl ?_
          refine o_on 51 _ rfl rfl hg10 ?_
          refine o_p (p_pure rfl) rfl ?_
          refine o_on 51 _ rfl rfl hg10 ?_
          refine o_p (p_pure rfl) rfl ?_
          refine o_p (p_pickf rfl rfl hg10 rfl) rfl ?_
          refine o_nil ?_
          exact s_joinN 4 55 _ rfl rfl rfl (fun w h => by first | exact h | exact h.ent (by repeat (first | exact .nil | refine .cons (by repeat (first | exact .here | apply Pick.there)) ?_))))
        (by
          intro hg12
          have hs13 := hg12; try simp only [decide_eq_true_eq, decide_eq_false_iff_not, Bool.not_eq_true', Bool.not_eq_false', Bool.and_eq_true, Bool.or_eq_true, Bool.and_eq_false_iff, Bool.or_eq_false_iff, Bool.not_true, Bool.not_false] at hs13
          refine o_off 51 _ rfl rfl hg12 rfl ?_
          refine o_off 51 _ rfl rfl hg12 rfl ?_
          refine o_off 51 _ rfl rfl hg12 rfl ?_
          refine o_p (p_pickt rfl rfl hg12 rfl) rfl ?_
          refine o_nil ?_
          exact s_joinN 4 55 _ rfl rfl rfl (fun w h => by first | exact h | exact h.ent (by repeat (first | exact .nil | refine .cons (by repeat (first | exact .here | apply Pick.there)) ?_)))) ?_
      refine o_nil ?_
      refine s_cond rfl (fun h14 => ?_) (fun h14 => ?_)
      · try simp only [decide_eq_true_eq, decide_eq_false_iff_not, Bool.not_eq_true', Bool.not_eq_false', Bool.and_eq_true, Bool.or_eq_true, Bool.and_eq_false_iff, Bool.or_eq_false_iff, Bool.not_true, Bool.not_false] at h14
        exfalso; first | omega | (simp at h14; done) | (simp_all; done)
      · try simp only [decide_eq_true_eq, decide_eq_false_iff_not, Bool.not_eq_true', Bool.not_eq_false', Bool.and_eq_true, Bool.or_eq_true, Bool.and_eq_false_iff, Bool.or_eq_false_iff, Bool.not_true, Bool.not_false] at h14
        refine s_skip ?_
        refine s_seq ?_
        refine s_draw [] mixed ?_
        refine d_p 0 rfl (p_pure rfl) (by kernel_rfl) rfl rfl ?_
        refine d_q 2 [] rfl (q_loadn rfl rfl sz_31 (by repeat (first | exact .here | apply Pick.there)) rfl) (by kernel_rfl) (by kernel_rfl) (by kernel_rfl) rfl ?_
        refine d_h 1 rfl (h_call rfl fn_41 rfl (fun w1 h1 => c41 w1 _ _ fs (hs.later h1) (by omega))) (by kernel_rfl) (fun w h => h.ent (by repeat (first | exact .nil | refine .cons (by repeat (first | exact .here | apply Pick.there)) ?_))) rfl (fun b15 _ => ?_)
        refine d_base (fun w h => h.ent (by repeat (first | exact .nil | refine .cons (by repeat (first | exact .here | apply Pick.there)) ?_))) ?_
        refine d_q 3 [] rfl (q_call rfl fn_43 rfl (fun w1 h1 => c43 w1 _ _ fs u own (h1.fl (by repeat (first | exact .here | apply Pick.there)) rfl) (by omega))) (by kernel_rfl) (by kernel_rfl) (by kernel_rfl) rfl ?_
        refine d_p 4 rfl (p_pure rfl) (by kernel_rfl) rfl rfl ?_
        refine d_p 5 rfl (p_pure rfl) (by kernel_rfl) rfl rfl ?_
        refine d_p 6 rfl (p_pure rfl) (by kernel_rfl) rfl rfl ?_
        refine d_p 7 rfl (p_pure rfl) (by kernel_rfl) rfl rfl ?_
        refine d_p 8 rfl (p_pure rfl) (by kernel_rfl) rfl rfl ?_
        refine d_nil (by kernel_rfl) (fun w h => h.ent (by repeat (first | exact .nil | refine .cons (by repeat (first | exact .here | apply Pick.there)) ?_))) ?_
        refine s_seq ?_
        refine s_region ?_
        refine o_p (p_pure rfl) rfl ?_
        refine o_q (q_loadn rfl rfl sz_31 (by repeat (first | exact .here | apply Pick.there)) rfl) rfl ?_
        refine o_q (q_call rfl fn_44 rfl (fun w1 h1 => c44 w1 _ _ fs u own (hs.later h1) (by omega))) rfl ?_
        refine o_p (p_pure rfl) rfl ?_
        refine o_p (p_pure rfl) rfl ?_
        refine o_p (p_pure rfl) rfl ?_
        refine o_p (p_pure rfl) rfl ?_
        refine o_p (p_pure rfl) rfl ?_
        refine o_nil ?_
        refine s_seq ?_
        refine s_seq ?_
        refine s_region ?_
        refine o_p (p_pure rfl) rfl ?_
        refine o_p (p_pure rfl) rfl ?_
        refine o_p (p_pure rfl) rfl ?_
        refine o_p (p_pure rfl) rfl ?_
        refine o_or 4 72 76 _ _ rfl
          (by
            intro hg16
            have hs17 := hg16; try simp only [decide_eq_true_eq, decide_eq_false_iff_not, Bool.not_eq_true', Bool.not_eq_false', Bool.and_eq_true, Bool.or_eq_true, Bool.and_eq_false_iff, Bool.or_eq_false_iff, Bool.not_true, Bool.not_false] at hs17
            refine o_on 72 _ rfl rfl hg16 ?_
            refine o_p (p_pure rfl) rfl ?_
            refine o_on 72 _ rfl rfl hg16 ?_
            refine o_p (p_pure rfl) rfl ?_
            refine o_on 72 _ rfl rfl hg16 ?_
            refine o_p (p_pure rfl) rfl ?_
            refine o_p (p_pickf rfl rfl hg16 rfl) rfl ?_
            refine o_nil ?_
            exact s_joinN 4 76 _ rfl rfl rfl (fun w h => by first | exact h | exact h.ent (by repeat (first | exact .nil | refine .cons (by repeat (first | exact .here | apply Pick.there)) ?_))))
          (by
            intro hg18
            have hs19 := hg18; try simp only [decide_eq_true_eq, decide_eq_false_iff_not, Bool.not_eq_true', Bool.not_eq_false', Bool.and_eq_true, Bool.or_eq_true, Bool.and_eq_false_iff, Bool.or_eq_false_iff, Bool.not_true, Bool.not_false] at hs19
            refine o_off 72 _ rfl rfl hg18 rfl ?_
            refine o_off 72 _ rfl rfl hg18 rfl ?_
            refine o_off 72 _ rfl rfl hg18 rfl ?_
            refine o_p (p_pickt rfl rfl hg18 rfl) rfl ?_
            refine o_nil ?_
            exact s_joinN 4 76 _ rfl rfl rfl (fun w h => by first | exact h | exact h.ent (by repeat (first | exact .nil | refine .cons (by repeat (first | exact .here | apply Pick.there)) ?_)))) ?_
        refine o_nil ?_
        refine s_cond rfl (fun h20 => ?_) (fun h20 => ?_)
        · try simp only [decide_eq_true_eq, decide_eq_false_iff_not, Bool.not_eq_true', Bool.not_eq_false', Bool.and_eq_true, Bool.or_eq_true, Bool.and_eq_false_iff, Bool.or_eq_false_iff, Bool.not_true, Bool.not_false] at h20
          exfalso; first | omega | (simp at h20; done) | (simp_all; done)
        · try simp only [decide_eq_true_eq, decide_eq_false_iff_not, Bool.not_eq_true', Bool.not_eq_false', Bool.and_eq_true, Bool.or_eq_true, Bool.and_eq_false_iff, Bool.or_eq_false_iff, Bool.not_true, Bool.not_false] at h20
          refine s_skip ?_
          refine s_seq ?_
          refine s_draw [] mixed ?_
          refine d_p 0 rfl (p_pure rfl) (by kernel_rfl) rfl rfl ?_
          refine d_p 2 rfl (p_fieldAddr rfl rfl fd_31_0 sz_3 rfl) (by kernel_rfl) rfl rfl ?_
          refine d_q 3 [] rfl (q_load rfl rfl sz_3 (by repeat (first | exact .here | apply Pick.there)) rfl) (by kernel_rfl) (by kernel_rfl) (by kernel_rfl) rfl ?_
          refine d_h 1 rfl (h_call rfl fn_41 rfl (fun w1 h1 => c41 w1 _ _ fs (hs.later h1) (by omega))) (by kernel_rfl) (fun w h => h.ent (by repeat (first | exact .nil | refine .cons (by repeat (first | exact .here | apply Pick.there)) ?_))) rfl (fun b21 _ => ?_)
          refine d_base (fun w h => h.ent (by repeat (first | exact .nil | refine .cons (by repeat (first | exact .here | apply Pick.there)) ?_))) ?_
          refine d_h 4 rfl (h_call rfl fn_45 rfl (fun w1 h1 => c45 w1 _ _ fs u (h1.fl (by repeat (first | exact .here | apply Pick.there)) rfl) (by omega) hu)) (by kernel_rfl) (fun w h => h.ent (by repeat (first | exact .nil | refine .cons (by repeat (first | exact .here | apply Pick.there)) ?_))) rfl (fun b22 _ => ?_)
          refine d_base (fun w h => h.ent (by repeat (first | exact .nil | refine .cons (by repeat (first | exact .here | apply Pick.there)) ?_))) ?_
          refine d_p 5 rfl (p_pure rfl) (by kernel_rfl) rfl rfl ?_
          refine d_p 6 rfl (p_pure rfl) (by kernel_rfl) rfl rfl ?_
          refine d_p 7 rfl (p_pure rfl) (by kernel_rfl) rfl rfl ?_
          refine d_p 8 rfl (p_pure rfl) (by kernel_rfl) rfl rfl ?_
          refine d_p 9 rfl (p_pure rfl) (by kernel_rfl) rfl rfl ?_
          refine d_nil (by kernel_rfl) (fun w h => h.ent (by repeat (first | exact .nil | refine .cons (by repeat (first | exact .here | apply Pick.there)) ?_))) ?_
          refine s_seq ?_
          refine s_region ?_
          refine o_p (p_pure rfl) rfl ?_
          refine o_p (p_fieldAddr rfl rfl fd_31_0 sz_3 rfl) rfl ?_
          refine o_q (q_load rfl rfl sz_3 (by repeat (first | exact .here | apply Pick.there)) rfl) rfl ?_
          refine o_h (h_call rfl fn_46 rfl (fun w1 h1 => c46 w1 _ _ fs u (hs.later h1) (by omega))) rfl (fun b23 _ => ?_)
          refine o_p (p_pure rfl) rfl ?_
          refine o_p (p_pure rfl) rfl ?_
          refine o_p (p_pure rfl) rfl ?_
          refine o_p (p_pure rfl) rfl ?_
          refine o_p (p_pure rfl) rfl ?_
          refine o_nil ?_
          refine s_seq ?_
          refine s_seq ?_
          refine s_region ?_
          refine o_p (p_pure rfl) rfl ?_
          refine o_p (p_pure rfl) rfl ?_
          refine o_p (p_pure rfl) rfl ?_
          refine o_p (p_pure rfl) rfl ?_
          refine o_or 5 95 100 _ _ rfl
            (by
              intro hg24
              have hs25 := hg24; try simp only [decide_eq_true_eq, decide_eq_false_iff_not, Bool.not_eq_true', Bool.not_eq_false', Bool.and_eq_true, Bool.or_eq_true, Bool.and_eq_false_iff, Bool.or_eq_false_iff, Bool.not_true, Bool.not_false] at hs25
              refine o_on 95 _ rfl rfl hg24 ?_
              refine o_p (p_pure rfl) rfl ?_
              refine o_on 95 _ rfl rfl hg24 ?_
              refine o_p (p_pure rfl) rfl ?_
              refine o_on 95 _ rfl rfl hg24 ?_
              refine o_q (q_call rfl fn_47 rfl (fun w1 h1 => c47 w1 _ _ _ _ (remT fs u).1 (remT fs u).1 (h1.fl (by repeat (first | exact .here | apply Pick.there)) rfl) (h1.fl (by repeat (first | exact .here | apply Pick.there)) rfl) (by have := remT_le fs u; omega))) rfl ?_
              refine o_on 95 _ rfl rfl hg24 ?_
              refine o_p (p_pure rfl) rfl ?_
              refine o_p (p_pickf rfl rfl hg24 rfl) rfl ?_
              refine o_nil ?_
              exact s_joinN 5 100 _ rfl rfl rfl (fun w h => by first | exact h | exact h.ent (by repeat (first | exact .nil | refine .cons (by repeat (first | exact .here | apply Pick.there)) ?_))))
            (by
              intro hg26
              have hs27 := hg26; try simp only [decide_eq_true_eq, decide_eq_false_iff_not, Bool.not_eq_true', Bool.not_eq_false', Bool.and_eq_true, Bool.or_eq_true, Bool.and_eq_false_iff, Bool.or_eq_false_iff, Bool.not_true, Bool.not_false] at hs27
              refine o_off 95 _ rfl rfl hg26 rfl ?_
              refine o_off 95 _ rfl rfl hg26 rfl ?_
              refine o_off 95 _ rfl rfl hg26 rfl ?_
              refine o_off 95 _ rfl rfl hg26 rfl ?_
              refine o_p (p_pickt rfl rfl hg26 rfl) rfl ?_
              refine o_nil ?_
              exact s_joinN 5 100 _ rfl rfl rfl (fun w h => by first | exact h | exact h.ent (by repeat (first | exact .nil | refine .cons (by repeat (first | exact .here | apply Pick.there)) ?_)))) ?_
          refine o_nil ?_
          refine s_cond rfl (fun h28 => ?_) (fun h28 => ?_)
          · try simp only [decide_eq_true_eq, decide_eq_false_iff_not, Bool.not_eq_true', Bool.not_eq_false', Bool.and_eq_true, Bool.or_eq_true, Bool.and_eq_false_iff, Bool.or_eq_false_iff, Bool.not_true, Bool.not_false] at h28
            exfalso; first | omega | (simp at h28; done) | (simp_all; done)
          · try simp only [decide_eq_true_eq, decide_eq_false_iff_not, Bool.not_eq_true', Bool.not_eq_false', Bool.and_eq_true, Bool.or_eq_true, Bool.and_eq_false_iff, Bool.or_eq_false_iff, Bool.not_true, Bool.not_false] at h28
            refine s_skip ?_
            refine s_seq ?_
            refine s_region ?_
            refine o_p (p_pure rfl) rfl ?_
            refine o_h (h_call rfl fn_41 rfl (fun w1 h1 => c41 w1 _ _ fs (hs.later h1) (by omega))) rfl (fun b29 _ => ?_)
            refine o_q (q_call rfl fn_48 rfl (fun w1 h1 => c48 w1 _ _ fs (h1.fl (by repeat (first | exact .here | apply Pick.there)) rfl) (by omega))) rfl ?_
            refine o_p (p_pure rfl) rfl ?_
            refine o_p (p_pure rfl) rfl ?_
            refine o_p (p_pure rfl) rfl ?_
            refine o_p (p_pure rfl) rfl ?_
            refine o_p (p_pure rfl) rfl ?_
            refine o_nil ?_
            refine s_seq ?_
            refine s_seq ?_
            refine s_region ?_
            refine o_p (p_pure rfl) rfl ?_
            refine o_p (p_pure rfl) rfl ?_
            refine o_p (p_pure rfl) rfl ?_
            refine o_and 8 109 117 _ _ rfl
              (by
                intro hg30
                have hs31 := hg30; try simp only [decide_eq_true_eq, decide_eq_false_iff_not, Bool.not_eq_true', Bool.not_eq_false', Bool.and_eq_true, Bool.or_eq_true, Bool.and_eq_false_iff, Bool.or_eq_false_iff, Bool.not_true, Bool.not_false] at hs31
                refine o_on 109 _ rfl rfl hg30 ?_
                refine o_p (p_pure rfl) rfl ?_
                refine o_on 109 _ rfl rfl hg30 ?_
                refine o_p (p_pure rfl) rfl ?_
                refine o_on 109 _ rfl rfl hg30 ?_
                refine o_p (p_pure rfl) rfl ?_
                refine o_on 109 _ rfl rfl hg30 ?_
                refine o_p (p_pure rfl) rfl ?_
                refine o_or 3 113 116 _ _ rfl
                  (by
                    intro hg32
                    have hs33 := hg32; try simp only [decide_eq_true_eq, decide_eq_false_iff_not, Bool.not_eq_true', Bool.not_eq_false', Bool.and_eq_true, Bool.or_eq_true, Bool.and_eq_false_iff, Bool.or_eq_false_iff, Bool.not_true, Bool.not_false] at hs33
                    refine o_on 113 _ rfl rfl hg32 ?_
                    refine o_p (p_pure rfl) rfl ?_
                    refine o_on 113 _ rfl rfl hg32 ?_
                    refine o_p (p_pure rfl) rfl ?_
                    refine o_on 109 _ rfl rfl hg30 ?_
                    refine o_p (p_pickf rfl rfl hg32 rfl) rfl ?_
                    refine o_nil ?_
                    exact s_joinN 3 116 _ rfl rfl rfl (fun w h => by first | exact h | exact h.ent (by repeat (first | exact .nil | refine .cons (by repeat (first | exact .here | apply Pick.there)) ?_))))
                  (by
                    intro hg34
                    have hs35 := hg34; try simp only [decide_eq_true_eq, decide_eq_false_iff_not, Bool.not_eq_true', Bool.not_eq_false', Bool.and_eq_true, Bool.or_eq_true, Bool.and_eq_false_iff, Bool.or_eq_false_iff, Bool.not_true, Bool.not_false] at hs35
                    refine o_off 113 _ rfl rfl hg34 rfl ?_
                    refine o_off 113 _ rfl rfl hg34 rfl ?_
                    refine o_on 109 _ rfl rfl hg30 ?_
                    refine o_p (p_pickt rfl rfl hg34 rfl) rfl ?_
                    refine o_nil ?_
                    exact s_joinN 3 116 _ rfl rfl rfl (fun w h => by first | exact h | exact h.ent (by repeat (first | exact .nil | refine .cons (by repeat (first | exact .here | apply Pick.there)) ?_)))) ?_
                refine o_p (p_pickt rfl rfl hg30 rfl) rfl ?_
                refine o_nil ?_
                exact s_joinN 6 117 _ rfl rfl rfl (fun w h => by first | exact h | exact h.ent (by repeat (first | exact .nil | refine .cons (by repeat (first | exact .here | apply Pick.there)) ?_))))
              (by
                intro hg36
                have hs37 := hg36; try simp only [decide_eq_true_eq, decide_eq_false_iff_not, Bool.not_eq_true', Bool.not_eq_false', Bool.and_eq_true, Bool.or_eq_true, Bool.and_eq_false_iff, Bool.or_eq_false_iff, Bool.not_true, Bool.not_false] at hs37
                refine o_off 109 _ rfl rfl hg36 rfl ?_
                refine o_off 109 _ rfl rfl hg36 rfl ?_
                refine o_off 109 _ rfl rfl hg36 rfl ?_
                refine o_off 109 _ rfl rfl hg36 rfl ?_
                refine o_off' 113 rfl rfl rfl ?_
                refine o_off' 113 rfl rfl rfl ?_
                refine o_off 109 _ rfl rfl hg36 rfl ?_
                refine o_p (p_pickf rfl rfl hg36 rfl) rfl ?_
                refine o_nil ?_
                exact s_joinN 8 117 _ rfl rfl rfl (fun w h => by first | exact h | exact h.ent (by repeat (first | exact .nil | refine .cons (by repeat (first | exact .here | apply Pick.there)) ?_)))) ?_
            refine o_p (p_pure rfl) rfl ?_
            refine o_or 13 118 131 _ _ rfl
              (by
                intro hg38
                have hs39 := hg38; try simp only [decide_eq_true_eq, decide_eq_false_iff_not, Bool.not_eq_true', Bool.not_eq_false', Bool.and_eq_true, Bool.or_eq_true, Bool.and_eq_false_iff, Bool.or_eq_false_iff, Bool.not_true, Bool.not_false] at hs39
                refine o_on 118 _ rfl rfl hg38 ?_
                refine o_p (p_pure rfl) rfl ?_
                refine o_on 118 _ rfl rfl hg38 ?_
                refine o_p (p_pure rfl) rfl ?_
                refine o_on 118 _ rfl rfl hg38 ?_
                refine o_p (p_pure rfl) rfl ?_
                refine o_and 9 121 130 _ _ rfl
                  (by
                    intro hg40
                    have hs41 := hg40; try simp only [decide_eq_true_eq, decide_eq_false_iff_not, Bool.not_eq_true', Bool.not_eq_false', Bool.and_eq_true, Bool.or_eq_true, Bool.and_eq_false_iff, Bool.or_eq_false_iff, Bool.not_true, Bool.not_false] at hs41
                    refine o_on 121 _ rfl rfl hg40 ?_
                    refine o_p (p_pure rfl) rfl ?_
                    refine o_on 121 _ rfl rfl hg40 ?_
                    refine o_p (p_pure rfl) rfl ?_
                    refine o_on 121 _ rfl rfl hg40 ?_
                    refine o_p (p_pure rfl) rfl ?_
                    refine o_or 5 124 129 _ _ rfl
                      (by
                        intro hg42
                        have hs43 := hg42; try simp only [decide_eq_true_eq, decide_eq_false_iff_not, Bool.not_eq_true', Bool.not_eq_false', Bool.and_eq_true, Bool.or_eq_true, Bool.and_eq_false_iff, Bool.or_eq_false_iff, Bool.not_true, Bool.not_false] at hs43
                        refine o_on 124 _ rfl rfl hg42 ?_
                        refine o_p (p_pure rfl) rfl ?_
                        refine o_on 124 _ rfl rfl hg42 ?_
                        refine o_p (p_pure rfl) rfl ?_
                        refine o_on 124 _ rfl rfl hg42 ?_
                        refine o_q (q_call rfl fn_49 rfl (fun w1 h1 => c49 w1 _ _ fs (hs.later h1) (chkF_ok (by omega)))) rfl ?_
                        refine o_on 124 _ rfl rfl hg42 ?_
                        refine o_p (p_pure rfl) rfl ?_
                        refine o_on 121 _ rfl rfl hg40 ?_
                        refine o_p (p_pickf rfl rfl hg42 rfl) rfl ?_
                        refine o_nil ?_
                        exact s_joinN 5 129 _ rfl rfl rfl (fun w h => by first | exact h | exact h.ent (by repeat (first | exact .nil | refine .cons (by repeat (first | exact .here | apply Pick.there)) ?_))))
                      (by
                        intro hg44
                        have hs45 := hg44; try simp only [decide_eq_true_eq, decide_eq_false_iff_not, Bool.not_eq_true', Bool.not_eq_false', Bool.and_eq_true, Bool.or_eq_true, Bool.and_eq_false_iff, Bool.or_eq_false_iff, Bool.not_true, Bool.not_false] at hs45
                        refine o_off 124 _ rfl rfl hg44 rfl ?_
                        refine o_off 124 _ rfl rfl hg44 rfl ?_
                        refine o_off 124 _ rfl rfl hg44 rfl ?_
                        refine o_off 124 _ rfl rfl hg44 rfl ?_
                        refine o_on 121 _ rfl rfl hg40 ?_
                        refine o_p (p_pickt rfl rfl hg44 rfl) rfl ?_
                        refine o_nil ?_
                        exact s_joinN 5 129 _ rfl rfl rfl (fun w h => by first | exact h | exact h.ent (by repeat (first | exact .nil | refine .cons (by repeat (first | exact .here | apply Pick.there)) ?_)))) ?_
                    refine o_on 118 _ rfl rfl hg38 ?_
                    refine o_p (p_pickt rfl rfl hg40 rfl) rfl ?_
                    refine o_nil ?_
                    exact s_joinN 5 130 _ rfl rfl rfl (fun w h => by first | exact h | exact h.ent (by repeat (first | exact .nil | refine .cons (by repeat (first | exact .here | apply Pick.there)) ?_))))
                  (by
                    intro hg46
                    have hs47 := hg46; try simp only [decide_eq_true_eq, decide_eq_false_iff_not, Bool.not_eq_true', Bool.not_eq_false', Bool.and_eq_true, Bool.or_eq_true, Bool.and_eq_false_iff, Bool.or_eq_false_iff, Bool.not_true, Bool.not_false] at hs47
                    refine o_off 121 _ rfl rfl hg46 rfl ?_
                    refine o_off 121 _ rfl rfl hg46 rfl ?_
                    refine o_off 121 _ rfl rfl hg46 rfl ?_
                    refine o_off' 124 rfl rfl rfl ?_
                    refine o_off' 124 rfl rfl rfl ?_
                    refine o_off' 124 rfl rfl rfl ?_
                    refine o_off' 124 rfl rfl rfl ?_
                    refine o_off 121 _ rfl rfl hg46 rfl ?_
                    refine o_on 118 _ rfl rfl hg38 ?_
                    refine o_p (p_pickf rfl rfl hg46 rfl) rfl ?_
                    refine o_nil ?_
                    exact s_joinN 9 130 _ rfl rfl rfl (fun w h => by first | exact h | exact h.ent (by repeat (first | exact .nil | refine .cons (by repeat (first | exact .here | apply Pick.there)) ?_)))) ?_
                refine o_p (p_pickf rfl rfl hg38 rfl) rfl ?_
                refine o_nil ?_
                exact s_joinN 5 131 _ rfl rfl rfl (fun w h => by first | exact h | exact h.ent (by repeat (first | exact .nil | refine .cons (by repeat (first | exact .here | apply Pick.there)) ?_))))
              (by
                intro hg48
                have hs49 := hg48; try simp only [decide_eq_true_eq, decide_eq_false_iff_not, Bool.not_eq_true', Bool.not_eq_false', Bool.and_eq_true, Bool.or_eq_true, Bool.and_eq_false_iff, Bool.or_eq_false_iff, Bool.not_true, Bool.not_false] at hs49
                refine o_off 118 _ rfl rfl hg48 rfl ?_
                refine o_off 118 _ rfl rfl hg48 rfl ?_
                refine o_off 118 _ rfl rfl hg48 rfl ?_
                refine o_off' 121 rfl rfl rfl ?_
                refine o_off' 121 rfl rfl rfl ?_
                refine o_off' 121 rfl rfl rfl ?_
                refine o_off' 124 rfl rfl rfl ?_
                refine o_off' 124 rfl rfl rfl ?_
                refine o_off' 124 rfl rfl rfl ?_
                refine o_off' 124 rfl rfl rfl ?_
                refine o_off' 121 rfl rfl rfl ?_
                refine o_off 118 _ rfl rfl hg48 rfl ?_
                refine o_p (p_pickt rfl rfl hg48 rfl) rfl ?_
                refine o_nil ?_
                exact s_joinN 13 131 _ rfl rfl rfl (fun w h => by first | exact h | exact h.ent (by repeat (first | exact .nil | refine .cons (by repeat (first | exact .here | apply Pick.there)) ?_)))) ?_
            refine o_nil ?_
            refine s_cond rfl (fun h50 => ?_) (fun h50 => ?_)
            · try simp only [decide_eq_true_eq, decide_eq_false_iff_not, Bool.not_eq_true', Bool.not_eq_false', Bool.and_eq_true, Bool.or_eq_true, Bool.and_eq_false_iff, Bool.or_eq_false_iff, Bool.not_true, Bool.not_false] at h50
              exfalso; unfold bytesT at h50; revert h50; split <;> simp_all
            · try simp only [decide_eq_true_eq, decide_eq_false_iff_not, Bool.not_eq_true', Bool.not_eq_false', Bool.and_eq_true, Bool.or_eq_true, Bool.and_eq_false_iff, Bool.or_eq_false_iff, Bool.not_true, Bool.not_false] at h50
              refine s_skip ?_
              refine s_seq ?_
              refine s_region ?_
              refine o_p (p_pure rfl) rfl ?_
              refine o_h (h_call rfl fn_50 rfl (fun w1 h1 => c50 w1 s (by omega))) rfl (fun b51 _ => ?_)
              refine o_p (p_pure rfl) rfl ?_
              refine o_p (p_pure rfl) rfl ?_
              refine o_p (p_pure rfl) rfl ?_
              refine o_p (p_pure rfl) rfl ?_
              refine o_p (p_pure rfl) rfl ?_
              refine o_nil ?_
              refine s_seq ?_
              refine s_region ?_
              refine o_p (p_pure rfl) rfl ?_
              refine o_h (h_call rfl fn_51 rfl (fun w1 h1 => c51 w1 s (by omega))) rfl (fun b52 _ => ?_)
              refine o_p (p_pure rfl) rfl ?_
              refine o_p (p_pure rfl) rfl ?_
              refine o_p (p_pure rfl) rfl ?_
              refine o_p (p_pure rfl) rfl ?_
              refine o_p (p_pure rfl) rfl ?_
              refine o_nil ?_
              refine s_seq ?_
              refine s_region ?_
              refine o_p (p_pure rfl) rfl ?_
              refine o_p (p_pure rfl) rfl ?_
              refine o_p (p_pure rfl) rfl ?_
              refine o_p (p_pure rfl) rfl ?_
              refine o_and 4 145 149 _ _ rfl
                (by
                  intro hg53
                  have hs54 := hg53; try simp only [decide_eq_true_eq, decide_eq_false_iff_not, Bool.not_eq_true', Bool.not_eq_false', Bool.and_eq_true, Bool.or_eq_true, Bool.and_eq_false_iff, Bool.or_eq_false_iff, Bool.not_true, Bool.not_false] at hs54
                  refine o_on 145 _ rfl rfl hg53 ?_
                  refine o_p (p_pure rfl) rfl ?_
                  refine o_on 145 _ rfl rfl hg53 ?_
                  refine o_p (p_pure rfl) rfl ?_
                  refine o_on 145 _ rfl rfl hg53 ?_
                  refine o_q (q_call rfl fn_47 rfl (fun w1 h1 => c47 w1 _ _ _ _ (fofT s).1 (fofT s).1 (h1.fl (by repeat (first | exact .here | apply Pick.there)) rfl) (h1.fl (by repeat (first | exact .here | apply Pick.there)) rfl) (by have := fofT_le s; omega))) rfl ?_
                  refine o_p (p_pickt rfl rfl hg53 rfl) rfl ?_
                  refine o_nil ?_
                  exact s_joinN 4 149 _ rfl rfl rfl (fun w h => by first | exact h | exact h.ent (by repeat (first | exact .nil | refine .cons (by repeat (first | exact .here | apply Pick.there)) ?_))))
                (by
                  intro hg55
                  have hs56 := hg55; try simp only [decide_eq_true_eq, decide_eq_false_iff_not, Bool.not_eq_true', Bool.not_eq_false', Bool.and_eq_true, Bool.or_eq_true, Bool.and_eq_false_iff, Bool.or_eq_false_iff, Bool.not_true, Bool.not_false] at hs56
                  refine o_off 145 _ rfl rfl hg55 rfl ?_
                  refine o_off 145 _ rfl rfl hg55 rfl ?_
                  refine o_off 145 _ rfl rfl hg55 rfl ?_
                  refine o_p (p_pickf rfl rfl hg55 rfl) rfl ?_
                  refine o_nil ?_
                  exact s_joinN 4 149 _ rfl rfl rfl (fun w h => by first | exact h | exact h.ent (by repeat (first | exact .nil | refine .cons (by repeat (first | exact .here | apply Pick.there)) ?_)))) ?_
              refine o_p (p_pure rfl) rfl ?_
              refine o_nil ?_
              exact s_retv (rs := [.tmp 6]) rfl (.tmp rfl (.nil)) (fun w' h' => ⟨by simp; rfl, h'.below⟩)

set_option maxRecDepth 20000 in
theorem c10 (w : World) (a : Option Addr) (cap : Nat) (fs : Fds) (u : Int) (own : List UInt8) (u2 : Int) (own2 : List UInt8) (hs : Fl w a fs) (hm0 : fs.length ≤ 9223372036854775807) : Calls Try.prog 10 #[.slice a fs.length cap, .agg #[.int .i64 u, .string (bs own)], .agg #[.int .i64 u2, .string (bs own2)]] w fun en w' => en = .returned (.bool true) ∧ Below w.heap.size w w' := by
  refine enter (args := [_, _, _]) Try.func10 Try.ntmps10 rfl rfl (HS.refl w []) ?_
  refine s_seq ?_
  refine s_region ?_
  refine o_h (h_box rfl rfl) rfl (fun b1 _ => ?_)
  refine o_h (h_box rfl rfl) rfl (fun b2 _ => ?_)
  refine o_p (p_pure rfl) rfl ?_
  refine o_nil ?_
  refine s_seq ?_
  refine s_seq ?_
  refine s_region ?_
  refine o_q (q_call rfl fn_12 rfl (fun w1 h1 => c12 w1)) rfl ?_
  refine o_p (p_pure rfl) rfl ?_
  refine o_nil ?_
  refine s_cond rfl (fun h3 => ?_) (fun h3 => ?_)
  · try simp only [decide_eq_true_eq, decide_eq_false_iff_not, Bool.not_eq_true', Bool.not_eq_false', Bool.and_eq_true, Bool.or_eq_true, Bool.and_eq_false_iff, Bool.or_eq_false_iff, Bool.not_true, Bool.not_false] at h3
    exfalso; first | omega | (simp at h3; done) | (simp_all; done)
  · try simp only [decide_eq_true_eq, decide_eq_false_iff_not, Bool.not_eq_true', Bool.not_eq_false', Bool.and_eq_true, Bool.or_eq_true, Bool.and_eq_false_iff, Bool.or_eq_false_iff, Bool.not_true, Bool.not_false] at h3
    refine s_skip ?_
    refine s_seq ?_
    refine s_seq ?_
    refine s_region ?_
    refine o_p (p_pure rfl) rfl ?_
    refine o_p (p_build (cs := [_, _, _]) rfl rfl pl_43 zr_43 rfl) rfl ?_
    refine o_q (q_call rfl fn_23 rfl (fun w1 h1 => c23 w1 _ _ fs 0 [] (hs.later h1) (by omega))) rfl ?_
    refine o_p (p_pure rfl) rfl ?_
    refine o_p (p_pure rfl) rfl ?_
    refine o_or 8 17 25 _ _ rfl
      (by
        intro hg4
        have hs5 := hg4; try simp only [decide_eq_true_eq, decide_eq_false_iff_not, Bool.not_eq_true', Bool.not_eq_false', Bool.and_eq_true, Bool.or_eq_true, Bool.and_eq_false_iff, Bool.or_eq_false_iff, Bool.not_true, Bool.not_false] at hs5
        refine o_on 17 _ rfl rfl hg4 ?_
        refine o_p (p_fieldAddr rfl rfl fd_31_1 sz_9 rfl) rfl ?_
        refine o_on 17 _ rfl rfl hg4 ?_
        refine o_q (q_load rfl rfl sz_9 (by repeat (first | exact .here | apply Pick.there)) rfl) rfl ?_
        refine o_on 17 _ rfl rfl hg4 ?_
        refine o_p (p_fieldAddr rfl rfl fd_31_1 sz_9 rfl) rfl ?_
        refine o_on 17 _ rfl rfl hg4 ?_
        refine o_q (q_load rfl rfl sz_9 (by repeat (first | exact .here | apply Pick.there)) rfl) rfl ?_
        refine o_on 17 _ rfl rfl hg4 ?_
        refine o_h (h_buildSlice (cs := [_, _]) rfl rfl sl_104 zr_9 rfl rfl rfl) rfl (fun b6 _ => ?_)
        refine o_on 17 _ rfl rfl hg4 ?_
        refine o_q (q_call rfl fn_16 rfl (fun w1 h1 => x16 w1 _ 2 _ [own, own2] rfl (h1.vl_blk (by repeat (first | exact .here | apply Pick.there))) (by decide))) rfl ?_
        refine o_on 17 _ rfl rfl hg4 ?_
        refine o_p (p_pure rfl) rfl ?_
        refine o_p (p_pickf rfl rfl hg4 rfl) rfl ?_
        refine o_nil ?_
        exact s_joinN 8 25 _ rfl rfl rfl (fun w h => by first | exact h | exact h.ent (by repeat (first | exact .nil | refine .cons (by repeat (first | exact .here | apply Pick.there)) ?_))))
      (by
        intro hg7
        have hs8 := hg7; try simp only [decide_eq_true_eq, decide_eq_false_iff_not, Bool.not_eq_true', Bool.not_eq_false', Bool.and_eq_true, Bool.or_eq_true, Bool.and_eq_false_iff, Bool.or_eq_false_iff, Bool.not_true, Bool.not_false] at hs8
        refine o_off 17 _ rfl rfl hg7 rfl ?_
        refine o_off 17 _ rfl rfl hg7 rfl ?_
        refine o_off 17 _ rfl rfl hg7 rfl ?_
        refine o_off 17 _ rfl rfl hg7 rfl ?_
        refine o_off 17 _ rfl rfl hg7 rfl ?_
        refine o_off 17 _ rfl rfl hg7 rfl ?_
        refine o_off 17 _ rfl rfl hg7 rfl ?_
        refine o_p (p_pickt rfl rfl hg7 rfl) rfl ?_
        refine o_nil ?_
        exact s_joinN 8 25 _ rfl rfl rfl (fun w h => by first | exact h | exact h.ent (by repeat (first | exact .nil | refine .cons (by repeat (first | exact .here | apply Pick.there)) ?_)))) ?_
    refine o_nil ?_
    refine s_cond rfl (fun h9 => ?_) (fun h9 => ?_)
    · try simp only [decide_eq_true_eq, decide_eq_false_iff_not, Bool.not_eq_true', Bool.not_eq_false', Bool.and_eq_true, Bool.or_eq_true, Bool.and_eq_false_iff, Bool.or_eq_false_iff, Bool.not_true, Bool.not_false] at h9
      refine s_seq ?_
      refine s_region ?_
      refine o_p (p_pure rfl) rfl ?_
      refine o_nil ?_
      exact s_retv (rs := [.tmp 6]) rfl (.tmp rfl (.nil)) (fun w' h' => ⟨by rfl, h'.below⟩)
    · try simp only [decide_eq_true_eq, decide_eq_false_iff_not, Bool.not_eq_true', Bool.not_eq_false', Bool.and_eq_true, Bool.or_eq_true, Bool.and_eq_false_iff, Bool.or_eq_false_iff, Bool.not_true, Bool.not_false] at h9
      have hh : likeB fs 0 = true ∧ fewB [own, own2] = true := by have hq := h9; simpa using hq
      obtain ⟨hm, hsl2, _⟩ := likeB_le hh.1
      have hd : own.length ≤ 400 ∧ own2.length ≤ 400 := by have hq := hh.2; simpa [fewB] using hq
      refine s_skip ?_
      refine s_seq ?_
      refine s_draw [] mixed ?_
      refine d_p 0 rfl (p_pure rfl) (by kernel_rfl) rfl rfl ?_
      refine d_q 2 [] rfl (q_loadn rfl rfl sz_31 (by repeat (first | exact .here | apply Pick.there)) rfl) (by kernel_rfl) (by kernel_rfl) (by kernel_rfl) rfl ?_
      refine d_q 3 [] rfl (q_loadn rfl rfl sz_31 (by repeat (first | exact .here | apply Pick.there)) rfl) (by kernel_rfl) (by kernel_rfl) (by kernel_rfl) rfl ?_
      refine d_h 1 rfl (h_call rfl fn_41 rfl (fun w1 h1 => c41 w1 _ _ fs (hs.later h1) (by omega))) (by kernel_rfl) (fun w h => h.ent (by repeat (first | exact .nil | refine .cons (by repeat (first | exact .here | apply Pick.there)) ?_))) rfl (fun b10 _ => ?_)
      refine d_base (fun w h => h.ent (by repeat (first | exact .nil | refine .cons (by repeat (first | exact .here | apply Pick.there)) ?_))) ?_
      refine d_h 4 rfl (h_call rfl fn_52 rfl (fun w1 h1 => c52 w1 _ _ fs u own u2 own2 (h1.fl (by repeat (first | exact .here | apply Pick.there)) rfl) (by omega))) (by kernel_rfl) (fun w h => h.ent (by repeat (first | exact .nil | refine .cons (by repeat (first | exact .here | apply Pick.there)) ?_))) rfl (fun b11 _ => ?_)
      refine d_base (fun w h => h.ent (by repeat (first | exact .nil | refine .cons (by repeat (first | exact .here | apply Pick.there)) ?_))) ?_
      refine d_p 5 rfl (p_pure rfl) (by kernel_rfl) rfl rfl ?_
      refine d_p 6 rfl (p_pure rfl) (by kernel_rfl) rfl rfl ?_
      refine d_p 7 rfl (p_pure rfl) (by kernel_rfl) rfl rfl ?_
      refine d_p 8 rfl (p_pure rfl) (by kernel_rfl) rfl rfl ?_
      refine d_p 9 rfl (p_pure rfl) (by kernel_rfl) rfl rfl ?_
      refine d_nil (by kernel_rfl) (fun w h => h.ent (by repeat (first | exact .nil | refine .cons (by repeat (first | exact .here | apply Pick.there)) ?_))) ?_
      refine s_seq ?_
      refine s_region ?_
      refine o_p (p_pure rfl) rfl ?_
      refine o_q (q_loadn rfl rfl sz_31 (by repeat (first | exact .here | apply Pick.there)) rfl) rfl ?_
      refine o_q (q_loadn rfl rfl sz_31 (by repeat (first | exact .here | apply Pick.there)) rfl) rfl ?_
      refine o_h (h_call rfl fn_53 rfl (fun w1 h1 => c53 w1 _ _ fs u own u2 own2 (hs.later h1) (by omega))) rfl (fun b12 _ => ?_)
      refine o_p (p_pure rfl) rfl ?_
      refine o_p (p_pure rfl) rfl ?_
      refine o_p (p_pure rfl) rfl ?_
      refine o_p (p_pure rfl) rfl ?_
      refine o_p (p_pure rfl) rfl ?_
      refine o_nil ?_
      refine s_seq ?_
      refine s_region ?_
      refine o_p (p_pure rfl) rfl ?_
      refine o_p (p_pure rfl) rfl ?_
      refine o_p (p_pure rfl) rfl ?_
      refine o_p (p_pure rfl) rfl ?_
      refine o_and 4 44 48 _ _ rfl
        (by
          intro hg13
          have hs14 := hg13; try simp only [decide_eq_true_eq, decide_eq_false_iff_not, Bool.not_eq_true', Bool.not_eq_false', Bool.and_eq_true, Bool.or_eq_true, Bool.and_eq_false_iff, Bool.or_eq_false_iff, Bool.not_true, Bool.not_false] at hs14
          refine o_on 44 _ rfl rfl hg13 ?_
          refine o_p (p_pure rfl) rfl ?_
          refine o_on 44 _ rfl rfl hg13 ?_
          refine o_p (p_pure rfl) rfl ?_
          refine o_on 44 _ rfl rfl hg13 ?_
          refine o_q (q_call rfl fn_47 rfl (fun w1 h1 => c47 w1 _ _ _ _ (addT fs u own u2 own2).1 (addT fs u own u2 own2).1 (h1.fl (by repeat (first | exact .here | apply Pick.there)) rfl) (h1.fl (by repeat (first | exact .here | apply Pick.there)) rfl) (by have := addT_le fs u own u2 own2; omega))) rfl ?_
          refine o_p (p_pickt rfl rfl hg13 rfl) rfl ?_
          refine o_nil ?_
          exact s_joinN 4 48 _ rfl rfl rfl (fun w h => by first | exact h | exact h.ent (by repeat (first | exact .nil | refine .cons (by repeat (first | exact .here | apply Pick.there)) ?_))))
        (by
          intro hg15
          have hs16 := hg15; try simp only [decide_eq_true_eq, decide_eq_false_iff_not, Bool.not_eq_true', Bool.not_eq_false', Bool.and_eq_true, Bool.or_eq_true, Bool.and_eq_false_iff, Bool.or_eq_false_iff, Bool.not_true, Bool.not_false] at hs16
          refine o_off 44 _ rfl rfl hg15 rfl ?_
          refine o_off 44 _ rfl rfl hg15 rfl ?_
          refine o_off 44 _ rfl rfl hg15 rfl ?_
          refine o_p (p_pickf rfl rfl hg15 rfl) rfl ?_
          refine o_nil ?_
          exact s_joinN 4 48 _ rfl rfl rfl (fun w h => by first | exact h | exact h.ent (by repeat (first | exact .nil | refine .cons (by repeat (first | exact .here | apply Pick.there)) ?_)))) ?_
      refine o_p (p_pure rfl) rfl ?_
      refine o_nil ?_
      exact s_retv (rs := [.tmp 6]) rfl (.tmp rfl (.nil)) (fun w' h' => ⟨by simp; rfl, h'.below⟩)

end Go.Proofs
