/- Contracts of the program's functions, proved by walking them with the rules of the Gx texts; without conditions beyond those that each contract names. -/
import Derived.Test.YtaffndpaehiafaaC07P
namespace Go.Proofs
open Go Go.RowKit Gx
set_option linter.unusedVariables false
set_option linter.unusedSimpArgs false
attribute [local irreducible] Go.Calls Gx.S Gx.O Gx.D Gx.OpP Gx.OpQ Gx.OpH

theorem zr_9 : tzero Try.prog 9 = some [.string (bs [])] := by kernel_rfl
theorem fn_16 : isFn Try.prog 16 = true := by kernel_rfl
theorem fn_20 : isFn Try.prog 20 = true := by kernel_rfl
theorem fn_22 : isFn Try.prog 22 = true := by kernel_rfl
theorem ar_62 : tar Try.prog 62 = some (3, 3, 1) := by kernel_rfl
theorem fn_33 : isFn Try.prog 33 = true := by kernel_rfl
theorem fn_34 : isFn Try.prog 34 = true := by kernel_rfl
theorem fn_31 : isFn Try.prog 31 = true := by kernel_rfl
theorem fn_36 : isFn Try.prog 36 = true := by kernel_rfl


def wrapC (u : Int) (own key : List UInt8) : Int := if holdE u own = 0 then keyE key else holdE u own
theorem wrap_cases (u : Int) (own key : List UInt8) : (wrapC u own key = 0 ∧ wrapT u own key = (wrapL u own key, 0)) ∨ (¬ wrapC u own key = 0 ∧ wrapT u own key = ([], wrapC u own key)) := by
  have := keyE_or key
  unfold wrapC wrapT
  grind
theorem wrapC_0 {u : Int} {own key : List UInt8} (h : wrapC u own key = 0) : isWd u ∧ own.length = 8 ∧ key.length = 8 := by
  unfold wrapC at h
  split at h
  · rename_i h0
    exact ⟨(isWd_user h0).1, (isWd_user h0).2.1, keyE_ok h⟩
  · contradiction
theorem blok_cases (key : List UInt8) (n c : Int) : (blokE key n c = 0 ∧ blokT key n c = (blockB key (wd n) (wd c), 0)) ∨ (¬ blokE key n c = 0 ∧ blokT key n c = ([], blokE key n c)) := by
  unfold blokT
  by_cases h : blokE key n c = 0
  · exact .inl ⟨h, by rw [if_pos h]⟩
  · exact .inr ⟨h, by rw [if_neg h]⟩
theorem crypt_cases (key : List UInt8) (n at' : Int) (data : List UInt8) : (crypE key n at' data.length = 0 ∧ crypT key n at' data = (cryptL key (wd n) at'.toNat data, 0)) ∨ (¬ crypE key n at' data.length = 0 ∧ crypT key n at' data = ([], crypE key n at' data.length)) := by
  unfold crypT
  by_cases h : crypE key n at' data.length = 0
  · exact .inl ⟨h, by rw [if_pos h]⟩
  · exact .inr ⟨h, by rw [if_neg h]⟩

set_option maxRecDepth 20000 in
theorem c4 (w : World) (u : Int) (own key wr : List UInt8) : Calls Try.prog 4 #[.agg #[.int .i64 u, .string (bs own)], .string (bs key), .string (bs wr)] w fun en w' => en = .returned (.bool true) ∧ Below w.heap.size w w' := by
  have hW := wrap_cases u own key
  refine enter (args := [_, _, _]) Try.func4 Try.ntmps4 rfl rfl (HS.refl w []) ?_
  refine s_seq ?_
  refine s_region ?_
  refine o_h (h_box rfl rfl) rfl (fun b1 _ => ?_)
  refine o_p (p_pure rfl) rfl ?_
  refine o_nil ?_
  refine s_seq ?_
  refine s_seq ?_
  refine s_region ?_
  refine o_q (q_call rfl fn_12 rfl (fun w1 h1 => c12 w1)) rfl ?_
  refine o_p (p_pure rfl) rfl ?_
  refine o_nil ?_
  refine s_cond rfl (fun h2 => ?_) (fun h2 => ?_)
  · try simp only [decide_eq_true_eq, decide_eq_false_iff_not, Bool.not_eq_true', Bool.not_eq_false', Bool.and_eq_true, Bool.or_eq_true, Bool.and_eq_false_iff, Bool.or_eq_false_iff, Bool.not_true, Bool.not_false] at h2
    exfalso; first | omega | (simp at h2; done) | (simp_all; done)
  · try simp only [decide_eq_true_eq, decide_eq_false_iff_not, Bool.not_eq_true', Bool.not_eq_false', Bool.and_eq_true, Bool.or_eq_true, Bool.and_eq_false_iff, Bool.or_eq_false_iff, Bool.not_true, Bool.not_false] at h2
    refine s_skip ?_
    refine s_seq ?_
    refine s_seq ?_
    refine s_region ?_
    refine o_p (p_fieldAddr rfl rfl fd_31_1 sz_9 rfl) rfl ?_
    refine o_q (q_load rfl rfl sz_9 (by repeat (first | exact .here | apply Pick.there)) rfl) rfl ?_
    refine o_p (p_pure rfl) rfl ?_
    refine o_p (p_pure rfl) rfl ?_
    refine o_h (h_buildSlice (cs := [_, _, _]) rfl rfl sl_104 zr_9 rfl rfl rfl) rfl (fun b3 _ => ?_)
    refine o_q (q_call rfl fn_16 rfl (fun w1 h1 => x16 w1 _ 3 _ [own, key, wr] rfl (h1.vl_blk (by repeat (first | exact .here | apply Pick.there))) (by decide))) rfl ?_
    refine o_p (p_pure rfl) rfl ?_
    refine o_nil ?_
    refine s_cond rfl (fun h4 => ?_) (fun h4 => ?_)
    · try simp only [decide_eq_true_eq, decide_eq_false_iff_not, Bool.not_eq_true', Bool.not_eq_false', Bool.and_eq_true, Bool.or_eq_true, Bool.and_eq_false_iff, Bool.or_eq_false_iff, Bool.not_true, Bool.not_false] at h4
      refine s_seq ?_
      refine s_region ?_
      refine o_p (p_pure rfl) rfl ?_
      refine o_nil ?_
      exact s_retv (rs := [.tmp 6]) rfl (.tmp rfl (.nil)) (fun w' h' => ⟨by rfl, h'.below⟩)
    · try simp only [decide_eq_true_eq, decide_eq_false_iff_not, Bool.not_eq_true', Bool.not_eq_false', Bool.and_eq_true, Bool.or_eq_true, Bool.and_eq_false_iff, Bool.or_eq_false_iff, Bool.not_true, Bool.not_false] at h4
      refine s_skip ?_
      refine s_seq ?_
      refine s_region ?_
      refine o_q (q_loadn rfl rfl sz_31 (by repeat (first | exact .here | apply Pick.there)) rfl) rfl ?_
      refine o_p (p_pure rfl) rfl ?_
      refine o_q (q_call rfl fn_17 rfl (fun w1 h1 => c17 w1 _ _ _)) rfl ?_
      refine o_p (p_pure rfl) rfl ?_
      refine o_p (p_pure rfl) rfl ?_
      refine o_p (p_pure rfl) rfl ?_
      refine o_p (p_pure rfl) rfl ?_
      refine o_p (p_pure rfl) rfl ?_
      refine o_nil ?_
      refine s_seq ?_
      refine s_region ?_
      refine o_q (q_loadn rfl rfl sz_31 (by repeat (first | exact .here | apply Pick.there)) rfl) rfl ?_
      refine o_q (q_call rfl fn_18 rfl (fun w1 h1 => c18 w1 _ _)) rfl ?_
      refine o_p (p_pure rfl) rfl ?_
      refine o_nil ?_
      refine s_seq ?_
      refine s_seq ?_
      refine s_region ?_
      refine o_p (p_pure rfl) rfl ?_
      refine o_p (p_pure rfl) rfl ?_
      refine o_nil ?_
      refine s_cutI (α := Unit) [9, 33, 34] (fun _ => [(9, .int .i64 (wrapC u own key))]) (fun _ => HS w [] [.blk b1 31 2 [.int .i64 u, .string (bs own)]]) (fun _ => True) ?_ ?_
      · skip
        refine s_cond rfl (fun h5 => ?_) (fun h5 => ?_)
        · try simp only [decide_eq_true_eq, decide_eq_false_iff_not, Bool.not_eq_true', Bool.not_eq_false', Bool.and_eq_true, Bool.or_eq_true, Bool.and_eq_false_iff, Bool.or_eq_false_iff, Bool.not_true, Bool.not_false] at h5
          refine s_region ?_
          refine o_p (p_pure rfl) rfl ?_
          refine o_q (q_call rfl fn_19 rfl (fun w1 h1 => c19 w1 _)) rfl ?_
          refine o_p (p_pure rfl) rfl ?_
          refine o_nil ?_
          exact s_joinI () trivial (sl_c (congrArg (fun e => some (Value.int .i64 e)) (by unfold wrapC; rw [if_pos h5])) (by repeat (first | exact sl_n | refine sl_c rfl ?_))) (fun w h => h.ent (by repeat (first | exact .nil | refine .cons (by repeat (first | exact .here | apply Pick.there)) ?_)))
        · try simp only [decide_eq_true_eq, decide_eq_false_iff_not, Bool.not_eq_true', Bool.not_eq_false', Bool.and_eq_true, Bool.or_eq_true, Bool.and_eq_false_iff, Bool.or_eq_false_iff, Bool.not_true, Bool.not_false] at h5
          refine s_skip ?_
          exact s_joinI () trivial (sl_c (congrArg (fun e => some (Value.int .i64 e)) (by unfold wrapC; rw [if_neg h5])) (by repeat (first | exact sl_n | refine sl_c rfl ?_))) (fun w h => h.ent (by repeat (first | exact .nil | refine .cons (by repeat (first | exact .here | apply Pick.there)) ?_)))
      · intro _ _
        refine s_seq ?_
        refine s_seq ?_
        refine s_region ?_
        refine o_p (p_pure rfl) rfl ?_
        refine o_p (p_pure rfl) rfl ?_
        refine o_p (p_pure rfl) rfl ?_
        refine o_and 8 37 45 _ _ rfl
          (by
            intro hg6
            have hs7 := hg6; try simp only [decide_eq_true_eq, decide_eq_false_iff_not, Bool.not_eq_true', Bool.not_eq_false', Bool.and_eq_true, Bool.or_eq_true, Bool.and_eq_false_iff, Bool.or_eq_false_iff, Bool.not_true, Bool.not_false] at hs7
            refine o_on 37 _ rfl rfl hg6 ?_
            refine o_p (p_pure rfl) rfl ?_
            refine o_on 37 _ rfl rfl hg6 ?_
            refine o_p (p_pure rfl) rfl ?_
            refine o_on 37 _ rfl rfl hg6 ?_
            refine o_p (p_pure rfl) rfl ?_
            refine o_on 37 _ rfl rfl hg6 ?_
            refine o_p (p_pure rfl) rfl ?_
            refine o_or 3 41 44 _ _ rfl
              (by
                intro hg8
                have hs9 := hg8; try simp only [decide_eq_true_eq, decide_eq_false_iff_not, Bool.not_eq_true', Bool.not_eq_false', Bool.and_eq_true, Bool.or_eq_true, Bool.and_eq_false_iff, Bool.or_eq_false_iff, Bool.not_true, Bool.not_false] at hs9
                refine o_on 41 _ rfl rfl hg8 ?_
                refine o_p (p_pure rfl) rfl ?_
                refine o_on 41 _ rfl rfl hg8 ?_
                refine o_p (p_pure rfl) rfl ?_
                refine o_on 37 _ rfl rfl hg6 ?_
                refine o_p (p_pickf rfl rfl hg8 rfl) rfl ?_
                refine o_nil ?_
                exact s_join () (by repeat (first | exact sl_n | refine sl_c rfl ?_)) (fun w h => by first | exact h | exact h.ent (by repeat (first | exact .nil | refine .cons (by repeat (first | exact .here | apply Pick.there)) ?_))))
              (by
                intro hg10
                have hs11 := hg10; try simp only [decide_eq_true_eq, decide_eq_false_iff_not, Bool.not_eq_true', Bool.not_eq_false', Bool.and_eq_true, Bool.or_eq_true, Bool.and_eq_false_iff, Bool.or_eq_false_iff, Bool.not_true, Bool.not_false] at hs11
                refine o_off 41 _ rfl rfl hg10 rfl ?_
                refine o_off 41 _ rfl rfl hg10 rfl ?_
                refine o_on 37 _ rfl rfl hg6 ?_
                refine o_p (p_pickt rfl rfl hg10 rfl) rfl ?_
                refine o_nil ?_
                exact s_join () (by repeat (first | exact sl_n | refine sl_c rfl ?_)) (fun w h => by first | exact h | exact h.ent (by repeat (first | exact .nil | refine .cons (by repeat (first | exact .here | apply Pick.there)) ?_)))) ?_
            refine o_p (p_pickt rfl rfl hg6 rfl) rfl ?_
            refine o_nil ?_
            exact s_join () (by repeat (first | exact sl_n | refine sl_c rfl ?_)) (fun w h => by first | exact h | exact h.ent (by repeat (first | exact .nil | refine .cons (by repeat (first | exact .here | apply Pick.there)) ?_))))
          (by
            intro hg12
            have hs13 := hg12; try simp only [decide_eq_true_eq, decide_eq_false_iff_not, Bool.not_eq_true', Bool.not_eq_false', Bool.and_eq_true, Bool.or_eq_true, Bool.and_eq_false_iff, Bool.or_eq_false_iff, Bool.not_true, Bool.not_false] at hs13
            refine o_off 37 _ rfl rfl hg12 rfl ?_
            refine o_off 37 _ rfl rfl hg12 rfl ?_
            refine o_off 37 _ rfl rfl hg12 rfl ?_
            refine o_off 37 _ rfl rfl hg12 rfl ?_
            refine o_off' 41 rfl rfl rfl ?_
            refine o_off' 41 rfl rfl rfl ?_
            refine o_off 37 _ rfl rfl hg12 rfl ?_
            refine o_p (p_pickf rfl rfl hg12 rfl) rfl ?_
            refine o_nil ?_
            exact s_join () (by repeat (first | exact sl_n | refine sl_c rfl ?_)) (fun w h => by first | exact h | exact h.ent (by repeat (first | exact .nil | refine .cons (by repeat (first | exact .here | apply Pick.there)) ?_)))) ?_
        refine o_p (p_pure rfl) rfl ?_
        refine o_or 14 46 60 _ _ rfl
          (by
            intro hg14
            have hs15 := hg14; try simp only [decide_eq_true_eq, decide_eq_false_iff_not, Bool.not_eq_true', Bool.not_eq_false', Bool.and_eq_true, Bool.or_eq_true, Bool.and_eq_false_iff, Bool.or_eq_false_iff, Bool.not_true, Bool.not_false] at hs15
            refine o_on 46 _ rfl rfl hg14 ?_
            refine o_p (p_pure rfl) rfl ?_
            refine o_on 46 _ rfl rfl hg14 ?_
            refine o_p (p_pure rfl) rfl ?_
            refine o_on 46 _ rfl rfl hg14 ?_
            refine o_p (p_pure rfl) rfl ?_
            refine o_and 10 49 59 _ _ rfl
              (by
                intro hg16
                have hs17 := hg16; try simp only [decide_eq_true_eq, decide_eq_false_iff_not, Bool.not_eq_true', Bool.not_eq_false', Bool.and_eq_true, Bool.or_eq_true, Bool.and_eq_false_iff, Bool.or_eq_false_iff, Bool.not_true, Bool.not_false] at hs17
                refine o_on 49 _ rfl rfl hg16 ?_
                refine o_p (p_pure rfl) rfl ?_
                refine o_on 49 _ rfl rfl hg16 ?_
                refine o_p (p_pure rfl) rfl ?_
                refine o_on 49 _ rfl rfl hg16 ?_
                refine o_p (p_pure rfl) rfl ?_
                refine o_or 6 52 58 _ _ rfl
                  (by
                    intro hg18
                    have hs19 := hg18; try simp only [decide_eq_true_eq, decide_eq_false_iff_not, Bool.not_eq_true', Bool.not_eq_false', Bool.and_eq_true, Bool.or_eq_true, Bool.and_eq_false_iff, Bool.or_eq_false_iff, Bool.not_true, Bool.not_false] at hs19
                    refine o_on 52 _ rfl rfl hg18 ?_
                    refine o_p (p_pure rfl) rfl ?_
                    refine o_on 52 _ rfl rfl hg18 ?_
                    refine o_q (q_loadn rfl rfl sz_31 (by repeat (first | exact .here | apply Pick.there)) rfl) rfl ?_
                    have hw := wrapC_0 (u := u) (own := own) (key := key) (by assumption)
                    refine o_on 52 _ rfl rfl hg18 ?_
                    refine o_p (p_pure rfl) rfl ?_
                    refine o_on 52 _ rfl rfl hg18 ?_
                    refine o_q (q_call rfl fn_20 rfl (fun w1 h1 => c20 w1 u own key hw.1 hw.2.1 hw.2.2)) rfl ?_
                    refine o_on 52 _ rfl rfl hg18 ?_
                    refine o_p (p_pure rfl) rfl ?_
                    refine o_on 49 _ rfl rfl hg16 ?_
                    refine o_p (p_pickf rfl rfl hg18 rfl) rfl ?_
                    refine o_nil ?_
                    exact s_join () (by repeat (first | exact sl_n | refine sl_c rfl ?_)) (fun w h => by first | exact h | exact h.ent (by repeat (first | exact .nil | refine .cons (by repeat (first | exact .here | apply Pick.there)) ?_))))
                  (by
                    intro hg20
                    have hs21 := hg20; try simp only [decide_eq_true_eq, decide_eq_false_iff_not, Bool.not_eq_true', Bool.not_eq_false', Bool.and_eq_true, Bool.or_eq_true, Bool.and_eq_false_iff, Bool.or_eq_false_iff, Bool.not_true, Bool.not_false] at hs21
                    refine o_off 52 _ rfl rfl hg20 rfl ?_
                    refine o_off 52 _ rfl rfl hg20 rfl ?_
                    refine o_off 52 _ rfl rfl hg20 rfl ?_
                    refine o_off 52 _ rfl rfl hg20 rfl ?_
                    refine o_off 52 _ rfl rfl hg20 rfl ?_
                    refine o_on 49 _ rfl rfl hg16 ?_
                    refine o_p (p_pickt rfl rfl hg20 rfl) rfl ?_
                    refine o_nil ?_
                    exact s_join () (by repeat (first | exact sl_n | refine sl_c rfl ?_)) (fun w h => by first | exact h | exact h.ent (by repeat (first | exact .nil | refine .cons (by repeat (first | exact .here | apply Pick.there)) ?_)))) ?_
                refine o_on 46 _ rfl rfl hg14 ?_
                refine o_p (p_pickt rfl rfl hg16 rfl) rfl ?_
                refine o_nil ?_
                exact s_join () (by repeat (first | exact sl_n | refine sl_c rfl ?_)) (fun w h => by first | exact h | exact h.ent (by repeat (first | exact .nil | refine .cons (by repeat (first | exact .here | apply Pick.there)) ?_))))
              (by
                intro hg22
                have hs23 := hg22; try simp only [decide_eq_true_eq, decide_eq_false_iff_not, Bool.not_eq_true', Bool.not_eq_false', Bool.and_eq_true, Bool.or_eq_true, Bool.and_eq_false_iff, Bool.or_eq_false_iff, Bool.not_true, Bool.not_false] at hs23
                refine o_off 49 _ rfl rfl hg22 rfl ?_
                refine o_off 49 _ rfl rfl hg22 rfl ?_
                refine o_off 49 _ rfl rfl hg22 rfl ?_
                refine o_off' 52 rfl rfl rfl ?_
                refine o_off' 52 rfl rfl rfl ?_
                refine o_off' 52 rfl rfl rfl ?_
                refine o_off' 52 rfl rfl rfl ?_
                refine o_off' 52 rfl rfl rfl ?_
                refine o_off 49 _ rfl rfl hg22 rfl ?_
                refine o_on 46 _ rfl rfl hg14 ?_
                refine o_p (p_pickf rfl rfl hg22 rfl) rfl ?_
                refine o_nil ?_
                exact s_join () (by repeat (first | exact sl_n | refine sl_c rfl ?_)) (fun w h => by first | exact h | exact h.ent (by repeat (first | exact .nil | refine .cons (by repeat (first | exact .here | apply Pick.there)) ?_)))) ?_
            refine o_p (p_pickf rfl rfl hg14 rfl) rfl ?_
            refine o_nil ?_
            exact s_join () (by repeat (first | exact sl_n | refine sl_c rfl ?_)) (fun w h => by first | exact h | exact h.ent (by repeat (first | exact .nil | refine .cons (by repeat (first | exact .here | apply Pick.there)) ?_))))
          (by
            intro hg24
            have hs25 := hg24; try simp only [decide_eq_true_eq, decide_eq_false_iff_not, Bool.not_eq_true', Bool.not_eq_false', Bool.and_eq_true, Bool.or_eq_true, Bool.and_eq_false_iff, Bool.or_eq_false_iff, Bool.not_true, Bool.not_false] at hs25
            refine o_off 46 _ rfl rfl hg24 rfl ?_
            refine o_off 46 _ rfl rfl hg24 rfl ?_
            refine o_off 46 _ rfl rfl hg24 rfl ?_
            refine o_off' 49 rfl rfl rfl ?_
            refine o_off' 49 rfl rfl rfl ?_
            refine o_off' 49 rfl rfl rfl ?_
            refine o_off' 52 rfl rfl rfl ?_
            refine o_off' 52 rfl rfl rfl ?_
            refine o_off' 52 rfl rfl rfl ?_
            refine o_off' 52 rfl rfl rfl ?_
            refine o_off' 52 rfl rfl rfl ?_
            refine o_off' 49 rfl rfl rfl ?_
            refine o_off 46 _ rfl rfl hg24 rfl ?_
            refine o_p (p_pickt rfl rfl hg24 rfl) rfl ?_
            refine o_nil ?_
            exact s_join () (by repeat (first | exact sl_n | refine sl_c rfl ?_)) (fun w h => by first | exact h | exact h.ent (by repeat (first | exact .nil | refine .cons (by repeat (first | exact .here | apply Pick.there)) ?_)))) ?_
        refine o_nil ?_
        refine s_cond rfl (fun h26 => ?_) (fun h26 => ?_)
        · try simp only [decide_eq_true_eq, decide_eq_false_iff_not, Bool.not_eq_true', Bool.not_eq_false', Bool.and_eq_true, Bool.or_eq_true, Bool.and_eq_false_iff, Bool.or_eq_false_iff, Bool.not_true, Bool.not_false] at h26
          exfalso; rcases hW with ⟨ha, hb⟩ | ⟨ha, hb⟩ <;> simp [ha, hb] at h26
        · try simp only [decide_eq_true_eq, decide_eq_false_iff_not, Bool.not_eq_true', Bool.not_eq_false', Bool.and_eq_true, Bool.or_eq_true, Bool.and_eq_false_iff, Bool.or_eq_false_iff, Bool.not_true, Bool.not_false] at h26
          refine s_skip ?_
          refine s_seq ?_
          refine s_region ?_
          refine o_q (q_loadn rfl rfl sz_31 (by repeat (first | exact .here | apply Pick.there)) rfl) rfl ?_
          refine o_p (p_pure rfl) rfl ?_
          refine o_q (q_call rfl fn_21 rfl (fun w1 h1 => c21 w1 _ _ _)) rfl ?_
          refine o_p (p_pure rfl) rfl ?_
          refine o_p (p_pure rfl) rfl ?_
          refine o_p (p_pure rfl) rfl ?_
          refine o_p (p_pure rfl) rfl ?_
          refine o_p (p_pure rfl) rfl ?_
          refine o_nil ?_
          refine s_seq ?_
          refine s_region ?_
          refine o_q (q_loadn rfl rfl sz_31 (by repeat (first | exact .here | apply Pick.there)) rfl) rfl ?_
          refine o_p (p_pure rfl) rfl ?_
          refine o_q (q_call rfl fn_22 rfl (fun w1 h1 => c22 w1 _ _ _)) rfl ?_
          refine o_p (p_pure rfl) rfl ?_
          refine o_p (p_pure rfl) rfl ?_
          refine o_p (p_pure rfl) rfl ?_
          refine o_p (p_pure rfl) rfl ?_
          refine o_p (p_pure rfl) rfl ?_
          refine o_nil ?_
          refine s_seq ?_
          refine s_region ?_
          refine o_p (p_pure rfl) rfl ?_
          refine o_p (p_pure rfl) rfl ?_
          refine o_p (p_pure rfl) rfl ?_
          refine o_p (p_pure rfl) rfl ?_
          refine o_and 4 76 80 _ _ rfl
            (by
              intro hg27
              have hs28 := hg27; try simp only [decide_eq_true_eq, decide_eq_false_iff_not, Bool.not_eq_true', Bool.not_eq_false', Bool.and_eq_true, Bool.or_eq_true, Bool.and_eq_false_iff, Bool.or_eq_false_iff, Bool.not_true, Bool.not_false] at hs28
              refine o_on 76 _ rfl rfl hg27 ?_
              refine o_p (p_pure rfl) rfl ?_
              refine o_on 76 _ rfl rfl hg27 ?_
              refine o_p (p_pure rfl) rfl ?_
              refine o_on 76 _ rfl rfl hg27 ?_
              refine o_p (p_pure rfl) rfl ?_
              refine o_p (p_pickt rfl rfl hg27 rfl) rfl ?_
              refine o_nil ?_
              exact s_join () (by repeat (first | exact sl_n | refine sl_c rfl ?_)) (fun w h => by first | exact h | exact h.ent (by repeat (first | exact .nil | refine .cons (by repeat (first | exact .here | apply Pick.there)) ?_))))
            (by
              intro hg29
              have hs30 := hg29; try simp only [decide_eq_true_eq, decide_eq_false_iff_not, Bool.not_eq_true', Bool.not_eq_false', Bool.and_eq_true, Bool.or_eq_true, Bool.and_eq_false_iff, Bool.or_eq_false_iff, Bool.not_true, Bool.not_false] at hs30
              refine o_off 76 _ rfl rfl hg29 rfl ?_
              refine o_off 76 _ rfl rfl hg29 rfl ?_
              refine o_off 76 _ rfl rfl hg29 rfl ?_
              refine o_p (p_pickf rfl rfl hg29 rfl) rfl ?_
              refine o_nil ?_
              exact s_join () (by repeat (first | exact sl_n | refine sl_c rfl ?_)) (fun w h => by first | exact h | exact h.ent (by repeat (first | exact .nil | refine .cons (by repeat (first | exact .here | apply Pick.there)) ?_)))) ?_
          refine o_p (p_pure rfl) rfl ?_
          refine o_nil ?_
          exact s_retv (rs := [.tmp 6]) rfl (.tmp rfl (.nil)) (fun w' h' => ⟨by simp; rfl, h'.below⟩)

set_option maxRecDepth 20000 in
theorem c7 (w : World) (key data : List UInt8) (l0 l1 l2 : Int) (hd : data.length ≤ 9223372036854775807) : Calls Try.prog 7 #[.string (bs key), .agg #[.int .i64 l0, .int .i64 l1, .int .i64 l2], .string (bs data)] w fun en w' => en = .returned (.bool true) ∧ Below w.heap.size w w' := by
  have hB := blok_cases key l0 l1
  have hC := crypt_cases key l0 l2 data
  refine enter (args := [_, _, _]) Try.func7 Try.ntmps7 rfl rfl (HS.refl w []) ?_
  refine s_seq ?_
  refine s_region ?_
  refine o_h (h_box rfl rfl) rfl (fun b1 _ => ?_)
  refine o_p (p_pure rfl) rfl ?_
  refine o_nil ?_
  refine s_seq ?_
  refine s_seq ?_
  refine s_region ?_
  refine o_q (q_call rfl fn_12 rfl (fun w1 h1 => c12 w1)) rfl ?_
  refine o_p (p_pure rfl) rfl ?_
  refine o_nil ?_
  refine s_cond rfl (fun h2 => ?_) (fun h2 => ?_)
  · try simp only [decide_eq_true_eq, decide_eq_false_iff_not, Bool.not_eq_true', Bool.not_eq_false', Bool.and_eq_true, Bool.or_eq_true, Bool.and_eq_false_iff, Bool.or_eq_false_iff, Bool.not_true, Bool.not_false] at h2
    exfalso; first | omega | (simp at h2; done) | (simp_all; done)
  · try simp only [decide_eq_true_eq, decide_eq_false_iff_not, Bool.not_eq_true', Bool.not_eq_false', Bool.and_eq_true, Bool.or_eq_true, Bool.and_eq_false_iff, Bool.or_eq_false_iff, Bool.not_true, Bool.not_false] at h2
    refine s_skip ?_
    refine s_seq ?_
    refine s_seq ?_
    refine s_region ?_
    refine o_p (p_pure rfl) rfl ?_
    refine o_p (p_pure rfl) rfl ?_
    refine o_h (h_buildSlice (cs := [_, _]) rfl rfl sl_104 zr_9 rfl rfl rfl) rfl (fun b3 _ => ?_)
    refine o_q (q_call rfl fn_16 rfl (fun w1 h1 => x16 w1 _ 2 _ [key, data] rfl (h1.vl_blk (by repeat (first | exact .here | apply Pick.there))) (by decide))) rfl ?_
    refine o_p (p_pure rfl) rfl ?_
    refine o_nil ?_
    refine s_cond rfl (fun h4 => ?_) (fun h4 => ?_)
    · try simp only [decide_eq_true_eq, decide_eq_false_iff_not, Bool.not_eq_true', Bool.not_eq_false', Bool.and_eq_true, Bool.or_eq_true, Bool.and_eq_false_iff, Bool.or_eq_false_iff, Bool.not_true, Bool.not_false] at h4
      refine s_seq ?_
      refine s_region ?_
      refine o_p (p_pure rfl) rfl ?_
      refine o_nil ?_
      exact s_retv (rs := [.tmp 6]) rfl (.tmp rfl (.nil)) (fun w' h' => ⟨by rfl, h'.below⟩)
    · try simp only [decide_eq_true_eq, decide_eq_false_iff_not, Bool.not_eq_true', Bool.not_eq_false', Bool.and_eq_true, Bool.or_eq_true, Bool.and_eq_false_iff, Bool.or_eq_false_iff, Bool.not_true, Bool.not_false] at h4
      refine s_skip ?_
      refine s_seq ?_
      refine s_region ?_
      refine o_p (p_pure rfl) rfl ?_
      refine o_p (p_indexAddr_arr rfl rfl rfl ar_62 0 rfl (by omega)) rfl ?_
      refine o_q (q_load rfl rfl sz_3 (by repeat (first | exact .here | apply Pick.there)) rfl) rfl ?_
      refine o_p (p_indexAddr_arr rfl rfl rfl ar_62 1 rfl (by omega)) rfl ?_
      refine o_q (q_load rfl rfl sz_3 (by repeat (first | exact .here | apply Pick.there)) rfl) rfl ?_
      refine o_q (q_call rfl fn_33 rfl (fun w1 h1 => c33 w1 _ _ _)) rfl ?_
      refine o_p (p_pure rfl) rfl ?_
      refine o_p (p_pure rfl) rfl ?_
      refine o_p (p_pure rfl) rfl ?_
      refine o_p (p_pure rfl) rfl ?_
      refine o_p (p_pure rfl) rfl ?_
      refine o_nil ?_
      refine s_seq ?_
      refine s_region ?_
      refine o_p (p_pure rfl) rfl ?_
      refine o_p (p_indexAddr_arr rfl rfl rfl ar_62 0 rfl (by omega)) rfl ?_
      refine o_q (q_load rfl rfl sz_3 (by repeat (first | exact .here | apply Pick.there)) rfl) rfl ?_
      refine o_p (p_indexAddr_arr rfl rfl rfl ar_62 1 rfl (by omega)) rfl ?_
      refine o_q (q_load rfl rfl sz_3 (by repeat (first | exact .here | apply Pick.there)) rfl) rfl ?_
      refine o_q (q_call rfl fn_34 rfl (fun w1 h1 => c34 w1 _ _ _)) rfl ?_
      refine o_p (p_pure rfl) rfl ?_
      refine o_nil ?_
      refine s_seq ?_
      refine s_seq ?_
      refine s_region ?_
      refine o_p (p_pure rfl) rfl ?_
      refine o_p (p_pure rfl) rfl ?_
      refine o_p (p_pure rfl) rfl ?_
      refine o_and 8 37 45 _ _ rfl
        (by
          intro hg5
          have hs6 := hg5; try simp only [decide_eq_true_eq, decide_eq_false_iff_not, Bool.not_eq_true', Bool.not_eq_false', Bool.and_eq_true, Bool.or_eq_true, Bool.and_eq_false_iff, Bool.or_eq_false_iff, Bool.not_true, Bool.not_false] at hs6
          refine o_on 37 _ rfl rfl hg5 ?_
          refine o_p (p_pure rfl) rfl ?_
          refine o_on 37 _ rfl rfl hg5 ?_
          refine o_p (p_pure rfl) rfl ?_
          refine o_on 37 _ rfl rfl hg5 ?_
          refine o_p (p_pure rfl) rfl ?_
          refine o_on 37 _ rfl rfl hg5 ?_
          refine o_p (p_pure rfl) rfl ?_
          refine o_or 3 41 44 _ _ rfl
            (by
              intro hg7
              have hs8 := hg7; try simp only [decide_eq_true_eq, decide_eq_false_iff_not, Bool.not_eq_true', Bool.not_eq_false', Bool.and_eq_true, Bool.or_eq_true, Bool.and_eq_false_iff, Bool.or_eq_false_iff, Bool.not_true, Bool.not_false] at hs8
              refine o_on 41 _ rfl rfl hg7 ?_
              refine o_p (p_pure rfl) rfl ?_
              refine o_on 41 _ rfl rfl hg7 ?_
              refine o_p (p_pure rfl) rfl ?_
              refine o_on 37 _ rfl rfl hg5 ?_
              refine o_p (p_pickf rfl rfl hg7 rfl) rfl ?_
              refine o_nil ?_
              exact s_join () (by repeat (first | exact sl_n | refine sl_c rfl ?_)) (fun w h => by first | exact h | exact h.ent (by repeat (first | exact .nil | refine .cons (by repeat (first | exact .here | apply Pick.there)) ?_))))
            (by
              intro hg9
              have hs10 := hg9; try simp only [decide_eq_true_eq, decide_eq_false_iff_not, Bool.not_eq_true', Bool.not_eq_false', Bool.and_eq_true, Bool.or_eq_true, Bool.and_eq_false_iff, Bool.or_eq_false_iff, Bool.not_true, Bool.not_false] at hs10
              refine o_off 41 _ rfl rfl hg9 rfl ?_
              refine o_off 41 _ rfl rfl hg9 rfl ?_
              refine o_on 37 _ rfl rfl hg5 ?_
              refine o_p (p_pickt rfl rfl hg9 rfl) rfl ?_
              refine o_nil ?_
              exact s_join () (by repeat (first | exact sl_n | refine sl_c rfl ?_)) (fun w h => by first | exact h | exact h.ent (by repeat (first | exact .nil | refine .cons (by repeat (first | exact .here | apply Pick.there)) ?_)))) ?_
          refine o_p (p_pickt rfl rfl hg5 rfl) rfl ?_
          refine o_nil ?_
          exact s_join () (by repeat (first | exact sl_n | refine sl_c rfl ?_)) (fun w h => by first | exact h | exact h.ent (by repeat (first | exact .nil | refine .cons (by repeat (first | exact .here | apply Pick.there)) ?_))))
        (by
          intro hg11
          have hs12 := hg11; try simp only [decide_eq_true_eq, decide_eq_false_iff_not, Bool.not_eq_true', Bool.not_eq_false', Bool.and_eq_true, Bool.or_eq_true, Bool.and_eq_false_iff, Bool.or_eq_false_iff, Bool.not_true, Bool.not_false] at hs12
          refine o_off 37 _ rfl rfl hg11 rfl ?_
          refine o_off 37 _ rfl rfl hg11 rfl ?_
          refine o_off 37 _ rfl rfl hg11 rfl ?_
          refine o_off 37 _ rfl rfl hg11 rfl ?_
          refine o_off' 41 rfl rfl rfl ?_
          refine o_off' 41 rfl rfl rfl ?_
          refine o_off 37 _ rfl rfl hg11 rfl ?_
          refine o_p (p_pickf rfl rfl hg11 rfl) rfl ?_
          refine o_nil ?_
          exact s_join () (by repeat (first | exact sl_n | refine sl_c rfl ?_)) (fun w h => by first | exact h | exact h.ent (by repeat (first | exact .nil | refine .cons (by repeat (first | exact .here | apply Pick.there)) ?_)))) ?_
      refine o_p (p_pure rfl) rfl ?_
      refine o_or 17 46 63 _ _ rfl
        (by
          intro hg13
          have hs14 := hg13; try simp only [decide_eq_true_eq, decide_eq_false_iff_not, Bool.not_eq_true', Bool.not_eq_false', Bool.and_eq_true, Bool.or_eq_true, Bool.and_eq_false_iff, Bool.or_eq_false_iff, Bool.not_true, Bool.not_false] at hs14
          refine o_on 46 _ rfl rfl hg13 ?_
          refine o_p (p_pure rfl) rfl ?_
          refine o_on 46 _ rfl rfl hg13 ?_
          refine o_p (p_pure rfl) rfl ?_
          refine o_on 46 _ rfl rfl hg13 ?_
          refine o_p (p_pure rfl) rfl ?_
          refine o_and 13 49 62 _ _ rfl
            (by
              intro hg15
              have hs16 := hg15; try simp only [decide_eq_true_eq, decide_eq_false_iff_not, Bool.not_eq_true', Bool.not_eq_false', Bool.and_eq_true, Bool.or_eq_true, Bool.and_eq_false_iff, Bool.or_eq_false_iff, Bool.not_true, Bool.not_false] at hs16
              refine o_on 49 _ rfl rfl hg15 ?_
              refine o_p (p_pure rfl) rfl ?_
              refine o_on 49 _ rfl rfl hg15 ?_
              refine o_p (p_pure rfl) rfl ?_
              refine o_on 49 _ rfl rfl hg15 ?_
              refine o_p (p_pure rfl) rfl ?_
              refine o_or 9 52 61 _ _ rfl
                (by
                  intro hg17
                  have hs18 := hg17; try simp only [decide_eq_true_eq, decide_eq_false_iff_not, Bool.not_eq_true', Bool.not_eq_false', Bool.and_eq_true, Bool.or_eq_true, Bool.and_eq_false_iff, Bool.or_eq_false_iff, Bool.not_true, Bool.not_false] at hs18
                  refine o_on 52 _ rfl rfl hg17 ?_
                  refine o_p (p_pure rfl) rfl ?_
                  refine o_on 52 _ rfl rfl hg17 ?_
                  refine o_p (p_pure rfl) rfl ?_
                  have hw := blokE_0 (key := key) (n := l0) (c := l1) (by assumption)
                  refine o_on 52 _ rfl rfl hg17 ?_
                  refine o_p (p_indexAddr_arr rfl rfl rfl ar_62 0 rfl (by omega)) rfl ?_
                  refine o_on 52 _ rfl rfl hg17 ?_
                  refine o_q (q_load rfl rfl sz_3 (by repeat (first | exact .here | apply Pick.there)) rfl) rfl ?_
                  refine o_on 52 _ rfl rfl hg17 ?_
                  refine o_p (p_indexAddr_arr rfl rfl rfl ar_62 1 rfl (by omega)) rfl ?_
                  refine o_on 52 _ rfl rfl hg17 ?_
                  refine o_q (q_load rfl rfl sz_3 (by repeat (first | exact .here | apply Pick.there)) rfl) rfl ?_
                  refine o_on 52 _ rfl rfl hg17 ?_
                  refine o_q (q_call rfl fn_35 rfl (fun w1 h1 => c35 w1 key l0 l1 hw.1 hw.2.1 hw.2.2)) rfl ?_
                  refine o_on 52 _ rfl rfl hg17 ?_
                  refine o_p (p_pure rfl) rfl ?_
                  refine o_on 49 _ rfl rfl hg15 ?_
                  refine o_p (p_pickf rfl rfl hg17 rfl) rfl ?_
                  refine o_nil ?_
                  exact s_join () (by repeat (first | exact sl_n | refine sl_c rfl ?_)) (fun w h => by first | exact h | exact h.ent (by repeat (first | exact .nil | refine .cons (by repeat (first | exact .here | apply Pick.there)) ?_))))
                (by
                  intro hg19
                  have hs20 := hg19; try simp only [decide_eq_true_eq, decide_eq_false_iff_not, Bool.not_eq_true', Bool.not_eq_false', Bool.and_eq_true, Bool.or_eq_true, Bool.and_eq_false_iff, Bool.or_eq_false_iff, Bool.not_true, Bool.not_false] at hs20
                  refine o_off 52 _ rfl rfl hg19 rfl ?_
                  refine o_off 52 _ rfl rfl hg19 rfl ?_
                  refine o_off 52 _ rfl rfl hg19 rfl ?_
                  refine o_off 52 _ rfl rfl hg19 rfl ?_
                  refine o_off 52 _ rfl rfl hg19 rfl ?_
                  refine o_off 52 _ rfl rfl hg19 rfl ?_
                  refine o_off 52 _ rfl rfl hg19 rfl ?_
                  refine o_off 52 _ rfl rfl hg19 rfl ?_
                  refine o_on 49 _ rfl rfl hg15 ?_
                  refine o_p (p_pickt rfl rfl hg19 rfl) rfl ?_
                  refine o_nil ?_
                  exact s_join () (by repeat (first | exact sl_n | refine sl_c rfl ?_)) (fun w h => by first | exact h | exact h.ent (by repeat (first | exact .nil | refine .cons (by repeat (first | exact .here | apply Pick.there)) ?_)))) ?_
              refine o_on 46 _ rfl rfl hg13 ?_
              refine o_p (p_pickt rfl rfl hg15 rfl) rfl ?_
              refine o_nil ?_
              exact s_join () (by repeat (first | exact sl_n | refine sl_c rfl ?_)) (fun w h => by first | exact h | exact h.ent (by repeat (first | exact .nil | refine .cons (by repeat (first | exact .here | apply Pick.there)) ?_))))
            (by
              intro hg21
              have hs22 := hg21; try simp only [decide_eq_true_eq, decide_eq_false_iff_not, Bool.not_eq_true', Bool.not_eq_false', Bool.and_eq_true, Bool.or_eq_true, Bool.and_eq_false_iff, Bool.or_eq_false_iff, Bool.not_true, Bool.not_false] at hs22
              refine o_off 49 _ rfl rfl hg21 rfl ?_
              refine o_off 49 _ rfl rfl hg21 rfl ?_
              refine o_off 49 _ rfl rfl hg21 rfl ?_
              refine o_off' 52 rfl rfl rfl ?_
              refine o_off' 52 rfl rfl rfl ?_
              refine o_off' 52 rfl rfl rfl ?_
              refine o_off' 52 rfl rfl rfl ?_
              refine o_off' 52 rfl rfl rfl ?_
              refine o_off' 52 rfl rfl rfl ?_
              refine o_off' 52 rfl rfl rfl ?_
              refine o_off' 52 rfl rfl rfl ?_
              refine o_off 49 _ rfl rfl hg21 rfl ?_
              refine o_on 46 _ rfl rfl hg13 ?_
              refine o_p (p_pickf rfl rfl hg21 rfl) rfl ?_
              refine o_nil ?_
              exact s_join () (by repeat (first | exact sl_n | refine sl_c rfl ?_)) (fun w h => by first | exact h | exact h.ent (by repeat (first | exact .nil | refine .cons (by repeat (first | exact .here | apply Pick.there)) ?_)))) ?_
          refine o_p (p_pickf rfl rfl hg13 rfl) rfl ?_
          refine o_nil ?_
          exact s_join () (by repeat (first | exact sl_n | refine sl_c rfl ?_)) (fun w h => by first | exact h | exact h.ent (by repeat (first | exact .nil | refine .cons (by repeat (first | exact .here | apply Pick.there)) ?_))))
        (by
          intro hg23
          have hs24 := hg23; try simp only [decide_eq_true_eq, decide_eq_false_iff_not, Bool.not_eq_true', Bool.not_eq_false', Bool.and_eq_true, Bool.or_eq_true, Bool.and_eq_false_iff, Bool.or_eq_false_iff, Bool.not_true, Bool.not_false] at hs24
          refine o_off 46 _ rfl rfl hg23 rfl ?_
          refine o_off 46 _ rfl rfl hg23 rfl ?_
          refine o_off 46 _ rfl rfl hg23 rfl ?_
          refine o_off' 49 rfl rfl rfl ?_
          refine o_off' 49 rfl rfl rfl ?_
          refine o_off' 49 rfl rfl rfl ?_
          refine o_off' 52 rfl rfl rfl ?_
          refine o_off' 52 rfl rfl rfl ?_
          refine o_off' 52 rfl rfl rfl ?_
          refine o_off' 52 rfl rfl rfl ?_
          refine o_off' 52 rfl rfl rfl ?_
          refine o_off' 52 rfl rfl rfl ?_
          refine o_off' 52 rfl rfl rfl ?_
          refine o_off' 52 rfl rfl rfl ?_
          refine o_off' 49 rfl rfl rfl ?_
          refine o_off 46 _ rfl rfl hg23 rfl ?_
          refine o_p (p_pickt rfl rfl hg23 rfl) rfl ?_
          refine o_nil ?_
          exact s_join () (by repeat (first | exact sl_n | refine sl_c rfl ?_)) (fun w h => by first | exact h | exact h.ent (by repeat (first | exact .nil | refine .cons (by repeat (first | exact .here | apply Pick.there)) ?_)))) ?_
      refine o_nil ?_
      refine s_cond rfl (fun h25 => ?_) (fun h25 => ?_)
      · try simp only [decide_eq_true_eq, decide_eq_false_iff_not, Bool.not_eq_true', Bool.not_eq_false', Bool.and_eq_true, Bool.or_eq_true, Bool.and_eq_false_iff, Bool.or_eq_false_iff, Bool.not_true, Bool.not_false] at h25
        exfalso; rcases hB with ⟨ha, hb⟩ | ⟨ha, hb⟩ <;> simp [ha, hb] at h25
      · try simp only [decide_eq_true_eq, decide_eq_false_iff_not, Bool.not_eq_true', Bool.not_eq_false', Bool.and_eq_true, Bool.or_eq_true, Bool.and_eq_false_iff, Bool.or_eq_false_iff, Bool.not_true, Bool.not_false] at h25
        refine s_skip ?_
        refine s_seq ?_
        refine s_region ?_
        refine o_p (p_pure rfl) rfl ?_
        refine o_p (p_indexAddr_arr rfl rfl rfl ar_62 0 rfl (by omega)) rfl ?_
        refine o_q (q_load rfl rfl sz_3 (by repeat (first | exact .here | apply Pick.there)) rfl) rfl ?_
        refine o_p (p_indexAddr_arr rfl rfl rfl ar_62 2 rfl (by omega)) rfl ?_
        refine o_q (q_load rfl rfl sz_3 (by repeat (first | exact .here | apply Pick.there)) rfl) rfl ?_
        refine o_p (p_pure rfl) rfl ?_
        refine o_q (q_call rfl fn_31 rfl (fun w1 h1 => c31 w1 _ _ _ _)) rfl ?_
        refine o_p (p_pure rfl) rfl ?_
        refine o_p (p_pure rfl) rfl ?_
        refine o_p (p_pure rfl) rfl ?_
        refine o_p (p_pure rfl) rfl ?_
        refine o_p (p_pure rfl) rfl ?_
        refine o_nil ?_
        refine s_seq ?_
        refine s_seq ?_
        refine s_region ?_
        refine o_p (p_pure rfl) rfl ?_
        refine o_p (p_indexAddr_arr rfl rfl rfl ar_62 0 rfl (by omega)) rfl ?_
        refine o_q (q_load rfl rfl sz_3 (by repeat (first | exact .here | apply Pick.there)) rfl) rfl ?_
        refine o_p (p_indexAddr_arr rfl rfl rfl ar_62 2 rfl (by omega)) rfl ?_
        refine o_q (q_load rfl rfl sz_3 (by repeat (first | exact .here | apply Pick.there)) rfl) rfl ?_
        refine o_p (p_pure rfl) rfl ?_
        refine o_q (q_call rfl fn_36 rfl (fun w1 h1 => c36 w1 _ _ _ _ (by omega))) rfl ?_
        refine o_p (p_pure rfl) rfl ?_
        refine o_nil ?_
        refine s_seq ?_
        refine s_region ?_
        refine o_p (p_pure rfl) rfl ?_
        refine o_p (p_pure rfl) rfl ?_
        refine o_nil ?_
        refine s_cond rfl (fun h26 => ?_) (fun h26 => ?_)
        · try simp only [decide_eq_true_eq, decide_eq_false_iff_not, Bool.not_eq_true', Bool.not_eq_false', Bool.and_eq_true, Bool.or_eq_true, Bool.and_eq_false_iff, Bool.or_eq_false_iff, Bool.not_true, Bool.not_false] at h26
          refine s_seq ?_
          refine s_region ?_
          refine o_p (p_pure rfl) rfl ?_
          refine o_p (p_pure rfl) rfl ?_
          refine o_p (p_pure rfl) rfl ?_
          refine o_p (p_pure rfl) rfl ?_
          refine o_and 3 86 89 _ _ rfl
            (by
              intro hg27
              have hs28 := hg27; try simp only [decide_eq_true_eq, decide_eq_false_iff_not, Bool.not_eq_true', Bool.not_eq_false', Bool.and_eq_true, Bool.or_eq_true, Bool.and_eq_false_iff, Bool.or_eq_false_iff, Bool.not_true, Bool.not_false] at hs28
              refine o_on 86 _ rfl rfl hg27 ?_
              refine o_p (p_pure rfl) rfl ?_
              refine o_on 86 _ rfl rfl hg27 ?_
              refine o_p (p_pure rfl) rfl ?_
              refine o_p (p_pickt rfl rfl hg27 rfl) rfl ?_
              refine o_nil ?_
              exact s_join () (by repeat (first | exact sl_n | refine sl_c rfl ?_)) (fun w h => by first | exact h | exact h.ent (by repeat (first | exact .nil | refine .cons (by repeat (first | exact .here | apply Pick.there)) ?_))))
            (by
              intro hg29
              have hs30 := hg29; try simp only [decide_eq_true_eq, decide_eq_false_iff_not, Bool.not_eq_true', Bool.not_eq_false', Bool.and_eq_true, Bool.or_eq_true, Bool.and_eq_false_iff, Bool.or_eq_false_iff, Bool.not_true, Bool.not_false] at hs30
              refine o_off 86 _ rfl rfl hg29 rfl ?_
              refine o_off 86 _ rfl rfl hg29 rfl ?_
              refine o_p (p_pickf rfl rfl hg29 rfl) rfl ?_
              refine o_nil ?_
              exact s_join () (by repeat (first | exact sl_n | refine sl_c rfl ?_)) (fun w h => by first | exact h | exact h.ent (by repeat (first | exact .nil | refine .cons (by repeat (first | exact .here | apply Pick.there)) ?_)))) ?_
          refine o_p (p_pure rfl) rfl ?_
          refine o_nil ?_
          exact s_retv (rs := [.tmp 6]) rfl (.tmp rfl (.nil)) (fun w' h' => ⟨by (have hb := hC.resolve_left (fun hh => h26 hh.1)); simp [hb.2]; rfl, h'.below⟩)
        · try simp only [decide_eq_true_eq, decide_eq_false_iff_not, Bool.not_eq_true', Bool.not_eq_false', Bool.and_eq_true, Bool.or_eq_true, Bool.and_eq_false_iff, Bool.or_eq_false_iff, Bool.not_true, Bool.not_false] at h26
          refine s_skip ?_
          refine s_seq ?_
          refine s_region ?_
          refine o_p (p_pure rfl) rfl ?_
          refine o_p (p_pure rfl) rfl ?_
          refine o_p (p_pure rfl) rfl ?_
          refine o_and 10 92 102 _ _ rfl
            (by
              intro hg31
              have hs32 := hg31; try simp only [decide_eq_true_eq, decide_eq_false_iff_not, Bool.not_eq_true', Bool.not_eq_false', Bool.and_eq_true, Bool.or_eq_true, Bool.and_eq_false_iff, Bool.or_eq_false_iff, Bool.not_true, Bool.not_false] at hs32
              refine o_on 92 _ rfl rfl hg31 ?_
              refine o_p (p_pure rfl) rfl ?_
              refine o_on 92 _ rfl rfl hg31 ?_
              refine o_p (p_pure rfl) rfl ?_
              have hw := crypE_0 (key := key) (n := l0) (at' := l2) (len := data.length) (by assumption)
              refine o_on 92 _ rfl rfl hg31 ?_
              refine o_p (p_indexAddr_arr rfl rfl rfl ar_62 0 rfl (by omega)) rfl ?_
              refine o_on 92 _ rfl rfl hg31 ?_
              refine o_q (q_load rfl rfl sz_3 (by repeat (first | exact .here | apply Pick.there)) rfl) rfl ?_
              refine o_on 92 _ rfl rfl hg31 ?_
              refine o_p (p_indexAddr_arr rfl rfl rfl ar_62 2 rfl (by omega)) rfl ?_
              refine o_on 92 _ rfl rfl hg31 ?_
              refine o_q (q_load rfl rfl sz_3 (by repeat (first | exact .here | apply Pick.there)) rfl) rfl ?_
              refine o_on 92 _ rfl rfl hg31 ?_
              refine o_p (p_pure rfl) rfl ?_
              refine o_on 92 _ rfl rfl hg31 ?_
              refine o_q (q_call rfl fn_37 rfl (fun w1 h1 => c37i w1 key l0 l2 data hw.1 hw.2.1 hw.2.2.1 hw.2.2.2)) rfl ?_
              refine o_on 92 _ rfl rfl hg31 ?_
              refine o_p (p_pure rfl) rfl ?_
              refine o_p (p_pickt rfl rfl hg31 rfl) rfl ?_
              refine o_nil ?_
              exact s_join () (by repeat (first | exact sl_n | refine sl_c rfl ?_)) (fun w h => by first | exact h | exact h.ent (by repeat (first | exact .nil | refine .cons (by repeat (first | exact .here | apply Pick.there)) ?_))))
            (by
              intro hg33
              have hs34 := hg33; try simp only [decide_eq_true_eq, decide_eq_false_iff_not, Bool.not_eq_true', Bool.not_eq_false', Bool.and_eq_true, Bool.or_eq_true, Bool.and_eq_false_iff, Bool.or_eq_false_iff, Bool.not_true, Bool.not_false] at hs34
              refine o_off 92 _ rfl rfl hg33 rfl ?_
              refine o_off 92 _ rfl rfl hg33 rfl ?_
              refine o_off 92 _ rfl rfl hg33 rfl ?_
              refine o_off 92 _ rfl rfl hg33 rfl ?_
              refine o_off 92 _ rfl rfl hg33 rfl ?_
              refine o_off 92 _ rfl rfl hg33 rfl ?_
              refine o_off 92 _ rfl rfl hg33 rfl ?_
              refine o_off 92 _ rfl rfl hg33 rfl ?_
              refine o_off 92 _ rfl rfl hg33 rfl ?_
              refine o_p (p_pickf rfl rfl hg33 rfl) rfl ?_
              refine o_nil ?_
              exact s_join () (by repeat (first | exact sl_n | refine sl_c rfl ?_)) (fun w h => by first | exact h | exact h.ent (by repeat (first | exact .nil | refine .cons (by repeat (first | exact .here | apply Pick.there)) ?_)))) ?_
          refine o_p (p_pure rfl) rfl ?_
          refine o_nil ?_
          exact s_retv (rs := [.tmp 6]) rfl (.tmp rfl (.nil)) (fun w' h' => ⟨by (have hb := hC.resolve_right (fun hh => hh.1 (by simpa using h26))); simp [hb.2]; rfl, h'.below⟩)

end Go.Proofs
