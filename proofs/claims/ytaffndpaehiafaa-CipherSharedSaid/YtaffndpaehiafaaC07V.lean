/- Contracts of the program's functions, proved by walking them with the rules of the Gx texts; without conditions beyond those that each contract names. -/
import Derived.Test.YtaffndpaehiafaaC07U
namespace Go.Proofs
open Go Go.RowKit Gx
set_option linter.unusedVariables false
set_option linter.unusedSimpArgs false
attribute [local irreducible] Go.Calls Gx.S Gx.O Gx.D Gx.OpP Gx.OpQ Gx.OpH

theorem fn_23 : isFn Try.prog 23 = true := by kernel_rfl
theorem fd_45_2 : tfd Try.prog 45 2 = some (2, 9) := by kernel_rfl
theorem fd_45_0 : tfd Try.prog 45 0 = some (0, 3) := by kernel_rfl
theorem fd_45_1 : tfd Try.prog 45 1 = some (1, 3) := by kernel_rfl
theorem fn_26 : isFn Try.prog 26 = true := by kernel_rfl
theorem fn_29 : isFn Try.prog 29 = true := by kernel_rfl
theorem fn_30 : isFn Try.prog 30 = true := by kernel_rfl


set_option maxRecDepth 20000 in
theorem c5 (w : World) (a : Option Addr) (cap : Nat) (fs : Fds) (nc : Int) (st : List UInt8) (u : Int) (own : List UInt8) (at' cnt : Int) (data : List UInt8) (hs : Fl w a fs) (hm0 : fs.length ≤ 9223372036854775807) (hst : st.length ≤ 9223372036854775807) : Calls Try.prog 5 #[.agg #[.slice a fs.length cap, .int .i64 nc, .string (bs st)], .agg #[.int .i64 u, .string (bs own)], .agg #[.int .i64 at', .int .i64 cnt, .string (bs data)]] w fun en w' => en = .returned (.bool true) ∧ Below w.heap.size w w' := by
  refine enter (args := [_, _, _]) Try.func5 Try.ntmps5 rfl rfl (HS.refl w []) ?_
  refine s_seq ?_
  refine s_region ?_
  refine o_h (h_box rfl rfl) rfl (fun b1 _ => ?_)
  refine o_h (h_box rfl rfl) rfl (fun b2 _ => ?_)
  refine o_h (h_box rfl rfl) rfl (fun b3 _ => ?_)
  refine o_p (p_pure rfl) rfl ?_
  refine o_nil ?_
  refine s_seq ?_
  refine s_seq ?_
  refine s_region ?_
  refine o_q (q_call rfl fn_12 rfl (fun w1 h1 => c12 w1)) rfl ?_
  refine o_p (p_pure rfl) rfl ?_
  refine o_nil ?_
  refine s_cond rfl (fun h4 => ?_) (fun h4 => ?_)
  · try simp only [decide_eq_true_eq, decide_eq_false_iff_not, Bool.not_eq_true', Bool.not_eq_false', Bool.and_eq_true, Bool.or_eq_true, Bool.and_eq_false_iff, Bool.or_eq_false_iff, Bool.not_true, Bool.not_false] at h4
    exfalso; first | omega | (simp at h4; done) | (simp_all; done)
  · try simp only [decide_eq_true_eq, decide_eq_false_iff_not, Bool.not_eq_true', Bool.not_eq_false', Bool.and_eq_true, Bool.or_eq_true, Bool.and_eq_false_iff, Bool.or_eq_false_iff, Bool.not_true, Bool.not_false] at h4
    refine s_skip ?_
    refine s_seq ?_
    refine s_seq ?_
    refine s_region ?_
    refine o_q (q_loadn rfl rfl sz_43 (by repeat (first | exact .here | apply Pick.there)) rfl) rfl ?_
    refine o_q (q_call rfl fn_23 rfl (fun w1 h1 => c23 w1 _ _ fs _ _ (hs.later h1) (by omega))) rfl ?_
    refine o_p (p_pure rfl) rfl ?_
    refine o_p (p_pure rfl) rfl ?_
    refine o_or 8 20 28 _ _ rfl
      (by
        intro hg5
        have hs6 := hg5; try simp only [decide_eq_true_eq, decide_eq_false_iff_not, Bool.not_eq_true', Bool.not_eq_false', Bool.and_eq_true, Bool.or_eq_true, Bool.and_eq_false_iff, Bool.or_eq_false_iff, Bool.not_true, Bool.not_false] at hs6
        refine o_on 20 _ rfl rfl hg5 ?_
        refine o_p (p_fieldAddr rfl rfl fd_31_1 sz_9 rfl) rfl ?_
        refine o_on 20 _ rfl rfl hg5 ?_
        refine o_q (q_load rfl rfl sz_9 (by repeat (first | exact .here | apply Pick.there)) rfl) rfl ?_
        refine o_on 20 _ rfl rfl hg5 ?_
        refine o_p (p_fieldAddr rfl rfl fd_45_2 sz_9 rfl) rfl ?_
        refine o_on 20 _ rfl rfl hg5 ?_
        refine o_q (q_load rfl rfl sz_9 (by repeat (first | exact .here | apply Pick.there)) rfl) rfl ?_
        refine o_on 20 _ rfl rfl hg5 ?_
        refine o_h (h_buildSlice (cs := [_, _]) rfl rfl sl_104 zr_9 rfl rfl rfl) rfl (fun b7 _ => ?_)
        refine o_on 20 _ rfl rfl hg5 ?_
        refine o_q (q_call rfl fn_16 rfl (fun w1 h1 => x16 w1 _ 2 _ [own, data] rfl (h1.vl_blk (by repeat (first | exact .here | apply Pick.there))) (by decide))) rfl ?_
        refine o_on 20 _ rfl rfl hg5 ?_
        refine o_p (p_pure rfl) rfl ?_
        refine o_p (p_pickf rfl rfl hg5 rfl) rfl ?_
        refine o_nil ?_
        exact s_join () (by repeat (first | exact sl_n | refine sl_c rfl ?_)) (fun w h => by first | exact h | exact h.ent (by repeat (first | exact .nil | refine .cons (by repeat (first | exact .here | apply Pick.there)) ?_))))
      (by
        intro hg8
        have hs9 := hg8; try simp only [decide_eq_true_eq, decide_eq_false_iff_not, Bool.not_eq_true', Bool.not_eq_false', Bool.and_eq_true, Bool.or_eq_true, Bool.and_eq_false_iff, Bool.or_eq_false_iff, Bool.not_true, Bool.not_false] at hs9
        refine o_off 20 _ rfl rfl hg8 rfl ?_
        refine o_off 20 _ rfl rfl hg8 rfl ?_
        refine o_off 20 _ rfl rfl hg8 rfl ?_
        refine o_off 20 _ rfl rfl hg8 rfl ?_
        refine o_off 20 _ rfl rfl hg8 rfl ?_
        refine o_off 20 _ rfl rfl hg8 rfl ?_
        refine o_off 20 _ rfl rfl hg8 rfl ?_
        refine o_p (p_pickt rfl rfl hg8 rfl) rfl ?_
        refine o_nil ?_
        exact s_join () (by repeat (first | exact sl_n | refine sl_c rfl ?_)) (fun w h => by first | exact h | exact h.ent (by repeat (first | exact .nil | refine .cons (by repeat (first | exact .here | apply Pick.there)) ?_)))) ?_
    refine o_nil ?_
    refine s_cond rfl (fun h10 => ?_) (fun h10 => ?_)
    · try simp only [decide_eq_true_eq, decide_eq_false_iff_not, Bool.not_eq_true', Bool.not_eq_false', Bool.and_eq_true, Bool.or_eq_true, Bool.and_eq_false_iff, Bool.or_eq_false_iff, Bool.not_true, Bool.not_false] at h10
      refine s_seq ?_
      refine s_region ?_
      refine o_p (p_pure rfl) rfl ?_
      refine o_nil ?_
      exact s_retv (rs := [.tmp 6]) rfl (.tmp rfl (.nil)) (fun w' h' => ⟨by rfl, h'.below⟩)
    · try simp only [decide_eq_true_eq, decide_eq_false_iff_not, Bool.not_eq_true', Bool.not_eq_false', Bool.and_eq_true, Bool.or_eq_true, Bool.and_eq_false_iff, Bool.or_eq_false_iff, Bool.not_true, Bool.not_false] at h10
      have hh : likeB fs st.length = true ∧ fewB [own, data] = true := by have hq := h10; simpa using hq
      obtain ⟨hm, hsl, _⟩ := likeB_le hh.1
      have hd : own.length ≤ 400 ∧ data.length ≤ 400 := by have hq := hh.2; simpa [fewB] using hq
      refine s_skip ?_
      refine s_seq ?_
      refine s_draw [] mixed ?_
      refine d_q 0 [] rfl (q_loadn rfl rfl sz_43 (by repeat (first | exact .here | apply Pick.there)) rfl) (by kernel_rfl) (by kernel_rfl) (by kernel_rfl) rfl ?_
      refine d_q 2 [] rfl (q_loadn rfl rfl sz_31 (by repeat (first | exact .here | apply Pick.there)) rfl) (by kernel_rfl) (by kernel_rfl) (by kernel_rfl) rfl ?_
      refine d_p 3 rfl (p_fieldAddr rfl rfl fd_45_0 sz_3 rfl) (by kernel_rfl) rfl rfl ?_
      refine d_q 4 [] rfl (q_load rfl rfl sz_3 (by repeat (first | exact .here | apply Pick.there)) rfl) (by kernel_rfl) (by kernel_rfl) (by kernel_rfl) rfl ?_
      refine d_p 5 rfl (p_fieldAddr rfl rfl fd_45_1 sz_3 rfl) (by kernel_rfl) rfl rfl ?_
      refine d_q 6 [] rfl (q_load rfl rfl sz_3 (by repeat (first | exact .here | apply Pick.there)) rfl) (by kernel_rfl) (by kernel_rfl) (by kernel_rfl) rfl ?_
      refine d_h 1 rfl (h_call rfl fn_25 rfl (fun w1 h1 => c25 w1 _ _ fs _ _ (hs.later h1) (by omega))) (by kernel_rfl) (fun w h => h.ent (by repeat (first | exact .nil | refine .cons (by repeat (first | exact .here | apply Pick.there)) ?_))) rfl (fun gf _ => ?_)
      refine d_base (fun w h => h.ent (by repeat (first | exact .nil | refine .cons (by repeat (first | exact .here | apply Pick.there)) ?_))) ?_
      refine d_q 7 [] rfl (q_call rfl fn_24 rfl (fun w1 h1 => c24 w1 _ _ fs _ _ _ _ _ _ (h1.fl (by repeat (first | exact .here | apply Pick.there)) rfl) (by omega))) (by kernel_rfl) (by kernel_rfl) (by kernel_rfl) rfl ?_
      refine d_p 8 rfl (p_pure rfl) (by kernel_rfl) rfl rfl ?_
      refine d_p 9 rfl (p_pure rfl) (by kernel_rfl) rfl rfl ?_
      refine d_p 10 rfl (p_pure rfl) (by kernel_rfl) rfl rfl ?_
      refine d_p 11 rfl (p_pure rfl) (by kernel_rfl) rfl rfl ?_
      refine d_p 12 rfl (p_pure rfl) (by kernel_rfl) rfl rfl ?_
      refine d_nil (by kernel_rfl) (fun w h => h.ent (by repeat (first | exact .nil | refine .cons (by repeat (first | exact .here | apply Pick.there)) ?_))) ?_
      refine s_seq ?_
      refine s_region ?_
      refine o_q (q_loadn rfl rfl sz_43 (by repeat (first | exact .here | apply Pick.there)) rfl) rfl ?_
      refine o_q (q_loadn rfl rfl sz_31 (by repeat (first | exact .here | apply Pick.there)) rfl) rfl ?_
      refine o_p (p_fieldAddr rfl rfl fd_45_0 sz_3 rfl) rfl ?_
      refine o_q (q_load rfl rfl sz_3 (by repeat (first | exact .here | apply Pick.there)) rfl) rfl ?_
      refine o_p (p_fieldAddr rfl rfl fd_45_1 sz_3 rfl) rfl ?_
      refine o_q (q_load rfl rfl sz_3 (by repeat (first | exact .here | apply Pick.there)) rfl) rfl ?_
      refine o_q (q_call rfl fn_26 rfl (fun w1 h1 => c26 w1 _ _ fs _ _ _ _ _ _ (hs.later h1) (by omega) (by omega))) rfl ?_
      refine o_p (p_pure rfl) rfl ?_
      refine o_p (p_pure rfl) rfl ?_
      refine o_p (p_pure rfl) rfl ?_
      refine o_p (p_pure rfl) rfl ?_
      refine o_p (p_pure rfl) rfl ?_
      refine o_nil ?_
      refine s_seq ?_
      refine s_seq ?_
      refine s_region ?_
      refine o_p (p_pure rfl) rfl ?_
      refine o_p (p_pure rfl) rfl ?_
      refine o_p (p_pure rfl) rfl ?_
      refine o_p (p_pure rfl) rfl ?_
      refine o_or 4 53 57 _ _ rfl
        (by
          intro hg11
          have hs12 := hg11; try simp only [decide_eq_true_eq, decide_eq_false_iff_not, Bool.not_eq_true', Bool.not_eq_false', Bool.and_eq_true, Bool.or_eq_true, Bool.and_eq_false_iff, Bool.or_eq_false_iff, Bool.not_true, Bool.not_false] at hs12
          refine o_on 53 _ rfl rfl hg11 ?_
          refine o_p (p_pure rfl) rfl ?_
          refine o_on 53 _ rfl rfl hg11 ?_
          refine o_p (p_pure rfl) rfl ?_
          refine o_on 53 _ rfl rfl hg11 ?_
          refine o_p (p_pure rfl) rfl ?_
          refine o_p (p_pickf rfl rfl hg11 rfl) rfl ?_
          refine o_nil ?_
          exact s_join () (by repeat (first | exact sl_n | refine sl_c rfl ?_)) (fun w h => by first | exact h | exact h.ent (by repeat (first | exact .nil | refine .cons (by repeat (first | exact .here | apply Pick.there)) ?_))))
        (by
          intro hg13
          have hs14 := hg13; try simp only [decide_eq_true_eq, decide_eq_false_iff_not, Bool.not_eq_true', Bool.not_eq_false', Bool.and_eq_true, Bool.or_eq_true, Bool.and_eq_false_iff, Bool.or_eq_false_iff, Bool.not_true, Bool.not_false] at hs14
          refine o_off 53 _ rfl rfl hg13 rfl ?_
          refine o_off 53 _ rfl rfl hg13 rfl ?_
          refine o_off 53 _ rfl rfl hg13 rfl ?_
          refine o_p (p_pickt rfl rfl hg13 rfl) rfl ?_
          refine o_nil ?_
          exact s_join () (by repeat (first | exact sl_n | refine sl_c rfl ?_)) (fun w h => by first | exact h | exact h.ent (by repeat (first | exact .nil | refine .cons (by repeat (first | exact .here | apply Pick.there)) ?_)))) ?_
      refine o_nil ?_
      refine s_cond rfl (fun h15 => ?_) (fun h15 => ?_)
      · try simp only [decide_eq_true_eq, decide_eq_false_iff_not, Bool.not_eq_true', Bool.not_eq_false', Bool.and_eq_true, Bool.or_eq_true, Bool.and_eq_false_iff, Bool.or_eq_false_iff, Bool.not_true, Bool.not_false] at h15
        exfalso; simp at h15
      · try simp only [decide_eq_true_eq, decide_eq_false_iff_not, Bool.not_eq_true', Bool.not_eq_false', Bool.and_eq_true, Bool.or_eq_true, Bool.and_eq_false_iff, Bool.or_eq_false_iff, Bool.not_true, Bool.not_false] at h15
        refine s_skip ?_
        refine s_seq ?_
        refine s_seq ?_
        refine s_region ?_
        refine o_p (p_fieldAddr rfl rfl fd_45_0 sz_3 rfl) rfl ?_
        refine o_q (q_load rfl rfl sz_3 (by repeat (first | exact .here | apply Pick.there)) rfl) rfl ?_
        refine o_p (p_fieldAddr rfl rfl fd_45_2 sz_9 rfl) rfl ?_
        refine o_q (q_load rfl rfl sz_9 (by repeat (first | exact .here | apply Pick.there)) rfl) rfl ?_
        refine o_p (p_len_str rfl rfl Try.underlying9) rfl ?_
        refine o_p (p_pure rfl) rfl ?_
        try (refine o_slot (i64w (by omega) (by omega)) ?_)
        refine o_q (q_call rfl fn_27 rfl (fun w1 h1 => c27 w1 _ _ _)) rfl ?_
        refine o_p (p_pure rfl) rfl ?_
        refine o_and 5 65 70 _ _ rfl
          (by
            intro hg16
            have hs17 := hg16; try simp only [decide_eq_true_eq, decide_eq_false_iff_not, Bool.not_eq_true', Bool.not_eq_false', Bool.and_eq_true, Bool.or_eq_true, Bool.and_eq_false_iff, Bool.or_eq_false_iff, Bool.not_true, Bool.not_false] at hs17
            refine o_on 65 _ rfl rfl hg16 ?_
            refine o_p (p_fieldAddr rfl rfl fd_45_2 sz_9 rfl) rfl ?_
            refine o_on 65 _ rfl rfl hg16 ?_
            refine o_q (q_load rfl rfl sz_9 (by repeat (first | exact .here | apply Pick.there)) rfl) rfl ?_
            refine o_on 65 _ rfl rfl hg16 ?_
            refine o_p (p_len_str rfl rfl Try.underlying9) rfl ?_
            refine o_on 65 _ rfl rfl hg16 ?_
            refine o_p (p_pure rfl) rfl ?_
            refine o_p (p_pickt rfl rfl hg16 rfl) rfl ?_
            refine o_nil ?_
            exact s_join () (by repeat (first | exact sl_n | refine sl_c rfl ?_)) (fun w h => by first | exact h | exact h.ent (by repeat (first | exact .nil | refine .cons (by repeat (first | exact .here | apply Pick.there)) ?_))))
          (by
            intro hg18
            have hs19 := hg18; try simp only [decide_eq_true_eq, decide_eq_false_iff_not, Bool.not_eq_true', Bool.not_eq_false', Bool.and_eq_true, Bool.or_eq_true, Bool.and_eq_false_iff, Bool.or_eq_false_iff, Bool.not_true, Bool.not_false] at hs19
            refine o_off 65 _ rfl rfl hg18 rfl ?_
            refine o_off 65 _ rfl rfl hg18 rfl ?_
            refine o_off 65 _ rfl rfl hg18 rfl ?_
            refine o_off 65 _ rfl rfl hg18 rfl ?_
            refine o_p (p_pickf rfl rfl hg18 rfl) rfl ?_
            refine o_nil ?_
            exact s_join () (by repeat (first | exact sl_n | refine sl_c rfl ?_)) (fun w h => by first | exact h | exact h.ent (by repeat (first | exact .nil | refine .cons (by repeat (first | exact .here | apply Pick.there)) ?_)))) ?_
        refine o_nil ?_
        refine s_cond rfl (fun h20 => ?_) (fun h20 => ?_)
        · try simp only [decide_eq_true_eq, decide_eq_false_iff_not, Bool.not_eq_true', Bool.not_eq_false', Bool.and_eq_true, Bool.or_eq_true, Bool.and_eq_false_iff, Bool.or_eq_false_iff, Bool.not_true, Bool.not_false] at h20
          refine s_seq ?_
          refine s_region ?_
          refine o_p (p_pure rfl) rfl ?_
          refine o_nil ?_
          exact s_retv (rs := [.tmp 6]) rfl (.tmp rfl (.nil)) (fun w' h' => ⟨by rfl, h'.below⟩)
        · try simp only [decide_eq_true_eq, decide_eq_false_iff_not, Bool.not_eq_true', Bool.not_eq_false', Bool.and_eq_true, Bool.or_eq_true, Bool.and_eq_false_iff, Bool.or_eq_false_iff, Bool.not_true, Bool.not_false] at h20
          refine s_skip ?_
          refine s_seq ?_
          refine s_cutI (α := Nat × Option Addr × Nat) [11, 12, 71, 72, 73, 74, 75, 76, 77, 78, 79, 80, 81] (fun y => [(11, .pointer (some ⟨y.1, 0, none⟩)), (12, .int .i64 (writeT fs nc st u own at' data).2)]) (fun y => HS w [] [.blk y.1 43 3 [.slice y.2.1 (writeT fs nc st u own at' data).1.1.length y.2.2, .int .i64 (writeT fs nc st u own at' data).1.2.1, .string (bs (writeT fs nc st u own at' data).1.2.2)], .own (.slice y.2.1 (writeT fs nc st u own at' data).1.1.length y.2.2) 96 2 (writeT fs nc st u own at' data).1.1.length (flatF (writeT fs nc st u own at' data).1.1), .blk b3 45 3 [.int .i64 at', .int .i64 cnt, .string (bs data)], .blk b2 31 2 [.int .i64 u, .string (bs own)], .blk b1 43 3 [.slice a fs.length cap, .int .i64 nc, .string (bs st)]]) (fun _ => True) ?_ ?_
          · skip
            refine s_draw [12] mixed ?_
            refine d_q 0 [[]] rfl (q_loadn rfl rfl sz_43 (by repeat (first | exact .here | apply Pick.there)) rfl) (by kernel_rfl) (by kernel_rfl) (by kernel_rfl) rfl ?_
            refine d_q 2 [[]] rfl (q_loadn rfl rfl sz_31 (by repeat (first | exact .here | apply Pick.there)) rfl) (by kernel_rfl) (by kernel_rfl) (by kernel_rfl) rfl ?_
            refine d_p 3 rfl (p_fieldAddr rfl rfl fd_45_0 sz_3 rfl) (by kernel_rfl) rfl rfl ?_
            refine d_q 4 [[]] rfl (q_load rfl rfl sz_3 (by repeat (first | exact .here | apply Pick.there)) rfl) (by kernel_rfl) (by kernel_rfl) (by kernel_rfl) rfl ?_
            refine d_p 5 rfl (p_fieldAddr rfl rfl fd_45_2 sz_9 rfl) (by kernel_rfl) rfl rfl ?_
            refine d_q 6 [[]] rfl (q_load rfl rfl sz_9 (by repeat (first | exact .here | apply Pick.there)) rfl) (by kernel_rfl) (by kernel_rfl) (by kernel_rfl) rfl ?_
            refine d_two 1 11 rfl rfl  (h_call rfl fn_25 rfl (fun w1 h1 => c25 w1 _ _ fs _ _ (hs.later h1) (by omega))) (h_alloc rfl zr_43) (by kernel_rfl) (fun w h => h.ent (by repeat (first | exact .nil | refine .cons (by repeat (first | exact .here | apply Pick.there)) ?_))) rfl rfl  (fun gf _ => ?_) (fun b21 _ => ?_)
            · skip
              refine d_base (fun w h => h.ent (by repeat (first | exact .nil | refine .cons (by repeat (first | exact .here | apply Pick.there)) ?_))) ?_
              refine d_two 7 11 rfl rfl  (h_call rfl fn_28 rfl (fun w1 h1 => x28 w1 _ _ fs _ _ _ _ _ _ (h1.fl (by repeat (first | exact .here | apply Pick.there)) rfl) (by omega) (by omega))) (h_alloc rfl zr_43) (by kernel_rfl) (fun w h => h.ent (by repeat (first | exact .nil | refine .cons (by repeat (first | exact .here | apply Pick.there)) ?_))) rfl rfl  (fun gw _ => ?_) (fun b22 _ => ?_)
              · skip
                refine d_base (fun w h => h.ent (by repeat (first | exact .nil | refine .cons (by repeat (first | exact .here | apply Pick.there)) ?_))) ?_
                refine d_p 8 rfl (p_pure rfl) (by kernel_rfl) rfl rfl ?_
                refine d_p 9 rfl (p_pure rfl) (by kernel_rfl) rfl rfl ?_
                refine d_p 10 rfl (p_pure rfl) (by kernel_rfl) rfl rfl ?_
                refine d_h 11 rfl (h_alloc rfl zr_43) (by kernel_rfl) (fun w h => h.ent (by repeat (first | exact .nil | refine .cons (by repeat (first | exact .here | apply Pick.there)) ?_))) rfl (fun b23 _ => ?_)
                refine d_base (fun w h => h.ent (by repeat (first | exact .nil | refine .cons (by repeat (first | exact .here | apply Pick.there)) ?_))) ?_
                refine d_h0 12 rfl (h_store rfl rfl rfl sz_43 rfl (by repeat (first | exact .here | apply Put.there)) (by simp only [setMany_length, List.length_set, List.length_cons, List.length_nil, List.length_map]; omega) rfl) (by kernel_rfl) (fun w h => h.ent (by repeat (first | exact .nil | refine .cons (by repeat (first | exact .here | apply Pick.there)) ?_))) (fun _ _ => ?_)
                refine d_turn [] (by kernel_rfl) ?_
                refine d_p 13 rfl (p_pure rfl) (by kernel_rfl) rfl rfl ?_
                refine d_nil (by kernel_rfl) (fun w h => h.ent (by repeat (first | exact .nil | refine .cons (by repeat (first | exact .here | apply Pick.there)) ?_))) ?_
                exact s_joinI (_, _, _) trivial (by repeat (first | exact sl_n | refine sl_c rfl ?_)) (fun w h => h.ent (by repeat (first | exact .nil | refine .cons (by repeat (first | exact .here | apply Pick.there)) ?_)))
              · skip
                refine d_base (fun w h => h.ent (by repeat (first | exact .nil | refine .cons (by repeat (first | exact .here | apply Pick.there)) ?_))) ?_
                refine d_h 7 rfl (h_call rfl fn_28 rfl (fun w1 h1 => x28 w1 _ _ fs _ _ _ _ _ _ (h1.fl (by repeat (first | exact .here | apply Pick.there)) rfl) (by omega) (by omega))) (by kernel_rfl) (fun w h => h.ent (by repeat (first | exact .nil | refine .cons (by repeat (first | exact .here | apply Pick.there)) ?_))) rfl (fun gw _ => ?_)
                refine d_base (fun w h => h.ent (by repeat (first | exact .nil | refine .cons (by repeat (first | exact .here | apply Pick.there)) ?_))) ?_
                refine d_p 8 rfl (p_pure rfl) (by kernel_rfl) rfl rfl ?_
                refine d_p 9 rfl (p_pure rfl) (by kernel_rfl) rfl rfl ?_
                refine d_p 10 rfl (p_pure rfl) (by kernel_rfl) rfl rfl ?_
                refine d_h0 12 rfl (h_store rfl rfl rfl sz_43 rfl (by repeat (first | exact .here | apply Put.there)) (by simp only [setMany_length, List.length_set, List.length_cons, List.length_nil, List.length_map]; omega) rfl) (by kernel_rfl) (fun w h => h.ent (by repeat (first | exact .nil | refine .cons (by repeat (first | exact .here | apply Pick.there)) ?_))) (fun _ _ => ?_)
                refine d_turn [] (by kernel_rfl) ?_
                refine d_p 13 rfl (p_pure rfl) (by kernel_rfl) rfl rfl ?_
                refine d_nil (by kernel_rfl) (fun w h => h.ent (by repeat (first | exact .nil | refine .cons (by repeat (first | exact .here | apply Pick.there)) ?_))) ?_
                exact s_joinI (_, _, _) trivial (by repeat (first | exact sl_n | refine sl_c rfl ?_)) (fun w h => h.ent (by repeat (first | exact .nil | refine .cons (by repeat (first | exact .here | apply Pick.there)) ?_)))
            · skip
              refine d_base (fun w h => h.ent (by repeat (first | exact .nil | refine .cons (by repeat (first | exact .here | apply Pick.there)) ?_))) ?_
              refine d_h 1 rfl (h_call rfl fn_25 rfl (fun w1 h1 => c25 w1 _ _ fs _ _ (hs.later h1) (by omega))) (by kernel_rfl) (fun w h => h.ent (by repeat (first | exact .nil | refine .cons (by repeat (first | exact .here | apply Pick.there)) ?_))) rfl (fun gf _ => ?_)
              refine d_base (fun w h => h.ent (by repeat (first | exact .nil | refine .cons (by repeat (first | exact .here | apply Pick.there)) ?_))) ?_
              refine d_h 7 rfl (h_call rfl fn_28 rfl (fun w1 h1 => x28 w1 _ _ fs _ _ _ _ _ _ (h1.fl (by repeat (first | exact .here | apply Pick.there)) rfl) (by omega) (by omega))) (by kernel_rfl) (fun w h => h.ent (by repeat (first | exact .nil | refine .cons (by repeat (first | exact .here | apply Pick.there)) ?_))) rfl (fun gw _ => ?_)
              refine d_base (fun w h => h.ent (by repeat (first | exact .nil | refine .cons (by repeat (first | exact .here | apply Pick.there)) ?_))) ?_
              refine d_p 8 rfl (p_pure rfl) (by kernel_rfl) rfl rfl ?_
              refine d_p 9 rfl (p_pure rfl) (by kernel_rfl) rfl rfl ?_
              refine d_p 10 rfl (p_pure rfl) (by kernel_rfl) rfl rfl ?_
              refine d_h0 12 rfl (h_store rfl rfl rfl sz_43 rfl (by repeat (first | exact .here | apply Put.there)) (by simp only [setMany_length, List.length_set, List.length_cons, List.length_nil, List.length_map]; omega) rfl) (by kernel_rfl) (fun w h => h.ent (by repeat (first | exact .nil | refine .cons (by repeat (first | exact .here | apply Pick.there)) ?_))) (fun _ _ => ?_)
              refine d_turn [] (by kernel_rfl) ?_
              refine d_p 13 rfl (p_pure rfl) (by kernel_rfl) rfl rfl ?_
              refine d_nil (by kernel_rfl) (fun w h => h.ent (by repeat (first | exact .nil | refine .cons (by repeat (first | exact .here | apply Pick.there)) ?_))) ?_
              exact s_joinI (_, _, _) trivial (by repeat (first | exact sl_n | refine sl_c rfl ?_)) (fun w h => h.ent (by repeat (first | exact .nil | refine .cons (by repeat (first | exact .here | apply Pick.there)) ?_)))
          · intro ⟨bq, gq⟩ _
            refine s_seq ?_
            refine s_region ?_
            refine o_q (q_loadn rfl rfl sz_43 (by repeat (first | exact .here | apply Pick.there)) rfl) rfl ?_
            refine o_q (q_loadn rfl rfl sz_31 (by repeat (first | exact .here | apply Pick.there)) rfl) rfl ?_
            refine o_p (p_fieldAddr rfl rfl fd_45_0 sz_3 rfl) rfl ?_
            refine o_q (q_load rfl rfl sz_3 (by repeat (first | exact .here | apply Pick.there)) rfl) rfl ?_
            refine o_p (p_fieldAddr rfl rfl fd_45_2 sz_9 rfl) rfl ?_
            refine o_q (q_load rfl rfl sz_9 (by repeat (first | exact .here | apply Pick.there)) rfl) rfl ?_
            refine o_h (h_call rfl fn_29 rfl (fun w1 h1 => c29 w1 _ _ fs _ _ _ _ _ _ (hs.later h1) (by omega) (by omega) (by omega))) rfl (fun gr _ => ?_)
            refine o_p (p_pure rfl) rfl ?_
            refine o_p (p_pure rfl) rfl ?_
            refine o_p (p_pure rfl) rfl ?_
            refine o_h (h_alloc rfl zr_43) rfl (fun b24 _ => ?_)
            refine o_h0 (h_store rfl rfl rfl sz_43 rfl (by repeat (first | exact .here | apply Put.there)) (by simp only [setMany_length, List.length_set, List.length_cons, List.length_nil, List.length_map]; omega) rfl) (fun _ _ => ?_)
            refine o_p (p_pure rfl) rfl ?_
            refine o_nil ?_
            refine s_seq ?_
            refine s_region ?_
            refine o_p (p_pure rfl) rfl ?_
            refine o_p (p_pure rfl) rfl ?_
            refine o_p (p_pure rfl) rfl ?_
            refine o_p (p_pure rfl) rfl ?_
            refine o_and 4 95 99 _ _ rfl
              (by
                intro hg25
                have hs26 := hg25; try simp only [decide_eq_true_eq, decide_eq_false_iff_not, Bool.not_eq_true', Bool.not_eq_false', Bool.and_eq_true, Bool.or_eq_true, Bool.and_eq_false_iff, Bool.or_eq_false_iff, Bool.not_true, Bool.not_false] at hs26
                refine o_on 95 _ rfl rfl hg25 ?_
                refine o_q (q_loadn rfl rfl sz_43 (by repeat (first | exact .here | apply Pick.there)) rfl) rfl ?_
                refine o_on 95 _ rfl rfl hg25 ?_
                refine o_q (q_loadn rfl rfl sz_43 (by repeat (first | exact .here | apply Pick.there)) rfl) rfl ?_
                refine o_on 95 _ rfl rfl hg25 ?_
                refine o_q (q_call rfl fn_30 rfl (fun w1 h1 => c30 w1 _ _ _ _ (writeT fs nc st u own at' data).1.1 (writeT fs nc st u own at' data).1.1 _ _ _ _ (h1.fl (by repeat (first | exact .here | apply Pick.there)) rfl) (h1.fl (by repeat (first | exact .here | apply Pick.there)) rfl) (by have hwl := writeT_len (fs := fs) (nc := nc) (st := st) (u := u) (own := own) (at' := at') (data := data); omega))) rfl ?_
                refine o_p (p_pickt rfl rfl hg25 rfl) rfl ?_
                refine o_nil ?_
                exact s_join () (by repeat (first | exact sl_n | refine sl_c rfl ?_)) (fun w h => by first | exact h | exact h.ent (by repeat (first | exact .nil | refine .cons (by repeat (first | exact .here | apply Pick.there)) ?_))))
              (by
                intro hg27
                have hs28 := hg27; try simp only [decide_eq_true_eq, decide_eq_false_iff_not, Bool.not_eq_true', Bool.not_eq_false', Bool.and_eq_true, Bool.or_eq_true, Bool.and_eq_false_iff, Bool.or_eq_false_iff, Bool.not_true, Bool.not_false] at hs28
                refine o_off 95 _ rfl rfl hg27 rfl ?_
                refine o_off 95 _ rfl rfl hg27 rfl ?_
                refine o_off 95 _ rfl rfl hg27 rfl ?_
                refine o_p (p_pickf rfl rfl hg27 rfl) rfl ?_
                refine o_nil ?_
                exact s_join () (by repeat (first | exact sl_n | refine sl_c rfl ?_)) (fun w h => by first | exact h | exact h.ent (by repeat (first | exact .nil | refine .cons (by repeat (first | exact .here | apply Pick.there)) ?_)))) ?_
            refine o_p (p_pure rfl) rfl ?_
            refine o_nil ?_
            exact s_retv (rs := [.tmp 6]) rfl (.tmp rfl (.nil)) (fun w' h' => ⟨by simp; rfl, h'.below⟩)

end Go.Proofs
