/- Contracts of the program's functions, proved by walking them with the rules of the Gx texts; without conditions beyond those that each contract names. -/
import Derived.Test.YtaffndpaehiafaaC07H
import Derived.Test.YtaffndpaehiafaaGxOps5
namespace Go.Proofs
open Go Go.RowKit Gx
set_option linter.unusedVariables false
set_option linter.unusedSimpArgs false
attribute [local irreducible] Go.Calls Gx.S Gx.O Gx.D Gx.OpP Gx.OpQ Gx.OpH

theorem sz_43 : tsz Try.prog 43 = some (3, true) := by kernel_rfl
theorem fn_67 : isFn Try.prog 67 = true := by kernel_rfl
theorem fn_69 : isFn Try.prog 69 = true := by kernel_rfl


theorem fileE_ok {fs : Fds} {nc : Int} {len : Nat} (h : fileE fs nc len = 0) : FOk fs ∧ isWd nc ∧ len ≤ 8192 := by
  unfold fileE at h
  split at h
  · rename_i h0
    split at h
    · rename_i h1
      split at h
      · exact ⟨chkF_ok h0, h1, by assumption⟩
      · cases h
    · cases h
  · contradiction
theorem unwrapT_len {u : Int} {own s : List UInt8} (hs : s.length = 10) (h : (unwrapT u own s).2 = 0) : (unwrapT u own s).1.length = 8 := by
  unfold unwrapT at *
  simp only [] at *
  split at h
  · rename_i he
    rw [if_pos he]
    simp [cryptL_length, hs]
  · cases h
theorem keyForT_len {fs : Fds} {u : Int} {own : List UInt8} (ok : FOk fs) (h : (keyForT fs u own).2 = 0) : (keyForT fs u own).1.length = 8 := by
  unfold keyForT at *
  split at h
  · rename_i hh
    rw [if_pos hh]
    exact unwrapT_len (ok.len _ (hasF_lt hh)) h
  · cases h
def readE (fs : Fds) (nc : Int) (len : Nat) (u : Int) (own : List UInt8) (at' cnt : Int) : Int :=
  if fileE fs nc len = 0 then if holdE u own = 0 then if (0 ≤ at' ∧ at' ≤ len) ∧ 0 ≤ cnt ∧ cnt ≤ 8192 then 0 else 2 else holdE u own else fileE fs nc len
def readT (fs : Fds) (nc : Int) (st : List UInt8) (u : Int) (own : List UInt8) (at' cnt : Int) : List UInt8 × Int :=
  if readE fs nc st.length u own at' cnt = 0 then if (keyForT fs u own).2 = 0 then (cryptL (keyForT fs u own).1 (wd nc) at'.toNat ((st.drop at'.toNat).take (min cnt.toNat (st.drop at'.toNat).length)), 0) else ([], (keyForT fs u own).2) else ([], readE fs nc st.length u own at' cnt)
theorem readE_1 {fs : Fds} {nc : Int} {len : Nat} {u : Int} {own : List UInt8} {at' cnt : Int} (h : (decide (0 ≤ at') && decide (at' ≤ len)) = true) : firstV [.int .i64 (fileE fs nc len), .int .i64 (holdE u own), .int .i64 (bif decide (0 ≤ cnt) && decide (cnt ≤ 8192) then 0 else 2)] = readE fs nc len u own at' cnt := by
  simp only [firstV, readE, cond_eq_ite, decide_eq_true_eq, Bool.and_eq_true] at *
  grind
theorem readE_0 {fs : Fds} {nc : Int} {len : Nat} {u : Int} {own : List UInt8} {at' cnt : Int} (h : (decide (0 ≤ at') && decide (at' ≤ len)) = false) : firstV [.int .i64 (fileE fs nc len), .int .i64 (holdE u own), .int .i64 2] = readE fs nc len u own at' cnt := by
  simp only [firstV, readE, Bool.and_eq_false_iff, decide_eq_false_iff_not] at *
  grind
theorem readE_ok {fs : Fds} {nc : Int} {len : Nat} {u : Int} {own : List UInt8} {at' cnt : Int} (h : readE fs nc len u own at' cnt = 0) : fileE fs nc len = 0 ∧ holdE u own = 0 ∧ (0 ≤ at' ∧ at' ≤ len) ∧ 0 ≤ cnt ∧ cnt ≤ 8192 := by
  unfold readE at h
  grind
theorem readT_err {fs : Fds} {nc : Int} {st : List UInt8} {u : Int} {own : List UInt8} {at' cnt : Int} (h : ¬ readE fs nc st.length u own at' cnt = 0) : ([], readE fs nc st.length u own at' cnt) = readT fs nc st u own at' cnt := by
  unfold readT; rw [if_neg h]
theorem readT_key {fs : Fds} {nc : Int} {st : List UInt8} {u : Int} {own : List UInt8} {at' cnt : Int} (h : readE fs nc st.length u own at' cnt = 0) (hk : ¬ (keyForT fs u own).2 = 0) : ([], (keyForT fs u own).2) = readT fs nc st u own at' cnt := by
  unfold readT; rw [if_pos h, if_neg hk]
theorem readT_ok {fs : Fds} {nc : Int} {st : List UInt8} {u : Int} {own : List UInt8} {at' cnt : Int} (h : readE fs nc st.length u own at' cnt = 0) (hk : (keyForT fs u own).2 = 0) : (cryptL (keyForT fs u own).1 (wd nc) at'.toNat ((st.drop at'.toNat).take (min cnt.toNat (st.drop at'.toNat).length)), 0) = readT fs nc st u own at' cnt := by
  unfold readT; rw [if_pos h, if_pos hk]

set_option maxRecDepth 20000 in
theorem c24 (w : World) (a : Option Addr) (cap : Nat) (fs : Fds) (nc : Int) (st : List UInt8) (u : Int) (own : List UInt8) (at' cnt : Int) (hs : Fl w a fs) (hm : fs.length ≤ 1000) : Calls Try.prog 24 #[.agg #[.slice a fs.length cap, .int .i64 nc, .string (bs st)], .agg #[.int .i64 u, .string (bs own)], .int .i64 at', .int .i64 cnt] w fun en w' => en = .returned (pairV (readT fs nc st u own at' cnt)) ∧ Below w.heap.size w w' := by
  refine enter (args := [_, _, _, _]) Try.func24 Try.ntmps24 rfl rfl (HS.refl w []) ?_
  refine s_seq ?_
  refine s_region ?_
  refine o_h (h_box rfl rfl) rfl (fun b1 _ => ?_)
  refine o_h (h_box rfl rfl) rfl (fun b2 _ => ?_)
  refine o_p (p_pure rfl) rfl ?_
  refine o_p (p_pure rfl) rfl ?_
  refine o_nil ?_
  refine s_seq ?_
  refine s_seq ?_
  refine s_cutI (α := Unit) [10, 14, 15, 16, 17, 18, 19, 20, 21, 22, 23, 24, 25, 26, 27, 28, 29] (fun _ => [(10, .int .i64 (readE fs nc st.length u own at' cnt))]) (fun _ => HS w [] [.blk b1 43 3 [.slice a fs.length cap, .int .i64 nc, .string (bs st)], .blk b2 31 2 [.int .i64 u, .string (bs own)]]) (fun _ => True) ?_ ?_
  · skip
    refine s_draw [] mixed ?_
    refine d_q 0 [] rfl (q_loadn rfl rfl sz_43 (by repeat (first | exact .here | apply Pick.there)) rfl) (by kernel_rfl) (by kernel_rfl) (by kernel_rfl) rfl ?_
    refine d_q 1 [] rfl (q_call rfl fn_67 rfl (fun w1 h1 => c67 w1 _ _ fs _ _ (hs.later h1) hm)) (by kernel_rfl) (by kernel_rfl) (by kernel_rfl) rfl ?_
    refine d_q 2 [] rfl (q_loadn rfl rfl sz_31 (by repeat (first | exact .here | apply Pick.there)) rfl) (by kernel_rfl) (by kernel_rfl) (by kernel_rfl) rfl ?_
    refine d_q 3 [] rfl (q_call rfl fn_60 rfl (fun w1 h1 => c60 w1 _ _)) (by kernel_rfl) (by kernel_rfl) (by kernel_rfl) rfl ?_
    refine d_p 4 rfl (p_pure rfl) (by kernel_rfl) rfl rfl ?_
    refine d_p 5 rfl (p_fieldAddr rfl rfl fd_43_2 sz_9 rfl) (by kernel_rfl) rfl rfl ?_
    refine d_q 6 [] rfl (q_load rfl rfl sz_9 (by repeat (first | exact .here | apply Pick.there)) rfl) (by kernel_rfl) (by kernel_rfl) (by kernel_rfl) rfl ?_
    refine d_p 7 rfl (p_len_str rfl rfl Try.underlying9) (by kernel_rfl) rfl rfl ?_
    refine d_q 8 [] rfl (q_call rfl fn_68 rfl (fun w1 h1 => c68 w1 _ _ _)) (by kernel_rfl) (by kernel_rfl) (by kernel_rfl) rfl ?_
    refine d_p 9 rfl (p_pure rfl) (by kernel_rfl) rfl rfl ?_
    apply d_split 23
    · exact rfl
    · intro hg3
      have hs4 := hg3; try simp only [decide_eq_true_eq, decide_eq_false_iff_not, Bool.not_eq_true', Bool.not_eq_false', Bool.and_eq_true, Bool.or_eq_true, Bool.and_eq_false_iff, Bool.or_eq_false_iff, Bool.not_true, Bool.not_false] at hs4
      refine d_pon 10 23 rfl rfl rfl hg3 (p_pure rfl) (by kernel_rfl) rfl rfl ?_
      refine d_qon 11 23 [] rfl rfl rfl hg3 (q_call rfl fn_68 rfl (fun w1 h1 => c68 w1 _ _ _)) (by kernel_rfl) (by kernel_rfl) (by kernel_rfl) rfl ?_
      refine d_p 12 rfl (p_pickt rfl rfl hg3 rfl) (by kernel_rfl) rfl rfl ?_
      refine d_q 13 [] rfl (q_call rfl fn_65 rfl (fun w1 h1 => c65 w1 _ _)) (by kernel_rfl) (by kernel_rfl) (by kernel_rfl) rfl ?_
      refine d_h 14 rfl (h_buildSlice (cs := [_, _, _]) rfl rfl sl_140 zr_24 rfl rfl rfl) (by kernel_rfl) (fun w h => h.ent (by repeat (first | exact .nil | refine .cons (by repeat (first | exact .here | apply Pick.there)) ?_))) rfl (fun b5 _ => ?_)
      refine d_base (fun w h => h.ent (by repeat (first | exact .nil | refine .cons (by repeat (first | exact .here | apply Pick.there)) ?_))) ?_
      refine d_q 15 [] rfl (q_call rfl fn_59 rfl (fun w1 h1 => f59 h1 (by repeat (first | exact .here | apply Pick.there)) (by rfl) (by rfl) (by decide))) (by kernel_rfl) (by kernel_rfl) (by kernel_rfl) rfl ?_
      refine d_p 16 rfl (p_pure rfl) (by kernel_rfl) rfl rfl ?_
      refine d_nil (by kernel_rfl) (fun w h => h.ent (by repeat (first | exact .nil | refine .cons (by repeat (first | exact .here | apply Pick.there)) ?_))) ?_
      exact s_joinI () trivial (sl_c (congrArg (fun e => some (Value.int .i64 e)) (readE_1 hg3)) (by repeat (first | exact sl_n | refine sl_c rfl ?_))) (fun w h => h.ent (by repeat (first | exact .nil | refine .cons (by repeat (first | exact .here | apply Pick.there)) ?_)))
    · intro hg6
      have hs7 := hg6; try simp only [decide_eq_true_eq, decide_eq_false_iff_not, Bool.not_eq_true', Bool.not_eq_false', Bool.and_eq_true, Bool.or_eq_true, Bool.and_eq_false_iff, Bool.or_eq_false_iff, Bool.not_true, Bool.not_false] at hs7
      refine d_off 10 23 rfl rfl rfl hg6 (by kernel_rfl) rfl rfl ?_
      refine d_off 11 23 rfl rfl rfl hg6 (by kernel_rfl) rfl rfl ?_
      refine d_p 12 rfl (p_pickf rfl rfl hg6 rfl) (by kernel_rfl) rfl rfl ?_
      refine d_q 13 [] rfl (q_call rfl fn_65 rfl (fun w1 h1 => c65 w1 _ _)) (by kernel_rfl) (by kernel_rfl) (by kernel_rfl) rfl ?_
      refine d_h 14 rfl (h_buildSlice (cs := [_, _, _]) rfl rfl sl_140 zr_24 rfl rfl rfl) (by kernel_rfl) (fun w h => h.ent (by repeat (first | exact .nil | refine .cons (by repeat (first | exact .here | apply Pick.there)) ?_))) rfl (fun b8 _ => ?_)
      refine d_base (fun w h => h.ent (by repeat (first | exact .nil | refine .cons (by repeat (first | exact .here | apply Pick.there)) ?_))) ?_
      refine d_q 15 [] rfl (q_call rfl fn_59 rfl (fun w1 h1 => f59 h1 (by repeat (first | exact .here | apply Pick.there)) (by rfl) (by rfl) (by decide))) (by kernel_rfl) (by kernel_rfl) (by kernel_rfl) rfl ?_
      refine d_p 16 rfl (p_pure rfl) (by kernel_rfl) rfl rfl ?_
      refine d_nil (by kernel_rfl) (fun w h => h.ent (by repeat (first | exact .nil | refine .cons (by repeat (first | exact .here | apply Pick.there)) ?_))) ?_
      exact s_joinI () trivial (sl_c (congrArg (fun e => some (Value.int .i64 e)) (readE_0 hg6)) (by repeat (first | exact sl_n | refine sl_c rfl ?_))) (fun w h => h.ent (by repeat (first | exact .nil | refine .cons (by repeat (first | exact .here | apply Pick.there)) ?_)))
  · intro _ _
    refine s_seq ?_
    refine s_region ?_
    refine o_p (p_pure rfl) rfl ?_
    refine o_p (p_pure rfl) rfl ?_
    refine o_nil ?_
    refine s_cond rfl (fun h9 => ?_) (fun h9 => ?_)
    · try simp only [decide_eq_true_eq, decide_eq_false_iff_not, Bool.not_eq_true', Bool.not_eq_false', Bool.and_eq_true, Bool.or_eq_true, Bool.and_eq_false_iff, Bool.or_eq_false_iff, Bool.not_true, Bool.not_false] at h9
      refine s_seq ?_
      refine s_region ?_
      refine o_p (p_pure rfl) rfl ?_
      refine o_p (p_pure rfl) rfl ?_
      refine o_p (p_pure rfl) rfl ?_
      refine o_nil ?_
      exact s_retv (rs := [.tmp 8, .tmp 9]) rfl (.tmp rfl (.tmp rfl (.nil))) (fun w' h' => ⟨by exact congrArg (fun q => Ending.returned (pairV q)) (readT_err h9), h'.below⟩)
    · try simp only [decide_eq_true_eq, decide_eq_false_iff_not, Bool.not_eq_true', Bool.not_eq_false', Bool.and_eq_true, Bool.or_eq_true, Bool.and_eq_false_iff, Bool.or_eq_false_iff, Bool.not_true, Bool.not_false] at h9
      have hr : readE fs nc st.length u own at' cnt = 0 := h9
      obtain ⟨r1, r2, r3, r4, r5⟩ := readE_ok hr
      obtain ⟨ok, hw, hle⟩ := fileE_ok r1
      have hdl : (st.drop at'.toNat).length = st.length - at'.toNat := List.length_drop
      refine s_skip ?_
      refine s_seq ?_
      refine s_region ?_
      refine o_p (p_fieldAddr rfl rfl fd_43_0 sz_41 rfl) rfl ?_
      refine o_q (q_load rfl rfl sz_41 (by repeat (first | exact .here | apply Pick.there)) rfl) rfl ?_
      refine o_q (q_loadn rfl rfl sz_31 (by repeat (first | exact .here | apply Pick.there)) rfl) rfl ?_
      refine o_q (q_call rfl fn_69 rfl (fun w1 h1 => c69 w1 _ _ fs _ _ (hs.later h1) (by assumption) (by assumption))) rfl ?_
      refine o_p (p_pure rfl) rfl ?_
      refine o_p (p_pure rfl) rfl ?_
      refine o_p (p_pure rfl) rfl ?_
      refine o_p (p_pure rfl) rfl ?_
      refine o_p (p_pure rfl) rfl ?_
      refine o_nil ?_
      refine s_seq ?_
      refine s_seq ?_
      refine s_region ?_
      refine o_p (p_pure rfl) rfl ?_
      refine o_p (p_pure rfl) rfl ?_
      refine o_nil ?_
      refine s_cond rfl (fun h10 => ?_) (fun h10 => ?_)
      · try simp only [decide_eq_true_eq, decide_eq_false_iff_not, Bool.not_eq_true', Bool.not_eq_false', Bool.and_eq_true, Bool.or_eq_true, Bool.and_eq_false_iff, Bool.or_eq_false_iff, Bool.not_true, Bool.not_false] at h10
        refine s_seq ?_
        refine s_region ?_
        refine o_p (p_pure rfl) rfl ?_
        refine o_p (p_pure rfl) rfl ?_
        refine o_p (p_pure rfl) rfl ?_
        refine o_nil ?_
        exact s_retv (rs := [.tmp 8, .tmp 9]) rfl (.tmp rfl (.tmp rfl (.nil))) (fun w' h' => ⟨by exact congrArg (fun q => Ending.returned (pairV q)) (readT_key hr h10), h'.below⟩)
      · try simp only [decide_eq_true_eq, decide_eq_false_iff_not, Bool.not_eq_true', Bool.not_eq_false', Bool.and_eq_true, Bool.or_eq_true, Bool.and_eq_false_iff, Bool.or_eq_false_iff, Bool.not_true, Bool.not_false] at h10
        have hk0 : (keyForT fs u own).2 = 0 := h10
        have hkl := keyForT_len ok hk0
        refine s_skip ?_
        refine s_seq ?_
        refine s_region ?_
        refine o_p (p_fieldAddr rfl rfl fd_43_2 sz_9 rfl) rfl ?_
        refine o_q (q_load rfl rfl sz_9 (by repeat (first | exact .here | apply Pick.there)) rfl) rfl ?_
        refine o_p (p_pure rfl) rfl ?_
        refine o_p (p_slice_str_from at'.toNat rfl rfl rfl Try.underlying9 (Int.toNat_of_nonneg (by omega)).symm (by omega)) rfl ?_
        refine o_p (p_pure rfl) rfl ?_
        refine o_nil ?_
        refine s_seq ?_
        refine s_draw [] mixed ?_
        refine d_p 0 rfl (p_pure rfl) (by kernel_rfl) rfl rfl ?_
        refine d_p 1 rfl (p_fieldAddr rfl rfl fd_43_1 sz_3 rfl) (by kernel_rfl) rfl rfl ?_
        refine d_q 2 [] rfl (q_load rfl rfl sz_3 (by repeat (first | exact .here | apply Pick.there)) rfl) (by kernel_rfl) (by kernel_rfl) (by kernel_rfl) rfl ?_
        refine d_p 3 rfl (p_pure rfl) (by kernel_rfl) rfl rfl ?_
        refine d_p 4 rfl (p_pure rfl) (by kernel_rfl) rfl rfl ?_
        refine d_p 5 rfl (p_pure rfl) (by kernel_rfl) rfl rfl ?_
        refine d_p 6 rfl (p_pure rfl) (by kernel_rfl) rfl rfl ?_
        refine d_p 7 rfl (p_len_str rfl rfl Try.underlying9) (by kernel_rfl) rfl rfl ?_
        refine d_p 8 rfl (p_min2 rfl rfl rfl ) (by kernel_rfl) rfl rfl ?_
        refine d_slot (show _ = Value.int .i64 ((min cnt.toNat (st.drop at'.toNat).length : Nat) : Int) from by congr 1; split <;> omega) ?_
        refine d_p 9 rfl (p_slice_str_to (min cnt.toNat (st.drop at'.toNat).length) rfl rfl rfl Try.underlying9 rfl (by omega)) (by kernel_rfl) rfl rfl ?_
        refine d_q 10 [] rfl (q_call rfl fn_70 rfl (fun w1 h1 => c70i w1 _ nc at' _ hkl hw (by omega) (by simp only [List.length_take]; omega))) (by kernel_rfl) (by kernel_rfl) (by kernel_rfl) rfl ?_
        refine d_p 11 rfl (p_pure rfl) (by kernel_rfl) rfl rfl ?_
        refine d_p 12 rfl (p_pure rfl) (by kernel_rfl) rfl rfl ?_
        refine d_nil (by kernel_rfl) (fun w h => h.ent (by repeat (first | exact .nil | refine .cons (by repeat (first | exact .here | apply Pick.there)) ?_))) ?_
        exact s_retv (rs := [.tmp 8, .tmp 9]) rfl (.tmp rfl (.tmp rfl (.nil))) (fun w' h' => ⟨by exact congrArg (fun q => Ending.returned (pairV q)) (readT_ok hr hk0), h'.below⟩)

end Go.Proofs
