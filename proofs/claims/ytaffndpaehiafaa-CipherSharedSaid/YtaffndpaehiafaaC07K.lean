/- Contracts of the program's functions, proved by walking them with the rules of the Gx texts; without conditions beyond those that each contract names. -/
import Derived.Test.YtaffndpaehiafaaC07J
namespace Go.Proofs
open Go Go.RowKit Gx
set_option linter.unusedVariables false
set_option linter.unusedSimpArgs false
attribute [local irreducible] Go.Calls Gx.S Gx.O Gx.D Gx.OpP Gx.OpQ Gx.OpH

theorem fn_13 : isFn Try.prog 13 = true := by kernel_rfl
theorem pl_31 : tplaces Try.prog 31 = some [(0, 1), (1, 1)] := by kernel_rfl
theorem zr_31 : tzero Try.prog 31 = some [.int .i64 0, .string (bs [])] := by kernel_rfl
theorem fn_17 : isFn Try.prog 17 = true := by kernel_rfl
theorem fn_21 : isFn Try.prog 21 = true := by kernel_rfl
theorem pl_96 : tplaces Try.prog 96 = some [(0, 1), (1, 1)] := by kernel_rfl
theorem fn_28 : isFn Try.prog 28 = true := by kernel_rfl
theorem fn_24 : isFn Try.prog 24 = true := by kernel_rfl
theorem eqk_22 : teqk Try.prog 22 = some [0, 0, 0, 0] := by kernel_rfl


theorem cryptL_twice (key : List UInt8) (n : UInt16) : ∀ (l : List UInt8) (at' : Nat), cryptL key n at' (cryptL key n at' l) = l
  | [], _ => rfl
  | b :: l, at' => by rw [cryptL, cryptL, cryptL_twice key n l (at' + 1), UInt8.xor_assoc, UInt8.xor_self, UInt8.xor_zero]
theorem wrap_unwrap {u : Int} {own key : List UInt8} (hk : key.length = 8) : unwrapT u own (wrapL u own key) = (key, 0) := by
  unfold unwrapT wrapL
  simp only [cryptL_twice]
  have h1 : (key ++ checkL key).take 8 = key := by rw [← hk]; simp
  have h2 : (key ++ checkL key).drop 8 = checkL key := by rw [← hk]; simp
  rw [h1, h2, if_pos rfl]
theorem wrapL_length {u : Int} {own key : List UInt8} (hk : key.length = 8) : (wrapL u own key).length = 10 := by
  simp [wrapL, cryptL_length, hk, checkL]
theorem aw_wrap : ∃ W : List UInt8, wrapT 10 [97, 98, 99, 100, 101, 102, 103, 104] [49, 50, 51, 52, 53, 54, 55, 56] = (W, 0) ∧ W.length = 10 ∧ unwrapE 10 [97, 98, 99, 100, 101, 102, 103, 104] W = ([49, 50, 51, 52, 53, 54, 55, 56], 0) := by
  refine ⟨wrapL 10 [97, 98, 99, 100, 101, 102, 103, 104] [49, 50, 51, 52, 53, 54, 55, 56], by simp [wrapT, holdE, keyE], wrapL_length rfl, ?_⟩
  have hl := wrapL_length (u := 10) (own := [97, 98, 99, 100, 101, 102, 103, 104]) (key := [49, 50, 51, 52, 53, 54, 55, 56]) rfl
  unfold unwrapE
  rw [if_pos (by simp [holdE, keyE]), if_pos hl, wrap_unwrap rfl]
theorem aw_key {W : List UInt8} (hl : W.length = 10) (hu : unwrapE 10 [97, 98, 99, 100, 101, 102, 103, 104] W = ([49, 50, 51, 52, 53, 54, 55, 56], 0)) : keyForT [(10, W)] 10 [97, 98, 99, 100, 101, 102, 103, 104] = ([49, 50, 51, 52, 53, 54, 55, 56], 0) := by
  have h : unwrapE 10 [97, 98, 99, 100, 101, 102, 103, 104] W = unwrapT 10 [97, 98, 99, 100, 101, 102, 103, 104] W := by unfold unwrapE; rw [if_pos (by simp [holdE, keyE]), if_pos hl]
  unfold keyForT
  rw [if_pos (by simp [hasF, lbF, fd])]
  exact h.symm.trans hu
theorem aw_file {W : List UInt8} (hl : W.length = 10) (len : Nat) (hle : len ≤ 8192) : fileE [(10, W)] 3 len = 0 := by
  simp [fileE, chkF, fdEs, fdE, fieldE, fd, eachL, hl, hle]
theorem aw_write {W : List UInt8} (hl : W.length = 10) (hu : unwrapE 10 [97, 98, 99, 100, 101, 102, 103, 104] W = ([49, 50, 51, 52, 53, 54, 55, 56], 0)) : ∃ S : List UInt8, writeT [(10, W)] 3 [] 10 [97, 98, 99, 100, 101, 102, 103, 104] 2 [104, 101, 108, 108, 111] = (([(10, W)], 3, S), 0) ∧ readT [(10, W)] 3 S 10 [97, 98, 99, 100, 101, 102, 103, 104] 0 100 = ([0, 0, 104, 101, 108, 108, 111], 0) := by
  have hk := aw_key hl hu
  refine ⟨cryptL [49, 50, 51, 52, 53, 54, 55, 56] (wd 3) 0 [0, 0, 104, 101, 108, 108, 111], ?_, ?_⟩
  · rw [writeT_ok (by simp [writeE, writeE1, aw_file hl, holdE, keyE]) (by rw [hk]) (by simp), hk]
    rfl
  · have hlen : (cryptL [49, 50, 51, 52, 53, 54, 55, 56] (wd 3) 0 [0, 0, 104, 101, 108, 108, 111]).length = 7 := by rw [cryptL_length]; rfl
    have h := readT_ok (fs := [(10, W)]) (nc := 3) (st := cryptL [49, 50, 51, 52, 53, 54, 55, 56] (wd 3) 0 [0, 0, 104, 101, 108, 108, 111]) (u := 10) (own := [97, 98, 99, 100, 101, 102, 103, 104]) (at' := 0) (cnt := 100) (by simp [readE, aw_file hl _ (show (cryptL [49, 50, 51, 52, 53, 54, 55, 56] (wd 3) 0 [0, 0, 104, 101, 108, 108, 111]).length ≤ 8192 by rw [hlen]; omega), holdE, keyE]) (by rw [hk])
    rw [← h, hk]
    simp only [Int.toNat_zero, List.drop_zero, hlen]
    have e : min (100 : Int).toNat 7 = 7 := rfl
    rw [e, List.take_of_length_le (by rw [hlen]; exact Nat.le_refl _), cryptL_twice]
theorem aw_quarter : qof 1 0 0 0 = .tuple #[.agg #[.int .i64 16385, .int .i64 34978, .int .i64 4372, .int .i64 4116], .int .i64 0] := by kernel_rfl
theorem y28 (w : World) (a : Option Addr) (cap : Nat) (W S : List UInt8) (hs : Fl w a [(10, W)]) (hS : writeT [(10, W)] 3 [] 10 [97, 98, 99, 100, 101, 102, 103, 104] 2 [104, 101, 108, 108, 111] = (([(10, W)], 3, S), 0)) :
    Calls Try.prog 28 #[.agg #[.slice a 1 cap, .int .i64 3, .string (bs [])], .agg #[.int .i64 10, .string (bs [97, 98, 99, 100, 101, 102, 103, 104])], .int .i64 2, .string (bs [104, 101, 108, 108, 111])] w fun en w' => ∃ g : Option Addr × Nat, en = .returned (.tuple #[.agg #[.slice g.1 1 g.2, .int .i64 3, .string (bs S)], .int .i64 0]) ∧ True ∧ HS w [] [.own (.slice g.1 1 g.2) 96 2 1 (flatF [(10, W)])] w' := by
  refine Calls.mono (c28 w a cap [(10, W)] 3 [] 10 [97, 98, 99, 100, 101, 102, 103, 104] 2 [104, 101, 108, 108, 111] hs (by simp) (by simp)) fun en w' hh => ?_
  obtain ⟨v, rfl, _, h⟩ := hh
  rw [hS] at h ⊢
  obtain ⟨a', cap', rfl, _⟩ := h.head.form
  exact ⟨(a', cap'), rfl, trivial, h⟩

set_option maxRecDepth 20000 in
theorem c12 (w : World)  : Calls Try.prog 12 #[] w fun en w' => en = .returned (.bool true) ∧ Below w.heap.size w w' := by
  obtain ⟨W, hW, hWl, hU⟩ := aw_wrap
  obtain ⟨S, hS, hR⟩ := aw_write hWl hU
  refine enter (args := []) Try.func12 Try.ntmps12 rfl rfl (HS.refl w []) ?_
  refine s_seq ?_
  refine s_region ?_
  refine o_p (p_pure rfl) rfl ?_
  refine o_nil ?_
  refine s_seq ?_
  refine s_region ?_
  refine o_p (p_build_arr (cs := [_, _, _, _]) rfl rfl ar_22 zr_22 rfl) rfl ?_
  refine o_q (q_call rfl fn_13 rfl (fun w1 h1 => c13 w1 _ _ _ _)) rfl ?_
  rw [aw_quarter]
  refine o_p (p_pure rfl) rfl ?_
  refine o_p (p_pure rfl) rfl ?_
  refine o_p (p_pure rfl) rfl ?_
  refine o_h (h_alloc rfl zr_22) rfl (fun b1 _ => ?_)
  refine o_h0 (h_store rfl rfl rfl sz_22 rfl (by repeat (first | exact .here | apply Put.there)) (by simp only [setMany_length, List.length_set, List.length_cons, List.length_nil, List.length_map]; omega) rfl) (fun _ _ => ?_)
  refine o_p (p_pure rfl) rfl ?_
  refine o_nil ?_
  refine s_seq ?_
  refine s_region ?_
  refine o_p (p_build (cs := [_, _]) rfl rfl pl_31 zr_31 rfl) rfl ?_
  refine o_h (h_alloc rfl zr_31) rfl (fun b2 _ => ?_)
  refine o_h0 (h_store rfl rfl rfl sz_31 rfl (by repeat (first | exact .here | apply Put.there)) (by simp only [setMany_length, List.length_set, List.length_cons, List.length_nil, List.length_map]; omega) rfl) (fun _ _ => ?_)
  refine o_nil ?_
  refine s_seq ?_
  refine s_region ?_
  refine o_q (q_loadn rfl rfl sz_31 (by repeat (first | exact .here | apply Pick.there)) rfl) rfl ?_
  refine o_q (q_call rfl fn_17 rfl (fun w1 h1 => c17 w1 _ _ _)) rfl ?_
  rw [hW]
  refine o_p (p_pure rfl) rfl ?_
  refine o_p (p_pure rfl) rfl ?_
  refine o_p (p_pure rfl) rfl ?_
  refine o_p (p_pure rfl) rfl ?_
  refine o_p (p_pure rfl) rfl ?_
  refine o_nil ?_
  refine s_seq ?_
  refine s_region ?_
  refine o_q (q_loadn rfl rfl sz_31 (by repeat (first | exact .here | apply Pick.there)) rfl) rfl ?_
  refine o_p (p_pure rfl) rfl ?_
  refine o_q (q_call rfl fn_21 rfl (fun w1 h1 => c21 w1 _ _ _)) rfl ?_
  rw [hU]
  refine o_p (p_pure rfl) rfl ?_
  refine o_p (p_pure rfl) rfl ?_
  refine o_p (p_pure rfl) rfl ?_
  refine o_p (p_pure rfl) rfl ?_
  refine o_p (p_pure rfl) rfl ?_
  refine o_nil ?_
  refine s_seq ?_
  refine s_region ?_
  refine o_p (p_pure rfl) rfl ?_
  refine o_p (p_build (cs := [_, _]) rfl rfl pl_96 zr_96 rfl) rfl ?_
  refine o_h (h_buildSlice (cs := [_, _]) rfl rfl sl_41 zr_96 rfl rfl rfl) rfl (fun b3 _ => ?_)
  refine o_p (p_build (cs := [_, _, _]) rfl rfl pl_43 zr_43 rfl) rfl ?_
  refine o_q (q_loadn rfl rfl sz_31 (by repeat (first | exact .here | apply Pick.there)) rfl) rfl ?_
  refine o_h (h_call rfl fn_28 rfl (fun w1 h1 => y28 w1 _ _ W S (h1.sl_blk (by repeat (first | exact .here | apply Pick.there)) (fun i hi => by obtain rfl : i = 0 := (by simpa using hi); exact ⟨rfl, fun j v h => by rw [Nat.zero_mul, Nat.zero_add]; exact h⟩)) hS)) rfl (fun b4 _ => ?_)
  refine o_p (p_pure rfl) rfl ?_
  refine o_p (p_pure rfl) rfl ?_
  refine o_p (p_pure rfl) rfl ?_
  refine o_h (h_alloc rfl zr_43) rfl (fun b5 _ => ?_)
  refine o_h0 (h_store rfl rfl rfl sz_43 rfl (by repeat (first | exact .here | apply Put.there)) (by simp only [setMany_length, List.length_set, List.length_cons, List.length_nil, List.length_map]; omega) rfl) (fun _ _ => ?_)
  refine o_p (p_pure rfl) rfl ?_
  refine o_nil ?_
  refine s_seq ?_
  refine s_region ?_
  refine o_q (q_loadn rfl rfl sz_43 (by repeat (first | exact .here | apply Pick.there)) rfl) rfl ?_
  refine o_q (q_loadn rfl rfl sz_31 (by repeat (first | exact .here | apply Pick.there)) rfl) rfl ?_
  refine o_q (q_call rfl fn_24 rfl (fun w1 h1 => c24 w1 _ _ [(10, W)] 3 S 10 [97, 98, 99, 100, 101, 102, 103, 104] 0 100 (h1.fl (by repeat (first | exact .here | apply Pick.there)) rfl) (by simp))) rfl ?_
  rw [hR]
  refine o_p (p_pure rfl) rfl ?_
  refine o_p (p_pure rfl) rfl ?_
  refine o_p (p_pure rfl) rfl ?_
  refine o_p (p_pure rfl) rfl ?_
  refine o_p (p_pure rfl) rfl ?_
  refine o_nil ?_
  refine s_seq ?_
  refine s_region ?_
  refine o_p (p_pure rfl) rfl ?_
  refine o_p (p_pure rfl) rfl ?_
  refine o_p (p_pure rfl) rfl ?_
  refine o_and 4 46 50 _ _ rfl
    (by
      intro hg6
      have hs7 := hg6; try simp only [decide_eq_true_eq, decide_eq_false_iff_not, Bool.not_eq_true', Bool.not_eq_false', Bool.and_eq_true, Bool.or_eq_true, Bool.and_eq_false_iff, Bool.or_eq_false_iff, Bool.not_true, Bool.not_false] at hs7
      refine o_on 46 _ rfl rfl hg6 ?_
      refine o_q (q_loadn rfl rfl sz_22 (by repeat (first | exact .here | apply Pick.there)) rfl) rfl ?_
      refine o_on 46 _ rfl rfl hg6 ?_
      refine o_p (p_build_arr (cs := [_, _, _, _]) rfl rfl ar_22 zr_22 rfl) rfl ?_
      refine o_on 46 _ rfl rfl hg6 ?_
      refine o_p (p_eql_agg rfl rfl rfl eqk_22 (by rfl) (by rfl) (by rfl)) rfl ?_
      refine o_p (p_pickt rfl rfl hg6 rfl) rfl ?_
      refine o_nil ?_
      exact s_join () (by repeat (first | exact sl_n | refine sl_c rfl ?_)) (fun w h => by first | exact h | exact h.ent (by repeat (first | exact .nil | refine .cons (by repeat (first | exact .here | apply Pick.there)) ?_))))
    (by
      intro hg8
      have hs9 := hg8; try simp only [decide_eq_true_eq, decide_eq_false_iff_not, Bool.not_eq_true', Bool.not_eq_false', Bool.and_eq_true, Bool.or_eq_true, Bool.and_eq_false_iff, Bool.or_eq_false_iff, Bool.not_true, Bool.not_false] at hs9
      refine o_off 46 _ rfl rfl hg8 rfl ?_
      refine o_off 46 _ rfl rfl hg8 rfl ?_
      refine o_off 46 _ rfl rfl hg8 rfl ?_
      refine o_p (p_pickf rfl rfl hg8 rfl) rfl ?_
      refine o_nil ?_
      exact s_join () (by repeat (first | exact sl_n | refine sl_c rfl ?_)) (fun w h => by first | exact h | exact h.ent (by repeat (first | exact .nil | refine .cons (by repeat (first | exact .here | apply Pick.there)) ?_)))) ?_
  refine o_p (p_pure rfl) rfl ?_
  refine o_and 3 51 54 _ _ rfl
    (by
      intro hg10
      have hs11 := hg10; try simp only [decide_eq_true_eq, decide_eq_false_iff_not, Bool.not_eq_true', Bool.not_eq_false', Bool.and_eq_true, Bool.or_eq_true, Bool.and_eq_false_iff, Bool.or_eq_false_iff, Bool.not_true, Bool.not_false] at hs11
      refine o_on 51 _ rfl rfl hg10 ?_
      refine o_p (p_pure rfl) rfl ?_
      refine o_on 51 _ rfl rfl hg10 ?_
      refine o_p (p_pure rfl) rfl ?_
      refine o_p (p_pickt rfl rfl hg10 rfl) rfl ?_
      refine o_nil ?_
      exact s_join () (by repeat (first | exact sl_n | refine sl_c rfl ?_)) (fun w h => by first | exact h | exact h.ent (by repeat (first | exact .nil | refine .cons (by repeat (first | exact .here | apply Pick.there)) ?_))))
    (by
      intro hg12
      have hs13 := hg12; try simp only [decide_eq_true_eq, decide_eq_false_iff_not, Bool.not_eq_true', Bool.not_eq_false', Bool.and_eq_true, Bool.or_eq_true, Bool.and_eq_false_iff, Bool.or_eq_false_iff, Bool.not_true, Bool.not_false] at hs13
      refine o_off 51 _ rfl rfl hg12 rfl ?_
      refine o_off 51 _ rfl rfl hg12 rfl ?_
      refine o_p (p_pickf rfl rfl hg12 rfl) rfl ?_
      refine o_nil ?_
      exact s_join () (by repeat (first | exact sl_n | refine sl_c rfl ?_)) (fun w h => by first | exact h | exact h.ent (by repeat (first | exact .nil | refine .cons (by repeat (first | exact .here | apply Pick.there)) ?_)))) ?_
  refine o_p (p_pure rfl) rfl ?_
  refine o_and 3 55 58 _ _ rfl
    (by
      intro hg14
      have hs15 := hg14; try simp only [decide_eq_true_eq, decide_eq_false_iff_not, Bool.not_eq_true', Bool.not_eq_false', Bool.and_eq_true, Bool.or_eq_true, Bool.and_eq_false_iff, Bool.or_eq_false_iff, Bool.not_true, Bool.not_false] at hs15
      refine o_on 55 _ rfl rfl hg14 ?_
      refine o_p (p_pure rfl) rfl ?_
      refine o_on 55 _ rfl rfl hg14 ?_
      refine o_p (p_pure rfl) rfl ?_
      refine o_p (p_pickt rfl rfl hg14 rfl) rfl ?_
      refine o_nil ?_
      exact s_join () (by repeat (first | exact sl_n | refine sl_c rfl ?_)) (fun w h => by first | exact h | exact h.ent (by repeat (first | exact .nil | refine .cons (by repeat (first | exact .here | apply Pick.there)) ?_))))
    (by
      intro hg16
      have hs17 := hg16; try simp only [decide_eq_true_eq, decide_eq_false_iff_not, Bool.not_eq_true', Bool.not_eq_false', Bool.and_eq_true, Bool.or_eq_true, Bool.and_eq_false_iff, Bool.or_eq_false_iff, Bool.not_true, Bool.not_false] at hs17
      refine o_off 55 _ rfl rfl hg16 rfl ?_
      refine o_off 55 _ rfl rfl hg16 rfl ?_
      refine o_p (p_pickf rfl rfl hg16 rfl) rfl ?_
      refine o_nil ?_
      exact s_join () (by repeat (first | exact sl_n | refine sl_c rfl ?_)) (fun w h => by first | exact h | exact h.ent (by repeat (first | exact .nil | refine .cons (by repeat (first | exact .here | apply Pick.there)) ?_)))) ?_
  refine o_p (p_pure rfl) rfl ?_
  refine o_and 3 59 62 _ _ rfl
    (by
      intro hg18
      have hs19 := hg18; try simp only [decide_eq_true_eq, decide_eq_false_iff_not, Bool.not_eq_true', Bool.not_eq_false', Bool.and_eq_true, Bool.or_eq_true, Bool.and_eq_false_iff, Bool.or_eq_false_iff, Bool.not_true, Bool.not_false] at hs19
      refine o_on 59 _ rfl rfl hg18 ?_
      refine o_p (p_pure rfl) rfl ?_
      refine o_on 59 _ rfl rfl hg18 ?_
      refine o_p (p_pure rfl) rfl ?_
      refine o_p (p_pickt rfl rfl hg18 rfl) rfl ?_
      refine o_nil ?_
      exact s_join () (by repeat (first | exact sl_n | refine sl_c rfl ?_)) (fun w h => by first | exact h | exact h.ent (by repeat (first | exact .nil | refine .cons (by repeat (first | exact .here | apply Pick.there)) ?_))))
    (by
      intro hg20
      have hs21 := hg20; try simp only [decide_eq_true_eq, decide_eq_false_iff_not, Bool.not_eq_true', Bool.not_eq_false', Bool.and_eq_true, Bool.or_eq_true, Bool.and_eq_false_iff, Bool.or_eq_false_iff, Bool.not_true, Bool.not_false] at hs21
      refine o_off 59 _ rfl rfl hg20 rfl ?_
      refine o_off 59 _ rfl rfl hg20 rfl ?_
      refine o_p (p_pickf rfl rfl hg20 rfl) rfl ?_
      refine o_nil ?_
      exact s_join () (by repeat (first | exact sl_n | refine sl_c rfl ?_)) (fun w h => by first | exact h | exact h.ent (by repeat (first | exact .nil | refine .cons (by repeat (first | exact .here | apply Pick.there)) ?_)))) ?_
  refine o_p (p_pure rfl) rfl ?_
  refine o_and 3 63 66 _ _ rfl
    (by
      intro hg22
      have hs23 := hg22; try simp only [decide_eq_true_eq, decide_eq_false_iff_not, Bool.not_eq_true', Bool.not_eq_false', Bool.and_eq_true, Bool.or_eq_true, Bool.and_eq_false_iff, Bool.or_eq_false_iff, Bool.not_true, Bool.not_false] at hs23
      refine o_on 63 _ rfl rfl hg22 ?_
      refine o_p (p_pure rfl) rfl ?_
      refine o_on 63 _ rfl rfl hg22 ?_
      refine o_p (p_pure rfl) rfl ?_
      refine o_p (p_pickt rfl rfl hg22 rfl) rfl ?_
      refine o_nil ?_
      exact s_join () (by repeat (first | exact sl_n | refine sl_c rfl ?_)) (fun w h => by first | exact h | exact h.ent (by repeat (first | exact .nil | refine .cons (by repeat (first | exact .here | apply Pick.there)) ?_))))
    (by
      intro hg24
      have hs25 := hg24; try simp only [decide_eq_true_eq, decide_eq_false_iff_not, Bool.not_eq_true', Bool.not_eq_false', Bool.and_eq_true, Bool.or_eq_true, Bool.and_eq_false_iff, Bool.or_eq_false_iff, Bool.not_true, Bool.not_false] at hs25
      refine o_off 63 _ rfl rfl hg24 rfl ?_
      refine o_off 63 _ rfl rfl hg24 rfl ?_
      refine o_p (p_pickf rfl rfl hg24 rfl) rfl ?_
      refine o_nil ?_
      exact s_join () (by repeat (first | exact sl_n | refine sl_c rfl ?_)) (fun w h => by first | exact h | exact h.ent (by repeat (first | exact .nil | refine .cons (by repeat (first | exact .here | apply Pick.there)) ?_)))) ?_
  refine o_p (p_pure rfl) rfl ?_
  refine o_and 3 67 70 _ _ rfl
    (by
      intro hg26
      have hs27 := hg26; try simp only [decide_eq_true_eq, decide_eq_false_iff_not, Bool.not_eq_true', Bool.not_eq_false', Bool.and_eq_true, Bool.or_eq_true, Bool.and_eq_false_iff, Bool.or_eq_false_iff, Bool.not_true, Bool.not_false] at hs27
      refine o_on 67 _ rfl rfl hg26 ?_
      refine o_p (p_pure rfl) rfl ?_
      refine o_on 67 _ rfl rfl hg26 ?_
      refine o_p (p_pure rfl) rfl ?_
      refine o_p (p_pickt rfl rfl hg26 rfl) rfl ?_
      refine o_nil ?_
      exact s_join () (by repeat (first | exact sl_n | refine sl_c rfl ?_)) (fun w h => by first | exact h | exact h.ent (by repeat (first | exact .nil | refine .cons (by repeat (first | exact .here | apply Pick.there)) ?_))))
    (by
      intro hg28
      have hs29 := hg28; try simp only [decide_eq_true_eq, decide_eq_false_iff_not, Bool.not_eq_true', Bool.not_eq_false', Bool.and_eq_true, Bool.or_eq_true, Bool.and_eq_false_iff, Bool.or_eq_false_iff, Bool.not_true, Bool.not_false] at hs29
      refine o_off 67 _ rfl rfl hg28 rfl ?_
      refine o_off 67 _ rfl rfl hg28 rfl ?_
      refine o_p (p_pickf rfl rfl hg28 rfl) rfl ?_
      refine o_nil ?_
      exact s_join () (by repeat (first | exact sl_n | refine sl_c rfl ?_)) (fun w h => by first | exact h | exact h.ent (by repeat (first | exact .nil | refine .cons (by repeat (first | exact .here | apply Pick.there)) ?_)))) ?_
  refine o_p (p_pure rfl) rfl ?_
  refine o_and 3 71 74 _ _ rfl
    (by
      intro hg30
      have hs31 := hg30; try simp only [decide_eq_true_eq, decide_eq_false_iff_not, Bool.not_eq_true', Bool.not_eq_false', Bool.and_eq_true, Bool.or_eq_true, Bool.and_eq_false_iff, Bool.or_eq_false_iff, Bool.not_true, Bool.not_false] at hs31
      refine o_on 71 _ rfl rfl hg30 ?_
      refine o_p (p_pure rfl) rfl ?_
      refine o_on 71 _ rfl rfl hg30 ?_
      refine o_p (p_pure rfl) rfl ?_
      refine o_p (p_pickt rfl rfl hg30 rfl) rfl ?_
      refine o_nil ?_
      exact s_join () (by repeat (first | exact sl_n | refine sl_c rfl ?_)) (fun w h => by first | exact h | exact h.ent (by repeat (first | exact .nil | refine .cons (by repeat (first | exact .here | apply Pick.there)) ?_))))
    (by
      intro hg32
      have hs33 := hg32; try simp only [decide_eq_true_eq, decide_eq_false_iff_not, Bool.not_eq_true', Bool.not_eq_false', Bool.and_eq_true, Bool.or_eq_true, Bool.and_eq_false_iff, Bool.or_eq_false_iff, Bool.not_true, Bool.not_false] at hs33
      refine o_off 71 _ rfl rfl hg32 rfl ?_
      refine o_off 71 _ rfl rfl hg32 rfl ?_
      refine o_p (p_pickf rfl rfl hg32 rfl) rfl ?_
      refine o_nil ?_
      exact s_join () (by repeat (first | exact sl_n | refine sl_c rfl ?_)) (fun w h => by first | exact h | exact h.ent (by repeat (first | exact .nil | refine .cons (by repeat (first | exact .here | apply Pick.there)) ?_)))) ?_
  refine o_p (p_pure rfl) rfl ?_
  refine o_and 3 75 78 _ _ rfl
    (by
      intro hg34
      have hs35 := hg34; try simp only [decide_eq_true_eq, decide_eq_false_iff_not, Bool.not_eq_true', Bool.not_eq_false', Bool.and_eq_true, Bool.or_eq_true, Bool.and_eq_false_iff, Bool.or_eq_false_iff, Bool.not_true, Bool.not_false] at hs35
      refine o_on 75 _ rfl rfl hg34 ?_
      refine o_p (p_pure rfl) rfl ?_
      refine o_on 75 _ rfl rfl hg34 ?_
      refine o_p (p_pure rfl) rfl ?_
      refine o_p (p_pickt rfl rfl hg34 rfl) rfl ?_
      refine o_nil ?_
      exact s_join () (by repeat (first | exact sl_n | refine sl_c rfl ?_)) (fun w h => by first | exact h | exact h.ent (by repeat (first | exact .nil | refine .cons (by repeat (first | exact .here | apply Pick.there)) ?_))))
    (by
      intro hg36
      have hs37 := hg36; try simp only [decide_eq_true_eq, decide_eq_false_iff_not, Bool.not_eq_true', Bool.not_eq_false', Bool.and_eq_true, Bool.or_eq_true, Bool.and_eq_false_iff, Bool.or_eq_false_iff, Bool.not_true, Bool.not_false] at hs37
      refine o_off 75 _ rfl rfl hg36 rfl ?_
      refine o_off 75 _ rfl rfl hg36 rfl ?_
      refine o_p (p_pickf rfl rfl hg36 rfl) rfl ?_
      refine o_nil ?_
      exact s_join () (by repeat (first | exact sl_n | refine sl_c rfl ?_)) (fun w h => by first | exact h | exact h.ent (by repeat (first | exact .nil | refine .cons (by repeat (first | exact .here | apply Pick.there)) ?_)))) ?_
  refine o_p (p_pure rfl) rfl ?_
  refine o_nil ?_
  exact s_retv (rs := [.tmp 0]) rfl (.tmp rfl (.nil)) (fun w' h' => ⟨by have hne : ¬ W = [49, 50, 51, 52, 53, 54, 55, 56] := (by intro e; rw [e] at hWl; simp at hWl); simp [hne]; rfl, h'.below⟩)

end Go.Proofs
