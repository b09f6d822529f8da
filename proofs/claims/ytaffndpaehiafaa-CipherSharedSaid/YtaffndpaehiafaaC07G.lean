/- Contracts of the program's functions, proved by walking them with the rules of the Gx texts; without conditions beyond those that each contract names. -/
import Derived.Test.YtaffndpaehiafaaC07F
namespace Go.Proofs
open Go Go.RowKit Gx
set_option linter.unusedVariables false
set_option linter.unusedSimpArgs false
attribute [local irreducible] Go.Calls Gx.S Gx.O Gx.D Gx.OpP Gx.OpQ Gx.OpH

theorem sz_31 : tsz Try.prog 31 = some (2, true) := by kernel_rfl
theorem fn_60 : isFn Try.prog 60 = true := by kernel_rfl
theorem fn_62 : isFn Try.prog 62 = true := by kernel_rfl
theorem fn_66 : isFn Try.prog 66 = true := by kernel_rfl


theorem isWd_user {u : Int} {own : List UInt8} (h : holdE u own = 0) : isWd u ∧ own.length = 8 ∧ 10 ≤ u ∧ u ≤ 999 := by
  unfold holdE keyE at h
  split at h
  · split at h
    · exact ⟨⟨by omega, by omega⟩, by omega, by omega, by omega⟩
    · cases h
  · cases h
theorem keyE_ok {key : List UInt8} (h : keyE key = 0) : key.length = 8 := by
  unfold keyE at h
  split at h
  · assumption
  · cases h
theorem firstV_0 (a : Int) (l : List Value) : firstV (.int .i64 a :: l) = if a = 0 then firstV l else a := rfl
theorem firstV_n : firstV [] = 0 := rfl
/-- A key wrapped, or the error. -/
def wrapT (u : Int) (own key : List UInt8) : List UInt8 × Int := if holdE u own = 0 then if keyE key = 0 then (wrapL u own key, 0) else ([], 10) else ([], holdE u own)
def unwrapE (u : Int) (own s : List UInt8) : List UInt8 × Int := if holdE u own = 0 then if s.length = 10 then unwrapT u own s else ([], 10) else ([], holdE u own)
def crypE (key : List UInt8) (n at' : Int) (len : Nat) : Int :=
  if keyE key = 0 then if (0 ≤ n ∧ n ≤ 65535) ∧ 0 ≤ at' ∧ at' ≤ 1048576 then if (len : Int) ≤ 1048576 - at' then 0 else 8 else 2 else 10
def crypT (key : List UInt8) (n at' : Int) (data : List UInt8) : List UInt8 × Int := if crypE key n at' data.length = 0 then (cryptL key (wd n) at'.toNat data, 0) else ([], crypE key n at' data.length)
def blokE (key : List UInt8) (n c : Int) : Int := if keyE key = 0 then if (0 ≤ n ∧ n ≤ 65535) ∧ 0 ≤ c ∧ c ≤ 65535 then 0 else 2 else 10
def blokT (key : List UInt8) (n c : Int) : List UInt8 × Int := if blokE key n c = 0 then (blockB key (wd n) (wd c), 0) else ([], blokE key n c)
def un (b : Bool) (e : Int) : Int := bif b then 0 else e
theorem wrapT_err {u : Int} {own key : List UInt8} (h : ¬ firstV [.int .i64 (holdE u own), .int .i64 (keyE key)] = 0) : ([], firstV [.int .i64 (holdE u own), .int .i64 (keyE key)]) = wrapT u own key := by
  have : keyE key = 0 ∨ keyE key = 10 := by unfold keyE; split <;> simp
  simp only [firstV, wrapT] at *
  grind
theorem unwrapE_err {u : Int} {own s : List UInt8} (h : ¬ firstV [.int .i64 (holdE u own), .int .i64 (bif decide ((s.length : Int) = 10) then 0 else 10)] = 0) : ([], firstV [.int .i64 (holdE u own), .int .i64 (bif decide ((s.length : Int) = 10) then 0 else 10)]) = unwrapE u own s := by
  simp only [firstV, unwrapE, cond_eq_ite, decide_eq_true_eq] at *
  grind
theorem blokE_eq (key : List UInt8) (n c : Int) : firstV [.int .i64 (keyE key), .int .i64 (bif decide (0 ≤ n) && decide (n ≤ 65535) && (decide (0 ≤ c) && decide (c ≤ 65535)) then 0 else 2)] = blokE key n c := by
  have : keyE key = 0 ∨ keyE key = 10 := by unfold keyE; split <;> simp
  simp only [firstV, blokE, cond_eq_ite, decide_eq_true_eq, Bool.and_eq_true] at *
  grind
theorem blokT_err {key : List UInt8} {n c : Int} (h : ¬ blokE key n c = 0) : ([], blokE key n c) = blokT key n c := by
  unfold blokT; rw [if_neg h]
theorem blokT_ok {key : List UInt8} {n c : Int} (h : blokE key n c = 0) : (blockB key (wd n) (wd c), 0) = blokT key n c := by
  unfold blokT; rw [if_pos h]
theorem blokE_0 {key : List UInt8} {n c : Int} (h : blokE key n c = 0) : key.length = 8 ∧ isWd n ∧ isWd c := by
  unfold blokE keyE at h
  unfold isWd
  grind
theorem crypE_1 {key : List UInt8} {n at' : Int} {len : Nat} (h : firstV [.int .i64 (keyE key), .int .i64 (bif decide (0 ≤ n) && decide (n ≤ 65535) && (decide (0 ≤ at') && decide (at' ≤ 1048576)) then 0 else 2)] = 0) :
    (0 ≤ at' ∧ at' ≤ 1048576) ∧ (bif decide ((len : Int) ≤ 1048576 - at') then 0 else 8) = crypE key n at' len := by
  simp only [firstV, crypE, cond_eq_ite, decide_eq_true_eq, Bool.and_eq_true] at *
  grind
theorem crypE_2 {key : List UInt8} {n at' : Int} (len : Nat) (h : ¬ firstV [.int .i64 (keyE key), .int .i64 (bif decide (0 ≤ n) && decide (n ≤ 65535) && (decide (0 ≤ at') && decide (at' ≤ 1048576)) then 0 else 2)] = 0) :
    firstV [.int .i64 (keyE key), .int .i64 (bif decide (0 ≤ n) && decide (n ≤ 65535) && (decide (0 ≤ at') && decide (at' ≤ 1048576)) then 0 else 2)] = crypE key n at' len := by
  have : keyE key = 0 ∨ keyE key = 10 := by unfold keyE; split <;> simp
  simp only [firstV, crypE, cond_eq_ite, decide_eq_true_eq, Bool.and_eq_true] at *
  grind
theorem crypT_err {key : List UInt8} {n at' : Int} {data : List UInt8} (h : ¬ crypE key n at' data.length = 0) : ([], crypE key n at' data.length) = crypT key n at' data := by
  unfold crypT; rw [if_neg h]
theorem crypT_ok {key : List UInt8} {n at' : Int} {data : List UInt8} (h : crypE key n at' data.length = 0) : (cryptL key (wd n) at'.toNat data, 0) = crypT key n at' data := by
  unfold crypT; rw [if_pos h]
theorem crypE_0 {key : List UInt8} {n at' : Int} {len : Nat} (h : crypE key n at' len = 0) : key.length = 8 ∧ isWd n ∧ 0 ≤ at' ∧ at' + len ≤ 1048576 := by
  unfold crypE keyE at h
  unfold isWd
  grind
theorem keyE_or (key : List UInt8) : keyE key = 0 ∨ keyE key = 10 := by unfold keyE; split <;> simp

set_option maxRecDepth 20000 in
theorem c17 (w : World) (u : Int) (own key : List UInt8) : Calls Try.prog 17 #[.agg #[.int .i64 u, .string (bs own)], .string (bs key)] w fun en w' => en = .returned (pairV (wrapT u own key)) ∧ Below w.heap.size w w' := by
  refine enter (args := [_, _]) Try.func17 Try.ntmps17 rfl rfl (HS.refl w []) ?_
  refine s_seq ?_
  refine s_region ?_
  refine o_h (h_box rfl rfl) rfl (fun b1 _ => ?_)
  refine o_p (p_pure rfl) rfl ?_
  refine o_p (p_pure rfl) rfl ?_
  refine o_nil ?_
  refine s_seq ?_
  refine s_seq ?_
  refine s_region ?_
  refine o_q (q_loadn rfl rfl sz_31 (by repeat (first | exact .here | apply Pick.there)) rfl) rfl ?_
  refine o_q (q_call rfl fn_60 rfl (fun w1 h1 => c60 w1 _ _)) rfl ?_
  refine o_p (p_pure rfl) rfl ?_
  refine o_q (q_call rfl fn_61 rfl (fun w1 h1 => c61 w1 _)) rfl ?_
  refine o_h (h_buildSlice (cs := [_, _]) rfl rfl sl_140 zr_24 rfl rfl rfl) rfl (fun b2 _ => ?_)
  refine o_q (q_call rfl fn_59 rfl (fun w1 h1 => f59 h1 (by repeat (first | exact .here | apply Pick.there)) (by rfl) (by rfl) (by decide))) rfl ?_
  refine o_p (p_pure rfl) rfl ?_
  refine o_nil ?_
  refine s_seq ?_
  refine s_region ?_
  refine o_p (p_pure rfl) rfl ?_
  refine o_p (p_pure rfl) rfl ?_
  refine o_nil ?_
  refine s_cond rfl (fun h3 => ?_) (fun h3 => ?_)
  · try simp only [decide_eq_true_eq, decide_eq_false_iff_not, Bool.not_eq_true', Bool.not_eq_false', Bool.and_eq_true, Bool.or_eq_true, Bool.and_eq_false_iff, Bool.or_eq_false_iff, Bool.not_true, Bool.not_false] at h3
    refine s_seq ?_
    refine s_region ?_
    refine o_p (p_pure rfl) rfl ?_
    refine o_p (p_pure rfl) rfl ?_
    refine o_p (p_pure rfl) rfl ?_
    refine o_nil ?_
    exact s_retv (rs := [.tmp 4, .tmp 5]) rfl (.tmp rfl (.tmp rfl (.nil))) (fun w' h' => ⟨by exact congrArg (fun q => Ending.returned (pairV q)) (wrapT_err (by assumption)), h'.below⟩)
  · try simp only [decide_eq_true_eq, decide_eq_false_iff_not, Bool.not_eq_true', Bool.not_eq_false', Bool.and_eq_true, Bool.or_eq_true, Bool.and_eq_false_iff, Bool.or_eq_false_iff, Bool.not_true, Bool.not_false] at h3
    have hw : holdE u own = 0 ∧ keyE key = 0 := by simp only [firstV] at h3; grind
    have hw1 := isWd_user hw.1
    have hw2 := keyE_ok hw.2
    refine s_skip ?_
    refine s_seq ?_
    refine s_region ?_
    refine o_q (q_loadn rfl rfl sz_31 (by repeat (first | exact .here | apply Pick.there)) rfl) rfl ?_
    refine o_p (p_pure rfl) rfl ?_
    refine o_q (q_call rfl fn_62 rfl (fun w1 h1 => c62 w1 _ _ _ hw1.1 hw1.2.1 hw2)) rfl ?_
    refine o_p (p_pure rfl) rfl ?_
    refine o_p (p_pure rfl) rfl ?_
    refine o_nil ?_
    exact s_retv (rs := [.tmp 4, .tmp 5]) rfl (.tmp rfl (.tmp rfl (.nil))) (fun w' h' => ⟨by simp only [wrapT]; rw [if_pos hw.1, if_pos hw.2]; rfl, h'.below⟩)

set_option maxRecDepth 20000 in
theorem c21 (w : World) (u : Int) (own s : List UInt8) : Calls Try.prog 21 #[.agg #[.int .i64 u, .string (bs own)], .string (bs s)] w fun en w' => en = .returned (pairV (unwrapE u own s)) ∧ Below w.heap.size w w' := by
  refine enter (args := [_, _]) Try.func21 Try.ntmps21 rfl rfl (HS.refl w []) ?_
  refine s_seq ?_
  refine s_region ?_
  refine o_h (h_box rfl rfl) rfl (fun b1 _ => ?_)
  refine o_p (p_pure rfl) rfl ?_
  refine o_p (p_pure rfl) rfl ?_
  refine o_nil ?_
  refine s_seq ?_
  refine s_seq ?_
  refine s_region ?_
  refine o_q (q_loadn rfl rfl sz_31 (by repeat (first | exact .here | apply Pick.there)) rfl) rfl ?_
  refine o_q (q_call rfl fn_60 rfl (fun w1 h1 => c60 w1 _ _)) rfl ?_
  refine o_p (p_pure rfl) rfl ?_
  refine o_p (p_len_str rfl rfl Try.underlying9) rfl ?_
  refine o_p (p_pure rfl) rfl ?_
  refine o_q (q_call rfl fn_65 rfl (fun w1 h1 => c65 w1 _ _)) rfl ?_
  refine o_h (h_buildSlice (cs := [_, _]) rfl rfl sl_140 zr_24 rfl rfl rfl) rfl (fun b2 _ => ?_)
  refine o_q (q_call rfl fn_59 rfl (fun w1 h1 => f59 h1 (by repeat (first | exact .here | apply Pick.there)) (by rfl) (by rfl) (by decide))) rfl ?_
  refine o_p (p_pure rfl) rfl ?_
  refine o_nil ?_
  refine s_seq ?_
  refine s_region ?_
  refine o_p (p_pure rfl) rfl ?_
  refine o_p (p_pure rfl) rfl ?_
  refine o_nil ?_
  refine s_cond rfl (fun h3 => ?_) (fun h3 => ?_)
  · try simp only [decide_eq_true_eq, decide_eq_false_iff_not, Bool.not_eq_true', Bool.not_eq_false', Bool.and_eq_true, Bool.or_eq_true, Bool.and_eq_false_iff, Bool.or_eq_false_iff, Bool.not_true, Bool.not_false] at h3
    refine s_seq ?_
    refine s_region ?_
    refine o_p (p_pure rfl) rfl ?_
    refine o_p (p_pure rfl) rfl ?_
    refine o_p (p_pure rfl) rfl ?_
    refine o_nil ?_
    exact s_retv (rs := [.tmp 4, .tmp 5]) rfl (.tmp rfl (.tmp rfl (.nil))) (fun w' h' => ⟨by exact congrArg (fun q => Ending.returned (pairV q)) (unwrapE_err (by assumption)), h'.below⟩)
  · try simp only [decide_eq_true_eq, decide_eq_false_iff_not, Bool.not_eq_true', Bool.not_eq_false', Bool.and_eq_true, Bool.or_eq_true, Bool.and_eq_false_iff, Bool.or_eq_false_iff, Bool.not_true, Bool.not_false] at h3
    have hw : holdE u own = 0 ∧ s.length = 10 := by simp only [firstV] at h3; grind
    have hw1 := isWd_user hw.1
    refine s_skip ?_
    refine s_seq ?_
    refine s_region ?_
    refine o_q (q_loadn rfl rfl sz_31 (by repeat (first | exact .here | apply Pick.there)) rfl) rfl ?_
    refine o_p (p_pure rfl) rfl ?_
    refine o_q (q_call rfl fn_66 rfl (fun w1 h1 => c66 w1 _ _ _ hw1.1 hw1.2.1 hw.2)) rfl ?_
    refine o_p (p_pure rfl) rfl ?_
    refine o_p (p_pure rfl) rfl ?_
    refine o_p (p_pure rfl) rfl ?_
    refine o_p (p_pure rfl) rfl ?_
    refine o_nil ?_
    exact s_retv (rs := [.tmp 4, .tmp 5]) rfl (.tmp rfl (.tmp rfl (.nil))) (fun w' h' => ⟨by simp only [unwrapE]; rw [if_pos hw.1, if_pos hw.2]; rfl, h'.below⟩)

set_option maxRecDepth 20000 in
theorem c33 (w : World) (key : List UInt8) (n c : Int) : Calls Try.prog 33 #[.string (bs key), .int .i64 n, .int .i64 c] w fun en w' => en = .returned (pairV (blokT key n c)) ∧ Below w.heap.size w w' := by
  refine enter (args := [_, _, _]) Try.func33 Try.ntmps33 rfl rfl (HS.refl w []) ?_
  refine s_seq ?_
  refine s_region ?_
  refine o_p (p_pure rfl) rfl ?_
  refine o_p (p_pure rfl) rfl ?_
  refine o_nil ?_
  refine s_seq ?_
  refine s_seq ?_
  refine s_region ?_
  refine o_p (p_pure rfl) rfl ?_
  refine o_q (q_call rfl fn_61 rfl (fun w1 h1 => c61 w1 _)) rfl ?_
  refine o_p (p_pure rfl) rfl ?_
  refine o_q (q_call rfl fn_55 rfl (fun w1 h1 => c55 w1 _)) rfl ?_
  refine o_p (p_pure rfl) rfl ?_
  refine o_and 3 13 16 _ _ rfl
    (by
      intro hg1
      have hs2 := hg1; try simp only [decide_eq_true_eq, decide_eq_false_iff_not, Bool.not_eq_true', Bool.not_eq_false', Bool.and_eq_true, Bool.or_eq_true, Bool.and_eq_false_iff, Bool.or_eq_false_iff, Bool.not_true, Bool.not_false] at hs2
      refine o_on 13 _ rfl rfl hg1 ?_
      refine o_p (p_pure rfl) rfl ?_
      refine o_on 13 _ rfl rfl hg1 ?_
      refine o_q (q_call rfl fn_55 rfl (fun w1 h1 => c55 w1 _)) rfl ?_
      refine o_p (p_pickt rfl rfl hg1 rfl) rfl ?_
      refine o_nil ?_
      exact s_join () (by repeat (first | exact sl_n | refine sl_c rfl ?_)) (fun w h => by first | exact h | exact h.ent (by repeat (first | exact .nil | refine .cons (by repeat (first | exact .here | apply Pick.there)) ?_))))
    (by
      intro hg3
      have hs4 := hg3; try simp only [decide_eq_true_eq, decide_eq_false_iff_not, Bool.not_eq_true', Bool.not_eq_false', Bool.and_eq_true, Bool.or_eq_true, Bool.and_eq_false_iff, Bool.or_eq_false_iff, Bool.not_true, Bool.not_false] at hs4
      refine o_off 13 _ rfl rfl hg3 rfl ?_
      refine o_off 13 _ rfl rfl hg3 rfl ?_
      refine o_p (p_pickf rfl rfl hg3 rfl) rfl ?_
      refine o_nil ?_
      exact s_join () (by repeat (first | exact sl_n | refine sl_c rfl ?_)) (fun w h => by first | exact h | exact h.ent (by repeat (first | exact .nil | refine .cons (by repeat (first | exact .here | apply Pick.there)) ?_)))) ?_
  refine o_q (q_call rfl fn_65 rfl (fun w1 h1 => c65 w1 _ _)) rfl ?_
  refine o_h (h_buildSlice (cs := [_, _]) rfl rfl sl_140 zr_24 rfl rfl rfl) rfl (fun b5 _ => ?_)
  refine o_q (q_call rfl fn_59 rfl (fun w1 h1 => f59 h1 (by repeat (first | exact .here | apply Pick.there)) (by rfl) (by rfl) (by decide))) rfl ?_
  rw [blokE_eq]
  refine o_p (p_pure rfl) rfl ?_
  refine o_nil ?_
  refine s_seq ?_
  refine s_region ?_
  refine o_p (p_pure rfl) rfl ?_
  refine o_p (p_pure rfl) rfl ?_
  refine o_nil ?_
  refine s_cond rfl (fun h6 => ?_) (fun h6 => ?_)
  · try simp only [decide_eq_true_eq, decide_eq_false_iff_not, Bool.not_eq_true', Bool.not_eq_false', Bool.and_eq_true, Bool.or_eq_true, Bool.and_eq_false_iff, Bool.or_eq_false_iff, Bool.not_true, Bool.not_false] at h6
    refine s_seq ?_
    refine s_region ?_
    refine o_p (p_pure rfl) rfl ?_
    refine o_p (p_pure rfl) rfl ?_
    refine o_p (p_pure rfl) rfl ?_
    refine o_nil ?_
    exact s_retv (rs := [.tmp 6, .tmp 7]) rfl (.tmp rfl (.tmp rfl (.nil))) (fun w' h' => ⟨by exact congrArg (fun q => Ending.returned (pairV q)) (blokT_err (by assumption)), h'.below⟩)
  · try simp only [decide_eq_true_eq, decide_eq_false_iff_not, Bool.not_eq_true', Bool.not_eq_false', Bool.and_eq_true, Bool.or_eq_true, Bool.and_eq_false_iff, Bool.or_eq_false_iff, Bool.not_true, Bool.not_false] at h6
    have hw := blokE_0 h6
    refine s_skip ?_
    refine s_seq ?_
    refine s_region ?_
    refine o_p (p_pure rfl) rfl ?_
    refine o_p (p_pure rfl) rfl ?_
    refine o_p (p_pure rfl) rfl ?_
    refine o_h (h_call rfl fn_75 rfl (fun w1 h1 => x75 w1 key n c hw.1 hw.2.1 hw.2.2)) rfl (fun gb hgb => ?_)
    first | refine o_q (q_string_own rfl rfl Try.underlying113 Try.underlying9 Try.underlying5 (by repeat (first | exact .here | apply Pick.there)) (isU8_bv _)) rfl ?_ | refine o_q (q_string_blk rfl rfl Try.underlying113 Try.underlying9 Try.underlying5 (by repeat (first | exact .here | apply Pick.there)) (by simp [blockB_length]) (isU8_bv _)) rfl ?_
    refine o_p (p_pure rfl) rfl ?_
    refine o_p (p_pure rfl) rfl ?_
    refine o_nil ?_
    exact s_retv (rs := [.tmp 6, .tmp 7]) rfl (.tmp rfl (.tmp rfl (.nil))) (fun w' h' => ⟨by simp only [vByte_bv]; exact congrArg (fun q => Ending.returned (pairV q)) (blokT_ok (by assumption)), h'.below⟩)

set_option maxRecDepth 20000 in
theorem c31 (w : World) (key : List UInt8) (n at' : Int) (data : List UInt8) : Calls Try.prog 31 #[.string (bs key), .int .i64 n, .int .i64 at', .string (bs data)] w fun en w' => en = .returned (pairV (crypT key n at' data)) ∧ Below w.heap.size w w' := by
  refine enter (args := [_, _, _, _]) Try.func31 Try.ntmps31 rfl rfl (HS.refl w []) ?_
  refine s_seq ?_
  refine s_region ?_
  refine o_p (p_pure rfl) rfl ?_
  refine o_p (p_pure rfl) rfl ?_
  refine o_nil ?_
  refine s_seq ?_
  refine s_region ?_
  refine o_p (p_pure rfl) rfl ?_
  refine o_q (q_call rfl fn_61 rfl (fun w1 h1 => c61 w1 _)) rfl ?_
  refine o_p (p_pure rfl) rfl ?_
  refine o_q (q_call rfl fn_55 rfl (fun w1 h1 => c55 w1 _)) rfl ?_
  refine o_p (p_pure rfl) rfl ?_
  refine o_and 3 15 18 _ _ rfl
    (by
      intro hg1
      have hs2 := hg1; try simp only [decide_eq_true_eq, decide_eq_false_iff_not, Bool.not_eq_true', Bool.not_eq_false', Bool.and_eq_true, Bool.or_eq_true, Bool.and_eq_false_iff, Bool.or_eq_false_iff, Bool.not_true, Bool.not_false] at hs2
      refine o_on 15 _ rfl rfl hg1 ?_
      refine o_p (p_pure rfl) rfl ?_
      refine o_on 15 _ rfl rfl hg1 ?_
      refine o_q (q_call rfl fn_68 rfl (fun w1 h1 => c68 w1 _ _ _)) rfl ?_
      refine o_p (p_pickt rfl rfl hg1 rfl) rfl ?_
      refine o_nil ?_
      exact s_join () (by repeat (first | exact sl_n | refine sl_c rfl ?_)) (fun w h => by first | exact h | exact h.ent (by repeat (first | exact .nil | refine .cons (by repeat (first | exact .here | apply Pick.there)) ?_))))
    (by
      intro hg3
      have hs4 := hg3; try simp only [decide_eq_true_eq, decide_eq_false_iff_not, Bool.not_eq_true', Bool.not_eq_false', Bool.and_eq_true, Bool.or_eq_true, Bool.and_eq_false_iff, Bool.or_eq_false_iff, Bool.not_true, Bool.not_false] at hs4
      refine o_off 15 _ rfl rfl hg3 rfl ?_
      refine o_off 15 _ rfl rfl hg3 rfl ?_
      refine o_p (p_pickf rfl rfl hg3 rfl) rfl ?_
      refine o_nil ?_
      exact s_join () (by repeat (first | exact sl_n | refine sl_c rfl ?_)) (fun w h => by first | exact h | exact h.ent (by repeat (first | exact .nil | refine .cons (by repeat (first | exact .here | apply Pick.there)) ?_)))) ?_
  refine o_q (q_call rfl fn_65 rfl (fun w1 h1 => c65 w1 _ _)) rfl ?_
  refine o_h (h_buildSlice (cs := [_, _]) rfl rfl sl_140 zr_24 rfl rfl rfl) rfl (fun b5 _ => ?_)
  refine o_q (q_call rfl fn_59 rfl (fun w1 h1 => f59 h1 (by repeat (first | exact .here | apply Pick.there)) (by rfl) (by rfl) (by decide))) rfl ?_
  refine o_p (p_pure rfl) rfl ?_
  refine o_nil ?_
  refine s_seq ?_
  refine s_seq ?_
  refine s_region ?_
  refine o_p (p_pure rfl) rfl ?_
  refine o_p (p_pure rfl) rfl ?_
  refine o_nil ?_
  refine s_cutI (α := Unit) [10, 24, 25, 26, 27, 28, 29] (fun _ => [(10, .int .i64 (crypE key n at' data.length))]) (fun _ => HS w [] []) (fun _ => True) ?_ ?_
  · skip
    refine s_cond rfl (fun h6 => ?_) (fun h6 => ?_)
    · try simp only [decide_eq_true_eq, decide_eq_false_iff_not, Bool.not_eq_true', Bool.not_eq_false', Bool.and_eq_true, Bool.or_eq_true, Bool.and_eq_false_iff, Bool.or_eq_false_iff, Bool.not_true, Bool.not_false] at h6
      have hat := (crypE_1 (len := data.length) h6).1
      refine s_region ?_
      refine o_p (p_pure rfl) rfl ?_
      refine o_p (p_len_str rfl rfl Try.underlying9) rfl ?_
      refine o_p (p_pure rfl) rfl ?_
      refine o_p (p_pure rfl) rfl ?_
      try (refine o_slot (i64w (by omega) (by omega)) ?_)
      refine o_p (p_pure rfl) rfl ?_
      refine o_q (q_call rfl fn_65 rfl (fun w1 h1 => c65 w1 _ _)) rfl ?_
      refine o_p (p_pure rfl) rfl ?_
      refine o_nil ?_
      exact s_joinI () trivial (sl_c (congrArg (fun e => some (Value.int .i64 e)) (crypE_1 (len := data.length) h6).2) (by repeat (first | exact sl_n | refine sl_c rfl ?_))) (fun w h => h.ent (by repeat (first | exact .nil | refine .cons (by repeat (first | exact .here | apply Pick.there)) ?_)))
    · try simp only [decide_eq_true_eq, decide_eq_false_iff_not, Bool.not_eq_true', Bool.not_eq_false', Bool.and_eq_true, Bool.or_eq_true, Bool.and_eq_false_iff, Bool.or_eq_false_iff, Bool.not_true, Bool.not_false] at h6
      refine s_skip ?_
      exact s_joinI () trivial (sl_c (congrArg (fun e => some (Value.int .i64 e)) (crypE_2 data.length h6)) (by repeat (first | exact sl_n | refine sl_c rfl ?_))) (fun w h => h.ent (by repeat (first | exact .nil | refine .cons (by repeat (first | exact .here | apply Pick.there)) ?_)))
  · intro _ _
    refine s_seq ?_
    refine s_seq ?_
    refine s_region ?_
    refine o_p (p_pure rfl) rfl ?_
    refine o_p (p_pure rfl) rfl ?_
    refine o_nil ?_
    refine s_cond rfl (fun h7 => ?_) (fun h7 => ?_)
    · try simp only [decide_eq_true_eq, decide_eq_false_iff_not, Bool.not_eq_true', Bool.not_eq_false', Bool.and_eq_true, Bool.or_eq_true, Bool.and_eq_false_iff, Bool.or_eq_false_iff, Bool.not_true, Bool.not_false] at h7
      refine s_seq ?_
      refine s_region ?_
      refine o_p (p_pure rfl) rfl ?_
      refine o_p (p_pure rfl) rfl ?_
      refine o_p (p_pure rfl) rfl ?_
      refine o_nil ?_
      exact s_retv (rs := [.tmp 8, .tmp 9]) rfl (.tmp rfl (.tmp rfl (.nil))) (fun w' h' => ⟨by exact congrArg (fun q => Ending.returned (pairV q)) (crypT_err (by assumption)), h'.below⟩)
    · try simp only [decide_eq_true_eq, decide_eq_false_iff_not, Bool.not_eq_true', Bool.not_eq_false', Bool.and_eq_true, Bool.or_eq_true, Bool.and_eq_false_iff, Bool.or_eq_false_iff, Bool.not_true, Bool.not_false] at h7
      have hw := crypE_0 h7
      refine s_skip ?_
      refine s_seq ?_
      refine s_region ?_
      refine o_p (p_pure rfl) rfl ?_
      refine o_p (p_pure rfl) rfl ?_
      refine o_p (p_pure rfl) rfl ?_
      refine o_p (p_pure rfl) rfl ?_
      refine o_q (q_call rfl fn_70 rfl (fun w1 h1 => c70i w1 key n at' data hw.1 hw.2.1 hw.2.2.1 hw.2.2.2)) rfl ?_
      refine o_p (p_pure rfl) rfl ?_
      refine o_p (p_pure rfl) rfl ?_
      refine o_nil ?_
      exact s_retv (rs := [.tmp 8, .tmp 9]) rfl (.tmp rfl (.tmp rfl (.nil))) (fun w' h' => ⟨by exact congrArg (fun q => Ending.returned (pairV q)) (crypT_ok (by assumption)), h'.below⟩)

end Go.Proofs
