/- Contracts of the program's functions, proved by walking them with the rules of the Gx texts; without conditions beyond those that each contract names. -/
import Derived.Test.YtgdigngojonbhaaC25A
namespace Go.Proofs
open Go Go.RowKit Gx
set_option linter.unusedVariables false
set_option linter.unusedSimpArgs false
attribute [local irreducible] Go.Calls Gx.S Gx.O Gx.D Gx.OpP Gx.OpQ Gx.OpH

theorem fd_42_0 : tfd Try.prog 42 0 = some (0, 3) := by kernel_rfl
theorem sz_3 : tsz Try.prog 3 = some (1, false) := by kernel_rfl
theorem fn_49 : isFn Try.prog 49 = true := by kernel_rfl
theorem fd_42_1 : tfd Try.prog 42 1 = some (1, 3) := by kernel_rfl
theorem fn_48 : isFn Try.prog 48 = true := by kernel_rfl
theorem fn_16 : isFn Try.prog 16 = true := by kernel_rfl
theorem fd_48_1 : tfd Try.prog 48 1 = some (1, 3) := by kernel_rfl
theorem fd_48_2 : tfd Try.prog 48 2 = some (2, 3) := by kernel_rfl
theorem fn_104 : isFn Try.prog 104 = true := by kernel_rfl
theorem fn_71 : isFn Try.prog 71 = true := by kernel_rfl
theorem fn_64 : isFn Try.prog 64 = true := by kernel_rfl
theorem fd_62_0 : tfd Try.prog 62 0 = some (0, 3) := by kernel_rfl
theorem fd_62_1 : tfd Try.prog 62 1 = some (1, 3) := by kernel_rfl
theorem fn_124 : isFn Try.prog 124 = true := by kernel_rfl
theorem fd_62_2 : tfd Try.prog 62 2 = some (2, 4) := by kernel_rfl
theorem sz_4 : tsz Try.prog 4 = some (1, false) := by kernel_rfl
theorem fn_79 : isFn Try.prog 79 = true := by kernel_rfl
theorem fn_119 : isFn Try.prog 119 = true := by kernel_rfl
theorem sl_38 : tsl Try.prog 38 = some (3, 1, 8) := by kernel_rfl
theorem fn_91 : isFn Try.prog 91 = true := by kernel_rfl
theorem fn_90 : isFn Try.prog 90 = true := by kernel_rfl
theorem mixed : Try.prog.follows .mixedOrders = true := by kernel_rfl
theorem zr_3 : tzero Try.prog 3 = some [.int .i64 0] := by kernel_rfl


def cmpI (x y : Int) : Int := if x < y then -1 else if y < x then 1 else 0
def cmp2 (a b : Int × Int) : Int := firstI [cmpI a.1 b.1, cmpI a.2 b.2]
theorem cmp2_lt (a b : Int × Int) : decide (cmp2 a b < 0) = refLt a b := by
  unfold cmp2 refLt
  simp only [firstI, cmpI]
  repeat' split
  all_goals first
    | (simp; omega)
    | (simp; done)
    | grind
theorem cmp2_eq (a b : Int × Int) : cmp2 a b = 0 ↔ a = b := by
  obtain ⟨a1, a2⟩ := a
  obtain ⟨b1, b2⟩ := b
  unfold cmp2
  simp only [firstI, cmpI, Prod.mk.injEq]
  repeat' split
  all_goals first
    | omega
    | (simp; omega)
theorem rngE_r {fr cnt : Int} (h : rngE fr cnt = 0) : 0 ≤ fr ∧ fr ≤ 2147483647 ∧ 1 ≤ cnt ∧ cnt ≤ 2147483647 - fr := by
  unfold rngE at h
  split at h
  · omega
  · cases h
theorem openE_r {ac sh : Int} (h : openE ac sh = 0) : 1 ≤ ac ∧ ac ≤ 7 ∧ 0 ≤ sh ∧ sh ≤ 7 := by
  unfold openE at h
  split at h
  · omega
  · cases h
theorem not_all : ((List.range 8).all fun n => (List.range 8).all fun m => ((!decide (bits .andNot .i64 (n : Int) (m : Int) = 0)) == missN n m)) = true := by decide +kernel
theorem andNot_8 {x y : Int} (hx : 0 ≤ x ∧ x ≤ 7) (hy : 0 ≤ y ∧ y ≤ 7) : (!decide (bits .andNot .i64 x y = 0)) = missN x.toNat y.toNat := by
  have h := not_all
  rw [List.all_eq_true] at h
  have h1 := h x.toNat (List.mem_range.2 (by omega))
  rw [List.all_eq_true] at h1
  have h2 := h1 y.toNat (List.mem_range.2 (by omega))
  rw [Int.toNat_of_nonneg hx.1, Int.toNat_of_nonneg hy.1] at h2
  exact eq_of_beq h2
theorem has_all : ((List.range 8).all fun n => ([1, 2, 4] : List Nat).all fun m => (decide ((n : Int) / (m : Int) % 2 = 1) == decide (n / m % 2 = 1))) = true := by decide +kernel
def hasB (x : Int) (m : Nat) : Bool := decide (x.toNat / m % 2 = 1)
theorem has_8 {x : Int} (hx : 0 ≤ x ∧ x ≤ 7) {m : Nat} (hm : m = 1 ∨ m = 2 ∨ m = 4) : decide (x / (m : Int) % 2 = 1) = hasB x m := by
  have h := has_all
  rw [List.all_eq_true] at h
  have h1 := h x.toNat (List.mem_range.2 (by omega))
  rw [List.all_eq_true] at h1
  have h2 := h1 m (by rcases hm with rfl | rfl | rfl <;> simp)
  rw [Int.toNat_of_nonneg hx.1] at h2
  exact eq_of_beq h2
theorem miss_has (x y : Int) : missN x.toNat y.toNat = ((hasB x 1 && !hasB y 1) || (hasB x 2 && !hasB y 2) || (hasB x 4 && !hasB y 4)) := by
  unfold missN hasB
  rw [Nat.div_one, Nat.div_one]
  have e : ∀ n m : Nat, decide (n % 2 = 1 ∧ m % 2 = 0) = (decide (n % 2 = 1) && !decide (m % 2 = 1)) := fun n m => by
    rcases Nat.mod_two_eq_zero_or_one n with h | h <;> rcases Nat.mod_two_eq_zero_or_one m with h2 | h2 <;> simp [h, h2]
  rw [e, e, e]
def pk3 : Nat → Int
  | 0 => 1
  | 1 => 2
  | 2 => 4
  | _ => 8

set_option maxRecDepth 20000 in
theorem c55 (w : World) (rc sq : Int) : Calls Try.prog 55 #[.agg #[.int .i64 rc, .int .i64 sq]] w fun en w' => en = .returned (.int .i64 (refE rc sq)) ∧ Below w.heap.size w w' := by
  refine enter (args := [_]) Try.func55 Try.ntmps55 rfl rfl (HS.refl w []) ?_
  refine s_seq ?_
  refine s_region ?_
  refine o_h (h_box rfl rfl) rfl (fun b1 _ => ?_)
  refine o_p (p_pure rfl) rfl ?_
  refine o_nil ?_
  refine s_seq ?_
  refine s_region ?_
  refine o_p (p_fieldAddr rfl rfl fd_42_0 sz_3 rfl) rfl ?_
  refine o_q (q_load rfl rfl sz_3 (by repeat (first | exact .here | apply Pick.there)) rfl) rfl ?_
  refine o_q (q_call rfl fn_49 rfl (fun w1 h1 => c49 w1 _ _ _)) rfl ?_
  refine o_p (p_pure rfl) rfl ?_
  refine o_and 4 6 10 _ _ rfl
    (by
      intro hg2
      have hs3 := hg2; try simp only [decide_eq_true_eq, decide_eq_false_iff_not, Bool.not_eq_true', Bool.not_eq_false', Bool.and_eq_true, Bool.or_eq_true, Bool.and_eq_false_iff, Bool.or_eq_false_iff, Bool.not_true, Bool.not_false] at hs3
      refine o_on 6 _ rfl rfl hg2 ?_
      refine o_p (p_fieldAddr rfl rfl fd_42_1 sz_3 rfl) rfl ?_
      refine o_on 6 _ rfl rfl hg2 ?_
      refine o_q (q_load rfl rfl sz_3 (by repeat (first | exact .here | apply Pick.there)) rfl) rfl ?_
      refine o_on 6 _ rfl rfl hg2 ?_
      refine o_q (q_call rfl fn_49 rfl (fun w1 h1 => c49 w1 _ _ _)) rfl ?_
      refine o_p (p_pickt rfl rfl hg2 rfl) rfl ?_
      refine o_nil ?_
      exact s_joinN 4 10 _ rfl rfl rfl (fun w h => by first | exact h | exact h.ent (by repeat (first | exact .nil | refine .cons (by repeat (first | exact .here | apply Pick.there)) ?_))))
    (by
      intro hg4
      have hs5 := hg4; try simp only [decide_eq_true_eq, decide_eq_false_iff_not, Bool.not_eq_true', Bool.not_eq_false', Bool.and_eq_true, Bool.or_eq_true, Bool.and_eq_false_iff, Bool.or_eq_false_iff, Bool.not_true, Bool.not_false] at hs5
      refine o_off 6 _ rfl rfl hg4 rfl ?_
      refine o_off 6 _ rfl rfl hg4 rfl ?_
      refine o_off 6 _ rfl rfl hg4 rfl ?_
      refine o_p (p_pickf rfl rfl hg4 rfl) rfl ?_
      refine o_nil ?_
      exact s_joinN 4 10 _ rfl rfl rfl (fun w h => by first | exact h | exact h.ent (by repeat (first | exact .nil | refine .cons (by repeat (first | exact .here | apply Pick.there)) ?_)))) ?_
  refine o_q (q_call rfl fn_48 rfl (fun w1 h1 => c48 w1 _ _)) rfl ?_
  refine o_p (p_pure rfl) rfl ?_
  refine o_nil ?_
  exact s_retv (rs := [.tmp 2]) rfl (.tmp rfl (.nil)) (fun w' h' => ⟨by simp only [retV, refE]; grind, h'.below⟩)

set_option maxRecDepth 20000 in
theorem c32 (w : World) (rc sq : Int) : Calls Try.prog 32 #[.agg #[.int .i64 rc, .int .i64 sq]] w fun en w' => en = .returned (.int .i64 (refE rc sq)) ∧ Below w.heap.size w w' := by
  refine enter (args := [_]) Try.func32 Try.ntmps32 rfl rfl (HS.refl w []) ?_
  refine s_seq ?_
  refine s_region ?_
  refine o_h (h_box rfl rfl) rfl (fun b1 _ => ?_)
  refine o_p (p_pure rfl) rfl ?_
  refine o_nil ?_
  refine s_seq ?_
  refine s_seq ?_
  refine s_region ?_
  refine o_p (p_fieldAddr rfl rfl fd_42_0 sz_3 rfl) rfl ?_
  refine o_q (q_load rfl rfl sz_3 (by repeat (first | exact .here | apply Pick.there)) rfl) rfl ?_
  refine o_q (q_call rfl fn_16 rfl (fun w1 h1 => c16 w1 _ _ _)) rfl ?_
  refine o_p (p_pure rfl) rfl ?_
  refine o_p (p_pure rfl) rfl ?_
  refine o_or 5 7 12 _ _ rfl
    (by
      intro hg2
      have hs3 := hg2; try simp only [decide_eq_true_eq, decide_eq_false_iff_not, Bool.not_eq_true', Bool.not_eq_false', Bool.and_eq_true, Bool.or_eq_true, Bool.and_eq_false_iff, Bool.or_eq_false_iff, Bool.not_true, Bool.not_false] at hs3
      refine o_on 7 _ rfl rfl hg2 ?_
      refine o_p (p_fieldAddr rfl rfl fd_42_1 sz_3 rfl) rfl ?_
      refine o_on 7 _ rfl rfl hg2 ?_
      refine o_q (q_load rfl rfl sz_3 (by repeat (first | exact .here | apply Pick.there)) rfl) rfl ?_
      refine o_on 7 _ rfl rfl hg2 ?_
      refine o_q (q_call rfl fn_16 rfl (fun w1 h1 => c16 w1 _ _ _)) rfl ?_
      refine o_on 7 _ rfl rfl hg2 ?_
      refine o_p (p_pure rfl) rfl ?_
      refine o_p (p_pickf rfl rfl hg2 rfl) rfl ?_
      refine o_nil ?_
      exact s_joinN 5 12 _ rfl rfl rfl (fun w h => by first | exact h | exact h.ent (by repeat (first | exact .nil | refine .cons (by repeat (first | exact .here | apply Pick.there)) ?_))))
    (by
      intro hg4
      have hs5 := hg4; try simp only [decide_eq_true_eq, decide_eq_false_iff_not, Bool.not_eq_true', Bool.not_eq_false', Bool.and_eq_true, Bool.or_eq_true, Bool.and_eq_false_iff, Bool.or_eq_false_iff, Bool.not_true, Bool.not_false] at hs5
      refine o_off 7 _ rfl rfl hg4 rfl ?_
      refine o_off 7 _ rfl rfl hg4 rfl ?_
      refine o_off 7 _ rfl rfl hg4 rfl ?_
      refine o_off 7 _ rfl rfl hg4 rfl ?_
      refine o_p (p_pickt rfl rfl hg4 rfl) rfl ?_
      refine o_nil ?_
      exact s_joinN 5 12 _ rfl rfl rfl (fun w h => by first | exact h | exact h.ent (by repeat (first | exact .nil | refine .cons (by repeat (first | exact .here | apply Pick.there)) ?_)))) ?_
  refine o_nil ?_
  refine s_cond rfl (fun h6 => ?_) (fun h6 => ?_)
  · try simp only [decide_eq_true_eq, decide_eq_false_iff_not, Bool.not_eq_true', Bool.not_eq_false', Bool.and_eq_true, Bool.or_eq_true, Bool.and_eq_false_iff, Bool.or_eq_false_iff, Bool.not_true, Bool.not_false] at h6
    refine s_seq ?_
    refine s_region ?_
    refine o_p (p_pure rfl) rfl ?_
    refine o_nil ?_
    exact s_retv (rs := [.tmp 2]) rfl (.tmp rfl (.nil)) (fun w' h' => ⟨by simp only [retV, refE]; grind, h'.below⟩)
  · try simp only [decide_eq_true_eq, decide_eq_false_iff_not, Bool.not_eq_true', Bool.not_eq_false', Bool.and_eq_true, Bool.or_eq_true, Bool.and_eq_false_iff, Bool.or_eq_false_iff, Bool.not_true, Bool.not_false] at h6
    refine s_skip ?_
    refine s_seq ?_
    refine s_region ?_
    refine o_p (p_pure rfl) rfl ?_
    refine o_nil ?_
    exact s_retv (rs := [.tmp 2]) rfl (.tmp rfl (.nil)) (fun w' h' => ⟨by simp only [retV, refE]; grind, h'.below⟩)

set_option maxRecDepth 20000 in
theorem c62 (w : World) (o : LOpn) : Calls Try.prog 62 #[.agg #[.int .i64 o.hd, .int .i64 o.ac, .int .i64 o.sh, .bool o.dl, .slice o.la o.lk.length o.lc]] w fun en w' => en = .returned (.int .i64 (openE o.ac o.sh)) ∧ Below w.heap.size w w' := by
  refine enter (args := [_]) Try.func62 Try.ntmps62 rfl rfl (HS.refl w []) ?_
  refine s_seq ?_
  refine s_region ?_
  refine o_h (h_box rfl rfl) rfl (fun b1 _ => ?_)
  refine o_p (p_pure rfl) rfl ?_
  refine o_nil ?_
  refine s_seq ?_
  refine s_region ?_
  refine o_p (p_fieldAddr rfl rfl fd_48_1 sz_3 rfl) rfl ?_
  refine o_q (q_load rfl rfl sz_3 (by repeat (first | exact .here | apply Pick.there)) rfl) rfl ?_
  refine o_q (q_call rfl fn_49 rfl (fun w1 h1 => c49 w1 _ _ _)) rfl ?_
  refine o_p (p_pure rfl) rfl ?_
  refine o_and 4 6 10 _ _ rfl
    (by
      intro hg2
      have hs3 := hg2; try simp only [decide_eq_true_eq, decide_eq_false_iff_not, Bool.not_eq_true', Bool.not_eq_false', Bool.and_eq_true, Bool.or_eq_true, Bool.and_eq_false_iff, Bool.or_eq_false_iff, Bool.not_true, Bool.not_false] at hs3
      refine o_on 6 _ rfl rfl hg2 ?_
      refine o_p (p_fieldAddr rfl rfl fd_48_2 sz_3 rfl) rfl ?_
      refine o_on 6 _ rfl rfl hg2 ?_
      refine o_q (q_load rfl rfl sz_3 (by repeat (first | exact .here | apply Pick.there)) rfl) rfl ?_
      refine o_on 6 _ rfl rfl hg2 ?_
      refine o_q (q_call rfl fn_49 rfl (fun w1 h1 => c49 w1 _ _ _)) rfl ?_
      refine o_p (p_pickt rfl rfl hg2 rfl) rfl ?_
      refine o_nil ?_
      exact s_joinN 4 10 _ rfl rfl rfl (fun w h => by first | exact h | exact h.ent (by repeat (first | exact .nil | refine .cons (by repeat (first | exact .here | apply Pick.there)) ?_))))
    (by
      intro hg4
      have hs5 := hg4; try simp only [decide_eq_true_eq, decide_eq_false_iff_not, Bool.not_eq_true', Bool.not_eq_false', Bool.and_eq_true, Bool.or_eq_true, Bool.and_eq_false_iff, Bool.or_eq_false_iff, Bool.not_true, Bool.not_false] at hs5
      refine o_off 6 _ rfl rfl hg4 rfl ?_
      refine o_off 6 _ rfl rfl hg4 rfl ?_
      refine o_off 6 _ rfl rfl hg4 rfl ?_
      refine o_p (p_pickf rfl rfl hg4 rfl) rfl ?_
      refine o_nil ?_
      exact s_joinN 4 10 _ rfl rfl rfl (fun w h => by first | exact h | exact h.ent (by repeat (first | exact .nil | refine .cons (by repeat (first | exact .here | apply Pick.there)) ?_)))) ?_
  refine o_q (q_call rfl fn_48 rfl (fun w1 h1 => c48 w1 _ _)) rfl ?_
  refine o_p (p_pure rfl) rfl ?_
  refine o_nil ?_
  exact s_retv (rs := [.tmp 2]) rfl (.tmp rfl (.nil)) (fun w' h' => ⟨by simp only [retV, openE]; grind, h'.below⟩)

set_option maxRecDepth 20000 in
theorem c22 (w : World) (o : LOpn) : Calls Try.prog 22 #[.agg #[.int .i64 o.hd, .int .i64 o.ac, .int .i64 o.sh, .bool o.dl, .slice o.la o.lk.length o.lc]] w fun en w' => en = .returned (.int .i64 (openE o.ac o.sh)) ∧ Below w.heap.size w w' := by
  refine enter (args := [_]) Try.func22 Try.ntmps22 rfl rfl (HS.refl w []) ?_
  refine s_seq ?_
  refine s_region ?_
  refine o_h (h_box rfl rfl) rfl (fun b1 _ => ?_)
  refine o_p (p_pure rfl) rfl ?_
  refine o_nil ?_
  refine s_seq ?_
  refine s_seq ?_
  refine s_region ?_
  refine o_p (p_fieldAddr rfl rfl fd_48_1 sz_3 rfl) rfl ?_
  refine o_q (q_load rfl rfl sz_3 (by repeat (first | exact .here | apply Pick.there)) rfl) rfl ?_
  refine o_q (q_call rfl fn_16 rfl (fun w1 h1 => c16 w1 _ _ _)) rfl ?_
  refine o_p (p_pure rfl) rfl ?_
  refine o_p (p_pure rfl) rfl ?_
  refine o_or 5 7 12 _ _ rfl
    (by
      intro hg2
      have hs3 := hg2; try simp only [decide_eq_true_eq, decide_eq_false_iff_not, Bool.not_eq_true', Bool.not_eq_false', Bool.and_eq_true, Bool.or_eq_true, Bool.and_eq_false_iff, Bool.or_eq_false_iff, Bool.not_true, Bool.not_false] at hs3
      refine o_on 7 _ rfl rfl hg2 ?_
      refine o_p (p_fieldAddr rfl rfl fd_48_2 sz_3 rfl) rfl ?_
      refine o_on 7 _ rfl rfl hg2 ?_
      refine o_q (q_load rfl rfl sz_3 (by repeat (first | exact .here | apply Pick.there)) rfl) rfl ?_
      refine o_on 7 _ rfl rfl hg2 ?_
      refine o_q (q_call rfl fn_16 rfl (fun w1 h1 => c16 w1 _ _ _)) rfl ?_
      refine o_on 7 _ rfl rfl hg2 ?_
      refine o_p (p_pure rfl) rfl ?_
      refine o_p (p_pickf rfl rfl hg2 rfl) rfl ?_
      refine o_nil ?_
      exact s_joinN 5 12 _ rfl rfl rfl (fun w h => by first | exact h | exact h.ent (by repeat (first | exact .nil | refine .cons (by repeat (first | exact .here | apply Pick.there)) ?_))))
    (by
      intro hg4
      have hs5 := hg4; try simp only [decide_eq_true_eq, decide_eq_false_iff_not, Bool.not_eq_true', Bool.not_eq_false', Bool.and_eq_true, Bool.or_eq_true, Bool.and_eq_false_iff, Bool.or_eq_false_iff, Bool.not_true, Bool.not_false] at hs5
      refine o_off 7 _ rfl rfl hg4 rfl ?_
      refine o_off 7 _ rfl rfl hg4 rfl ?_
      refine o_off 7 _ rfl rfl hg4 rfl ?_
      refine o_off 7 _ rfl rfl hg4 rfl ?_
      refine o_p (p_pickt rfl rfl hg4 rfl) rfl ?_
      refine o_nil ?_
      exact s_joinN 5 12 _ rfl rfl rfl (fun w h => by first | exact h | exact h.ent (by repeat (first | exact .nil | refine .cons (by repeat (first | exact .here | apply Pick.there)) ?_)))) ?_
  refine o_nil ?_
  refine s_cond rfl (fun h6 => ?_) (fun h6 => ?_)
  · try simp only [decide_eq_true_eq, decide_eq_false_iff_not, Bool.not_eq_true', Bool.not_eq_false', Bool.and_eq_true, Bool.or_eq_true, Bool.and_eq_false_iff, Bool.or_eq_false_iff, Bool.not_true, Bool.not_false] at h6
    refine s_seq ?_
    refine s_region ?_
    refine o_p (p_pure rfl) rfl ?_
    refine o_nil ?_
    exact s_retv (rs := [.tmp 2]) rfl (.tmp rfl (.nil)) (fun w' h' => ⟨by simp only [retV, openE]; grind, h'.below⟩)
  · try simp only [decide_eq_true_eq, decide_eq_false_iff_not, Bool.not_eq_true', Bool.not_eq_false', Bool.and_eq_true, Bool.or_eq_true, Bool.and_eq_false_iff, Bool.or_eq_false_iff, Bool.not_true, Bool.not_false] at h6
    refine s_skip ?_
    refine s_seq ?_
    refine s_region ?_
    refine o_p (p_pure rfl) rfl ?_
    refine o_nil ?_
    exact s_retv (rs := [.tmp 2]) rfl (.tmp rfl (.nil)) (fun w' h' => ⟨by simp only [retV, openE]; grind, h'.below⟩)

set_option maxRecDepth 20000 in
theorem c104 (w : World) (x : Int) : Calls Try.prog 104 #[.int .i64 x] w fun en w' => en = .returned (.bool (decide (0 ≤ x) && decide (x ≤ 2147483647))) ∧ Below w.heap.size w w' := by
  refine enter (args := [_]) Try.func104 Try.ntmps104 rfl rfl (HS.refl w []) ?_
  refine s_seq ?_
  refine s_region ?_
  refine o_p (p_pure rfl) rfl ?_
  refine o_nil ?_
  refine s_seq ?_
  refine s_region ?_
  refine o_p (p_pure rfl) rfl ?_
  refine o_q (q_call rfl fn_16 rfl (fun w1 h1 => c16 w1 _ _ _)) rfl ?_
  refine o_p (p_pure rfl) rfl ?_
  refine o_nil ?_
  exact s_retv (rs := [.tmp 2]) rfl (.tmp rfl (.nil)) (fun w' h' => ⟨rfl, h'.below⟩)

set_option maxRecDepth 20000 in
theorem c94 (w : World) (fr cnt : Int) : Calls Try.prog 94 #[.int .i64 fr, .int .i64 cnt] w fun en w' => en = .returned (.int .i64 (rngE fr cnt)) ∧ Below w.heap.size w w' := by
  refine enter (args := [_, _]) Try.func94 Try.ntmps94 rfl rfl (HS.refl w []) ?_
  refine s_seq ?_
  refine s_region ?_
  refine o_p (p_pure rfl) rfl ?_
  refine o_nil ?_
  refine s_seq ?_
  refine s_region ?_
  refine o_p (p_pure rfl) rfl ?_
  refine o_q (q_call rfl fn_49 rfl (fun w1 h1 => c49 w1 _ _ _)) rfl ?_
  refine o_p (p_pure rfl) rfl ?_
  refine o_and 5 7 12 _ _ rfl
    (by
      intro hg1
      have hs2 := hg1; try simp only [decide_eq_true_eq, decide_eq_false_iff_not, Bool.not_eq_true', Bool.not_eq_false', Bool.and_eq_true, Bool.or_eq_true, Bool.and_eq_false_iff, Bool.or_eq_false_iff, Bool.not_true, Bool.not_false] at hs2
      refine o_on 7 _ rfl rfl hg1 ?_
      refine o_p (p_pure rfl) rfl ?_
      refine o_on 7 _ rfl rfl hg1 ?_
      refine o_p (p_pure rfl) rfl ?_
      refine o_on 7 _ rfl rfl hg1 ?_
      refine o_p (p_pure rfl) rfl ?_
      try (refine o_slot (i64w (by omega) (by omega)) ?_)
      refine o_on 7 _ rfl rfl hg1 ?_
      refine o_q (q_call rfl fn_49 rfl (fun w1 h1 => c49 w1 _ _ _)) rfl ?_
      refine o_p (p_pickt rfl rfl hg1 rfl) rfl ?_
      refine o_nil ?_
      exact s_joinN 5 12 _ rfl rfl rfl (fun w h => by first | exact h | exact h.ent (by repeat (first | exact .nil | refine .cons (by repeat (first | exact .here | apply Pick.there)) ?_))))
    (by
      intro hg3
      have hs4 := hg3; try simp only [decide_eq_true_eq, decide_eq_false_iff_not, Bool.not_eq_true', Bool.not_eq_false', Bool.and_eq_true, Bool.or_eq_true, Bool.and_eq_false_iff, Bool.or_eq_false_iff, Bool.not_true, Bool.not_false] at hs4
      refine o_off 7 _ rfl rfl hg3 rfl ?_
      refine o_off 7 _ rfl rfl hg3 rfl ?_
      refine o_off 7 _ rfl rfl hg3 rfl ?_
      refine o_off 7 _ rfl rfl hg3 rfl ?_
      refine o_p (p_pickf rfl rfl hg3 rfl) rfl ?_
      refine o_nil ?_
      exact s_joinN 5 12 _ rfl rfl rfl (fun w h => by first | exact h | exact h.ent (by repeat (first | exact .nil | refine .cons (by repeat (first | exact .here | apply Pick.there)) ?_)))) ?_
  refine o_q (q_call rfl fn_48 rfl (fun w1 h1 => c48 w1 _ _)) rfl ?_
  refine o_p (p_pure rfl) rfl ?_
  refine o_nil ?_
  exact s_retv (rs := [.tmp 4]) rfl (.tmp rfl (.nil)) (fun w' h' => ⟨by simp only [retV, rngE]; grind, h'.below⟩)

set_option maxRecDepth 20000 in
theorem c69 (w : World) (fr cnt : Int) : Calls Try.prog 69 #[.int .i64 fr, .int .i64 cnt] w fun en w' => en = .returned (.int .i64 (rngE fr cnt)) ∧ Below w.heap.size w w' := by
  refine enter (args := [_, _]) Try.func69 Try.ntmps69 rfl rfl (HS.refl w []) ?_
  refine s_seq ?_
  refine s_region ?_
  refine o_p (p_pure rfl) rfl ?_
  refine o_nil ?_
  refine s_seq ?_
  refine s_seq ?_
  refine s_region ?_
  refine o_p (p_pure rfl) rfl ?_
  refine o_q (q_call rfl fn_104 rfl (fun w1 h1 => c104 w1 _)) rfl ?_
  refine o_p (p_pure rfl) rfl ?_
  refine o_p (p_pure rfl) rfl ?_
  refine o_or 6 8 14 _ _ rfl
    (by
      intro hg1
      have hs2 := hg1; try simp only [decide_eq_true_eq, decide_eq_false_iff_not, Bool.not_eq_true', Bool.not_eq_false', Bool.and_eq_true, Bool.or_eq_true, Bool.and_eq_false_iff, Bool.or_eq_false_iff, Bool.not_true, Bool.not_false] at hs2
      refine o_on 8 _ rfl rfl hg1 ?_
      refine o_p (p_pure rfl) rfl ?_
      refine o_on 8 _ rfl rfl hg1 ?_
      refine o_p (p_pure rfl) rfl ?_
      refine o_on 8 _ rfl rfl hg1 ?_
      refine o_p (p_pure rfl) rfl ?_
      try (refine o_slot (i64w (by omega) (by omega)) ?_)
      refine o_on 8 _ rfl rfl hg1 ?_
      refine o_q (q_call rfl fn_16 rfl (fun w1 h1 => c16 w1 _ _ _)) rfl ?_
      refine o_on 8 _ rfl rfl hg1 ?_
      refine o_p (p_pure rfl) rfl ?_
      refine o_p (p_pickf rfl rfl hg1 rfl) rfl ?_
      refine o_nil ?_
      exact s_joinN 6 14 _ rfl rfl rfl (fun w h => by first | exact h | exact h.ent (by repeat (first | exact .nil | refine .cons (by repeat (first | exact .here | apply Pick.there)) ?_))))
    (by
      intro hg3
      have hs4 := hg3; try simp only [decide_eq_true_eq, decide_eq_false_iff_not, Bool.not_eq_true', Bool.not_eq_false', Bool.and_eq_true, Bool.or_eq_true, Bool.and_eq_false_iff, Bool.or_eq_false_iff, Bool.not_true, Bool.not_false] at hs4
      refine o_off 8 _ rfl rfl hg3 rfl ?_
      refine o_off 8 _ rfl rfl hg3 rfl ?_
      refine o_off 8 _ rfl rfl hg3 rfl ?_
      refine o_off 8 _ rfl rfl hg3 rfl ?_
      refine o_off 8 _ rfl rfl hg3 rfl ?_
      refine o_p (p_pickt rfl rfl hg3 rfl) rfl ?_
      refine o_nil ?_
      exact s_joinN 6 14 _ rfl rfl rfl (fun w h => by first | exact h | exact h.ent (by repeat (first | exact .nil | refine .cons (by repeat (first | exact .here | apply Pick.there)) ?_)))) ?_
  refine o_nil ?_
  refine s_cond rfl (fun h5 => ?_) (fun h5 => ?_)
  · try simp only [decide_eq_true_eq, decide_eq_false_iff_not, Bool.not_eq_true', Bool.not_eq_false', Bool.and_eq_true, Bool.or_eq_true, Bool.and_eq_false_iff, Bool.or_eq_false_iff, Bool.not_true, Bool.not_false] at h5
    refine s_seq ?_
    refine s_region ?_
    refine o_p (p_pure rfl) rfl ?_
    refine o_nil ?_
    exact s_retv (rs := [.tmp 4]) rfl (.tmp rfl (.nil)) (fun w' h' => ⟨by simp only [retV, rngE]; grind, h'.below⟩)
  · try simp only [decide_eq_true_eq, decide_eq_false_iff_not, Bool.not_eq_true', Bool.not_eq_false', Bool.and_eq_true, Bool.or_eq_true, Bool.and_eq_false_iff, Bool.or_eq_false_iff, Bool.not_true, Bool.not_false] at h5
    refine s_skip ?_
    refine s_seq ?_
    refine s_region ?_
    refine o_p (p_pure rfl) rfl ?_
    refine o_nil ?_
    exact s_retv (rs := [.tmp 4]) rfl (.tmp rfl (.nil)) (fun w' h' => ⟨by simp only [retV, rngE]; grind, h'.below⟩)

set_option maxRecDepth 20000 in
theorem c89 (w : World) (b : Bool) : Calls Try.prog 89 #[.bool b] w fun en w' => en = .returned (.int .i64 (bif b then 1 else 0)) ∧ Below w.heap.size w w' := by
  refine enter (args := [_]) Try.func89 Try.ntmps89 rfl rfl (HS.refl w []) ?_
  refine s_seq ?_
  refine s_region ?_
  refine o_p (p_pure rfl) rfl ?_
  refine o_nil ?_
  refine s_seq ?_
  refine s_seq ?_
  refine s_region ?_
  refine o_p (p_pure rfl) rfl ?_
  refine o_nil ?_
  refine s_cond rfl (fun h1 => ?_) (fun h1 => ?_)
  · try simp only [decide_eq_true_eq, decide_eq_false_iff_not, Bool.not_eq_true', Bool.not_eq_false', Bool.and_eq_true, Bool.or_eq_true, Bool.and_eq_false_iff, Bool.or_eq_false_iff, Bool.not_true, Bool.not_false] at h1
    refine s_seq ?_
    refine s_region ?_
    refine o_p (p_pure rfl) rfl ?_
    refine o_nil ?_
    exact s_retv (rs := [.tmp 2]) rfl (.tmp rfl (.nil)) (fun w' h' => ⟨by simp_all [retV], h'.below⟩)
  · try simp only [decide_eq_true_eq, decide_eq_false_iff_not, Bool.not_eq_true', Bool.not_eq_false', Bool.and_eq_true, Bool.or_eq_true, Bool.and_eq_false_iff, Bool.or_eq_false_iff, Bool.not_true, Bool.not_false] at h1
    refine s_skip ?_
    refine s_seq ?_
    refine s_region ?_
    refine o_p (p_pure rfl) rfl ?_
    refine o_nil ?_
    exact s_retv (rs := [.tmp 2]) rfl (.tmp rfl (.nil)) (fun w' h' => ⟨by simp_all [retV], h'.below⟩)

set_option maxRecDepth 20000 in
theorem c63 (w : World) (a b : LOpn) (ha : openE a.ac a.sh = 0) (hb : openE b.ac b.sh = 0) : Calls Try.prog 63 #[.agg #[.int .i64 a.hd, .int .i64 a.ac, .int .i64 a.sh, .bool a.dl, .slice a.la a.lk.length a.lc], .agg #[.int .i64 b.hd, .int .i64 b.ac, .int .i64 b.sh, .bool b.dl, .slice b.la b.lk.length b.lc]] w fun en w' => en = .returned (.bool (cfl a.pl b.pl)) ∧ Below w.heap.size w w' := by
  have ha1 := openE_r ha
  have hb1 := openE_r hb
  refine enter (args := [_, _]) Try.func63 Try.ntmps63 rfl rfl (HS.refl w []) ?_
  refine s_seq ?_
  refine s_region ?_
  refine o_h (h_box rfl rfl) rfl (fun b1 _ => ?_)
  refine o_h (h_box rfl rfl) rfl (fun b2 _ => ?_)
  refine o_p (p_pure rfl) rfl ?_
  refine o_nil ?_
  refine s_seq ?_
  refine s_region ?_
  refine o_p (p_fieldAddr rfl rfl fd_48_1 sz_3 rfl) rfl ?_
  refine o_q (q_load rfl rfl sz_3 (by repeat (first | exact .here | apply Pick.there)) rfl) rfl ?_
  refine o_p (p_fieldAddr rfl rfl fd_48_2 sz_3 rfl) rfl ?_
  refine o_q (q_load rfl rfl sz_3 (by repeat (first | exact .here | apply Pick.there)) rfl) rfl ?_
  refine o_p (p_pure rfl) rfl ?_
  refine o_p (p_pure rfl) rfl ?_
  refine o_p (p_pure rfl) rfl ?_
  refine o_or 7 11 18 _ _ rfl
    (by
      intro hg3
      have hs4 := hg3; try simp only [decide_eq_true_eq, decide_eq_false_iff_not, Bool.not_eq_true', Bool.not_eq_false', Bool.and_eq_true, Bool.or_eq_true, Bool.and_eq_false_iff, Bool.or_eq_false_iff, Bool.not_true, Bool.not_false] at hs4
      refine o_on 11 _ rfl rfl hg3 ?_
      refine o_p (p_fieldAddr rfl rfl fd_48_1 sz_3 rfl) rfl ?_
      refine o_on 11 _ rfl rfl hg3 ?_
      refine o_q (q_load rfl rfl sz_3 (by repeat (first | exact .here | apply Pick.there)) rfl) rfl ?_
      refine o_on 11 _ rfl rfl hg3 ?_
      refine o_p (p_fieldAddr rfl rfl fd_48_2 sz_3 rfl) rfl ?_
      refine o_on 11 _ rfl rfl hg3 ?_
      refine o_q (q_load rfl rfl sz_3 (by repeat (first | exact .here | apply Pick.there)) rfl) rfl ?_
      refine o_on 11 _ rfl rfl hg3 ?_
      refine o_p (p_pure rfl) rfl ?_
      refine o_on 11 _ rfl rfl hg3 ?_
      refine o_p (p_pure rfl) rfl ?_
      refine o_p (p_pickf rfl rfl hg3 rfl) rfl ?_
      refine o_nil ?_
      exact s_joinN 7 18 _ rfl rfl rfl (fun w h => by first | exact h | exact h.ent (by repeat (first | exact .nil | refine .cons (by repeat (first | exact .here | apply Pick.there)) ?_))))
    (by
      intro hg5
      have hs6 := hg5; try simp only [decide_eq_true_eq, decide_eq_false_iff_not, Bool.not_eq_true', Bool.not_eq_false', Bool.and_eq_true, Bool.or_eq_true, Bool.and_eq_false_iff, Bool.or_eq_false_iff, Bool.not_true, Bool.not_false] at hs6
      refine o_off 11 _ rfl rfl hg5 rfl ?_
      refine o_off 11 _ rfl rfl hg5 rfl ?_
      refine o_off 11 _ rfl rfl hg5 rfl ?_
      refine o_off 11 _ rfl rfl hg5 rfl ?_
      refine o_off 11 _ rfl rfl hg5 rfl ?_
      refine o_off 11 _ rfl rfl hg5 rfl ?_
      refine o_p (p_pickt rfl rfl hg5 rfl) rfl ?_
      refine o_nil ?_
      exact s_joinN 7 18 _ rfl rfl rfl (fun w h => by first | exact h | exact h.ent (by repeat (first | exact .nil | refine .cons (by repeat (first | exact .here | apply Pick.there)) ?_)))) ?_
  refine o_p (p_pure rfl) rfl ?_
  refine o_nil ?_
  exact s_retv (rs := [.tmp 4]) rfl (.tmp rfl (.nil)) (fun w' h' => ⟨by simp only [retV, cfl, LOpn.pl]; rw [← andNot_8 (x := a.ac) (y := b.sh) (by omega) (by omega), ← andNot_8 (x := b.ac) (y := a.sh) (by omega) (by omega)]; rfl, h'.below⟩)

set_option maxRecDepth 20000 in
theorem c71 (w : World) (x : Int) (m : Nat) (hx : 0 ≤ x ∧ x ≤ 7) (hm : m = 1 ∨ m = 2 ∨ m = 4) : Calls Try.prog 71 #[.int .i64 x, .int .i64 (m : Int)] w fun en w' => en = .returned (.bool (hasB x m)) ∧ Below w.heap.size w w' := by
  have hxm : 0 ≤ x / (m : Int) := Int.ediv_nonneg (by omega) (by omega)
  refine enter (args := [_, _]) Try.func71 Try.ntmps71 rfl rfl (HS.refl w []) ?_
  refine s_seq ?_
  refine s_region ?_
  refine o_p (p_pure rfl) rfl ?_
  refine o_nil ?_
  refine s_seq ?_
  refine s_region ?_
  refine o_p (p_pure rfl) rfl ?_
  refine o_p (p_pure rfl) rfl ?_
  first | refine o_p (p_quo_nn rfl rfl rfl (by omega) (by omega) (by omega)) rfl ?_ | refine o_p (p_quo rfl rfl rfl (by decide)) rfl ?_ | refine o_p (p_quo rfl rfl rfl (by omega)) rfl ?_
  first | refine o_p (p_rem_nn rfl rfl rfl (by omega) (by omega)) rfl ?_ | refine o_p (p_rem rfl rfl rfl (by decide)) rfl ?_ | refine o_p (p_rem rfl rfl rfl (by omega)) rfl ?_
  refine o_p (p_pure rfl) rfl ?_
  refine o_p (p_pure rfl) rfl ?_
  refine o_nil ?_
  exact s_retv (rs := [.tmp 4]) rfl (.tmp rfl (.nil)) (fun w' h' => ⟨by simp only [retV]; rw [← has_8 hx hm], h'.below⟩)

set_option maxRecDepth 20000 in
theorem c64 (w : World) (a b : LOpn) (ha : openE a.ac a.sh = 0) (hb : openE b.ac b.sh = 0) : Calls Try.prog 64 #[.agg #[.int .i64 a.hd, .int .i64 a.ac, .int .i64 a.sh, .bool a.dl, .slice a.la a.lk.length a.lc], .agg #[.int .i64 b.hd, .int .i64 b.ac, .int .i64 b.sh, .bool b.dl, .slice b.la b.lk.length b.lc]] w fun en w' => en = .returned (.bool (missN b.ac.toNat a.sh.toNat)) ∧ Below w.heap.size w w' := by
  have ha1 := openE_r ha
  have hb1 := openE_r hb
  refine enter (args := [_, _]) Try.func64 Try.ntmps64 rfl rfl (HS.refl w []) ?_
  refine s_seq ?_
  refine s_region ?_
  refine o_h (h_box rfl rfl) rfl (fun b1 _ => ?_)
  refine o_h (h_box rfl rfl) rfl (fun b2 _ => ?_)
  refine o_p (p_pure rfl) rfl ?_
  refine o_nil ?_
  refine s_seq ?_
  refine s_seq ?_
  refine s_region ?_
  refine o_p (p_pure rfl) rfl ?_
  refine o_nil ?_
  refine s_block ?_
  refine s_loopI (α := Nat) [4, 5, 6, 7, 8, 9, 10, 11, 12, 13, 14, 15, 16, 17, 18, 19, 20] (fun k => [(5, .int .i64 (pk3 k))]) (fun _ => _) (fun k => k ≤ 3 ∧ (0 < k → (hasB b.ac 1 && !hasB a.sh 1) = false) ∧ (1 < k → (hasB b.ac 2 && !hasB a.sh 2) = false) ∧ (2 < k → (hasB b.ac 4 && !hasB a.sh 4) = false)) (fun k => 3 - k) 0 (by simp) (by repeat (first | exact sl_n | refine sl_c rfl ?_)) (fun w h => h) (fun k hk => ?_)
  obtain ⟨hk0, hk1, hk2, hk3⟩ := hk
  rcases k with _ | _ | _ | _ | k
  · skip
    refine s_seq ?_
    refine s_seq ?_
    refine s_region ?_
    refine o_p (p_pure rfl) rfl ?_
    refine o_p (p_pure rfl) rfl ?_
    refine o_nil ?_
    refine s_cond rfl (fun h3 => ?_) (fun h3 => ?_)
    · try simp only [decide_eq_true_eq, decide_eq_false_iff_not, Bool.not_eq_true', Bool.not_eq_false', Bool.and_eq_true, Bool.or_eq_true, Bool.and_eq_false_iff, Bool.or_eq_false_iff, Bool.not_true, Bool.not_false] at h3
      refine s_skip ?_
      refine s_seq ?_
      refine s_block ?_
      refine s_seq ?_
      refine s_region ?_
      refine o_p (p_fieldAddr rfl rfl fd_48_1 sz_3 rfl) rfl ?_
      refine o_q (q_load rfl rfl sz_3 (by repeat (first | exact .here | apply Pick.there)) rfl) rfl ?_
      refine o_p (p_pure rfl) rfl ?_
      refine o_q (q_call rfl fn_71 rfl (fun w1 h1 => c71 w1 b.ac 1 (by omega) (by omega))) rfl ?_
      refine o_p (p_pure rfl) rfl ?_
      refine o_and 6 14 20 _ _ rfl
        (by
          intro hg4
          have hs5 := hg4; try simp only [decide_eq_true_eq, decide_eq_false_iff_not, Bool.not_eq_true', Bool.not_eq_false', Bool.and_eq_true, Bool.or_eq_true, Bool.and_eq_false_iff, Bool.or_eq_false_iff, Bool.not_true, Bool.not_false] at hs5
          refine o_on 14 _ rfl rfl hg4 ?_
          refine o_p (p_fieldAddr rfl rfl fd_48_2 sz_3 rfl) rfl ?_
          refine o_on 14 _ rfl rfl hg4 ?_
          refine o_q (q_load rfl rfl sz_3 (by repeat (first | exact .here | apply Pick.there)) rfl) rfl ?_
          refine o_on 14 _ rfl rfl hg4 ?_
          refine o_p (p_pure rfl) rfl ?_
          refine o_on 14 _ rfl rfl hg4 ?_
          refine o_q (q_call rfl fn_71 rfl (fun w1 h1 => c71 w1 a.sh 1 (by omega) (by omega))) rfl ?_
          refine o_on 14 _ rfl rfl hg4 ?_
          refine o_p (p_pure rfl) rfl ?_
          refine o_p (p_pickt rfl rfl hg4 rfl) rfl ?_
          refine o_nil ?_
          exact s_joinN 6 20 _ rfl rfl rfl (fun w h => by first | exact h | exact h.ent (by repeat (first | exact .nil | refine .cons (by repeat (first | exact .here | apply Pick.there)) ?_))))
        (by
          intro hg6
          have hs7 := hg6; try simp only [decide_eq_true_eq, decide_eq_false_iff_not, Bool.not_eq_true', Bool.not_eq_false', Bool.and_eq_true, Bool.or_eq_true, Bool.and_eq_false_iff, Bool.or_eq_false_iff, Bool.not_true, Bool.not_false] at hs7
          refine o_off 14 _ rfl rfl hg6 rfl ?_
          refine o_off 14 _ rfl rfl hg6 rfl ?_
          refine o_off 14 _ rfl rfl hg6 rfl ?_
          refine o_off 14 _ rfl rfl hg6 rfl ?_
          refine o_off 14 _ rfl rfl hg6 rfl ?_
          refine o_p (p_pickf rfl rfl hg6 rfl) rfl ?_
          refine o_nil ?_
          exact s_joinN 6 20 _ rfl rfl rfl (fun w h => by first | exact h | exact h.ent (by repeat (first | exact .nil | refine .cons (by repeat (first | exact .here | apply Pick.there)) ?_)))) ?_
      refine o_nil ?_
      refine s_cond rfl (fun h8 => ?_) (fun h8 => ?_)
      · try simp only [decide_eq_true_eq, decide_eq_false_iff_not, Bool.not_eq_true', Bool.not_eq_false', Bool.and_eq_true, Bool.or_eq_true, Bool.and_eq_false_iff, Bool.or_eq_false_iff, Bool.not_true, Bool.not_false] at h8
        refine s_seq ?_
        refine s_region ?_
        refine o_p (p_pure rfl) rfl ?_
        refine o_nil ?_
        exact s_retv (rs := [.tmp 4]) rfl (.tmp rfl (.nil)) (fun w' h' => ⟨by simp only [retV]; rw [miss_has]; have hq := h8; (try simp at hq); simp [hq], h'.below⟩)
      · try simp only [decide_eq_true_eq, decide_eq_false_iff_not, Bool.not_eq_true', Bool.not_eq_false', Bool.and_eq_true, Bool.or_eq_true, Bool.and_eq_false_iff, Bool.or_eq_false_iff, Bool.not_true, Bool.not_false] at h8
        refine s_skip ?_
        refine s_blk ?_
        refine s_region ?_
        refine o_p (p_pure rfl) rfl ?_
        refine o_p (p_pure rfl) rfl ?_
        try (refine o_slot (i64w (by omega) (by omega)) ?_)
        refine o_p (p_pure rfl) rfl ?_
        refine o_nil ?_
        exact s_backI 1 (by omega) (by refine ⟨by omega, ?_, ?_, ?_⟩ <;> intro hlt <;> first | (exfalso; omega) | (exact hk1 (by omega)) | (exact hk2 (by omega)) | (exact hk3 (by omega)) | (have hq := h8; revert hq; cases hasB b.ac 1 <;> cases hasB a.sh 1 <;> simp)) (by repeat (first | exact sl_n | refine sl_c rfl ?_)) (fun w h => h)
    · try simp only [decide_eq_true_eq, decide_eq_false_iff_not, Bool.not_eq_true', Bool.not_eq_false', Bool.and_eq_true, Bool.or_eq_true, Bool.and_eq_false_iff, Bool.or_eq_false_iff, Bool.not_true, Bool.not_false] at h3
      exfalso; first | omega | (simp [pk3] at h3; done)
  · skip
    refine s_seq ?_
    refine s_seq ?_
    refine s_region ?_
    refine o_p (p_pure rfl) rfl ?_
    refine o_p (p_pure rfl) rfl ?_
    refine o_nil ?_
    refine s_cond rfl (fun h9 => ?_) (fun h9 => ?_)
    · try simp only [decide_eq_true_eq, decide_eq_false_iff_not, Bool.not_eq_true', Bool.not_eq_false', Bool.and_eq_true, Bool.or_eq_true, Bool.and_eq_false_iff, Bool.or_eq_false_iff, Bool.not_true, Bool.not_false] at h9
      refine s_skip ?_
      refine s_seq ?_
      refine s_block ?_
      refine s_seq ?_
      refine s_region ?_
      refine o_p (p_fieldAddr rfl rfl fd_48_1 sz_3 rfl) rfl ?_
      refine o_q (q_load rfl rfl sz_3 (by repeat (first | exact .here | apply Pick.there)) rfl) rfl ?_
      refine o_p (p_pure rfl) rfl ?_
      refine o_q (q_call rfl fn_71 rfl (fun w1 h1 => c71 w1 b.ac 2 (by omega) (by omega))) rfl ?_
      refine o_p (p_pure rfl) rfl ?_
      refine o_and 6 14 20 _ _ rfl
        (by
          intro hg10
          have hs11 := hg10; try simp only [decide_eq_true_eq, decide_eq_false_iff_not, Bool.not_eq_true', Bool.not_eq_false', Bool.and_eq_true, Bool.or_eq_true, Bool.and_eq_false_iff, Bool.or_eq_false_iff, Bool.not_true, Bool.not_false] at hs11
          refine o_on 14 _ rfl rfl hg10 ?_
          refine o_p (p_fieldAddr rfl rfl fd_48_2 sz_3 rfl) rfl ?_
          refine o_on 14 _ rfl rfl hg10 ?_
          refine o_q (q_load rfl rfl sz_3 (by repeat (first | exact .here | apply Pick.there)) rfl) rfl ?_
          refine o_on 14 _ rfl rfl hg10 ?_
          refine o_p (p_pure rfl) rfl ?_
          refine o_on 14 _ rfl rfl hg10 ?_
          refine o_q (q_call rfl fn_71 rfl (fun w1 h1 => c71 w1 a.sh 2 (by omega) (by omega))) rfl ?_
          refine o_on 14 _ rfl rfl hg10 ?_
          refine o_p (p_pure rfl) rfl ?_
          refine o_p (p_pickt rfl rfl hg10 rfl) rfl ?_
          refine o_nil ?_
          exact s_joinN 6 20 _ rfl rfl rfl (fun w h => by first | exact h | exact h.ent (by repeat (first | exact .nil | refine .cons (by repeat (first | exact .here | apply Pick.there)) ?_))))
        (by
          intro hg12
          have hs13 := hg12; try simp only [decide_eq_true_eq, decide_eq_false_iff_not, Bool.not_eq_true', Bool.not_eq_false', Bool.and_eq_true, Bool.or_eq_true, Bool.and_eq_false_iff, Bool.or_eq_false_iff, Bool.not_true, Bool.not_false] at hs13
          refine o_off 14 _ rfl rfl hg12 rfl ?_
          refine o_off 14 _ rfl rfl hg12 rfl ?_
          refine o_off 14 _ rfl rfl hg12 rfl ?_
          refine o_off 14 _ rfl rfl hg12 rfl ?_
          refine o_off 14 _ rfl rfl hg12 rfl ?_
          refine o_p (p_pickf rfl rfl hg12 rfl) rfl ?_
          refine o_nil ?_
          exact s_joinN 6 20 _ rfl rfl rfl (fun w h => by first | exact h | exact h.ent (by repeat (first | exact .nil | refine .cons (by repeat (first | exact .here | apply Pick.there)) ?_)))) ?_
      refine o_nil ?_
      refine s_cond rfl (fun h14 => ?_) (fun h14 => ?_)
      · try simp only [decide_eq_true_eq, decide_eq_false_iff_not, Bool.not_eq_true', Bool.not_eq_false', Bool.and_eq_true, Bool.or_eq_true, Bool.and_eq_false_iff, Bool.or_eq_false_iff, Bool.not_true, Bool.not_false] at h14
        refine s_seq ?_
        refine s_region ?_
        refine o_p (p_pure rfl) rfl ?_
        refine o_nil ?_
        exact s_retv (rs := [.tmp 4]) rfl (.tmp rfl (.nil)) (fun w' h' => ⟨by simp only [retV]; rw [miss_has]; have hq := h14; (try simp at hq); simp [hq], h'.below⟩)
      · try simp only [decide_eq_true_eq, decide_eq_false_iff_not, Bool.not_eq_true', Bool.not_eq_false', Bool.and_eq_true, Bool.or_eq_true, Bool.and_eq_false_iff, Bool.or_eq_false_iff, Bool.not_true, Bool.not_false] at h14
        refine s_skip ?_
        refine s_blk ?_
        refine s_region ?_
        refine o_p (p_pure rfl) rfl ?_
        refine o_p (p_pure rfl) rfl ?_
        try (refine o_slot (i64w (by omega) (by omega)) ?_)
        refine o_p (p_pure rfl) rfl ?_
        refine o_nil ?_
        exact s_backI 2 (by omega) (by refine ⟨by omega, ?_, ?_, ?_⟩ <;> intro hlt <;> first | (exfalso; omega) | (exact hk1 (by omega)) | (exact hk2 (by omega)) | (exact hk3 (by omega)) | (have hq := h14; revert hq; cases hasB b.ac 2 <;> cases hasB a.sh 2 <;> simp)) (by repeat (first | exact sl_n | refine sl_c rfl ?_)) (fun w h => h)
    · try simp only [decide_eq_true_eq, decide_eq_false_iff_not, Bool.not_eq_true', Bool.not_eq_false', Bool.and_eq_true, Bool.or_eq_true, Bool.and_eq_false_iff, Bool.or_eq_false_iff, Bool.not_true, Bool.not_false] at h9
      exfalso; first | omega | (simp [pk3] at h9; done)
  · skip
    refine s_seq ?_
    refine s_seq ?_
    refine s_region ?_
    refine o_p (p_pure rfl) rfl ?_
    refine o_p (p_pure rfl) rfl ?_
    refine o_nil ?_
    refine s_cond rfl (fun h15 => ?_) (fun h15 => ?_)
    · try simp only [decide_eq_true_eq, decide_eq_false_iff_not, Bool.not_eq_true', Bool.not_eq_false', Bool.and_eq_true, Bool.or_eq_true, Bool.and_eq_false_iff, Bool.or_eq_false_iff, Bool.not_true, Bool.not_false] at h15
      refine s_skip ?_
      refine s_seq ?_
      refine s_block ?_
      refine s_seq ?_
      refine s_region ?_
      refine o_p (p_fieldAddr rfl rfl fd_48_1 sz_3 rfl) rfl ?_
      refine o_q (q_load rfl rfl sz_3 (by repeat (first | exact .here | apply Pick.there)) rfl) rfl ?_
      refine o_p (p_pure rfl) rfl ?_
      refine o_q (q_call rfl fn_71 rfl (fun w1 h1 => c71 w1 b.ac 4 (by omega) (by omega))) rfl ?_
      refine o_p (p_pure rfl) rfl ?_
      refine o_and 6 14 20 _ _ rfl
        (by
          intro hg16
          have hs17 := hg16; try simp only [decide_eq_true_eq, decide_eq_false_iff_not, Bool.not_eq_true', Bool.not_eq_false', Bool.and_eq_true, Bool.or_eq_true, Bool.and_eq_false_iff, Bool.or_eq_false_iff, Bool.not_true, Bool.not_false] at hs17
          refine o_on 14 _ rfl rfl hg16 ?_
          refine o_p (p_fieldAddr rfl rfl fd_48_2 sz_3 rfl) rfl ?_
          refine o_on 14 _ rfl rfl hg16 ?_
          refine o_q (q_load rfl rfl sz_3 (by repeat (first | exact .here | apply Pick.there)) rfl) rfl ?_
          refine o_on 14 _ rfl rfl hg16 ?_
          refine o_p (p_pure rfl) rfl ?_
          refine o_on 14 _ rfl rfl hg16 ?_
          refine o_q (q_call rfl fn_71 rfl (fun w1 h1 => c71 w1 a.sh 4 (by omega) (by omega))) rfl ?_
          refine o_on 14 _ rfl rfl hg16 ?_
          refine o_p (p_pure rfl) rfl ?_
          refine o_p (p_pickt rfl rfl hg16 rfl) rfl ?_
          refine o_nil ?_
          exact s_joinN 6 20 _ rfl rfl rfl (fun w h => by first | exact h | exact h.ent (by repeat (first | exact .nil | refine .cons (by repeat (first | exact .here | apply Pick.there)) ?_))))
        (by
          intro hg18
          have hs19 := hg18; try simp only [decide_eq_true_eq, decide_eq_false_iff_not, Bool.not_eq_true', Bool.not_eq_false', Bool.and_eq_true, Bool.or_eq_true, Bool.and_eq_false_iff, Bool.or_eq_false_iff, Bool.not_true, Bool.not_false] at hs19
          refine o_off 14 _ rfl rfl hg18 rfl ?_
          refine o_off 14 _ rfl rfl hg18 rfl ?_
          refine o_off 14 _ rfl rfl hg18 rfl ?_
          refine o_off 14 _ rfl rfl hg18 rfl ?_
          refine o_off 14 _ rfl rfl hg18 rfl ?_
          refine o_p (p_pickf rfl rfl hg18 rfl) rfl ?_
          refine o_nil ?_
          exact s_joinN 6 20 _ rfl rfl rfl (fun w h => by first | exact h | exact h.ent (by repeat (first | exact .nil | refine .cons (by repeat (first | exact .here | apply Pick.there)) ?_)))) ?_
      refine o_nil ?_
      refine s_cond rfl (fun h20 => ?_) (fun h20 => ?_)
      · try simp only [decide_eq_true_eq, decide_eq_false_iff_not, Bool.not_eq_true', Bool.not_eq_false', Bool.and_eq_true, Bool.or_eq_true, Bool.and_eq_false_iff, Bool.or_eq_false_iff, Bool.not_true, Bool.not_false] at h20
        refine s_seq ?_
        refine s_region ?_
        refine o_p (p_pure rfl) rfl ?_
        refine o_nil ?_
        exact s_retv (rs := [.tmp 4]) rfl (.tmp rfl (.nil)) (fun w' h' => ⟨by simp only [retV]; rw [miss_has]; have hq := h20; (try simp at hq); simp [hq], h'.below⟩)
      · try simp only [decide_eq_true_eq, decide_eq_false_iff_not, Bool.not_eq_true', Bool.not_eq_false', Bool.and_eq_true, Bool.or_eq_true, Bool.and_eq_false_iff, Bool.or_eq_false_iff, Bool.not_true, Bool.not_false] at h20
        refine s_skip ?_
        refine s_blk ?_
        refine s_region ?_
        refine o_p (p_pure rfl) rfl ?_
        refine o_p (p_pure rfl) rfl ?_
        try (refine o_slot (i64w (by omega) (by omega)) ?_)
        refine o_p (p_pure rfl) rfl ?_
        refine o_nil ?_
        exact s_backI 3 (by omega) (by refine ⟨by omega, ?_, ?_, ?_⟩ <;> intro hlt <;> first | (exfalso; omega) | (exact hk1 (by omega)) | (exact hk2 (by omega)) | (exact hk3 (by omega)) | (have hq := h20; revert hq; cases hasB b.ac 4 <;> cases hasB a.sh 4 <;> simp)) (by repeat (first | exact sl_n | refine sl_c rfl ?_)) (fun w h => h)
    · try simp only [decide_eq_true_eq, decide_eq_false_iff_not, Bool.not_eq_true', Bool.not_eq_false', Bool.and_eq_true, Bool.or_eq_true, Bool.and_eq_false_iff, Bool.or_eq_false_iff, Bool.not_true, Bool.not_false] at h15
      exfalso; first | omega | (simp [pk3] at h15; done)
  · skip
    refine s_seq ?_
    refine s_seq ?_
    refine s_region ?_
    refine o_p (p_pure rfl) rfl ?_
    refine o_p (p_pure rfl) rfl ?_
    refine o_nil ?_
    refine s_cond rfl (fun h21 => ?_) (fun h21 => ?_)
    · try simp only [decide_eq_true_eq, decide_eq_false_iff_not, Bool.not_eq_true', Bool.not_eq_false', Bool.and_eq_true, Bool.or_eq_true, Bool.and_eq_false_iff, Bool.or_eq_false_iff, Bool.not_true, Bool.not_false] at h21
      exfalso; first | omega | (simp [pk3] at h21; done)
    · try simp only [decide_eq_true_eq, decide_eq_false_iff_not, Bool.not_eq_true', Bool.not_eq_false', Bool.and_eq_true, Bool.or_eq_true, Bool.and_eq_false_iff, Bool.or_eq_false_iff, Bool.not_true, Bool.not_false] at h21
      refine s_exit_to rfl ?_
      refine s_seq ?_
      refine s_region ?_
      refine o_p (p_pure rfl) rfl ?_
      refine o_nil ?_
      exact s_retv (rs := [.tmp 4]) rfl (.tmp rfl (.nil)) (fun w' h' => ⟨by simp only [retV]; rw [miss_has, hk1 (by omega), hk2 (by omega), hk3 (by omega)]; rfl, h'.below⟩)
  · exfalso; omega

set_option maxRecDepth 20000 in
theorem c23 (w : World) (a b : LOpn) (ha : openE a.ac a.sh = 0) (hb : openE b.ac b.sh = 0) : Calls Try.prog 23 #[.agg #[.int .i64 a.hd, .int .i64 a.ac, .int .i64 a.sh, .bool a.dl, .slice a.la a.lk.length a.lc], .agg #[.int .i64 b.hd, .int .i64 b.ac, .int .i64 b.sh, .bool b.dl, .slice b.la b.lk.length b.lc]] w fun en w' => en = .returned (.bool (cfl a.pl b.pl)) ∧ Below w.heap.size w w' := by
  refine enter (args := [_, _]) Try.func23 Try.ntmps23 rfl rfl (HS.refl w []) ?_
  refine s_seq ?_
  refine s_region ?_
  refine o_h (h_box rfl rfl) rfl (fun b1 _ => ?_)
  refine o_h (h_box rfl rfl) rfl (fun b2 _ => ?_)
  refine o_p (p_pure rfl) rfl ?_
  refine o_nil ?_
  refine s_seq ?_
  refine s_region ?_
  refine o_q (q_loadn rfl rfl sz_48 (by repeat (first | exact .here | apply Pick.there)) rfl) rfl ?_
  refine o_q (q_loadn rfl rfl sz_48 (by repeat (first | exact .here | apply Pick.there)) rfl) rfl ?_
  refine o_q (q_call rfl fn_64 rfl (fun w1 h1 => c64 w1 a b ha hb)) rfl ?_
  refine o_p (p_pure rfl) rfl ?_
  refine o_or 4 8 12 _ _ rfl
    (by
      intro hg3
      have hs4 := hg3; try simp only [decide_eq_true_eq, decide_eq_false_iff_not, Bool.not_eq_true', Bool.not_eq_false', Bool.and_eq_true, Bool.or_eq_true, Bool.and_eq_false_iff, Bool.or_eq_false_iff, Bool.not_true, Bool.not_false] at hs4
      refine o_on 8 _ rfl rfl hg3 ?_
      refine o_q (q_loadn rfl rfl sz_48 (by repeat (first | exact .here | apply Pick.there)) rfl) rfl ?_
      refine o_on 8 _ rfl rfl hg3 ?_
      refine o_q (q_loadn rfl rfl sz_48 (by repeat (first | exact .here | apply Pick.there)) rfl) rfl ?_
      refine o_on 8 _ rfl rfl hg3 ?_
      refine o_q (q_call rfl fn_64 rfl (fun w1 h1 => c64 w1 b a hb ha)) rfl ?_
      refine o_p (p_pickf rfl rfl hg3 rfl) rfl ?_
      refine o_nil ?_
      exact s_joinN 4 12 _ rfl rfl rfl (fun w h => by first | exact h | exact h.ent (by repeat (first | exact .nil | refine .cons (by repeat (first | exact .here | apply Pick.there)) ?_))))
    (by
      intro hg5
      have hs6 := hg5; try simp only [decide_eq_true_eq, decide_eq_false_iff_not, Bool.not_eq_true', Bool.not_eq_false', Bool.and_eq_true, Bool.or_eq_true, Bool.and_eq_false_iff, Bool.or_eq_false_iff, Bool.not_true, Bool.not_false] at hs6
      refine o_off 8 _ rfl rfl hg5 rfl ?_
      refine o_off 8 _ rfl rfl hg5 rfl ?_
      refine o_off 8 _ rfl rfl hg5 rfl ?_
      refine o_p (p_pickt rfl rfl hg5 rfl) rfl ?_
      refine o_nil ?_
      exact s_joinN 4 12 _ rfl rfl rfl (fun w h => by first | exact h | exact h.ent (by repeat (first | exact .nil | refine .cons (by repeat (first | exact .here | apply Pick.there)) ?_)))) ?_
  refine o_p (p_pure rfl) rfl ?_
  refine o_nil ?_
  exact s_retv (rs := [.tmp 4]) rfl (.tmp rfl (.nil)) (fun w' h' => ⟨by simp only [retV]; rw [cfl, Bool.or_comm]; rfl, h'.below⟩)

set_option maxRecDepth 20000 in
theorem c124 (w : World) (a b : Lock) (ha : rngE a.fr a.cnt = 0) (hb : rngE b.fr b.cnt = 0) : Calls Try.prog 124 #[.agg #[.int .i64 a.fr, .int .i64 a.cnt, .bool a.ex], .agg #[.int .i64 b.fr, .int .i64 b.cnt, .bool b.ex]] w fun en w' => en = .returned (.bool (ovl a b)) ∧ Below w.heap.size w w' := by
  have ha1 := rngE_r ha
  have hb1 := rngE_r hb
  refine enter (args := [_, _]) Try.func124 Try.ntmps124 rfl rfl (HS.refl w []) ?_
  refine s_seq ?_
  refine s_region ?_
  refine o_h (h_box rfl rfl) rfl (fun b1 _ => ?_)
  refine o_h (h_box rfl rfl) rfl (fun b2 _ => ?_)
  refine o_p (p_pure rfl) rfl ?_
  refine o_nil ?_
  refine s_seq ?_
  refine s_region ?_
  refine o_p (p_fieldAddr rfl rfl fd_62_0 sz_3 rfl) rfl ?_
  refine o_q (q_load rfl rfl sz_3 (by repeat (first | exact .here | apply Pick.there)) rfl) rfl ?_
  refine o_p (p_fieldAddr rfl rfl fd_62_0 sz_3 rfl) rfl ?_
  refine o_q (q_load rfl rfl sz_3 (by repeat (first | exact .here | apply Pick.there)) rfl) rfl ?_
  refine o_p (p_fieldAddr rfl rfl fd_62_1 sz_3 rfl) rfl ?_
  refine o_q (q_load rfl rfl sz_3 (by repeat (first | exact .here | apply Pick.there)) rfl) rfl ?_
  refine o_p (p_pure rfl) rfl ?_
  try (refine o_slot (i64w (by omega) (by omega)) ?_)
  refine o_p (p_pure rfl) rfl ?_
  refine o_p (p_pure rfl) rfl ?_
  refine o_and 9 13 22 _ _ rfl
    (by
      intro hg3
      have hs4 := hg3; try simp only [decide_eq_true_eq, decide_eq_false_iff_not, Bool.not_eq_true', Bool.not_eq_false', Bool.and_eq_true, Bool.or_eq_true, Bool.and_eq_false_iff, Bool.or_eq_false_iff, Bool.not_true, Bool.not_false] at hs4
      refine o_on 13 _ rfl rfl hg3 ?_
      refine o_p (p_fieldAddr rfl rfl fd_62_0 sz_3 rfl) rfl ?_
      refine o_on 13 _ rfl rfl hg3 ?_
      refine o_q (q_load rfl rfl sz_3 (by repeat (first | exact .here | apply Pick.there)) rfl) rfl ?_
      refine o_on 13 _ rfl rfl hg3 ?_
      refine o_p (p_fieldAddr rfl rfl fd_62_0 sz_3 rfl) rfl ?_
      refine o_on 13 _ rfl rfl hg3 ?_
      refine o_q (q_load rfl rfl sz_3 (by repeat (first | exact .here | apply Pick.there)) rfl) rfl ?_
      refine o_on 13 _ rfl rfl hg3 ?_
      refine o_p (p_fieldAddr rfl rfl fd_62_1 sz_3 rfl) rfl ?_
      refine o_on 13 _ rfl rfl hg3 ?_
      refine o_q (q_load rfl rfl sz_3 (by repeat (first | exact .here | apply Pick.there)) rfl) rfl ?_
      refine o_on 13 _ rfl rfl hg3 ?_
      refine o_p (p_pure rfl) rfl ?_
      try (refine o_slot (i64w (by omega) (by omega)) ?_)
      refine o_on 13 _ rfl rfl hg3 ?_
      refine o_p (p_pure rfl) rfl ?_
      refine o_p (p_pickt rfl rfl hg3 rfl) rfl ?_
      refine o_nil ?_
      exact s_joinN 9 22 _ rfl rfl rfl (fun w h => by first | exact h | exact h.ent (by repeat (first | exact .nil | refine .cons (by repeat (first | exact .here | apply Pick.there)) ?_))))
    (by
      intro hg5
      have hs6 := hg5; try simp only [decide_eq_true_eq, decide_eq_false_iff_not, Bool.not_eq_true', Bool.not_eq_false', Bool.and_eq_true, Bool.or_eq_true, Bool.and_eq_false_iff, Bool.or_eq_false_iff, Bool.not_true, Bool.not_false] at hs6
      refine o_off 13 _ rfl rfl hg5 rfl ?_
      refine o_off 13 _ rfl rfl hg5 rfl ?_
      refine o_off 13 _ rfl rfl hg5 rfl ?_
      refine o_off 13 _ rfl rfl hg5 rfl ?_
      refine o_off 13 _ rfl rfl hg5 rfl ?_
      refine o_off 13 _ rfl rfl hg5 rfl ?_
      refine o_off 13 _ rfl rfl hg5 rfl ?_
      refine o_off 13 _ rfl rfl hg5 rfl ?_
      refine o_p (p_pickf rfl rfl hg5 rfl) rfl ?_
      refine o_nil ?_
      exact s_joinN 9 22 _ rfl rfl rfl (fun w h => by first | exact h | exact h.ent (by repeat (first | exact .nil | refine .cons (by repeat (first | exact .here | apply Pick.there)) ?_)))) ?_
  refine o_p (p_pure rfl) rfl ?_
  refine o_nil ?_
  exact s_retv (rs := [.tmp 4]) rfl (.tmp rfl (.nil)) (fun w' h' => ⟨by simp only [retV, ovl], h'.below⟩)

set_option maxRecDepth 20000 in
theorem c103 (w : World) (a b : Lock) (ha : rngE a.fr a.cnt = 0) (hb : rngE b.fr b.cnt = 0) : Calls Try.prog 103 #[.agg #[.int .i64 a.fr, .int .i64 a.cnt, .bool a.ex], .agg #[.int .i64 b.fr, .int .i64 b.cnt, .bool b.ex]] w fun en w' => en = .returned (.bool (clsh a b)) ∧ Below w.heap.size w w' := by
  have ha1 := rngE_r ha
  have hb1 := rngE_r hb
  refine enter (args := [_, _]) Try.func103 Try.ntmps103 rfl rfl (HS.refl w []) ?_
  refine s_seq ?_
  refine s_region ?_
  refine o_h (h_box rfl rfl) rfl (fun b1 _ => ?_)
  refine o_h (h_box rfl rfl) rfl (fun b2 _ => ?_)
  refine o_p (p_pure rfl) rfl ?_
  refine o_nil ?_
  refine s_seq ?_
  refine s_region ?_
  refine o_q (q_loadn rfl rfl sz_62 (by repeat (first | exact .here | apply Pick.there)) rfl) rfl ?_
  refine o_q (q_loadn rfl rfl sz_62 (by repeat (first | exact .here | apply Pick.there)) rfl) rfl ?_
  refine o_q (q_call rfl fn_124 rfl (fun w1 h1 => c124 w1 _ _ (by assumption) (by assumption))) rfl ?_
  refine o_p (p_pure rfl) rfl ?_
  refine o_and 7 8 15 _ _ rfl
    (by
      intro hg3
      have hs4 := hg3; try simp only [decide_eq_true_eq, decide_eq_false_iff_not, Bool.not_eq_true', Bool.not_eq_false', Bool.and_eq_true, Bool.or_eq_true, Bool.and_eq_false_iff, Bool.or_eq_false_iff, Bool.not_true, Bool.not_false] at hs4
      refine o_on 8 _ rfl rfl hg3 ?_
      refine o_p (p_fieldAddr rfl rfl fd_62_2 sz_4 rfl) rfl ?_
      refine o_on 8 _ rfl rfl hg3 ?_
      refine o_q (q_load rfl rfl sz_4 (by repeat (first | exact .here | apply Pick.there)) rfl) rfl ?_
      refine o_on 8 _ rfl rfl hg3 ?_
      refine o_p (p_pure rfl) rfl ?_
      refine o_or 3 11 14 _ _ rfl
        (by
          intro hg5
          have hs6 := hg5; try simp only [decide_eq_true_eq, decide_eq_false_iff_not, Bool.not_eq_true', Bool.not_eq_false', Bool.and_eq_true, Bool.or_eq_true, Bool.and_eq_false_iff, Bool.or_eq_false_iff, Bool.not_true, Bool.not_false] at hs6
          refine o_on 11 _ rfl rfl hg5 ?_
          refine o_p (p_fieldAddr rfl rfl fd_62_2 sz_4 rfl) rfl ?_
          refine o_on 11 _ rfl rfl hg5 ?_
          refine o_q (q_load rfl rfl sz_4 (by repeat (first | exact .here | apply Pick.there)) rfl) rfl ?_
          refine o_on 8 _ rfl rfl hg3 ?_
          refine o_p (p_pickf rfl rfl hg5 rfl) rfl ?_
          refine o_nil ?_
          exact s_joinN 3 14 _ rfl rfl rfl (fun w h => by first | exact h | exact h.ent (by repeat (first | exact .nil | refine .cons (by repeat (first | exact .here | apply Pick.there)) ?_))))
        (by
          intro hg7
          have hs8 := hg7; try simp only [decide_eq_true_eq, decide_eq_false_iff_not, Bool.not_eq_true', Bool.not_eq_false', Bool.and_eq_true, Bool.or_eq_true, Bool.and_eq_false_iff, Bool.or_eq_false_iff, Bool.not_true, Bool.not_false] at hs8
          refine o_off 11 _ rfl rfl hg7 rfl ?_
          refine o_off 11 _ rfl rfl hg7 rfl ?_
          refine o_on 8 _ rfl rfl hg3 ?_
          refine o_p (p_pickt rfl rfl hg7 rfl) rfl ?_
          refine o_nil ?_
          exact s_joinN 3 14 _ rfl rfl rfl (fun w h => by first | exact h | exact h.ent (by repeat (first | exact .nil | refine .cons (by repeat (first | exact .here | apply Pick.there)) ?_)))) ?_
      refine o_p (p_pickt rfl rfl hg3 rfl) rfl ?_
      refine o_nil ?_
      exact s_joinN 5 15 _ rfl rfl rfl (fun w h => by first | exact h | exact h.ent (by repeat (first | exact .nil | refine .cons (by repeat (first | exact .here | apply Pick.there)) ?_))))
    (by
      intro hg9
      have hs10 := hg9; try simp only [decide_eq_true_eq, decide_eq_false_iff_not, Bool.not_eq_true', Bool.not_eq_false', Bool.and_eq_true, Bool.or_eq_true, Bool.and_eq_false_iff, Bool.or_eq_false_iff, Bool.not_true, Bool.not_false] at hs10
      refine o_off 8 _ rfl rfl hg9 rfl ?_
      refine o_off 8 _ rfl rfl hg9 rfl ?_
      refine o_off 8 _ rfl rfl hg9 rfl ?_
      refine o_off' 11 rfl rfl rfl ?_
      refine o_off' 11 rfl rfl rfl ?_
      refine o_off 8 _ rfl rfl hg9 rfl ?_
      refine o_p (p_pickf rfl rfl hg9 rfl) rfl ?_
      refine o_nil ?_
      exact s_joinN 7 15 _ rfl rfl rfl (fun w h => by first | exact h | exact h.ent (by repeat (first | exact .nil | refine .cons (by repeat (first | exact .here | apply Pick.there)) ?_)))) ?_
  refine o_p (p_pure rfl) rfl ?_
  refine o_nil ?_
  exact s_retv (rs := [.tmp 4]) rfl (.tmp rfl (.nil)) (fun w' h' => ⟨by simp only [retV, clsh], h'.below⟩)

set_option maxRecDepth 20000 in
theorem c79 (w : World) (a b : Lock) (ha : rngE a.fr a.cnt = 0) (hb : rngE b.fr b.cnt = 0) : Calls Try.prog 79 #[.int .i64 a.fr, .int .i64 a.cnt, .int .i64 b.fr, .int .i64 b.cnt] w fun en w' => en = .returned (.bool (ovl a b)) ∧ Below w.heap.size w w' := by
  have ha1 := rngE_r ha
  have hb1 := rngE_r hb
  refine enter (args := [_, _, _, _]) Try.func79 Try.ntmps79 rfl rfl (HS.refl w []) ?_
  refine s_seq ?_
  refine s_region ?_
  refine o_p (p_pure rfl) rfl ?_
  refine o_nil ?_
  refine s_seq ?_
  refine s_region ?_
  refine o_p (p_pure rfl) rfl ?_
  refine o_p (p_pure rfl) rfl ?_
  refine o_p (p_pure rfl) rfl ?_
  refine o_p (p_pure rfl) rfl ?_
  try (refine o_slot (i64w (by omega) (by omega)) ?_)
  refine o_p (p_pure rfl) rfl ?_
  refine o_p (p_pure rfl) rfl ?_
  refine o_and 6 14 20 _ _ rfl
    (by
      intro hg1
      have hs2 := hg1; try simp only [decide_eq_true_eq, decide_eq_false_iff_not, Bool.not_eq_true', Bool.not_eq_false', Bool.and_eq_true, Bool.or_eq_true, Bool.and_eq_false_iff, Bool.or_eq_false_iff, Bool.not_true, Bool.not_false] at hs2
      refine o_on 14 _ rfl rfl hg1 ?_
      refine o_p (p_pure rfl) rfl ?_
      refine o_on 14 _ rfl rfl hg1 ?_
      refine o_p (p_pure rfl) rfl ?_
      refine o_on 14 _ rfl rfl hg1 ?_
      refine o_p (p_pure rfl) rfl ?_
      refine o_on 14 _ rfl rfl hg1 ?_
      refine o_p (p_pure rfl) rfl ?_
      try (refine o_slot (i64w (by omega) (by omega)) ?_)
      refine o_on 14 _ rfl rfl hg1 ?_
      refine o_p (p_pure rfl) rfl ?_
      refine o_p (p_pickt rfl rfl hg1 rfl) rfl ?_
      refine o_nil ?_
      exact s_joinN 6 20 _ rfl rfl rfl (fun w h => by first | exact h | exact h.ent (by repeat (first | exact .nil | refine .cons (by repeat (first | exact .here | apply Pick.there)) ?_))))
    (by
      intro hg3
      have hs4 := hg3; try simp only [decide_eq_true_eq, decide_eq_false_iff_not, Bool.not_eq_true', Bool.not_eq_false', Bool.and_eq_true, Bool.or_eq_true, Bool.and_eq_false_iff, Bool.or_eq_false_iff, Bool.not_true, Bool.not_false] at hs4
      refine o_off 14 _ rfl rfl hg3 rfl ?_
      refine o_off 14 _ rfl rfl hg3 rfl ?_
      refine o_off 14 _ rfl rfl hg3 rfl ?_
      refine o_off 14 _ rfl rfl hg3 rfl ?_
      refine o_off 14 _ rfl rfl hg3 rfl ?_
      refine o_p (p_pickf rfl rfl hg3 rfl) rfl ?_
      refine o_nil ?_
      exact s_joinN 6 20 _ rfl rfl rfl (fun w h => by first | exact h | exact h.ent (by repeat (first | exact .nil | refine .cons (by repeat (first | exact .here | apply Pick.there)) ?_)))) ?_
  refine o_p (p_pure rfl) rfl ?_
  refine o_nil ?_
  exact s_retv (rs := [.tmp 8]) rfl (.tmp rfl (.nil)) (fun w' h' => ⟨by simp only [retV, ovl], h'.below⟩)

set_option maxRecDepth 20000 in
theorem c72 (w : World) (a b : Lock) (ha : rngE a.fr a.cnt = 0) (hb : rngE b.fr b.cnt = 0) : Calls Try.prog 72 #[.agg #[.int .i64 a.fr, .int .i64 a.cnt, .bool a.ex], .agg #[.int .i64 b.fr, .int .i64 b.cnt, .bool b.ex]] w fun en w' => en = .returned (.bool (clsh a b)) ∧ Below w.heap.size w w' := by
  have ha1 := rngE_r ha
  have hb1 := rngE_r hb
  refine enter (args := [_, _]) Try.func72 Try.ntmps72 rfl rfl (HS.refl w []) ?_
  refine s_seq ?_
  refine s_region ?_
  refine o_h (h_box rfl rfl) rfl (fun b1 _ => ?_)
  refine o_h (h_box rfl rfl) rfl (fun b2 _ => ?_)
  refine o_p (p_pure rfl) rfl ?_
  refine o_nil ?_
  refine s_seq ?_
  refine s_region ?_
  refine o_p (p_fieldAddr rfl rfl fd_62_0 sz_3 rfl) rfl ?_
  refine o_q (q_load rfl rfl sz_3 (by repeat (first | exact .here | apply Pick.there)) rfl) rfl ?_
  refine o_p (p_fieldAddr rfl rfl fd_62_1 sz_3 rfl) rfl ?_
  refine o_q (q_load rfl rfl sz_3 (by repeat (first | exact .here | apply Pick.there)) rfl) rfl ?_
  refine o_p (p_fieldAddr rfl rfl fd_62_0 sz_3 rfl) rfl ?_
  refine o_q (q_load rfl rfl sz_3 (by repeat (first | exact .here | apply Pick.there)) rfl) rfl ?_
  refine o_p (p_fieldAddr rfl rfl fd_62_1 sz_3 rfl) rfl ?_
  refine o_q (q_load rfl rfl sz_3 (by repeat (first | exact .here | apply Pick.there)) rfl) rfl ?_
  refine o_q (q_call rfl fn_79 rfl (fun w1 h1 => c79 w1 a b ha hb)) rfl ?_
  refine o_p (p_pure rfl) rfl ?_
  refine o_and 7 14 21 _ _ rfl
    (by
      intro hg3
      have hs4 := hg3; try simp only [decide_eq_true_eq, decide_eq_false_iff_not, Bool.not_eq_true', Bool.not_eq_false', Bool.and_eq_true, Bool.or_eq_true, Bool.and_eq_false_iff, Bool.or_eq_false_iff, Bool.not_true, Bool.not_false] at hs4
      refine o_on 14 _ rfl rfl hg3 ?_
      refine o_p (p_fieldAddr rfl rfl fd_62_2 sz_4 rfl) rfl ?_
      refine o_on 14 _ rfl rfl hg3 ?_
      refine o_q (q_load rfl rfl sz_4 (by repeat (first | exact .here | apply Pick.there)) rfl) rfl ?_
      refine o_on 14 _ rfl rfl hg3 ?_
      refine o_p (p_pure rfl) rfl ?_
      refine o_or 3 17 20 _ _ rfl
        (by
          intro hg5
          have hs6 := hg5; try simp only [decide_eq_true_eq, decide_eq_false_iff_not, Bool.not_eq_true', Bool.not_eq_false', Bool.and_eq_true, Bool.or_eq_true, Bool.and_eq_false_iff, Bool.or_eq_false_iff, Bool.not_true, Bool.not_false] at hs6
          refine o_on 17 _ rfl rfl hg5 ?_
          refine o_p (p_fieldAddr rfl rfl fd_62_2 sz_4 rfl) rfl ?_
          refine o_on 17 _ rfl rfl hg5 ?_
          refine o_q (q_load rfl rfl sz_4 (by repeat (first | exact .here | apply Pick.there)) rfl) rfl ?_
          refine o_on 14 _ rfl rfl hg3 ?_
          refine o_p (p_pickf rfl rfl hg5 rfl) rfl ?_
          refine o_nil ?_
          exact s_joinN 3 20 _ rfl rfl rfl (fun w h => by first | exact h | exact h.ent (by repeat (first | exact .nil | refine .cons (by repeat (first | exact .here | apply Pick.there)) ?_))))
        (by
          intro hg7
          have hs8 := hg7; try simp only [decide_eq_true_eq, decide_eq_false_iff_not, Bool.not_eq_true', Bool.not_eq_false', Bool.and_eq_true, Bool.or_eq_true, Bool.and_eq_false_iff, Bool.or_eq_false_iff, Bool.not_true, Bool.not_false] at hs8
          refine o_off 17 _ rfl rfl hg7 rfl ?_
          refine o_off 17 _ rfl rfl hg7 rfl ?_
          refine o_on 14 _ rfl rfl hg3 ?_
          refine o_p (p_pickt rfl rfl hg7 rfl) rfl ?_
          refine o_nil ?_
          exact s_joinN 3 20 _ rfl rfl rfl (fun w h => by first | exact h | exact h.ent (by repeat (first | exact .nil | refine .cons (by repeat (first | exact .here | apply Pick.there)) ?_)))) ?_
      refine o_p (p_pickt rfl rfl hg3 rfl) rfl ?_
      refine o_nil ?_
      exact s_joinN 5 21 _ rfl rfl rfl (fun w h => by first | exact h | exact h.ent (by repeat (first | exact .nil | refine .cons (by repeat (first | exact .here | apply Pick.there)) ?_))))
    (by
      intro hg9
      have hs10 := hg9; try simp only [decide_eq_true_eq, decide_eq_false_iff_not, Bool.not_eq_true', Bool.not_eq_false', Bool.and_eq_true, Bool.or_eq_true, Bool.and_eq_false_iff, Bool.or_eq_false_iff, Bool.not_true, Bool.not_false] at hs10
      refine o_off 14 _ rfl rfl hg9 rfl ?_
      refine o_off 14 _ rfl rfl hg9 rfl ?_
      refine o_off 14 _ rfl rfl hg9 rfl ?_
      refine o_off' 17 rfl rfl rfl ?_
      refine o_off' 17 rfl rfl rfl ?_
      refine o_off 14 _ rfl rfl hg9 rfl ?_
      refine o_p (p_pickf rfl rfl hg9 rfl) rfl ?_
      refine o_nil ?_
      exact s_joinN 7 21 _ rfl rfl rfl (fun w h => by first | exact h | exact h.ent (by repeat (first | exact .nil | refine .cons (by repeat (first | exact .here | apply Pick.there)) ?_)))) ?_
  refine o_p (p_pure rfl) rfl ?_
  refine o_nil ?_
  exact s_retv (rs := [.tmp 4]) rfl (.tmp rfl (.nil)) (fun w' h' => ⟨by simp only [retV, clsh], h'.below⟩)

set_option maxRecDepth 20000 in
theorem c60 (w : World) (a b c d : Int) : Calls Try.prog 60 #[.agg #[.int .i64 a, .int .i64 b], .agg #[.int .i64 c, .int .i64 d]] w fun en w' => en = .returned (.bool (refLt (a, b) (c, d))) ∧ Below w.heap.size w w' := by
  refine enter (args := [_, _]) Try.func60 Try.ntmps60 rfl rfl (HS.refl w []) ?_
  refine s_seq ?_
  refine s_region ?_
  refine o_h (h_box rfl rfl) rfl (fun b1 _ => ?_)
  refine o_h (h_box rfl rfl) rfl (fun b2 _ => ?_)
  refine o_p (p_pure rfl) rfl ?_
  refine o_nil ?_
  refine s_seq ?_
  refine s_region ?_
  refine o_p (p_fieldAddr rfl rfl fd_42_0 sz_3 rfl) rfl ?_
  refine o_q (q_load rfl rfl sz_3 (by repeat (first | exact .here | apply Pick.there)) rfl) rfl ?_
  refine o_p (p_fieldAddr rfl rfl fd_42_0 sz_3 rfl) rfl ?_
  refine o_q (q_load rfl rfl sz_3 (by repeat (first | exact .here | apply Pick.there)) rfl) rfl ?_
  refine o_p (p_pure rfl) rfl ?_
  refine o_p (p_pure rfl) rfl ?_
  refine o_or 13 10 23 _ _ rfl
    (by
      intro hg3
      have hs4 := hg3; try simp only [decide_eq_true_eq, decide_eq_false_iff_not, Bool.not_eq_true', Bool.not_eq_false', Bool.and_eq_true, Bool.or_eq_true, Bool.and_eq_false_iff, Bool.or_eq_false_iff, Bool.not_true, Bool.not_false] at hs4
      refine o_on 10 _ rfl rfl hg3 ?_
      refine o_p (p_fieldAddr rfl rfl fd_42_0 sz_3 rfl) rfl ?_
      refine o_on 10 _ rfl rfl hg3 ?_
      refine o_q (q_load rfl rfl sz_3 (by repeat (first | exact .here | apply Pick.there)) rfl) rfl ?_
      refine o_on 10 _ rfl rfl hg3 ?_
      refine o_p (p_fieldAddr rfl rfl fd_42_0 sz_3 rfl) rfl ?_
      refine o_on 10 _ rfl rfl hg3 ?_
      refine o_q (q_load rfl rfl sz_3 (by repeat (first | exact .here | apply Pick.there)) rfl) rfl ?_
      refine o_on 10 _ rfl rfl hg3 ?_
      refine o_p (p_pure rfl) rfl ?_
      refine o_on 10 _ rfl rfl hg3 ?_
      refine o_p (p_pure rfl) rfl ?_
      refine o_and 6 16 22 _ _ rfl
        (by
          intro hg5
          have hs6 := hg5; try simp only [decide_eq_true_eq, decide_eq_false_iff_not, Bool.not_eq_true', Bool.not_eq_false', Bool.and_eq_true, Bool.or_eq_true, Bool.and_eq_false_iff, Bool.or_eq_false_iff, Bool.not_true, Bool.not_false] at hs6
          refine o_on 16 _ rfl rfl hg5 ?_
          refine o_p (p_fieldAddr rfl rfl fd_42_1 sz_3 rfl) rfl ?_
          refine o_on 16 _ rfl rfl hg5 ?_
          refine o_q (q_load rfl rfl sz_3 (by repeat (first | exact .here | apply Pick.there)) rfl) rfl ?_
          refine o_on 16 _ rfl rfl hg5 ?_
          refine o_p (p_fieldAddr rfl rfl fd_42_1 sz_3 rfl) rfl ?_
          refine o_on 16 _ rfl rfl hg5 ?_
          refine o_q (q_load rfl rfl sz_3 (by repeat (first | exact .here | apply Pick.there)) rfl) rfl ?_
          refine o_on 16 _ rfl rfl hg5 ?_
          refine o_p (p_pure rfl) rfl ?_
          refine o_on 10 _ rfl rfl hg3 ?_
          refine o_p (p_pickt rfl rfl hg5 rfl) rfl ?_
          refine o_nil ?_
          exact s_joinN 6 22 _ rfl rfl rfl (fun w h => by first | exact h | exact h.ent (by repeat (first | exact .nil | refine .cons (by repeat (first | exact .here | apply Pick.there)) ?_))))
        (by
          intro hg7
          have hs8 := hg7; try simp only [decide_eq_true_eq, decide_eq_false_iff_not, Bool.not_eq_true', Bool.not_eq_false', Bool.and_eq_true, Bool.or_eq_true, Bool.and_eq_false_iff, Bool.or_eq_false_iff, Bool.not_true, Bool.not_false] at hs8
          refine o_off 16 _ rfl rfl hg7 rfl ?_
          refine o_off 16 _ rfl rfl hg7 rfl ?_
          refine o_off 16 _ rfl rfl hg7 rfl ?_
          refine o_off 16 _ rfl rfl hg7 rfl ?_
          refine o_off 16 _ rfl rfl hg7 rfl ?_
          refine o_on 10 _ rfl rfl hg3 ?_
          refine o_p (p_pickf rfl rfl hg7 rfl) rfl ?_
          refine o_nil ?_
          exact s_joinN 6 22 _ rfl rfl rfl (fun w h => by first | exact h | exact h.ent (by repeat (first | exact .nil | refine .cons (by repeat (first | exact .here | apply Pick.there)) ?_)))) ?_
      refine o_p (p_pickf rfl rfl hg3 rfl) rfl ?_
      refine o_nil ?_
      exact s_joinN 8 23 _ rfl rfl rfl (fun w h => by first | exact h | exact h.ent (by repeat (first | exact .nil | refine .cons (by repeat (first | exact .here | apply Pick.there)) ?_))))
    (by
      intro hg9
      have hs10 := hg9; try simp only [decide_eq_true_eq, decide_eq_false_iff_not, Bool.not_eq_true', Bool.not_eq_false', Bool.and_eq_true, Bool.or_eq_true, Bool.and_eq_false_iff, Bool.or_eq_false_iff, Bool.not_true, Bool.not_false] at hs10
      refine o_off 10 _ rfl rfl hg9 rfl ?_
      refine o_off 10 _ rfl rfl hg9 rfl ?_
      refine o_off 10 _ rfl rfl hg9 rfl ?_
      refine o_off 10 _ rfl rfl hg9 rfl ?_
      refine o_off 10 _ rfl rfl hg9 rfl ?_
      refine o_off 10 _ rfl rfl hg9 rfl ?_
      refine o_off' 16 rfl rfl rfl ?_
      refine o_off' 16 rfl rfl rfl ?_
      refine o_off' 16 rfl rfl rfl ?_
      refine o_off' 16 rfl rfl rfl ?_
      refine o_off' 16 rfl rfl rfl ?_
      refine o_off 10 _ rfl rfl hg9 rfl ?_
      refine o_p (p_pickt rfl rfl hg9 rfl) rfl ?_
      refine o_nil ?_
      exact s_joinN 13 23 _ rfl rfl rfl (fun w h => by first | exact h | exact h.ent (by repeat (first | exact .nil | refine .cons (by repeat (first | exact .here | apply Pick.there)) ?_)))) ?_
  refine o_p (p_pure rfl) rfl ?_
  refine o_nil ?_
  exact s_retv (rs := [.tmp 4]) rfl (.tmp rfl (.nil)) (fun w' h' => ⟨by simp only [retV, refLt], h'.below⟩)

set_option maxRecDepth 20000 in
theorem c119 (w : World) (x : Int) : Calls Try.prog 119 #[.int .i64 x] w fun en w' => en = .returned (.bool false) ∧ Below w.heap.size w w' := by
  refine enter (args := [_]) Try.func119 Try.ntmps119 rfl rfl (HS.refl w []) ?_
  refine s_seq ?_
  refine s_region ?_
  refine o_p (p_pure rfl) rfl ?_
  refine o_nil ?_
  refine s_seq ?_
  refine s_region ?_
  refine o_p (p_pure rfl) rfl ?_
  refine o_p (p_pure rfl) rfl ?_
  refine o_p (p_pure rfl) rfl ?_
  refine o_p (p_pure rfl) rfl ?_
  refine o_nil ?_
  exact s_retv (rs := [.tmp 2]) rfl (.tmp rfl (.nil)) (fun w' h' => ⟨by simp only [retV]; simp, h'.below⟩)

set_option maxRecDepth 20000 in
theorem c91 (w : World) (x y : Int) : Calls Try.prog 91 #[.int .i64 x, .int .i64 y] w fun en w' => en = .returned (.int .i64 (cmpI x y)) ∧ Below w.heap.size w w' := by
  refine enter (args := [_, _]) Try.func91 Try.ntmps91 rfl rfl (HS.refl w []) ?_
  refine s_seq ?_
  refine s_region ?_
  refine o_p (p_pure rfl) rfl ?_
  refine o_nil ?_
  refine s_seq ?_
  refine s_region ?_
  refine o_p (p_pure rfl) rfl ?_
  refine o_q (q_call rfl fn_119 rfl (fun w1 h1 => c119 w1 _)) rfl ?_
  refine o_p (p_pure rfl) rfl ?_
  refine o_nil ?_
  refine s_seq ?_
  refine s_region ?_
  refine o_p (p_pure rfl) rfl ?_
  refine o_q (q_call rfl fn_119 rfl (fun w1 h1 => c119 w1 _)) rfl ?_
  refine o_p (p_pure rfl) rfl ?_
  refine o_nil ?_
  refine s_seq ?_
  refine s_seq ?_
  refine s_region ?_
  refine o_p (p_pure rfl) rfl ?_
  refine o_nil ?_
  refine s_cond rfl (fun h1 => ?_) (fun h1 => ?_)
  · try simp only [decide_eq_true_eq, decide_eq_false_iff_not, Bool.not_eq_true', Bool.not_eq_false', Bool.and_eq_true, Bool.or_eq_true, Bool.and_eq_false_iff, Bool.or_eq_false_iff, Bool.not_true, Bool.not_false] at h1
    exfalso; first | omega | (simp at h1; done) | (simp_all; done)
  · try simp only [decide_eq_true_eq, decide_eq_false_iff_not, Bool.not_eq_true', Bool.not_eq_false', Bool.and_eq_true, Bool.or_eq_true, Bool.and_eq_false_iff, Bool.or_eq_false_iff, Bool.not_true, Bool.not_false] at h1
    refine s_skip ?_
    refine s_seq ?_
    refine s_seq ?_
    refine s_region ?_
    refine o_p (p_pure rfl) rfl ?_
    refine o_nil ?_
    refine s_cond rfl (fun h2 => ?_) (fun h2 => ?_)
    · try simp only [decide_eq_true_eq, decide_eq_false_iff_not, Bool.not_eq_true', Bool.not_eq_false', Bool.and_eq_true, Bool.or_eq_true, Bool.and_eq_false_iff, Bool.or_eq_false_iff, Bool.not_true, Bool.not_false] at h2
      exfalso; first | omega | (simp at h2; done) | (simp_all; done)
    · try simp only [decide_eq_true_eq, decide_eq_false_iff_not, Bool.not_eq_true', Bool.not_eq_false', Bool.and_eq_true, Bool.or_eq_true, Bool.and_eq_false_iff, Bool.or_eq_false_iff, Bool.not_true, Bool.not_false] at h2
      refine s_skip ?_
      refine s_seq ?_
      refine s_seq ?_
      refine s_region ?_
      refine o_p (p_pure rfl) rfl ?_
      refine o_p (p_pure rfl) rfl ?_
      refine o_p (p_pure rfl) rfl ?_
      refine o_nil ?_
      refine s_cond rfl (fun h3 => ?_) (fun h3 => ?_)
      · try simp only [decide_eq_true_eq, decide_eq_false_iff_not, Bool.not_eq_true', Bool.not_eq_false', Bool.and_eq_true, Bool.or_eq_true, Bool.and_eq_false_iff, Bool.or_eq_false_iff, Bool.not_true, Bool.not_false] at h3
        refine s_seq ?_
        refine s_region ?_
        refine o_p (p_pure rfl) rfl ?_
        refine o_nil ?_
        exact s_retv (rs := [.tmp 4]) rfl (.tmp rfl (.nil)) (fun w' h' => ⟨by simp only [retV, cmpI]; grind, h'.below⟩)
      · try simp only [decide_eq_true_eq, decide_eq_false_iff_not, Bool.not_eq_true', Bool.not_eq_false', Bool.and_eq_true, Bool.or_eq_true, Bool.and_eq_false_iff, Bool.or_eq_false_iff, Bool.not_true, Bool.not_false] at h3
        refine s_skip ?_
        refine s_seq ?_
        refine s_seq ?_
        refine s_region ?_
        refine o_p (p_pure rfl) rfl ?_
        refine o_p (p_pure rfl) rfl ?_
        refine o_p (p_pure rfl) rfl ?_
        refine o_nil ?_
        refine s_cond rfl (fun h4 => ?_) (fun h4 => ?_)
        · try simp only [decide_eq_true_eq, decide_eq_false_iff_not, Bool.not_eq_true', Bool.not_eq_false', Bool.and_eq_true, Bool.or_eq_true, Bool.and_eq_false_iff, Bool.or_eq_false_iff, Bool.not_true, Bool.not_false] at h4
          refine s_seq ?_
          refine s_region ?_
          refine o_p (p_pure rfl) rfl ?_
          refine o_nil ?_
          exact s_retv (rs := [.tmp 4]) rfl (.tmp rfl (.nil)) (fun w' h' => ⟨by simp only [retV, cmpI]; grind, h'.below⟩)
        · try simp only [decide_eq_true_eq, decide_eq_false_iff_not, Bool.not_eq_true', Bool.not_eq_false', Bool.and_eq_true, Bool.or_eq_true, Bool.and_eq_false_iff, Bool.or_eq_false_iff, Bool.not_true, Bool.not_false] at h4
          refine s_skip ?_
          refine s_seq ?_
          refine s_region ?_
          refine o_p (p_pure rfl) rfl ?_
          refine o_nil ?_
          exact s_retv (rs := [.tmp 4]) rfl (.tmp rfl (.nil)) (fun w' h' => ⟨by simp only [retV, cmpI]; grind, h'.below⟩)

set_option maxRecDepth 20000 in
theorem c90 (w : World) (a : Option Addr) (cap : Nat) (es : List Int) (hs : Sl w [] a 1 es.length (fun i => [.int .i64 (es.getD i 0)])) (hm : es.length ≤ 1000) : Calls Try.prog 90 #[.slice a es.length cap] w fun en w' => en = .returned (.int .i64 (firstI es)) ∧ Below w.heap.size w w' := by
  refine enter (args := [_]) Try.func90 Try.ntmps90 rfl rfl (HS.refl w []) ?_
  refine s_seq ?_
  refine s_region ?_
  refine o_p (p_pure rfl) rfl ?_
  refine o_nil ?_
  refine s_seq ?_
  refine s_region ?_
  refine o_p (p_pure rfl) rfl ?_
  refine o_nil ?_
  refine s_seq ?_
  refine s_seq ?_
  refine s_region ?_
  refine o_p (p_pure rfl) rfl ?_
  first | refine o_p (p_len_slice rfl rfl Try.underlying38) rfl ?_ | refine o_q (q_len_own rfl rfl Try.underlying38 (by repeat (first | exact .here | apply Pick.there))) rfl ?_
  refine o_p (p_pure rfl) rfl ?_
  refine o_nil ?_
  refine s_block ?_
  refine s_loopI (α := Nat) [2, 5, 8, 9, 10, 11, 12, 13, 14, 15, 16] (fun k => [(8, .int .i64 (k : Int))]) (fun _ => _) (fun k => k ≤ es.length ∧ firstI es = firstI (es.drop k)) (fun k => es.length - k) 0 ⟨by omega, rfl⟩ (by repeat (first | exact sl_n | refine sl_c rfl ?_)) (fun w h => h) (fun k hk => ?_)
  obtain ⟨hk1, hk2⟩ := hk
  refine s_seq ?_
  refine s_region ?_
  refine o_p (p_pure rfl) rfl ?_
  refine o_nil ?_
  refine s_seq ?_
  refine s_cond rfl (fun h1 => ?_) (fun h1 => ?_)
  · try simp only [decide_eq_true_eq, decide_eq_false_iff_not, Bool.not_eq_true', Bool.not_eq_false', Bool.and_eq_true, Bool.or_eq_true, Bool.and_eq_false_iff, Bool.or_eq_false_iff, Bool.not_true, Bool.not_false] at h1
    refine s_skip ?_
    refine s_seq ?_
    refine s_block ?_
    refine s_seq ?_
    refine s_region ?_
    first | refine o_p (p_indexAddr rfl rfl rfl sl_38 _ rfl (by omega) rfl) rfl ?_ | refine o_p (p_indexAddr rfl rfl rfl sl_38 (Int.toNat _) (Int.toNat_of_nonneg (by omega)).symm (by omega) rfl) rfl ?_ | refine o_p (p_indexAddr rfl rfl rfl sl_38 _ rfl (by omega) (hs.some (by omega))) rfl ?_ | refine o_p (p_indexAddr rfl rfl rfl sl_38 (Int.toNat _) (Int.toNat_of_nonneg (by omega)).symm (by omega) (hs.some (by omega))) rfl ?_
    first | refine o_q (q_load rfl rfl sz_3 (by repeat (first | exact .here | apply Pick.there)) rfl) rfl ?_ | refine o_q (q_load_old rfl rfl sz_3 (hs.rd (i := k) (j := 0) (by omega) rfl)) rfl ?_
    refine o_p (p_pure rfl) rfl ?_
    refine o_nil ?_
    refine s_seq ?_
    refine s_region ?_
    refine o_p (p_pure rfl) rfl ?_
    refine o_p (p_pure rfl) rfl ?_
    refine o_p (p_pure rfl) rfl ?_
    refine o_nil ?_
    refine s_cond rfl (fun h2 => ?_) (fun h2 => ?_)
    · try simp only [decide_eq_true_eq, decide_eq_false_iff_not, Bool.not_eq_true', Bool.not_eq_false', Bool.and_eq_true, Bool.or_eq_true, Bool.and_eq_false_iff, Bool.or_eq_false_iff, Bool.not_true, Bool.not_false] at h2
      refine s_seq ?_
      refine s_region ?_
      refine o_p (p_pure rfl) rfl ?_
      refine o_p (p_pure rfl) rfl ?_
      refine o_nil ?_
      exact s_retv (rs := [.tmp 2]) rfl (.tmp rfl (.nil)) (fun w' h' => ⟨by simp only [retV]; rw [hk2, firstI_drop (by omega), if_neg (by assumption)], h'.below⟩)
    · try simp only [decide_eq_true_eq, decide_eq_false_iff_not, Bool.not_eq_true', Bool.not_eq_false', Bool.and_eq_true, Bool.or_eq_true, Bool.and_eq_false_iff, Bool.or_eq_false_iff, Bool.not_true, Bool.not_false] at h2
      refine s_skip ?_
      refine s_blk ?_
      refine s_region ?_
      refine o_p (p_pure rfl) rfl ?_
      try (refine o_slot (i64w (by omega) (by omega)) ?_)
      refine o_p (p_pure rfl) rfl ?_
      refine o_nil ?_
      exact s_backI (k+1) (by omega) ⟨by omega, by rw [hk2, firstI_drop (by omega), if_pos (by assumption)]⟩ (by repeat (first | exact sl_n | refine sl_c rfl ?_)) (fun w h => h)
  · try simp only [decide_eq_true_eq, decide_eq_false_iff_not, Bool.not_eq_true', Bool.not_eq_false', Bool.and_eq_true, Bool.or_eq_true, Bool.and_eq_false_iff, Bool.or_eq_false_iff, Bool.not_true, Bool.not_false] at h1
    refine s_exit_to rfl ?_
    refine s_seq ?_
    refine s_region ?_
    refine o_p (p_pure rfl) rfl ?_
    refine o_p (p_pure rfl) rfl ?_
    refine o_nil ?_
    exact s_retv (rs := [.tmp 2]) rfl (.tmp rfl (.nil)) (fun w' h' => ⟨by simp only [retV]; rw [hk2, firstI_end (by omega)], h'.below⟩)

theorem f90 {w0 w : World} {M : List Nat} {As As' : List HA} {b cap n : Nat} {t : TypeId} {tot : Nat} {cs : List Value} (h : HS w0 M As w) (hp : Pick As (.blk b t tot cs) As') (hc : cs.all isI64 = true) (hn : cs.length = n) (hl : n ≤ 1000) :
    Calls Try.prog 90 #[.slice (some ⟨b, 0, none⟩) n cap] w fun en w' => en = .returned (.int .i64 (firstV cs)) ∧ Below w.heap.size w w' := by
  subst hn
  have := c90 w (some ⟨b, 0, none⟩) cap (cs.map intOf) (by simpa using h.sl_ints hp hc) (by simpa using hl)
  rw [firstV_eq hc] at this
  simpa using this

set_option maxRecDepth 20000 in
theorem c56 (w : World) (a b c d : Int) : Calls Try.prog 56 #[.agg #[.int .i64 a, .int .i64 b], .agg #[.int .i64 c, .int .i64 d]] w fun en w' => en = .returned (.int .i64 (cmp2 (a, b) (c, d))) ∧ Below w.heap.size w w' := by
  refine enter (args := [_, _]) Try.func56 Try.ntmps56 rfl rfl (HS.refl w []) ?_
  refine s_seq ?_
  refine s_region ?_
  refine o_h (h_box rfl rfl) rfl (fun b1 _ => ?_)
  refine o_h (h_box rfl rfl) rfl (fun b2 _ => ?_)
  refine o_p (p_pure rfl) rfl ?_
  refine o_nil ?_
  refine s_seq ?_
  refine s_draw [] mixed ?_
  refine d_p 0 rfl (p_fieldAddr rfl rfl fd_42_0 sz_3 rfl) (by kernel_rfl) rfl rfl ?_
  refine d_q 1 [] rfl (q_load rfl rfl sz_3 (by repeat (first | exact .here | apply Pick.there)) rfl) (by kernel_rfl) (by kernel_rfl) (by kernel_rfl) rfl ?_
  refine d_p 2 rfl (p_fieldAddr rfl rfl fd_42_0 sz_3 rfl) (by kernel_rfl) rfl rfl ?_
  refine d_q 3 [] rfl (q_load rfl rfl sz_3 (by repeat (first | exact .here | apply Pick.there)) rfl) (by kernel_rfl) (by kernel_rfl) (by kernel_rfl) rfl ?_
  refine d_q 4 [] rfl (q_call rfl fn_91 rfl (fun w1 h1 => c91 w1 _ _)) (by kernel_rfl) (by kernel_rfl) (by kernel_rfl) rfl ?_
  refine d_p 5 rfl (p_fieldAddr rfl rfl fd_42_1 sz_3 rfl) (by kernel_rfl) rfl rfl ?_
  refine d_q 6 [] rfl (q_load rfl rfl sz_3 (by repeat (first | exact .here | apply Pick.there)) rfl) (by kernel_rfl) (by kernel_rfl) (by kernel_rfl) rfl ?_
  refine d_p 7 rfl (p_fieldAddr rfl rfl fd_42_1 sz_3 rfl) (by kernel_rfl) rfl rfl ?_
  refine d_q 8 [] rfl (q_load rfl rfl sz_3 (by repeat (first | exact .here | apply Pick.there)) rfl) (by kernel_rfl) (by kernel_rfl) (by kernel_rfl) rfl ?_
  refine d_q 9 [] rfl (q_call rfl fn_91 rfl (fun w1 h1 => c91 w1 _ _)) (by kernel_rfl) (by kernel_rfl) (by kernel_rfl) rfl ?_
  refine d_h 10 rfl (h_buildSlice (cs := [_, _]) rfl rfl sl_38 zr_3 rfl rfl rfl) (by kernel_rfl) (fun w h => h.ent (by repeat (first | exact .nil | refine .cons (by repeat (first | exact .here | apply Pick.there)) ?_))) rfl (fun b3 _ => ?_)
  refine d_base (fun w h => h.ent (by repeat (first | exact .nil | refine .cons (by repeat (first | exact .here | apply Pick.there)) ?_))) ?_
  refine d_q 11 [] rfl (q_call rfl fn_90 rfl (fun w1 h1 => f90 h1 (by repeat (first | exact .here | apply Pick.there)) (by rfl) (by rfl) (by decide))) (by kernel_rfl) (by kernel_rfl) (by kernel_rfl) rfl ?_
  refine d_p 12 rfl (p_pure rfl) (by kernel_rfl) rfl rfl ?_
  refine d_nil (by kernel_rfl) (fun w h => h.ent (by repeat (first | exact .nil | refine .cons (by repeat (first | exact .here | apply Pick.there)) ?_))) ?_
  exact s_retv (rs := [.tmp 4]) rfl (.tmp rfl (.nil)) (fun w' h' => ⟨by simp only [retV, cmp2]; rfl, h'.below⟩)

end Go.Proofs
