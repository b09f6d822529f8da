/- Contracts of the program's functions, proved by walking them with the rules of the Gx texts; without conditions beyond those that each contract names. -/
import Derived.Test.YtaffndpaehiafaaC07ZD
namespace Go.Proofs
open Go Go.RowKit Gx
set_option linter.unusedVariables false
set_option linter.unusedSimpArgs false
attribute [local irreducible] Go.Calls Gx.S Gx.O Gx.D Gx.OpP Gx.OpQ Gx.OpH

theorem fn_94 : isFn Try.prog 94 = true := by kernel_rfl


theorem hasF_at {fs : Fds} {u : Int} (ok : FOk fs) {k : Nat} (hk : k < fs.length) (h : (fd fs k).1 = u) : hasF fs u = true ∧ lbF fs u = k := by
  have h1 : lbF fs u = k := lbF_eq (Nat.le_of_lt hk) (fun i hi => by have := ok.lt i k hi hk; omega) (fun _ => by omega)
  refine ⟨?_, h1⟩
  unfold hasF
  rw [h1]
  simp [hk, h]
theorem hasF_lb {fs : Fds} {u : Int} (h : hasF fs u = true) : lbF fs u < fs.length ∧ (fd fs (lbF fs u)).1 = u := by
  simpa [hasF] using h
theorem bsB_any {fs : Fds} {u : Int} (ok : FOk fs) (hu : -9223372036854775808 ≤ u ∧ u ≤ 9223372036854775807) : bsB fs u = hasF fs u ∧ (hasF fs u = true → bsF fs u = lbF fs u) := by
  by_cases hr : -100000 ≤ u ∧ u ≤ 100000
  · refine ⟨bsF_ok ok hr, fun _ => ?_⟩
    exact bsR_lb ok hr fs.length 0 fs.length (by omega) (Bs.init fs u)
  · have hf : hasF fs u = false := by
      cases hc : hasF fs u with
      | false => rfl
      | true =>
        obtain ⟨h1, h2⟩ := hasF_lb hc
        have := ok.user _ h1
        omega
    refine ⟨?_, fun h => by rw [hf] at h; cases h⟩
    rw [hf]
    unfold bsB
    by_cases hl : bsF fs u < fs.length
    · have h3 := ok.user _ hl
      have h4 : IntKind.i64.wrap ((fd fs (bsF fs u)).1 - u) ≠ 0 := by
        intro h5
        have h6 : (((fd fs (bsF fs u)).1 - u) % 18446744073709551616 = 0) := by
          rw [IntKind.wrap_i64] at h5
          omega
        omega
      simp [h4]
    · simp [hl]
theorem flatF_append (fs gs : Fds) : flatF (fs ++ gs) = flatF fs ++ flatF gs := by simp [flatF]
theorem flatF_take (fs : Fds) (i : Nat) : (flatF fs).take (i * 2) = flatF (fs.take i) := by
  rcases Nat.lt_or_ge i fs.length with h | h
  · conv => lhs; rw [← List.take_append_drop i fs, flatF_append]
    rw [List.take_append_of_le_length (by rw [flatF_length, List.length_take]; omega), List.take_of_length_le (by rw [flatF_length, List.length_take]; omega)]
  · rw [List.take_of_length_le (by rw [flatF_length]; omega), List.take_of_length_le h]
theorem flatF_drop (fs : Fds) (i : Nat) : (flatF fs).drop (i * 2) = flatF (fs.drop i) := by
  rcases Nat.lt_or_ge i fs.length with h | h
  · conv => lhs; rw [← List.take_append_drop i fs, flatF_append]
    rw [List.drop_append_of_le_length (by rw [flatF_length, List.length_take]; omega), List.drop_of_length_le (by rw [flatF_length, List.length_take]; omega), List.nil_append]
  · rw [List.drop_of_length_le (by rw [flatF_length]; omega), List.drop_of_length_le h]; rfl
def remL (fs : Fds) (i : Nat) : Fds := fs.take i ++ fs.drop (i + 1)
theorem remL_length {fs : Fds} {i : Nat} (h : i < fs.length) : (remL fs i).length = fs.length - 1 := by
  unfold remL
  rw [List.length_append, List.length_take, List.length_drop]
  omega
def remT (fs : Fds) (u : Int) : Fds × Int := if (chkF fs).2 = 0 then if hasF fs u = true then if fs.length ≤ 1 then ([], 20) else (remL fs (lbF fs u), 0) else ([], 6) else ([], (chkF fs).2)
theorem rem_chk {fs : Fds} {u : Int} (h : ¬ (chkF fs).2 = 0) : remT fs u = ([], (chkF fs).2) := by unfold remT; rw [if_neg h]
theorem rem_no {fs : Fds} {u : Int} (h0 : (chkF fs).2 = 0) (h : hasF fs u = false) : remT fs u = ([], 6) := by unfold remT; rw [if_pos h0, if_neg (by rw [h]; decide)]
theorem rem_one {fs : Fds} {u : Int} (h0 : (chkF fs).2 = 0) (h : hasF fs u = true) (h1 : fs.length ≤ 1) : remT fs u = ([], 20) := by unfold remT; rw [if_pos h0, if_pos h, if_pos h1]
theorem rem_ok {fs : Fds} {u : Int} (h0 : (chkF fs).2 = 0) (h : hasF fs u = true) (h1 : ¬ fs.length ≤ 1) : remT fs u = (remL fs (lbF fs u), 0) := by unfold remT; rw [if_pos h0, if_pos h, if_neg h1]
theorem rem_first {fs : Fds} {u : Int} (ok : FOk fs) (hu : -9223372036854775808 ≤ u ∧ u ≤ 9223372036854775807) (h0 : (chkF fs).2 = 0) (h : ¬ firstV [.int .i64 (bif bsB fs u then 0 else 6), .int .i64 (bif decide ((1 : Int) < (fs.length : Int)) then 0 else 20)] = 0) :
    remT fs u = ([], firstV [.int .i64 (bif bsB fs u then 0 else 6), .int .i64 (bif decide ((1 : Int) < (fs.length : Int)) then 0 else 20)]) := by
  rw [(bsB_any ok hu).1] at h ⊢
  simp only [firstV, cond_eq_ite, decide_eq_true_eq] at h ⊢
  cases hc : hasF fs u with
  | false => rw [rem_no h0 hc]; simp
  | true =>
    rw [hc] at h
    simp only [if_true, ne_eq] at h ⊢
    rw [rem_one h0 hc (by grind)]
    grind
theorem rem_fine {fs : Fds} {u : Int} (ok : FOk fs) (hu : -9223372036854775808 ≤ u ∧ u ≤ 9223372036854775807) (h0 : (chkF fs).2 = 0) (h : firstV [.int .i64 (bif bsB fs u then 0 else 6), .int .i64 (bif decide ((1 : Int) < (fs.length : Int)) then 0 else 20)] = 0) :
    hasF fs u = true ∧ bsF fs u = lbF fs u ∧ lbF fs u < fs.length ∧ 1 < fs.length := by
  have hb := bsB_any ok hu
  rw [hb.1] at h
  simp only [firstV, cond_eq_ite, decide_eq_true_eq] at h
  have hc : hasF fs u = true := by
    cases hc : hasF fs u with
    | true => rfl
    | false => rw [hc] at h; simp at h
  rw [hc] at h
  simp only [if_true] at h
  exact ⟨hc, hb.2 hc, (hasF_lb hc).1, by grind⟩
theorem keyFor_first {fs : Fds} {u : Int} {own : List UInt8} (h : ¬ firstV [.int .i64 (chkF fs).2, .int .i64 (holdE u own)] = 0) : keyForE fs u own = ([], firstV [.int .i64 (chkF fs).2, .int .i64 (holdE u own)]) := by
  simp only [firstV] at h ⊢
  unfold keyForE
  grind
theorem keyFor_fine {fs : Fds} {u : Int} {own : List UInt8} (h : firstV [.int .i64 (chkF fs).2, .int .i64 (holdE u own)] = 0) : (chkF fs).2 = 0 ∧ holdE u own = 0 ∧ keyForE fs u own = keyForT fs u own := by
  simp only [firstV] at h
  unfold keyForE
  grind
theorem idF_lt {fs : Fds} {u : Int} : 0 ≤ atR fs u ↔ idF fs u < fs.length := by unfold atR; split <;> omega
theorem skip_ext {fs : Fds} {i k : Nat} (hk : k < fs.length) (h : k ≠ i) : remL (fs.take (k + 1)) i = remL (fs.take k) i ++ [fd fs k] := by
  apply List.ext_getElem?
  intro j
  have e : fs[k]? = some (fd fs k) := by rw [List.getElem?_eq_getElem hk, fd_get hk]
  simp only [remL, List.getElem?_append, List.getElem?_take, List.getElem?_drop, List.length_append, List.length_take, List.length_drop]
  grind
theorem skip_succ {fs : Fds} {i k : Nat} (hk : k < fs.length) (h : k ≠ i) : flatF (remL (fs.take (k + 1)) i) = flatF (remL (fs.take k) i) ++ fldC (fd fs k) := by
  rw [skip_ext hk h, flatF_append]
  simp [flatF]
theorem skip_same {fs : Fds} {k : Nat} : remL (fs.take (k + 1)) k = remL (fs.take k) k := by
  apply List.ext_getElem?
  intro j
  simp only [remL, List.getElem?_append, List.getElem?_take, List.getElem?_drop, List.length_append, List.length_take, List.length_drop]
  grind
theorem y94 (w : World) (a : Option Addr) (cap : Nat) (fs : Fds) (i : Nat) (hf : HS w (fps [.own (.slice a fs.length cap) 96 2 fs.length (flatF fs)]) [.own (.slice a fs.length cap) 96 2 fs.length (flatF fs)] w) (hi : i < fs.length) (hm : fs.length ≤ 1000) :
    Calls Try.prog 94 #[.slice a fs.length cap, .int .i64 i, .int .i64 ((i : Int) + 1)] w fun en w' => ∃ g : Unit, en = .returned (.slice a (remL fs i).length cap) ∧ True ∧ HS w (fps [.own (.slice a fs.length cap) 96 2 fs.length (flatF fs)]) [.own (.slice a (remL fs i).length cap) 96 2 (remL fs i).length (flatF (remL fs i))] w' := by
  have h9 := c94 w a i (i + 1) fs.length cap (flatF fs) hf (flatF_one fs) (by omega) (by omega) (by omega)
  rw [flatF_take, flatF_drop, ← flatF_append, show fs.length - (i + 1 - i) = (remL fs i).length by rw [remL_length hi]; omega] at h9
  exact h9

set_option maxRecDepth 20000 in
theorem c41 (w : World) (a : Option Addr) (cap : Nat) (fs : Fds) (hs : Fl w a fs) (hm : fs.length ≤ 1000) : Calls Try.prog 41 #[.slice a fs.length cap] w fun en w' => ∃ g : Option Addr × Nat, en = .returned (.slice g.1 fs.length g.2) ∧ True ∧ HS w [] [.own (.slice g.1 fs.length g.2) 96 2 fs.length (flatF fs)] w' := by
  refine enter (args := [_]) Try.func41 Try.ntmps41 rfl rfl (HS.refl w []) ?_
  refine s_seq ?_
  refine s_region ?_
  refine o_p (p_pure rfl) rfl ?_
  refine o_nil ?_
  refine s_seq ?_
  refine s_region ?_
  refine o_h (h_buildSlice0 rfl sl_41) rfl (fun b1 _ => ?_)
  refine o_p (p_pure rfl) rfl ?_
  refine o_h (h_appendS (flatF fs) rfl rfl rfl sl_41 Try.underlying41 zr_96 rfl (by repeat (first | exact .here | apply Pick.there)) (fun w h => hs.src h) (flatF_length fs) (flatF_one fs) (by omega) (by simp only [maxLen]; omega)) rfl (fun b2 _ => ?_)
  refine o_p (p_pure rfl) rfl ?_
  refine o_nil ?_
  exact s_retv (rs := [.tmp 2]) rfl (.tmp rfl (.nil)) (fun w' h' => ⟨b2, by simp only [retV, Nat.zero_add], trivial, by have h2 := h'; simp only [Nat.zero_add, List.nil_append] at h2; exact h2.ent (by repeat (first | exact .nil | refine .cons (by repeat (first | exact .here | apply Pick.there)) ?_))⟩)

set_option maxRecDepth 20000 in
theorem c43 (w : World) (a : Option Addr) (cap : Nat) (fs : Fds) (u : Int) (own : List UInt8) (hs : Fl w a fs) (hm : fs.length ≤ 1000) : Calls Try.prog 43 #[.slice a fs.length cap, .agg #[.int .i64 u, .string (bs own)]] w fun en w' => en = .returned (pairV (keyForE fs u own)) ∧ Below w.heap.size w w' := by
  refine enter (args := [_, _]) Try.func43 Try.ntmps43 rfl rfl (HS.refl w []) ?_
  refine s_seq ?_
  refine s_region ?_
  refine o_h (h_box rfl rfl) rfl (fun b1 _ => ?_)
  refine o_p (p_pure rfl) rfl ?_
  refine o_p (p_pure rfl) rfl ?_
  refine o_nil ?_
  refine s_seq ?_
  refine s_seq ?_
  refine s_draw [] mixed ?_
  refine d_p 0 rfl (p_pure rfl) (by kernel_rfl) rfl rfl ?_
  refine d_q 1 [] rfl (q_call rfl fn_92 rfl (fun w1 h1 => c92 w1 _ _ fs (hs.later h1) hm)) (by kernel_rfl) (by kernel_rfl) (by kernel_rfl) rfl ?_
  refine d_q 2 [] rfl (q_loadn rfl rfl sz_31 (by repeat (first | exact .here | apply Pick.there)) rfl) (by kernel_rfl) (by kernel_rfl) (by kernel_rfl) rfl ?_
  refine d_q 3 [] rfl (q_call rfl fn_60 rfl (fun w1 h1 => c60 w1 _ _)) (by kernel_rfl) (by kernel_rfl) (by kernel_rfl) rfl ?_
  refine d_h 4 rfl (h_buildSlice (cs := [_, _]) rfl rfl sl_140 zr_24 rfl rfl rfl) (by kernel_rfl) (fun w h => h.ent (by repeat (first | exact .nil | refine .cons (by repeat (first | exact .here | apply Pick.there)) ?_))) rfl (fun b2 _ => ?_)
  refine d_base (fun w h => h.ent (by repeat (first | exact .nil | refine .cons (by repeat (first | exact .here | apply Pick.there)) ?_))) ?_
  refine d_q 5 [] rfl (q_call rfl fn_59 rfl (fun w1 h1 => f59 h1 (by repeat (first | exact .here | apply Pick.there)) (by rfl) (by rfl) (by decide))) (by kernel_rfl) (by kernel_rfl) (by kernel_rfl) rfl ?_
  refine d_p 6 rfl (p_pure rfl) (by kernel_rfl) rfl rfl ?_
  refine d_nil (by kernel_rfl) (fun w h => h.ent (by repeat (first | exact .nil | refine .cons (by repeat (first | exact .here | apply Pick.there)) ?_))) ?_
  refine s_seq ?_
  refine s_region ?_
  refine o_p (p_pure rfl) rfl ?_
  refine o_p (p_pure rfl) rfl ?_
  refine o_nil ?_
  refine s_cond rfl (fun h3 => ?_) (fun h3 => ?_)
  · try simp only [decide_eq_true_eq, decide_eq_false_iff_not, Bool.not_eq_true', Bool.not_eq_false', Bool.and_eq_true, Bool.or_eq_true, Bool.and_eq_false_iff, Bool.or_eq_false_iff, Bool.not_true, Bool.not_false] at h3
    refine s_seq ?_
    refine s_region ?_
    refine o_p (p_pure rfl) rfl ?_
    refine o_p (p_pure rfl) rfl ?_
    refine o_p (p_pure rfl) rfl ?_
    refine o_nil ?_
    exact s_retv (rs := [.tmp 4, .tmp 5]) rfl (.tmp rfl (.tmp rfl (.nil))) (fun w' h' => ⟨by rw [keyFor_first h3]; rfl, h'.below⟩)
  · try simp only [decide_eq_true_eq, decide_eq_false_iff_not, Bool.not_eq_true', Bool.not_eq_false', Bool.and_eq_true, Bool.or_eq_true, Bool.and_eq_false_iff, Bool.or_eq_false_iff, Bool.not_true, Bool.not_false] at h3
    obtain ⟨hk0, hk1, hk2⟩ := keyFor_fine h3
    have ok := chkF_ok hk0
    refine s_skip ?_
    refine s_seq ?_
    refine s_region ?_
    refine o_p (p_pure rfl) rfl ?_
    refine o_q (q_loadn rfl rfl sz_31 (by repeat (first | exact .here | apply Pick.there)) rfl) rfl ?_
    refine o_q (q_call rfl fn_69 rfl (fun w1 h1 => c69 w1 a cap fs u own (hs.later h1) ok hk1)) rfl ?_
    refine o_p (p_pure rfl) rfl ?_
    refine o_p (p_pure rfl) rfl ?_
    refine o_p (p_pure rfl) rfl ?_
    refine o_p (p_pure rfl) rfl ?_
    refine o_nil ?_
    exact s_retv (rs := [.tmp 4, .tmp 5]) rfl (.tmp rfl (.tmp rfl (.nil))) (fun w' h' => ⟨by rw [hk2]; rfl, h'.below⟩)

set_option maxRecDepth 20000 in
theorem c45 (w : World) (a : Option Addr) (cap : Nat) (fs : Fds) (u : Int) (hs : Fl w a fs) (hm : fs.length ≤ 1000) (hu : -9223372036854775808 ≤ u ∧ u ≤ 9223372036854775807) : Calls Try.prog 45 #[.slice a fs.length cap, .int .i64 u] w fun en w' => ∃ g : Option Addr × Nat, en = .returned (.tuple #[.slice g.1 (remT fs u).1.length g.2, .int .i64 (remT fs u).2]) ∧ True ∧ HS w [] [.own (.slice g.1 (remT fs u).1.length g.2) 96 2 (remT fs u).1.length (flatF (remT fs u).1)] w' := by
  refine enter (args := [_, _]) Try.func45 Try.ntmps45 rfl rfl (HS.refl w []) ?_
  refine s_seq ?_
  refine s_region ?_
  refine o_p (p_pure rfl) rfl ?_
  refine o_p (p_pure rfl) rfl ?_
  refine o_nil ?_
  refine s_seq ?_
  refine s_seq ?_
  refine s_region ?_
  refine o_p (p_pure rfl) rfl ?_
  refine o_q (q_call rfl fn_92 rfl (fun w1 h1 => c92 w1 _ _ fs (hs.later h1) hm)) rfl ?_
  refine o_p (p_pure rfl) rfl ?_
  refine o_nil ?_
  refine s_seq ?_
  refine s_region ?_
  refine o_p (p_pure rfl) rfl ?_
  refine o_p (p_pure rfl) rfl ?_
  refine o_nil ?_
  refine s_cond rfl (fun h1 => ?_) (fun h1 => ?_)
  · try simp only [decide_eq_true_eq, decide_eq_false_iff_not, Bool.not_eq_true', Bool.not_eq_false', Bool.and_eq_true, Bool.or_eq_true, Bool.and_eq_false_iff, Bool.or_eq_false_iff, Bool.not_true, Bool.not_false] at h1
    refine s_seq ?_
    refine s_region ?_
    refine o_p (p_pure rfl) rfl ?_
    refine o_p (p_pure rfl) rfl ?_
    refine o_p (p_pure rfl) rfl ?_
    refine o_nil ?_
    exact s_retv (rs := [.tmp 4, .tmp 5]) rfl (.tmp rfl (.tmp rfl (.nil))) (fun w' h' => ⟨(none, 0), by rw [rem_chk h1]; rfl, trivial, by rw [rem_chk h1]; exact ((h').own_nil 96 2).ent (by repeat (first | exact .nil | refine .cons (by repeat (first | exact .here | apply Pick.there)) ?_))⟩)
  · try simp only [decide_eq_true_eq, decide_eq_false_iff_not, Bool.not_eq_true', Bool.not_eq_false', Bool.and_eq_true, Bool.or_eq_true, Bool.and_eq_false_iff, Bool.or_eq_false_iff, Bool.not_true, Bool.not_false] at h1
    have hk0 : (chkF fs).2 = 0 := h1
    have ok := chkF_ok hk0
    refine s_skip ?_
    refine s_seq ?_
    refine s_region ?_
    refine o_p (p_pure rfl) rfl ?_
    refine o_p (p_pure rfl) rfl ?_
    refine o_q (q_call rfl fn_85 rfl (fun w1 h1 => d85 w1 a cap fs u (hs.later h1) hm)) rfl ?_
    refine o_p (p_pure rfl) rfl ?_
    refine o_p (p_pure rfl) rfl ?_
    refine o_p (p_pure rfl) rfl ?_
    refine o_p (p_pure rfl) rfl ?_
    refine o_p (p_pure rfl) rfl ?_
    refine o_nil ?_
    refine s_seq ?_
    refine s_seq ?_
    refine s_region ?_
    refine o_p (p_pure rfl) rfl ?_
    refine o_q (q_call rfl fn_65 rfl (fun w1 h1 => c65 w1 _ _)) rfl ?_
    refine o_p (p_pure rfl) rfl ?_
    first | refine o_p (p_len_slice rfl rfl Try.underlying41) rfl ?_ | refine o_q (q_len_own rfl rfl Try.underlying41 (by repeat (first | exact .here | apply Pick.there))) rfl ?_
    refine o_p (p_pure rfl) rfl ?_
    refine o_q (q_call rfl fn_65 rfl (fun w1 h1 => c65 w1 _ _)) rfl ?_
    refine o_h (h_buildSlice (cs := [_, _]) rfl rfl sl_140 zr_24 rfl rfl rfl) rfl (fun b2 _ => ?_)
    refine o_q (q_call rfl fn_59 rfl (fun w1 h1 => f59 h1 (by repeat (first | exact .here | apply Pick.there)) (by rfl) (by rfl) (by decide))) rfl ?_
    refine o_p (p_pure rfl) rfl ?_
    refine o_nil ?_
    refine s_seq ?_
    refine s_region ?_
    refine o_p (p_pure rfl) rfl ?_
    refine o_p (p_pure rfl) rfl ?_
    refine o_nil ?_
    refine s_cond rfl (fun h3 => ?_) (fun h3 => ?_)
    · try simp only [decide_eq_true_eq, decide_eq_false_iff_not, Bool.not_eq_true', Bool.not_eq_false', Bool.and_eq_true, Bool.or_eq_true, Bool.and_eq_false_iff, Bool.or_eq_false_iff, Bool.not_true, Bool.not_false] at h3
      refine s_seq ?_
      refine s_region ?_
      refine o_p (p_pure rfl) rfl ?_
      refine o_p (p_pure rfl) rfl ?_
      refine o_p (p_pure rfl) rfl ?_
      refine o_nil ?_
      exact s_retv (rs := [.tmp 4, .tmp 5]) rfl (.tmp rfl (.tmp rfl (.nil))) (fun w' h' => ⟨(none, 0), by rw [rem_first ok hu hk0 h3]; rfl, trivial, by rw [rem_first ok hu hk0 h3]; exact ((h').own_nil 96 2).ent (by repeat (first | exact .nil | refine .cons (by repeat (first | exact .here | apply Pick.there)) ?_))⟩)
    · try simp only [decide_eq_true_eq, decide_eq_false_iff_not, Bool.not_eq_true', Bool.not_eq_false', Bool.and_eq_true, Bool.or_eq_true, Bool.and_eq_false_iff, Bool.or_eq_false_iff, Bool.not_true, Bool.not_false] at h3
      obtain ⟨g1, g2, g3, g4⟩ := rem_fine ok hu hk0 h3
      refine s_skip ?_
      refine s_seq ?_
      refine s_region ?_
      refine o_p (p_pure rfl) rfl ?_
      refine o_h (h_call rfl fn_73 rfl (fun w1 h1 => x73 w1 _ _ _ (hs.later h1) (by omega))) rfl (fun ge _ => ?_)
      refine o_p (p_pure rfl) rfl ?_
      refine o_p (p_pure rfl) rfl ?_
      refine o_p (p_pure rfl) rfl ?_
      try (refine o_slot (i64w (by omega) (by omega)) ?_)
      refine o_h (h_callF (Cs := [.own (.slice ge.1 fs.length ge.2) 96 2 fs.length (flatF fs)]) rfl fn_94 rfl (by repeat (first | exact Picks.nil | (apply Picks.cons; · (repeat (first | exact .here | apply Pick.there))))) (fun w1 h1 hf => y94 w1 _ _ fs (bsF fs u) hf (by omega) hm)) rfl (fun gd _ => ?_)
      refine o_p (p_pure rfl) rfl ?_
      refine o_p (p_pure rfl) rfl ?_
      refine o_nil ?_
      exact s_retv (rs := [.tmp 4, .tmp 5]) rfl (.tmp rfl (.tmp rfl (.nil))) (fun w' h' => ⟨ge, by rw [rem_ok hk0 g1 (by omega), ← g2]; rfl, trivial, by rw [rem_ok hk0 g1 (by omega), ← g2]; exact h'.ent (by repeat (first | exact .nil | refine .cons (by repeat (first | exact .here | apply Pick.there)) ?_))⟩)

end Go.Proofs
