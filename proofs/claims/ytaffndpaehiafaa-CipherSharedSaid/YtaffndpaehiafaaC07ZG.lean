/- Contracts of the program's functions, proved by walking them with the rules of the Gx texts; without conditions beyond those that each contract names. -/
import Derived.Test.YtaffndpaehiafaaC07ZF
namespace Go.Proofs
open Go Go.RowKit Gx
set_option linter.unusedVariables false
set_option linter.unusedSimpArgs false
attribute [local irreducible] Go.Calls Gx.S Gx.O Gx.D Gx.OpP Gx.OpQ Gx.OpH

theorem fn_96 : isFn Try.prog 96 = true := by kernel_rfl


def insL (fs : Fds) (i : Nat) (p : Int × List UInt8) : Fds := fs.take i ++ [p] ++ fs.drop i
theorem insL_length {fs : Fds} {i : Nat} {p : Int × List UInt8} (h : i ≤ fs.length) : (insL fs i p).length = fs.length + 1 := by
  simp only [insL, List.length_append, List.length_take, List.length_drop, List.length_cons, List.length_nil]; omega
def insK (fs : Fds) (i : Nat) (p : Int × List UInt8) (k : Nat) : Fds := if i < k then insL (fs.take k) i p else fs.take k
theorem insK_0 (fs : Fds) (i : Nat) (p : Int × List UInt8) : insK fs i p 0 = [] := by simp [insK]
theorem insK_A {fs : Fds} {i k : Nat} {p : Int × List UInt8} (hk : k < fs.length) (h : k = i) : insK fs i p (k + 1) = insK fs i p k ++ [p] ++ [fd fs k] := by
  subst h
  unfold insK insL
  rw [if_pos (Nat.lt_succ_self _), if_neg (Nat.lt_irrefl _), List.take_succ_eq_append_getElem hk, fd_get hk]
  apply List.ext_getElem?
  intro j
  simp only [List.getElem?_append, List.getElem?_take, List.getElem?_drop, List.length_append, List.length_take, List.length_drop]
  grind
theorem insK_B {fs : Fds} {i k : Nat} {p : Int × List UInt8} (hk : k < fs.length) (h : k ≠ i) : insK fs i p (k + 1) = insK fs i p k ++ [fd fs k] := by
  unfold insK insL
  rcases Nat.lt_or_ge i k with h1 | h1
  · rw [if_pos (by omega), if_pos h1, List.take_succ_eq_append_getElem hk, fd_get hk, List.take_append_of_le_length (by simp; omega), List.drop_append_of_le_length (by simp; omega)]
    simp
  · rw [if_neg (by omega), if_neg (by omega), List.take_succ_eq_append_getElem hk, fd_get hk]
theorem flatF_one1 (p : Int × List UInt8) : flatF [p] = fldC p := by simp [flatF]
theorem insK_fA {fs : Fds} {i k : Nat} {p : Int × List UInt8} (hk : k < fs.length) (h : k = i) : flatF (insK fs i p (k + 1)) = flatF (insK fs i p k) ++ fldC p ++ fldC (fd fs k) := by rw [insK_A hk h, flatF_append, flatF_append, flatF_one1, flatF_one1]
theorem insK_fB {fs : Fds} {i k : Nat} {p : Int × List UInt8} (hk : k < fs.length) (h : k ≠ i) : flatF (insK fs i p (k + 1)) = flatF (insK fs i p k) ++ fldC (fd fs k) := by rw [insK_B hk h, flatF_append, flatF_one1]
theorem insK_lA {fs : Fds} {i k : Nat} {p : Int × List UInt8} (hk : k < fs.length) (h : k = i) : (insK fs i p k).length + 1 + 1 = (insK fs i p (k + 1)).length := by rw [insK_A hk h]; simp
theorem insK_lB {fs : Fds} {i k : Nat} {p : Int × List UInt8} (hk : k < fs.length) (h : k ≠ i) : (insK fs i p k).length + 1 = (insK fs i p (k + 1)).length := by rw [insK_B hk h]; simp
theorem insK_le (fs : Fds) (i : Nat) (p : Int × List UInt8) (k : Nat) : (insK fs i p k).length ≤ fs.length + 1 := by
  unfold insK insL
  split <;> simp only [List.length_append, List.length_take, List.length_drop, List.length_cons, List.length_nil] <;> omega
theorem insK_end {fs : Fds} {i k : Nat} {p : Int × List UInt8} (hk : k = fs.length) (h : i < k) : insK fs i p k = insL fs i p := by subst hk; unfold insK; rw [if_pos h, List.take_length]
theorem insK_last {fs : Fds} {i k : Nat} {p : Int × List UInt8} (hk : k = fs.length) (h : i = k) : insK fs i p k ++ [p] = insL fs i p := by
  subst h hk
  simp [insK, insL]
def addT (fs : Fds) (u : Int) (own : List UInt8) (u2 : Int) (own2 : List UInt8) : Fds × Int :=
  if (chkF fs).2 = 0 then if holdE u own = 0 then if holdE u2 own2 = 0 then if (keyForT fs u own).2 = 0 then if hasF fs u2 = true then ([], 5) else if fs.length < 8 then (insL fs (lbF fs u2) (u2, wrapL u2 own2 (keyForT fs u own).1), 0) else ([], 16)
  else ([], (keyForT fs u own).2) else ([], holdE u2 own2) else ([], holdE u own) else ([], (chkF fs).2)
section
variable {fs : Fds} {u : Int} {own : List UInt8} {u2 : Int} {own2 : List UInt8}
theorem add_e1 (h : ¬ firstV [.int .i64 (chkF fs).2, .int .i64 (holdE u own), .int .i64 (holdE u2 own2)] = 0) : addT fs u own u2 own2 = ([], firstV [.int .i64 (chkF fs).2, .int .i64 (holdE u own), .int .i64 (holdE u2 own2)]) := by
  simp only [firstV] at h ⊢
  unfold addT
  grind
theorem add_f1 (h : firstV [.int .i64 (chkF fs).2, .int .i64 (holdE u own), .int .i64 (holdE u2 own2)] = 0) : (chkF fs).2 = 0 ∧ holdE u own = 0 ∧ holdE u2 own2 = 0 := by
  simp only [firstV] at h
  grind
theorem add_e2 (h0 : (chkF fs).2 = 0 ∧ holdE u own = 0 ∧ holdE u2 own2 = 0) (h : ¬ firstV [.int .i64 (keyForT fs u own).2, .int .i64 (bif !hasF fs u2 then 0 else 5), .int .i64 (bif decide ((fs.length : Int) < 8) then 0 else 16)] = 0) : addT fs u own u2 own2 = ([], firstV [.int .i64 (keyForT fs u own).2, .int .i64 (bif !hasF fs u2 then 0 else 5), .int .i64 (bif decide ((fs.length : Int) < 8) then 0 else 16)]) := by
  simp only [firstV, cond_eq_ite, decide_eq_true_eq, Bool.not_eq_true'] at h ⊢
  unfold addT
  grind
theorem add_f2 (h : firstV [.int .i64 (keyForT fs u own).2, .int .i64 (bif !hasF fs u2 then 0 else 5), .int .i64 (bif decide ((fs.length : Int) < 8) then 0 else 16)] = 0) : (keyForT fs u own).2 = 0 ∧ hasF fs u2 = false ∧ fs.length < 8 := by
  simp only [firstV, cond_eq_ite, decide_eq_true_eq, Bool.not_eq_true'] at h
  grind
theorem add_ok (h0 : (chkF fs).2 = 0 ∧ holdE u own = 0 ∧ holdE u2 own2 = 0) (h : (keyForT fs u own).2 = 0 ∧ hasF fs u2 = false ∧ fs.length < 8) : addT fs u own u2 own2 = (insL fs (lbF fs u2) (u2, wrapL u2 own2 (keyForT fs u own).1), 0) := by
  unfold addT
  rw [if_pos h0.1, if_pos h0.2.1, if_pos h0.2.2, if_pos h.1, if_neg (by rw [h.2.1]; decide), if_pos h.2.2]
theorem add_5 (h0 : (chkF fs).2 = 0 ∧ holdE u own = 0 ∧ holdE u2 own2 = 0) (h : (keyForT fs u own).2 = 0) (h5 : hasF fs u2 = true) : addT fs u own u2 own2 = ([], 5) := by
  unfold addT
  rw [if_pos h0.1, if_pos h0.2.1, if_pos h0.2.2, if_pos h, if_pos h5]
theorem add_16 (h0 : (chkF fs).2 = 0 ∧ holdE u own = 0 ∧ holdE u2 own2 = 0) (h : (keyForT fs u own).2 = 0) (h5 : hasF fs u2 = false) (h8 : ¬ fs.length < 8) : addT fs u own u2 own2 = ([], 16) := by
  unfold addT
  rw [if_pos h0.1, if_pos h0.2.1, if_pos h0.2.2, if_pos h, if_neg (by rw [h5]; decide), if_neg h8]
theorem add_k (h0 : (chkF fs).2 = 0 ∧ holdE u own = 0 ∧ holdE u2 own2 = 0) (h : ¬ (keyForT fs u own).2 = 0) : addT fs u own u2 own2 = ([], (keyForT fs u own).2) := by
  unfold addT
  rw [if_pos h0.1, if_pos h0.2.1, if_pos h0.2.2, if_neg h]
theorem add_c (h : ¬ (chkF fs).2 = 0) : addT fs u own u2 own2 = ([], (chkF fs).2) := by unfold addT; rw [if_neg h]
theorem add_h1 (h : (chkF fs).2 = 0) (h1 : ¬ holdE u own = 0) : addT fs u own u2 own2 = ([], holdE u own) := by unfold addT; rw [if_pos h, if_neg h1]
theorem add_h2 (h : (chkF fs).2 = 0) (h1 : holdE u own = 0) (h2 : ¬ holdE u2 own2 = 0) : addT fs u own u2 own2 = ([], holdE u2 own2) := by unfold addT; rw [if_pos h, if_pos h1, if_neg h2]
theorem lbF_le : ∀ (fs : Fds) (u : Int), lbF fs u ≤ fs.length
  | [], _ => Nat.le_refl _
  | p :: fs, u => by
    have := lbF_le fs u
    unfold lbF
    simp only [List.length_cons]
    split <;> omega
theorem lbF_lt : ∀ {fs : Fds} {u : Int} {k : Nat}, k < lbF fs u → (fd fs k).1 < u
  | [], u, k, h => by cases h
  | p :: fs, u, k, h => by
    unfold lbF at h
    split at h
    · rename_i h1
      cases k with
      | zero => simpa [fd] using h1
      | succ k => have := lbF_lt (fs := fs) (u := u) (k := k) (by omega); simpa [fd] using this
    · cases h
theorem lbF_ge : ∀ {fs : Fds} {u : Int}, lbF fs u < fs.length → u ≤ (fd fs (lbF fs u)).1
  | [], u, h => by cases h
  | p :: fs, u, h => by
    unfold lbF at h ⊢
    split
    · rename_i h1
      rw [if_pos h1] at h
      have := lbF_ge (fs := fs) (u := u) (by simpa using h)
      simpa [fd] using this
    · rename_i h1
      simpa [fd] using h1
/-- Which fields come before the place of a user that has none. -/
theorem gt_iff (ok : FOk fs) (h : hasF fs u2 = false) {k : Nat} (hk : k < fs.length) : (fd fs k).1 ≠ u2 ∧ (k < lbF fs u2 → (fd fs k).1 < u2) ∧ (lbF fs u2 ≤ k → u2 < (fd fs k).1) := by
  have h0 : ∀ i, i < fs.length → (fd fs i).1 ≠ u2 := fun i hi e => by have := (hasF_at ok hi e).1; rw [h] at this; cases this
  refine ⟨h0 k hk, fun hlt => lbF_lt hlt, fun hle => ?_⟩
  have h1 := lbF_ge (fs := fs) (u := u2) (by omega)
  have h2 := h0 _ (show lbF fs u2 < fs.length by omega)
  rcases Nat.lt_or_ge (lbF fs u2) k with h3 | h3
  · have := ok.lt _ _ h3 hk
    omega
  · have : k = lbF fs u2 := by omega
    subst this
    omega
end
theorem y96 (w : World) (a : Option Addr) (cap : Nat) (fs : Fds) (i : Nat) (p : Int × List UInt8) (b0 c0 : Nat) (hf : HS w (fps [.own (.slice a fs.length cap) 96 2 fs.length (flatF fs), .blk b0 96 2 (fldC p)]) [.own (.slice a fs.length cap) 96 2 fs.length (flatF fs), .blk b0 96 2 (fldC p)] w) (hi : i ≤ fs.length) (hm : fs.length ≤ 1000) :
    Calls Try.prog 96 #[.slice a fs.length cap, .int .i64 i, .slice (some ⟨b0, 0, none⟩) 1 c0] w fun en w' => ∃ g : Option Addr × Nat, en = .returned (.slice g.1 (insL fs i p).length g.2) ∧ True ∧ HS w (fps [.own (.slice a fs.length cap) 96 2 fs.length (flatF fs), .blk b0 96 2 (fldC p)]) [.own (.slice g.1 (insL fs i p).length g.2) 96 2 (insL fs i p).length (flatF (insL fs i p)), .blk b0 96 2 (fldC p)] w' := by
  have h9 := c96 w a i fs.length 1 cap (flatF fs) (fldC p) b0 c0 2 hf (by decide) rfl (by intro u hu; simp only [fldC, List.mem_cons, List.mem_nil_iff, or_false] at hu; rcases hu with rfl | rfl <;> rfl) (flatF_one fs) (by omega) hi
  rw [flatF_take, flatF_drop, ← flatF_one1 p, ← flatF_append, ← flatF_append, ← insL_length (p := p) hi] at h9
  rw [flatF_one1] at h9
  exact h9

set_option maxRecDepth 20000 in
theorem c52 (w : World) (a : Option Addr) (cap : Nat) (fs : Fds) (u : Int) (own : List UInt8) (u2 : Int) (own2 : List UInt8) (hs : Fl w a fs) (hm : fs.length ≤ 1000) : Calls Try.prog 52 #[.slice a fs.length cap, .agg #[.int .i64 u, .string (bs own)], .agg #[.int .i64 u2, .string (bs own2)]] w fun en w' => ∃ g : Option Addr × Nat, en = .returned (.tuple #[.slice g.1 (addT fs u own u2 own2).1.length g.2, .int .i64 (addT fs u own u2 own2).2]) ∧ True ∧ HS w [] [.own (.slice g.1 (addT fs u own u2 own2).1.length g.2) 96 2 (addT fs u own u2 own2).1.length (flatF (addT fs u own u2 own2).1)] w' := by
  refine enter (args := [_, _, _]) Try.func52 Try.ntmps52 rfl rfl (HS.refl w []) ?_
  refine s_seq ?_
  refine s_region ?_
  refine o_h (h_box rfl rfl) rfl (fun b1 _ => ?_)
  refine o_h (h_box rfl rfl) rfl (fun b2 _ => ?_)
  refine o_p (p_pure rfl) rfl ?_
  refine o_p (p_pure rfl) rfl ?_
  refine o_nil ?_
  refine s_seq ?_
  refine s_seq ?_
  refine s_draw [] mixed ?_
  refine d_p 0 rfl (p_pure rfl) (by kernel_rfl) rfl rfl ?_
  refine d_q 1 [] rfl (q_call rfl fn_92 rfl (fun w1 h1 => c92 w1 _ _ fs (hs.later h1) hm)) (by kernel_rfl) (by kernel_rfl) (by kernel_rfl) rfl ?_
  refine d_q 2 [] rfl (q_loadn rfl rfl sz_31 (by repeat (first | exact .here | apply Pick.there)) rfl) (by kernel_rfl) (by kernel_rfl) (by kernel_rfl) rfl ?_
  refine d_q 3 [] rfl (q_call rfl fn_60 rfl (fun w1 h1 => c60 w1 _ _)) (by kernel_rfl) (by kernel_rfl) (by kernel_rfl) rfl ?_
  refine d_q 4 [] rfl (q_loadn rfl rfl sz_31 (by repeat (first | exact .here | apply Pick.there)) rfl) (by kernel_rfl) (by kernel_rfl) (by kernel_rfl) rfl ?_
  refine d_q 5 [] rfl (q_call rfl fn_60 rfl (fun w1 h1 => c60 w1 _ _)) (by kernel_rfl) (by kernel_rfl) (by kernel_rfl) rfl ?_
  refine d_h 6 rfl (h_buildSlice (cs := [_, _, _]) rfl rfl sl_140 zr_24 rfl rfl rfl) (by kernel_rfl) (fun w h => h.ent (by repeat (first | exact .nil | refine .cons (by repeat (first | exact .here | apply Pick.there)) ?_))) rfl (fun b3 _ => ?_)
  refine d_base (fun w h => h.ent (by repeat (first | exact .nil | refine .cons (by repeat (first | exact .here | apply Pick.there)) ?_))) ?_
  refine d_q 7 [] rfl (q_call rfl fn_59 rfl (fun w1 h1 => f59 h1 (by repeat (first | exact .here | apply Pick.there)) (by rfl) (by rfl) (by decide))) (by kernel_rfl) (by kernel_rfl) (by kernel_rfl) rfl ?_
  refine d_p 8 rfl (p_pure rfl) (by kernel_rfl) rfl rfl ?_
  refine d_nil (by kernel_rfl) (fun w h => h.ent (by repeat (first | exact .nil | refine .cons (by repeat (first | exact .here | apply Pick.there)) ?_))) ?_
  refine s_seq ?_
  refine s_region ?_
  refine o_p (p_pure rfl) rfl ?_
  refine o_p (p_pure rfl) rfl ?_
  refine o_nil ?_
  refine s_cond rfl (fun h4 => ?_) (fun h4 => ?_)
  · try simp only [decide_eq_true_eq, decide_eq_false_iff_not, Bool.not_eq_true', Bool.not_eq_false', Bool.and_eq_true, Bool.or_eq_true, Bool.and_eq_false_iff, Bool.or_eq_false_iff, Bool.not_true, Bool.not_false] at h4
    refine s_seq ?_
    refine s_region ?_
    refine o_p (p_pure rfl) rfl ?_
    refine o_p (p_pure rfl) rfl ?_
    refine o_p (p_pure rfl) rfl ?_
    refine o_nil ?_
    exact s_retv (rs := [.tmp 6, .tmp 7]) rfl (.tmp rfl (.tmp rfl (.nil))) (fun w' h' => ⟨(none, 0), by rw [add_e1 h4]; rfl, trivial, by rw [add_e1 h4]; exact ((h').own_nil 96 2).ent (by repeat (first | exact .nil | refine .cons (by repeat (first | exact .here | apply Pick.there)) ?_))⟩)
  · try simp only [decide_eq_true_eq, decide_eq_false_iff_not, Bool.not_eq_true', Bool.not_eq_false', Bool.and_eq_true, Bool.or_eq_true, Bool.and_eq_false_iff, Bool.or_eq_false_iff, Bool.not_true, Bool.not_false] at h4
    have h0 := add_f1 h4
    have ok := chkF_ok h0.1
    have hu2 := isWd_user h0.2.2
    refine s_skip ?_
    refine s_seq ?_
    refine s_region ?_
    refine o_p (p_pure rfl) rfl ?_
    refine o_q (q_loadn rfl rfl sz_31 (by repeat (first | exact .here | apply Pick.there)) rfl) rfl ?_
    refine o_q (q_call rfl fn_69 rfl (fun w1 h1 => c69 w1 a cap fs u own (hs.later h1) ok h0.2.1)) rfl ?_
    refine o_p (p_pure rfl) rfl ?_
    refine o_p (p_pure rfl) rfl ?_
    refine o_p (p_pure rfl) rfl ?_
    refine o_p (p_pure rfl) rfl ?_
    refine o_p (p_pure rfl) rfl ?_
    refine o_nil ?_
    refine s_seq ?_
    refine s_region ?_
    refine o_p (p_pure rfl) rfl ?_
    refine o_p (p_fieldAddr rfl rfl fd_31_0 sz_3 rfl) rfl ?_
    refine o_q (q_load rfl rfl sz_3 (by repeat (first | exact .here | apply Pick.there)) rfl) rfl ?_
    refine o_q (q_call rfl fn_85 rfl (fun w1 h1 => c85 w1 a cap fs u2 (hs.later h1) ok (by omega))) rfl ?_
    refine o_p (p_pure rfl) rfl ?_
    refine o_p (p_pure rfl) rfl ?_
    refine o_p (p_pure rfl) rfl ?_
    refine o_p (p_pure rfl) rfl ?_
    refine o_p (p_pure rfl) rfl ?_
    refine o_nil ?_
    refine s_seq ?_
    refine s_seq ?_
    refine s_region ?_
    refine o_p (p_pure rfl) rfl ?_
    refine o_p (p_pure rfl) rfl ?_
    refine o_p (p_pure rfl) rfl ?_
    refine o_q (q_call rfl fn_65 rfl (fun w1 h1 => c65 w1 _ _)) rfl ?_
    refine o_p (p_pure rfl) rfl ?_
    first | refine o_p (p_len_slice rfl rfl Try.underlying41) rfl ?_ | refine o_q (q_len_own rfl rfl Try.underlying41 (by repeat (first | exact .here | apply Pick.there))) rfl ?_
    refine o_p (p_pure rfl) rfl ?_
    refine o_q (q_call rfl fn_65 rfl (fun w1 h1 => c65 w1 _ _)) rfl ?_
    refine o_h (h_buildSlice (cs := [_, _, _]) rfl rfl sl_140 zr_24 rfl rfl rfl) rfl (fun b5 _ => ?_)
    refine o_q (q_call rfl fn_59 rfl (fun w1 h1 => f59 h1 (by repeat (first | exact .here | apply Pick.there)) (by rfl) (by rfl) (by decide))) rfl ?_
    refine o_p (p_pure rfl) rfl ?_
    refine o_nil ?_
    refine s_seq ?_
    refine s_region ?_
    refine o_p (p_pure rfl) rfl ?_
    refine o_p (p_pure rfl) rfl ?_
    refine o_nil ?_
    refine s_cond rfl (fun h6 => ?_) (fun h6 => ?_)
    · try simp only [decide_eq_true_eq, decide_eq_false_iff_not, Bool.not_eq_true', Bool.not_eq_false', Bool.and_eq_true, Bool.or_eq_true, Bool.and_eq_false_iff, Bool.or_eq_false_iff, Bool.not_true, Bool.not_false] at h6
      refine s_seq ?_
      refine s_region ?_
      refine o_p (p_pure rfl) rfl ?_
      refine o_p (p_pure rfl) rfl ?_
      refine o_p (p_pure rfl) rfl ?_
      refine o_nil ?_
      exact s_retv (rs := [.tmp 6, .tmp 7]) rfl (.tmp rfl (.tmp rfl (.nil))) (fun w' h' => ⟨(none, 0), by rw [add_e2 h0 h6]; rfl, trivial, by rw [add_e2 h0 h6]; exact ((h').own_nil 96 2).ent (by repeat (first | exact .nil | refine .cons (by repeat (first | exact .here | apply Pick.there)) ?_))⟩)
    · try simp only [decide_eq_true_eq, decide_eq_false_iff_not, Bool.not_eq_true', Bool.not_eq_false', Bool.and_eq_true, Bool.or_eq_true, Bool.and_eq_false_iff, Bool.or_eq_false_iff, Bool.not_true, Bool.not_false] at h6
      have h2 := add_f2 h6
      have hkl := keyForT_len ok h2.1
      refine s_skip ?_
      refine s_seq ?_
      refine s_draw [10] mixed ?_
      refine d_p 0 rfl (p_pure rfl) (by kernel_rfl) rfl rfl ?_
      refine d_p 2 rfl (p_pure rfl) (by kernel_rfl) rfl rfl ?_
      refine d_p 3 rfl (p_fieldAddr rfl rfl fd_31_0 sz_3 rfl) (by kernel_rfl) rfl rfl ?_
      refine d_q 4 [[9, 8]] rfl (q_load rfl rfl sz_3 (by repeat (first | exact .here | apply Pick.there)) rfl) (by kernel_rfl) (by kernel_rfl) (by kernel_rfl) rfl ?_
      refine d_q 5 [[7]] rfl (q_loadn rfl rfl sz_31 (by repeat (first | exact .here | apply Pick.there)) rfl) (by kernel_rfl) (by kernel_rfl) (by kernel_rfl) rfl ?_
      refine d_p 6 rfl (p_pure rfl) (by kernel_rfl) rfl rfl ?_
      refine d_h 1 rfl (h_call rfl fn_73 rfl (fun w1 h1 => x73 w1 _ _ _ (hs.later h1) (by omega))) (by kernel_rfl) (fun w h => h.ent (by repeat (first | exact .nil | refine .cons (by repeat (first | exact .here | apply Pick.there)) ?_))) rfl (fun ge _ => ?_)
      refine d_base (fun w h => h.ent (by repeat (first | exact .nil | refine .cons (by repeat (first | exact .here | apply Pick.there)) ?_))) ?_
      refine d_q 7 [[]] rfl (q_call rfl fn_62 rfl (fun w1 h1 => c62 w1 u2 own2 _ hu2.1 hu2.2.1 hkl)) (by kernel_rfl) (by kernel_rfl) (by kernel_rfl) rfl ?_
      refine d_p 8 rfl (p_build (cs := [_, _]) rfl rfl pl_96 zr_96 rfl) (by kernel_rfl) rfl rfl ?_
      refine d_h 9 rfl (h_buildSlice (cs := [_, _]) rfl rfl sl_41 zr_96 rfl rfl rfl) (by kernel_rfl) (fun w h => h.ent (by repeat (first | exact .nil | refine .cons (by repeat (first | exact .here | apply Pick.there)) ?_))) rfl (fun b7 _ => ?_)
      refine d_base (fun w h => h.ent (by repeat (first | exact .nil | refine .cons (by repeat (first | exact .here | apply Pick.there)) ?_))) ?_
      refine d_h 10 rfl (h_callF (Cs := [.own (.slice ge.1 fs.length ge.2) 96 2 fs.length (flatF fs), .blk b7 96 2 (fldC (u2, wrapL u2 own2 (keyForT fs u own).1))]) rfl fn_96 rfl (by repeat (first | exact Picks.nil | (apply Picks.cons; · (repeat (first | exact .here | apply Pick.there))))) (fun w1 h1 hf => y96 w1 _ _ fs (lbF fs u2) (u2, wrapL u2 own2 (keyForT fs u own).1) _ 1 hf (lbF_le fs u2) hm)) (by kernel_rfl) (fun w h => h.ent (by repeat (first | exact .nil | refine .cons (by repeat (first | exact .here | apply Pick.there)) ?_))) rfl (fun gd _ => ?_)
      refine d_turn [] (by kernel_rfl) ?_
      refine d_p 11 rfl (p_pure rfl) (by kernel_rfl) rfl rfl ?_
      refine d_p 12 rfl (p_pure rfl) (by kernel_rfl) rfl rfl ?_
      refine d_nil (by kernel_rfl) (fun w h => h.ent (by repeat (first | exact .nil | refine .cons (by repeat (first | exact .here | apply Pick.there)) ?_))) ?_
      exact s_retv (rs := [.tmp 6, .tmp 7]) rfl (.tmp rfl (.tmp rfl (.nil))) (fun w' h' => ⟨gd, by rw [add_ok h0 h2]; rfl, trivial, by rw [add_ok h0 h2]; exact h'.ent (by repeat (first | exact .nil | refine .cons (by repeat (first | exact .here | apply Pick.there)) ?_))⟩)

set_option maxRecDepth 20000 in
set_option maxHeartbeats 1000000 in
theorem c53 (w : World) (a : Option Addr) (cap : Nat) (fs : Fds) (u : Int) (own : List UInt8) (u2 : Int) (own2 : List UInt8) (hs : Fl w a fs) (hm : fs.length ≤ 1000) : Calls Try.prog 53 #[.slice a fs.length cap, .agg #[.int .i64 u, .string (bs own)], .agg #[.int .i64 u2, .string (bs own2)]] w fun en w' => ∃ g : Option Addr × Nat, en = .returned (.tuple #[.slice g.1 (addT fs u own u2 own2).1.length g.2, .int .i64 (addT fs u own u2 own2).2]) ∧ True ∧ HS w [] [.own (.slice g.1 (addT fs u own u2 own2).1.length g.2) 96 2 (addT fs u own u2 own2).1.length (flatF (addT fs u own u2 own2).1)] w' := by
  refine enter (args := [_, _, _]) Try.func53 Try.ntmps53 rfl rfl (HS.refl w []) ?_
  refine s_seq ?_
  refine s_region ?_
  refine o_h (h_box rfl rfl) rfl (fun b1 _ => ?_)
  refine o_h (h_box rfl rfl) rfl (fun b2 _ => ?_)
  refine o_p (p_pure rfl) rfl ?_
  refine o_p (p_pure rfl) rfl ?_
  refine o_nil ?_
  refine s_seq ?_
  refine s_seq ?_
  refine s_region ?_
  refine o_p (p_pure rfl) rfl ?_
  refine o_q (q_call rfl fn_93 rfl (fun w1 h1 => c93 w1 _ _ fs (hs.later h1) hm)) rfl ?_
  refine o_p (p_pure rfl) rfl ?_
  refine o_nil ?_
  refine s_seq ?_
  refine s_region ?_
  refine o_p (p_pure rfl) rfl ?_
  refine o_p (p_pure rfl) rfl ?_
  refine o_nil ?_
  refine s_cond rfl (fun h3 => ?_) (fun h3 => ?_)
  · try simp only [decide_eq_true_eq, decide_eq_false_iff_not, Bool.not_eq_true', Bool.not_eq_false', Bool.and_eq_true, Bool.or_eq_true, Bool.and_eq_false_iff, Bool.or_eq_false_iff, Bool.not_true, Bool.not_false] at h3
    refine s_seq ?_
    refine s_region ?_
    refine o_p (p_pure rfl) rfl ?_
    refine o_p (p_pure rfl) rfl ?_
    refine o_p (p_pure rfl) rfl ?_
    refine o_nil ?_
    exact s_retv (rs := [.tmp 6, .tmp 7]) rfl (.tmp rfl (.tmp rfl (.nil))) (fun w' h' => ⟨(none, 0), by rw [add_c (by omega)]; rfl, trivial, by rw [add_c (by omega)]; exact ((h').own_nil 96 2).ent (by repeat (first | exact .nil | refine .cons (by repeat (first | exact .here | apply Pick.there)) ?_))⟩)
  · try simp only [decide_eq_true_eq, decide_eq_false_iff_not, Bool.not_eq_true', Bool.not_eq_false', Bool.and_eq_true, Bool.or_eq_true, Bool.and_eq_false_iff, Bool.or_eq_false_iff, Bool.not_true, Bool.not_false] at h3
    have q0 : (chkF fs).2 = 0 := by omega
    have ok := chkF_ok q0
    refine s_skip ?_
    refine s_seq ?_
    refine s_seq ?_
    refine s_region ?_
    first | refine o_q (q_loadn rfl rfl sz_31 (by repeat (first | exact .here | apply Pick.there)) rfl) rfl ?_ | refine o_q (q_load_oldn _ rfl rfl sz_31 hs.rd0 (i := k) (by omega)) rfl ?_ | refine o_q (q_load_oldn _ rfl rfl sz_31 rfl (hs.rd (i := k) (by omega))) rfl ?_
    refine o_q (q_call rfl fn_18 rfl (fun w1 h1 => c18 w1 _ _)) rfl ?_
    refine o_p (p_pure rfl) rfl ?_
    refine o_nil ?_
    refine s_seq ?_
    refine s_region ?_
    refine o_p (p_pure rfl) rfl ?_
    refine o_p (p_pure rfl) rfl ?_
    refine o_nil ?_
    refine s_cond rfl (fun h4 => ?_) (fun h4 => ?_)
    · try simp only [decide_eq_true_eq, decide_eq_false_iff_not, Bool.not_eq_true', Bool.not_eq_false', Bool.and_eq_true, Bool.or_eq_true, Bool.and_eq_false_iff, Bool.or_eq_false_iff, Bool.not_true, Bool.not_false] at h4
      refine s_seq ?_
      refine s_region ?_
      refine o_p (p_pure rfl) rfl ?_
      refine o_p (p_pure rfl) rfl ?_
      refine o_p (p_pure rfl) rfl ?_
      refine o_nil ?_
      exact s_retv (rs := [.tmp 6, .tmp 7]) rfl (.tmp rfl (.tmp rfl (.nil))) (fun w' h' => ⟨(none, 0), by rw [add_h1 q0 (by omega)]; rfl, trivial, by rw [add_h1 q0 (by omega)]; exact ((h').own_nil 96 2).ent (by repeat (first | exact .nil | refine .cons (by repeat (first | exact .here | apply Pick.there)) ?_))⟩)
    · try simp only [decide_eq_true_eq, decide_eq_false_iff_not, Bool.not_eq_true', Bool.not_eq_false', Bool.and_eq_true, Bool.or_eq_true, Bool.and_eq_false_iff, Bool.or_eq_false_iff, Bool.not_true, Bool.not_false] at h4
      have q1 : holdE u own = 0 := by omega
      refine s_skip ?_
      refine s_seq ?_
      refine s_seq ?_
      refine s_region ?_
      first | refine o_q (q_loadn rfl rfl sz_31 (by repeat (first | exact .here | apply Pick.there)) rfl) rfl ?_ | refine o_q (q_load_oldn _ rfl rfl sz_31 hs.rd0 (i := k) (by omega)) rfl ?_ | refine o_q (q_load_oldn _ rfl rfl sz_31 rfl (hs.rd (i := k) (by omega))) rfl ?_
      refine o_q (q_call rfl fn_18 rfl (fun w1 h1 => c18 w1 _ _)) rfl ?_
      refine o_p (p_pure rfl) rfl ?_
      refine o_nil ?_
      refine s_seq ?_
      refine s_region ?_
      refine o_p (p_pure rfl) rfl ?_
      refine o_p (p_pure rfl) rfl ?_
      refine o_nil ?_
      refine s_cond rfl (fun h5 => ?_) (fun h5 => ?_)
      · try simp only [decide_eq_true_eq, decide_eq_false_iff_not, Bool.not_eq_true', Bool.not_eq_false', Bool.and_eq_true, Bool.or_eq_true, Bool.and_eq_false_iff, Bool.or_eq_false_iff, Bool.not_true, Bool.not_false] at h5
        refine s_seq ?_
        refine s_region ?_
        refine o_p (p_pure rfl) rfl ?_
        refine o_p (p_pure rfl) rfl ?_
        refine o_p (p_pure rfl) rfl ?_
        refine o_nil ?_
        exact s_retv (rs := [.tmp 6, .tmp 7]) rfl (.tmp rfl (.tmp rfl (.nil))) (fun w' h' => ⟨(none, 0), by rw [add_h2 q0 q1 (by omega)]; rfl, trivial, by rw [add_h2 q0 q1 (by omega)]; exact ((h').own_nil 96 2).ent (by repeat (first | exact .nil | refine .cons (by repeat (first | exact .here | apply Pick.there)) ?_))⟩)
      · try simp only [decide_eq_true_eq, decide_eq_false_iff_not, Bool.not_eq_true', Bool.not_eq_false', Bool.and_eq_true, Bool.or_eq_true, Bool.and_eq_false_iff, Bool.or_eq_false_iff, Bool.not_true, Bool.not_false] at h5
        have q2 : holdE u2 own2 = 0 := by omega
        have h0 := And.intro q0 (And.intro q1 q2)
        have hu2 := isWd_user q2
        refine s_skip ?_
        refine s_seq ?_
        refine s_region ?_
        refine o_p (p_pure rfl) rfl ?_
        first | refine o_q (q_loadn rfl rfl sz_31 (by repeat (first | exact .here | apply Pick.there)) rfl) rfl ?_ | refine o_q (q_load_oldn _ rfl rfl sz_31 hs.rd0 (i := k) (by omega)) rfl ?_ | refine o_q (q_load_oldn _ rfl rfl sz_31 rfl (hs.rd (i := k) (by omega))) rfl ?_
        refine o_q (q_call rfl fn_72 rfl (fun w1 h1 => c72 w1 a cap fs u own (hs.later h1) ok h0.2.1)) rfl ?_
        refine o_p (p_pure rfl) rfl ?_
        refine o_p (p_pure rfl) rfl ?_
        refine o_p (p_pure rfl) rfl ?_
        refine o_p (p_pure rfl) rfl ?_
        refine o_p (p_pure rfl) rfl ?_
        refine o_nil ?_
        refine s_seq ?_
        refine s_seq ?_
        refine s_region ?_
        refine o_p (p_pure rfl) rfl ?_
        refine o_p (p_pure rfl) rfl ?_
        refine o_nil ?_
        refine s_cond rfl (fun h6 => ?_) (fun h6 => ?_)
        · try simp only [decide_eq_true_eq, decide_eq_false_iff_not, Bool.not_eq_true', Bool.not_eq_false', Bool.and_eq_true, Bool.or_eq_true, Bool.and_eq_false_iff, Bool.or_eq_false_iff, Bool.not_true, Bool.not_false] at h6
          refine s_seq ?_
          refine s_region ?_
          refine o_p (p_pure rfl) rfl ?_
          refine o_p (p_pure rfl) rfl ?_
          refine o_p (p_pure rfl) rfl ?_
          refine o_nil ?_
          exact s_retv (rs := [.tmp 6, .tmp 7]) rfl (.tmp rfl (.tmp rfl (.nil))) (fun w' h' => ⟨(none, 0), by rw [add_k h0 (by omega)]; rfl, trivial, by rw [add_k h0 (by omega)]; exact ((h').own_nil 96 2).ent (by repeat (first | exact .nil | refine .cons (by repeat (first | exact .here | apply Pick.there)) ?_))⟩)
        · try simp only [decide_eq_true_eq, decide_eq_false_iff_not, Bool.not_eq_true', Bool.not_eq_false', Bool.and_eq_true, Bool.or_eq_true, Bool.and_eq_false_iff, Bool.or_eq_false_iff, Bool.not_true, Bool.not_false] at h6
          have q3 : (keyForT fs u own).2 = 0 := by omega
          have hkl := keyForT_len ok q3
          refine s_skip ?_
          refine s_seq ?_
          refine s_seq ?_
          refine s_region ?_
          refine o_p (p_pure rfl) rfl ?_
          refine o_p (p_fieldAddr rfl rfl fd_31_0 sz_3 rfl) rfl ?_
          first | refine o_q (q_load rfl rfl sz_3 (by repeat (first | exact .here | apply Pick.there)) rfl) rfl ?_ | refine o_q (q_load_old rfl rfl sz_3 (hs.rd0 (i := k) (by omega))) rfl ?_ | refine o_q (q_load_old rfl rfl sz_3 (rfl (hs.rd (i := k) (by omega)))) rfl ?_
          refine o_q (q_call rfl fn_89 rfl (fun w1 h1 => c89 w1 _ _ fs _ (hs.later h1) (by omega))) rfl ?_
          refine o_p (p_pure rfl) rfl ?_
          refine o_nil ?_
          refine s_cond rfl (fun h7 => ?_) (fun h7 => ?_)
          · try simp only [decide_eq_true_eq, decide_eq_false_iff_not, Bool.not_eq_true', Bool.not_eq_false', Bool.and_eq_true, Bool.or_eq_true, Bool.and_eq_false_iff, Bool.or_eq_false_iff, Bool.not_true, Bool.not_false] at h7
            have q5 : hasF fs u2 = true := (idF_lb ok).1.2 (idF_lt.1 h7)
            refine s_seq ?_
            refine s_region ?_
            refine o_p (p_pure rfl) rfl ?_
            refine o_p (p_pure rfl) rfl ?_
            refine o_nil ?_
            exact s_retv (rs := [.tmp 6, .tmp 7]) rfl (.tmp rfl (.tmp rfl (.nil))) (fun w' h' => ⟨(none, 0), by rw [add_5 h0 q3 q5]; rfl, trivial, by rw [add_5 h0 q3 q5]; exact ((h').own_nil 96 2).ent (by repeat (first | exact .nil | refine .cons (by repeat (first | exact .here | apply Pick.there)) ?_))⟩)
          · try simp only [decide_eq_true_eq, decide_eq_false_iff_not, Bool.not_eq_true', Bool.not_eq_false', Bool.and_eq_true, Bool.or_eq_true, Bool.and_eq_false_iff, Bool.or_eq_false_iff, Bool.not_true, Bool.not_false] at h7
            have q5 : hasF fs u2 = false := by cases hq : hasF fs u2 with | false => rfl | true => exact absurd (idF_lt.2 ((idF_lb ok).1.1 hq)) (by omega)
            refine s_skip ?_
            refine s_seq ?_
            refine s_seq ?_
            refine s_region ?_
            refine o_p (p_pure rfl) rfl ?_
            first | refine o_p (p_len_slice rfl rfl Try.underlying41) rfl ?_ | refine o_q (q_len_own rfl rfl Try.underlying41 (by repeat (first | exact .here | apply Pick.there))) rfl ?_
            refine o_p (p_pure rfl) rfl ?_
            refine o_nil ?_
            refine s_cond rfl (fun h8 => ?_) (fun h8 => ?_)
            · try simp only [decide_eq_true_eq, decide_eq_false_iff_not, Bool.not_eq_true', Bool.not_eq_false', Bool.and_eq_true, Bool.or_eq_true, Bool.and_eq_false_iff, Bool.or_eq_false_iff, Bool.not_true, Bool.not_false] at h8
              refine s_seq ?_
              refine s_region ?_
              refine o_p (p_pure rfl) rfl ?_
              refine o_p (p_pure rfl) rfl ?_
              refine o_nil ?_
              exact s_retv (rs := [.tmp 6, .tmp 7]) rfl (.tmp rfl (.tmp rfl (.nil))) (fun w' h' => ⟨(none, 0), by rw [add_16 h0 q3 q5 (by omega)]; rfl, trivial, by rw [add_16 h0 q3 q5 (by omega)]; exact ((h').own_nil 96 2).ent (by repeat (first | exact .nil | refine .cons (by repeat (first | exact .here | apply Pick.there)) ?_))⟩)
            · try simp only [decide_eq_true_eq, decide_eq_false_iff_not, Bool.not_eq_true', Bool.not_eq_false', Bool.and_eq_true, Bool.or_eq_true, Bool.and_eq_false_iff, Bool.or_eq_false_iff, Bool.not_true, Bool.not_false] at h8
              have h2 := And.intro q3 (And.intro q5 (show fs.length < 8 by have := ok.le; omega))
              refine s_skip ?_
              refine s_seq ?_
              refine s_region ?_
              refine o_p (p_pure rfl) rfl ?_
              refine o_nil ?_
              refine s_seq ?_
              refine s_draw [7] mixed ?_
              refine d_p 0 rfl (p_fieldAddr rfl rfl fd_31_0 sz_3 rfl) (by kernel_rfl) rfl rfl ?_
              first | refine d_q 1 [[]] rfl (q_load rfl rfl sz_3 (by repeat (first | exact .here | apply Pick.there)) rfl) (by kernel_rfl) (by kernel_rfl) (by kernel_rfl) rfl ?_ | refine d_q 1 [[]] rfl (q_load_old rfl rfl sz_3 (hs.rd0 (i := k) (by omega))) (by kernel_rfl) (by kernel_rfl) (by kernel_rfl) rfl ?_ | refine d_q 1 [[]] rfl (q_load_old rfl rfl sz_3 (rfl (hs.rd (i := k) (by omega)))) (by kernel_rfl) (by kernel_rfl) (by kernel_rfl) rfl ?_
              first | refine d_q 2 [[]] rfl (q_loadn rfl rfl sz_31 (by repeat (first | exact .here | apply Pick.there)) rfl) (by kernel_rfl) (by kernel_rfl) (by kernel_rfl) rfl ?_ | refine d_q 2 [[]] rfl (q_load_oldn _ rfl rfl sz_31 hs.rd0 (i := k) (by omega)) (by kernel_rfl) (by kernel_rfl) (by kernel_rfl) rfl ?_ | refine d_q 2 [[]] rfl (q_load_oldn _ rfl rfl sz_31 rfl (hs.rd (i := k) (by omega))) (by kernel_rfl) (by kernel_rfl) (by kernel_rfl) rfl ?_
              refine d_p 3 rfl (p_pure rfl) (by kernel_rfl) rfl rfl ?_
              refine d_q 4 [[]] rfl (q_call rfl fn_20 rfl (fun w1 h1 => c20 w1 u2 own2 _ hu2.1 hu2.2.1 hkl)) (by kernel_rfl) (by kernel_rfl) (by kernel_rfl) rfl ?_
              refine d_p 5 rfl (p_build (cs := [_, _]) rfl rfl pl_96 zr_96 rfl) (by kernel_rfl) rfl rfl ?_
              refine d_h 6 rfl (h_alloc rfl zr_96) (by kernel_rfl) (fun w h => h.ent (by repeat (first | exact .nil | refine .cons (by repeat (first | exact .here | apply Pick.there)) ?_))) rfl (fun b9 _ => ?_)
              refine d_base (fun w h => h.ent (by repeat (first | exact .nil | refine .cons (by repeat (first | exact .here | apply Pick.there)) ?_))) ?_
              refine d_h0 7 rfl (h_store rfl rfl rfl sz_96 rfl (by repeat (first | exact .here | apply Put.there)) (by simp only [setMany_length, List.length_set, List.length_cons, List.length_nil, List.length_map]; omega) rfl) (by kernel_rfl) (fun w h => h.ent (by repeat (first | exact .nil | refine .cons (by repeat (first | exact .here | apply Pick.there)) ?_))) (fun _ _ => ?_)
              refine d_turn [] (by kernel_rfl) ?_
              refine d_nil (by kernel_rfl) (fun w h => h.ent (by repeat (first | exact .nil | refine .cons (by repeat (first | exact .here | apply Pick.there)) ?_))) ?_
              refine s_seq ?_
              refine s_region ?_
              refine o_p (p_pure rfl) rfl ?_
              refine o_nil ?_
              refine s_seq ?_
              refine s_seq ?_
              refine s_region ?_
              refine o_p (p_pure rfl) rfl ?_
              refine o_nil ?_
              refine s_block ?_
              refine s_loopI (α := Nat × Option Addr × Nat) [13, 15, 16, 55, 56, 57, 58, 59, 60, 61, 62, 63, 64, 65, 66, 67, 68, 69, 70, 71, 72, 73, 74, 75, 76, 77, 78, 79, 80, 81, 82, 83] (fun x => [(16, .int .i64 (x.1 : Int)), (15, .bool (decide (lbF fs u2 < x.1))), (13, .slice x.2.1 (insK fs (lbF fs u2) (u2, wrapL u2 own2 (keyForT fs u own).1) x.1).length x.2.2)]) (fun x => HS w [] [.own (.slice x.2.1 (insK fs (lbF fs u2) (u2, wrapL u2 own2 (keyForT fs u own).1) x.1).length x.2.2) 96 2 (insK fs (lbF fs u2) (u2, wrapL u2 own2 (keyForT fs u own).1) x.1).length (flatF (insK fs (lbF fs u2) (u2, wrapL u2 own2 (keyForT fs u own).1) x.1)), .blk b9 96 2 [.int .i64 u2, .string (bs (wrapL u2 own2 (keyForT fs u own).1))], .blk b2 31 2 [.int .i64 u2, .string (bs own2)]]) (fun x => x.1 ≤ fs.length) (fun x => fs.length - x.1) (0, none, 0) (by simp) (sl_c rfl (sl_c (congrArg (fun e => some (Value.bool e)) (by simp)) (sl_c (congrArg (fun e => some (Value.slice _ e _)) (by rw [insK_0]; rfl)) (by repeat (first | exact sl_n | refine sl_c rfl ?_))))) (fun w h => by simp only [insK_0]; exact (h.own_nil 96 2).ent (by repeat (first | exact .nil | refine .cons (by repeat (first | exact .here | apply Pick.there)) ?_))) (fun ⟨k, ga, gc⟩ hx => ?_)
              dsimp only
              simp only [] at hx
              have hik := insK_le fs (lbF fs u2) (u2, wrapL u2 own2 (keyForT fs u own).1) k
              refine s_seq ?_
              refine s_seq ?_
              refine s_region ?_
              refine o_p (p_pure rfl) rfl ?_
              refine o_p (p_pure rfl) rfl ?_
              first | refine o_p (p_len_slice rfl rfl Try.underlying41) rfl ?_ | refine o_q (q_len_own rfl rfl Try.underlying41 (by repeat (first | exact .here | apply Pick.there))) rfl ?_
              refine o_p (p_pure rfl) rfl ?_
              refine o_nil ?_
              refine s_cond rfl (fun h10 => ?_) (fun h10 => ?_)
              · try simp only [decide_eq_true_eq, decide_eq_false_iff_not, Bool.not_eq_true', Bool.not_eq_false', Bool.and_eq_true, Bool.or_eq_true, Bool.and_eq_false_iff, Bool.or_eq_false_iff, Bool.not_true, Bool.not_false] at h10
                have hk : k < fs.length := by omega
                have hgt := gt_iff ok q5 hk
                refine s_skip ?_
                refine s_seq ?_
                refine s_block ?_
                refine s_seq ?_
                refine s_seq ?_
                refine s_cutI (α := Unit) [61, 62, 63, 64, 65, 66, 67, 68, 69, 70, 71, 72] (fun _ => [(72, .bool (decide (k = lbF fs u2)))]) (fun _ => HS w [] [.own (.slice ga (insK fs (lbF fs u2) (u2, wrapL u2 own2 (keyForT fs u own).1) k).length gc) 96 2 (insK fs (lbF fs u2) (u2, wrapL u2 own2 (keyForT fs u own).1) k).length (flatF (insK fs (lbF fs u2) (u2, wrapL u2 own2 (keyForT fs u own).1) k)), .blk b9 96 2 [.int .i64 u2, .string (bs (wrapL u2 own2 (keyForT fs u own).1))], .blk b2 31 2 [.int .i64 u2, .string (bs own2)]]) (fun _ => True) ?_ ?_
                · skip
                  refine s_draw [] mixed ?_
                  refine d_p 0 rfl (p_pure rfl) (by kernel_rfl) rfl rfl ?_
                  refine d_p 1 rfl (p_pure rfl) (by kernel_rfl) rfl rfl ?_
                  refine d_p 2 rfl (p_pure rfl) (by kernel_rfl) rfl rfl ?_
                  apply d_split 63
                  · exact rfl
                  · intro hg11
                    have hs12 := hg11; try simp only [decide_eq_true_eq, decide_eq_false_iff_not, Bool.not_eq_true', Bool.not_eq_false', Bool.and_eq_true, Bool.or_eq_true, Bool.and_eq_false_iff, Bool.or_eq_false_iff, Bool.not_true, Bool.not_false] at hs12
                    refine d_pon 3 63 rfl rfl rfl hg11 (p_pure rfl) (by kernel_rfl) rfl rfl ?_
                    refine d_pon 4 63 rfl rfl rfl hg11 (p_pure rfl) (by kernel_rfl) rfl rfl ?_
                    first | refine d_pon 5 63 rfl rfl rfl hg11 (p_indexAddr rfl rfl rfl sl_41 (k) (by omega) (by omega) rfl) (by kernel_rfl) rfl rfl ?_ | refine d_pon 5 63 rfl rfl rfl hg11 (p_indexAddr rfl rfl rfl sl_41 (k) (by omega) (by omega) (Sl.some hs (by omega))) (by kernel_rfl) rfl rfl ?_
                    refine d_pon 6 63 rfl rfl rfl hg11 (p_fieldAddr rfl rfl fd_96_0 sz_3 rfl) (by kernel_rfl) rfl rfl ?_
                    first | refine d_qon 7 63 [] rfl rfl rfl hg11 (q_load rfl rfl sz_3 (by repeat (first | exact .here | apply Pick.there)) rfl) (by kernel_rfl) (by kernel_rfl) (by kernel_rfl) rfl ?_ | refine d_qon 7 63 [] rfl rfl rfl hg11 (q_load_old rfl rfl sz_3 (hs.rd0 (i := k) (by omega))) (by kernel_rfl) (by kernel_rfl) (by kernel_rfl) rfl ?_ | refine d_qon 7 63 [] rfl rfl rfl hg11 (q_load_old rfl rfl sz_3 (rfl (hs.rd (i := k) (by omega)))) (by kernel_rfl) (by kernel_rfl) (by kernel_rfl) rfl ?_
                    refine d_pon 8 63 rfl rfl rfl hg11 (p_fieldAddr rfl rfl fd_31_0 sz_3 rfl) (by kernel_rfl) rfl rfl ?_
                    first | refine d_qon 9 63 [] rfl rfl rfl hg11 (q_load rfl rfl sz_3 (by repeat (first | exact .here | apply Pick.there)) rfl) (by kernel_rfl) (by kernel_rfl) (by kernel_rfl) rfl ?_ | refine d_qon 9 63 [] rfl rfl rfl hg11 (q_load_old rfl rfl sz_3 (hs.rd0 (i := k) (by omega))) (by kernel_rfl) (by kernel_rfl) (by kernel_rfl) rfl ?_ | refine d_qon 9 63 [] rfl rfl rfl hg11 (q_load_old rfl rfl sz_3 (rfl (hs.rd (i := k) (by omega)))) (by kernel_rfl) (by kernel_rfl) (by kernel_rfl) rfl ?_
                    refine d_pon 10 63 rfl rfl rfl hg11 (p_pure rfl) (by kernel_rfl) rfl rfl ?_
                    refine d_p 11 rfl (p_pickt rfl rfl hg11 rfl) (by kernel_rfl) rfl rfl ?_
                    refine d_nil (by kernel_rfl) (fun w h => h.ent (by repeat (first | exact .nil | refine .cons (by repeat (first | exact .here | apply Pick.there)) ?_))) ?_
                    exact s_joinI () trivial (sl_c (congrArg (fun e => some (Value.bool e)) (by first | exact decide_eq_decide.2 (by omega) | exact (decide_eq_false (by omega)).symm)) (by repeat (first | exact sl_n | refine sl_c rfl ?_))) (fun w h => h.ent (by repeat (first | exact .nil | refine .cons (by repeat (first | exact .here | apply Pick.there)) ?_)))
                  · intro hg13
                    have hs14 := hg13; try simp only [decide_eq_true_eq, decide_eq_false_iff_not, Bool.not_eq_true', Bool.not_eq_false', Bool.and_eq_true, Bool.or_eq_true, Bool.and_eq_false_iff, Bool.or_eq_false_iff, Bool.not_true, Bool.not_false] at hs14
                    refine d_off 3 63 rfl rfl rfl hg13 (by kernel_rfl) rfl rfl ?_
                    refine d_off 4 63 rfl rfl rfl hg13 (by kernel_rfl) rfl rfl ?_
                    refine d_off 5 63 rfl rfl rfl hg13 (by kernel_rfl) rfl rfl ?_
                    refine d_off 6 63 rfl rfl rfl hg13 (by kernel_rfl) rfl rfl ?_
                    refine d_off 7 63 rfl rfl rfl hg13 (by kernel_rfl) rfl rfl ?_
                    refine d_off 8 63 rfl rfl rfl hg13 (by kernel_rfl) rfl rfl ?_
                    refine d_off 9 63 rfl rfl rfl hg13 (by kernel_rfl) rfl rfl ?_
                    refine d_off 10 63 rfl rfl rfl hg13 (by kernel_rfl) rfl rfl ?_
                    refine d_p 11 rfl (p_pickf rfl rfl hg13 rfl) (by kernel_rfl) rfl rfl ?_
                    refine d_nil (by kernel_rfl) (fun w h => h.ent (by repeat (first | exact .nil | refine .cons (by repeat (first | exact .here | apply Pick.there)) ?_))) ?_
                    exact s_joinI () trivial (sl_c (congrArg (fun e => some (Value.bool e)) (by first | exact decide_eq_decide.2 (by omega) | exact (decide_eq_false (by omega)).symm)) (by repeat (first | exact sl_n | refine sl_c rfl ?_))) (fun w h => h.ent (by repeat (first | exact .nil | refine .cons (by repeat (first | exact .here | apply Pick.there)) ?_)))
                · intro _ _
                  refine s_cond rfl (fun h15 => ?_) (fun h15 => ?_)
                  · try simp only [decide_eq_true_eq, decide_eq_false_iff_not, Bool.not_eq_true', Bool.not_eq_false', Bool.and_eq_true, Bool.or_eq_true, Bool.and_eq_false_iff, Bool.or_eq_false_iff, Bool.not_true, Bool.not_false] at h15
                    have hke : k = lbF fs u2 := by have hq := h15; (try simp at hq); exact hq
                    refine s_seq ?_
                    refine s_region ?_
                    refine o_p (p_pure rfl) rfl ?_
                    first | refine o_q (q_loadn rfl rfl sz_96 (by repeat (first | exact .here | apply Pick.there)) rfl) rfl ?_ | refine o_q (q_load_oldn _ rfl rfl sz_96 hs.rd0 (i := k) (by omega)) rfl ?_ | refine o_q (q_load_oldn _ rfl rfl sz_96 rfl (hs.rd (i := k) (by omega))) rfl ?_
                    refine o_h (h_buildSlice (cs := [_, _]) rfl rfl sl_41 zr_96 rfl rfl rfl) rfl (fun b16 _ => ?_)
                    refine o_h (h_appendS _ rfl rfl rfl sl_41 Try.underlying41 zr_96 rfl (by repeat (first | exact .here | apply Pick.there)) (src_blk (by repeat (first | exact .here | apply Pick.there))) rfl (by intro u hu; simp only [List.mem_cons, List.mem_nil_iff, or_false] at hu; rcases hu with rfl | rfl <;> rfl) (by omega) (by simp only [maxLen]; omega)) rfl (fun b17 _ => ?_)
                    refine o_p (p_pure rfl) rfl ?_
                    refine o_nil ?_
                    refine s_region ?_
                    refine o_p (p_pure rfl) rfl ?_
                    refine o_nil ?_
                    refine s_region ?_
                    refine o_p (p_pure rfl) rfl ?_
                    refine o_p (p_pure rfl) rfl ?_
                    refine o_p (p_pure rfl) rfl ?_
                    first | refine o_p (p_indexAddr rfl rfl rfl sl_41 (k) (by omega) (by omega) rfl) rfl ?_ | refine o_p (p_indexAddr rfl rfl rfl sl_41 (k) (by omega) (by omega) (Sl.some hs (by omega))) rfl ?_
                    first | refine o_q (q_loadn rfl rfl sz_96 (by repeat (first | exact .here | apply Pick.there)) rfl) rfl ?_ | refine o_q (q_load_oldn _ rfl rfl sz_96 hs.rd0 (i := k) (by omega)) rfl ?_ | refine o_q (q_load_oldn _ rfl rfl sz_96 rfl (hs.rd (i := k) (by omega))) rfl ?_
                    refine o_h (h_buildSlice (cs := [_, _]) rfl rfl sl_41 zr_96 rfl rfl rfl) rfl (fun b18 _ => ?_)
                    refine o_h (h_appendS _ rfl rfl rfl sl_41 Try.underlying41 zr_96 rfl (by repeat (first | exact .here | apply Pick.there)) (src_blk (by repeat (first | exact .here | apply Pick.there))) rfl (by intro u hu; simp only [List.mem_cons, List.mem_nil_iff, or_false] at hu; rcases hu with rfl | rfl <;> rfl) (by omega) (by simp only [maxLen]; omega)) rfl (fun b19 _ => ?_)
                    refine o_p (p_pure rfl) rfl ?_
                    refine o_nil ?_
                    refine s_blk ?_
                    refine s_region ?_
                    refine o_p (p_pure rfl) rfl ?_
                    refine o_p (p_pure rfl) rfl ?_
                    try (refine o_slot (i64w (by omega) (by omega)) ?_)
                    refine o_p (p_pure rfl) rfl ?_
                    refine o_nil ?_
                    exact s_backI (k + 1, _, _) (by (try simp only []); omega) (by (try simp only []); omega) (by first | exact (sl_c rfl (sl_c (congrArg (fun e => some (Value.bool e)) (by simp; omega)) (sl_c (congrArg (fun e => some (Value.slice _ e _)) (insK_lA hk hke)) (by repeat (first | exact sl_n | refine sl_c rfl ?_))))) | exact (sl_c rfl (sl_c (congrArg (fun e => some (Value.bool e)) (by simp; omega)) (sl_c (congrArg (fun e => some (Value.slice _ e _)) (insK_lB hk hne)) (by repeat (first | exact sl_n | refine sl_c rfl ?_)))))) (fun w h => by first | (simp only [insK_fA hk hke, ← insK_lA hk hke]; exact h.ent (by repeat (first | exact .nil | refine .cons (by repeat (first | exact .here | apply Pick.there)) ?_))) | (simp only [insK_fB hk hne, ← insK_lB hk hne]; exact h.ent (by repeat (first | exact .nil | refine .cons (by repeat (first | exact .here | apply Pick.there)) ?_))))
                  · try simp only [decide_eq_true_eq, decide_eq_false_iff_not, Bool.not_eq_true', Bool.not_eq_false', Bool.and_eq_true, Bool.or_eq_true, Bool.and_eq_false_iff, Bool.or_eq_false_iff, Bool.not_true, Bool.not_false] at h15
                    have hne : k ≠ lbF fs u2 := by have hq := h15; (try simp at hq); omega
                    refine s_skip ?_
                    refine s_region ?_
                    refine o_p (p_pure rfl) rfl ?_
                    refine o_p (p_pure rfl) rfl ?_
                    refine o_p (p_pure rfl) rfl ?_
                    first | refine o_p (p_indexAddr rfl rfl rfl sl_41 (k) (by omega) (by omega) rfl) rfl ?_ | refine o_p (p_indexAddr rfl rfl rfl sl_41 (k) (by omega) (by omega) (Sl.some hs (by omega))) rfl ?_
                    first | refine o_q (q_loadn rfl rfl sz_96 (by repeat (first | exact .here | apply Pick.there)) rfl) rfl ?_ | refine o_q (q_load_oldn _ rfl rfl sz_96 hs.rd0 (i := k) (by omega)) rfl ?_ | refine o_q (q_load_oldn _ rfl rfl sz_96 rfl (hs.rd (i := k) (by omega))) rfl ?_
                    refine o_h (h_buildSlice (cs := [_, _]) rfl rfl sl_41 zr_96 rfl rfl rfl) rfl (fun b20 _ => ?_)
                    refine o_h (h_appendS _ rfl rfl rfl sl_41 Try.underlying41 zr_96 rfl (by repeat (first | exact .here | apply Pick.there)) (src_blk (by repeat (first | exact .here | apply Pick.there))) rfl (by intro u hu; simp only [List.mem_cons, List.mem_nil_iff, or_false] at hu; rcases hu with rfl | rfl <;> rfl) (by omega) (by simp only [maxLen]; omega)) rfl (fun b21 _ => ?_)
                    refine o_p (p_pure rfl) rfl ?_
                    refine o_nil ?_
                    refine s_blk ?_
                    refine s_region ?_
                    refine o_p (p_pure rfl) rfl ?_
                    refine o_p (p_pure rfl) rfl ?_
                    try (refine o_slot (i64w (by omega) (by omega)) ?_)
                    refine o_p (p_pure rfl) rfl ?_
                    refine o_nil ?_
                    exact s_backI (k + 1, _, _) (by (try simp only []); omega) (by (try simp only []); omega) (by first | exact (sl_c rfl (sl_c (congrArg (fun e => some (Value.bool e)) (by simp; omega)) (sl_c (congrArg (fun e => some (Value.slice _ e _)) (insK_lA hk hke)) (by repeat (first | exact sl_n | refine sl_c rfl ?_))))) | exact (sl_c rfl (sl_c (congrArg (fun e => some (Value.bool e)) (by simp; omega)) (sl_c (congrArg (fun e => some (Value.slice _ e _)) (insK_lB hk hne)) (by repeat (first | exact sl_n | refine sl_c rfl ?_)))))) (fun w h => by first | (simp only [insK_fA hk hke, ← insK_lA hk hke]; exact h.ent (by repeat (first | exact .nil | refine .cons (by repeat (first | exact .here | apply Pick.there)) ?_))) | (simp only [insK_fB hk hne, ← insK_lB hk hne]; exact h.ent (by repeat (first | exact .nil | refine .cons (by repeat (first | exact .here | apply Pick.there)) ?_))))
              · try simp only [decide_eq_true_eq, decide_eq_false_iff_not, Bool.not_eq_true', Bool.not_eq_false', Bool.and_eq_true, Bool.or_eq_true, Bool.and_eq_false_iff, Bool.or_eq_false_iff, Bool.not_true, Bool.not_false] at h10
                refine s_exit_to rfl ?_
                refine s_seq ?_
                refine s_seq ?_
                refine s_region ?_
                refine o_p (p_pure rfl) rfl ?_
                refine o_p (p_pure rfl) rfl ?_
                refine o_nil ?_
                refine s_cond rfl (fun h22 => ?_) (fun h22 => ?_)
                · try simp only [decide_eq_true_eq, decide_eq_false_iff_not, Bool.not_eq_true', Bool.not_eq_false', Bool.and_eq_true, Bool.or_eq_true, Bool.and_eq_false_iff, Bool.or_eq_false_iff, Bool.not_true, Bool.not_false] at h22
                  have hkn : k = fs.length := by omega
                  have hlb := lbF_le fs u2
                  have hil : lbF fs u2 = k := by have hq := h22; (try simp at hq); omega
                  refine s_region ?_
                  refine o_p (p_pure rfl) rfl ?_
                  first | refine o_q (q_loadn rfl rfl sz_96 (by repeat (first | exact .here | apply Pick.there)) rfl) rfl ?_ | refine o_q (q_load_oldn _ rfl rfl sz_96 hs.rd0 (i := k) (by omega)) rfl ?_ | refine o_q (q_load_oldn _ rfl rfl sz_96 rfl (hs.rd (i := k) (by omega))) rfl ?_
                  refine o_h (h_buildSlice (cs := [_, _]) rfl rfl sl_41 zr_96 rfl rfl rfl) rfl (fun b23 _ => ?_)
                  refine o_h (h_appendS _ rfl rfl rfl sl_41 Try.underlying41 zr_96 rfl (by repeat (first | exact .here | apply Pick.there)) (src_blk (by repeat (first | exact .here | apply Pick.there))) rfl (by intro u hu; simp only [List.mem_cons, List.mem_nil_iff, or_false] at hu; rcases hu with rfl | rfl <;> rfl) (by omega) (by simp only [maxLen]; omega)) rfl (fun b24 _ => ?_)
                  refine o_p (p_pure rfl) rfl ?_
                  refine o_nil ?_
                  refine s_seq ?_
                  refine s_region ?_
                  refine o_p (p_pure rfl) rfl ?_
                  refine o_p (p_pure rfl) rfl ?_
                  refine o_p (p_pure rfl) rfl ?_
                  refine o_nil ?_
                  exact s_retv (rs := [.tmp 6, .tmp 7]) rfl (.tmp rfl (.tmp rfl (.nil))) (fun w' h' => by first | exact ⟨b24, by rw [add_ok h0 h2, ← insK_last hkn hil]; simp only [List.length_append, List.length_cons, List.length_nil, Nat.zero_add]; rfl, trivial, by rw [add_ok h0 h2, ← insK_last hkn hil, flatF_append, flatF_one1]; simp only [List.length_append, List.length_cons, List.length_nil, Nat.zero_add]; exact h'.ent (by repeat (first | exact .nil | refine .cons (by repeat (first | exact .here | apply Pick.there)) ?_))⟩ | exact ⟨(ga, gc), by rw [add_ok h0 h2, ← insK_end hkn hil]; rfl, trivial, by rw [add_ok h0 h2, ← insK_end hkn hil]; exact h'.ent (by repeat (first | exact .nil | refine .cons (by repeat (first | exact .here | apply Pick.there)) ?_))⟩)
                · try simp only [decide_eq_true_eq, decide_eq_false_iff_not, Bool.not_eq_true', Bool.not_eq_false', Bool.and_eq_true, Bool.or_eq_true, Bool.and_eq_false_iff, Bool.or_eq_false_iff, Bool.not_true, Bool.not_false] at h22
                  have hkn : k = fs.length := by omega
                  have hil : lbF fs u2 < k := by have hq := h22; (try simp at hq); omega
                  refine s_skip ?_
                  refine s_seq ?_
                  refine s_region ?_
                  refine o_p (p_pure rfl) rfl ?_
                  refine o_p (p_pure rfl) rfl ?_
                  refine o_p (p_pure rfl) rfl ?_
                  refine o_nil ?_
                  exact s_retv (rs := [.tmp 6, .tmp 7]) rfl (.tmp rfl (.tmp rfl (.nil))) (fun w' h' => by first | exact ⟨b24, by rw [add_ok h0 h2, ← insK_last hkn hil]; simp only [List.length_append, List.length_cons, List.length_nil, Nat.zero_add]; rfl, trivial, by rw [add_ok h0 h2, ← insK_last hkn hil, flatF_append, flatF_one1]; simp only [List.length_append, List.length_cons, List.length_nil, Nat.zero_add]; exact h'.ent (by repeat (first | exact .nil | refine .cons (by repeat (first | exact .here | apply Pick.there)) ?_))⟩ | exact ⟨(ga, gc), by rw [add_ok h0 h2, ← insK_end hkn hil]; rfl, trivial, by rw [add_ok h0 h2, ← insK_end hkn hil]; exact h'.ent (by repeat (first | exact .nil | refine .cons (by repeat (first | exact .here | apply Pick.there)) ?_))⟩)

end Go.Proofs
