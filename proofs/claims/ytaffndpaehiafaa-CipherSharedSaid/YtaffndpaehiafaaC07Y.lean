/- Contracts of the program's functions, proved by walking them with the rules of the Gx texts; without conditions beyond those that each contract names. -/
import Derived.Test.YtaffndpaehiafaaC07X
namespace Go.Proofs
open Go Go.RowKit Gx
set_option linter.unusedVariables false
set_option linter.unusedSimpArgs false
attribute [local irreducible] Go.Calls Gx.S Gx.O Gx.D Gx.OpP Gx.OpQ Gx.OpH



/-- The error of holders. -/
def hldsE (hs : Fds) : Int := if hs.length ≤ 8 then (eachL (hdEs hs) 0).2 else 8
theorem hlds_at {hs : Fds} {k : Nat} {e : Int} (h : eachL (hdEs hs) 0 = eachL ((hdEs hs).drop k) k) (hk : k < hs.length) (he : hdE hs k = e) (h0 : e ≠ 0) (h8 : hs.length ≤ 8) : hldsE hs = e := by
  unfold hldsE
  rw [if_pos h8, h, eachL_drop (by rw [hdEs_length]; exact hk), hdEs_getD hk, he, if_neg h0]
theorem hlds_next {hs : Fds} {k : Nat} (h : eachL (hdEs hs) 0 = eachL ((hdEs hs).drop k) k) (hk : k < hs.length) (he : hdE hs k = 0) : eachL (hdEs hs) 0 = eachL ((hdEs hs).drop (k + 1)) (k + 1) := by
  rw [h, eachL_drop (by rw [hdEs_length]; exact hk), hdEs_getD hk, he, if_pos rfl]
theorem hdE_h {hs : Fds} {k : Nat} (h : ¬ holdE (fd hs k).1 (fd hs k).2 = 0) : hdE hs k = holdE (fd hs k).1 (fd hs k).2 := by unfold hdE hldE; rw [if_neg h]
theorem hdE_9 {hs : Fds} {k : Nat} (h : holdE (fd hs k).1 (fd hs k).2 = 0) (h1 : ¬ (k = 0 ∨ (fd hs (k - 1)).1 < (fd hs k).1)) : hdE hs k = 9 := by unfold hdE hldE; rw [if_pos h, if_neg h1]
theorem hdE_0 {hs : Fds} {k : Nat} (h : holdE (fd hs k).1 (fd hs k).2 = 0) (h1 : k = 0 ∨ (fd hs (k - 1)).1 < (fd hs k).1) : hdE hs k = 0 := by unfold hdE hldE; rw [if_pos h, if_pos h1]

set_option maxRecDepth 20000 in
theorem c87 (w : World) (a : Option Addr) (cap : Nat) (fs : Fds) (hs : Fl w a fs) (hm : fs.length ≤ 1000) : Calls Try.prog 87 #[.slice a fs.length cap] w fun en w' => en = .returned (.int .i64 (hldsE fs)) ∧ Below w.heap.size w w' := by
  refine enter (args := [_]) Try.func87 Try.ntmps87 rfl rfl (HS.refl w []) ?_
  refine s_seq ?_
  refine s_region ?_
  refine o_p (p_pure rfl) rfl ?_
  refine o_nil ?_
  refine s_seq ?_
  refine s_seq ?_
  refine s_region ?_
  refine o_p (p_pure rfl) rfl ?_
  first | refine o_p (p_len_slice rfl rfl Try.underlying69) rfl ?_ | refine o_q (q_len_own rfl rfl Try.underlying69 (by repeat (first | exact .here | apply Pick.there))) rfl ?_
  refine o_p (p_pure rfl) rfl ?_
  refine o_nil ?_
  refine s_cond rfl (fun h1 => ?_) (fun h1 => ?_)
  · try simp only [decide_eq_true_eq, decide_eq_false_iff_not, Bool.not_eq_true', Bool.not_eq_false', Bool.and_eq_true, Bool.or_eq_true, Bool.and_eq_false_iff, Bool.or_eq_false_iff, Bool.not_true, Bool.not_false] at h1
    refine s_seq ?_
    refine s_region ?_
    refine o_p (p_pure rfl) rfl ?_
    refine o_nil ?_
    exact s_retv (rs := [.tmp 2]) rfl (.tmp rfl (.nil)) (fun w' h' => ⟨by unfold hldsE; rw [if_neg (by omega)]; rfl, h'.below⟩)
  · try simp only [decide_eq_true_eq, decide_eq_false_iff_not, Bool.not_eq_true', Bool.not_eq_false', Bool.and_eq_true, Bool.or_eq_true, Bool.and_eq_false_iff, Bool.or_eq_false_iff, Bool.not_true, Bool.not_false] at h1
    refine s_skip ?_
    refine s_seq ?_
    refine s_seq ?_
    refine s_region ?_
    refine o_p (p_pure rfl) rfl ?_
    refine o_nil ?_
    refine s_block ?_
    refine s_loopI (α := Nat) [2, 3, 4, 8, 9, 10, 11, 12, 13, 14, 15, 16, 17, 18, 19, 20, 21, 22, 23, 24, 25, 26, 27, 28, 29, 30, 31, 32, 33, 34, 35, 36, 37] (fun k => [(3, .int .i64 (k : Int))]) (fun _ => _) (fun k => k ≤ fs.length ∧ eachL (hdEs fs) 0 = eachL ((hdEs fs).drop k) k) (fun k => fs.length - k) 0 ⟨by omega, rfl⟩ (by repeat (first | exact sl_n | refine sl_c rfl ?_)) (fun w h => h) (fun k hk => ?_)
    obtain ⟨hk1, hk2⟩ := hk
    refine s_seq ?_
    refine s_seq ?_
    refine s_region ?_
    refine o_p (p_pure rfl) rfl ?_
    refine o_p (p_pure rfl) rfl ?_
    first | refine o_p (p_len_slice rfl rfl Try.underlying69) rfl ?_ | refine o_q (q_len_own rfl rfl Try.underlying69 (by repeat (first | exact .here | apply Pick.there))) rfl ?_
    refine o_p (p_pure rfl) rfl ?_
    refine o_nil ?_
    refine s_cond rfl (fun h2 => ?_) (fun h2 => ?_)
    · try simp only [decide_eq_true_eq, decide_eq_false_iff_not, Bool.not_eq_true', Bool.not_eq_false', Bool.and_eq_true, Bool.or_eq_true, Bool.and_eq_false_iff, Bool.or_eq_false_iff, Bool.not_true, Bool.not_false] at h2
      refine s_skip ?_
      refine s_seq ?_
      refine s_block ?_
      refine s_seq ?_
      refine s_seq ?_
      refine s_region ?_
      refine o_p (p_pure rfl) rfl ?_
      refine o_p (p_pure rfl) rfl ?_
      first | refine o_p (p_indexAddr rfl rfl rfl sl_69 (k) (by omega) (by omega) rfl) rfl ?_ | refine o_p (p_indexAddr rfl rfl rfl sl_69 (k) (by omega) (by omega) (Sl.some hs (by omega))) rfl ?_
      refine o_q (q_load_oldn _ rfl rfl sz_31 rfl (hs.rd (i := k) (by omega))) rfl ?_
      refine o_q (q_call rfl fn_18 rfl (fun w1 h1 => c18 w1 (fd fs k).1 (fd fs k).2)) rfl ?_
      refine o_p (p_pure rfl) rfl ?_
      refine o_nil ?_
      refine s_seq ?_
      refine s_region ?_
      refine o_p (p_pure rfl) rfl ?_
      refine o_p (p_pure rfl) rfl ?_
      refine o_nil ?_
      refine s_cond rfl (fun h3 => ?_) (fun h3 => ?_)
      · try simp only [decide_eq_true_eq, decide_eq_false_iff_not, Bool.not_eq_true', Bool.not_eq_false', Bool.and_eq_true, Bool.or_eq_true, Bool.and_eq_false_iff, Bool.or_eq_false_iff, Bool.not_true, Bool.not_false] at h3
        refine s_seq ?_
        refine s_region ?_
        refine o_p (p_pure rfl) rfl ?_
        refine o_p (p_pure rfl) rfl ?_
        refine o_nil ?_
        exact s_retv (rs := [.tmp 2]) rfl (.tmp rfl (.nil)) (fun w' h' => ⟨by rw [hlds_at hk2 (by omega) (hdE_h h3) h3 (by omega)]; rfl, h'.below⟩)
      · try simp only [decide_eq_true_eq, decide_eq_false_iff_not, Bool.not_eq_true', Bool.not_eq_false', Bool.and_eq_true, Bool.or_eq_true, Bool.and_eq_false_iff, Bool.or_eq_false_iff, Bool.not_true, Bool.not_false] at h3
        refine s_skip ?_
        refine s_seq ?_
        refine s_cutI (α := Unit) [22, 23, 24, 25, 26, 27, 28, 29, 30, 31, 32, 33, 34, 35, 36, 37] (fun _ => [(37, .bool (decide (0 < k) && decide ((fd fs k).1 ≤ (fd fs (k - 1)).1)))]) (fun _ => HS w [] []) (fun _ => True) ?_ ?_
        · skip
          refine s_draw [] mixed ?_
          refine d_p 0 rfl (p_pure rfl) (by kernel_rfl) rfl rfl ?_
          refine d_p 1 rfl (p_pure rfl) (by kernel_rfl) rfl rfl ?_
          refine d_p 2 rfl (p_pure rfl) (by kernel_rfl) rfl rfl ?_
          apply d_split 24
          · exact rfl
          · intro hg4
            have hs5 := hg4; try simp only [decide_eq_true_eq, decide_eq_false_iff_not, Bool.not_eq_true', Bool.not_eq_false', Bool.and_eq_true, Bool.or_eq_true, Bool.and_eq_false_iff, Bool.or_eq_false_iff, Bool.not_true, Bool.not_false] at hs5
            refine d_pon 3 24 rfl rfl rfl hg4 (p_pure rfl) (by kernel_rfl) rfl rfl ?_
            refine d_pon 4 24 rfl rfl rfl hg4 (p_pure rfl) (by kernel_rfl) rfl rfl ?_
            first | refine d_pon 5 24 rfl rfl rfl hg4 (p_indexAddr rfl rfl rfl sl_69 (k) (by omega) (by omega) rfl) (by kernel_rfl) rfl rfl ?_ | refine d_pon 5 24 rfl rfl rfl hg4 (p_indexAddr rfl rfl rfl sl_69 (k) (by omega) (by omega) (Sl.some hs (by omega))) (by kernel_rfl) rfl rfl ?_
            refine d_pon 6 24 rfl rfl rfl hg4 (p_fieldAddr rfl rfl fd_31_0 sz_3 rfl) (by kernel_rfl) rfl rfl ?_
            first | refine d_qon 7 24 [] rfl rfl rfl hg4 (q_load rfl rfl sz_3 (by repeat (first | exact .here | apply Pick.there)) rfl) (by kernel_rfl) (by kernel_rfl) (by kernel_rfl) rfl ?_ | refine d_qon 7 24 [] rfl rfl rfl hg4 (q_load_old rfl rfl sz_3 (hs.rd0 (i := k) (by omega))) (by kernel_rfl) (by kernel_rfl) (by kernel_rfl) rfl ?_ | refine d_qon 7 24 [] rfl rfl rfl hg4 (q_load_old rfl rfl sz_3 (hs.rd0 (i := k - 1) (by omega))) (by kernel_rfl) (by kernel_rfl) (by kernel_rfl) rfl ?_
            refine d_pon 8 24 rfl rfl rfl hg4 (p_pure rfl) (by kernel_rfl) rfl rfl ?_
            refine d_pon 9 24 rfl rfl rfl hg4 (p_pure rfl) (by kernel_rfl) rfl rfl ?_
            refine d_pon 10 24 rfl rfl rfl hg4 (p_pure rfl) (by kernel_rfl) rfl rfl ?_
            try (refine d_slot (i64w (by omega) (by omega)) ?_)
            first | refine d_pon 11 24 rfl rfl rfl hg4 (p_indexAddr rfl rfl rfl sl_69 (k - 1) (by omega) (by omega) rfl) (by kernel_rfl) rfl rfl ?_ | refine d_pon 11 24 rfl rfl rfl hg4 (p_indexAddr rfl rfl rfl sl_69 (k - 1) (by omega) (by omega) (Sl.some hs (by omega))) (by kernel_rfl) rfl rfl ?_
            refine d_pon 12 24 rfl rfl rfl hg4 (p_fieldAddr rfl rfl fd_31_0 sz_3 rfl) (by kernel_rfl) rfl rfl ?_
            first | refine d_qon 13 24 [] rfl rfl rfl hg4 (q_load rfl rfl sz_3 (by repeat (first | exact .here | apply Pick.there)) rfl) (by kernel_rfl) (by kernel_rfl) (by kernel_rfl) rfl ?_ | refine d_qon 13 24 [] rfl rfl rfl hg4 (q_load_old rfl rfl sz_3 (hs.rd0 (i := k) (by omega))) (by kernel_rfl) (by kernel_rfl) (by kernel_rfl) rfl ?_ | refine d_qon 13 24 [] rfl rfl rfl hg4 (q_load_old rfl rfl sz_3 (hs.rd0 (i := k - 1) (by omega))) (by kernel_rfl) (by kernel_rfl) (by kernel_rfl) rfl ?_
            refine d_pon 14 24 rfl rfl rfl hg4 (p_pure rfl) (by kernel_rfl) rfl rfl ?_
            refine d_p 15 rfl (p_pickt rfl rfl hg4 rfl) (by kernel_rfl) rfl rfl ?_
            refine d_nil (by kernel_rfl) (fun w h => h.ent (by repeat (first | exact .nil | refine .cons (by repeat (first | exact .here | apply Pick.there)) ?_))) ?_
            exact s_joinI () trivial (sl_c (congrArg (fun e => some (Value.bool e)) (by have h9 := hg4; simp at h9; simp [h9])) (by repeat (first | exact sl_n | refine sl_c rfl ?_))) (fun w h => h.ent (by repeat (first | exact .nil | refine .cons (by repeat (first | exact .here | apply Pick.there)) ?_)))
          · intro hg6
            have hs7 := hg6; try simp only [decide_eq_true_eq, decide_eq_false_iff_not, Bool.not_eq_true', Bool.not_eq_false', Bool.and_eq_true, Bool.or_eq_true, Bool.and_eq_false_iff, Bool.or_eq_false_iff, Bool.not_true, Bool.not_false] at hs7
            refine d_off 3 24 rfl rfl rfl hg6 (by kernel_rfl) rfl rfl ?_
            refine d_off 4 24 rfl rfl rfl hg6 (by kernel_rfl) rfl rfl ?_
            refine d_off 5 24 rfl rfl rfl hg6 (by kernel_rfl) rfl rfl ?_
            refine d_off 6 24 rfl rfl rfl hg6 (by kernel_rfl) rfl rfl ?_
            refine d_off 7 24 rfl rfl rfl hg6 (by kernel_rfl) rfl rfl ?_
            refine d_off 8 24 rfl rfl rfl hg6 (by kernel_rfl) rfl rfl ?_
            refine d_off 9 24 rfl rfl rfl hg6 (by kernel_rfl) rfl rfl ?_
            refine d_off 10 24 rfl rfl rfl hg6 (by kernel_rfl) rfl rfl ?_
            refine d_off 11 24 rfl rfl rfl hg6 (by kernel_rfl) rfl rfl ?_
            refine d_off 12 24 rfl rfl rfl hg6 (by kernel_rfl) rfl rfl ?_
            refine d_off 13 24 rfl rfl rfl hg6 (by kernel_rfl) rfl rfl ?_
            refine d_off 14 24 rfl rfl rfl hg6 (by kernel_rfl) rfl rfl ?_
            refine d_p 15 rfl (p_pickf rfl rfl hg6 rfl) (by kernel_rfl) rfl rfl ?_
            refine d_nil (by kernel_rfl) (fun w h => h.ent (by repeat (first | exact .nil | refine .cons (by repeat (first | exact .here | apply Pick.there)) ?_))) ?_
            exact s_joinI () trivial (sl_c (congrArg (fun e => some (Value.bool e)) (by have h9 := hg6; simp at h9; simp [h9])) (by repeat (first | exact sl_n | refine sl_c rfl ?_))) (fun w h => h.ent (by repeat (first | exact .nil | refine .cons (by repeat (first | exact .here | apply Pick.there)) ?_)))
        · intro _ _
          refine s_cond rfl (fun h8 => ?_) (fun h8 => ?_)
          · try simp only [decide_eq_true_eq, decide_eq_false_iff_not, Bool.not_eq_true', Bool.not_eq_false', Bool.and_eq_true, Bool.or_eq_true, Bool.and_eq_false_iff, Bool.or_eq_false_iff, Bool.not_true, Bool.not_false] at h8
            refine s_seq ?_
            refine s_region ?_
            refine o_p (p_pure rfl) rfl ?_
            refine o_nil ?_
            exact s_retv (rs := [.tmp 2]) rfl (.tmp rfl (.nil)) (fun w' h' => ⟨by rw [hlds_at hk2 (by omega) (hdE_9 (by omega) (by omega)) (by decide) (by omega)]; rfl, h'.below⟩)
          · try simp only [decide_eq_true_eq, decide_eq_false_iff_not, Bool.not_eq_true', Bool.not_eq_false', Bool.and_eq_true, Bool.or_eq_true, Bool.and_eq_false_iff, Bool.or_eq_false_iff, Bool.not_true, Bool.not_false] at h8
            refine s_skip ?_
            refine s_blk ?_
            refine s_region ?_
            refine o_p (p_pure rfl) rfl ?_
            refine o_p (p_pure rfl) rfl ?_
            try (refine o_slot (i64w (by omega) (by omega)) ?_)
            refine o_p (p_pure rfl) rfl ?_
            refine o_nil ?_
            exact s_backI (k+1) (by omega) ⟨by omega, hlds_next hk2 (by omega) (hdE_0 (by omega) (by omega))⟩ (by repeat (first | exact sl_n | refine sl_c rfl ?_)) (fun w h => h)
    · try simp only [decide_eq_true_eq, decide_eq_false_iff_not, Bool.not_eq_true', Bool.not_eq_false', Bool.and_eq_true, Bool.or_eq_true, Bool.and_eq_false_iff, Bool.or_eq_false_iff, Bool.not_true, Bool.not_false] at h2
      refine s_exit_to rfl ?_
      refine s_seq ?_
      refine s_region ?_
      refine o_p (p_pure rfl) rfl ?_
      refine o_nil ?_
      exact s_retv (rs := [.tmp 2]) rfl (.tmp rfl (.nil)) (fun w' h' => ⟨by unfold hldsE; rw [if_pos (by omega), hk2, eachL_end (by rw [hdEs_length]; omega)]; rfl, h'.below⟩)

set_option maxRecDepth 20000 in
theorem c88 (w : World) (a : Option Addr) (cap : Nat) (fs : Fds) (u : Int) (hs : Fl w a fs) (hm : fs.length ≤ 1000) : Calls Try.prog 88 #[.slice a fs.length cap, .int .i64 u] w fun en w' => en = .returned (.int .i64 (atR fs u)) ∧ Below w.heap.size w w' := by
  refine enter (args := [_, _]) Try.func88 Try.ntmps88 rfl rfl (HS.refl w []) ?_
  refine s_seq ?_
  refine s_region ?_
  refine o_p (p_pure rfl) rfl ?_
  refine o_nil ?_
  refine s_seq ?_
  refine s_seq ?_
  refine s_region ?_
  refine o_p (p_pure rfl) rfl ?_
  refine o_nil ?_
  refine s_block ?_
  refine s_loopI (α := Nat) [4, 5, 6, 7, 8, 9, 10, 11, 12, 13, 14, 15, 16, 17, 18, 19] (fun k => [(5, .int .i64 (k : Int))]) (fun _ => _) (fun k => k ≤ fs.length ∧ ∀ i, i < k → (fd fs i).1 ≠ u) (fun k => fs.length - k) 0 ⟨by omega, fun i h => absurd h (Nat.not_lt_zero i)⟩ (by repeat (first | exact sl_n | refine sl_c rfl ?_)) (fun w h => h) (fun k hk => ?_)
  obtain ⟨hk1, hk2⟩ := hk
  refine s_seq ?_
  refine s_seq ?_
  refine s_region ?_
  refine o_p (p_pure rfl) rfl ?_
  refine o_p (p_pure rfl) rfl ?_
  first | refine o_p (p_len_slice rfl rfl Try.underlying69) rfl ?_ | refine o_q (q_len_own rfl rfl Try.underlying69 (by repeat (first | exact .here | apply Pick.there))) rfl ?_
  refine o_p (p_pure rfl) rfl ?_
  refine o_nil ?_
  refine s_cond rfl (fun h1 => ?_) (fun h1 => ?_)
  · try simp only [decide_eq_true_eq, decide_eq_false_iff_not, Bool.not_eq_true', Bool.not_eq_false', Bool.and_eq_true, Bool.or_eq_true, Bool.and_eq_false_iff, Bool.or_eq_false_iff, Bool.not_true, Bool.not_false] at h1
    refine s_skip ?_
    refine s_seq ?_
    refine s_block ?_
    refine s_seq ?_
    refine s_region ?_
    refine o_p (p_pure rfl) rfl ?_
    refine o_p (p_pure rfl) rfl ?_
    first | refine o_p (p_indexAddr rfl rfl rfl sl_69 (k) (by omega) (by omega) rfl) rfl ?_ | refine o_p (p_indexAddr rfl rfl rfl sl_69 (k) (by omega) (by omega) (Sl.some hs (by omega))) rfl ?_
    refine o_p (p_fieldAddr rfl rfl fd_31_0 sz_3 rfl) rfl ?_
    first | refine o_q (q_load rfl rfl sz_3 (by repeat (first | exact .here | apply Pick.there)) rfl) rfl ?_ | refine o_q (q_load_old rfl rfl sz_3 (hs.rd0 (i := k) (by omega))) rfl ?_
    refine o_p (p_pure rfl) rfl ?_
    refine o_p (p_pure rfl) rfl ?_
    refine o_nil ?_
    refine s_cond rfl (fun h2 => ?_) (fun h2 => ?_)
    · try simp only [decide_eq_true_eq, decide_eq_false_iff_not, Bool.not_eq_true', Bool.not_eq_false', Bool.and_eq_true, Bool.or_eq_true, Bool.and_eq_false_iff, Bool.or_eq_false_iff, Bool.not_true, Bool.not_false] at h2
      refine s_seq ?_
      refine s_region ?_
      refine o_p (p_pure rfl) rfl ?_
      refine o_p (p_pure rfl) rfl ?_
      refine o_nil ?_
      exact s_retv (rs := [.tmp 4]) rfl (.tmp rfl (.nil)) (fun w' h' => ⟨by have e := idF_eq (fs := fs) (u := u) (k := k) hk1 hk2 (fun _ => by assumption); simp only [retV, atR, e]; rw [if_pos (by omega)], h'.below⟩)
    · try simp only [decide_eq_true_eq, decide_eq_false_iff_not, Bool.not_eq_true', Bool.not_eq_false', Bool.and_eq_true, Bool.or_eq_true, Bool.and_eq_false_iff, Bool.or_eq_false_iff, Bool.not_true, Bool.not_false] at h2
      refine s_skip ?_
      refine s_blk ?_
      refine s_region ?_
      refine o_p (p_pure rfl) rfl ?_
      refine o_p (p_pure rfl) rfl ?_
      try (refine o_slot (i64w (by omega) (by omega)) ?_)
      refine o_p (p_pure rfl) rfl ?_
      refine o_nil ?_
      exact s_backI (k+1) (by omega) ⟨by omega, fun i hi => (Nat.lt_or_ge i k).elim (hk2 i) (fun h => by obtain rfl : i = k := (by omega); assumption)⟩ (by repeat (first | exact sl_n | refine sl_c rfl ?_)) (fun w h => h)
  · try simp only [decide_eq_true_eq, decide_eq_false_iff_not, Bool.not_eq_true', Bool.not_eq_false', Bool.and_eq_true, Bool.or_eq_true, Bool.and_eq_false_iff, Bool.or_eq_false_iff, Bool.not_true, Bool.not_false] at h1
    refine s_exit_to rfl ?_
    refine s_seq ?_
    refine s_region ?_
    refine o_p (p_pure rfl) rfl ?_
    refine o_nil ?_
    exact s_retv (rs := [.tmp 4]) rfl (.tmp rfl (.nil)) (fun w' h' => ⟨by have e := idF_eq (fs := fs) (u := u) (k := k) hk1 hk2 (fun h => by omega); simp only [retV, atR, e]; rw [if_neg (by omega)], h'.below⟩)

end Go.Proofs
