/- Contracts of the program's functions, proved by walking them with the rules of the Gx texts; without conditions beyond those that each contract names. -/
import Derived.Test.YtgdigngojonbhaaC25Y
namespace Go.Proofs
open Go Go.RowKit Gx
set_option linter.unusedVariables false
set_option linter.unusedSimpArgs false
attribute [local irreducible] Go.Calls Gx.S Gx.O Gx.D Gx.OpP Gx.OpQ Gx.OpH



def fewF (f : LFil) : Bool := decide (f.op.length ≤ 40) && f.op.all fun o => decide (o.lk.length ≤ 20)
/-- Few files, handles and locks. -/
def fewT (L : List LFil) : Bool := decide (L.length ≤ 40) && L.all fewF
theorem fewT_l {L : List LFil} (h : 40 < L.length) : fewT L = false := by
  unfold fewT
  simp
  omega
theorem fewT_f {L : List LFil} {i : Nat} (hi : i < L.length) (h : fewF (nth L i) = false) : fewT L = false := by
  unfold fewT
  rw [Bool.and_eq_false_iff]
  right
  rw [List.all_eq_false]
  exact ⟨_, mem_nth hi, by rw [h]; decide⟩
theorem fewF_l {f : LFil} (h : 40 < f.op.length) : fewF f = false := by
  unfold fewF
  simp
  omega
theorem fewF_k {f : LFil} {k : Nat} (hk : k < f.op.length) (h : 20 < (nth f.op k).lk.length) : fewF f = false := by
  unfold fewF
  rw [Bool.and_eq_false_iff]
  right
  rw [List.all_eq_false]
  exact ⟨_, mem_nth hk, by simp; omega⟩
theorem fewT_1 {L : List LFil} (hl : L.length ≤ 40) (h : ∀ m, m < L.length → fewF (nth L m) = true) : fewT L = true := by
  unfold fewT
  rw [Bool.and_eq_true, List.all_eq_true]
  refine ⟨by simpa using hl, fun f hf => ?_⟩
  obtain ⟨m, hm, rfl⟩ := mem_nth_ex hf
  exact h m hm
theorem fewF_1 {f : LFil} (hl : f.op.length ≤ 40) (h : ∀ m, m < f.op.length → (nth f.op m).lk.length ≤ 20) : fewF f = true := by
  unfold fewF
  rw [Bool.and_eq_true, List.all_eq_true]
  refine ⟨by simpa using hl, fun o ho => ?_⟩
  obtain ⟨m, hm, rfl⟩ := mem_nth_ex ho
  simpa using h m hm
theorem fewT_r {L : List LFil} (h : fewT L = true) : L.length ≤ 40 ∧ (∀ f ∈ L, f.op.length ≤ 40) ∧ ∀ f ∈ L, ∀ o ∈ f.op, o.lk.length ≤ 20 := by
  unfold fewT fewF at h
  simp only [Bool.and_eq_true, decide_eq_true_eq, List.all_eq_true] at h
  exact ⟨h.1, fun f hf => (h.2 f hf).1, fun f hf o ho => (h.2 f hf).2 o ho⟩
/-- What a table of few permits: the bounds that the contracts ask. -/
theorem fewT_b {L : List LFil} (h : fewT L = true) : L.length ≤ 1000 ∧ (∀ f ∈ L, f.op.length ≤ 1000) ∧ ∀ f ∈ L, ∀ o ∈ f.op, o.lk.length ≤ 1000 := by
  obtain ⟨h1, h2, h3⟩ := fewT_r h
  exact ⟨by omega, fun f hf => by have := h2 f hf; omega, fun f hf o ho => by have := h3 f hf o ho; omega⟩
theorem same_b {L N : List LFil} (h : pls N = pls L) (hb : L.length ≤ 1000 ∧ (∀ f ∈ L, f.op.length ≤ 1000) ∧ ∀ f ∈ L, ∀ o ∈ f.op, o.lk.length ≤ 1000) : N.length ≤ 1000 ∧ (∀ f ∈ N, f.op.length ≤ 1000) ∧ ∀ f ∈ N, ∀ o ∈ f.op, o.lk.length ≤ 1000 := by
  have e : N.length = L.length := same_len h
  refine ⟨by omega, fun f hf => ?_, fun f hf o ho => ?_⟩
  · obtain ⟨i, hi, rfl⟩ := mem_nth_ex hf
    have h1 := (same_nth h.symm hi).2
    have h2 : (nth L i).op.length = (nth N i).op.length := by
      have h9 := congrArg (fun f : Fil => f.op.length) h1
      simpa [LFil.pl] using h9
    rw [← h2]
    exact hb.2.1 _ (mem_nth (by omega))
  · obtain ⟨i, hi, rfl⟩ := mem_nth_ex hf
    obtain ⟨k, hk, rfl⟩ := mem_nth_ex ho
    have h1 := (same_nth h.symm hi).2
    obtain ⟨h2, _, h3⟩ := same_op h1 hk
    have h4 : (nth (nth L i).op k).lk = (nth (nth N i).op k).lk := congrArg Opn.lk h3
    rw [← h4]
    exact hb.2.2 _ (mem_nth (by omega)) _ (mem_nth h2)
theorem openE_02 (a b : Int) : openE a b = 0 ∨ openE a b = 2 := by
  unfold openE
  split <;> simp

set_option maxRecDepth 20000 in
theorem c17 (w : World) (next : Int) (a : Option Addr) (cap : Nat) (L : List LFil) (hs : Ft w [] a L) : Calls Try.prog 17 #[.agg #[.int .i64 next, .slice a L.length cap]] w fun en w' => en = .returned (.bool (fewT L)) ∧ Below w.heap.size w w' := by
  refine enter (args := [_]) Try.func17 Try.ntmps17 rfl rfl (HS.refl w []) ?_
  refine s_seq ?_
  refine s_region ?_
  refine o_h (h_box rfl rfl) rfl (fun b1 _ => ?_)
  refine o_p (p_pure rfl) rfl ?_
  refine o_nil ?_
  refine s_seq ?_
  refine s_seq ?_
  refine s_region ?_
  refine o_p (p_fieldAddr rfl rfl fd_26_1 sz_24 rfl) rfl ?_
  first | refine o_q (q_load rfl rfl sz_24 (by repeat (first | exact .here | apply Pick.there)) rfl) rfl ?_ | refine o_q (q_load_old rfl rfl sz_24 ((hs.1.rdj 3 hil rfl))) rfl ?_ | refine o_q (q_load_old rfl rfl sz_24 (((hs.at hil).1.rdj 4 hkl rfl))) rfl ?_
  first | refine o_p (p_len_slice rfl rfl Try.underlying24) rfl ?_ | refine o_q (q_len_own rfl rfl Try.underlying24 (by repeat (first | exact .here | apply Pick.there))) rfl ?_
  refine o_p (p_pure rfl) rfl ?_
  refine o_nil ?_
  refine s_cond rfl (fun h2 => ?_) (fun h2 => ?_)
  · try simp only [decide_eq_true_eq, decide_eq_false_iff_not, Bool.not_eq_true', Bool.not_eq_false', Bool.and_eq_true, Bool.or_eq_true, Bool.and_eq_false_iff, Bool.or_eq_false_iff, Bool.not_true, Bool.not_false] at h2
    refine s_seq ?_
    refine s_region ?_
    refine o_p (p_pure rfl) rfl ?_
    refine o_nil ?_
    exact s_retv (rs := [.tmp 2]) rfl (.tmp rfl (.nil)) (fun w' h' => ⟨by rw [fewT_l (by have hq := h2; omega)]; rfl, h'.below⟩)
  · try simp only [decide_eq_true_eq, decide_eq_false_iff_not, Bool.not_eq_true', Bool.not_eq_false', Bool.and_eq_true, Bool.or_eq_true, Bool.and_eq_false_iff, Bool.or_eq_false_iff, Bool.not_true, Bool.not_false] at h2
    have hl40 : L.length ≤ 40 := by have hq := h2; omega
    refine s_skip ?_
    refine s_seq ?_
    refine s_seq ?_
    refine s_region ?_
    refine o_p (p_pure rfl) rfl ?_
    refine o_nil ?_
    refine s_block ?_
    refine s_loopI (α := Nat) [2, 3, 4, 9, 10, 11, 12, 13, 14, 15, 16, 17, 18, 19, 20, 21, 22, 23, 24, 25, 26, 27, 28, 29, 30, 31, 32, 33, 34, 35, 36, 37, 38, 39, 40, 41, 42, 43, 44, 45, 46] (fun i => [(3, .int .i64 (i : Int))]) (fun _ => HS w [] [.blk b1 26 2 [.int .i64 next, .slice a L.length cap]]) (fun i => i ≤ L.length ∧ ∀ m, m < i → fewF (nth L m) = true) (fun i => L.length - i) 0 ⟨Nat.zero_le _, fun m h => absurd h (Nat.not_lt_zero m)⟩ (by repeat (first | exact sl_n | refine sl_c rfl ?_)) (fun w h => h.ent (by repeat (first | exact .nil | refine .cons (by repeat (first | exact .here | apply Pick.there)) ?_))) (fun i hy => ?_)
    obtain ⟨hi1, hi2⟩ := hy
    refine s_seq ?_
    refine s_seq ?_
    refine s_region ?_
    refine o_p (p_pure rfl) rfl ?_
    refine o_p (p_fieldAddr rfl rfl fd_26_1 sz_24 rfl) rfl ?_
    first | refine o_q (q_load rfl rfl sz_24 (by repeat (first | exact .here | apply Pick.there)) rfl) rfl ?_ | refine o_q (q_load_old rfl rfl sz_24 ((hs.1.rdj 3 hil rfl))) rfl ?_ | refine o_q (q_load_old rfl rfl sz_24 (((hs.at hil).1.rdj 4 hkl rfl))) rfl ?_
    first | refine o_p (p_len_slice rfl rfl Try.underlying24) rfl ?_ | refine o_q (q_len_own rfl rfl Try.underlying24 (by repeat (first | exact .here | apply Pick.there))) rfl ?_
    refine o_p (p_pure rfl) rfl ?_
    refine o_nil ?_
    refine s_cond rfl (fun h3 => ?_) (fun h3 => ?_)
    · try simp only [decide_eq_true_eq, decide_eq_false_iff_not, Bool.not_eq_true', Bool.not_eq_false', Bool.and_eq_true, Bool.or_eq_true, Bool.and_eq_false_iff, Bool.or_eq_false_iff, Bool.not_true, Bool.not_false] at h3
      have hil : i < L.length := by omega
      refine s_skip ?_
      refine s_seq ?_
      refine s_block ?_
      refine s_seq ?_
      refine s_seq ?_
      refine s_region ?_
      refine o_p (p_fieldAddr rfl rfl fd_26_1 sz_24 rfl) rfl ?_
      first | refine o_q (q_load rfl rfl sz_24 (by repeat (first | exact .here | apply Pick.there)) rfl) rfl ?_ | refine o_q (q_load_old rfl rfl sz_24 ((hs.1.rdj 3 hil rfl))) rfl ?_ | refine o_q (q_load_old rfl rfl sz_24 (((hs.at hil).1.rdj 4 hkl rfl))) rfl ?_
      refine o_p (p_pure rfl) rfl ?_
      first | refine o_p (p_indexAddr rfl rfl rfl sl_24 (i) (by omega) (by omega) rfl) rfl ?_ | refine o_p (p_indexAddr rfl rfl rfl sl_24 (i) (by omega) (by omega) (Rw.some hs.1 (by omega))) rfl ?_ | refine o_p (p_indexAddr rfl rfl rfl sl_24 (i) (by omega) (by omega) (Rw.some (hs.at hil).1 (by omega))) rfl ?_
      refine o_p (p_fieldAddr rfl rfl fd_77_2 sz_75 rfl) rfl ?_
      first | refine o_q (q_load rfl rfl sz_75 (by repeat (first | exact .here | apply Pick.there)) rfl) rfl ?_ | refine o_q (q_load_old rfl rfl sz_75 ((hs.1.rdj 3 hil rfl))) rfl ?_ | refine o_q (q_load_old rfl rfl sz_75 (((hs.at hil).1.rdj 4 hkl rfl))) rfl ?_
      first | refine o_p (p_len_slice rfl rfl Try.underlying75) rfl ?_ | refine o_q (q_len_own rfl rfl Try.underlying75 (by repeat (first | exact .here | apply Pick.there))) rfl ?_
      refine o_p (p_pure rfl) rfl ?_
      refine o_nil ?_
      refine s_cond rfl (fun h4 => ?_) (fun h4 => ?_)
      · try simp only [decide_eq_true_eq, decide_eq_false_iff_not, Bool.not_eq_true', Bool.not_eq_false', Bool.and_eq_true, Bool.or_eq_true, Bool.and_eq_false_iff, Bool.or_eq_false_iff, Bool.not_true, Bool.not_false] at h4
        refine s_seq ?_
        refine s_region ?_
        refine o_p (p_pure rfl) rfl ?_
        refine o_nil ?_
        exact s_retv (rs := [.tmp 2]) rfl (.tmp rfl (.nil)) (fun w' h' => ⟨by rw [fewT_f hil (fewF_l (by have hq := h4; omega))]; rfl, h'.below⟩)
      · try simp only [decide_eq_true_eq, decide_eq_false_iff_not, Bool.not_eq_true', Bool.not_eq_false', Bool.and_eq_true, Bool.or_eq_true, Bool.and_eq_false_iff, Bool.or_eq_false_iff, Bool.not_true, Bool.not_false] at h4
        have ho40 : (nth L i).op.length ≤ 40 := by have hq := h4; omega
        refine s_skip ?_
        refine s_seq ?_
        refine s_region ?_
        refine o_p (p_pure rfl) rfl ?_
        refine o_nil ?_
        refine s_block ?_
        refine s_weaken (L' := [(0, _), (1, _), (3, _), (4, _), (5, _), (6, _), (7, _), (8, _)]) (by repeat (first | exact sl_n | refine sl_c rfl ?_)) (fun _ h => h) ?_
        refine s_loopI (α := Nat) [2, 4, 24, 25, 26, 27, 28, 29, 30, 31, 32, 33, 34, 35, 36, 37, 38, 39, 40, 41, 42, 43, 44, 45, 46] (fun k => [(4, .int .i64 (k : Int))]) (fun _ => HS w [] [.blk b1 26 2 [.int .i64 next, .slice a L.length cap]]) (fun k => k ≤ (nth L i).op.length ∧ ∀ m, m < k → (nth (nth L i).op m).lk.length ≤ 20) (fun k => (nth L i).op.length - k) 0 ⟨Nat.zero_le _, fun m h => absurd h (Nat.not_lt_zero m)⟩ (by repeat (first | exact sl_n | refine sl_c rfl ?_)) (fun w h => h.ent (by repeat (first | exact .nil | refine .cons (by repeat (first | exact .here | apply Pick.there)) ?_))) (fun k hy => ?_)
        obtain ⟨hk1, hk2⟩ := hy
        refine s_seq ?_
        refine s_seq ?_
        refine s_region ?_
        refine o_p (p_pure rfl) rfl ?_
        refine o_p (p_fieldAddr rfl rfl fd_26_1 sz_24 rfl) rfl ?_
        first | refine o_q (q_load rfl rfl sz_24 (by repeat (first | exact .here | apply Pick.there)) rfl) rfl ?_ | refine o_q (q_load_old rfl rfl sz_24 ((hs.1.rdj 3 hil rfl))) rfl ?_ | refine o_q (q_load_old rfl rfl sz_24 (((hs.at hil).1.rdj 4 hkl rfl))) rfl ?_
        refine o_p (p_pure rfl) rfl ?_
        first | refine o_p (p_indexAddr rfl rfl rfl sl_24 (i) (by omega) (by omega) rfl) rfl ?_ | refine o_p (p_indexAddr rfl rfl rfl sl_24 (i) (by omega) (by omega) (Rw.some hs.1 (by omega))) rfl ?_ | refine o_p (p_indexAddr rfl rfl rfl sl_24 (i) (by omega) (by omega) (Rw.some (hs.at hil).1 (by omega))) rfl ?_
        refine o_p (p_fieldAddr rfl rfl fd_77_2 sz_75 rfl) rfl ?_
        first | refine o_q (q_load rfl rfl sz_75 (by repeat (first | exact .here | apply Pick.there)) rfl) rfl ?_ | refine o_q (q_load_old rfl rfl sz_75 ((hs.1.rdj 3 hil rfl))) rfl ?_ | refine o_q (q_load_old rfl rfl sz_75 (((hs.at hil).1.rdj 4 hkl rfl))) rfl ?_
        first | refine o_p (p_len_slice rfl rfl Try.underlying75) rfl ?_ | refine o_q (q_len_own rfl rfl Try.underlying75 (by repeat (first | exact .here | apply Pick.there))) rfl ?_
        refine o_p (p_pure rfl) rfl ?_
        refine o_nil ?_
        refine s_cond rfl (fun h5 => ?_) (fun h5 => ?_)
        · try simp only [decide_eq_true_eq, decide_eq_false_iff_not, Bool.not_eq_true', Bool.not_eq_false', Bool.and_eq_true, Bool.or_eq_true, Bool.and_eq_false_iff, Bool.or_eq_false_iff, Bool.not_true, Bool.not_false] at h5
          have hkl : k < (nth L i).op.length := by omega
          refine s_skip ?_
          refine s_seq ?_
          refine s_block ?_
          refine s_seq ?_
          refine s_region ?_
          refine o_p (p_fieldAddr rfl rfl fd_26_1 sz_24 rfl) rfl ?_
          first | refine o_q (q_load rfl rfl sz_24 (by repeat (first | exact .here | apply Pick.there)) rfl) rfl ?_ | refine o_q (q_load_old rfl rfl sz_24 ((hs.1.rdj 3 hil rfl))) rfl ?_ | refine o_q (q_load_old rfl rfl sz_24 (((hs.at hil).1.rdj 4 hkl rfl))) rfl ?_
          refine o_p (p_pure rfl) rfl ?_
          first | refine o_p (p_indexAddr rfl rfl rfl sl_24 (i) (by omega) (by omega) rfl) rfl ?_ | refine o_p (p_indexAddr rfl rfl rfl sl_24 (i) (by omega) (by omega) (Rw.some hs.1 (by omega))) rfl ?_ | refine o_p (p_indexAddr rfl rfl rfl sl_24 (i) (by omega) (by omega) (Rw.some (hs.at hil).1 (by omega))) rfl ?_
          refine o_p (p_fieldAddr rfl rfl fd_77_2 sz_75 rfl) rfl ?_
          first | refine o_q (q_load rfl rfl sz_75 (by repeat (first | exact .here | apply Pick.there)) rfl) rfl ?_ | refine o_q (q_load_old rfl rfl sz_75 ((hs.1.rdj 3 hil rfl))) rfl ?_ | refine o_q (q_load_old rfl rfl sz_75 (((hs.at hil).1.rdj 4 hkl rfl))) rfl ?_
          refine o_p (p_pure rfl) rfl ?_
          first | refine o_p (p_indexAddr rfl rfl rfl sl_75 (k) (by omega) (by omega) rfl) rfl ?_ | refine o_p (p_indexAddr rfl rfl rfl sl_75 (k) (by omega) (by omega) (Rw.some hs.1 (by omega))) rfl ?_ | refine o_p (p_indexAddr rfl rfl rfl sl_75 (k) (by omega) (by omega) (Rw.some (hs.at hil).1 (by omega))) rfl ?_
          refine o_p (p_fieldAddr rfl rfl fd_48_4 sz_46 rfl) rfl ?_
          first | refine o_q (q_load rfl rfl sz_46 (by repeat (first | exact .here | apply Pick.there)) rfl) rfl ?_ | refine o_q (q_load_old rfl rfl sz_46 ((hs.1.rdj 3 hil rfl))) rfl ?_ | refine o_q (q_load_old rfl rfl sz_46 (((hs.at hil).1.rdj 4 hkl rfl))) rfl ?_
          first | refine o_p (p_len_slice rfl rfl Try.underlying46) rfl ?_ | refine o_q (q_len_own rfl rfl Try.underlying46 (by repeat (first | exact .here | apply Pick.there))) rfl ?_
          refine o_p (p_pure rfl) rfl ?_
          refine o_nil ?_
          refine s_cond rfl (fun h6 => ?_) (fun h6 => ?_)
          · try simp only [decide_eq_true_eq, decide_eq_false_iff_not, Bool.not_eq_true', Bool.not_eq_false', Bool.and_eq_true, Bool.or_eq_true, Bool.and_eq_false_iff, Bool.or_eq_false_iff, Bool.not_true, Bool.not_false] at h6
            refine s_seq ?_
            refine s_region ?_
            refine o_p (p_pure rfl) rfl ?_
            refine o_nil ?_
            exact s_retv (rs := [.tmp 2]) rfl (.tmp rfl (.nil)) (fun w' h' => ⟨by rw [fewT_f hil (fewF_k hkl (by have hq := h6; omega))]; rfl, h'.below⟩)
          · try simp only [decide_eq_true_eq, decide_eq_false_iff_not, Bool.not_eq_true', Bool.not_eq_false', Bool.and_eq_true, Bool.or_eq_true, Bool.and_eq_false_iff, Bool.or_eq_false_iff, Bool.not_true, Bool.not_false] at h6
            refine s_skip ?_
            refine s_blk ?_
            refine s_region ?_
            refine o_p (p_pure rfl) rfl ?_
            refine o_p (p_pure rfl) rfl ?_
            try (refine o_slot (i64w (by omega) (by omega)) ?_)
            refine o_p (p_pure rfl) rfl ?_
            refine o_nil ?_
            exact s_backI (k + 1) (by omega) ⟨by omega, fun m hm => (Nat.lt_or_ge m k).elim (hk2 m) (fun h9 => by have e9 : m = k := (by omega); rw [e9]; have hq := h6; omega)⟩ (by repeat (first | exact sl_n | refine sl_c rfl ?_)) (fun w h => h.ent (by repeat (first | exact .nil | refine .cons (by repeat (first | exact .here | apply Pick.there)) ?_)))
        · try simp only [decide_eq_true_eq, decide_eq_false_iff_not, Bool.not_eq_true', Bool.not_eq_false', Bool.and_eq_true, Bool.or_eq_true, Bool.and_eq_false_iff, Bool.or_eq_false_iff, Bool.not_true, Bool.not_false] at h5
          refine s_exit_to rfl ?_
          refine s_blk ?_
          refine s_region ?_
          refine o_p (p_pure rfl) rfl ?_
          refine o_p (p_pure rfl) rfl ?_
          try (refine o_slot (i64w (by omega) (by omega)) ?_)
          refine o_p (p_pure rfl) rfl ?_
          refine o_nil ?_
          exact s_backI (i + 1) (by omega) ⟨by omega, fun m hm => (Nat.lt_or_ge m i).elim (hi2 m) (fun h9 => by have e9 : m = i := (by omega); rw [e9]; exact fewF_1 ho40 (fun q hq => hk2 q (by omega)))⟩ (by repeat (first | exact sl_n | refine sl_c rfl ?_)) (fun w h => h.ent (by repeat (first | exact .nil | refine .cons (by repeat (first | exact .here | apply Pick.there)) ?_)))
    · try simp only [decide_eq_true_eq, decide_eq_false_iff_not, Bool.not_eq_true', Bool.not_eq_false', Bool.and_eq_true, Bool.or_eq_true, Bool.and_eq_false_iff, Bool.or_eq_false_iff, Bool.not_true, Bool.not_false] at h3
      refine s_exit_to rfl ?_
      refine s_seq ?_
      refine s_region ?_
      refine o_p (p_pure rfl) rfl ?_
      refine o_nil ?_
      exact s_retv (rs := [.tmp 2]) rfl (.tmp rfl (.nil)) (fun w' h' => ⟨by rw [fewT_1 hl40 (fun m hm => hi2 m (by omega))]; rfl, h'.below⟩)

end Go.Proofs
