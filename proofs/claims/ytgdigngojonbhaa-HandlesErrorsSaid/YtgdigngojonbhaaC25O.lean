/- Contracts of the program's functions, proved by walking them with the rules of the Gx texts; without conditions beyond those that each contract names. -/
import Derived.Test.YtgdigngojonbhaaC25N
namespace Go.Proofs
open Go Go.RowKit Gx
set_option linter.unusedVariables false
set_option linter.unusedSimpArgs false
attribute [local irreducible] Go.Calls Gx.S Gx.O Gx.D Gx.OpP Gx.OpQ Gx.OpH

theorem fn_69 : isFn Try.prog 69 = true := by kernel_rfl
theorem eqk_42 : teqk Try.prog 42 = some [0, 0] := by kernel_rfl


def lksE (l : List Lock) : Int := if 16 < l.length then 8 else rngsE l
def rngEs (l : List Lock) : List Int := l.map fun k => rngE k.fr k.cnt
theorem rngEs_get {l : List Lock} {k : Nat} (h : k < l.length) : (rngEs l).getD k 0 = rngE (nth l k).fr (nth l k).cnt := map_getD_nth h
theorem rngEs_len (l : List Lock) : (rngEs l).length = l.length := by simp [rngEs]
theorem lockedE_drop {held lk : List Lock} {i : Nat} (hi : i < lk.length) : lockedE held (lk.drop i) = if held.any (clsh · (nth lk i)) = true then 29 else lockedE (held ++ [nth lk i]) (lk.drop (i + 1)) := by
  rw [drop_nth hi, lockedE]
/-- Of the handles up to k of a file: no lock clashes with q, of handle k itself the first i. -/
def noCl (ops : List LOpn) (k i n m : Nat) (q : Lock) : Prop := ∀ n2 m2, n2 < ops.length → m2 < (nth ops n2).lk.length → (n2 < n ∨ n2 = n ∧ m2 < m) → n2 ≤ k → (n2 < k ∨ m2 < i) → clsh q (nth (nth ops n2).lk m2) = false
theorem held_mem {ops : List LOpn} {k i : Nat} (hk : k < ops.length) {x : Lock} : x ∈ ((plo ops).take k).flatMap Opn.lk ++ (nth ops k).lk.take i ↔ ∃ n2 m2, n2 < ops.length ∧ m2 < (nth ops n2).lk.length ∧ n2 ≤ k ∧ (n2 < k ∨ m2 < i) ∧ nth (nth ops n2).lk m2 = x := by
  rw [List.mem_append, List.mem_flatMap]
  constructor
  · rintro (⟨o, ho, hx⟩ | hx)
    · obtain ⟨j, hj, hl, rfl⟩ := nth_mem_take ho
      have hl' : j < ops.length := by simpa using hl
      rw [nth_plo hl'] at hx
      obtain ⟨m, hm, e⟩ := List.getElem_of_mem hx
      exact ⟨j, m, hl', hm, by omega, .inl hj, nth_eq (by rw [← e]; exact List.getElem?_eq_getElem hm)⟩
    · obtain ⟨m, h1, h2, h3⟩ := nth_mem_take hx
      exact ⟨k, m, hk, h2, Nat.le_refl _, .inr h1, h3⟩
  · rintro ⟨n2, m2, h1, h2, h3, h4, rfl⟩
    by_cases h : n2 < k
    · refine .inl ⟨(nth ops n2).pl, ?_, mem_nth h2⟩
      have e : nth ((plo ops).take k) n2 = (nth ops n2).pl := by rw [nth_take h, nth_plo h1]
      rw [← e]
      exact mem_nth (by rw [List.length_take, List.length_map]; omega)
    · obtain rfl : n2 = k := by omega
      refine .inr ?_
      have hm : m2 < i := by omega
      have e : nth ((nth ops n2).lk.take i) m2 = nth (nth ops n2).lk m2 := nth_take hm
      rw [← e]
      exact mem_nth (by rw [List.length_take]; omega)
theorem noCl_all {ops : List LOpn} {k i n : Nat} {q : Lock} (hk : k < ops.length) (hn : k < n) (h : noCl ops k i n 0 q) : (((plo ops).take k).flatMap Opn.lk ++ (nth ops k).lk.take i).any (clsh · q) = false := by
  rw [List.any_eq_false]
  intro x hx
  obtain ⟨n2, m2, h1, h2, h3, h4, rfl⟩ := (held_mem hk).1 hx
  have := h n2 m2 h1 h2 (.inl (by omega)) h3 h4
  rw [clsh_comm]
  simpa using this
theorem noCl_hit {ops : List LOpn} {k i n m : Nat} {q : Lock} (hk : k < ops.length) (hn : n < ops.length) (hm : m < (nth ops n).lk.length) (hnk : n ≤ k) (hw : n < k ∨ m < i) (h : clsh q (nth (nth ops n).lk m) = true) : (((plo ops).take k).flatMap Opn.lk ++ (nth ops k).lk.take i).any (clsh · q) = true := by
  rw [List.any_eq_true]
  exact ⟨_, (held_mem hk).2 ⟨n, m, hn, hm, hnk, hw, rfl⟩, by rw [clsh_comm]; exact h⟩
def fdI (L : List Fil) (h : Int) : Int × Int := if (findF L h 0).2.2 = 0 then (((findF L h 0).1 : Int), ((findF L h 0).2.1 : Int)) else (-1, -1)
def atB (L : List Fil) (rc sq : Int) : List Bool := L.map fun f => decide (f.rc = rc) && decide (f.sq = sq)
theorem atB_get {L : List LFil} {rc sq : Int} {k : Nat} (h : k < L.length) : (atB (pls L) rc sq).getD k false = (decide ((nth L k).rc = rc) && decide ((nth L k).sq = sq)) := by
  have h2 : k < (pls L).length := by simpa using h
  have e : (atB (pls L) rc sq).getD k false = (decide ((nth (pls L) k).rc = rc) && decide ((nth (pls L) k).sq = sq)) := by
    unfold atB
    exact map_getD_nthB h2
  rw [e, nth_pls h]
  rfl
theorem atB_len {L : List LFil} {rc sq : Int} : (atB (pls L) rc sq).length = L.length := by simp [atB]
theorem findF_hit {L : List LFil} {h : Int} {i k : Nat} (hi : i < L.length) (hk : k < (nth L i).op.length) (hb : ∀ j, j < k → (nth (nth L i).op j).hd ≠ h) (he : (nth (nth L i).op k).hd = h) : ixO (nth (pls L) i).op h = k := by
  rw [nth_pls hi]
  unfold ixO LFil.pl
  rw [List.map_map]
  refine ixB_eq (by rw [List.length_map]; omega) (fun j hj => ?_) (fun _ => ?_)
  · rw [map_getD_nthB (by omega)]
    exact decide_eq_false (hb j hj)
  · rw [map_getD_nthB hk]
    exact decide_eq_true he
theorem findF_miss {L : List LFil} {h : Int} {i : Nat} (hi : i < L.length) (hb : ∀ j, j < (nth L i).op.length → (nth (nth L i).op j).hd ≠ h) : ¬ ixO (nth (pls L) i).op h < (nth (pls L) i).op.length := by
  rw [nth_pls hi]
  have e : ixO (nth L i).pl.op h = (nth L i).op.length := by
    unfold ixO LFil.pl
    rw [List.map_map]
    refine ixB_eq (by rw [List.length_map]; exact Nat.le_refl _) (fun j hj => ?_) (fun h9 => by rw [List.length_map] at h9; omega)
    rw [map_getD_nthB (by omega)]
    exact decide_eq_false (hb j hj)
  rw [e]
  simp [LFil.pl]

set_option maxRecDepth 20000 in
theorem c98 (w : World) (o : LOpn) (hk : Kt w [] o.la o.lk) : Calls Try.prog 98 #[.agg #[.int .i64 o.hd, .int .i64 o.ac, .int .i64 o.sh, .bool o.dl, .slice o.la o.lk.length o.lc]] w fun en w' => en = .returned (.int .i64 (lksE o.lk)) ∧ Below w.heap.size w w' := by
  have hel := rngEs_len o.lk
  refine enter (args := [_]) Try.func98 Try.ntmps98 rfl rfl (HS.refl w []) ?_
  refine s_seq ?_
  refine s_region ?_
  refine o_h (h_box rfl rfl) rfl (fun b1 _ => ?_)
  refine o_p (p_pure rfl) rfl ?_
  refine o_nil ?_
  refine s_seq ?_
  refine s_seq ?_
  refine s_region ?_
  refine o_p (p_fieldAddr rfl rfl fd_48_4 sz_46 rfl) rfl ?_
  first | refine o_q (q_load rfl rfl sz_46 (by repeat (first | exact .here | apply Pick.there)) rfl) rfl ?_ | refine o_q (q_load_old rfl rfl sz_46 ((Rw.rdj hk 0 hkl rfl))) rfl ?_ | refine o_q (q_load_old rfl rfl sz_46 ((Rw.rdj hk 1 hkl rfl))) rfl ?_
  first | refine o_p (p_len_slice rfl rfl Try.underlying46) rfl ?_ | refine o_q (q_len_own rfl rfl Try.underlying46 (by repeat (first | exact .here | apply Pick.there))) rfl ?_
  refine o_p (p_pure rfl) rfl ?_
  refine o_nil ?_
  refine s_cond rfl (fun h2 => ?_) (fun h2 => ?_)
  · try simp only [decide_eq_true_eq, decide_eq_false_iff_not, Bool.not_eq_true', Bool.not_eq_false', Bool.and_eq_true, Bool.or_eq_true, Bool.and_eq_false_iff, Bool.or_eq_false_iff, Bool.not_true, Bool.not_false] at h2
    refine s_seq ?_
    refine s_region ?_
    refine o_p (p_pure rfl) rfl ?_
    refine o_nil ?_
    exact s_retv (rs := [.tmp 2]) rfl (.tmp rfl (.nil)) (fun w' h' => ⟨by rw [lksE, if_pos (by omega)]; rfl, h'.below⟩)
  · try simp only [decide_eq_true_eq, decide_eq_false_iff_not, Bool.not_eq_true', Bool.not_eq_false', Bool.and_eq_true, Bool.or_eq_true, Bool.and_eq_false_iff, Bool.or_eq_false_iff, Bool.not_true, Bool.not_false] at h2
    have hm : o.lk.length ≤ 16 := by omega
    refine s_skip ?_
    refine s_seq ?_
    refine s_seq ?_
    refine s_region ?_
    refine o_p (p_pure rfl) rfl ?_
    refine o_nil ?_
    refine s_block ?_
    refine s_loopI (α := Nat) [2, 3, 4, 9, 10, 11, 12, 13, 14, 15, 16, 17, 18, 19, 20, 21, 22, 23, 24, 25, 26, 27, 28, 29, 30, 31] (fun k => [(3, .int .i64 (k : Int))]) (fun _ => HS w [] [.blk b1 48 5 o.vals]) (fun k => k ≤ o.lk.length ∧ eachF (rngEs o.lk) 0 = eachF ((rngEs o.lk).drop k) k) (fun k => o.lk.length - k) 0 ⟨by omega, rfl⟩ (by repeat (first | exact sl_n | refine sl_c rfl ?_)) (fun w h => h.ent (by repeat (first | exact .nil | refine .cons (by repeat (first | exact .here | apply Pick.there)) ?_))) (fun k hy => ?_)
    obtain ⟨hk1, hk2⟩ := hy
    refine s_seq ?_
    refine s_seq ?_
    refine s_region ?_
    refine o_p (p_pure rfl) rfl ?_
    refine o_p (p_fieldAddr rfl rfl fd_48_4 sz_46 rfl) rfl ?_
    first | refine o_q (q_load rfl rfl sz_46 (by repeat (first | exact .here | apply Pick.there)) rfl) rfl ?_ | refine o_q (q_load_old rfl rfl sz_46 ((Rw.rdj hk 0 hkl rfl))) rfl ?_ | refine o_q (q_load_old rfl rfl sz_46 ((Rw.rdj hk 1 hkl rfl))) rfl ?_
    first | refine o_p (p_len_slice rfl rfl Try.underlying46) rfl ?_ | refine o_q (q_len_own rfl rfl Try.underlying46 (by repeat (first | exact .here | apply Pick.there))) rfl ?_
    refine o_p (p_pure rfl) rfl ?_
    refine o_nil ?_
    refine s_cond rfl (fun h3 => ?_) (fun h3 => ?_)
    · try simp only [decide_eq_true_eq, decide_eq_false_iff_not, Bool.not_eq_true', Bool.not_eq_false', Bool.and_eq_true, Bool.or_eq_true, Bool.and_eq_false_iff, Bool.or_eq_false_iff, Bool.not_true, Bool.not_false] at h3
      have hkl : k < o.lk.length := by omega
      refine s_skip ?_
      refine s_seq ?_
      refine s_block ?_
      refine s_seq ?_
      refine s_draw [] mixed ?_
      refine d_p 0 rfl (p_fieldAddr rfl rfl fd_48_4 sz_46 rfl) (by kernel_rfl) rfl rfl ?_
      first | refine d_q 1 [] rfl (q_load rfl rfl sz_46 (by repeat (first | exact .here | apply Pick.there)) rfl) (by kernel_rfl) (by kernel_rfl) (by kernel_rfl) rfl ?_ | refine d_q 1 [] rfl (q_load_old rfl rfl sz_46 ((Rw.rdj hk 0 hkl rfl))) (by kernel_rfl) (by kernel_rfl) (by kernel_rfl) rfl ?_ | refine d_q 1 [] rfl (q_load_old rfl rfl sz_46 ((Rw.rdj hk 1 hkl rfl))) (by kernel_rfl) (by kernel_rfl) (by kernel_rfl) rfl ?_
      refine d_p 2 rfl (p_pure rfl) (by kernel_rfl) rfl rfl ?_
      first | refine d_p 3 rfl (p_indexAddr rfl rfl rfl sl_46 (k) (by omega) (by omega) rfl) (by kernel_rfl) rfl rfl ?_ | refine d_p 3 rfl (p_indexAddr rfl rfl rfl sl_46 (k) (by omega) (by omega) (Rw.some hk (by omega))) (by kernel_rfl) rfl rfl ?_
      refine d_p 4 rfl (p_fieldAddr rfl rfl fd_62_0 sz_3 rfl) (by kernel_rfl) rfl rfl ?_
      first | refine d_q 5 [] rfl (q_load rfl rfl sz_3 (by repeat (first | exact .here | apply Pick.there)) rfl) (by kernel_rfl) (by kernel_rfl) (by kernel_rfl) rfl ?_ | refine d_q 5 [] rfl (q_load_old rfl rfl sz_3 ((Rw.rdj hk 0 hkl rfl))) (by kernel_rfl) (by kernel_rfl) (by kernel_rfl) rfl ?_ | refine d_q 5 [] rfl (q_load_old rfl rfl sz_3 ((Rw.rdj hk 1 hkl rfl))) (by kernel_rfl) (by kernel_rfl) (by kernel_rfl) rfl ?_
      refine d_p 6 rfl (p_fieldAddr rfl rfl fd_48_4 sz_46 rfl) (by kernel_rfl) rfl rfl ?_
      first | refine d_q 7 [] rfl (q_load rfl rfl sz_46 (by repeat (first | exact .here | apply Pick.there)) rfl) (by kernel_rfl) (by kernel_rfl) (by kernel_rfl) rfl ?_ | refine d_q 7 [] rfl (q_load_old rfl rfl sz_46 ((Rw.rdj hk 0 hkl rfl))) (by kernel_rfl) (by kernel_rfl) (by kernel_rfl) rfl ?_ | refine d_q 7 [] rfl (q_load_old rfl rfl sz_46 ((Rw.rdj hk 1 hkl rfl))) (by kernel_rfl) (by kernel_rfl) (by kernel_rfl) rfl ?_
      refine d_p 8 rfl (p_pure rfl) (by kernel_rfl) rfl rfl ?_
      first | refine d_p 9 rfl (p_indexAddr rfl rfl rfl sl_46 (k) (by omega) (by omega) rfl) (by kernel_rfl) rfl rfl ?_ | refine d_p 9 rfl (p_indexAddr rfl rfl rfl sl_46 (k) (by omega) (by omega) (Rw.some hk (by omega))) (by kernel_rfl) rfl rfl ?_
      refine d_p 10 rfl (p_fieldAddr rfl rfl fd_62_1 sz_3 rfl) (by kernel_rfl) rfl rfl ?_
      first | refine d_q 11 [] rfl (q_load rfl rfl sz_3 (by repeat (first | exact .here | apply Pick.there)) rfl) (by kernel_rfl) (by kernel_rfl) (by kernel_rfl) rfl ?_ | refine d_q 11 [] rfl (q_load_old rfl rfl sz_3 ((Rw.rdj hk 0 hkl rfl))) (by kernel_rfl) (by kernel_rfl) (by kernel_rfl) rfl ?_ | refine d_q 11 [] rfl (q_load_old rfl rfl sz_3 ((Rw.rdj hk 1 hkl rfl))) (by kernel_rfl) (by kernel_rfl) (by kernel_rfl) rfl ?_
      refine d_q 12 [] rfl (q_call rfl fn_69 rfl (fun w1 h1 => c69 w1 _ _)) (by kernel_rfl) (by kernel_rfl) (by kernel_rfl) rfl ?_
      refine d_p 13 rfl (p_pure rfl) (by kernel_rfl) rfl rfl ?_
      refine d_nil (by kernel_rfl) (fun w h => h.ent (by repeat (first | exact .nil | refine .cons (by repeat (first | exact .here | apply Pick.there)) ?_))) ?_
      refine s_seq ?_
      refine s_region ?_
      refine o_p (p_pure rfl) rfl ?_
      refine o_p (p_pure rfl) rfl ?_
      refine o_nil ?_
      refine s_cond rfl (fun h4 => ?_) (fun h4 => ?_)
      · try simp only [decide_eq_true_eq, decide_eq_false_iff_not, Bool.not_eq_true', Bool.not_eq_false', Bool.and_eq_true, Bool.or_eq_true, Bool.and_eq_false_iff, Bool.or_eq_false_iff, Bool.not_true, Bool.not_false] at h4
        refine s_seq ?_
        refine s_region ?_
        refine o_p (p_pure rfl) rfl ?_
        refine o_p (p_pure rfl) rfl ?_
        refine o_nil ?_
        exact s_retv (rs := [.tmp 2]) rfl (.tmp rfl (.nil)) (fun w' h' => ⟨by rw [lksE, if_neg (by omega)]; show _ = Ending.returned (.int .i64 (eachF (rngEs o.lk) 0).2); rw [hk2, eachF_drop (by omega), if_neg (by rw [rngEs_get hkl]; exact h4), rngEs_get hkl]; rfl, h'.below⟩)
      · try simp only [decide_eq_true_eq, decide_eq_false_iff_not, Bool.not_eq_true', Bool.not_eq_false', Bool.and_eq_true, Bool.or_eq_true, Bool.and_eq_false_iff, Bool.or_eq_false_iff, Bool.not_true, Bool.not_false] at h4
        refine s_skip ?_
        refine s_blk ?_
        refine s_region ?_
        refine o_p (p_pure rfl) rfl ?_
        refine o_p (p_pure rfl) rfl ?_
        try (refine o_slot (i64w (by omega) (by omega)) ?_)
        refine o_p (p_pure rfl) rfl ?_
        refine o_nil ?_
        exact s_backI (k + 1) (by omega) ⟨by omega, by rw [hk2, eachF_drop (by omega), if_pos (by rw [rngEs_get hkl]; exact h4)]⟩ (by repeat (first | exact sl_n | refine sl_c rfl ?_)) (fun w h => h.ent (by repeat (first | exact .nil | refine .cons (by repeat (first | exact .here | apply Pick.there)) ?_)))
    · try simp only [decide_eq_true_eq, decide_eq_false_iff_not, Bool.not_eq_true', Bool.not_eq_false', Bool.and_eq_true, Bool.or_eq_true, Bool.and_eq_false_iff, Bool.or_eq_false_iff, Bool.not_true, Bool.not_false] at h3
      refine s_exit_to rfl ?_
      refine s_seq ?_
      refine s_region ?_
      refine o_p (p_pure rfl) rfl ?_
      refine o_nil ?_
      exact s_retv (rs := [.tmp 2]) rfl (.tmp rfl (.nil)) (fun w' h' => ⟨by rw [lksE, if_neg (by omega)]; show _ = Ending.returned (.int .i64 (eachF (rngEs o.lk) 0).2); rw [hk2, eachF_end (by omega)]; rfl, h'.below⟩)

set_option maxRecDepth 20000 in
theorem c34 (w : World) (next : Int) (a : Option Addr) (cap : Nat) (L : List LFil) (hs : Ft w [] a L) (hm : L.length ≤ 1000) (hmo : ∀ f ∈ L, f.op.length ≤ 1000) : Calls Try.prog 34 #[.agg #[.int .i64 next, .slice a L.length cap]] w fun en w' => en = .returned (.int .i64 (cntT (pls L) : Int)) ∧ Below w.heap.size w w' := by
  have hcl := cntT_le hmo L.length (Nat.le_refl _)
  refine enter (args := [_]) Try.func34 Try.ntmps34 rfl rfl (HS.refl w []) ?_
  refine s_seq ?_
  refine s_region ?_
  refine o_h (h_box rfl rfl) rfl (fun b1 _ => ?_)
  refine o_p (p_pure rfl) rfl ?_
  refine o_nil ?_
  refine s_seq ?_
  refine s_region ?_
  refine o_p (p_pure rfl) rfl ?_
  refine o_nil ?_
  refine s_seq ?_
  refine s_seq ?_
  refine s_region ?_
  refine o_p (p_pure rfl) rfl ?_
  refine o_nil ?_
  refine s_block ?_
  refine s_loopI (α := Nat) [3, 4, 5, 6, 7, 8, 9, 10, 11, 12, 13, 14, 15, 16, 17, 18, 19, 20] (fun k => [(4, .int .i64 (k : Int)), (3, .int .i64 (cntT (pls (L.take k)) : Int))]) (fun _ => HS w [] [.blk b1 26 2 [.int .i64 next, .slice a L.length cap]]) (fun k => k ≤ L.length) (fun k => L.length - k) 0 (by simp) (sl_c rfl (sl_c (congrArg (fun e => some (Value.int .i64 e)) (by simp [cntT, pls])) (by repeat (first | exact sl_n | refine sl_c rfl ?_)))) (fun w h => h.ent (by repeat (first | exact .nil | refine .cons (by repeat (first | exact .here | apply Pick.there)) ?_))) (fun k hk => ?_)
  have hck := cntT_le hmo k hk
  refine s_seq ?_
  refine s_seq ?_
  refine s_region ?_
  refine o_p (p_pure rfl) rfl ?_
  refine o_p (p_fieldAddr rfl rfl fd_26_1 sz_24 rfl) rfl ?_
  first | refine o_q (q_load rfl rfl sz_24 (by repeat (first | exact .here | apply Pick.there)) rfl) rfl ?_ | refine o_q (q_load_old rfl rfl sz_24 ((hs.1.rdj 3 hkl rfl))) rfl ?_
  first | refine o_p (p_len_slice rfl rfl Try.underlying24) rfl ?_ | refine o_q (q_len_own rfl rfl Try.underlying24 (by repeat (first | exact .here | apply Pick.there))) rfl ?_
  refine o_p (p_pure rfl) rfl ?_
  refine o_nil ?_
  refine s_cond rfl (fun h2 => ?_) (fun h2 => ?_)
  · try simp only [decide_eq_true_eq, decide_eq_false_iff_not, Bool.not_eq_true', Bool.not_eq_false', Bool.and_eq_true, Bool.or_eq_true, Bool.and_eq_false_iff, Bool.or_eq_false_iff, Bool.not_true, Bool.not_false] at h2
    have hkl : k < L.length := by omega
    have hmk := hmo _ (mem_nth hkl)
    refine s_skip ?_
    refine s_seq ?_
    refine s_block ?_
    refine s_region ?_
    refine o_p (p_pure rfl) rfl ?_
    refine o_p (p_fieldAddr rfl rfl fd_26_1 sz_24 rfl) rfl ?_
    first | refine o_q (q_load rfl rfl sz_24 (by repeat (first | exact .here | apply Pick.there)) rfl) rfl ?_ | refine o_q (q_load_old rfl rfl sz_24 ((hs.1.rdj 3 hkl rfl))) rfl ?_
    refine o_p (p_pure rfl) rfl ?_
    first | refine o_p (p_indexAddr rfl rfl rfl sl_24 (k) (by omega) (by omega) rfl) rfl ?_ | refine o_p (p_indexAddr rfl rfl rfl sl_24 (k) (by omega) (by omega) (Rw.some hs.1 (by omega))) rfl ?_
    refine o_p (p_fieldAddr rfl rfl fd_77_2 sz_75 rfl) rfl ?_
    first | refine o_q (q_load rfl rfl sz_75 (by repeat (first | exact .here | apply Pick.there)) rfl) rfl ?_ | refine o_q (q_load_old rfl rfl sz_75 ((hs.1.rdj 3 hkl rfl))) rfl ?_
    first | refine o_p (p_len_slice rfl rfl Try.underlying75) rfl ?_ | refine o_q (q_len_own rfl rfl Try.underlying75 (by repeat (first | exact .here | apply Pick.there))) rfl ?_
    refine o_p (p_pure rfl) rfl ?_
    try (refine o_slot (i64w (by omega) (by omega)) ?_)
    refine o_p (p_pure rfl) rfl ?_
    refine o_nil ?_
    refine s_blk ?_
    refine s_region ?_
    refine o_p (p_pure rfl) rfl ?_
    refine o_p (p_pure rfl) rfl ?_
    try (refine o_slot (i64w (by omega) (by omega)) ?_)
    refine o_p (p_pure rfl) rfl ?_
    refine o_nil ?_
    exact s_backI (k + 1) (by omega) (by omega) (sl_c rfl (sl_c (congrArg (fun e => some (Value.int .i64 e)) (by rw [cntT_succ (by omega)]; omega)) (by repeat (first | exact sl_n | refine sl_c rfl ?_)))) (fun w h => h.ent (by repeat (first | exact .nil | refine .cons (by repeat (first | exact .here | apply Pick.there)) ?_)))
  · try simp only [decide_eq_true_eq, decide_eq_false_iff_not, Bool.not_eq_true', Bool.not_eq_false', Bool.and_eq_true, Bool.or_eq_true, Bool.and_eq_false_iff, Bool.or_eq_false_iff, Bool.not_true, Bool.not_false] at h2
    obtain rfl : k = L.length := by omega
    rw [List.take_length] at *
    refine s_exit_to rfl ?_
    refine s_seq ?_
    refine s_region ?_
    refine o_p (p_pure rfl) rfl ?_
    refine o_p (p_pure rfl) rfl ?_
    refine o_nil ?_
    exact s_retv (rs := [.tmp 2]) rfl (.tmp rfl (.nil)) (fun w' h' => ⟨rfl, h'.below⟩)

set_option maxRecDepth 20000 in
theorem c33 (w : World) (next : Int) (a : Option Addr) (cap : Nat) (L : List LFil) (rc sq : Int) (hs : Ft w [] a L) (hm : L.length ≤ 1000) (hmo : ∀ f ∈ L, f.op.length ≤ 1000) : Calls Try.prog 33 #[.agg #[.int .i64 next, .slice a L.length cap], .agg #[.int .i64 rc, .int .i64 sq]] w fun en w' => en = .returned (.int .i64 (ixI (atB (pls L) rc sq))) ∧ Below w.heap.size w w' := by
  have hal := atB_len (L := L) (rc := rc) (sq := sq)
  refine enter (args := [_, _]) Try.func33 Try.ntmps33 rfl rfl (HS.refl w []) ?_
  refine s_seq ?_
  refine s_region ?_
  refine o_h (h_box rfl rfl) rfl (fun b1 _ => ?_)
  refine o_h (h_box rfl rfl) rfl (fun b2 _ => ?_)
  refine o_p (p_pure rfl) rfl ?_
  refine o_nil ?_
  refine s_seq ?_
  refine s_seq ?_
  refine s_region ?_
  refine o_p (p_pure rfl) rfl ?_
  refine o_nil ?_
  refine s_block ?_
  refine s_loopI (α := Nat) [4, 5, 6, 7, 8, 9, 10, 11, 12, 13, 14, 15, 16, 17, 18, 19, 20, 21] (fun k => [(5, .int .i64 (k : Int))]) (fun _ => HS w [] [.blk b1 26 2 [.int .i64 next, .slice a L.length cap], .blk b2 42 2 [.int .i64 rc, .int .i64 sq]]) (fun k => k ≤ L.length ∧ ∀ i, i < k → (atB (pls L) rc sq).getD i false = false) (fun k => L.length - k) 0 ⟨by omega, fun i h => absurd h (Nat.not_lt_zero i)⟩ (by repeat (first | exact sl_n | refine sl_c rfl ?_)) (fun w h => h.ent (by repeat (first | exact .nil | refine .cons (by repeat (first | exact .here | apply Pick.there)) ?_))) (fun k hk => ?_)
  obtain ⟨hk1, hk2⟩ := hk
  refine s_seq ?_
  refine s_seq ?_
  refine s_region ?_
  refine o_p (p_pure rfl) rfl ?_
  refine o_p (p_fieldAddr rfl rfl fd_26_1 sz_24 rfl) rfl ?_
  refine o_q (q_load rfl rfl sz_24 (by repeat (first | exact .here | apply Pick.there)) rfl) rfl ?_
  first | refine o_p (p_len_slice rfl rfl Try.underlying24) rfl ?_ | refine o_q (q_len_own rfl rfl Try.underlying24 (by repeat (first | exact .here | apply Pick.there))) rfl ?_
  refine o_p (p_pure rfl) rfl ?_
  refine o_nil ?_
  refine s_cond rfl (fun h3 => ?_) (fun h3 => ?_)
  · try simp only [decide_eq_true_eq, decide_eq_false_iff_not, Bool.not_eq_true', Bool.not_eq_false', Bool.and_eq_true, Bool.or_eq_true, Bool.and_eq_false_iff, Bool.or_eq_false_iff, Bool.not_true, Bool.not_false] at h3
    have hkl : k < L.length := by omega
    refine s_skip ?_
    refine s_seq ?_
    refine s_block ?_
    refine s_seq ?_
    refine s_draw [] mixed ?_
    refine d_p 0 rfl (p_fieldAddr rfl rfl fd_26_1 sz_24 rfl) (by kernel_rfl) rfl rfl ?_
    refine d_q 1 [] rfl (q_load rfl rfl sz_24 (by repeat (first | exact .here | apply Pick.there)) rfl) (by kernel_rfl) (by kernel_rfl) (by kernel_rfl) rfl ?_
    refine d_p 2 rfl (p_pure rfl) (by kernel_rfl) rfl rfl ?_
    first | refine d_p 3 rfl (p_indexAddr rfl rfl rfl sl_24 (k) (by omega) (by omega) rfl) (by kernel_rfl) rfl rfl ?_ | refine d_p 3 rfl (p_indexAddr rfl rfl rfl sl_24 (k) (by omega) (by omega) (Rw.some hs.1 (by omega))) (by kernel_rfl) rfl rfl ?_
    refine d_p 4 rfl (p_fieldAddr rfl rfl fd_77_0 sz_42 rfl) (by kernel_rfl) rfl rfl ?_
    refine d_q 5 [] rfl (q_load_oldn [.int .i64 (nth L k).rc, .int .i64 (nth L k).sq] rfl rfl sz_42 rfl (fun j v hv => Rw.rd hs.1 (i := k) hkl j v (by rcases j with _ | _ | j <;> first | exact hv | (simp at hv)))) (by kernel_rfl) (by kernel_rfl) (by kernel_rfl) rfl ?_
    refine d_q 6 [] rfl (q_loadn rfl rfl sz_42 (by repeat (first | exact .here | apply Pick.there)) rfl) (by kernel_rfl) (by kernel_rfl) (by kernel_rfl) rfl ?_
    refine d_p 7 rfl (p_eql_agg rfl rfl rfl eqk_42 (by rfl) (by rfl) (by rfl)) (by kernel_rfl) rfl rfl ?_
    refine d_nil (by kernel_rfl) (fun w h => h.ent (by repeat (first | exact .nil | refine .cons (by repeat (first | exact .here | apply Pick.there)) ?_))) ?_
    refine s_cond rfl (fun h4 => ?_) (fun h4 => ?_)
    · try simp only [decide_eq_true_eq, decide_eq_false_iff_not, Bool.not_eq_true', Bool.not_eq_false', Bool.and_eq_true, Bool.or_eq_true, Bool.and_eq_false_iff, Bool.or_eq_false_iff, Bool.not_true, Bool.not_false] at h4
      have hhit : (decide ((nth L k).rc = rc) && decide ((nth L k).sq = sq)) = true := by have hq := h4; simpa using hq
      refine s_seq ?_
      refine s_region ?_
      refine o_p (p_pure rfl) rfl ?_
      refine o_p (p_pure rfl) rfl ?_
      refine o_nil ?_
      exact s_retv (rs := [.tmp 4]) rfl (.tmp rfl (.nil)) (fun w' h' => ⟨by have e := ixB_eq (l := atB (pls L) rc sq) (k := k) (by omega) hk2 (fun _ => by rw [atB_get hkl]; exact hhit); simp only [retV, ixI, e]; rw [if_pos (by omega)], h'.below⟩)
    · try simp only [decide_eq_true_eq, decide_eq_false_iff_not, Bool.not_eq_true', Bool.not_eq_false', Bool.and_eq_true, Bool.or_eq_true, Bool.and_eq_false_iff, Bool.or_eq_false_iff, Bool.not_true, Bool.not_false] at h4
      have hmiss : (decide ((nth L k).rc = rc) && decide ((nth L k).sq = sq)) = false := by have hq := h4; (try simp only [Bool.and_eq_false_iff] at hq ⊢); first | exact hq | simpa using hq
      refine s_skip ?_
      refine s_blk ?_
      refine s_region ?_
      refine o_p (p_pure rfl) rfl ?_
      refine o_p (p_pure rfl) rfl ?_
      try (refine o_slot (i64w (by omega) (by omega)) ?_)
      refine o_p (p_pure rfl) rfl ?_
      refine o_nil ?_
      exact s_backI (k + 1) (by omega) ⟨by omega, fun i hi => (Nat.lt_or_ge i k).elim (hk2 i) (fun h => by obtain rfl : i = k := (by omega); rw [atB_get hkl]; exact hmiss)⟩ (by repeat (first | exact sl_n | refine sl_c rfl ?_)) (fun w h => h.ent (by repeat (first | exact .nil | refine .cons (by repeat (first | exact .here | apply Pick.there)) ?_)))
  · try simp only [decide_eq_true_eq, decide_eq_false_iff_not, Bool.not_eq_true', Bool.not_eq_false', Bool.and_eq_true, Bool.or_eq_true, Bool.and_eq_false_iff, Bool.or_eq_false_iff, Bool.not_true, Bool.not_false] at h3
    refine s_exit_to rfl ?_
    refine s_seq ?_
    refine s_region ?_
    refine o_p (p_pure rfl) rfl ?_
    refine o_nil ?_
    exact s_retv (rs := [.tmp 4]) rfl (.tmp rfl (.nil)) (fun w' h' => ⟨by have e := ixB_eq (l := atB (pls L) rc sq) (k := k) (by omega) hk2 (fun h => by omega); simp only [retV, ixI, e]; rw [if_neg (by omega)], h'.below⟩)

set_option maxRecDepth 20000 in
theorem c70 (w : World) (next : Int) (a : Option Addr) (cap : Nat) (L : List LFil) (h : Int) (hs : Ft w [] a L) (hm : L.length ≤ 1000) (hmo : ∀ f ∈ L, f.op.length ≤ 1000) : Calls Try.prog 70 #[.agg #[.int .i64 next, .slice a L.length cap], .int .i64 h] w fun en w' => en = .returned (.tuple #[.int .i64 (fdI (pls L) h).1, .int .i64 (fdI (pls L) h).2]) ∧ Below w.heap.size w w' := by
  have hpl : (pls L).length = L.length := by simp
  refine enter (args := [_, _]) Try.func70 Try.ntmps70 rfl rfl (HS.refl w []) ?_
  refine s_seq ?_
  refine s_region ?_
  refine o_h (h_box rfl rfl) rfl (fun b1 _ => ?_)
  refine o_p (p_pure rfl) rfl ?_
  refine o_p (p_pure rfl) rfl ?_
  refine o_nil ?_
  refine s_seq ?_
  refine s_seq ?_
  refine s_region ?_
  refine o_p (p_pure rfl) rfl ?_
  refine o_nil ?_
  refine s_block ?_
  refine s_loopI (α := Nat) [4, 5, 6, 7, 8, 9, 10, 11, 12, 13, 14, 15, 16, 17, 18, 19, 20, 21, 22, 23, 24, 25, 26, 27, 28, 29, 30, 31, 32, 33, 34, 35, 36, 37, 38, 39] (fun k => [(6, .int .i64 (k : Int))]) (fun _ => HS w [] [.blk b1 26 2 [.int .i64 next, .slice a L.length cap]]) (fun k => k ≤ L.length ∧ findF (pls L) h 0 = findF ((pls L).drop k) h k) (fun k => L.length - k) 0 ⟨by omega, rfl⟩ (by repeat (first | exact sl_n | refine sl_c rfl ?_)) (fun w h => h.ent (by repeat (first | exact .nil | refine .cons (by repeat (first | exact .here | apply Pick.there)) ?_))) (fun i hk => ?_)
  obtain ⟨hk1, hk2⟩ := hk
  refine s_seq ?_
  refine s_seq ?_
  refine s_region ?_
  refine o_p (p_pure rfl) rfl ?_
  refine o_p (p_fieldAddr rfl rfl fd_26_1 sz_24 rfl) rfl ?_
  first | refine o_q (q_load rfl rfl sz_24 (by repeat (first | exact .here | apply Pick.there)) rfl) rfl ?_ | refine o_q (q_load_old rfl rfl sz_24 ((hs.1.rdj 3 hil rfl))) rfl ?_ | refine o_q (q_load_old rfl rfl sz_24 (((hs.at hil).1.rdj 0 hkl rfl))) rfl ?_
  first | refine o_p (p_len_slice rfl rfl Try.underlying24) rfl ?_ | refine o_q (q_len_own rfl rfl Try.underlying24 (by repeat (first | exact .here | apply Pick.there))) rfl ?_
  refine o_p (p_pure rfl) rfl ?_
  refine o_nil ?_
  refine s_cond rfl (fun h2 => ?_) (fun h2 => ?_)
  · try simp only [decide_eq_true_eq, decide_eq_false_iff_not, Bool.not_eq_true', Bool.not_eq_false', Bool.and_eq_true, Bool.or_eq_true, Bool.and_eq_false_iff, Bool.or_eq_false_iff, Bool.not_true, Bool.not_false] at h2
    have hil : i < L.length := by omega
    have hoi := hmo _ (mem_nth hil)
    refine s_skip ?_
    refine s_seq ?_
    refine s_block ?_
    refine s_seq ?_
    refine s_region ?_
    refine o_p (p_pure rfl) rfl ?_
    refine o_nil ?_
    refine s_block ?_
    refine s_loopI (α := Nat) [4, 5, 7, 15, 16, 17, 18, 19, 20, 21, 22, 23, 24, 25, 26, 27, 28, 29, 30, 31, 32, 33, 34, 35, 36, 37, 38, 39] (fun k => [(7, .int .i64 (k : Int))]) (fun _ => HS w [] [.blk b1 26 2 [.int .i64 next, .slice a L.length cap]]) (fun k => k ≤ (nth L i).op.length ∧ ∀ j, j < k → (nth (nth L i).op j).hd ≠ h) (fun k => (nth L i).op.length - k) 0 ⟨by omega, fun j h => absurd h (Nat.not_lt_zero j)⟩ (by repeat (first | exact sl_n | refine sl_c rfl ?_)) (fun w h => h.ent (by repeat (first | exact .nil | refine .cons (by repeat (first | exact .here | apply Pick.there)) ?_))) (fun k hk => ?_)
    obtain ⟨hk3, hk4⟩ := hk
    refine s_seq ?_
    refine s_seq ?_
    refine s_region ?_
    refine o_p (p_pure rfl) rfl ?_
    refine o_p (p_fieldAddr rfl rfl fd_26_1 sz_24 rfl) rfl ?_
    first | refine o_q (q_load rfl rfl sz_24 (by repeat (first | exact .here | apply Pick.there)) rfl) rfl ?_ | refine o_q (q_load_old rfl rfl sz_24 ((hs.1.rdj 3 hil rfl))) rfl ?_ | refine o_q (q_load_old rfl rfl sz_24 (((hs.at hil).1.rdj 0 hkl rfl))) rfl ?_
    refine o_p (p_pure rfl) rfl ?_
    first | refine o_p (p_indexAddr rfl rfl rfl sl_24 (i) (by omega) (by omega) rfl) rfl ?_ | refine o_p (p_indexAddr rfl rfl rfl sl_24 (i) (by omega) (by omega) (Rw.some hs.1 (by omega))) rfl ?_ | refine o_p (p_indexAddr rfl rfl rfl sl_24 (i) (by omega) (by omega) (Rw.some (hs.at hil).1 (by omega))) rfl ?_
    refine o_p (p_fieldAddr rfl rfl fd_77_2 sz_75 rfl) rfl ?_
    first | refine o_q (q_load rfl rfl sz_75 (by repeat (first | exact .here | apply Pick.there)) rfl) rfl ?_ | refine o_q (q_load_old rfl rfl sz_75 ((hs.1.rdj 3 hil rfl))) rfl ?_ | refine o_q (q_load_old rfl rfl sz_75 (((hs.at hil).1.rdj 0 hkl rfl))) rfl ?_
    first | refine o_p (p_len_slice rfl rfl Try.underlying75) rfl ?_ | refine o_q (q_len_own rfl rfl Try.underlying75 (by repeat (first | exact .here | apply Pick.there))) rfl ?_
    refine o_p (p_pure rfl) rfl ?_
    refine o_nil ?_
    refine s_cond rfl (fun h3 => ?_) (fun h3 => ?_)
    · try simp only [decide_eq_true_eq, decide_eq_false_iff_not, Bool.not_eq_true', Bool.not_eq_false', Bool.and_eq_true, Bool.or_eq_true, Bool.and_eq_false_iff, Bool.or_eq_false_iff, Bool.not_true, Bool.not_false] at h3
      have hkl : k < (nth L i).op.length := by omega
      refine s_skip ?_
      refine s_seq ?_
      refine s_block ?_
      refine s_seq ?_
      refine s_region ?_
      refine o_p (p_fieldAddr rfl rfl fd_26_1 sz_24 rfl) rfl ?_
      first | refine o_q (q_load rfl rfl sz_24 (by repeat (first | exact .here | apply Pick.there)) rfl) rfl ?_ | refine o_q (q_load_old rfl rfl sz_24 ((hs.1.rdj 3 hil rfl))) rfl ?_ | refine o_q (q_load_old rfl rfl sz_24 (((hs.at hil).1.rdj 0 hkl rfl))) rfl ?_
      refine o_p (p_pure rfl) rfl ?_
      first | refine o_p (p_indexAddr rfl rfl rfl sl_24 (i) (by omega) (by omega) rfl) rfl ?_ | refine o_p (p_indexAddr rfl rfl rfl sl_24 (i) (by omega) (by omega) (Rw.some hs.1 (by omega))) rfl ?_ | refine o_p (p_indexAddr rfl rfl rfl sl_24 (i) (by omega) (by omega) (Rw.some (hs.at hil).1 (by omega))) rfl ?_
      refine o_p (p_fieldAddr rfl rfl fd_77_2 sz_75 rfl) rfl ?_
      first | refine o_q (q_load rfl rfl sz_75 (by repeat (first | exact .here | apply Pick.there)) rfl) rfl ?_ | refine o_q (q_load_old rfl rfl sz_75 ((hs.1.rdj 3 hil rfl))) rfl ?_ | refine o_q (q_load_old rfl rfl sz_75 (((hs.at hil).1.rdj 0 hkl rfl))) rfl ?_
      refine o_p (p_pure rfl) rfl ?_
      first | refine o_p (p_indexAddr rfl rfl rfl sl_75 (k) (by omega) (by omega) rfl) rfl ?_ | refine o_p (p_indexAddr rfl rfl rfl sl_75 (k) (by omega) (by omega) (Rw.some hs.1 (by omega))) rfl ?_ | refine o_p (p_indexAddr rfl rfl rfl sl_75 (k) (by omega) (by omega) (Rw.some (hs.at hil).1 (by omega))) rfl ?_
      refine o_p (p_fieldAddr rfl rfl fd_48_0 sz_3 rfl) rfl ?_
      first | refine o_q (q_load rfl rfl sz_3 (by repeat (first | exact .here | apply Pick.there)) rfl) rfl ?_ | refine o_q (q_load_old rfl rfl sz_3 ((hs.1.rdj 3 hil rfl))) rfl ?_ | refine o_q (q_load_old rfl rfl sz_3 (((hs.at hil).1.rdj 0 hkl rfl))) rfl ?_
      refine o_p (p_pure rfl) rfl ?_
      refine o_p (p_pure rfl) rfl ?_
      refine o_nil ?_
      refine s_cond rfl (fun h4 => ?_) (fun h4 => ?_)
      · try simp only [decide_eq_true_eq, decide_eq_false_iff_not, Bool.not_eq_true', Bool.not_eq_false', Bool.and_eq_true, Bool.or_eq_true, Bool.and_eq_false_iff, Bool.or_eq_false_iff, Bool.not_true, Bool.not_false] at h4
        have hit := findF_hit hil hkl hk4 h4
        have hfe : findF (pls L) h 0 = (i, k, 0) := by rw [hk2, findF_drop (by omega), hit, if_pos (by rw [nth_pls hil]; simpa [LFil.pl] using hkl)]
        refine s_seq ?_
        refine s_weaken (L' := [(0, _), (1, _), (2, _), (6, _), (7, _), (8, _), (9, _), (10, _), (11, _), (12, _)]) (by repeat (first | exact sl_n | refine sl_c rfl ?_)) (fun _ h => h) ?_
        refine s_region ?_
        refine o_p (p_pure rfl) rfl ?_
        refine o_p (p_pure rfl) rfl ?_
        refine o_p (p_pure rfl) rfl ?_
        refine o_p (p_pure rfl) rfl ?_
        refine o_nil ?_
        exact s_retv (rs := [.tmp 4, .tmp 5]) rfl (.tmp rfl (.tmp rfl (.nil))) (fun w' h' => ⟨by rw [fdI, hfe]; rfl, h'.below⟩)
      · try simp only [decide_eq_true_eq, decide_eq_false_iff_not, Bool.not_eq_true', Bool.not_eq_false', Bool.and_eq_true, Bool.or_eq_true, Bool.and_eq_false_iff, Bool.or_eq_false_iff, Bool.not_true, Bool.not_false] at h4
        refine s_skip ?_
        refine s_blk ?_
        refine s_weaken (L' := [(0, _), (1, _), (2, _), (6, _), (7, _), (8, _), (9, _), (10, _), (11, _), (12, _)]) (by repeat (first | exact sl_n | refine sl_c rfl ?_)) (fun _ h => h) ?_
        refine s_region ?_
        refine o_p (p_pure rfl) rfl ?_
        refine o_p (p_pure rfl) rfl ?_
        try (refine o_slot (i64w (by omega) (by omega)) ?_)
        refine o_p (p_pure rfl) rfl ?_
        refine o_nil ?_
        exact s_backI (k + 1) (by omega) ⟨by omega, fun j hj => (Nat.lt_or_ge j k).elim (hk4 j) (fun h => by obtain rfl : j = k := (by omega); exact h4)⟩ (by repeat (first | exact sl_n | refine sl_c rfl ?_)) (fun w h => h.ent (by repeat (first | exact .nil | refine .cons (by repeat (first | exact .here | apply Pick.there)) ?_)))
    · try simp only [decide_eq_true_eq, decide_eq_false_iff_not, Bool.not_eq_true', Bool.not_eq_false', Bool.and_eq_true, Bool.or_eq_true, Bool.and_eq_false_iff, Bool.or_eq_false_iff, Bool.not_true, Bool.not_false] at h3
      refine s_exit_to rfl ?_
      refine s_blk ?_
      refine s_region ?_
      refine o_p (p_pure rfl) rfl ?_
      refine o_p (p_pure rfl) rfl ?_
      try (refine o_slot (i64w (by omega) (by omega)) ?_)
      refine o_p (p_pure rfl) rfl ?_
      refine o_nil ?_
      exact s_backI (i + 1) (by omega) ⟨by omega, by rw [hk2, findF_drop (by omega), if_neg (findF_miss hil (fun j hj => hk4 j (by omega)))]⟩ (by repeat (first | exact sl_n | refine sl_c rfl ?_)) (fun w h => h.ent (by repeat (first | exact .nil | refine .cons (by repeat (first | exact .here | apply Pick.there)) ?_)))
  · try simp only [decide_eq_true_eq, decide_eq_false_iff_not, Bool.not_eq_true', Bool.not_eq_false', Bool.and_eq_true, Bool.or_eq_true, Bool.and_eq_false_iff, Bool.or_eq_false_iff, Bool.not_true, Bool.not_false] at h2
    have hfe : findF (pls L) h 0 = (0, 0, 6) := by rw [hk2, findF_end (by omega)]
    refine s_exit_to rfl ?_
    refine s_seq ?_
    refine s_region ?_
    refine o_p (p_pure rfl) rfl ?_
    refine o_p (p_pure rfl) rfl ?_
    refine o_nil ?_
    exact s_retv (rs := [.tmp 4, .tmp 5]) rfl (.tmp rfl (.tmp rfl (.nil))) (fun w' h' => ⟨by rw [fdI, hfe]; rfl, h'.below⟩)

end Go.Proofs
