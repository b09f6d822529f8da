/- Contracts of the program's functions, proved by walking them with the rules of the Gx texts; without conditions beyond those that each contract names. -/
import Derived.Test.YtaffndpaehiafaaC07ZE
namespace Go.Proofs
open Go Go.RowKit Gx
set_option linter.unusedVariables false
set_option linter.unusedSimpArgs false
attribute [local irreducible] Go.Calls Gx.S Gx.O Gx.D Gx.OpP Gx.OpQ Gx.OpH



theorem remL_le (fs : Fds) (i k : Nat) : (remL (fs.take k) i).length ≤ fs.length := by
  simp only [remL, List.length_append, List.length_take, List.length_drop]; omega
theorem remL_0 (fs : Fds) (i : Nat) : remL (fs.take 0) i = [] := by simp [remL]
theorem skip_len {fs : Fds} {i k : Nat} (hk : k < fs.length) (h : k ≠ i) : (remL (fs.take k) i).length + 1 = (remL (fs.take (k + 1)) i).length := by rw [skip_ext hk h]; simp
def bytesF (fs : Fds) (k : Nat) : List UInt8 := leB fs.length 1 ++ (fs.take k).flatMap fun p => leB p.1.toNat 2 ++ p.2
theorem bytesF_0 (fs : Fds) : bytesF fs 0 = [UInt8.ofNat fs.length] := by simp [bytesF, leB]
theorem bytesF_succ {fs : Fds} {k : Nat} (h : k < fs.length) : bytesF fs (k + 1) = bytesF fs k ++ [UInt8.ofNat (fd fs k).1.toNat, UInt8.ofNat ((fd fs k).1.toNat / 256)] ++ (fd fs k).2 := by
  unfold bytesF
  rw [List.take_succ_eq_append_getElem h, fd_get h]
  simp [leB_2]
theorem bytesF_len {fs : Fds} (ok : FOk fs) : ∀ {k : Nat}, k ≤ fs.length → (bytesF fs k).length = 1 + 12 * k
  | 0, _ => by rw [bytesF_0]; rfl
  | k + 1, h => by
    have h1 := bytesF_len ok (k := k) (by omega)
    have h2 := ok.len k (by omega)
    rw [bytesF_succ (by omega)]
    simp only [List.length_append, List.length_cons, List.length_nil]
    omega
def bytesT (fs : Fds) : List UInt8 × Int := if (chkF fs).2 = 0 then (bytesF fs fs.length, 0) else ([], (chkF fs).2)
theorem lo8 (n : Nat) : Value.int .u8 (IntKind.u8.wrap (n : Int)) = bv (UInt8.ofNat n) := by
  rw [wrap_u8_mod]; simp [bv]
theorem lo8I {u : Int} (h : 0 ≤ u) : Value.int .u8 (IntKind.u8.wrap u) = bv (UInt8.ofNat u.toNat) := by
  rw [← lo8, Int.toNat_of_nonneg h]
theorem hi8I {u : Int} (h : 0 ≤ u) : Value.int .u8 (IntKind.u8.wrap (u / 2 ^ 8)) = bv (UInt8.ofNat (u.toNat / 256)) := by
  rw [← lo8]
  congr 2
  omega
def parF (s : List UInt8) (k : Nat) : Fds := (List.range k).map fun i => ((leS ((s.drop (1 + 12 * i)).take 2) : Int), (s.drop (1 + 12 * i + 2)).take 10)
theorem parF_length (s : List UInt8) (k : Nat) : (parF s k).length = k := by simp [parF]
theorem parF_succ (s : List UInt8) (k : Nat) : flatF (parF s (k + 1)) = flatF (parF s k) ++ [.int .i64 (leS ((s.drop (1 + 12 * k)).take 2) : Int), .string (bs ((s.drop (1 + 12 * k + 2)).take 10))] := by
  simp [parF, List.range_succ, flatF, fldC]
def fofT (s : List UInt8) : Fds × Int :=
  if s.length = 0 then ([], 14) else if s.length < 1 + 12 * (s.getD 0 0).toNat then ([], 14) else if 1 + 12 * (s.getD 0 0).toNat < s.length then ([], 3)
  else if (chkF (parF s (s.getD 0 0).toNat)).2 = 0 then (parF s (s.getD 0 0).toNat, 0) else ([], (chkF (parF s (s.getD 0 0).toNat)).2)
section
variable {s : List UInt8}
theorem fof_0 (h : s.length = 0) : fofT s = ([], 14) := by unfold fofT; rw [if_pos h]
theorem fof_lt (h : ¬ s.length = 0) (h1 : s.length < 1 + 12 * (s.getD 0 0).toNat) : fofT s = ([], 14) := by unfold fofT; rw [if_neg h, if_pos h1]
theorem fof_gt (h : ¬ s.length = 0) (h1 : 1 + 12 * (s.getD 0 0).toNat < s.length) : fofT s = ([], 3) := by unfold fofT; rw [if_neg h, if_neg (by omega), if_pos h1]
theorem fof_chk {k : Nat} (h : s.length = 1 + 12 * k) (hk : k = (s.getD 0 0).toNat) (h1 : ¬ (chkF (parF s k)).2 = 0) : fofT s = ([], (chkF (parF s k)).2) := by unfold fofT; subst hk; rw [if_neg (by omega), if_neg (by omega), if_neg (by omega), if_neg h1]
theorem fof_ok {k : Nat} (h : s.length = 1 + 12 * k) (hk : k = (s.getD 0 0).toNat) (h1 : (chkF (parF s k)).2 = 0) : fofT s = (parF s k, 0) := by unfold fofT; subst hk; rw [if_neg (by omega), if_neg (by omega), if_neg (by omega), if_pos h1]
theorem or_slot (a b : UInt8) : Value.int .i64 (bits .or .i64 (a.toNat : Int) (IntKind.i64.wrap ((b.toNat : Int) * 2 ^ 8))) = .int .i64 ((a.toNat + 256 * b.toNat : Nat) : Int) := by
  have ha := a.toNat_lt
  have hb := b.toNat_lt
  have e1 : ((b.toNat : Int) * 2 ^ 8) = ((b.toNat * 2 ^ 8 : Nat) : Int) := by omega
  have e2 : a.toNat ||| b.toNat * 2 ^ 8 = a.toNat + 256 * b.toNat := by
    rw [Nat.or_comm, Nat.mul_comm, ← Nat.two_pow_add_eq_or_of_lt (by omega)]
    omega
  rw [IntWalk.i64_in ((b.toNat : Int) * 2 ^ 8) ⟨by omega, by omega⟩, e1]
  unfold bits
  simp only []
  rw [BitVec.toNat_or, ofInt_nat _ _ (by simp [IntKind.bits]; omega), ofInt_nat _ _ (by simp [IntKind.bits]; omega), e2]
  rw [IntWalk.i64_in _ ⟨by omega, by omega⟩]
theorem leS_two {s : List UInt8} {k : Nat} (h : k + 1 < s.length) : leS ((s.drop k).take 2) = (s.getD k 0).toNat + 256 * (s.getD (k + 1) 0).toNat := by
  rw [List.drop_eq_getElem_cons (by omega), List.drop_eq_getElem_cons (by omega)]
  simp only [List.take_succ_cons, List.take_zero, leS, List.getD_eq_getElem?_getD, List.getElem?_eq_getElem (show k < s.length by omega), List.getElem?_eq_getElem h, Option.getD_some]
  omega
theorem drop_getD (s : List UInt8) (i j : Nat) : (s.drop i).getD j 0 = s.getD (i + j) 0 := by simp [List.getD_eq_getElem?_getD]
theorem fof_first {s : List UInt8} (h : ¬ s.length = 0) (hn : ¬ firstV [.int .i64 (bif decide ((((s.getD 0 0).toNat : Int) * 12) ≤ ((s.drop 1).length : Int)) then 0 else 14), .int .i64 (bif decide (((s.drop 1).length : Int) ≤ ((s.getD 0 0).toNat : Int) * 12) then 0 else 3)] = 0) :
    fofT s = ([], firstV [.int .i64 (bif decide ((((s.getD 0 0).toNat : Int) * 12) ≤ ((s.drop 1).length : Int)) then 0 else 14), .int .i64 (bif decide (((s.drop 1).length : Int) ≤ ((s.getD 0 0).toNat : Int) * 12) then 0 else 3)]) := by
  rw [List.length_drop] at hn ⊢
  simp only [firstV, cond_eq_ite, decide_eq_true_eq] at hn ⊢
  by_cases h1 : s.length < 1 + 12 * (s.getD 0 0).toNat
  · rw [fof_lt h h1, if_neg (show ¬ (((s.getD 0 0).toNat : Int) * 12 ≤ ((s.length - 1 : Nat) : Int)) by omega)]
    simp
  · have h2 : 1 + 12 * (s.getD 0 0).toNat < s.length := by
      rcases Nat.lt_or_ge (1 + 12 * (s.getD 0 0).toNat) s.length with h3 | h3
      · exact h3
      · exfalso
        apply hn
        rw [if_pos (show (((s.getD 0 0).toNat : Int) * 12 ≤ ((s.length - 1 : Nat) : Int)) by omega), if_pos (show (((s.length - 1 : Nat) : Int) ≤ ((s.getD 0 0).toNat : Int) * 12) by omega)]
        simp
    rw [fof_gt h h2, if_pos (show (((s.getD 0 0).toNat : Int) * 12 ≤ ((s.length - 1 : Nat) : Int)) by omega), if_neg (show ¬ (((s.length - 1 : Nat) : Int) ≤ ((s.getD 0 0).toNat : Int) * 12) by omega)]
    simp
theorem fof_fine {s : List UInt8} (h : ¬ s.length = 0) (hn : firstV [.int .i64 (bif decide ((((s.getD 0 0).toNat : Int) * 12) ≤ ((s.drop 1).length : Int)) then 0 else 14), .int .i64 (bif decide (((s.drop 1).length : Int) ≤ ((s.getD 0 0).toNat : Int) * 12) then 0 else 3)] = 0) :
    s.length = 1 + 12 * (s.getD 0 0).toNat := by
  rw [List.length_drop] at hn
  simp only [firstV, cond_eq_ite, decide_eq_true_eq] at hn
  grind
end
theorem x92 (w : World) (a : Option Addr) (n cap : Nat) (fs : Fds) (hn : n = fs.length) (hs : Fl w a fs) (hm : fs.length ≤ 1000) : Calls Try.prog 92 #[.slice a n cap] w fun en w' => en = .returned (.int .i64 (chkF fs).2) ∧ Below w.heap.size w w' := by
  subst hn
  exact c92 w a cap fs hs hm
theorem x93 (w : World) (a : Option Addr) (n cap : Nat) (fs : Fds) (hn : n = fs.length) (hs : Fl w a fs) (hm : fs.length ≤ 1000) : Calls Try.prog 93 #[.slice a n cap] w fun en w' => en = .returned (.int .i64 (chkF fs).2) ∧ Below w.heap.size w w' := by
  subst hn
  exact c93 w a cap fs hs hm

set_option maxRecDepth 20000 in
theorem c46 (w : World) (a : Option Addr) (cap : Nat) (fs : Fds) (u : Int) (hs : Fl w a fs) (hm : fs.length ≤ 1000) : Calls Try.prog 46 #[.slice a fs.length cap, .int .i64 u] w fun en w' => ∃ g : Option Addr × Nat, en = .returned (.tuple #[.slice g.1 (remT fs u).1.length g.2, .int .i64 (remT fs u).2]) ∧ True ∧ HS w [] [.own (.slice g.1 (remT fs u).1.length g.2) 96 2 (remT fs u).1.length (flatF (remT fs u).1)] w' := by
  refine enter (args := [_, _]) Try.func46 Try.ntmps46 rfl rfl (HS.refl w []) ?_
  refine s_seq ?_
  refine s_region ?_
  refine o_p (p_pure rfl) rfl ?_
  refine o_p (p_pure rfl) rfl ?_
  refine o_nil ?_
  refine s_seq ?_
  refine s_seq ?_
  refine s_region ?_
  refine o_p (p_pure rfl) rfl ?_
  refine o_q (q_call rfl fn_93 rfl (fun w1 h1 => c93 w1 _ _ fs (hs.later h1) hm)) rfl ?_
  refine o_p (p_pure rfl) rfl ?_
  refine o_nil ?_
  refine s_seq ?_
  refine s_region ?_
  refine o_p (p_pure rfl) rfl ?_
  refine o_p (p_pure rfl) rfl ?_
  refine o_nil ?_
  refine s_cond rfl (fun h1 => ?_) (fun h1 => ?_)
  · try simp only [decide_eq_true_eq, decide_eq_false_iff_not, Bool.not_eq_true', Bool.not_eq_false', Bool.and_eq_true, Bool.or_eq_true, Bool.and_eq_false_iff, Bool.or_eq_false_iff, Bool.not_true, Bool.not_false] at h1
    refine s_seq ?_
    refine s_region ?_
    refine o_p (p_pure rfl) rfl ?_
    refine o_p (p_pure rfl) rfl ?_
    refine o_p (p_pure rfl) rfl ?_
    refine o_nil ?_
    exact s_retv (rs := [.tmp 4, .tmp 5]) rfl (.tmp rfl (.tmp rfl (.nil))) (fun w' h' => ⟨(none, 0), by rw [rem_chk (by omega)]; rfl, trivial, by rw [rem_chk (by omega)]; exact ((h').own_nil 96 2).ent (by repeat (first | exact .nil | refine .cons (by repeat (first | exact .here | apply Pick.there)) ?_))⟩)
  · try simp only [decide_eq_true_eq, decide_eq_false_iff_not, Bool.not_eq_true', Bool.not_eq_false', Bool.and_eq_true, Bool.or_eq_true, Bool.and_eq_false_iff, Bool.or_eq_false_iff, Bool.not_true, Bool.not_false] at h1
    have hk0 : (chkF fs).2 = 0 := by omega
    have ok := chkF_ok hk0
    refine s_skip ?_
    refine s_seq ?_
    refine s_region ?_
    refine o_p (p_pure rfl) rfl ?_
    refine o_p (p_pure rfl) rfl ?_
    refine o_q (q_call rfl fn_89 rfl (fun w1 h1 => c89 w1 _ _ fs _ (hs.later h1) (by omega))) rfl ?_
    refine o_p (p_pure rfl) rfl ?_
    refine o_nil ?_
    refine s_seq ?_
    refine s_seq ?_
    refine s_region ?_
    refine o_p (p_pure rfl) rfl ?_
    refine o_p (p_pure rfl) rfl ?_
    refine o_nil ?_
    refine s_cond rfl (fun h2 => ?_) (fun h2 => ?_)
    · try simp only [decide_eq_true_eq, decide_eq_false_iff_not, Bool.not_eq_true', Bool.not_eq_false', Bool.and_eq_true, Bool.or_eq_true, Bool.and_eq_false_iff, Bool.or_eq_false_iff, Bool.not_true, Bool.not_false] at h2
      have hno : hasF fs u = false := by cases hq : hasF fs u with | false => rfl | true => exact absurd (idF_lt.2 ((idF_lb ok).1.1 hq)) (by omega)
      refine s_seq ?_
      refine s_region ?_
      refine o_p (p_pure rfl) rfl ?_
      refine o_p (p_pure rfl) rfl ?_
      refine o_nil ?_
      exact s_retv (rs := [.tmp 4, .tmp 5]) rfl (.tmp rfl (.tmp rfl (.nil))) (fun w' h' => ⟨(none, 0), by rw [rem_no hk0 hno]; rfl, trivial, by rw [rem_no hk0 hno]; exact ((h').own_nil 96 2).ent (by repeat (first | exact .nil | refine .cons (by repeat (first | exact .here | apply Pick.there)) ?_))⟩)
    · try simp only [decide_eq_true_eq, decide_eq_false_iff_not, Bool.not_eq_true', Bool.not_eq_false', Bool.and_eq_true, Bool.or_eq_true, Bool.and_eq_false_iff, Bool.or_eq_false_iff, Bool.not_true, Bool.not_false] at h2
      obtain ⟨g1, g2, g3⟩ := atR_has ok (by omega)
      refine s_skip ?_
      refine s_seq ?_
      refine s_seq ?_
      refine s_region ?_
      refine o_p (p_pure rfl) rfl ?_
      first | refine o_p (p_len_slice rfl rfl Try.underlying41) rfl ?_ | refine o_q (q_len_own rfl rfl Try.underlying41 (by repeat (first | exact .here | apply Pick.there))) rfl ?_
      refine o_p (p_pure rfl) rfl ?_
      refine o_nil ?_
      refine s_cond rfl (fun h3 => ?_) (fun h3 => ?_)
      · try simp only [decide_eq_true_eq, decide_eq_false_iff_not, Bool.not_eq_true', Bool.not_eq_false', Bool.and_eq_true, Bool.or_eq_true, Bool.and_eq_false_iff, Bool.or_eq_false_iff, Bool.not_true, Bool.not_false] at h3
        refine s_seq ?_
        refine s_region ?_
        refine o_p (p_pure rfl) rfl ?_
        refine o_p (p_pure rfl) rfl ?_
        refine o_nil ?_
        exact s_retv (rs := [.tmp 4, .tmp 5]) rfl (.tmp rfl (.tmp rfl (.nil))) (fun w' h' => ⟨(none, 0), by rw [rem_one hk0 g1 (by omega)]; rfl, trivial, by rw [rem_one hk0 g1 (by omega)]; exact ((h').own_nil 96 2).ent (by repeat (first | exact .nil | refine .cons (by repeat (first | exact .here | apply Pick.there)) ?_))⟩)
      · try simp only [decide_eq_true_eq, decide_eq_false_iff_not, Bool.not_eq_true', Bool.not_eq_false', Bool.and_eq_true, Bool.or_eq_true, Bool.and_eq_false_iff, Bool.or_eq_false_iff, Bool.not_true, Bool.not_false] at h3
        refine s_skip ?_
        refine s_seq ?_
        refine s_region ?_
        refine o_p (p_pure rfl) rfl ?_
        refine o_nil ?_
        refine s_seq ?_
        refine s_seq ?_
        refine s_region ?_
        refine o_p (p_pure rfl) rfl ?_
        refine o_nil ?_
        refine s_block ?_
        refine s_loopI (α := Nat × Option Addr × Nat) [8, 9, 23, 24, 25, 26, 27, 28, 29, 30, 31, 32, 33, 34, 35, 36, 37, 38] (fun x => [(9, .int .i64 (x.1 : Int)), (8, .slice x.2.1 (remL (fs.take x.1) (lbF fs u)).length x.2.2)]) (fun x => HS w [] [.own (.slice x.2.1 (remL (fs.take x.1) (lbF fs u)).length x.2.2) 96 2 (remL (fs.take x.1) (lbF fs u)).length (flatF (remL (fs.take x.1) (lbF fs u)))]) (fun x => x.1 ≤ fs.length) (fun x => fs.length - x.1) (0, none, 0) (by simp) (sl_c rfl (sl_c (congrArg (fun e => some (Value.slice _ e _)) (by rw [remL_0]; rfl)) (by repeat (first | exact sl_n | refine sl_c rfl ?_)))) (fun w h => by simp only [remL_0]; exact (h.own_nil 96 2).ent (by repeat (first | exact .nil | refine .cons (by repeat (first | exact .here | apply Pick.there)) ?_))) (fun ⟨k, ga, gc⟩ hx => ?_)
        dsimp only
        simp only [] at hx
        have hrl := remL_le fs (lbF fs u) k
        refine s_seq ?_
        refine s_seq ?_
        refine s_region ?_
        refine o_p (p_pure rfl) rfl ?_
        refine o_p (p_pure rfl) rfl ?_
        first | refine o_p (p_len_slice rfl rfl Try.underlying41) rfl ?_ | refine o_q (q_len_own rfl rfl Try.underlying41 (by repeat (first | exact .here | apply Pick.there))) rfl ?_
        refine o_p (p_pure rfl) rfl ?_
        refine o_nil ?_
        refine s_cond rfl (fun h4 => ?_) (fun h4 => ?_)
        · try simp only [decide_eq_true_eq, decide_eq_false_iff_not, Bool.not_eq_true', Bool.not_eq_false', Bool.and_eq_true, Bool.or_eq_true, Bool.and_eq_false_iff, Bool.or_eq_false_iff, Bool.not_true, Bool.not_false] at h4
          refine s_skip ?_
          refine s_seq ?_
          refine s_block ?_
          refine s_seq ?_
          refine s_region ?_
          refine o_p (p_pure rfl) rfl ?_
          refine o_p (p_pure rfl) rfl ?_
          refine o_p (p_pure rfl) rfl ?_
          refine o_nil ?_
          refine s_cond rfl (fun h5 => ?_) (fun h5 => ?_)
          · try simp only [decide_eq_true_eq, decide_eq_false_iff_not, Bool.not_eq_true', Bool.not_eq_false', Bool.and_eq_true, Bool.or_eq_true, Bool.and_eq_false_iff, Bool.or_eq_false_iff, Bool.not_true, Bool.not_false] at h5
            have hne : k ≠ lbF fs u := by have hq := h5; (try simp at hq); omega
            have hk : k < fs.length := by omega
            refine s_region ?_
            refine o_p (p_pure rfl) rfl ?_
            refine o_p (p_pure rfl) rfl ?_
            refine o_p (p_pure rfl) rfl ?_
            first | refine o_p (p_indexAddr rfl rfl rfl sl_41 (k) (by omega) (by omega) rfl) rfl ?_ | refine o_p (p_indexAddr rfl rfl rfl sl_41 (k) (by omega) (by omega) (Sl.some hs (by omega))) rfl ?_
            first | refine o_q (q_loadn rfl rfl sz_96 (by repeat (first | exact .here | apply Pick.there)) rfl) rfl ?_ | refine o_q (q_load_oldn _ rfl rfl sz_96 rfl (hs.rd (i := k) (by omega))) rfl ?_
            refine o_h (h_buildSlice (cs := [_, _]) rfl rfl sl_41 zr_96 rfl rfl rfl) rfl (fun b6 _ => ?_)
            refine o_h (h_appendS _ rfl rfl rfl sl_41 Try.underlying41 zr_96 rfl (by repeat (first | exact .here | apply Pick.there)) (src_blk (by repeat (first | exact .here | apply Pick.there))) rfl (by intro u hu; simp only [List.mem_cons, List.mem_nil_iff, or_false] at hu; rcases hu with rfl | rfl <;> rfl) (by omega) (by simp only [maxLen]; omega)) rfl (fun b7 _ => ?_)
            refine o_p (p_pure rfl) rfl ?_
            refine o_nil ?_
            refine s_blk ?_
            refine s_region ?_
            refine o_p (p_pure rfl) rfl ?_
            refine o_p (p_pure rfl) rfl ?_
            try (refine o_slot (i64w (by omega) (by omega)) ?_)
            refine o_p (p_pure rfl) rfl ?_
            refine o_nil ?_
            exact s_backI (k + 1, _, _) (by (try simp only []); omega) (by (try simp only []); omega) (sl_c rfl (sl_c (congrArg (fun e => some (Value.slice _ e _)) (skip_len hk hne)) (by repeat (first | exact sl_n | refine sl_c rfl ?_)))) (fun w h => by simp only [skip_succ hk hne, ← skip_len hk hne]; exact h.ent (by repeat (first | exact .nil | refine .cons (by repeat (first | exact .here | apply Pick.there)) ?_)))
          · try simp only [decide_eq_true_eq, decide_eq_false_iff_not, Bool.not_eq_true', Bool.not_eq_false', Bool.and_eq_true, Bool.or_eq_true, Bool.and_eq_false_iff, Bool.or_eq_false_iff, Bool.not_true, Bool.not_false] at h5
            have hke : k = lbF fs u := by have hq := h5; (try simp at hq); omega
            refine s_skip ?_
            refine s_blk ?_
            refine s_region ?_
            refine o_p (p_pure rfl) rfl ?_
            refine o_p (p_pure rfl) rfl ?_
            try (refine o_slot (i64w (by omega) (by omega)) ?_)
            refine o_p (p_pure rfl) rfl ?_
            refine o_nil ?_
            exact s_backI (k + 1, ga, gc) (by (try simp only []); omega) (by (try simp only []); omega) (sl_c rfl (sl_c (by subst hke; simp only [skip_same]; rfl) (by repeat (first | exact sl_n | refine sl_c rfl ?_)))) (fun w h => by subst hke; simp only [skip_same]; exact h.ent (by repeat (first | exact .nil | refine .cons (by repeat (first | exact .here | apply Pick.there)) ?_)))
        · try simp only [decide_eq_true_eq, decide_eq_false_iff_not, Bool.not_eq_true', Bool.not_eq_false', Bool.and_eq_true, Bool.or_eq_true, Bool.and_eq_false_iff, Bool.or_eq_false_iff, Bool.not_true, Bool.not_false] at h4
          refine s_exit_to rfl ?_
          refine s_seq ?_
          refine s_region ?_
          refine o_p (p_pure rfl) rfl ?_
          refine o_p (p_pure rfl) rfl ?_
          refine o_p (p_pure rfl) rfl ?_
          refine o_nil ?_
          exact s_retv (rs := [.tmp 4, .tmp 5]) rfl (.tmp rfl (.tmp rfl (.nil))) (fun w' h' => ⟨(ga, gc), by rw [rem_ok hk0 g1 (by omega)]; obtain rfl : k = fs.length := (by omega); rw [List.take_length]; rfl, trivial, by rw [rem_ok hk0 g1 (by omega)]; obtain rfl : k = fs.length := (by omega); have h2 := h'; rw [List.take_length] at h2; exact h2.ent (by repeat (first | exact .nil | refine .cons (by repeat (first | exact .here | apply Pick.there)) ?_))⟩)

set_option maxRecDepth 20000 in
theorem c48 (w : World) (a : Option Addr) (cap : Nat) (fs : Fds) (hs : Fl w a fs) (hm : fs.length ≤ 1000) : Calls Try.prog 48 #[.slice a fs.length cap] w fun en w' => en = .returned (pairV (bytesT fs)) ∧ Below w.heap.size w w' := by
  refine enter (args := [_]) Try.func48 Try.ntmps48 rfl rfl (HS.refl w []) ?_
  refine s_seq ?_
  refine s_region ?_
  refine o_p (p_pure rfl) rfl ?_
  refine o_p (p_pure rfl) rfl ?_
  refine o_nil ?_
  refine s_seq ?_
  refine s_seq ?_
  refine s_region ?_
  refine o_p (p_pure rfl) rfl ?_
  refine o_q (q_call rfl fn_92 rfl (fun w1 h1 => c92 w1 _ _ fs (hs.later h1) hm)) rfl ?_
  refine o_p (p_pure rfl) rfl ?_
  refine o_nil ?_
  refine s_seq ?_
  refine s_region ?_
  refine o_p (p_pure rfl) rfl ?_
  refine o_p (p_pure rfl) rfl ?_
  refine o_nil ?_
  refine s_cond rfl (fun h1 => ?_) (fun h1 => ?_)
  · try simp only [decide_eq_true_eq, decide_eq_false_iff_not, Bool.not_eq_true', Bool.not_eq_false', Bool.and_eq_true, Bool.or_eq_true, Bool.and_eq_false_iff, Bool.or_eq_false_iff, Bool.not_true, Bool.not_false] at h1
    refine s_seq ?_
    refine s_region ?_
    refine o_p (p_pure rfl) rfl ?_
    refine o_p (p_pure rfl) rfl ?_
    refine o_p (p_pure rfl) rfl ?_
    refine o_nil ?_
    exact s_retv (rs := [.tmp 2, .tmp 3]) rfl (.tmp rfl (.tmp rfl (.nil))) (fun w' h' => ⟨by unfold bytesT; rw [if_neg h1]; rfl, h'.below⟩)
  · try simp only [decide_eq_true_eq, decide_eq_false_iff_not, Bool.not_eq_true', Bool.not_eq_false', Bool.and_eq_true, Bool.or_eq_true, Bool.and_eq_false_iff, Bool.or_eq_false_iff, Bool.not_true, Bool.not_false] at h1
    have hk0 : (chkF fs).2 = 0 := h1
    have ok := chkF_ok hk0
    have h8 := ok.le
    refine s_skip ?_
    refine s_seq ?_
    refine s_region ?_
    refine o_p (p_pure rfl) rfl ?_
    first | refine o_p (p_len_slice rfl rfl Try.underlying41) rfl ?_ | refine o_q (q_len_own rfl rfl Try.underlying41 (by repeat (first | exact .here | apply Pick.there))) rfl ?_
    refine o_p (p_conv_int rfl rfl ki_3 ki_5) rfl ?_
    refine o_slot (lo8 _) ?_
    refine o_h (h_buildSlice (cs := [_]) rfl rfl sl_113 zr_5 rfl rfl rfl) rfl (fun b2 _ => ?_)
    refine o_p (p_pure rfl) rfl ?_
    refine o_nil ?_
    refine s_seq ?_
    refine s_seq ?_
    refine s_region ?_
    refine o_p (p_pure rfl) rfl ?_
    first | refine o_p (p_len_slice rfl rfl Try.underlying41) rfl ?_ | refine o_q (q_len_own rfl rfl Try.underlying41 (by repeat (first | exact .here | apply Pick.there))) rfl ?_
    refine o_p (p_pure rfl) rfl ?_
    refine o_nil ?_
    refine s_block ?_
    refine s_loopI (α := Nat × Value) [5, 7, 19, 20, 21, 22, 23, 24, 25, 26, 27, 28, 29, 30, 31, 32, 33, 34, 35, 36, 37] (fun x => [(19, .int .i64 (x.1 : Int)), (5, x.2)]) (fun x => HS w [] [.own x.2 5 1 (bytesF fs x.1).length ((bytesF fs x.1).map bv)]) (fun x => x.1 ≤ fs.length) (fun x => fs.length - x.1) (0, _) (by simp) (by repeat (first | exact sl_n | refine sl_c rfl ?_)) (fun w h => by simp only [bytesF_0]; exact (HS.own_shut (t := 5) (sz := 1) (n := 1) (cap := 1) (show HS _ _ [.blk b2 5 (1 * 1) [bv (UInt8.ofNat fs.length)]] _ from h) rfl (by decide) (by decide)).ent (by repeat (first | exact .nil | refine .cons (by repeat (first | exact .here | apply Pick.there)) ?_))) (fun ⟨k, v⟩ hx => ?_)
    dsimp only
    simp only [] at hx
    have hbl := bytesF_len ok hx
    refine s_seq ?_
    refine s_region ?_
    refine o_p (p_pure rfl) rfl ?_
    refine o_nil ?_
    refine s_seq ?_
    refine s_cond rfl (fun h3 => ?_) (fun h3 => ?_)
    · try simp only [decide_eq_true_eq, decide_eq_false_iff_not, Bool.not_eq_true', Bool.not_eq_false', Bool.and_eq_true, Bool.or_eq_true, Bool.and_eq_false_iff, Bool.or_eq_false_iff, Bool.not_true, Bool.not_false] at h3
      have hku := ok.user k (by omega)
      have hkl := ok.len k (by omega)
      refine s_skip ?_
      refine s_seq ?_
      refine s_block ?_
      refine s_seq ?_
      refine s_region ?_
      first | refine o_p (p_indexAddr rfl rfl rfl sl_41 (k) (by omega) (by omega) rfl) rfl ?_ | refine o_p (p_indexAddr rfl rfl rfl sl_41 (k) (by omega) (by omega) (Sl.some hs (by omega))) rfl ?_
      first | refine o_q (q_loadn rfl rfl sz_96 (by repeat (first | exact .here | apply Pick.there)) rfl) rfl ?_ | refine o_q (q_load_oldn _ rfl rfl sz_96 rfl (hs.rd (i := k) (by omega))) rfl ?_
      refine o_h (h_alloc rfl zr_96) rfl (fun b4 _ => ?_)
      refine o_h0 (h_store rfl rfl rfl sz_96 rfl (by repeat (first | exact .here | apply Put.there)) (by simp only [setMany_length, List.length_set, List.length_cons, List.length_nil, List.length_map]; omega) rfl) (fun _ _ => ?_)
      refine o_nil ?_
      refine s_seq ?_
      refine s_region ?_
      refine o_p (p_pure rfl) rfl ?_
      refine o_p (p_fieldAddr rfl rfl fd_96_0 sz_3 rfl) rfl ?_
      first | refine o_q (q_load rfl rfl sz_3 (by repeat (first | exact .here | apply Pick.there)) rfl) rfl ?_ | refine o_q (q_load_old rfl rfl sz_3 (rfl (hs.rd (i := k) (by omega)))) rfl ?_
      refine o_p (p_conv_int rfl rfl ki_3 ki_5) rfl ?_
      refine o_slot (lo8I (by omega)) ?_
      refine o_p (p_fieldAddr rfl rfl fd_96_0 sz_3 rfl) rfl ?_
      first | refine o_q (q_load rfl rfl sz_3 (by repeat (first | exact .here | apply Pick.there)) rfl) rfl ?_ | refine o_q (q_load_old rfl rfl sz_3 (rfl (hs.rd (i := k) (by omega)))) rfl ?_
      refine o_p (p_shr rfl rfl rfl (by decide) 8 rfl) rfl ?_
      refine o_p (p_conv_int rfl rfl ki_3 ki_5) rfl ?_
      refine o_slot (hi8I (by omega)) ?_
      refine o_h (h_buildSlice (cs := [_, _]) rfl rfl sl_113 zr_5 rfl rfl rfl) rfl (fun b5 _ => ?_)
      refine o_h (h_append _ rfl rfl rfl sl_113 Try.underlying113 zr_5 rfl (by repeat (first | exact .here | apply Pick.there)) (src_blk (by repeat (first | exact .here | apply Pick.there))) rfl (by intro u hu; simp only [List.mem_cons, List.mem_nil_iff, or_false] at hu; rcases hu with rfl | hu <;> first | rfl | (subst hu; rfl) | (rcases hu with rfl | rfl <;> rfl)) (by omega) (by simp only [maxLen]; omega)) rfl (fun b6 _ => ?_)
      refine o_p (p_pure rfl) rfl ?_
      refine o_nil ?_
      refine s_region ?_
      refine o_p (p_pure rfl) rfl ?_
      refine o_p (p_fieldAddr rfl rfl fd_96_1 sz_9 rfl) rfl ?_
      first | refine o_q (q_load rfl rfl sz_9 (by repeat (first | exact .here | apply Pick.there)) rfl) rfl ?_ | refine o_q (q_load_old rfl rfl sz_9 (rfl (hs.rd (i := k) (by omega)))) rfl ?_
      refine o_h (h_append_str rfl rfl rfl sl_113 Try.underlying9 zr_5 rfl (by repeat (first | exact .here | apply Pick.there)) (by omega) (by simp only [maxLen]; omega)) rfl (fun b7 _ => ?_)
      refine o_p (p_pure rfl) rfl ?_
      refine o_nil ?_
      refine s_blk ?_
      refine s_region ?_
      refine o_p (p_pure rfl) rfl ?_
      try (refine o_slot (i64w (by omega) (by omega)) ?_)
      refine o_p (p_pure rfl) rfl ?_
      refine o_nil ?_
      exact s_backI (k + 1, _) (by (try simp only []); omega) (by (try simp only []); omega) (by repeat (first | exact sl_n | refine sl_c rfl ?_)) (fun w h => by simp only [bytesF_succ (show k < fs.length by omega), List.map_append, List.length_append, List.length_cons, List.length_nil]; exact h.ent (by repeat (first | exact .nil | refine .cons (by repeat (first | exact .here | apply Pick.there)) ?_)))
    · try simp only [decide_eq_true_eq, decide_eq_false_iff_not, Bool.not_eq_true', Bool.not_eq_false', Bool.and_eq_true, Bool.or_eq_true, Bool.and_eq_false_iff, Bool.or_eq_false_iff, Bool.not_true, Bool.not_false] at h3
      refine s_exit_to rfl ?_
      refine s_seq ?_
      refine s_region ?_
      refine o_p (p_pure rfl) rfl ?_
      first | refine o_q (q_string_own rfl rfl Try.underlying113 Try.underlying9 Try.underlying5 (by repeat (first | exact .here | apply Pick.there)) (isU8_bv _)) rfl ?_ | refine o_q (q_string_blk rfl rfl Try.underlying113 Try.underlying9 Try.underlying5 (by repeat (first | exact .here | apply Pick.there)) (by simp) (isU8_bv _)) rfl ?_
      refine o_p (p_pure rfl) rfl ?_
      refine o_p (p_pure rfl) rfl ?_
      refine o_nil ?_
      exact s_retv (rs := [.tmp 2, .tmp 3]) rfl (.tmp rfl (.tmp rfl (.nil))) (fun w' h' => ⟨by unfold bytesT; rw [if_pos hk0, vByte_bv]; obtain rfl : k = fs.length := (by omega); rfl, h'.below⟩)

set_option maxRecDepth 20000 in
theorem c49 (w : World) (a : Option Addr) (cap : Nat) (fs : Fds) (hs : Fl w a fs) (ok : FOk fs) : Calls Try.prog 49 #[.slice a fs.length cap] w fun en w' => en = .returned (.string (bs (bytesF fs fs.length))) ∧ Below w.heap.size w w' := by
  have h8 := ok.le
  have hm : fs.length ≤ 1000 := by omega
  refine enter (args := [_]) Try.func49 Try.ntmps49 rfl rfl (HS.refl w []) ?_
  refine s_seq ?_
  refine s_region ?_
  refine o_p (p_pure rfl) rfl ?_
  refine o_nil ?_
  refine s_seq ?_
  refine s_region ?_
  refine o_p (p_pure rfl) rfl ?_
  first | refine o_p (p_len_slice rfl rfl Try.underlying41) rfl ?_ | refine o_q (q_len_own rfl rfl Try.underlying41 (by repeat (first | exact .here | apply Pick.there))) rfl ?_
  refine o_q (q_call rfl fn_78 rfl (fun w1 h1 => c78 w1 fs.length 1 (by omega) (by decide))) rfl ?_
  refine o_p (p_pure rfl) rfl ?_
  refine o_nil ?_
  refine s_seq ?_
  refine s_seq ?_
  refine s_region ?_
  refine o_p (p_pure rfl) rfl ?_
  refine o_nil ?_
  refine s_block ?_
  refine s_loopI (α := Nat) [3, 4, 8, 9, 10, 11, 12, 13, 14, 15, 16, 17, 18, 19, 20, 21, 22, 23, 24, 25, 26, 27] (fun k => [(4, .int .i64 (k : Int)), (3, .string (bs (bytesF fs k)))]) (fun _ => _) (fun k => k ≤ fs.length) (fun k => fs.length - k) 0 (by simp) (sl_c rfl (sl_c (by rw [bytesF_0]; rfl) (by repeat (first | exact sl_n | refine sl_c rfl ?_)))) (fun w h => h) (fun k hx => ?_)
  have hbl := bytesF_len ok hx
  refine s_seq ?_
  refine s_seq ?_
  refine s_region ?_
  refine o_p (p_pure rfl) rfl ?_
  refine o_p (p_pure rfl) rfl ?_
  first | refine o_p (p_len_slice rfl rfl Try.underlying41) rfl ?_ | refine o_q (q_len_own rfl rfl Try.underlying41 (by repeat (first | exact .here | apply Pick.there))) rfl ?_
  refine o_p (p_pure rfl) rfl ?_
  refine o_nil ?_
  refine s_cond rfl (fun h1 => ?_) (fun h1 => ?_)
  · try simp only [decide_eq_true_eq, decide_eq_false_iff_not, Bool.not_eq_true', Bool.not_eq_false', Bool.and_eq_true, Bool.or_eq_true, Bool.and_eq_false_iff, Bool.or_eq_false_iff, Bool.not_true, Bool.not_false] at h1
    have hku := ok.user k (by omega)
    have hkl := ok.len k (by omega)
    refine s_skip ?_
    refine s_seq ?_
    refine s_block ?_
    refine s_draw [] mixed ?_
    refine d_p 0 rfl (p_pure rfl) (by kernel_rfl) rfl rfl ?_
    refine d_p 1 rfl (p_pure rfl) (by kernel_rfl) rfl rfl ?_
    refine d_p 2 rfl (p_pure rfl) (by kernel_rfl) rfl rfl ?_
    first | refine d_p 3 rfl (p_indexAddr rfl rfl rfl sl_41 (k) (by omega) (by omega) rfl) (by kernel_rfl) rfl rfl ?_ | refine d_p 3 rfl (p_indexAddr rfl rfl rfl sl_41 (k) (by omega) (by omega) (Sl.some hs (by omega))) (by kernel_rfl) rfl rfl ?_
    refine d_p 4 rfl (p_fieldAddr rfl rfl fd_96_0 sz_3 rfl) (by kernel_rfl) rfl rfl ?_
    first | refine d_q 5 [] rfl (q_load rfl rfl sz_3 (by repeat (first | exact .here | apply Pick.there)) rfl) (by kernel_rfl) (by kernel_rfl) (by kernel_rfl) rfl ?_ | refine d_q 5 [] rfl (q_load_old rfl rfl sz_3 (hs.rd0 (i := k) (by omega))) (by kernel_rfl) (by kernel_rfl) (by kernel_rfl) rfl ?_ | refine d_q 5 [] rfl (q_load_old rfl rfl sz_3 (hs.rd1 (i := k) (by omega))) (by kernel_rfl) (by kernel_rfl) (by kernel_rfl) rfl ?_
    refine d_q 6 [] rfl (q_call rfl fn_78 rfl (fun w1 h1 => by have h9 := c78 w1 (fd fs k).1.toNat 2 (by omega) (by decide); rw [Int.toNat_of_nonneg (by omega)] at h9; exact h9)) (by kernel_rfl) (by kernel_rfl) (by kernel_rfl) rfl ?_
    refine d_p 7 rfl (p_str_add rfl rfl rfl (by (try simp only [List.length_append, List.length_cons, List.length_nil, List.length_replicate, List.length_take, List.length_drop, leB_length]); omega)) (by kernel_rfl) rfl rfl ?_
    refine d_p 8 rfl (p_pure rfl) (by kernel_rfl) rfl rfl ?_
    refine d_p 9 rfl (p_pure rfl) (by kernel_rfl) rfl rfl ?_
    first | refine d_p 10 rfl (p_indexAddr rfl rfl rfl sl_41 (k) (by omega) (by omega) rfl) (by kernel_rfl) rfl rfl ?_ | refine d_p 10 rfl (p_indexAddr rfl rfl rfl sl_41 (k) (by omega) (by omega) (Sl.some hs (by omega))) (by kernel_rfl) rfl rfl ?_
    refine d_p 11 rfl (p_fieldAddr rfl rfl fd_96_1 sz_9 rfl) (by kernel_rfl) rfl rfl ?_
    first | refine d_q 12 [] rfl (q_load rfl rfl sz_9 (by repeat (first | exact .here | apply Pick.there)) rfl) (by kernel_rfl) (by kernel_rfl) (by kernel_rfl) rfl ?_ | refine d_q 12 [] rfl (q_load_old rfl rfl sz_9 (hs.rd0 (i := k) (by omega))) (by kernel_rfl) (by kernel_rfl) (by kernel_rfl) rfl ?_ | refine d_q 12 [] rfl (q_load_old rfl rfl sz_9 (hs.rd1 (i := k) (by omega))) (by kernel_rfl) (by kernel_rfl) (by kernel_rfl) rfl ?_
    refine d_p 13 rfl (p_str_add rfl rfl rfl (by (try simp only [List.length_append, List.length_cons, List.length_nil, List.length_replicate, List.length_take, List.length_drop, leB_length]); omega)) (by kernel_rfl) rfl rfl ?_
    refine d_p 14 rfl (p_pure rfl) (by kernel_rfl) rfl rfl ?_
    refine d_nil (by kernel_rfl) (fun w h => h.ent (by repeat (first | exact .nil | refine .cons (by repeat (first | exact .here | apply Pick.there)) ?_))) ?_
    refine s_blk ?_
    refine s_region ?_
    refine o_p (p_pure rfl) rfl ?_
    refine o_p (p_pure rfl) rfl ?_
    try (refine o_slot (i64w (by omega) (by omega)) ?_)
    refine o_p (p_pure rfl) rfl ?_
    refine o_nil ?_
    exact s_backI (k + 1) (by omega) (by omega) (sl_c rfl (sl_c (by rw [bytesF_succ (by omega)]; rfl) (by repeat (first | exact sl_n | refine sl_c rfl ?_)))) (fun w h => h)
  · try simp only [decide_eq_true_eq, decide_eq_false_iff_not, Bool.not_eq_true', Bool.not_eq_false', Bool.and_eq_true, Bool.or_eq_true, Bool.and_eq_false_iff, Bool.or_eq_false_iff, Bool.not_true, Bool.not_false] at h1
    refine s_exit_to rfl ?_
    refine s_seq ?_
    refine s_region ?_
    refine o_p (p_pure rfl) rfl ?_
    refine o_p (p_pure rfl) rfl ?_
    refine o_nil ?_
    exact s_retv (rs := [.tmp 2]) rfl (.tmp rfl (.nil)) (fun w' h' => ⟨by obtain rfl : k = fs.length := (by omega); rfl, h'.below⟩)

set_option maxRecDepth 20000 in
theorem c50 (w : World) (s : List UInt8) (hm : s.length ≤ 100000) : Calls Try.prog 50 #[.string (bs s)] w fun en w' => ∃ g : Option Addr × Nat, en = .returned (.tuple #[.slice g.1 (fofT s).1.length g.2, .int .i64 (fofT s).2]) ∧ True ∧ HS w [] [.own (.slice g.1 (fofT s).1.length g.2) 96 2 (fofT s).1.length (flatF (fofT s).1)] w' := by
  refine enter (args := [_]) Try.func50 Try.ntmps50 rfl rfl (HS.refl w []) ?_
  refine s_seq ?_
  refine s_region ?_
  refine o_p (p_pure rfl) rfl ?_
  refine o_p (p_pure rfl) rfl ?_
  refine o_nil ?_
  refine s_seq ?_
  refine s_seq ?_
  refine s_region ?_
  refine o_p (p_pure rfl) rfl ?_
  refine o_p (p_pure rfl) rfl ?_
  refine o_nil ?_
  refine s_cond rfl (fun h1 => ?_) (fun h1 => ?_)
  · try simp only [decide_eq_true_eq, decide_eq_false_iff_not, Bool.not_eq_true', Bool.not_eq_false', Bool.and_eq_true, Bool.or_eq_true, Bool.and_eq_false_iff, Bool.or_eq_false_iff, Bool.not_true, Bool.not_false] at h1
    have hs0 : s.length = 0 := by rw [h1]; rfl
    refine s_seq ?_
    refine s_region ?_
    refine o_p (p_pure rfl) rfl ?_
    refine o_p (p_pure rfl) rfl ?_
    refine o_nil ?_
    exact s_retv (rs := [.tmp 2, .tmp 3]) rfl (.tmp rfl (.tmp rfl (.nil))) (fun w' h' => ⟨(none, 0), by rw [fof_0 hs0]; rfl, trivial, by rw [fof_0 hs0]; exact ((h').own_nil 96 2).ent (by repeat (first | exact .nil | refine .cons (by repeat (first | exact .here | apply Pick.there)) ?_))⟩)
  · try simp only [decide_eq_true_eq, decide_eq_false_iff_not, Bool.not_eq_true', Bool.not_eq_false', Bool.and_eq_true, Bool.or_eq_true, Bool.and_eq_false_iff, Bool.or_eq_false_iff, Bool.not_true, Bool.not_false] at h1
    have hs0 : ¬ s.length = 0 := fun e => h1 (List.eq_nil_of_length_eq_zero e)
    have hb0 := (s.getD 0 0).toNat_lt
    refine s_skip ?_
    refine s_seq ?_
    refine s_region ?_
    refine o_p (p_pure rfl) rfl ?_
    refine o_p (p_slice_str_from 1 rfl rfl rfl Try.underlying9 rfl (by omega)) rfl ?_
    refine o_p (p_pure rfl) rfl ?_
    refine o_nil ?_
    refine s_seq ?_
    refine s_region ?_
    refine o_p (p_pure rfl) rfl ?_
    refine o_p (p_index_str rfl rfl rfl Try.underlying9 0 rfl (by omega)) rfl ?_
    refine o_p (p_conv_int rfl rfl ki_5 ki_3) rfl ?_
    try (refine o_slot (i64w (by omega) (by omega)) ?_)
    refine o_p (p_pure rfl) rfl ?_
    try (refine o_slot (i64w (by omega) (by omega)) ?_)
    refine o_p (p_pure rfl) rfl ?_
    refine o_nil ?_
    refine s_seq ?_
    refine s_seq ?_
    refine s_region ?_
    refine o_p (p_pure rfl) rfl ?_
    refine o_p (p_len_str rfl rfl Try.underlying9) rfl ?_
    refine o_p (p_pure rfl) rfl ?_
    refine o_p (p_pure rfl) rfl ?_
    refine o_q (q_call rfl fn_65 rfl (fun w1 h1 => c65 w1 _ _)) rfl ?_
    refine o_p (p_pure rfl) rfl ?_
    refine o_p (p_len_str rfl rfl Try.underlying9) rfl ?_
    refine o_p (p_pure rfl) rfl ?_
    refine o_p (p_pure rfl) rfl ?_
    refine o_q (q_call rfl fn_65 rfl (fun w1 h1 => c65 w1 _ _)) rfl ?_
    refine o_h (h_buildSlice (cs := [_, _]) rfl rfl sl_140 zr_24 rfl rfl rfl) rfl (fun b2 _ => ?_)
    refine o_q (q_call rfl fn_59 rfl (fun w1 h1 => f59 h1 (by repeat (first | exact .here | apply Pick.there)) (by rfl) (by rfl) (by decide))) rfl ?_
    refine o_p (p_pure rfl) rfl ?_
    refine o_nil ?_
    refine s_seq ?_
    refine s_region ?_
    refine o_p (p_pure rfl) rfl ?_
    refine o_p (p_pure rfl) rfl ?_
    refine o_nil ?_
    refine s_cond rfl (fun h3 => ?_) (fun h3 => ?_)
    · try simp only [decide_eq_true_eq, decide_eq_false_iff_not, Bool.not_eq_true', Bool.not_eq_false', Bool.and_eq_true, Bool.or_eq_true, Bool.and_eq_false_iff, Bool.or_eq_false_iff, Bool.not_true, Bool.not_false] at h3
      refine s_seq ?_
      refine s_region ?_
      refine o_p (p_pure rfl) rfl ?_
      refine o_p (p_pure rfl) rfl ?_
      refine o_p (p_pure rfl) rfl ?_
      refine o_nil ?_
      exact s_retv (rs := [.tmp 2, .tmp 3]) rfl (.tmp rfl (.tmp rfl (.nil))) (fun w' h' => ⟨(none, 0), by rw [fof_first hs0 h3]; rfl, trivial, by rw [fof_first hs0 h3]; exact ((h').own_nil 96 2).ent (by repeat (first | exact .nil | refine .cons (by repeat (first | exact .here | apply Pick.there)) ?_))⟩)
    · try simp only [decide_eq_true_eq, decide_eq_false_iff_not, Bool.not_eq_true', Bool.not_eq_false', Bool.and_eq_true, Bool.or_eq_true, Bool.and_eq_false_iff, Bool.or_eq_false_iff, Bool.not_true, Bool.not_false] at h3
      have hsl := fof_fine hs0 h3
      refine s_skip ?_
      refine s_seq ?_
      refine s_region ?_
      refine o_p (p_pure rfl) rfl ?_
      refine o_nil ?_
      refine s_seq ?_
      refine s_block ?_
      refine s_loopI (α := Nat × Option Addr × Nat) [4, 7, 32, 33, 34, 35, 36, 37, 38, 39, 40, 41, 42, 43, 44, 45, 46, 47, 48, 49] (fun x => [(4, .string (bs (s.drop (1 + 12 * x.1)))), (7, .slice x.2.1 x.1 x.2.2)]) (fun x => HS w [] [.own (.slice x.2.1 x.1 x.2.2) 96 2 x.1 (flatF (parF s x.1))]) (fun x => x.1 ≤ (s.getD 0 0).toNat) (fun x => (s.getD 0 0).toNat - x.1) (0, none, 0) (by simp) (by repeat (first | exact sl_n | refine sl_c rfl ?_)) (fun w h => (h.own_nil 96 2).ent (by repeat (first | exact .nil | refine .cons (by repeat (first | exact .here | apply Pick.there)) ?_))) (fun ⟨k, ga, gc⟩ hx => ?_)
      dsimp only
      simp only [] at hx
      refine s_seq ?_
      refine s_seq ?_
      refine s_region ?_
      refine o_p (p_pure rfl) rfl ?_
      refine o_p (p_pure rfl) rfl ?_
      refine o_nil ?_
      refine s_cond rfl (fun h4 => ?_) (fun h4 => ?_)
      · try simp only [decide_eq_true_eq, decide_eq_false_iff_not, Bool.not_eq_true', Bool.not_eq_false', Bool.and_eq_true, Bool.or_eq_true, Bool.and_eq_false_iff, Bool.or_eq_false_iff, Bool.not_true, Bool.not_false] at h4
        have hlt : k < (s.getD 0 0).toNat := by have hq := h4; (try simp at hq); omega
        have hd0 := ((s.drop (1 + 12 * k)).getD 0 0).toNat_lt
        have hd1 := ((s.drop (1 + 12 * k)).getD 1 0).toNat_lt
        have hdl : (s.drop (1 + 12 * k)).length = s.length - (1 + 12 * k) := List.length_drop ..
        refine s_skip ?_
        refine s_seq ?_
        refine s_block ?_
        refine s_draw [13] mixed ?_
        refine d_p 0 rfl (p_pure rfl) (by kernel_rfl) rfl rfl ?_
        refine d_p 1 rfl (p_pure rfl) (by kernel_rfl) rfl rfl ?_
        refine d_p 2 rfl (p_index_str rfl rfl rfl Try.underlying9 0 rfl (by omega)) (by kernel_rfl) rfl rfl ?_
        refine d_p 3 rfl (p_conv_int rfl rfl ki_5 ki_3) (by kernel_rfl) rfl rfl ?_
        try (refine d_slot (i64w (by omega) (by omega)) ?_)
        refine d_p 4 rfl (p_pure rfl) (by kernel_rfl) rfl rfl ?_
        refine d_p 5 rfl (p_index_str rfl rfl rfl Try.underlying9 1 rfl (by omega)) (by kernel_rfl) rfl rfl ?_
        refine d_p 6 rfl (p_conv_int rfl rfl ki_5 ki_3) (by kernel_rfl) rfl rfl ?_
        try (refine d_slot (i64w (by omega) (by omega)) ?_)
        refine d_p 7 rfl (p_shl rfl rfl rfl (by decide) 8 rfl) (by kernel_rfl) rfl rfl ?_
        refine d_p 8 rfl (p_pure rfl) (by kernel_rfl) rfl rfl ?_
        refine d_slot (or_slot _ _) ?_
        refine d_slot (show _ = Value.int .i64 (leS ((s.drop (1 + 12 * k)).take 2) : Int) from by rw [leS_two (by omega), drop_getD, drop_getD]; rfl) ?_
        refine d_p 9 rfl (p_pure rfl) (by kernel_rfl) rfl rfl ?_
        refine d_p 10 rfl (p_slice_str _ _ 2 12 rfl rfl Try.underlying9 ⟨_, _, rfl, rfl⟩ ⟨_, _, rfl, rfl⟩ (by omega) (by omega)) (by kernel_rfl) rfl rfl ?_
        refine d_slot (show _ = Value.string (bs ((s.drop (1 + 12 * k + 2)).take 10)) from by rw [List.drop_take, List.drop_drop]) ?_
        refine d_p 11 rfl (p_build (cs := [_, _]) rfl rfl pl_96 zr_96 rfl) (by kernel_rfl) rfl rfl ?_
        refine d_h 12 rfl (h_buildSlice (cs := [_, _]) rfl rfl sl_41 zr_96 rfl rfl rfl) (by kernel_rfl) (fun w h => h.ent (by repeat (first | exact .nil | refine .cons (by repeat (first | exact .here | apply Pick.there)) ?_))) rfl (fun b5 _ => ?_)
        refine d_base (fun w h => h.ent (by repeat (first | exact .nil | refine .cons (by repeat (first | exact .here | apply Pick.there)) ?_))) ?_
        refine d_h 13 rfl (h_appendS _ rfl rfl rfl sl_41 Try.underlying41 zr_96 rfl (by repeat (first | exact .here | apply Pick.there)) (src_blk (by repeat (first | exact .here | apply Pick.there))) rfl (by intro u hu; simp only [List.mem_cons, List.mem_nil_iff, or_false] at hu; rcases hu with rfl | rfl <;> rfl) (by omega) (by simp only [maxLen]; omega)) (by kernel_rfl) (fun w h => h.ent (by repeat (first | exact .nil | refine .cons (by repeat (first | exact .here | apply Pick.there)) ?_))) rfl (fun b6 _ => ?_)
        refine d_turn [] (by kernel_rfl) ?_
        refine d_p 14 rfl (p_pure rfl) (by kernel_rfl) rfl rfl ?_
        refine d_nil (by kernel_rfl) (fun w h => h.ent (by repeat (first | exact .nil | refine .cons (by repeat (first | exact .here | apply Pick.there)) ?_))) ?_
        refine s_blk ?_
        refine s_region ?_
        refine o_p (p_pure rfl) rfl ?_
        refine o_p (p_slice_str_from 12 rfl rfl rfl Try.underlying9 rfl (by omega)) rfl ?_
        refine o_slot (show _ = Value.string (bs (s.drop (1 + 12 * (k + 1)))) from by rw [List.drop_drop] <;> (congr 3 <;> omega)) ?_
        refine o_p (p_pure rfl) rfl ?_
        refine o_nil ?_
        exact s_backI (k + 1, _, _) (by (try simp only []); omega) (by (try simp only []); omega) (by repeat (first | exact sl_n | refine sl_c rfl ?_)) (fun w h => by simp only [parF_succ]; exact h.ent (by repeat (first | exact .nil | refine .cons (by repeat (first | exact .here | apply Pick.there)) ?_)))
      · try simp only [decide_eq_true_eq, decide_eq_false_iff_not, Bool.not_eq_true', Bool.not_eq_false', Bool.and_eq_true, Bool.or_eq_true, Bool.and_eq_false_iff, Bool.or_eq_false_iff, Bool.not_true, Bool.not_false] at h4
        have hke : k = (s.getD 0 0).toNat := by have hq := h4; (try simp at hq); omega
        rw [← hke] at hsl
        refine s_exit_to rfl ?_
        refine s_seq ?_
        refine s_seq ?_
        refine s_region ?_
        refine o_p (p_pure rfl) rfl ?_
        refine o_q (q_call rfl fn_92 rfl (fun w1 h1 => x92 w1 _ _ _ (parF s k) (parF_length s k).symm (h1.fl2 (by repeat (first | exact .here | apply Pick.there)) (parF_length s k).symm) (by rw [parF_length]; omega))) rfl ?_
        refine o_p (p_pure rfl) rfl ?_
        refine o_nil ?_
        refine s_seq ?_
        refine s_region ?_
        refine o_p (p_pure rfl) rfl ?_
        refine o_p (p_pure rfl) rfl ?_
        refine o_nil ?_
        refine s_cond rfl (fun h7 => ?_) (fun h7 => ?_)
        · try simp only [decide_eq_true_eq, decide_eq_false_iff_not, Bool.not_eq_true', Bool.not_eq_false', Bool.and_eq_true, Bool.or_eq_true, Bool.and_eq_false_iff, Bool.or_eq_false_iff, Bool.not_true, Bool.not_false] at h7
          refine s_seq ?_
          refine s_region ?_
          refine o_p (p_pure rfl) rfl ?_
          refine o_p (p_pure rfl) rfl ?_
          refine o_p (p_pure rfl) rfl ?_
          refine o_nil ?_
          exact s_retv (rs := [.tmp 2, .tmp 3]) rfl (.tmp rfl (.tmp rfl (.nil))) (fun w' h' => ⟨(none, 0), by rw [fof_chk hsl hke h7]; rfl, trivial, by rw [fof_chk hsl hke h7]; exact ((h').own_nil 96 2).ent (by repeat (first | exact .nil | refine .cons (by repeat (first | exact .here | apply Pick.there)) ?_))⟩)
        · try simp only [decide_eq_true_eq, decide_eq_false_iff_not, Bool.not_eq_true', Bool.not_eq_false', Bool.and_eq_true, Bool.or_eq_true, Bool.and_eq_false_iff, Bool.or_eq_false_iff, Bool.not_true, Bool.not_false] at h7
          have hc2 := h7
          refine s_skip ?_
          refine s_seq ?_
          refine s_region ?_
          refine o_p (p_pure rfl) rfl ?_
          refine o_p (p_pure rfl) rfl ?_
          refine o_p (p_pure rfl) rfl ?_
          refine o_nil ?_
          exact s_retv (rs := [.tmp 2, .tmp 3]) rfl (.tmp rfl (.tmp rfl (.nil))) (fun w' h' => ⟨(ga, gc), by rw [fof_ok hsl hke hc2]; simp only [parF_length]; rfl, trivial, by rw [fof_ok hsl hke hc2]; simp only [parF_length]; exact h'.ent (by repeat (first | exact .nil | refine .cons (by repeat (first | exact .here | apply Pick.there)) ?_))⟩)

set_option maxRecDepth 20000 in
theorem c51 (w : World) (s : List UInt8) (hm : s.length ≤ 100000) : Calls Try.prog 51 #[.string (bs s)] w fun en w' => ∃ g : Option Addr × Nat, en = .returned (.tuple #[.slice g.1 (fofT s).1.length g.2, .int .i64 (fofT s).2]) ∧ True ∧ HS w [] [.own (.slice g.1 (fofT s).1.length g.2) 96 2 (fofT s).1.length (flatF (fofT s).1)] w' := by
  refine enter (args := [_]) Try.func51 Try.ntmps51 rfl rfl (HS.refl w []) ?_
  refine s_seq ?_
  refine s_region ?_
  refine o_p (p_pure rfl) rfl ?_
  refine o_p (p_pure rfl) rfl ?_
  refine o_nil ?_
  refine s_seq ?_
  refine s_seq ?_
  refine s_region ?_
  refine o_p (p_pure rfl) rfl ?_
  refine o_p (p_len_str rfl rfl Try.underlying9) rfl ?_
  refine o_p (p_pure rfl) rfl ?_
  refine o_nil ?_
  refine s_cond rfl (fun h1 => ?_) (fun h1 => ?_)
  · try simp only [decide_eq_true_eq, decide_eq_false_iff_not, Bool.not_eq_true', Bool.not_eq_false', Bool.and_eq_true, Bool.or_eq_true, Bool.and_eq_false_iff, Bool.or_eq_false_iff, Bool.not_true, Bool.not_false] at h1
    have hs0 : s.length = 0 := by omega
    refine s_seq ?_
    refine s_region ?_
    refine o_p (p_pure rfl) rfl ?_
    refine o_p (p_pure rfl) rfl ?_
    refine o_nil ?_
    exact s_retv (rs := [.tmp 2, .tmp 3]) rfl (.tmp rfl (.tmp rfl (.nil))) (fun w' h' => ⟨(none, 0), by rw [fof_0 hs0]; rfl, trivial, by rw [fof_0 hs0]; exact ((h').own_nil 96 2).ent (by repeat (first | exact .nil | refine .cons (by repeat (first | exact .here | apply Pick.there)) ?_))⟩)
  · try simp only [decide_eq_true_eq, decide_eq_false_iff_not, Bool.not_eq_true', Bool.not_eq_false', Bool.and_eq_true, Bool.or_eq_true, Bool.and_eq_false_iff, Bool.or_eq_false_iff, Bool.not_true, Bool.not_false] at h1
    have hs0 : ¬ s.length = 0 := by omega
    have hb0 := (s.getD 0 0).toNat_lt
    refine s_skip ?_
    refine s_seq ?_
    refine s_region ?_
    refine o_p (p_pure rfl) rfl ?_
    refine o_p (p_index_str rfl rfl rfl Try.underlying9 0 rfl (by omega)) rfl ?_
    refine o_p (p_conv_int rfl rfl ki_5 ki_3) rfl ?_
    try (refine o_slot (i64w (by omega) (by omega)) ?_)
    refine o_p (p_pure rfl) rfl ?_
    refine o_nil ?_
    refine s_seq ?_
    refine s_region ?_
    refine o_p (p_pure rfl) rfl ?_
    refine o_nil ?_
    refine s_seq ?_
    refine s_seq ?_
    refine s_region ?_
    refine o_p (p_pure rfl) rfl ?_
    refine o_p (p_len_str rfl rfl Try.underlying9) rfl ?_
    refine o_p (p_pure rfl) rfl ?_
    refine o_p (p_pure rfl) rfl ?_
    refine o_p (p_pure rfl) rfl ?_
    try (refine o_slot (i64w (by omega) (by omega)) ?_)
    refine o_p (p_pure rfl) rfl ?_
    try (refine o_slot (i64w (by omega) (by omega)) ?_)
    refine o_p (p_pure rfl) rfl ?_
    refine o_nil ?_
    refine s_cond rfl (fun h2 => ?_) (fun h2 => ?_)
    · try simp only [decide_eq_true_eq, decide_eq_false_iff_not, Bool.not_eq_true', Bool.not_eq_false', Bool.and_eq_true, Bool.or_eq_true, Bool.and_eq_false_iff, Bool.or_eq_false_iff, Bool.not_true, Bool.not_false] at h2
      refine s_seq ?_
      refine s_region ?_
      refine o_p (p_pure rfl) rfl ?_
      refine o_p (p_pure rfl) rfl ?_
      refine o_nil ?_
      exact s_retv (rs := [.tmp 2, .tmp 3]) rfl (.tmp rfl (.tmp rfl (.nil))) (fun w' h' => ⟨(none, 0), by rw [fof_lt hs0 (by omega)]; rfl, trivial, by rw [fof_lt hs0 (by omega)]; exact ((h').own_nil 96 2).ent (by repeat (first | exact .nil | refine .cons (by repeat (first | exact .here | apply Pick.there)) ?_))⟩)
    · try simp only [decide_eq_true_eq, decide_eq_false_iff_not, Bool.not_eq_true', Bool.not_eq_false', Bool.and_eq_true, Bool.or_eq_true, Bool.and_eq_false_iff, Bool.or_eq_false_iff, Bool.not_true, Bool.not_false] at h2
      refine s_skip ?_
      refine s_seq ?_
      refine s_seq ?_
      refine s_region ?_
      refine o_p (p_pure rfl) rfl ?_
      refine o_p (p_len_str rfl rfl Try.underlying9) rfl ?_
      refine o_p (p_pure rfl) rfl ?_
      refine o_p (p_pure rfl) rfl ?_
      refine o_p (p_pure rfl) rfl ?_
      try (refine o_slot (i64w (by omega) (by omega)) ?_)
      refine o_p (p_pure rfl) rfl ?_
      try (refine o_slot (i64w (by omega) (by omega)) ?_)
      refine o_p (p_pure rfl) rfl ?_
      refine o_nil ?_
      refine s_cond rfl (fun h3 => ?_) (fun h3 => ?_)
      · try simp only [decide_eq_true_eq, decide_eq_false_iff_not, Bool.not_eq_true', Bool.not_eq_false', Bool.and_eq_true, Bool.or_eq_true, Bool.and_eq_false_iff, Bool.or_eq_false_iff, Bool.not_true, Bool.not_false] at h3
        refine s_seq ?_
        refine s_region ?_
        refine o_p (p_pure rfl) rfl ?_
        refine o_p (p_pure rfl) rfl ?_
        refine o_nil ?_
        exact s_retv (rs := [.tmp 2, .tmp 3]) rfl (.tmp rfl (.tmp rfl (.nil))) (fun w' h' => ⟨(none, 0), by rw [fof_gt hs0 (by omega)]; rfl, trivial, by rw [fof_gt hs0 (by omega)]; exact ((h').own_nil 96 2).ent (by repeat (first | exact .nil | refine .cons (by repeat (first | exact .here | apply Pick.there)) ?_))⟩)
      · try simp only [decide_eq_true_eq, decide_eq_false_iff_not, Bool.not_eq_true', Bool.not_eq_false', Bool.and_eq_true, Bool.or_eq_true, Bool.and_eq_false_iff, Bool.or_eq_false_iff, Bool.not_true, Bool.not_false] at h3
        have hsl : s.length = 1 + 12 * (s.getD 0 0).toNat := by omega
        refine s_skip ?_
        refine s_seq ?_
        refine s_region ?_
        refine o_p (p_pure rfl) rfl ?_
        refine o_nil ?_
        refine s_seq ?_
        refine s_seq ?_
        refine s_region ?_
        refine o_p (p_pure rfl) rfl ?_
        refine o_nil ?_
        refine s_block ?_
        refine s_loopI (α := Nat × Option Addr × Nat) [6, 7, 8, 30, 31, 32, 33, 34, 35, 36, 37, 38, 39, 40, 41, 42, 43, 44, 45, 46, 47, 48, 49, 50, 51, 52] (fun x => [(7, .int .i64 (x.1 : Int)), (6, .slice x.2.1 x.1 x.2.2)]) (fun x => HS w [] [.own (.slice x.2.1 x.1 x.2.2) 96 2 x.1 (flatF (parF s x.1))]) (fun x => x.1 ≤ (s.getD 0 0).toNat) (fun x => (s.getD 0 0).toNat - x.1) (0, none, 0) (by simp) (by repeat (first | exact sl_n | refine sl_c rfl ?_)) (fun w h => (h.own_nil 96 2).ent (by repeat (first | exact .nil | refine .cons (by repeat (first | exact .here | apply Pick.there)) ?_))) (fun ⟨k, ga, gc⟩ hx => ?_)
        dsimp only
        simp only [] at hx
        refine s_seq ?_
        refine s_seq ?_
        refine s_region ?_
        refine o_p (p_pure rfl) rfl ?_
        refine o_p (p_pure rfl) rfl ?_
        refine o_p (p_pure rfl) rfl ?_
        refine o_nil ?_
        refine s_cond rfl (fun h4 => ?_) (fun h4 => ?_)
        · try simp only [decide_eq_true_eq, decide_eq_false_iff_not, Bool.not_eq_true', Bool.not_eq_false', Bool.and_eq_true, Bool.or_eq_true, Bool.and_eq_false_iff, Bool.or_eq_false_iff, Bool.not_true, Bool.not_false] at h4
          refine s_skip ?_
          refine s_seq ?_
          refine s_block ?_
          refine s_seq ?_
          refine s_region ?_
          refine o_p (p_pure rfl) rfl ?_
          refine o_p (p_pure rfl) rfl ?_
          refine o_p (p_pure rfl) rfl ?_
          try (refine o_slot (i64w (by omega) (by omega)) ?_)
          refine o_p (p_pure rfl) rfl ?_
          try (refine o_slot (i64w (by omega) (by omega)) ?_)
          refine o_slot (show _ = Value.int .i64 ((1 + 12 * k : Nat) : Int) from by congr 1; omega) ?_
          refine o_p (p_pure rfl) rfl ?_
          refine o_nil ?_
          refine s_draw [13] mixed ?_
          refine d_p 0 rfl (p_pure rfl) (by kernel_rfl) rfl rfl ?_
          refine d_p 1 rfl (p_pure rfl) (by kernel_rfl) rfl rfl ?_
          refine d_p 2 rfl (p_pure rfl) (by kernel_rfl) rfl rfl ?_
          refine d_q 3 [[]] rfl (q_call rfl fn_95 rfl (fun w1 h1 => c95 w1 s (1 + 12 * k) 2 (by omega) (by decide) (by omega))) (by kernel_rfl) (by kernel_rfl) (by kernel_rfl) rfl ?_
          refine d_p 4 rfl (p_pure rfl) (by kernel_rfl) rfl rfl ?_
          refine d_p 5 rfl (p_pure rfl) (by kernel_rfl) rfl rfl ?_
          refine d_p 6 rfl (p_pure rfl) (by kernel_rfl) rfl rfl ?_
          try (refine d_slot (i64w (by omega) (by omega)) ?_)
          refine d_p 7 rfl (p_pure rfl) (by kernel_rfl) rfl rfl ?_
          refine d_p 8 rfl (p_pure rfl) (by kernel_rfl) rfl rfl ?_
          refine d_p 9 rfl (p_pure rfl) (by kernel_rfl) rfl rfl ?_
          try (refine d_slot (i64w (by omega) (by omega)) ?_)
          refine d_p 10 rfl (p_slice_str _ _ (1 + 12 * k + 2) (1 + 12 * k + 12) rfl rfl Try.underlying9 ⟨_, _, rfl, (by omega)⟩ ⟨_, _, rfl, (by omega)⟩ (by omega) (by omega)) (by kernel_rfl) rfl rfl ?_
          refine d_slot (show _ = Value.string (bs ((s.drop (1 + 12 * k + 2)).take 10)) from by rw [List.drop_take, show 1 + 12 * k + 12 - (1 + 12 * k + 2) = 10 by omega]) ?_
          refine d_p 11 rfl (p_build (cs := [_, _]) rfl rfl pl_96 zr_96 rfl) (by kernel_rfl) rfl rfl ?_
          refine d_h 12 rfl (h_buildSlice (cs := [_, _]) rfl rfl sl_41 zr_96 rfl rfl rfl) (by kernel_rfl) (fun w h => h.ent (by repeat (first | exact .nil | refine .cons (by repeat (first | exact .here | apply Pick.there)) ?_))) rfl (fun b5 _ => ?_)
          refine d_base (fun w h => h.ent (by repeat (first | exact .nil | refine .cons (by repeat (first | exact .here | apply Pick.there)) ?_))) ?_
          refine d_h 13 rfl (h_appendS _ rfl rfl rfl sl_41 Try.underlying41 zr_96 rfl (by repeat (first | exact .here | apply Pick.there)) (src_blk (by repeat (first | exact .here | apply Pick.there))) rfl (by intro u hu; simp only [List.mem_cons, List.mem_nil_iff, or_false] at hu; rcases hu with rfl | rfl <;> rfl) (by omega) (by simp only [maxLen]; omega)) (by kernel_rfl) (fun w h => h.ent (by repeat (first | exact .nil | refine .cons (by repeat (first | exact .here | apply Pick.there)) ?_))) rfl (fun b6 _ => ?_)
          refine d_turn [] (by kernel_rfl) ?_
          refine d_p 14 rfl (p_pure rfl) (by kernel_rfl) rfl rfl ?_
          refine d_nil (by kernel_rfl) (fun w h => h.ent (by repeat (first | exact .nil | refine .cons (by repeat (first | exact .here | apply Pick.there)) ?_))) ?_
          refine s_blk ?_
          refine s_region ?_
          refine o_p (p_pure rfl) rfl ?_
          refine o_p (p_pure rfl) rfl ?_
          try (refine o_slot (i64w (by omega) (by omega)) ?_)
          refine o_p (p_pure rfl) rfl ?_
          refine o_nil ?_
          exact s_backI (k + 1, _, _) (by (try simp only []); omega) (by (try simp only []); omega) (by repeat (first | exact sl_n | refine sl_c rfl ?_)) (fun w h => by simp only [parF_succ]; exact h.ent (by repeat (first | exact .nil | refine .cons (by repeat (first | exact .here | apply Pick.there)) ?_)))
        · try simp only [decide_eq_true_eq, decide_eq_false_iff_not, Bool.not_eq_true', Bool.not_eq_false', Bool.and_eq_true, Bool.or_eq_true, Bool.and_eq_false_iff, Bool.or_eq_false_iff, Bool.not_true, Bool.not_false] at h4
          have hke : k = (s.getD 0 0).toNat := by omega
          rw [← hke] at hsl
          refine s_exit_to rfl ?_
          refine s_seq ?_
          refine s_seq ?_
          refine s_region ?_
          refine o_p (p_pure rfl) rfl ?_
          refine o_q (q_call rfl fn_93 rfl (fun w1 h1 => x93 w1 _ _ _ (parF s k) (parF_length s k).symm (h1.fl2 (by repeat (first | exact .here | apply Pick.there)) (parF_length s k).symm) (by rw [parF_length]; omega))) rfl ?_
          refine o_p (p_pure rfl) rfl ?_
          refine o_nil ?_
          refine s_seq ?_
          refine s_region ?_
          refine o_p (p_pure rfl) rfl ?_
          refine o_p (p_pure rfl) rfl ?_
          refine o_nil ?_
          refine s_cond rfl (fun h7 => ?_) (fun h7 => ?_)
          · try simp only [decide_eq_true_eq, decide_eq_false_iff_not, Bool.not_eq_true', Bool.not_eq_false', Bool.and_eq_true, Bool.or_eq_true, Bool.and_eq_false_iff, Bool.or_eq_false_iff, Bool.not_true, Bool.not_false] at h7
            refine s_seq ?_
            refine s_region ?_
            refine o_p (p_pure rfl) rfl ?_
            refine o_p (p_pure rfl) rfl ?_
            refine o_p (p_pure rfl) rfl ?_
            refine o_nil ?_
            exact s_retv (rs := [.tmp 2, .tmp 3]) rfl (.tmp rfl (.tmp rfl (.nil))) (fun w' h' => ⟨(none, 0), by rw [fof_chk hsl hke h7]; rfl, trivial, by rw [fof_chk hsl hke h7]; exact ((h').own_nil 96 2).ent (by repeat (first | exact .nil | refine .cons (by repeat (first | exact .here | apply Pick.there)) ?_))⟩)
          · try simp only [decide_eq_true_eq, decide_eq_false_iff_not, Bool.not_eq_true', Bool.not_eq_false', Bool.and_eq_true, Bool.or_eq_true, Bool.and_eq_false_iff, Bool.or_eq_false_iff, Bool.not_true, Bool.not_false] at h7
            have hc2 : (chkF (parF s k)).2 = 0 := by omega
            refine s_skip ?_
            refine s_seq ?_
            refine s_region ?_
            refine o_p (p_pure rfl) rfl ?_
            refine o_p (p_pure rfl) rfl ?_
            refine o_p (p_pure rfl) rfl ?_
            refine o_nil ?_
            exact s_retv (rs := [.tmp 2, .tmp 3]) rfl (.tmp rfl (.tmp rfl (.nil))) (fun w' h' => ⟨(ga, gc), by rw [fof_ok hsl hke hc2]; simp only [parF_length]; rfl, trivial, by rw [fof_ok hsl hke hc2]; simp only [parF_length]; exact h'.ent (by repeat (first | exact .nil | refine .cons (by repeat (first | exact .here | apply Pick.there)) ?_))⟩)

end Go.Proofs
