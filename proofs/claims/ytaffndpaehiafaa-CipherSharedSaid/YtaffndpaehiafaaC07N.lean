/- Contracts of the program's functions, proved by walking them with the rules of the Gx texts; without conditions beyond those that each contract names. -/
import Derived.Test.YtaffndpaehiafaaC07M
namespace Go.Proofs
open Go Go.RowKit Gx
set_option linter.unusedVariables false
set_option linter.unusedSimpArgs false
attribute [local irreducible] Go.Calls Gx.S Gx.O Gx.D Gx.OpP Gx.OpQ Gx.OpH

theorem fn_95 : isFn Try.prog 95 = true := by kernel_rfl
theorem fn_109 : isFn Try.prog 109 = true := by kernel_rfl


set_option maxRecDepth 20000 in
theorem c76 (w : World) (key : List UInt8) (n c : Int) (hk : key.length = 8) (hn : isWd n) (hc : isWd c) : Calls Try.prog 76 #[.string (bs key), .int .i64 n, .int .i64 c] w fun en w' => ∃ b : Nat, en = .returned (.slice (some ⟨b, 0, none⟩) 8 8) ∧ True ∧ HS w [] [.blk b 3 8 ((stateL key (wd n) (wd c)).map iv)] w' := by
  refine enter (args := [_, _, _]) Try.func76 Try.ntmps76 rfl rfl (HS.refl w []) ?_
  refine s_seq ?_
  refine s_region ?_
  refine o_p (p_pure rfl) rfl ?_
  refine o_nil ?_
  refine s_seq ?_
  refine s_region ?_
  refine o_p (p_pure rfl) rfl ?_
  refine o_q (q_call rfl fn_95 rfl (fun w1 h1 => c95 w1 key 0 2 (by omega) (by decide) (by omega))) rfl ?_
  refine o_slot (congrArg (fun e : Nat => Value.int .i64 (e : Int)) (kw_le key 0 (by omega))) ?_
  refine o_p (p_pure rfl) rfl ?_
  refine o_q (q_call rfl fn_95 rfl (fun w1 h1 => c95 w1 key 2 2 (by omega) (by decide) (by omega))) rfl ?_
  refine o_slot (congrArg (fun e : Nat => Value.int .i64 (e : Int)) (kw_le key 1 (by omega))) ?_
  refine o_p (p_pure rfl) rfl ?_
  refine o_q (q_call rfl fn_95 rfl (fun w1 h1 => c95 w1 key 4 2 (by omega) (by decide) (by omega))) rfl ?_
  refine o_slot (congrArg (fun e : Nat => Value.int .i64 (e : Int)) (kw_le key 2 (by omega))) ?_
  refine o_p (p_pure rfl) rfl ?_
  refine o_q (q_call rfl fn_95 rfl (fun w1 h1 => c95 w1 key 6 2 (by omega) (by decide) (by omega))) rfl ?_
  refine o_slot (congrArg (fun e : Nat => Value.int .i64 (e : Int)) (kw_le key 3 (by omega))) ?_
  refine o_p (p_pure rfl) rfl ?_
  refine o_slot (show Value.int .i64 n = iv (wd n) from by rw [iv, wd_toNat hn]) ?_
  refine o_p (p_pure rfl) rfl ?_
  refine o_slot (show Value.int .i64 c = iv (wd c) from by rw [iv, wd_toNat hc]) ?_
  refine o_h (h_buildSlice (cs := [_, _, _, _, _, _, _, _]) rfl rfl sl_115 zr_3 rfl rfl rfl) rfl (fun b1 _ => ?_)
  refine o_p (p_pure rfl) rfl ?_
  refine o_nil ?_
  exact s_retv (rs := [.tmp 6]) rfl (.tmp rfl (.nil)) (fun w' h' => ⟨_, rfl, trivial, h'.ent (by repeat (first | exact .nil | refine .cons (by repeat (first | exact .here | apply Pick.there)) ?_))⟩)

theorem x109 (w : World) (a : Option Addr) (cap : Nat) (vs : List Value) (hs : Vl w a vs) (h1 : ∀ u ∈ vs, u.oneCell' = true) (hl : vs.length = 8) : Calls Try.prog 109 #[.slice a 8 cap] w fun en w' => ∃ g : Nat × Nat, en = .returned (.slice (some ⟨g.1, 0, none⟩) 8 g.2) ∧ 8 ≤ g.2 ∧ HS w [] [.blk g.1 3 (g.2 * 1) vs] w' := by
  rw [← hl]
  refine Calls.mono (c109 w a cap vs hs h1 (by omega)) fun en w' hh => ?_
  obtain ⟨v, rfl, _, h⟩ := hh
  obtain ⟨b, cap, rfl, h1, _, _, h2⟩ := h.own_open' (by omega)
  exact ⟨(b, cap), by rw [hl], by omega, h2⟩
def rk77 (s : List UInt16) (i j k l : Nat) (q : Q4) (m : Nat) : List UInt16 := match m with
  | 0 => s
  | 1 => s.set i q.a
  | 2 => (s.set i q.a).set j q.b
  | 3 => ((s.set i q.a).set j q.b).set k q.c
  | _ => (((s.set i q.a).set j q.b).set k q.c).set l q.d
theorem rk77_length (s : List UInt16) (i j k l : Nat) (q : Q4) (m : Nat) : (rk77 s i j k l q m).length = s.length := by unfold rk77; split <;> simp

set_option maxRecDepth 20000 in
theorem c77 (w : World) (a : Option Addr) (cap : Nat) (s : List UInt16) (i j k l : Nat) (hs : Vl w a (s.map iv)) (hl : s.length = 8) (hi : i < 8) (hj : j < 8) (hk : k < 8) (hl2 : l < 8) (h12 : i ≠ j) (h13 : i ≠ k) (h14 : i ≠ l) (h23 : j ≠ k) (h24 : j ≠ l) (h34 : k ≠ l) : Calls Try.prog 77 #[.slice a 8 cap, .agg #[.int .i64 (i : Int), .int .i64 (j : Int), .int .i64 (k : Int), .int .i64 (l : Int)]] w fun en w' => ∃ g : Nat × Nat, en = .returned (.slice (some ⟨g.1, 0, none⟩) 8 g.2) ∧ 8 ≤ g.2 ∧ HS w [] [.blk g.1 3 (g.2 * 1) ((turn s i j k l).map iv)] w' := by
  refine enter (args := [_, _]) Try.func77 Try.ntmps77 rfl rfl (HS.refl w []) ?_
  refine s_seq ?_
  refine s_region ?_
  refine o_h (h_box rfl rfl) rfl (fun b1 _ => ?_)
  refine o_p (p_pure rfl) rfl ?_
  refine o_nil ?_
  refine s_seq ?_
  refine s_region ?_
  refine o_p (p_pure rfl) rfl ?_
  refine o_h (h_call rfl fn_109 rfl (fun w1 h1 => x109 w1 a cap (s.map iv) (hs.later h1) (iv_one s) (by simpa using hl))) rfl (fun gq hgq => ?_)
  refine o_p (p_pure rfl) rfl ?_
  refine o_nil ?_
  refine s_seq ?_
  refine s_draw [23] mixed ?_
  refine d_p 0 rfl (p_pure rfl) (by kernel_rfl) rfl rfl ?_
  refine d_p 1 rfl (p_indexAddr_arr rfl rfl rfl ar_22 0 rfl (by omega)) (by kernel_rfl) rfl rfl ?_
  refine d_q 2 [[]] rfl (q_load rfl rfl sz_3 (by repeat (first | exact .here | apply Pick.there)) rfl) (by kernel_rfl) (by kernel_rfl) (by kernel_rfl) rfl ?_
  first | refine d_p 3 rfl (p_indexAddr rfl rfl rfl sl_115 i rfl (by omega) rfl) (by kernel_rfl) rfl rfl ?_ | refine d_p 3 rfl (p_indexAddr rfl rfl rfl sl_115 i rfl (by omega) (hs.some (by rw [List.length_map]; omega))) (by kernel_rfl) rfl rfl ?_
  refine d_q 4 [[]] rfl (q_load_old rfl rfl sz_3 (hs.rd (getiv (s := s) (i := i) (by omega)))) (by kernel_rfl) (by kernel_rfl) (by kernel_rfl) rfl ?_
  refine d_p 5 rfl (p_pure rfl) (by kernel_rfl) rfl rfl ?_
  refine d_p 6 rfl (p_indexAddr_arr rfl rfl rfl ar_22 1 rfl (by omega)) (by kernel_rfl) rfl rfl ?_
  refine d_q 7 [[]] rfl (q_load rfl rfl sz_3 (by repeat (first | exact .here | apply Pick.there)) rfl) (by kernel_rfl) (by kernel_rfl) (by kernel_rfl) rfl ?_
  first | refine d_p 8 rfl (p_indexAddr rfl rfl rfl sl_115 j rfl (by omega) rfl) (by kernel_rfl) rfl rfl ?_ | refine d_p 8 rfl (p_indexAddr rfl rfl rfl sl_115 j rfl (by omega) (hs.some (by rw [List.length_map]; omega))) (by kernel_rfl) rfl rfl ?_
  refine d_q 9 [[]] rfl (q_load_old rfl rfl sz_3 (hs.rd (getiv (s := s) (i := j) (by omega)))) (by kernel_rfl) (by kernel_rfl) (by kernel_rfl) rfl ?_
  refine d_p 10 rfl (p_pure rfl) (by kernel_rfl) rfl rfl ?_
  refine d_p 11 rfl (p_indexAddr_arr rfl rfl rfl ar_22 2 rfl (by omega)) (by kernel_rfl) rfl rfl ?_
  refine d_q 12 [[]] rfl (q_load rfl rfl sz_3 (by repeat (first | exact .here | apply Pick.there)) rfl) (by kernel_rfl) (by kernel_rfl) (by kernel_rfl) rfl ?_
  first | refine d_p 13 rfl (p_indexAddr rfl rfl rfl sl_115 k rfl (by omega) rfl) (by kernel_rfl) rfl rfl ?_ | refine d_p 13 rfl (p_indexAddr rfl rfl rfl sl_115 k rfl (by omega) (hs.some (by rw [List.length_map]; omega))) (by kernel_rfl) rfl rfl ?_
  refine d_q 14 [[]] rfl (q_load_old rfl rfl sz_3 (hs.rd (getiv (s := s) (i := k) (by omega)))) (by kernel_rfl) (by kernel_rfl) (by kernel_rfl) rfl ?_
  refine d_p 15 rfl (p_pure rfl) (by kernel_rfl) rfl rfl ?_
  refine d_p 16 rfl (p_indexAddr_arr rfl rfl rfl ar_22 3 rfl (by omega)) (by kernel_rfl) rfl rfl ?_
  refine d_q 17 [[]] rfl (q_load rfl rfl sz_3 (by repeat (first | exact .here | apply Pick.there)) rfl) (by kernel_rfl) (by kernel_rfl) (by kernel_rfl) rfl ?_
  first | refine d_p 18 rfl (p_indexAddr rfl rfl rfl sl_115 l rfl (by omega) rfl) (by kernel_rfl) rfl rfl ?_ | refine d_p 18 rfl (p_indexAddr rfl rfl rfl sl_115 l rfl (by omega) (hs.some (by rw [List.length_map]; omega))) (by kernel_rfl) rfl rfl ?_
  refine d_q 19 [[]] rfl (q_load_old rfl rfl sz_3 (hs.rd (getiv (s := s) (i := l) (by omega)))) (by kernel_rfl) (by kernel_rfl) (by kernel_rfl) rfl ?_
  refine d_p 20 rfl (p_build_arr (cs := [_, _, _, _]) rfl rfl ar_22 zr_22 rfl) (by kernel_rfl) rfl rfl ?_
  refine d_q 21 [[]] rfl (q_call rfl fn_15 rfl (fun w1 h1 => c15 w1 ⟨s.getD i 0, s.getD j 0, s.getD k 0, s.getD l 0⟩)) (by kernel_rfl) (by kernel_rfl) (by kernel_rfl) rfl ?_
  refine d_h 22 rfl (h_alloc rfl zr_22) (by kernel_rfl) (fun w h => h.ent (by repeat (first | exact .nil | refine .cons (by repeat (first | exact .here | apply Pick.there)) ?_))) rfl (fun b2 _ => ?_)
  refine d_base (fun w h => h.ent (by repeat (first | exact .nil | refine .cons (by repeat (first | exact .here | apply Pick.there)) ?_))) ?_
  refine d_h0 23 rfl (h_store rfl rfl rfl sz_22 rfl (by repeat (first | exact .here | apply Put.there)) (by simp) rfl) (by kernel_rfl) (fun w h => h.ent (by repeat (first | exact .nil | refine .cons (by repeat (first | exact .here | apply Pick.there)) ?_))) (fun _ _ => ?_)
  refine d_turn [] (by kernel_rfl) ?_
  refine d_nil (by kernel_rfl) (fun w h => h.ent (by repeat (first | exact .nil | refine .cons (by repeat (first | exact .here | apply Pick.there)) ?_))) ?_
  refine s_seq ?_
  refine s_seq ?_
  refine s_region ?_
  refine o_p (p_pure rfl) rfl ?_
  refine o_nil ?_
  refine s_block ?_
  refine s_loopI (α := Nat) [7, 32, 33, 34, 35, 36, 37, 38, 39, 40, 41, 42, 43] (fun m => [(7, .int .i64 (m : Int))]) (fun m => HS w [] [.blk gq.1 3 (gq.2 * 1) ((rk77 s i j k l (quarter4 ⟨s.getD i 0, s.getD j 0, s.getD k 0, s.getD l 0⟩) m).map iv), .blk b2 22 4 [iv (quarter4 ⟨s.getD i 0, s.getD j 0, s.getD k 0, s.getD l 0⟩).a, iv (quarter4 ⟨s.getD i 0, s.getD j 0, s.getD k 0, s.getD l 0⟩).b, iv (quarter4 ⟨s.getD i 0, s.getD j 0, s.getD k 0, s.getD l 0⟩).c, iv (quarter4 ⟨s.getD i 0, s.getD j 0, s.getD k 0, s.getD l 0⟩).d], .blk b1 22 4 [.int .i64 (i : Int), .int .i64 (j : Int), .int .i64 (k : Int), .int .i64 (l : Int)]]) (fun m => m ≤ 4) (fun m => 4 - m) 0 (by omega) (by repeat (first | exact sl_n | refine sl_c rfl ?_)) (fun w h => h.ent (by repeat (first | exact .nil | refine .cons (by repeat (first | exact .here | apply Pick.there)) ?_))) (fun m hm => ?_)
  rcases m with _ | _ | _ | _ | _ | m
  · skip
    refine s_seq ?_
    refine s_seq ?_
    refine s_region ?_
    refine o_p (p_pure rfl) rfl ?_
    refine o_p (p_pure rfl) rfl ?_
    refine o_nil ?_
    refine s_cond rfl (fun h3 => ?_) (fun h3 => ?_)
    · try simp only [decide_eq_true_eq, decide_eq_false_iff_not, Bool.not_eq_true', Bool.not_eq_false', Bool.and_eq_true, Bool.or_eq_true, Bool.and_eq_false_iff, Bool.or_eq_false_iff, Bool.not_true, Bool.not_false] at h3
      refine s_skip ?_
      refine s_seq ?_
      refine s_block ?_
      refine s_draw [8] mixed ?_
      refine d_p 0 rfl (p_pure rfl) (by kernel_rfl) rfl rfl ?_
      refine d_p 1 rfl (p_pure rfl) (by kernel_rfl) rfl rfl ?_
      refine d_p 2 rfl (p_indexAddr_arr rfl rfl rfl ar_22 0 rfl (by omega)) (by kernel_rfl) rfl rfl ?_
      refine d_q 3 [[]] rfl (q_load rfl rfl sz_3 (by repeat (first | exact .here | apply Pick.there)) rfl) (by kernel_rfl) (by kernel_rfl) (by kernel_rfl) rfl ?_
      refine d_p 4 rfl (p_pure rfl) (by kernel_rfl) rfl rfl ?_
      refine d_p 5 rfl (p_indexAddr_arr rfl rfl rfl ar_22 0 rfl (by omega)) (by kernel_rfl) rfl rfl ?_
      refine d_q 6 [[]] rfl (q_load rfl rfl sz_3 (by repeat (first | exact .here | apply Pick.there)) rfl) (by kernel_rfl) (by kernel_rfl) (by kernel_rfl) rfl ?_
      first | refine d_p 7 rfl (p_indexAddr rfl rfl rfl sl_115 i rfl (by omega) rfl) (by kernel_rfl) rfl rfl ?_ | refine d_p 7 rfl (p_indexAddr rfl rfl rfl sl_115 i rfl (by omega) (hs.some (by rw [List.length_map]; omega))) (by kernel_rfl) rfl rfl ?_
      refine d_h0 8 rfl (h_store rfl rfl rfl sz_3 rfl (by repeat (first | exact .here | apply Put.there)) (by simp only [List.length_map, rk77_length]; omega) rfl) (by kernel_rfl) (fun w h => h.ent (by repeat (first | exact .nil | refine .cons (by repeat (first | exact .here | apply Pick.there)) ?_))) (fun _ _ => ?_)
      refine d_turn [] (by kernel_rfl) ?_
      refine d_nil (by kernel_rfl) (fun w h => h.ent (by repeat (first | exact .nil | refine .cons (by repeat (first | exact .here | apply Pick.there)) ?_))) ?_
      refine s_blk ?_
      refine s_region ?_
      refine o_p (p_pure rfl) rfl ?_
      refine o_p (p_pure rfl) rfl ?_
      try (refine o_slot (i64w (by omega) (by omega)) ?_)
      refine o_p (p_pure rfl) rfl ?_
      refine o_nil ?_
      exact s_backI 1 (by omega) (by omega) (by repeat (first | exact sl_n | refine sl_c rfl ?_)) (fun w h => by have e : ((rk77 s i j k l (quarter4 ⟨s.getD i 0, s.getD j 0, s.getD k 0, s.getD l 0⟩) 0).set i ((quarter4 ⟨s.getD i 0, s.getD j 0, s.getD k 0, s.getD l 0⟩)).a).map iv = (rk77 s i j k l (quarter4 ⟨s.getD i 0, s.getD j 0, s.getD k 0, s.getD l 0⟩) 1).map iv := rfl; rw [List.map_set] at e; rw [← e]; rw [show setMany ((rk77 s i j k l (quarter4 ⟨s.getD i 0, s.getD j 0, s.getD k 0, s.getD l 0⟩) 0).map iv) (0 + i * 1) (iv ((quarter4 ⟨s.getD i 0, s.getD j 0, s.getD k 0, s.getD l 0⟩)).a).cells.toList = ((rk77 s i j k l (quarter4 ⟨s.getD i 0, s.getD j 0, s.getD k 0, s.getD l 0⟩) 0).map iv).set i (iv ((quarter4 ⟨s.getD i 0, s.getD j 0, s.getD k 0, s.getD l 0⟩)).a) by rw [Nat.zero_add, Nat.mul_one]; rfl] at h; exact h.ent (by repeat (first | exact .nil | refine .cons (by repeat (first | exact .here | apply Pick.there)) ?_)))
    · try simp only [decide_eq_true_eq, decide_eq_false_iff_not, Bool.not_eq_true', Bool.not_eq_false', Bool.and_eq_true, Bool.or_eq_true, Bool.and_eq_false_iff, Bool.or_eq_false_iff, Bool.not_true, Bool.not_false] at h3
      exfalso; first | omega | (simp at h3; done) | (simp_all; done)
  · skip
    refine s_seq ?_
    refine s_seq ?_
    refine s_region ?_
    refine o_p (p_pure rfl) rfl ?_
    refine o_p (p_pure rfl) rfl ?_
    refine o_nil ?_
    refine s_cond rfl (fun h4 => ?_) (fun h4 => ?_)
    · try simp only [decide_eq_true_eq, decide_eq_false_iff_not, Bool.not_eq_true', Bool.not_eq_false', Bool.and_eq_true, Bool.or_eq_true, Bool.and_eq_false_iff, Bool.or_eq_false_iff, Bool.not_true, Bool.not_false] at h4
      refine s_skip ?_
      refine s_seq ?_
      refine s_block ?_
      refine s_draw [8] mixed ?_
      refine d_p 0 rfl (p_pure rfl) (by kernel_rfl) rfl rfl ?_
      refine d_p 1 rfl (p_pure rfl) (by kernel_rfl) rfl rfl ?_
      refine d_p 2 rfl (p_indexAddr_arr rfl rfl rfl ar_22 1 rfl (by omega)) (by kernel_rfl) rfl rfl ?_
      refine d_q 3 [[]] rfl (q_load rfl rfl sz_3 (by repeat (first | exact .here | apply Pick.there)) rfl) (by kernel_rfl) (by kernel_rfl) (by kernel_rfl) rfl ?_
      refine d_p 4 rfl (p_pure rfl) (by kernel_rfl) rfl rfl ?_
      refine d_p 5 rfl (p_indexAddr_arr rfl rfl rfl ar_22 1 rfl (by omega)) (by kernel_rfl) rfl rfl ?_
      refine d_q 6 [[]] rfl (q_load rfl rfl sz_3 (by repeat (first | exact .here | apply Pick.there)) rfl) (by kernel_rfl) (by kernel_rfl) (by kernel_rfl) rfl ?_
      first | refine d_p 7 rfl (p_indexAddr rfl rfl rfl sl_115 j rfl (by omega) rfl) (by kernel_rfl) rfl rfl ?_ | refine d_p 7 rfl (p_indexAddr rfl rfl rfl sl_115 j rfl (by omega) (hs.some (by rw [List.length_map]; omega))) (by kernel_rfl) rfl rfl ?_
      refine d_h0 8 rfl (h_store rfl rfl rfl sz_3 rfl (by repeat (first | exact .here | apply Put.there)) (by simp only [List.length_map, rk77_length]; omega) rfl) (by kernel_rfl) (fun w h => h.ent (by repeat (first | exact .nil | refine .cons (by repeat (first | exact .here | apply Pick.there)) ?_))) (fun _ _ => ?_)
      refine d_turn [] (by kernel_rfl) ?_
      refine d_nil (by kernel_rfl) (fun w h => h.ent (by repeat (first | exact .nil | refine .cons (by repeat (first | exact .here | apply Pick.there)) ?_))) ?_
      refine s_blk ?_
      refine s_region ?_
      refine o_p (p_pure rfl) rfl ?_
      refine o_p (p_pure rfl) rfl ?_
      try (refine o_slot (i64w (by omega) (by omega)) ?_)
      refine o_p (p_pure rfl) rfl ?_
      refine o_nil ?_
      exact s_backI 2 (by omega) (by omega) (by repeat (first | exact sl_n | refine sl_c rfl ?_)) (fun w h => by have e : ((rk77 s i j k l (quarter4 ⟨s.getD i 0, s.getD j 0, s.getD k 0, s.getD l 0⟩) 1).set j ((quarter4 ⟨s.getD i 0, s.getD j 0, s.getD k 0, s.getD l 0⟩)).b).map iv = (rk77 s i j k l (quarter4 ⟨s.getD i 0, s.getD j 0, s.getD k 0, s.getD l 0⟩) 2).map iv := rfl; rw [List.map_set] at e; rw [← e]; rw [show setMany ((rk77 s i j k l (quarter4 ⟨s.getD i 0, s.getD j 0, s.getD k 0, s.getD l 0⟩) 1).map iv) (0 + j * 1) (iv ((quarter4 ⟨s.getD i 0, s.getD j 0, s.getD k 0, s.getD l 0⟩)).b).cells.toList = ((rk77 s i j k l (quarter4 ⟨s.getD i 0, s.getD j 0, s.getD k 0, s.getD l 0⟩) 1).map iv).set j (iv ((quarter4 ⟨s.getD i 0, s.getD j 0, s.getD k 0, s.getD l 0⟩)).b) by rw [Nat.zero_add, Nat.mul_one]; rfl] at h; exact h.ent (by repeat (first | exact .nil | refine .cons (by repeat (first | exact .here | apply Pick.there)) ?_)))
    · try simp only [decide_eq_true_eq, decide_eq_false_iff_not, Bool.not_eq_true', Bool.not_eq_false', Bool.and_eq_true, Bool.or_eq_true, Bool.and_eq_false_iff, Bool.or_eq_false_iff, Bool.not_true, Bool.not_false] at h4
      exfalso; first | omega | (simp at h4; done) | (simp_all; done)
  · skip
    refine s_seq ?_
    refine s_seq ?_
    refine s_region ?_
    refine o_p (p_pure rfl) rfl ?_
    refine o_p (p_pure rfl) rfl ?_
    refine o_nil ?_
    refine s_cond rfl (fun h5 => ?_) (fun h5 => ?_)
    · try simp only [decide_eq_true_eq, decide_eq_false_iff_not, Bool.not_eq_true', Bool.not_eq_false', Bool.and_eq_true, Bool.or_eq_true, Bool.and_eq_false_iff, Bool.or_eq_false_iff, Bool.not_true, Bool.not_false] at h5
      refine s_skip ?_
      refine s_seq ?_
      refine s_block ?_
      refine s_draw [8] mixed ?_
      refine d_p 0 rfl (p_pure rfl) (by kernel_rfl) rfl rfl ?_
      refine d_p 1 rfl (p_pure rfl) (by kernel_rfl) rfl rfl ?_
      refine d_p 2 rfl (p_indexAddr_arr rfl rfl rfl ar_22 2 rfl (by omega)) (by kernel_rfl) rfl rfl ?_
      refine d_q 3 [[]] rfl (q_load rfl rfl sz_3 (by repeat (first | exact .here | apply Pick.there)) rfl) (by kernel_rfl) (by kernel_rfl) (by kernel_rfl) rfl ?_
      refine d_p 4 rfl (p_pure rfl) (by kernel_rfl) rfl rfl ?_
      refine d_p 5 rfl (p_indexAddr_arr rfl rfl rfl ar_22 2 rfl (by omega)) (by kernel_rfl) rfl rfl ?_
      refine d_q 6 [[]] rfl (q_load rfl rfl sz_3 (by repeat (first | exact .here | apply Pick.there)) rfl) (by kernel_rfl) (by kernel_rfl) (by kernel_rfl) rfl ?_
      first | refine d_p 7 rfl (p_indexAddr rfl rfl rfl sl_115 k rfl (by omega) rfl) (by kernel_rfl) rfl rfl ?_ | refine d_p 7 rfl (p_indexAddr rfl rfl rfl sl_115 k rfl (by omega) (hs.some (by rw [List.length_map]; omega))) (by kernel_rfl) rfl rfl ?_
      refine d_h0 8 rfl (h_store rfl rfl rfl sz_3 rfl (by repeat (first | exact .here | apply Put.there)) (by simp only [List.length_map, rk77_length]; omega) rfl) (by kernel_rfl) (fun w h => h.ent (by repeat (first | exact .nil | refine .cons (by repeat (first | exact .here | apply Pick.there)) ?_))) (fun _ _ => ?_)
      refine d_turn [] (by kernel_rfl) ?_
      refine d_nil (by kernel_rfl) (fun w h => h.ent (by repeat (first | exact .nil | refine .cons (by repeat (first | exact .here | apply Pick.there)) ?_))) ?_
      refine s_blk ?_
      refine s_region ?_
      refine o_p (p_pure rfl) rfl ?_
      refine o_p (p_pure rfl) rfl ?_
      try (refine o_slot (i64w (by omega) (by omega)) ?_)
      refine o_p (p_pure rfl) rfl ?_
      refine o_nil ?_
      exact s_backI 3 (by omega) (by omega) (by repeat (first | exact sl_n | refine sl_c rfl ?_)) (fun w h => by have e : ((rk77 s i j k l (quarter4 ⟨s.getD i 0, s.getD j 0, s.getD k 0, s.getD l 0⟩) 2).set k ((quarter4 ⟨s.getD i 0, s.getD j 0, s.getD k 0, s.getD l 0⟩)).c).map iv = (rk77 s i j k l (quarter4 ⟨s.getD i 0, s.getD j 0, s.getD k 0, s.getD l 0⟩) 3).map iv := rfl; rw [List.map_set] at e; rw [← e]; rw [show setMany ((rk77 s i j k l (quarter4 ⟨s.getD i 0, s.getD j 0, s.getD k 0, s.getD l 0⟩) 2).map iv) (0 + k * 1) (iv ((quarter4 ⟨s.getD i 0, s.getD j 0, s.getD k 0, s.getD l 0⟩)).c).cells.toList = ((rk77 s i j k l (quarter4 ⟨s.getD i 0, s.getD j 0, s.getD k 0, s.getD l 0⟩) 2).map iv).set k (iv ((quarter4 ⟨s.getD i 0, s.getD j 0, s.getD k 0, s.getD l 0⟩)).c) by rw [Nat.zero_add, Nat.mul_one]; rfl] at h; exact h.ent (by repeat (first | exact .nil | refine .cons (by repeat (first | exact .here | apply Pick.there)) ?_)))
    · try simp only [decide_eq_true_eq, decide_eq_false_iff_not, Bool.not_eq_true', Bool.not_eq_false', Bool.and_eq_true, Bool.or_eq_true, Bool.and_eq_false_iff, Bool.or_eq_false_iff, Bool.not_true, Bool.not_false] at h5
      exfalso; first | omega | (simp at h5; done) | (simp_all; done)
  · skip
    refine s_seq ?_
    refine s_seq ?_
    refine s_region ?_
    refine o_p (p_pure rfl) rfl ?_
    refine o_p (p_pure rfl) rfl ?_
    refine o_nil ?_
    refine s_cond rfl (fun h6 => ?_) (fun h6 => ?_)
    · try simp only [decide_eq_true_eq, decide_eq_false_iff_not, Bool.not_eq_true', Bool.not_eq_false', Bool.and_eq_true, Bool.or_eq_true, Bool.and_eq_false_iff, Bool.or_eq_false_iff, Bool.not_true, Bool.not_false] at h6
      refine s_skip ?_
      refine s_seq ?_
      refine s_block ?_
      refine s_draw [8] mixed ?_
      refine d_p 0 rfl (p_pure rfl) (by kernel_rfl) rfl rfl ?_
      refine d_p 1 rfl (p_pure rfl) (by kernel_rfl) rfl rfl ?_
      refine d_p 2 rfl (p_indexAddr_arr rfl rfl rfl ar_22 3 rfl (by omega)) (by kernel_rfl) rfl rfl ?_
      refine d_q 3 [[]] rfl (q_load rfl rfl sz_3 (by repeat (first | exact .here | apply Pick.there)) rfl) (by kernel_rfl) (by kernel_rfl) (by kernel_rfl) rfl ?_
      refine d_p 4 rfl (p_pure rfl) (by kernel_rfl) rfl rfl ?_
      refine d_p 5 rfl (p_indexAddr_arr rfl rfl rfl ar_22 3 rfl (by omega)) (by kernel_rfl) rfl rfl ?_
      refine d_q 6 [[]] rfl (q_load rfl rfl sz_3 (by repeat (first | exact .here | apply Pick.there)) rfl) (by kernel_rfl) (by kernel_rfl) (by kernel_rfl) rfl ?_
      first | refine d_p 7 rfl (p_indexAddr rfl rfl rfl sl_115 l rfl (by omega) rfl) (by kernel_rfl) rfl rfl ?_ | refine d_p 7 rfl (p_indexAddr rfl rfl rfl sl_115 l rfl (by omega) (hs.some (by rw [List.length_map]; omega))) (by kernel_rfl) rfl rfl ?_
      refine d_h0 8 rfl (h_store rfl rfl rfl sz_3 rfl (by repeat (first | exact .here | apply Put.there)) (by simp only [List.length_map, rk77_length]; omega) rfl) (by kernel_rfl) (fun w h => h.ent (by repeat (first | exact .nil | refine .cons (by repeat (first | exact .here | apply Pick.there)) ?_))) (fun _ _ => ?_)
      refine d_turn [] (by kernel_rfl) ?_
      refine d_nil (by kernel_rfl) (fun w h => h.ent (by repeat (first | exact .nil | refine .cons (by repeat (first | exact .here | apply Pick.there)) ?_))) ?_
      refine s_blk ?_
      refine s_region ?_
      refine o_p (p_pure rfl) rfl ?_
      refine o_p (p_pure rfl) rfl ?_
      try (refine o_slot (i64w (by omega) (by omega)) ?_)
      refine o_p (p_pure rfl) rfl ?_
      refine o_nil ?_
      exact s_backI 4 (by omega) (by omega) (by repeat (first | exact sl_n | refine sl_c rfl ?_)) (fun w h => by have e : ((rk77 s i j k l (quarter4 ⟨s.getD i 0, s.getD j 0, s.getD k 0, s.getD l 0⟩) 3).set l ((quarter4 ⟨s.getD i 0, s.getD j 0, s.getD k 0, s.getD l 0⟩)).d).map iv = (rk77 s i j k l (quarter4 ⟨s.getD i 0, s.getD j 0, s.getD k 0, s.getD l 0⟩) 4).map iv := rfl; rw [List.map_set] at e; rw [← e]; rw [show setMany ((rk77 s i j k l (quarter4 ⟨s.getD i 0, s.getD j 0, s.getD k 0, s.getD l 0⟩) 3).map iv) (0 + l * 1) (iv ((quarter4 ⟨s.getD i 0, s.getD j 0, s.getD k 0, s.getD l 0⟩)).d).cells.toList = ((rk77 s i j k l (quarter4 ⟨s.getD i 0, s.getD j 0, s.getD k 0, s.getD l 0⟩) 3).map iv).set l (iv ((quarter4 ⟨s.getD i 0, s.getD j 0, s.getD k 0, s.getD l 0⟩)).d) by rw [Nat.zero_add, Nat.mul_one]; rfl] at h; exact h.ent (by repeat (first | exact .nil | refine .cons (by repeat (first | exact .here | apply Pick.there)) ?_)))
    · try simp only [decide_eq_true_eq, decide_eq_false_iff_not, Bool.not_eq_true', Bool.not_eq_false', Bool.and_eq_true, Bool.or_eq_true, Bool.and_eq_false_iff, Bool.or_eq_false_iff, Bool.not_true, Bool.not_false] at h6
      exfalso; first | omega | (simp at h6; done) | (simp_all; done)
  · skip
    refine s_seq ?_
    refine s_seq ?_
    refine s_region ?_
    refine o_p (p_pure rfl) rfl ?_
    refine o_p (p_pure rfl) rfl ?_
    refine o_nil ?_
    refine s_cond rfl (fun h7 => ?_) (fun h7 => ?_)
    · try simp only [decide_eq_true_eq, decide_eq_false_iff_not, Bool.not_eq_true', Bool.not_eq_false', Bool.and_eq_true, Bool.or_eq_true, Bool.and_eq_false_iff, Bool.or_eq_false_iff, Bool.not_true, Bool.not_false] at h7
      exfalso; first | omega | (simp at h7; done) | (simp_all; done)
    · try simp only [decide_eq_true_eq, decide_eq_false_iff_not, Bool.not_eq_true', Bool.not_eq_false', Bool.and_eq_true, Bool.or_eq_true, Bool.and_eq_false_iff, Bool.or_eq_false_iff, Bool.not_true, Bool.not_false] at h7
      refine s_exit_to rfl ?_
      refine s_seq ?_
      refine s_region ?_
      refine o_p (p_pure rfl) rfl ?_
      refine o_p (p_pure rfl) rfl ?_
      refine o_nil ?_
      exact s_retv (rs := [.tmp 4]) rfl (.tmp rfl (.nil)) (fun w' h' => ⟨gq, rfl, hgq, by rw [← turn_seq s h12 h13 h14 h23 h24 h34 _ rfl]; exact h'.ent (by repeat (first | exact .nil | refine .cons (by repeat (first | exact .here | apply Pick.there)) ?_))⟩)
  · exfalso; omega

end Go.Proofs
