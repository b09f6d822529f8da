/- Contracts of the program's functions, proved by walking them with the rules of the Gx texts; without conditions beyond those that each contract names. -/
import Derived.WalkKit
import Derived.Deep.Draws
import Derived.TacticsIn
import Derived.OrdersIn
import Derived.RangeFuncLeaves
import Derived.Lib.Strings
import Derived.Laws.BytesArg
import Derived.Laws.IdiomStrings
import Derived.Deep.Quiet
import Derived.ProofKit
import Derived.OpenShut
import Derived.Laws.StructEq
import Derived.ChangeKeysEq
import Derived.Laws.Externs
import Derived.Lib.Overlaps
import Derived.Carry
import Derived.Laws.Small
import Derived.Lib.Bytealg
import Derived.Test.YtfappgmkbnddiaaGreatProg
import Derived.KernelRfl
import Derived.Lib.Builder
import Derived.Laws.Pointers
import Derived.RangeFuncRecord
import Derived.Test.YtfappgmkbnddiaaGreatP4
namespace Go.Proofs
open Go Go.RowKit Gx
set_option linter.unusedVariables false
set_option linter.unusedSimpArgs false
attribute [local irreducible] Go.Calls Gx.S Gx.O Gx.D Gx.OpP Gx.OpQ Gx.OpH

theorem fn_15 : isFn Tryz.prog 15 = true := by kernel_rfl
theorem fn_43 : isFn Tryz.prog 43 = true := by kernel_rfl


set_option maxRecDepth 20000 in
theorem c15 (w : World) (x : TEnt) : Calls Tryz.prog 15 #[.agg #[.string (bs x.key), .string (bs x.val)]] w fun en w' => en = .returned (.bool (tslimB x)) ∧ Below w.heap.size w w' := by
  refine enter (args := [_]) Tryz.func15 Tryz.ntmps15 rfl rfl (HS.refl w []) ?_
  refine s_seq ?_
  refine s_region ?_
  refine o_h (h_box rfl rfl) rfl (fun b1 _ => ?_)
  refine oP ?_
  refine o_nil ?_
  refine s_seq ?_
  refine s_region ?_
  refine o_p (p_fieldAddr rfl rfl fd_26_0 sz_9 rfl) rfl ?_
  refine o_q (q_load rfl rfl sz_9 aPk rfl) rfl ?_
  refine o_p (p_len_str rfl rfl Tryz.underlying9) rfl ?_
  refine oP ?_
  refine oP ?_
  refine o_and 5 7 12 _ _ rfl
    (by
      intro hg2
      have hs3 := hg2; try simp only [decide_eq_true_eq] at hs3
      refine o_on 7 _ rfl rfl hg2 ?_
      refine o_p (p_fieldAddr rfl rfl fd_26_1 sz_9 rfl) rfl ?_
      refine o_on 7 _ rfl rfl hg2 ?_
      refine o_q (q_load rfl rfl sz_9 aPk rfl) rfl ?_
      refine o_on 7 _ rfl rfl hg2 ?_
      refine o_p (p_len_str rfl rfl Tryz.underlying9) rfl ?_
      refine o_on 7 _ rfl rfl hg2 ?_
      refine oP ?_
      refine o_p (p_pickt rfl rfl hg2 rfl) rfl ?_
      refine o_nil ?_
      exact s_joinN 5 12 _ rfl rfl rfl (fun w h => by first | exact h | exact h.ent aEt))
    (by
      intro hg4
      have hs5 := hg4; try simp only [decide_eq_false_iff_not] at hs5
      refine o_off 7 _ rfl rfl hg4 rfl ?_
      refine o_off 7 _ rfl rfl hg4 rfl ?_
      refine o_off 7 _ rfl rfl hg4 rfl ?_
      refine o_off 7 _ rfl rfl hg4 rfl ?_
      refine o_p (p_pickf rfl rfl hg4 rfl) rfl ?_
      refine o_nil ?_
      exact s_joinN 5 12 _ rfl rfl rfl (fun w h => by first | exact h | exact h.ent aEt)) ?_
  refine oP ?_
  refine o_nil ?_
  exact s_retv (rs := [.tmp 2]) rfl (.tmp rfl (.nil)) (fun w' h' => ⟨by simp only [retV, tslimB, Bool.decide_and]; congr 3 <;> exact decide_eq_decide.2 (by omega), h'.below⟩)

set_option maxRecDepth 20000 in
theorem c43 (w : World) (a : Option Addr) (cap : Nat) (l : List TEnt) (hs : Rw TEnt.vals 2 w [] a l) (hl : l.length ≤ 1000) : Calls Tryz.prog 43 #[.slice a l.length cap] w fun en w' => en = .returned (.bool (tshortB l)) ∧ Below w.heap.size w w' := by
  refine enter (args := [_]) Tryz.func43 Tryz.ntmps43 rfl rfl (HS.refl w []) ?_
  refine s_seq ?_
  refine s_region ?_
  refine oP ?_
  refine o_nil ?_
  refine s_seq ?_
  refine s_seq ?_
  refine s_region ?_
  refine oP ?_
  refine o_nil ?_
  refine s_block ?_
  refine s_loopI (α := Nat) [2, 3, 4, 5, 6, 7, 8, 9, 10, 11, 12, 13, 14, 15] (fun k => [(3, .int .i64 (k : Int))]) (fun _ => HS w [] []) (fun k => k ≤ l.length ∧ ∀ q, q < k → tslimB (nth l q) = true) (fun k => l.length - k) 0 ⟨Nat.zero_le _, fun q h => absurd h (Nat.not_lt_zero q)⟩ aSx (fun w h => h.ent aEt) (fun k hx => ?_)
  obtain ⟨hk1, hk3⟩ := hx
  refine s_seq ?_
  refine s_seq ?_
  refine s_region ?_
  refine oP ?_
  refine oP ?_
  refine o_p (p_len_slice rfl rfl Tryz.underlying77) rfl ?_
  refine oP ?_
  refine o_nil ?_
  refine s_cond rfl (fun h1 => ?_) (fun h1 => ?_)
  · try simp only [decide_eq_true_eq] at h1
    have hk5 : k < l.length := by omega
    refine s_skip ?_
    refine s_seq ?_
    refine s_block ?_
    refine s_seq ?_
    refine s_region ?_
    refine oP ?_
    refine oP ?_
    refine o_p (p_indexAddr rfl rfl rfl sl_77 (k) (by omega) (by omega) (Rw.some hs (by omega))) rfl ?_
    refine o_q (q_load_oldn _ rfl rfl sz_26 rfl (Rw.rd hs hk5)) rfl ?_
    refine o_q (q_call rfl fn_15 rfl (fun w1 h1 => c15 w1 (nth l k))) rfl ?_
    refine oP ?_
    refine o_nil ?_
    refine s_cond rfl (fun h2 => ?_) (fun h2 => ?_)
    · try simp only [Bool.not_eq_true'] at h2
      have hz1 : ¬ tslimB (nth l k) = true := by have hq := h2; simp [hq]
      have hbad := tshortB_f hk5 hz1
      refine s_seq ?_
      refine s_region ?_
      refine oP ?_
      refine o_nil ?_
      exact s_retv (rs := [.tmp 2]) rfl (.tmp rfl (.nil)) (fun w' h' => ⟨by rw [hbad]; rfl, h'.below⟩)
    · try simp only [Bool.not_eq_false'] at h2
      have hz1 : tslimB (nth l k) = true := by have hq := h2; simpa using hq
      refine s_skip ?_
      refine s_blk ?_
      refine s_region ?_
      refine oP ?_
      refine oP ?_
      try (refine o_slot (i64w (by omega) (by omega)) ?_)
      refine oP ?_
      refine o_nil ?_
      exact s_backI (k + 1) (by omega) ⟨by omega, fun q hq => (Nat.lt_or_ge q k).elim (hk3 q) (fun h9 => by obtain rfl : q = k := (by omega); exact hz1)⟩ aSx (fun w h => h.ent aEt)
  · try simp only [decide_eq_false_iff_not] at h1
    have hall := tshortB_t (es := l) (fun q hq => hk3 q (by omega))
    refine s_exit_to rfl ?_
    refine s_seq ?_
    refine s_region ?_
    refine oP ?_
    refine o_nil ?_
    exact s_retv (rs := [.tmp 2]) rfl (.tmp rfl (.nil)) (fun w' h' => ⟨by rw [hall]; rfl, h'.below⟩)

set_option maxRecDepth 20000 in
theorem c14 (w : World) (co mo rm : Int) (a : Option Addr) (cap : Nat) (L : List LNd) (hs : Nt w [] a L) : Calls Tryz.prog 14 #[.agg #[.int .i64 co, .int .i64 mo, .int .i64 rm, .slice a L.length cap]] w fun en w' => en = .returned (.bool (tfewB (pln L))) ∧ Below w.heap.size w w' := by
  have hnl : (pln L).length = L.length := pln_len L
  refine enter (args := [_]) Tryz.func14 Tryz.ntmps14 rfl rfl (HS.refl w []) ?_
  refine s_seq ?_
  refine s_region ?_
  refine o_h (h_box rfl rfl) rfl (fun b1 _ => ?_)
  refine oP ?_
  refine o_nil ?_
  refine s_seq ?_
  refine s_seq ?_
  refine s_region ?_
  refine o_p (p_fieldAddr rfl rfl fd_24_3 sz_22 rfl) rfl ?_
  refine o_q (q_load rfl rfl sz_22 aPk rfl) rfl ?_
  refine o_p (p_len_slice rfl rfl Tryz.underlying22) rfl ?_
  refine oP ?_
  refine oP ?_
  refine o_and 5 8 13 _ _ rfl
    (by
      intro hg2
      have hs3 := hg2; try simp only [decide_eq_true_eq] at hs3
      refine o_on 8 _ rfl rfl hg2 ?_
      refine o_p (p_fieldAddr rfl rfl fd_24_3 sz_22 rfl) rfl ?_
      refine o_on 8 _ rfl rfl hg2 ?_
      refine o_q (q_load rfl rfl sz_22 aPk rfl) rfl ?_
      refine o_on 8 _ rfl rfl hg2 ?_
      refine o_p (p_len_slice rfl rfl Tryz.underlying22) rfl ?_
      refine o_on 8 _ rfl rfl hg2 ?_
      refine oP ?_
      refine o_p (p_pickt rfl rfl hg2 rfl) rfl ?_
      refine o_nil ?_
      exact s_joinN 5 13 _ rfl rfl rfl (fun w h => by first | exact h | exact h.ent aEt))
    (by
      intro hg4
      have hs5 := hg4; try simp only [decide_eq_false_iff_not] at hs5
      refine o_off 8 _ rfl rfl hg4 rfl ?_
      refine o_off 8 _ rfl rfl hg4 rfl ?_
      refine o_off 8 _ rfl rfl hg4 rfl ?_
      refine o_off 8 _ rfl rfl hg4 rfl ?_
      refine o_p (p_pickf rfl rfl hg4 rfl) rfl ?_
      refine o_nil ?_
      exact s_joinN 5 13 _ rfl rfl rfl (fun w h => by first | exact h | exact h.ent aEt)) ?_
  refine oP ?_
  refine o_or 5 14 19 _ _ rfl
    (by
      intro hg6
      have hs7 := hg6; try simp only [Bool.and_eq_false_iff, decide_eq_false_iff_not] at hs7
      refine o_on 14 _ rfl rfl hg6 ?_
      refine o_p (p_fieldAddr rfl rfl fd_24_3 sz_22 rfl) rfl ?_
      refine o_on 14 _ rfl rfl hg6 ?_
      refine o_q (q_load rfl rfl sz_22 aPk rfl) rfl ?_
      refine o_on 14 _ rfl rfl hg6 ?_
      refine o_p (p_len_slice rfl rfl Tryz.underlying22) rfl ?_
      refine o_on 14 _ rfl rfl hg6 ?_
      refine oP ?_
      refine o_p (p_pickf rfl rfl hg6 rfl) rfl ?_
      refine o_nil ?_
      exact s_joinN 5 19 _ rfl rfl rfl (fun w h => by first | exact h | exact h.ent aEt))
    (by
      intro hg8
      have hs9 := hg8; try simp only [Bool.and_eq_true, decide_eq_true_eq] at hs9
      refine o_off 14 _ rfl rfl hg8 rfl ?_
      refine o_off 14 _ rfl rfl hg8 rfl ?_
      refine o_off 14 _ rfl rfl hg8 rfl ?_
      refine o_off 14 _ rfl rfl hg8 rfl ?_
      refine o_p (p_pickt rfl rfl hg8 rfl) rfl ?_
      refine o_nil ?_
      exact s_joinN 5 19 _ rfl rfl rfl (fun w h => by first | exact h | exact h.ent aEt)) ?_
  refine o_nil ?_
  refine s_cond rfl (fun h10 => ?_) (fun h10 => ?_)
  · try simp only [Bool.or_eq_true, Bool.and_eq_true, decide_eq_true_eq] at h10
    have hbad := tfewB_n (ns := pln L) (by rw [hnl]; have hq := h10; omega)
    refine s_seq ?_
    refine s_region ?_
    refine oP ?_
    refine o_nil ?_
    exact s_retv (rs := [.tmp 2]) rfl (.tmp rfl (.nil)) (fun w' h' => ⟨by rw [hbad]; rfl, h'.below⟩)
  · try simp only [Bool.or_eq_false_iff, Bool.and_eq_false_iff, decide_eq_false_iff_not] at h10
    have hlen : L.length ≤ 122 ∧ ¬ (60 < L.length ∧ L.length ≤ 120) := by have hq := h10; omega
    refine s_skip ?_
    refine s_seq ?_
    refine s_seq ?_
    refine s_region ?_
    refine oP ?_
    refine o_nil ?_
    refine s_block ?_
    refine s_loopI (α := Nat) [2, 3, 20, 21, 22, 23, 24, 25, 26, 27, 28, 29, 30, 31, 32, 33, 34, 35, 36, 37, 38, 39, 40, 41, 42, 43, 44, 45, 46, 47, 48, 49, 50, 51, 52, 53, 54] (fun k => [(3, .int .i64 (k : Int))]) (fun _ => HS w [] [.blk b1 24 4 [.int .i64 co, .int .i64 mo, .int .i64 rm, .slice a L.length cap]]) (fun k => k ≤ L.length ∧ ∀ q, q < k → tfewN (nth (pln L) q) = true) (fun k => L.length - k) 0 ⟨Nat.zero_le _, fun q h => absurd h (Nat.not_lt_zero q)⟩ aSx (fun w h => h.ent aEt) (fun k hx => ?_)
    obtain ⟨hk1, hk3⟩ := hx
    refine s_seq ?_
    refine s_seq ?_
    refine s_region ?_
    refine oP ?_
    refine o_p (p_fieldAddr rfl rfl fd_24_3 sz_22 rfl) rfl ?_
    refine o_q (q_load rfl rfl sz_22 aPk rfl) rfl ?_
    refine o_p (p_len_slice rfl rfl Tryz.underlying22) rfl ?_
    refine oP ?_
    refine o_nil ?_
    refine s_cond rfl (fun h11 => ?_) (fun h11 => ?_)
    · try simp only [decide_eq_true_eq] at h11
      have hk5 : k < L.length := by omega
      have hnk := pln_nth hk5
      refine s_skip ?_
      refine s_seq ?_
      refine s_block ?_
      refine s_seq ?_
      refine s_region ?_
      refine o_p (p_fieldAddr rfl rfl fd_24_3 sz_22 rfl) rfl ?_
      refine o_q (q_load rfl rfl sz_22 aPk rfl) rfl ?_
      refine oP ?_
      refine o_p (p_indexAddr rfl rfl rfl sl_22 (k) (by omega) (by omega) (Rw.some hs.1 (by omega))) rfl ?_
      refine o_p (p_fieldAddr rfl rfl fd_102_1 sz_77 rfl) rfl ?_
      refine o_q (q_load_old rfl rfl sz_77 ((hs.1.rdj 1 hk5 rfl))) rfl ?_
      refine o_p (p_len_slice rfl rfl Tryz.underlying77) rfl ?_
      refine oP ?_
      refine oP ?_
      refine o_or 9 35 44 _ _ rfl
        (by
          intro hg12
          have hs13 := hg12; try simp only [decide_eq_false_iff_not] at hs13
          refine o_on 35 _ rfl rfl hg12 ?_
          refine o_p (p_fieldAddr rfl rfl fd_24_3 sz_22 rfl) rfl ?_
          refine o_on 35 _ rfl rfl hg12 ?_
          refine o_q (q_load rfl rfl sz_22 aPk rfl) rfl ?_
          refine o_on 35 _ rfl rfl hg12 ?_
          refine oP ?_
          refine o_on 35 _ rfl rfl hg12 ?_
          refine o_p (p_indexAddr rfl rfl rfl sl_22 (k) (by omega) (by omega) (Rw.some hs.1 (by omega))) rfl ?_
          refine o_on 35 _ rfl rfl hg12 ?_
          refine o_p (p_fieldAddr rfl rfl fd_102_2 sz_30 rfl) rfl ?_
          refine o_on 35 _ rfl rfl hg12 ?_
          refine o_q (q_load_old rfl rfl sz_30 ((hs.1.rdj 2 hk5 rfl))) rfl ?_
          refine o_on 35 _ rfl rfl hg12 ?_
          refine o_p (p_len_slice rfl rfl Tryz.underlying30) rfl ?_
          refine o_on 35 _ rfl rfl hg12 ?_
          refine oP ?_
          refine o_p (p_pickf rfl rfl hg12 rfl) rfl ?_
          refine o_nil ?_
          exact s_joinN 9 44 _ rfl rfl rfl (fun w h => by first | exact h | exact h.ent aEt))
        (by
          intro hg14
          have hs15 := hg14; try simp only [decide_eq_true_eq] at hs15
          refine o_off 35 _ rfl rfl hg14 rfl ?_
          refine o_off 35 _ rfl rfl hg14 rfl ?_
          refine o_off 35 _ rfl rfl hg14 rfl ?_
          refine o_off 35 _ rfl rfl hg14 rfl ?_
          refine o_off 35 _ rfl rfl hg14 rfl ?_
          refine o_off 35 _ rfl rfl hg14 rfl ?_
          refine o_off 35 _ rfl rfl hg14 rfl ?_
          refine o_off 35 _ rfl rfl hg14 rfl ?_
          refine o_p (p_pickt rfl rfl hg14 rfl) rfl ?_
          refine o_nil ?_
          exact s_joinN 9 44 _ rfl rfl rfl (fun w h => by first | exact h | exact h.ent aEt)) ?_
      refine oP ?_
      refine o_or 9 45 54 _ _ rfl
        (by
          intro hg16
          have hs17 := hg16; try simp only [Bool.or_eq_false_iff, decide_eq_false_iff_not] at hs17
          refine o_on 45 _ rfl rfl hg16 ?_
          refine o_p (p_fieldAddr rfl rfl fd_24_3 sz_22 rfl) rfl ?_
          refine o_on 45 _ rfl rfl hg16 ?_
          refine o_q (q_load rfl rfl sz_22 aPk rfl) rfl ?_
          refine o_on 45 _ rfl rfl hg16 ?_
          refine oP ?_
          refine o_on 45 _ rfl rfl hg16 ?_
          refine o_p (p_indexAddr rfl rfl rfl sl_22 (k) (by omega) (by omega) (Rw.some hs.1 (by omega))) rfl ?_
          refine o_on 45 _ rfl rfl hg16 ?_
          refine o_p (p_fieldAddr rfl rfl fd_102_1 sz_77 rfl) rfl ?_
          refine o_on 45 _ rfl rfl hg16 ?_
          refine o_q (q_load_old rfl rfl sz_77 ((hs.1.rdj 1 hk5 rfl))) rfl ?_
          refine o_on 45 _ rfl rfl hg16 ?_
          refine o_q (q_call rfl fn_43 rfl (fun w1 h1 => c43 w1 (nth L k).ea (nth L k).ec (nth L k).es ((hs.es hk5).later h1) (by have hq := hg16; omega))) rfl ?_
          refine o_on 45 _ rfl rfl hg16 ?_
          refine oP ?_
          refine o_p (p_pickf rfl rfl hg16 rfl) rfl ?_
          refine o_nil ?_
          exact s_joinN 9 54 _ rfl rfl rfl (fun w h => by first | exact h | exact h.ent aEt))
        (by
          intro hg18
          have hs19 := hg18; try simp only [Bool.or_eq_true, decide_eq_true_eq] at hs19
          refine o_off 45 _ rfl rfl hg18 rfl ?_
          refine o_off 45 _ rfl rfl hg18 rfl ?_
          refine o_off 45 _ rfl rfl hg18 rfl ?_
          refine o_off 45 _ rfl rfl hg18 rfl ?_
          refine o_off 45 _ rfl rfl hg18 rfl ?_
          refine o_off 45 _ rfl rfl hg18 rfl ?_
          refine o_off 45 _ rfl rfl hg18 rfl ?_
          refine o_off 45 _ rfl rfl hg18 rfl ?_
          refine o_p (p_pickt rfl rfl hg18 rfl) rfl ?_
          refine o_nil ?_
          exact s_joinN 9 54 _ rfl rfl rfl (fun w h => by first | exact h | exact h.ent aEt)) ?_
      refine o_nil ?_
      refine s_cond rfl (fun h20 => ?_) (fun h20 => ?_)
      · try simp only [Bool.or_eq_true, decide_eq_true_eq, Bool.not_eq_true'] at h20
        have hz1 : ¬ tfewN (nth (pln L) k) = true := by rw [hnk]; have hq := h20; exact tfewN_f (hq.imp (fun h9 => by show 10 < (nth L k).es.length ∨ 11 < (nth L k).cs.length; omega) id)
        have hbad := tfewB_f (by rw [hnl]; exact hk5) hz1
        refine s_seq ?_
        refine s_region ?_
        refine oP ?_
        refine o_nil ?_
        exact s_retv (rs := [.tmp 2]) rfl (.tmp rfl (.nil)) (fun w' h' => ⟨by rw [hbad]; rfl, h'.below⟩)
      · try simp only [Bool.or_eq_false_iff, decide_eq_false_iff_not, Bool.not_eq_false'] at h20
        have hz1 : tfewN (nth (pln L) k) = true := by rw [hnk]; have hq := h20; exact tfewN_t (by show (nth L k).es.length ≤ 10; omega) (by show (nth L k).cs.length ≤ 11; omega) hq.2
        refine s_skip ?_
        refine s_blk ?_
        refine s_region ?_
        refine oP ?_
        refine oP ?_
        try (refine o_slot (i64w (by omega) (by omega)) ?_)
        refine oP ?_
        refine o_nil ?_
        exact s_backI (k + 1) (by omega) ⟨by omega, fun q hq => (Nat.lt_or_ge q k).elim (hk3 q) (fun h9 => by obtain rfl : q = k := (by omega); exact hz1)⟩ aSx (fun w h => h.ent aEt)
    · try simp only [decide_eq_false_iff_not] at h11
      have hall := tfewB_t (ns := pln L) (by rw [hnl]; exact hlen) (fun q hq => hk3 q (by rw [hnl] at hq; omega))
      refine s_exit_to rfl ?_
      refine s_seq ?_
      refine s_region ?_
      refine oP ?_
      refine o_nil ?_
      exact s_retv (rs := [.tmp 2]) rfl (.tmp rfl (.nil)) (fun w' h' => ⟨by rw [hall]; rfl, h'.below⟩)

end Go.Proofs

namespace Go.Proofs
open Go Go.RowKit Gx
set_option linter.unusedVariables false
set_option linter.unusedSimpArgs false
attribute [local irreducible] Go.Calls Gx.S Gx.O Gx.D Gx.OpP Gx.OpQ Gx.OpH



end Go.Proofs

namespace Go.Proofs
open Go Go.RowKit Gx
set_option linter.unusedVariables false
set_option linter.unusedSimpArgs false
attribute [local irreducible] Go.Calls Gx.S Gx.O Gx.D Gx.OpP Gx.OpQ Gx.OpH

theorem fn_14 : isFn Tryz.prog 14 = true := by kernel_rfl
end Go.Proofs

/- Chapter 12: the shape of a tree. Plain data. -/
namespace Gx
set_option linter.unusedSimpArgs false
set_option linter.unusedVariables false
set_option linter.unusedSectionVars false
open Go Go.RowKit
/-- Of the first k nodes: how many are used, how many entries they have, how many are not used. -/
def shA (ns : List Nd) : Nat → Int × Int × Int
  | 0 => (0, 0, 0)
  | k + 1 => if (nth ns k).us = true then ((shA ns k).1 + 1, (shA ns k).2.1 + ((nth ns k).es.length : Int), (shA ns k).2.2) else ((shA ns k).1, (shA ns k).2.1, (shA ns k).2.2 + 1)
theorem shA_t {ns : List Nd} {k : Nat} {n : Nd} (hn : nth ns k = n) (h : n.us = true) : shA ns (k + 1) = ((shA ns k).1 + 1, (shA ns k).2.1 + (n.es.length : Int), (shA ns k).2.2) := by
  subst hn
  rw [shA, if_pos h]
theorem shA_f {ns : List Nd} {k : Nat} {n : Nd} (hn : nth ns k = n) (h : ¬ n.us = true) : shA ns (k + 1) = ((shA ns k).1, (shA ns k).2.1, (shA ns k).2.2 + 1) := by
  subst hn
  rw [shA, if_neg h]
theorem shA_le {ns : List Nd} (hB : Bd ns) : ∀ k, k ≤ ns.length → (0 ≤ (shA ns k).1 ∧ (shA ns k).1 ≤ k) ∧ (0 ≤ (shA ns k).2.1 ∧ (shA ns k).2.1 ≤ 1000 * (k : Int)) ∧ (0 ≤ (shA ns k).2.2 ∧ (shA ns k).2.2 ≤ k)
  | 0, _ => by simp [shA]
  | k + 1, hk => by
    have ih := shA_le hB k (by omega)
    have he := hB.es k (by omega)
    rw [shA]
    split
    · simp only []
      omega
    · simp only []
      omega
/-- Depth, nodes, entries, free nodes. -/
def shpV (ns : List Nd) : List Value := [.int .i64 (deepT ns ns.length 0 + 1), .int .i64 (shA ns ns.length).1, .int .i64 (shA ns ns.length).2.1, .int .i64 (shA ns ns.length).2.2]
end Gx

namespace Go.Proofs
open Go Go.RowKit Gx
set_option linter.unusedVariables false
set_option linter.unusedSimpArgs false
attribute [local irreducible] Go.Calls Gx.S Gx.O Gx.D Gx.OpP Gx.OpQ Gx.OpH

theorem zr_71 : tzero Tryz.prog 71 = some [.int .i64 0, .int .i64 0, .int .i64 0, .int .i64 0] := by kernel_rfl
theorem pl_71 : tplaces Tryz.prog 71 = some [(0, 1), (1, 1), (2, 1), (3, 1)] := by kernel_rfl
theorem sz_71 : tsz Tryz.prog 71 = some (4, true) := by kernel_rfl
theorem fd_71_1 : tfd Tryz.prog 71 1 = some (1, 3) := by kernel_rfl
theorem fd_71_3 : tfd Tryz.prog 71 3 = some (3, 3) := by kernel_rfl
theorem fd_71_2 : tfd Tryz.prog 71 2 = some (2, 3) := by kernel_rfl
theorem fd_71_0 : tfd Tryz.prog 71 0 = some (0, 3) := by kernel_rfl


set_option maxRecDepth 20000 in
theorem c40e (w : World) (co mo rm : Int) (a : Option Addr) (cap : Nat) (L : List LNd) (hs : Nt w [] a L) (hB : Bd (pln L)) (hkl : ∀ i, i < L.length → ∀ x ∈ (nth L i).es, x.key.length ≤ 1000000) (he : ¬ (treE (⟨co, mo, rm, pln L⟩ : Tre)).2 = 0) : Calls Tryz.prog 40 #[.agg #[.int .i64 co, .int .i64 mo, .int .i64 rm, .slice a L.length cap]] w fun en w' => en = .returned (.tuple #[.agg #[.int .i64 0, .int .i64 0, .int .i64 0, .int .i64 0], .int .i64 (treE (⟨co, mo, rm, pln L⟩ : Tre)).2]) ∧ Below w.heap.size w w' := by
  refine enter (args := [_]) Tryz.func40 Tryz.ntmps40 rfl rfl (HS.refl w []) ?_
  refine s_seq ?_
  refine s_region ?_
  refine o_h (h_box rfl rfl) rfl (fun b1 _ => ?_)
  refine o_h (h_alloc rfl zr_71) rfl (fun b2 _ => ?_)
  refine oP ?_
  refine o_nil ?_
  refine s_seq ?_
  refine s_region ?_
  refine o_q (q_loadn rfl rfl sz_24 aPk rfl) rfl ?_
  refine o_q (q_call rfl fn_84 rfl (fun w1 h1 => c84e w1 co mo rm a cap L (hs.later h1.nil) hB hkl he)) rfl ?_
  refine oP ?_
  refine oP ?_
  refine oP ?_
  refine oP ?_
  refine oP ?_
  refine o_nil ?_
  refine s_seq ?_
  refine s_seq ?_
  refine s_region ?_
  refine oP ?_
  refine oP ?_
  refine o_nil ?_
  refine s_cond rfl (fun h3 => ?_) (fun h3 => ?_)
  · try simp only [Bool.not_eq_true', decide_eq_false_iff_not] at h3
    refine s_seq ?_
    refine s_region ?_
    refine o_p (p_build (cs := [_, _, _, _]) rfl rfl pl_71 zr_71 rfl) rfl ?_
    refine oP ?_
    refine o_h0 (h_store rfl rfl rfl sz_71 rfl aPt (by simp only [setMany_length, List.length_set, List.length_cons, List.length_nil, List.length_map]; omega) rfl) (fun _ _ => ?_)
    refine oP ?_
    refine o_nil ?_
    exact s_retv (rs := [.cell 2 71, .tmp 3]) rfl (.cell rfl sz_71 aPk rfl (.tmp rfl (.nil))) (fun w' h' => ⟨rfl, h'.below⟩)
  · try simp only [Bool.not_eq_false', decide_eq_true_eq] at h3
    exfalso; first | omega | (simp at h3; done) | (simp_all; done)

set_option maxRecDepth 20000 in
set_option maxHeartbeats 400000 in
theorem c40o (w : World) (j : Nat) (mo rm : Int) (a : Option Addr) (cap : Nat) (L : List LNd) (hs : Nt w [] a L) (hB : Bd (pln L)) (hkl : ∀ i, i < L.length → ∀ x ∈ (nth L i).es, x.key.length ≤ 1000000) (h0 : (treE (⟨(j : Int), mo, rm, pln L⟩ : Tre)).2 = 0) : Calls Tryz.prog 40 #[.agg #[.int .i64 (j : Int), .int .i64 mo, .int .i64 rm, .slice a L.length cap]] w fun en w' => en = .returned (.tuple #[(.agg (shpV (pln L)).toArray), .int .i64 0]) ∧ Below w.heap.size w w' := by
  obtain ⟨hc0, hz0, hl0, hl120, hn0, _, _⟩ := treE_0 h0
  rw [show ((⟨(j : Int), mo, rm, pln L⟩ : Tre)).ns = pln L from rfl, pln_len] at hl0 hl120
  have hj : j ≤ 3 := by obtain ⟨j9, e9, hj9⟩ := col_ok hc0; have e8 : ((j : Nat) : Int) = (j9 : Int) := e9; omega
  have hT : TOk (j : Int) (pln L) := tok_of (t := (⟨(j : Int), mo, rm, pln L⟩ : Tre)) hn0
  have hmo := (sizE_0 hz0).1
  simp only [] at hmo
  have hnl : (pln L).length = L.length := pln_len L
  refine enter (args := [_]) Tryz.func40 Tryz.ntmps40 rfl rfl (HS.refl w []) ?_
  refine s_seq ?_
  refine s_region ?_
  refine o_h (h_box rfl rfl) rfl (fun b1 _ => ?_)
  refine o_h (h_alloc rfl zr_71) rfl (fun b2 _ => ?_)
  refine oP ?_
  refine o_nil ?_
  refine s_seq ?_
  refine s_region ?_
  refine o_q (q_loadn rfl rfl sz_24 aPk rfl) rfl ?_
  refine o_h (h_call rfl fn_84 rfl (fun w1 h1 => c84o w1 j mo rm a cap L (hs.later h1.nil) hB hkl h0)) rfl (fun ⟨b9, ⟨gn9, c9⟩, L9⟩ hF9 => ?_)
  dsimp only
  obtain ⟨hL9, hn9, hm9⟩ := hF9
  simp only [] at hL9 hn9 hm9
  have hl9 : L9.length = L.length := by rw [← pln_len L9, hL9, pln_len]
  have hnl9 : ∀ i, i < L9.length → nth (pln L) i = (nth L9 i).pl := fun i hi => by have h9 := pln_nth hi; rw [hL9] at h9; exact h9
  refine oP ?_
  refine oP ?_
  refine oP ?_
  refine oP ?_
  refine oP ?_
  refine o_nil ?_
  refine s_seq ?_
  refine s_seq ?_
  refine s_region ?_
  refine oP ?_
  refine oP ?_
  refine o_nil ?_
  refine s_cond rfl (fun h3 => ?_) (fun h3 => ?_)
  · try simp only [Bool.not_eq_true', decide_eq_false_iff_not] at h3
    exfalso; first | omega | (simp at h3; done) | (simp_all; done)
  · try simp only [Bool.not_eq_false', decide_eq_true_eq] at h3
    refine s_skip ?_
    refine s_seq ?_
    refine s_region ?_
    refine o_p (p_build (cs := [_, _, _, _]) rfl rfl pl_71 zr_71 rfl) rfl ?_
    refine o_h (h_alloc rfl zr_71) rfl (fun b4 _ => ?_)
    refine o_h0 (h_store rfl rfl rfl sz_71 rfl aPt (by simp only [setMany_length, List.length_set, List.length_cons, List.length_nil, List.length_map]; omega) rfl) (fun _ _ => ?_)
    refine o_nil ?_
    refine s_seq ?_
    refine s_seq ?_
    refine s_region ?_
    refine oP ?_
    refine oP ?_
    refine o_p (p_fieldAddr rfl rfl fd_112_0 sz_24 rfl) rfl ?_
    refine o_p (p_fieldAddr rfl rfl fd_24_3 sz_22 rfl) rfl ?_
    refine o_q (q_load rfl rfl sz_22 aPk rfl) rfl ?_
    refine o_p (p_len_slice rfl rfl Tryz.underlying22) rfl ?_
    refine oP ?_
    refine o_nil ?_
    refine s_block ?_
    refine s_weaken (L' := [(2, _), (3, _), (4, _), (6, _), (24, _), (25, _), (26, _)]) aSx (fun _ h => h) ?_
    refine s_loopI (α := Nat) [8, 26, 27, 28, 29, 30, 31, 32, 33, 34, 35, 36, 37, 38, 39, 40, 41, 42, 43, 44, 45, 46, 47] (fun k => [(26, .int .i64 (k : Int))]) (fun k => HS w [] [.blk b4 71 4 [.int .i64 1, .int .i64 (shA (pln L) k).1, .int .i64 (shA (pln L) k).2.1, .int .i64 (shA (pln L) k).2.2], .blk b9 112 6 (tbV (j : Int) mo rm (some ⟨gn9, 0, none⟩) (L9).length c9), .blk gn9 102 (c9 * 3) ((L9).flatMap LNd.vals), .star ((L9).map (subN 26)), .blk b2 71 4 [.int .i64 0, .int .i64 0, .int .i64 0, .int .i64 0], .blk b1 24 4 [.int .i64 (j : Int), .int .i64 mo, .int .i64 rm, .slice a L.length cap]]) (fun k => k ≤ L.length) (fun k => L.length - k) 0 (Nat.zero_le _) aSx (fun w h => h.ent aEt) (fun k hk1 => ?_)
    refine s_seq ?_
    refine s_region ?_
    refine oP ?_
    refine o_nil ?_
    refine s_seq ?_
    refine s_cond rfl (fun h5 => ?_) (fun h5 => ?_)
    · try simp only [decide_eq_true_eq] at h5
      have hkl9 : k < L9.length := by omega
      have hnk := hnl9 k hkl9
      have hsl := shA_le hB k (by rw [hnl]; omega)
      have hek := hB.es k (by rw [hnl]; omega)
      rw [hnk] at hek
      simp only [LNd.pl] at hek
      refine s_skip ?_
      refine s_seq ?_
      refine s_block ?_
      refine s_seq ?_
      refine s_region ?_
      refine o_p (p_indexAddr rfl rfl rfl sl_22 (k) (by omega) (by omega) rfl) rfl ?_
      refine o_q (q_load_atn _ rfl rfl sz_102 (by rfl) (fun w h => Rw.rd (h.rw_blk nv3 aPk) (i := k) hkl9)) rfl ?_
      refine o_h (h_alloc rfl zr_102) rfl (fun b6 _ => ?_)
      refine o_h0 (h_store rfl rfl rfl sz_102 rfl aPt (by simp only [setMany_length, List.length_set, List.length_cons, List.length_nil, List.length_map]; omega) rfl) (fun _ _ => ?_)
      refine o_nil ?_
      refine s_seq ?_
      refine s_seq ?_
      refine s_region ?_
      refine o_p (p_fieldAddr rfl rfl fd_102_0 sz_4 rfl) rfl ?_
      refine o_q (q_load rfl rfl sz_4 aPk rfl) rfl ?_
      refine o_nil ?_
      refine s_cutI (α := Int × Int) [32, 33, 34, 35, 36, 37, 38, 39] (fun _ => []) (fun x => HS w [] [.blk b4 71 4 [.int .i64 1, .int .i64 x.1, .int .i64 (shA (pln L) k).2.1, .int .i64 x.2], .blk b6 102 3 (LNd.vals (nth L9 k)), .blk b9 112 6 (tbV (j : Int) mo rm (some ⟨gn9, 0, none⟩) (L9).length c9), .blk gn9 102 (c9 * 3) ((L9).flatMap LNd.vals), .star ((L9).map (subN 26)), .blk b2 71 4 [.int .i64 0, .int .i64 0, .int .i64 0, .int .i64 0], .blk b1 24 4 [.int .i64 (j : Int), .int .i64 mo, .int .i64 rm, .slice a L.length cap]]) (fun x => x.1 = (shA (pln L) (k + 1)).1 ∧ x.2 = (shA (pln L) (k + 1)).2.2 ∧ (shA (pln L) (k + 1)).2.1 = (shA (pln L) k).2.1 + ((nth L9 k).es.length : Int)) ?_ ?_
      · skip
        refine s_cond rfl (fun h7 => ?_) (fun h7 => ?_)
        · skip
          have hst := shA_t (ns := pln L) hnk h7
          refine s_region ?_
          refine o_p (p_fieldAddr rfl rfl fd_71_1 sz_3 rfl) rfl ?_
          refine o_q (q_load rfl rfl sz_3 aPk rfl) rfl ?_
          refine oP ?_
          try (refine o_slot (i64w (by omega) (by omega)) ?_)
          refine o_p (p_fieldAddr rfl rfl fd_71_1 sz_3 rfl) rfl ?_
          refine o_h0 (h_store rfl rfl rfl sz_3 rfl aPt (by simp only [setMany_length, List.length_set, List.length_cons, List.length_nil, List.length_map]; omega) rfl) (fun _ _ => ?_)
          refine o_nil ?_
          exact s_joinI ((shA (pln L) k).1 + 1, (shA (pln L) k).2.2) (by rw [hst]; exact ⟨rfl, rfl, rfl⟩) aSx (fun w h => h.ent aEt)
        · skip
          have hst := shA_f (ns := pln L) hnk (by have hq := h7; simpa [LNd.pl] using hq)
          have hfr := (hT.free k (by rw [hnl]; omega) (by rw [hnk]; have hq := h7; simpa [LNd.pl] using hq)).2.1
          rw [hnk] at hfr
          have hfr2 : (nth L9 k).es.length = 0 := by rw [show (nth L9 k).es = [] from hfr]; rfl
          refine s_region ?_
          refine o_p (p_fieldAddr rfl rfl fd_71_3 sz_3 rfl) rfl ?_
          refine o_q (q_load rfl rfl sz_3 aPk rfl) rfl ?_
          refine oP ?_
          try (refine o_slot (i64w (by omega) (by omega)) ?_)
          refine o_p (p_fieldAddr rfl rfl fd_71_3 sz_3 rfl) rfl ?_
          refine o_h0 (h_store rfl rfl rfl sz_3 rfl aPt (by simp only [setMany_length, List.length_set, List.length_cons, List.length_nil, List.length_map]; omega) rfl) (fun _ _ => ?_)
          refine o_nil ?_
          exact s_joinI ((shA (pln L) k).1, (shA (pln L) k).2.2 + 1) (by rw [hst]; exact ⟨rfl, rfl, by simp only []; omega⟩) aSx (fun w h => h.ent aEt)
      · intro ⟨n1, f1⟩ hy
        refine s_region ?_
        refine o_p (p_fieldAddr rfl rfl fd_71_2 sz_3 rfl) rfl ?_
        refine o_q (q_load rfl rfl sz_3 aPk rfl) rfl ?_
        refine o_p (p_fieldAddr rfl rfl fd_102_1 sz_77 rfl) rfl ?_
        refine o_q (q_load rfl rfl sz_77 aPk rfl) rfl ?_
        refine o_p (p_len_slice rfl rfl Tryz.underlying77) rfl ?_
        refine oP ?_
        try (refine o_slot (i64w (by omega) (by omega)) ?_)
        refine o_p (p_fieldAddr rfl rfl fd_71_2 sz_3 rfl) rfl ?_
        refine o_h0 (h_store rfl rfl rfl sz_3 rfl aPt (by simp only [setMany_length, List.length_set, List.length_cons, List.length_nil, List.length_map]; omega) rfl) (fun _ _ => ?_)
        refine o_nil ?_
        refine s_blk ?_
        refine s_region ?_
        refine oP ?_
        try (refine o_slot (i64w (by omega) (by omega)) ?_)
        refine oP ?_
        refine o_nil ?_
        exact s_backI (k + 1) (by omega) (by omega) aSx (fun w h => by obtain ⟨hy1, hy2, hy3⟩ := hy; simp only [] at hy1 hy2; rw [← hy1, ← hy2, hy3]; exact h.ent aEt)
    · try simp only [decide_eq_false_iff_not] at h5
      obtain rfl : k = L.length := by omega
      refine s_exit_to rfl ?_
      refine s_seq ?_
      refine s_seq ?_
      refine s_region ?_
      refine oP ?_
      refine o_nil ?_
      refine s_block ?_
      refine s_loopI (α := Nat × Nat × List Nat) [9, 48, 49, 50, 51, 52, 53, 54, 55, 56, 57, 58, 59, 60, 61, 62, 63, 64, 65, 66, 67, 68, 69, 70, 71, 72, 73] (fun y => [(9, .int .i64 (y.2.1 : Int))]) (fun y => HS w [] [.blk b4 71 4 [.int .i64 ((y.1 : Int) + 1), .int .i64 (shA (pln L) L.length).1, .int .i64 (shA (pln L) L.length).2.1, .int .i64 (shA (pln L) L.length).2.2], .blk b9 112 6 (tbV (j : Int) mo rm (some ⟨gn9, 0, none⟩) (L9).length c9), .blk gn9 102 (c9 * 3) ((L9).flatMap LNd.vals), .star ((L9).map (subN 26)), .blk b2 71 4 [.int .i64 0, .int .i64 0, .int .i64 0, .int .i64 0], .blk b1 24 4 [.int .i64 (j : Int), .int .i64 mo, .int .i64 rm, .slice a L.length cap]]) (fun y => Gx.Way (pln L) (y.2.1 :: y.2.2) ∧ y.2.2.length = y.1 ∧ deepT (pln L) L.length 0 = (y.1 : Int) + deepT (pln L) (L.length - y.1) y.2.1) (fun y => L.length - y.1) (0, 0, []) ⟨rfl, rfl, by simp⟩ aSx (fun w h => h.ent aEt) (fun ⟨d, i, P⟩ hx => ?_)
      dsimp only
      obtain ⟨hway, hpl, hdp⟩ := hx
      simp only [] at hway hpl hdp
      have hil0 := way_lt hT (by rw [pln_len]; exact hl0) hway i (List.mem_cons_self ..)
      have hil : i < L9.length := by rw [pln_len] at hil0; omega
      have hnI := hnl9 i hil
      have hwl := way_len hT (by rw [pln_len]; exact hl0) hway
      rw [pln_len, List.length_cons] at hwl
      have hcl := hB.cs i hil0
      rw [hnI] at hcl
      simp only [LNd.pl] at hcl
      refine s_seq ?_
      refine s_seq ?_
      refine s_region ?_
      refine oP ?_
      refine oP ?_
      refine o_p (p_fieldAddr rfl rfl fd_112_0 sz_24 rfl) rfl ?_
      refine o_p (p_fieldAddr rfl rfl fd_24_3 sz_22 rfl) rfl ?_
      refine o_q (q_load rfl rfl sz_22 aPk rfl) rfl ?_
      refine oP ?_
      refine o_p (p_indexAddr rfl rfl rfl sl_22 (i) (by omega) (by omega) rfl) rfl ?_
      refine o_slot (show _ = Value.pointer (some ⟨gn9, i * 3, none⟩) from by rw [Nat.zero_add]) ?_
      refine o_p (p_fieldAddr rfl rfl fd_102_2 sz_30 rfl) rfl ?_
      refine o_q (q_load_at rfl rfl sz_30 (fun w h => HS.nd_cell hil h aPk 2 rfl (by decide))) rfl ?_
      refine o_p (p_len_slice rfl rfl Tryz.underlying30) rfl ?_
      refine oP ?_
      refine o_nil ?_
      refine s_cond rfl (fun h8 => ?_) (fun h8 => ?_)
      · try simp only [decide_eq_true_eq] at h8
        have hcl0 : 0 < (nth L9 i).cs.length := by have hq := h8; omega
        have hkid := kid_in hT hil0 (i := i) (k := 0) (by rw [hnI]; exact hcl0)
        rw [hnI, pln_len] at hkid
        simp only [LNd.pl] at hkid
        have hway2 := way_kid hway hil0 (k := 0) (by rw [hnI]; exact hcl0) (by rw [hnI]; simp only [LNd.pl]; omega)
        rw [hnI] at hway2
        have hwl2 := way_len hT (by rw [pln_len]; exact hl0) hway2
        rw [pln_len, List.length_cons, List.length_cons] at hwl2
        have hdm := deep_more (ns := pln L) (f := L.length - d) (i := i) (by omega) (by rw [hnI]; show ¬ (nth L9 i).cs.length = 0; omega)
        rw [hnI] at hdm
        refine s_fact (fun w h => HS.cs_some (i := i) hil hcl0 h aPk) fun hgc => ?_
        obtain ⟨gc, hgc⟩ := hgc
        refine s_skip ?_
        refine s_seq ?_
        refine s_block ?_
        refine s_region ?_
        refine o_p (p_fieldAddr rfl rfl fd_71_0 sz_3 rfl) rfl ?_
        refine o_q (q_load rfl rfl sz_3 aPk rfl) rfl ?_
        refine oP ?_
        try (refine o_slot (i64w (by omega) (by omega)) ?_)
        refine o_p (p_fieldAddr rfl rfl fd_71_0 sz_3 rfl) rfl ?_
        refine o_h0 (h_store rfl rfl rfl sz_3 rfl aPt (by simp only [setMany_length, List.length_set, List.length_cons, List.length_nil, List.length_map]; omega) rfl) (fun _ _ => ?_)
        refine o_nil ?_
        refine s_blk ?_
        refine s_region ?_
        refine oP ?_
        refine oP ?_
        refine o_p (p_fieldAddr rfl rfl fd_112_0 sz_24 rfl) rfl ?_
        refine o_p (p_fieldAddr rfl rfl fd_24_3 sz_22 rfl) rfl ?_
        refine o_q (q_load rfl rfl sz_22 aPk rfl) rfl ?_
        refine oP ?_
        refine o_p (p_indexAddr rfl rfl rfl sl_22 (i) (by omega) (by omega) rfl) rfl ?_
        refine o_slot (show _ = Value.pointer (some ⟨gn9, i * 3, none⟩) from by rw [Nat.zero_add]) ?_
        refine o_p (p_fieldAddr rfl rfl fd_102_2 sz_30 rfl) rfl ?_
        refine o_q (q_load_at rfl rfl sz_30 (fun w h => HS.nd_cell hil h aPk 2 rfl (by decide))) rfl ?_
        refine o_p (p_indexAddr rfl rfl rfl sl_30 (0) (by omega) (by omega) hgc) rfl ?_
        refine o_q (q_load_at rfl rfl sz_3 (fun w h => HS.cs_rd (k := 0) hil hcl0 hgc h aPk)) rfl ?_
        refine o_slot (show _ = Value.int .i64 (((nth L9 i).cs.getD 0 0).toNat : Int) from congrArg (Value.int .i64) (Int.toNat_of_nonneg (show 0 ≤ (nth L9 i).cs.getD 0 0 by omega)).symm) ?_
        refine oP ?_
        refine o_nil ?_
        exact s_backI (d + 1, ((nth L9 i).cs.getD 0 0).toNat, i :: P) (by (try simp only []); omega) ⟨hway2, by simp [hpl], by simp only [] at *; rw [show L.length - (d + 1) = L.length - d - 1 by omega]; have h9 : (nth L9 i).pl.cs = (nth L9 i).cs := rfl; rw [h9] at hdm; omega⟩ aSx (fun w h => by have h2 := h; simp only []; rw [show (((d + 1 : Nat) : Int) + 1) = (d : Int) + 1 + 1 by omega]; exact h2.ent aEt)
      · try simp only [decide_eq_false_iff_not] at h8
        have hde := deep_end (ns := pln L) (f := L.length - d) (i := i) (by rw [hnI]; show (nth L9 i).cs.length = 0; have hq := h8; omega)
        rw [hde, Int.add_zero] at hdp
        refine s_exit_to rfl ?_
        refine s_seq ?_
        refine s_region ?_
        refine o_q (q_loadn rfl rfl sz_71 aPk rfl) rfl ?_
        refine o_h0 (h_store rfl rfl rfl sz_71 rfl aPt (by simp only [setMany_length, List.length_set, List.length_cons, List.length_nil, List.length_map]; omega) rfl) (fun _ _ => ?_)
        refine oP ?_
        refine o_nil ?_
        exact s_retv (rs := [.cell 2 71, .tmp 3]) rfl (.cell rfl sz_71 aPk rfl (.tmp rfl (.nil))) (fun w' h' => ⟨by simp only [retV, shpV]; rw [hnl, hdp]; rfl, h'.below⟩)

end Go.Proofs

/- Regions whose order is open: a read that no base holds, taken as it comes. Nothing of a program is named here. -/
namespace Gx
open Go Go.RowKit
theorem OpQ.toH {P : Program} {o : Oper} {L : Slots} {w0 : World} {M : List Nat} {As : List HA} {v : Value} (h : OpQ P o L (HS w0 M As) v) : OpH P o L (HS w0 M As) (fun _ : Unit => v) (fun _ => True) (fun _ => HS w0 M As) :=
  fun ρ w hρ hw => (h ρ w hρ hw).mono fun _ w' ⟨h1, h2⟩ => ⟨(), h1, trivial, HS.stab _ _ _ w w' hw h2⟩
end Gx

namespace Go.Proofs
open Go Go.RowKit Gx
set_option linter.unusedVariables false
set_option linter.unusedSimpArgs false
attribute [local irreducible] Go.Calls Gx.S Gx.O Gx.D Gx.OpP Gx.OpQ Gx.OpH



set_option maxRecDepth 20000 in
set_option maxHeartbeats 400000 in
theorem c42 (w : World) (j : Nat) (mo rm : Int) (a : Option Addr) (cap : Nat) (L : List LNd) (hs : Nt w [] a L) (hB : Bd (pln L)) (hl0 : 0 < L.length) (hT : TOk (j : Int) (pln L)) : Calls Tryz.prog 42 #[.agg #[.int .i64 (j : Int), .int .i64 mo, .int .i64 rm, .slice a L.length cap]] w fun en w' => en = .returned ((.agg (shpV (pln L)).toArray)) ∧ Below w.heap.size w w' := by
  have hnl : (pln L).length = L.length := pln_len L
  have hle := hB.len
  rw [hnl] at hle
  refine enter (args := [_]) Tryz.func42 Tryz.ntmps42 rfl rfl (HS.refl w []) ?_
  refine s_seq ?_
  refine s_region ?_
  refine o_h (h_box rfl rfl) rfl (fun b1 _ => ?_)
  refine o_h (h_alloc rfl zr_71) rfl (fun b2 _ => ?_)
  refine o_nil ?_
  refine s_seq ?_
  refine s_region ?_
  refine o_p (p_build (cs := [_, _, _, _]) rfl rfl pl_71 zr_71 rfl) rfl ?_
  refine o_h (h_alloc rfl zr_71) rfl (fun b3 _ => ?_)
  refine o_h0 (h_store rfl rfl rfl sz_71 rfl aPt (by simp only [setMany_length, List.length_set, List.length_cons, List.length_nil, List.length_map]; omega) rfl) (fun _ _ => ?_)
  refine o_nil ?_
  refine s_seq ?_
  refine s_seq ?_
  refine s_region ?_
  refine oP ?_
  refine o_nil ?_
  refine s_block ?_
  refine s_loopI (α := Nat × Nat × List Nat) [4, 7, 8, 9, 10, 11, 12, 13, 14, 15, 16, 17, 18, 19, 20, 21, 22, 23, 24, 25, 26] (fun y => [(4, .int .i64 (y.2.1 : Int))]) (fun y => HS w [] [.blk b3 71 4 [.int .i64 ((y.1 : Int) + 1), .int .i64 (shA (pln L) 0).1, .int .i64 (shA (pln L) 0).2.1, .int .i64 (shA (pln L) 0).2.2], .blk b2 71 4 [.int .i64 0, .int .i64 0, .int .i64 0, .int .i64 0], .blk b1 24 4 [.int .i64 (j : Int), .int .i64 mo, .int .i64 rm, .slice a L.length cap]]) (fun y => Gx.Way (pln L) (y.2.1 :: y.2.2) ∧ y.2.2.length = y.1 ∧ deepT (pln L) L.length 0 = (y.1 : Int) + deepT (pln L) (L.length - y.1) y.2.1) (fun y => L.length - y.1) (0, 0, []) ⟨rfl, rfl, by simp⟩ aSx (fun w h => h.ent aEt) (fun ⟨d, i, P⟩ hx => ?_)
  dsimp only
  obtain ⟨hway, hpl, hdp⟩ := hx
  simp only [] at hway hpl hdp
  have hil0 := way_lt hT (by rw [pln_len]; exact hl0) hway i (List.mem_cons_self ..)
  have hil : i < L.length := by rw [pln_len] at hil0; exact hil0
  have hnI := pln_nth hil
  have hwl := way_len hT (by rw [pln_len]; exact hl0) hway
  rw [pln_len, List.length_cons] at hwl
  have hcl := hB.cs i hil0
  rw [hnI] at hcl
  simp only [LNd.pl] at hcl
  refine s_seq ?_
  refine s_seq ?_
  refine s_region ?_
  refine o_p (p_fieldAddr rfl rfl fd_24_3 sz_22 rfl) rfl ?_
  refine o_q (q_load rfl rfl sz_22 aPk rfl) rfl ?_
  refine oP ?_
  refine o_p (p_indexAddr rfl rfl rfl sl_22 (i) (by omega) (by omega) (Rw.some hs.1 (by omega))) rfl ?_
  refine o_p (p_fieldAddr rfl rfl fd_102_2 sz_30 rfl) rfl ?_
  refine o_q (q_load_old rfl rfl sz_30 (hs.1.rdj 2 hil rfl)) rfl ?_
  refine o_p (p_len_slice rfl rfl Tryz.underlying30) rfl ?_
  refine oP ?_
  refine o_nil ?_
  refine s_cond rfl (fun h4 => ?_) (fun h4 => ?_)
  · try simp only [decide_eq_true_eq] at h4
    have hcl0 : 0 < (nth L i).cs.length := by have hq := h4; omega
    have hkid := kid_in hT hil0 (i := i) (k := 0) (by rw [hnI]; exact hcl0)
    rw [hnI, pln_len] at hkid
    simp only [LNd.pl] at hkid
    have hway2 := way_kid hway hil0 (k := 0) (by rw [hnI]; exact hcl0) (by rw [hnI]; simp only [LNd.pl]; omega)
    rw [hnI] at hway2
    have hwl2 := way_len hT (by rw [pln_len]; exact hl0) hway2
    rw [pln_len, List.length_cons, List.length_cons] at hwl2
    have hdm := deep_more (ns := pln L) (f := L.length - d) (i := i) (by omega) (by rw [hnI]; show ¬ (nth L i).cs.length = 0; omega)
    rw [hnI] at hdm
    refine s_skip ?_
    refine s_seq ?_
    refine s_block ?_
    refine s_region ?_
    refine o_p (p_fieldAddr rfl rfl fd_24_3 sz_22 rfl) rfl ?_
    refine o_q (q_load rfl rfl sz_22 aPk rfl) rfl ?_
    refine oP ?_
    refine o_p (p_indexAddr rfl rfl rfl sl_22 (i) (by omega) (by omega) (Rw.some hs.1 (by omega))) rfl ?_
    refine o_p (p_fieldAddr rfl rfl fd_102_2 sz_30 rfl) rfl ?_
    refine o_q (q_load_old rfl rfl sz_30 (hs.1.rdj 2 hil rfl)) rfl ?_
    refine o_p (p_indexAddr rfl rfl rfl sl_30 (0) (by omega) (by omega) (Rw.some (hs.cs hil) (by omega))) rfl ?_
    refine o_q (q_load_old rfl rfl sz_3 ((hs.cs hil).rdj 0 (i := 0) (by omega) rfl)) rfl ?_
    refine o_slot (show _ = Value.int .i64 (((nth L i).cs.getD 0 0).toNat : Int) from congrArg (Value.int .i64) (Int.toNat_of_nonneg (show 0 ≤ (nth L i).cs.getD 0 0 by omega)).symm) ?_
    refine oP ?_
    refine o_nil ?_
    refine s_blk ?_
    refine s_region ?_
    refine o_p (p_fieldAddr rfl rfl fd_71_0 sz_3 rfl) rfl ?_
    refine o_q (q_load rfl rfl sz_3 aPk rfl) rfl ?_
    refine oP ?_
    try (refine o_slot (i64w (by omega) (by omega)) ?_)
    refine o_p (p_fieldAddr rfl rfl fd_71_0 sz_3 rfl) rfl ?_
    refine o_h0 (h_store rfl rfl rfl sz_3 rfl aPt (by simp only [setMany_length, List.length_set, List.length_cons, List.length_nil, List.length_map]; omega) rfl) (fun _ _ => ?_)
    refine o_nil ?_
    exact s_backI (d + 1, ((nth L i).cs.getD 0 0).toNat, i :: P) (by (try simp only []); omega) ⟨hway2, by simp [hpl], by simp only [] at *; rw [show L.length - (d + 1) = L.length - d - 1 by omega]; have h9 : (nth L i).pl.cs = (nth L i).cs := rfl; rw [h9] at hdm; omega⟩ aSx (fun w h => by have h2 := h; simp only []; rw [show (((d + 1 : Nat) : Int) + 1) = (d : Int) + 1 + 1 by omega]; exact h2.ent aEt)
  · try simp only [decide_eq_false_iff_not] at h4
    have hde := deep_end (ns := pln L) (f := L.length - d) (i := i) (by rw [hnI]; show (nth L i).cs.length = 0; have hq := h4; omega)
    rw [hde, Int.add_zero] at hdp
    refine s_exit_to rfl ?_
    refine s_seq ?_
    refine s_seq ?_
    refine s_region ?_
    refine oP ?_
    refine o_nil ?_
    refine s_block ?_
    refine s_loopI (α := Nat) [5, 27, 28, 29, 30, 31, 32, 33, 34, 35, 36, 37, 38, 39, 40, 41, 42, 43, 44, 45, 46, 47, 48, 49, 50, 51, 52, 53, 54, 55, 56, 57, 58] (fun k => [(5, .int .i64 (k : Int))]) (fun k => HS w [] [.blk b3 71 4 [.int .i64 ((d : Int) + 1), .int .i64 (shA (pln L) k).1, .int .i64 (shA (pln L) k).2.1, .int .i64 (shA (pln L) k).2.2], .blk b2 71 4 [.int .i64 0, .int .i64 0, .int .i64 0, .int .i64 0], .blk b1 24 4 [.int .i64 (j : Int), .int .i64 mo, .int .i64 rm, .slice a L.length cap]]) (fun k => k ≤ L.length) (fun k => L.length - k) 0 (Nat.zero_le _) aSx (fun w h => h.ent aEt) (fun k hk1 => ?_)
    refine s_seq ?_
    refine s_seq ?_
    refine s_region ?_
    refine oP ?_
    refine o_p (p_fieldAddr rfl rfl fd_24_3 sz_22 rfl) rfl ?_
    refine o_q (q_load rfl rfl sz_22 aPk rfl) rfl ?_
    refine o_p (p_len_slice rfl rfl Tryz.underlying22) rfl ?_
    refine oP ?_
    refine o_nil ?_
    refine s_cond rfl (fun h5 => ?_) (fun h5 => ?_)
    · try simp only [decide_eq_true_eq] at h5
      have hkl9 : k < L.length := by omega
      have hnk := pln_nth hkl9
      have hsl := shA_le hB k (by rw [hnl]; omega)
      have hek := hB.es k (by rw [hnl]; omega)
      rw [hnk] at hek
      simp only [LNd.pl] at hek
      refine s_skip ?_
      refine s_seq ?_
      refine s_block ?_
      refine s_seq ?_
      refine s_region ?_
      refine o_p (p_fieldAddr rfl rfl fd_24_3 sz_22 rfl) rfl ?_
      refine o_q (q_load rfl rfl sz_22 aPk rfl) rfl ?_
      refine oP ?_
      refine o_p (p_indexAddr rfl rfl rfl sl_22 (k) (by omega) (by omega) (Rw.some hs.1 (by omega))) rfl ?_
      refine o_p (p_fieldAddr rfl rfl fd_102_0 sz_4 rfl) rfl ?_
      refine o_q (q_load_old rfl rfl sz_4 (hs.1.rdj 0 hkl9 rfl)) rfl ?_
      refine o_nil ?_
      refine s_weaken (L' := [(0, _), (1, _), (2, _), (3, _), (4, _), (5, _), (6, _), (7, _), (8, _), (9, _), (10, _), (11, _), (12, _), (13, _), (14, _), (39, _)]) aSx (fun _ h => h) ?_
      refine s_cutI (α := Unit) [40, 41, 42, 43, 44, 45, 46, 47, 48, 49, 50, 51, 52, 53, 54, 55, 56, 57, 58] (fun _ => []) (fun _ => HS w [] [.blk b3 71 4 [.int .i64 ((d : Int) + 1), .int .i64 (shA (pln L) (k + 1)).1, .int .i64 (shA (pln L) (k + 1)).2.1, .int .i64 (shA (pln L) (k + 1)).2.2], .blk b2 71 4 [.int .i64 0, .int .i64 0, .int .i64 0, .int .i64 0], .blk b1 24 4 [.int .i64 (j : Int), .int .i64 mo, .int .i64 rm, .slice a L.length cap]]) (fun _ => True) ?_ ?_
      · skip
        refine s_cond rfl (fun h6 => ?_) (fun h6 => ?_)
        · skip
          have hst := shA_t (ns := pln L) hnk h6
          refine s_drawB [.blk b2 71 4 [.int .i64 0, .int .i64 0, .int .i64 0, .int .i64 0], .blk b1 24 4 [.int .i64 (j : Int), .int .i64 mo, .int .i64 rm, .slice a L.length cap]] [] mixed ?_
          refine d_p 0 rfl (p_fieldAddr rfl rfl fd_71_1 sz_3 rfl) (by kernel_rfl) rfl rfl ?_
          refine d_p 3 rfl (p_fieldAddr rfl rfl fd_71_2 sz_3 rfl) (by kernel_rfl) rfl rfl ?_
          refine d_p 5 rfl (p_fieldAddr rfl rfl fd_24_3 sz_22 rfl) (by kernel_rfl) rfl rfl ?_
          refine d_q 6 [] rfl (q_load rfl rfl sz_22 aPk rfl) (by kernel_rfl) (by kernel_rfl) (by kernel_rfl) rfl ?_
          refine dP 7 ?_
          refine d_p 8 rfl (p_indexAddr rfl rfl rfl sl_22 (k) (by omega) (by omega) (Rw.some hs.1 (by omega))) (by kernel_rfl) rfl rfl ?_
          refine d_p 9 rfl (p_fieldAddr rfl rfl fd_102_1 sz_77 rfl) (by kernel_rfl) rfl rfl ?_
          refine d_q 10 [] rfl (q_load_old rfl rfl sz_77 (hs.1.rdj 1 hkl9 rfl)) (by kernel_rfl) (by kernel_rfl) (by kernel_rfl) rfl ?_
          refine d_p 11 rfl (p_len_slice rfl rfl Tryz.underlying77) (by kernel_rfl) rfl rfl ?_
          refine d_two 1 4 rfl rfl  (OpQ.toH (q_load rfl rfl sz_3 aPk rfl)) (OpQ.toH (q_load rfl rfl sz_3 aPk rfl)) (by kernel_rfl) (fun w h => h.ent aEt) rfl rfl  (fun _ _ => ?_) (fun _ _ => ?_)
          · skip
            refine dP 2 ?_
            try (refine d_slot (i64w (by omega) (by omega)) ?_)
            refine d_h 4 rfl (OpQ.toH (q_load rfl rfl sz_3 aPk rfl)) (by kernel_rfl) (fun w h => h.ent aEt) rfl (fun _ _ => ?_)
            refine dP 12 ?_
            try (refine d_slot (i64w (by omega) (by omega)) ?_)
            refine d_p 13 rfl (p_fieldAddr rfl rfl fd_71_1 sz_3 rfl) (by kernel_rfl) rfl rfl ?_
            refine d_h0 14 rfl (h_store rfl rfl rfl sz_3 rfl aPt (by simp only [setMany_length, List.length_set, List.length_cons, List.length_nil, List.length_map]; omega) rfl) (by kernel_rfl) (fun w h => h.ent aEt) (fun _ _ => ?_)
            refine d_p 15 rfl (p_fieldAddr rfl rfl fd_71_2 sz_3 rfl) (by kernel_rfl) rfl rfl ?_
            refine d_h0 16 rfl (h_store rfl rfl rfl sz_3 rfl aPt (by simp only [setMany_length, List.length_set, List.length_cons, List.length_nil, List.length_map]; omega) rfl) (by kernel_rfl) (fun w h => h.ent aEt) (fun _ _ => ?_)
            refine d_nil (by kernel_rfl) (fun w h => by first | exact h | exact h.ent aEt) ?_
            exact s_joinI () trivial aSx (fun w h => by rw [hst]; exact h.ent aEt)
          · skip
            refine dP 12 ?_
            try (refine d_slot (i64w (by omega) (by omega)) ?_)
            refine d_h 1 rfl (OpQ.toH (q_load rfl rfl sz_3 aPk rfl)) (by kernel_rfl) (fun w h => h.ent aEt) rfl (fun _ _ => ?_)
            refine dP 2 ?_
            try (refine d_slot (i64w (by omega) (by omega)) ?_)
            refine d_p 13 rfl (p_fieldAddr rfl rfl fd_71_1 sz_3 rfl) (by kernel_rfl) rfl rfl ?_
            refine d_h0 14 rfl (h_store rfl rfl rfl sz_3 rfl aPt (by simp only [setMany_length, List.length_set, List.length_cons, List.length_nil, List.length_map]; omega) rfl) (by kernel_rfl) (fun w h => h.ent aEt) (fun _ _ => ?_)
            refine d_p 15 rfl (p_fieldAddr rfl rfl fd_71_2 sz_3 rfl) (by kernel_rfl) rfl rfl ?_
            refine d_h0 16 rfl (h_store rfl rfl rfl sz_3 rfl aPt (by simp only [setMany_length, List.length_set, List.length_cons, List.length_nil, List.length_map]; omega) rfl) (by kernel_rfl) (fun w h => h.ent aEt) (fun _ _ => ?_)
            refine d_nil (by kernel_rfl) (fun w h => by first | exact h | exact h.ent aEt) ?_
            exact s_joinI () trivial aSx (fun w h => by rw [hst]; exact h.ent aEt)
        · skip
          have hst := shA_f (ns := pln L) hnk (by have hq := h6; simpa [LNd.pl] using hq)
          refine s_region ?_
          refine o_p (p_fieldAddr rfl rfl fd_71_3 sz_3 rfl) rfl ?_
          refine o_q (q_load rfl rfl sz_3 aPk rfl) rfl ?_
          refine oP ?_
          try (refine o_slot (i64w (by omega) (by omega)) ?_)
          refine o_p (p_fieldAddr rfl rfl fd_71_3 sz_3 rfl) rfl ?_
          refine o_h0 (h_store rfl rfl rfl sz_3 rfl aPt (by simp only [setMany_length, List.length_set, List.length_cons, List.length_nil, List.length_map]; omega) rfl) (fun _ _ => ?_)
          refine o_nil ?_
          exact s_joinI () trivial aSx (fun w h => by rw [hst]; exact h.ent aEt)
      · intro _ _
        refine s_blk ?_
        refine s_region ?_
        refine oP ?_
        refine oP ?_
        try (refine o_slot (i64w (by omega) (by omega)) ?_)
        refine oP ?_
        refine o_nil ?_
        exact s_backI (k + 1) (by omega) (by omega) aSx (fun w h => h.ent aEt)
    · try simp only [decide_eq_false_iff_not] at h5
      obtain rfl : k = L.length := by omega
      refine s_exit_to rfl ?_
      refine s_seq ?_
      refine s_region ?_
      refine o_q (q_loadn rfl rfl sz_71 aPk rfl) rfl ?_
      refine o_h0 (h_store rfl rfl rfl sz_71 rfl aPt (by simp only [setMany_length, List.length_set, List.length_cons, List.length_nil, List.length_map]; omega) rfl) (fun _ _ => ?_)
      refine o_nil ?_
      exact s_retv (rs := [.cell 2 71]) rfl (.cell rfl sz_71 aPk rfl (.nil)) (fun w' h' => ⟨by simp only [retV, shpV]; rw [hnl, hdp]; rfl, h'.below⟩)

end Go.Proofs

namespace Go.Proofs
open Go Go.RowKit Gx
set_option linter.unusedVariables false
set_option linter.unusedSimpArgs false
attribute [local irreducible] Go.Calls Gx.S Gx.O Gx.D Gx.OpP Gx.OpQ Gx.OpH

theorem fn_40 : isFn Tryz.prog 40 = true := by kernel_rfl
theorem eqk_71 : teqk Tryz.prog 71 = some [0, 0, 0, 0] := by kernel_rfl
theorem fn_42 : isFn Tryz.prog 42 = true := by kernel_rfl


set_option maxRecDepth 20000 in
set_option maxHeartbeats 400000 in
theorem c8z (w : World) (co mo rm : Int) (a : Option Addr) (cap : Nat) (L : List LNd) (hs : Nt w [] a L) (hz : ¬ tfewB (pln L) = true) : Calls Tryz.prog 8 #[.agg #[.int .i64 co, .int .i64 mo, .int .i64 rm, .slice a L.length cap]] w fun en w' => en = .returned (.bool true) ∧ Below w.heap.size w w' := by
  refine enter (args := [_]) Tryz.func8 Tryz.ntmps8 rfl rfl (HS.refl w []) ?_
  refine s_seq ?_
  refine s_region ?_
  refine o_h (h_box rfl rfl) rfl (fun b1 _ => ?_)
  refine oP ?_
  refine o_nil ?_
  refine s_seq ?_
  refine s_seq ?_
  refine s_region ?_
  refine o_q (q_call rfl fn_13 rfl (fun w1 h1 => c13 w1)) rfl ?_
  refine oP ?_
  refine o_nil ?_
  refine s_cond rfl (fun h2 => ?_) (fun h2 => ?_)
  · try simp only [Bool.not_true] at h2
    exfalso; simp at h2
  · try simp only [Bool.not_true] at h2
    refine s_skip ?_
    refine s_seq ?_
    refine s_seq ?_
    refine s_region ?_
    refine o_q (q_loadn rfl rfl sz_24 aPk rfl) rfl ?_
    refine o_q (q_call rfl fn_14 rfl (fun w1 h1 => c14 w1 co mo rm a cap L (hs.later h1.nil))) rfl ?_
    refine oP ?_
    refine o_nil ?_
    refine s_cond rfl (fun h3 => ?_) (fun h3 => ?_)
    · try simp only [Bool.not_eq_true'] at h3
      refine s_seq ?_
      refine s_region ?_
      refine oP ?_
      refine o_nil ?_
      exact s_retv (rs := [.tmp 2]) rfl (.tmp rfl (.nil)) (fun w' h' => ⟨by rfl, h'.below⟩)
    · try simp only [Bool.not_eq_false'] at h3
      exfalso; exact hz (by have hq := h3; simpa using hq)

set_option maxRecDepth 20000 in
set_option maxHeartbeats 400000 in
theorem c8e (w : World) (co mo rm : Int) (a : Option Addr) (cap : Nat) (L : List LNd) (hs : Nt w [] a L) (hfw : tfewB (pln L) = true) (he : ¬ (treE (⟨co, mo, rm, pln L⟩ : Tre)).2 = 0) : Calls Tryz.prog 8 #[.agg #[.int .i64 co, .int .i64 mo, .int .i64 rm, .slice a L.length cap]] w fun en w' => en = .returned (.bool true) ∧ Below w.heap.size w w' := by
  have hB := tfew_bd hfw
  have hkl := tfew_keys hfw
  have hsm := tfew_sm hfw
  have hle := hB.len
  rw [pln_len] at hle
  refine enter (args := [_]) Tryz.func8 Tryz.ntmps8 rfl rfl (HS.refl w []) ?_
  refine s_seq ?_
  refine s_region ?_
  refine o_h (h_box rfl rfl) rfl (fun b1 _ => ?_)
  refine oP ?_
  refine o_nil ?_
  refine s_seq ?_
  refine s_seq ?_
  refine s_region ?_
  refine o_q (q_call rfl fn_13 rfl (fun w1 h1 => c13 w1)) rfl ?_
  refine oP ?_
  refine o_nil ?_
  refine s_cond rfl (fun h2 => ?_) (fun h2 => ?_)
  · try simp only [Bool.not_true] at h2
    exfalso; simp at h2
  · try simp only [Bool.not_true] at h2
    refine s_skip ?_
    refine s_seq ?_
    refine s_seq ?_
    refine s_region ?_
    refine o_q (q_loadn rfl rfl sz_24 aPk rfl) rfl ?_
    refine o_q (q_call rfl fn_14 rfl (fun w1 h1 => c14 w1 co mo rm a cap L (hs.later h1.nil))) rfl ?_
    refine oP ?_
    refine o_nil ?_
    refine s_cond rfl (fun h3 => ?_) (fun h3 => ?_)
    · try simp only [Bool.not_eq_true'] at h3
      exfalso; simp [hfw] at h3
    · try simp only [Bool.not_eq_false'] at h3
      refine s_skip ?_
      refine s_seq ?_
      refine s_region ?_
      refine o_q (q_loadn rfl rfl sz_24 aPk rfl) rfl ?_
      refine o_h (h_call rfl fn_17 rfl (fun w1 h1 => c17 w1 co mo rm a cap L (hs.later h1.nil) hle hsm)) rfl (fun ⟨⟨ga1, gc1⟩, LC1⟩ hLC1 => ?_)
      dsimp only
      refine o_q (q_call rfl fn_39 rfl (fun w1 h1 => c39 w1 co mo rm ga1 gc1 LC1 (HS.nt h1 aPk) (by rw [hLC1]; exact hB) (tfew_keys (by rw [hLC1]; exact hfw)))) rfl ?_
      rw [hLC1]
      refine oP ?_
      refine oP ?_
      refine oP ?_
      refine oP ?_
      refine oP ?_
      refine o_nil ?_
      refine s_seq ?_
      refine s_region ?_
      refine o_q (q_loadn rfl rfl sz_24 aPk rfl) rfl ?_
      refine o_h (h_call rfl fn_17 rfl (fun w1 h1 => c17 w1 co mo rm a cap L (hs.later h1.nil) hle hsm)) rfl (fun ⟨⟨ga2, gc2⟩, LC2⟩ hLC2 => ?_)
      dsimp only
      refine o_q (q_call rfl fn_40 rfl (fun w1 h1 => c40e w1 co mo rm ga2 gc2 LC2 (HS.nt h1 aPk) (by rw [hLC2]; exact hB) (tfew_keys (by rw [hLC2]; exact hfw)) (by rw [hLC2]; exact he))) rfl ?_
      try rw [hLC2]
      refine oP ?_
      refine oP ?_
      refine oP ?_
      refine o_h (h_alloc rfl zr_71) rfl (fun b4 _ => ?_)
      refine o_h0 (h_store rfl rfl rfl sz_71 rfl aPt (by simp only [setMany_length, List.length_set, List.length_cons, List.length_nil, List.length_map]; omega) rfl) (fun _ _ => ?_)
      refine oP ?_
      refine o_nil ?_
      refine s_seq ?_
      refine s_region ?_
      refine o_q (q_loadn rfl rfl sz_24 aPk rfl) rfl ?_
      refine o_q (q_call rfl fn_41 rfl (fun w1 h1 => c41 w1 co mo rm a cap L (hs.later h1.nil) hB hkl)) rfl ?_
      refine oP ?_
      refine oP ?_
      refine oP ?_
      refine oP ?_
      refine oP ?_
      refine o_nil ?_
      refine s_seq ?_
      refine s_seq ?_
      refine s_weaken (L' := [(1, _), (2, _), (3, _), (4, _), (5, _), (6, _), (7, _), (8, _)]) aSx (fun _ h => h) ?_
      refine s_region ?_
      refine oP ?_
      refine oP ?_
      refine oP ?_
      refine oP ?_
      refine o_or 4 34 38 _ _ rfl
        (by
          intro hg5
          have hs6 := hg5; try simp only [Bool.not_eq_false', decide_eq_true_eq] at hs6
          refine o_on 34 _ rfl rfl hg5 ?_
          refine oP ?_
          refine o_on 34 _ rfl rfl hg5 ?_
          refine oP ?_
          refine o_on 34 _ rfl rfl hg5 ?_
          refine oP ?_
          refine o_p (p_pickf rfl rfl hg5 rfl) rfl ?_
          refine o_nil ?_
          exact s_joinN 4 38 _ rfl rfl rfl (fun w h => by first | exact h | exact h.ent aEt))
        (by
          intro hg7
          have hs8 := hg7; try simp only [Bool.not_eq_true', decide_eq_false_iff_not] at hs8
          refine o_off 34 _ rfl rfl hg7 rfl ?_
          refine o_off 34 _ rfl rfl hg7 rfl ?_
          refine o_off 34 _ rfl rfl hg7 rfl ?_
          refine o_p (p_pickt rfl rfl hg7 rfl) rfl ?_
          refine o_nil ?_
          exact s_joinN 4 38 _ rfl rfl rfl (fun w h => by first | exact h | exact h.ent aEt)) ?_
      refine o_nil ?_
      refine s_cond rfl (fun h9 => ?_) (fun h9 => ?_)
      · try simp only [Bool.or_eq_true, Bool.not_eq_true', decide_eq_false_iff_not] at h9
        exfalso; simp at h9
      · try simp only [Bool.or_eq_false_iff, Bool.not_eq_false', decide_eq_true_eq] at h9
        refine s_skip ?_
        refine s_seq ?_
        refine s_seq ?_
        refine s_region ?_
        refine oP ?_
        refine oP ?_
        refine o_nil ?_
        refine s_cond rfl (fun h10 => ?_) (fun h10 => ?_)
        · try simp only [Bool.not_eq_true', decide_eq_false_iff_not] at h10
          refine s_seq ?_
          refine s_region ?_
          refine oP ?_
          refine oP ?_
          refine oP ?_
          refine oP ?_
          refine o_and 4 44 48 _ _ rfl
            (by
              intro hg11
              have hs12 := hg11; try simp only [decide_eq_true_eq] at hs12
              refine o_on 44 _ rfl rfl hg11 ?_
              refine o_q (q_loadn rfl rfl sz_71 aPk rfl) rfl ?_
              refine o_on 44 _ rfl rfl hg11 ?_
              refine o_p (p_build (cs := [_, _, _, _]) rfl rfl pl_71 zr_71 rfl) rfl ?_
              refine o_on 44 _ rfl rfl hg11 ?_
              refine o_p (p_eql_agg rfl rfl rfl eqk_71 (by rfl) (by rfl) (by rfl)) rfl ?_
              refine o_p (p_pickt rfl rfl hg11 rfl) rfl ?_
              refine o_nil ?_
              exact s_joinN 4 48 _ rfl rfl rfl (fun w h => by first | exact h | exact h.ent aEt))
            (by
              intro hg13
              have hs14 := hg13; try simp only [decide_eq_false_iff_not] at hs14
              refine o_off 44 _ rfl rfl hg13 rfl ?_
              refine o_off 44 _ rfl rfl hg13 rfl ?_
              refine o_off 44 _ rfl rfl hg13 rfl ?_
              refine o_p (p_pickf rfl rfl hg13 rfl) rfl ?_
              refine o_nil ?_
              exact s_joinN 4 48 _ rfl rfl rfl (fun w h => by first | exact h | exact h.ent aEt)) ?_
          refine oP ?_
          refine o_nil ?_
          exact s_retv (rs := [.tmp 2]) rfl (.tmp rfl (.nil)) (fun w' h' => ⟨by simp [retV], h'.below⟩)
        · try simp only [Bool.not_eq_false', decide_eq_true_eq] at h10
          exfalso; omega

set_option maxRecDepth 20000 in
set_option maxHeartbeats 400000 in
theorem c8o (w : World) (j : Nat) (mo rm : Int) (a : Option Addr) (cap : Nat) (L : List LNd) (hs : Nt w [] a L) (hfw : tfewB (pln L) = true) (h0 : (treE (⟨(j : Int), mo, rm, pln L⟩ : Tre)).2 = 0) : Calls Tryz.prog 8 #[.agg #[.int .i64 (j : Int), .int .i64 mo, .int .i64 rm, .slice a L.length cap]] w fun en w' => en = .returned (.bool true) ∧ Below w.heap.size w w' := by
  have hB := tfew_bd hfw
  have hkl := tfew_keys hfw
  have hsm := tfew_sm hfw
  have hle := hB.len
  rw [pln_len] at hle
  obtain ⟨hc0, hz0, hl0, hl120, hn0, _, _⟩ := treE_0 h0
  rw [show ((⟨(j : Int), mo, rm, pln L⟩ : Tre)).ns = pln L from rfl, pln_len] at hl0 hl120
  have hj : j ≤ 3 := by obtain ⟨j9, e9, hj9⟩ := col_ok hc0; have e8 : ((j : Nat) : Int) = (j9 : Int) := e9; omega
  have hT : TOk (j : Int) (pln L) := tok_of (t := (⟨(j : Int), mo, rm, pln L⟩ : Tre)) hn0
  have hmo := (sizE_0 hz0).1
  simp only [] at hmo
  refine enter (args := [_]) Tryz.func8 Tryz.ntmps8 rfl rfl (HS.refl w []) ?_
  refine s_seq ?_
  refine s_region ?_
  refine o_h (h_box rfl rfl) rfl (fun b1 _ => ?_)
  refine oP ?_
  refine o_nil ?_
  refine s_seq ?_
  refine s_seq ?_
  refine s_region ?_
  refine o_q (q_call rfl fn_13 rfl (fun w1 h1 => c13 w1)) rfl ?_
  refine oP ?_
  refine o_nil ?_
  refine s_cond rfl (fun h2 => ?_) (fun h2 => ?_)
  · try simp only [Bool.not_true] at h2
    exfalso; simp at h2
  · try simp only [Bool.not_true] at h2
    refine s_skip ?_
    refine s_seq ?_
    refine s_seq ?_
    refine s_region ?_
    refine o_q (q_loadn rfl rfl sz_24 aPk rfl) rfl ?_
    refine o_q (q_call rfl fn_14 rfl (fun w1 h1 => c14 w1 (j : Int) mo rm a cap L (hs.later h1.nil))) rfl ?_
    refine oP ?_
    refine o_nil ?_
    refine s_cond rfl (fun h3 => ?_) (fun h3 => ?_)
    · try simp only [Bool.not_eq_true'] at h3
      exfalso; simp [hfw] at h3
    · try simp only [Bool.not_eq_false'] at h3
      refine s_skip ?_
      refine s_seq ?_
      refine s_region ?_
      refine o_q (q_loadn rfl rfl sz_24 aPk rfl) rfl ?_
      refine o_h (h_call rfl fn_17 rfl (fun w1 h1 => c17 w1 (j : Int) mo rm a cap L (hs.later h1.nil) hle hsm)) rfl (fun ⟨⟨ga1, gc1⟩, LC1⟩ hLC1 => ?_)
      dsimp only
      refine o_q (q_call rfl fn_39 rfl (fun w1 h1 => c39 w1 (j : Int) mo rm ga1 gc1 LC1 (HS.nt h1 aPk) (by rw [hLC1]; exact hB) (tfew_keys (by rw [hLC1]; exact hfw)))) rfl ?_
      rw [hLC1]
      refine oP ?_
      refine oP ?_
      refine oP ?_
      refine oP ?_
      refine oP ?_
      refine o_nil ?_
      refine s_seq ?_
      refine s_region ?_
      refine o_q (q_loadn rfl rfl sz_24 aPk rfl) rfl ?_
      refine o_h (h_call rfl fn_17 rfl (fun w1 h1 => c17 w1 (j : Int) mo rm a cap L (hs.later h1.nil) hle hsm)) rfl (fun ⟨⟨ga2, gc2⟩, LC2⟩ hLC2 => ?_)
      dsimp only
      refine o_q (q_call rfl fn_40 rfl (fun w1 h1 => c40o w1 j mo rm ga2 gc2 LC2 (HS.nt h1 aPk) (by rw [hLC2]; exact hB) (tfew_keys (by rw [hLC2]; exact hfw)) (by rw [hLC2]; exact h0))) rfl ?_
      try rw [hLC2]
      refine oP ?_
      refine oP ?_
      refine oP ?_
      refine o_h (h_alloc rfl zr_71) rfl (fun b4 _ => ?_)
      refine o_h0 (h_store rfl rfl rfl sz_71 rfl aPt (by simp only [setMany_length, List.length_set, List.length_cons, List.length_nil, List.length_map]; omega) rfl) (fun _ _ => ?_)
      refine oP ?_
      refine o_nil ?_
      refine s_seq ?_
      refine s_region ?_
      refine o_q (q_loadn rfl rfl sz_24 aPk rfl) rfl ?_
      refine o_q (q_call rfl fn_41 rfl (fun w1 h1 => c41 w1 (j : Int) mo rm a cap L (hs.later h1.nil) hB hkl)) rfl ?_
      refine oP ?_
      refine oP ?_
      refine oP ?_
      refine oP ?_
      refine oP ?_
      refine o_nil ?_
      refine s_seq ?_
      refine s_seq ?_
      refine s_weaken (L' := [(1, _), (2, _), (3, _), (4, _), (5, _), (6, _), (7, _), (8, _)]) aSx (fun _ h => h) ?_
      refine s_region ?_
      refine oP ?_
      refine oP ?_
      refine oP ?_
      refine oP ?_
      refine o_or 4 34 38 _ _ rfl
        (by
          intro hg5
          have hs6 := hg5; try simp only [Bool.not_eq_false', decide_eq_true_eq] at hs6
          refine o_on 34 _ rfl rfl hg5 ?_
          refine oP ?_
          refine o_on 34 _ rfl rfl hg5 ?_
          refine oP ?_
          refine o_on 34 _ rfl rfl hg5 ?_
          refine oP ?_
          refine o_p (p_pickf rfl rfl hg5 rfl) rfl ?_
          refine o_nil ?_
          exact s_joinN 4 38 _ rfl rfl rfl (fun w h => by first | exact h | exact h.ent aEt))
        (by
          intro hg7
          have hs8 := hg7; try simp only [Bool.not_eq_true', decide_eq_false_iff_not] at hs8
          refine o_off 34 _ rfl rfl hg7 rfl ?_
          refine o_off 34 _ rfl rfl hg7 rfl ?_
          refine o_off 34 _ rfl rfl hg7 rfl ?_
          refine o_p (p_pickt rfl rfl hg7 rfl) rfl ?_
          refine o_nil ?_
          exact s_joinN 4 38 _ rfl rfl rfl (fun w h => by first | exact h | exact h.ent aEt)) ?_
      refine o_nil ?_
      refine s_cond rfl (fun h9 => ?_) (fun h9 => ?_)
      · try simp only [Bool.or_eq_true, Bool.not_eq_true', decide_eq_false_iff_not] at h9
        exfalso; simp at h9
      · try simp only [Bool.or_eq_false_iff, Bool.not_eq_false', decide_eq_true_eq] at h9
        refine s_skip ?_
        refine s_seq ?_
        refine s_seq ?_
        refine s_region ?_
        refine oP ?_
        refine oP ?_
        refine o_nil ?_
        refine s_cond rfl (fun h10 => ?_) (fun h10 => ?_)
        · try simp only [Bool.not_eq_true', decide_eq_false_iff_not] at h10
          exfalso; omega
        · try simp only [Bool.not_eq_false', decide_eq_true_eq] at h10
          refine s_skip ?_
          refine s_seq ?_
          refine s_draw [] mixed ?_
          refine dP 0 ?_
          refine dP 1 ?_
          refine dP 2 ?_
          apply d_split 51
          · exact rfl
          · intro hg11
            have hs12 := hg11; try simp only [decide_eq_true_eq] at hs12
            refine d_qon 3 51 [] rfl rfl rfl hg11 (q_loadn rfl rfl sz_71 aPk rfl) (by kernel_rfl) (by kernel_rfl) (by kernel_rfl) rfl ?_
            refine d_qon 4 51 [] rfl rfl rfl hg11 (q_loadn rfl rfl sz_24 aPk rfl) (by kernel_rfl) (by kernel_rfl) (by kernel_rfl) rfl ?_
            refine d_qon 5 51 [] rfl rfl rfl hg11 (q_call rfl fn_42 rfl (fun w1 h1 => c42 w1 j mo rm a cap L (hs.later h1.nil) hB hl0 hT)) (by kernel_rfl) (by kernel_rfl) (by kernel_rfl) rfl ?_
            refine d_pon 6 51 rfl rfl rfl hg11 (p_eql_agg rfl rfl rfl eqk_71 (by rfl) (by rfl) (by rfl)) (by kernel_rfl) rfl rfl ?_
            refine d_p 7 rfl (p_pickt rfl rfl hg11 rfl) (by kernel_rfl) rfl rfl ?_
            refine dP 8 ?_
            refine d_nil (by kernel_rfl) (fun w h => by first | exact h | exact h.ent aEt) ?_
            exact s_retv (rs := [.tmp 2]) rfl (.tmp rfl (.nil)) (fun w' h' => ⟨by first | (exfalso; simp at *; done) | (simp [retV]; done), h'.below⟩)
          · intro hg13
            have hs14 := hg13; try simp only [decide_eq_false_iff_not] at hs14
            refine d_off 3 51 rfl rfl rfl hg13 (by kernel_rfl) rfl rfl ?_
            refine d_off 4 51 rfl rfl rfl hg13 (by kernel_rfl) rfl rfl ?_
            refine d_off 5 51 rfl rfl rfl hg13 (by kernel_rfl) rfl rfl ?_
            refine d_off 6 51 rfl rfl rfl hg13 (by kernel_rfl) rfl rfl ?_
            refine d_p 7 rfl (p_pickf rfl rfl hg13 rfl) (by kernel_rfl) rfl rfl ?_
            refine dP 8 ?_
            refine d_nil (by kernel_rfl) (fun w h => by first | exact h | exact h.ent aEt) ?_
            exact s_retv (rs := [.tmp 2]) rfl (.tmp rfl (.nil)) (fun w' h' => ⟨by first | (exfalso; simp at *; done) | (simp [retV]; done), h'.below⟩)

theorem c8 (w : World) (co mo rm : Int) (a : Option Addr) (cap : Nat) (L : List LNd) (hs : Nt w [] a L) : Calls Tryz.prog 8 #[.agg #[.int .i64 co, .int .i64 mo, .int .i64 rm, .slice a L.length cap]] w fun en w' => en = .returned (.bool true) ∧ Below w.heap.size w w' := by
  by_cases hz : tfewB (pln L) = true
  · by_cases h0 : (treE (⟨co, mo, rm, pln L⟩ : Tre)).2 = 0
    · obtain ⟨j, rfl, hj⟩ := col_ok (treE_0 h0).1
      exact c8o w j mo rm a cap L hs hz h0
    · exact c8e w co mo rm a cap L hs hz h0
  · exact c8z w co mo rm a cap L hs hz

end Go.Proofs

