/- Contracts of the program's functions, proved by walking them with the rules of the Gx texts; without conditions beyond those that each contract names. -/
import Derived.WalkKit
import Derived.Deep.Draws
import Derived.TacticsIn
import Derived.OrdersIn
import Derived.RangeFuncLeaves
import Derived.Lib.Strings
import Derived.Laws.BytesArg
import Derived.Laws.IdiomStrings
import Derived.Deep.Quiet
import Derived.ProofKit
import Derived.OpenShut
import Derived.Laws.StructEq
import Derived.ChangeKeysEq
import Derived.Laws.Externs
import Derived.Lib.Overlaps
import Derived.Carry
import Derived.Laws.Small
import Derived.Lib.Bytealg
import Derived.Test.YtfappgmkbnddiaaGreatProg
import Derived.KernelRfl
import Derived.Lib.Builder
import Derived.Laws.Pointers
import Derived.RangeFuncRecord
import Derived.Test.YtfappgmkbnddiaaGreatP3
namespace Go.Proofs
open Go Go.RowKit Gx
set_option linter.unusedVariables false
set_option linter.unusedSimpArgs false
attribute [local irreducible] Go.Calls Gx.S Gx.O Gx.D Gx.OpP Gx.OpQ Gx.OpH

theorem fn_33 : isFn Tryz.prog 33 = true := by kernel_rfl


set_option maxRecDepth 20000 in
theorem c23 (w : World) (a b : Option Addr) (c d : Nat) (l m : List Int) (hs : Rw inV 1 w [] a l) (ht : Rw inV 1 w [] b m) (hl : l.length ≤ 100000) (hm : m.length ≤ 100000) : Calls Tryz.prog 23 #[.slice a l.length c, .slice b m.length d] w fun en w' => en = .returned (.bool (decide (l = m))) ∧ Below w.heap.size w w' := by
  refine enter (args := [_, _]) Tryz.func23 Tryz.ntmps23 rfl rfl (HS.refl w []) ?_
  refine s_seq ?_
  refine s_region ?_
  refine oP ?_
  refine o_nil ?_
  refine s_seq ?_
  refine s_seq ?_
  refine s_region ?_
  refine oP ?_
  refine o_p (p_len_slice rfl rfl Tryz.underlying30) rfl ?_
  refine oP ?_
  refine o_p (p_len_slice rfl rfl Tryz.underlying30) rfl ?_
  refine oP ?_
  refine o_nil ?_
  refine s_cond rfl (fun h1 => ?_) (fun h1 => ?_)
  · try simp only [Bool.not_eq_true', decide_eq_false_iff_not] at h1
    have hn9 : l ≠ m := fun e => by have hq := h1; rw [e] at hq; simp at hq
    refine s_seq ?_
    refine s_region ?_
    refine oP ?_
    refine o_nil ?_
    exact s_retv (rs := [.tmp 4]) rfl (.tmp rfl (.nil)) (fun w' h' => ⟨by rw [decide_eq_false hn9]; rfl, h'.below⟩)
  · try simp only [Bool.not_eq_false', decide_eq_true_eq] at h1
    have hlm : l.length = m.length := by have hq := h1; omega
    refine s_skip ?_
    refine s_seq ?_
    refine s_seq ?_
    refine s_region ?_
    refine oP ?_
    refine o_nil ?_
    refine s_block ?_
    refine s_loopI (α := Nat) [4, 5, 11, 12, 13, 14, 15, 16, 17, 18, 19, 20, 21, 22, 23, 24, 25] (fun k => [(5, .int .i64 (k : Int))]) (fun _ => HS w [] []) (fun k => k ≤ l.length ∧ ∀ j, j < k → nth l j = nth m j) (fun k => l.length - k) 0 ⟨Nat.zero_le _, fun j h => absurd h (Nat.not_lt_zero j)⟩ aSx (fun w h => h.ent aEt) (fun k hx => ?_)
    obtain ⟨hk1, hk3⟩ := hx
    refine s_seq ?_
    refine s_seq ?_
    refine s_region ?_
    refine oP ?_
    refine oP ?_
    refine o_p (p_len_slice rfl rfl Tryz.underlying30) rfl ?_
    refine oP ?_
    refine o_nil ?_
    refine s_cond rfl (fun h2 => ?_) (fun h2 => ?_)
    · try simp only [decide_eq_true_eq] at h2
      have hk : k < l.length := by omega
      have hk2 : k < m.length := by omega
      refine s_skip ?_
      refine s_seq ?_
      refine s_block ?_
      refine s_seq ?_
      refine s_draw [] mixed ?_
      refine dP 0 ?_
      refine dP 1 ?_
      refine d_p 2 rfl (p_indexAddr rfl rfl rfl sl_30 (k) (by omega) (by omega) (Rw.some hs (by omega))) (by kernel_rfl) rfl rfl ?_
      refine d_q 3 [] rfl (q_load_old rfl rfl sz_3 ((hs.rdj 0 (by omega) rfl))) (by kernel_rfl) (by kernel_rfl) (by kernel_rfl) rfl ?_
      refine dP 4 ?_
      refine dP 5 ?_
      refine d_p 6 rfl (p_indexAddr rfl rfl rfl sl_30 (k) (by omega) (by omega) (Rw.some ht (by omega))) (by kernel_rfl) rfl rfl ?_
      refine d_q 7 [] rfl (q_load_old rfl rfl sz_3 ((ht.rdj 0 (by omega) rfl))) (by kernel_rfl) (by kernel_rfl) (by kernel_rfl) rfl ?_
      refine dP 8 ?_
      refine d_nil (by kernel_rfl) (fun w h => by first | exact h | exact h.ent aEt) ?_
      refine s_cond rfl (fun h3 => ?_) (fun h3 => ?_)
      · try simp only [Bool.not_eq_true', decide_eq_false_iff_not] at h3
        have hn9 : l ≠ m := fun e => by have hq := h3; rw [e] at hq; simp at hq
        refine s_seq ?_
        refine s_region ?_
        refine oP ?_
        refine o_nil ?_
        exact s_retv (rs := [.tmp 4]) rfl (.tmp rfl (.nil)) (fun w' h' => ⟨by rw [decide_eq_false hn9]; rfl, h'.below⟩)
      · try simp only [Bool.not_eq_false', decide_eq_true_eq] at h3
        have he9 : nth l k = nth m k := by have hq := h3; exact hq
        refine s_skip ?_
        refine s_blk ?_
        refine s_region ?_
        refine oP ?_
        refine oP ?_
        try (refine o_slot (i64w (by omega) (by omega)) ?_)
        refine oP ?_
        refine o_nil ?_
        exact s_backI (k + 1) (by omega) ⟨by omega, fun j hj => (Nat.lt_or_ge j k).elim (hk3 j) (fun h9 => by obtain rfl : j = k := (by omega); exact he9)⟩ aSx (fun w h => h.ent aEt)
    · try simp only [decide_eq_false_iff_not] at h2
      have hl9 : l = m := list_ext_nth hlm fun j hj => hk3 j (by omega)
      refine s_exit_to rfl ?_
      refine s_seq ?_
      refine s_region ?_
      refine oP ?_
      refine o_nil ?_
      exact s_retv (rs := [.tmp 4]) rfl (.tmp rfl (.nil)) (fun w' h' => ⟨by rw [decide_eq_true hl9]; rfl, h'.below⟩)

set_option maxRecDepth 20000 in
theorem c62 (w : World) (a : Option Addr) (cap : Nat) (l : List TEnt) (i : Nat) (x : TEnt) (hs : Rw TEnt.vals 2 w [] a l) (hl : l.length ≤ 100000) (hi : i ≤ l.length) (hlc : l.length ≤ cap) : Calls Tryz.prog 62 #[.slice a l.length cap, .int .i64 (i : Int), .agg #[.string (bs x.key), .string (bs x.val)]] w fun en w' => ∃ g : Option Addr × Nat, en = .returned (.slice g.1 (insAt l i x).length g.2) ∧ True ∧ HS w [] [.own (.slice g.1 (insAt l i x).length g.2) 26 2 (insAt l i x).length ((insAt l i x).flatMap TEnt.vals)] w' := by
  refine enter (args := [_, _, _]) Tryz.func62 Tryz.ntmps62 rfl rfl (HS.refl w []) ?_
  refine s_seq ?_
  refine s_region ?_
  refine o_h (h_box rfl rfl) rfl (fun b1 _ => ?_)
  refine oP ?_
  refine o_nil ?_
  refine s_seq ?_
  refine s_region ?_
  refine o_h (h_buildSlice0 rfl sl_77) rfl (fun b2 _ => ?_)
  refine oP ?_
  refine oP ?_
  refine o_p (p_slice _ _ 0 i rfl rfl sl_77 rfl ⟨_, _, rfl, rfl⟩ (by omega) (by omega)) rfl ?_
  refine o_h (h_appendS ((l.take i).flatMap TEnt.vals) rfl rfl rfl sl_77 Tryz.underlying77 zr_26 rfl aPk (fun w h => Rw.src ev2 (rw_take (Rw.cut (i := 0) hs hlc) i) h) (by rw [flat_length ev2, List.length_take, Nat.min_eq_left hi]; first | rfl | omega) (flat_one ev1 _) (by omega) (by simp only [maxLen]; omega)) rfl (fun b3 _ => ?_)
  refine oP ?_
  refine o_nil ?_
  refine s_seq ?_
  refine s_draw [3, 7] mixed ?_
  refine dP 0 ?_
  refine d_q 1 [[2], [3, 2]] rfl (q_loadn rfl rfl sz_26 aPk rfl) (by kernel_rfl) (by kernel_rfl) (by kernel_rfl) rfl ?_
  refine dP 4 ?_
  refine dP 5 ?_
  refine d_p 6 rfl (p_slice _ _ i l.length rfl rfl sl_77 ⟨_, _, rfl, rfl⟩ rfl (by omega) (by omega)) (by kernel_rfl) rfl rfl ?_
  refine d_h 2 rfl (h_buildSlice (cs := [_, _]) rfl rfl sl_77 zr_26 rfl rfl rfl) (by kernel_rfl) (fun w h => h.ent aEt) rfl (fun b4 _ => ?_)
  refine d_base (fun w h => h.ent aEt) ?_
  refine d_h 3 rfl (h_appendS (TEnt.vals x) rfl rfl rfl sl_77 Tryz.underlying77 zr_26 rfl aPk (src_blk aPk) rfl (ev1 _) (by omega) (by simp only [maxLen]; omega)) (by kernel_rfl) (fun w h => h.ent aEt) rfl (fun b5 _ => ?_)
  refine d_turn [7] (by kernel_rfl) ?_
  refine d_h 7 rfl (h_appendS ((l.drop i).flatMap TEnt.vals) rfl rfl rfl sl_77 Tryz.underlying77 zr_26 rfl aPk (fun w h => Rw.src ev2 (Rw.cut hs hlc) h) (by rw [flat_length ev2, List.length_drop]) (flat_one ev1 _) (by omega) (by simp only [maxLen]; omega)) (by kernel_rfl) (fun w h => h.ent aEt) rfl (fun b6 _ => ?_)
  refine d_turn [] (by kernel_rfl) ?_
  refine dP 8 ?_
  refine d_nil (by kernel_rfl) (fun w h => by first | exact h | exact h.ent aEt) ?_
  exact s_retv (rs := [.tmp 6]) rfl (.tmp rfl (.nil)) (fun w' h' => ⟨b6, by simp only [retV]; congr 2; rw [ins_len hi]; omega, trivial, by have h2 := h'; rw [show 0 + (i - 0) + 1 + (l.length - i) = l.length + 1 by omega, List.nil_append] at h2; rw [ins_len hi, show (insAt l i x).flatMap TEnt.vals = (l.take i).flatMap TEnt.vals ++ TEnt.vals x ++ (l.drop i).flatMap TEnt.vals by simp [insAt]]; exact h2.ent aEt⟩)

set_option maxRecDepth 20000 in
theorem c101 (w : World) (a : Option Addr) (cap : Nat) (l : List Int) (i : Nat) (x : Int) (hs : Rw inV 1 w [] a l) (hl : l.length ≤ 100000) (hi : i ≤ l.length) (hlc : l.length ≤ cap) : Calls Tryz.prog 101 #[.slice a l.length cap, .int .i64 (i : Int), .int .i64 x] w fun en w' => ∃ g : Option Addr × Nat, en = .returned (.slice g.1 (insAt l i x).length g.2) ∧ True ∧ HS w [] [.own (.slice g.1 (insAt l i x).length g.2) 3 1 (insAt l i x).length ((insAt l i x).flatMap inV)] w' := by
  refine enter (args := [_, _, _]) Tryz.func101 Tryz.ntmps101 rfl rfl (HS.refl w []) ?_
  refine s_seq ?_
  refine s_region ?_
  refine oP ?_
  refine o_nil ?_
  refine s_seq ?_
  refine s_region ?_
  refine o_h (h_buildSlice0 rfl sl_30) rfl (fun b1 _ => ?_)
  refine oP ?_
  refine oP ?_
  refine o_p (p_slice _ _ 0 i rfl rfl sl_30 rfl ⟨_, _, rfl, rfl⟩ (by omega) (by omega)) rfl ?_
  refine o_h (h_appendS ((l.take i).flatMap inV) rfl rfl rfl sl_30 Tryz.underlying30 zr_3 rfl aPk (fun w h => Rw.src iv1 (rw_take (Rw.cut (i := 0) hs hlc) i) h) (by rw [flat_length iv1, List.length_take, Nat.min_eq_left hi]; first | rfl | omega) (flat_one iv1c _) (by omega) (by simp only [maxLen]; omega)) rfl (fun b2 _ => ?_)
  refine oP ?_
  refine o_nil ?_
  refine s_seq ?_
  refine s_draw [3, 7] mixed ?_
  refine dP 0 ?_
  refine dP 1 ?_
  refine dP 4 ?_
  refine dP 5 ?_
  refine d_p 6 rfl (p_slice _ _ i l.length rfl rfl sl_30 ⟨_, _, rfl, rfl⟩ rfl (by omega) (by omega)) (by kernel_rfl) rfl rfl ?_
  refine d_h 2 rfl (h_buildSlice (cs := [_]) rfl rfl sl_30 zr_3 rfl rfl rfl) (by kernel_rfl) (fun w h => h.ent aEt) rfl (fun b3 _ => ?_)
  refine d_base (fun w h => h.ent aEt) ?_
  refine d_h 3 rfl (h_appendS (inV x) rfl rfl rfl sl_30 Tryz.underlying30 zr_3 rfl aPk (src_blk aPk) rfl (iv1c _) (by omega) (by simp only [maxLen]; omega)) (by kernel_rfl) (fun w h => h.ent aEt) rfl (fun b4 _ => ?_)
  refine d_turn [7] (by kernel_rfl) ?_
  refine d_h 7 rfl (h_appendS ((l.drop i).flatMap inV) rfl rfl rfl sl_30 Tryz.underlying30 zr_3 rfl aPk (fun w h => Rw.src iv1 (Rw.cut hs hlc) h) (by rw [flat_length iv1, List.length_drop]) (flat_one iv1c _) (by omega) (by simp only [maxLen]; omega)) (by kernel_rfl) (fun w h => h.ent aEt) rfl (fun b5 _ => ?_)
  refine d_turn [] (by kernel_rfl) ?_
  refine dP 8 ?_
  refine d_nil (by kernel_rfl) (fun w h => by first | exact h | exact h.ent aEt) ?_
  exact s_retv (rs := [.tmp 6]) rfl (.tmp rfl (.nil)) (fun w' h' => ⟨b5, by simp only [retV]; congr 2; rw [ins_len hi]; omega, trivial, by have h2 := h'; rw [show 0 + (i - 0) + 1 + (l.length - i) = l.length + 1 by omega, List.nil_append] at h2; rw [ins_len hi, show (insAt l i x).flatMap inV = (l.take i).flatMap inV ++ inV x ++ (l.drop i).flatMap inV by simp [insAt]]; exact h2.ent aEt⟩)

set_option maxRecDepth 20000 in
theorem c61 (w : World) (j : Nat) (mo rm : Int) (a : Option Addr) (cap : Nat) (L : List LNd) (i : Nat) (key : List UInt8) (hj : j ≤ 3) (hi : i < L.length) (hs : Nt w [] a L) (hl : L.length ≤ 1000) (hel : (nth L i).es.length ≤ 1000) (hK : ∀ y ∈ (nth L i).es, keyOk (j : Int) y.key = true ∧ y.key.length ≤ 1000000) (hk : keyOk (j : Int) key = true) (hkl : key.length ≤ 1000000) : Calls Tryz.prog 61 #[.agg #[.int .i64 (j : Int), .int .i64 mo, .int .i64 rm, .slice a L.length cap], .int .i64 (i : Int), .string (bs key)] w fun en w' => en = .returned (.tuple #[.int .i64 ((plc (j : Int) (nth L i).es key) : Int), .bool (fnd (j : Int) (nth L i).es key)]) ∧ Below w.heap.size w w' := by
  refine enter (args := [_, _, _]) Tryz.func61 Tryz.ntmps61 rfl rfl (HS.refl w []) ?_
  refine s_seq ?_
  refine s_region ?_
  refine o_h (h_box rfl rfl) rfl (fun b1 _ => ?_)
  refine oP ?_
  refine oP ?_
  refine o_nil ?_
  refine s_seq ?_
  refine s_region ?_
  refine o_p (p_fieldAddr rfl rfl fd_24_3 sz_22 rfl) rfl ?_
  refine o_q (q_load rfl rfl sz_22 aPk rfl) rfl ?_
  refine oP ?_
  refine o_p (p_indexAddr rfl rfl rfl sl_22 (i) (by omega) (by omega) (Rw.some hs.1 (by omega))) rfl ?_
  refine o_p (p_fieldAddr rfl rfl fd_102_1 sz_77 rfl) rfl ?_
  refine o_q (q_load_old rfl rfl sz_77 ((hs.1.rdj 1 hi rfl))) rfl ?_
  refine oP ?_
  refine o_nil ?_
  refine s_seq ?_
  refine s_region ?_
  refine oP ?_
  refine o_nil ?_
  refine s_seq ?_
  refine s_block ?_
  refine s_loopI (α := Nat) [9, 16, 17, 18, 19, 20, 21, 22, 23, 24, 25, 26, 27, 28, 29, 30, 31, 32, 33] (fun k => [(9, .int .i64 (k : Int))]) (fun _ => HS w [] [.blk b1 24 4 [.int .i64 (j : Int), .int .i64 mo, .int .i64 rm, .slice a L.length cap]]) (fun k => k ≤ (nth L i).es.length ∧ ∀ q, q < k → cmpK (j : Int) (nth (nth L i).es q).key key < 0) (fun k => (nth L i).es.length - k) 0 ⟨Nat.zero_le _, fun j h => absurd h (Nat.not_lt_zero j)⟩ aSx (fun w h => h.ent aEt) (fun k hx => ?_)
  obtain ⟨hk1, hk3⟩ := hx
  refine s_seq ?_
  refine s_seq ?_
  refine s_cutI (α := Bool) [16, 17, 18, 19, 20, 21, 22, 23, 24, 25, 26, 27, 28, 29, 30, 31] (fun x => [(31, .bool x)]) (fun _ => HS w [] [.blk b1 24 4 [.int .i64 (j : Int), .int .i64 mo, .int .i64 rm, .slice a L.length cap]]) (fun x => x = true ↔ (k < (nth L i).es.length ∧ cmpK (j : Int) (nth (nth L i).es k).key key < 0)) ?_ ?_
  · skip
    refine s_draw [] mixed ?_
    refine dP 0 ?_
    refine dP 1 ?_
    refine d_p 2 rfl (p_len_slice rfl rfl Tryz.underlying77) (by kernel_rfl) rfl rfl ?_
    refine dP 3 ?_
    refine dP 4 ?_
    apply d_split 20
    · exact rfl
    · intro hg2
      have hs3 := hg2; try simp only [decide_eq_true_eq] at hs3
      refine d_pon 5 20 rfl rfl rfl hg2 (p_fieldAddr rfl rfl fd_24_0 sz_3 rfl) (by kernel_rfl) rfl rfl ?_
      refine d_qon 6 20 [] rfl rfl rfl hg2 (q_load rfl rfl sz_3 aPk rfl) (by kernel_rfl) (by kernel_rfl) (by kernel_rfl) rfl ?_
      refine d_pon 7 20 rfl rfl rfl hg2 (p_pure rfl) (by kernel_rfl) rfl rfl ?_
      refine d_pon 8 20 rfl rfl rfl hg2 (p_pure rfl) (by kernel_rfl) rfl rfl ?_
      refine d_pon 9 20 rfl rfl rfl hg2 (p_indexAddr rfl rfl rfl sl_77 (k) (by omega) (by omega) (Rw.some (hs.es hi) (by omega))) (by kernel_rfl) rfl rfl ?_
      refine d_pon 10 20 rfl rfl rfl hg2 (p_fieldAddr rfl rfl fd_26_0 sz_9 rfl) (by kernel_rfl) rfl rfl ?_
      refine d_qon 11 20 [] rfl rfl rfl hg2 (q_load_old rfl rfl sz_9 (((hs.es hi).rdj 0 (by omega) rfl))) (by kernel_rfl) (by kernel_rfl) (by kernel_rfl) rfl ?_
      refine d_pon 12 20 rfl rfl rfl hg2 (p_pure rfl) (by kernel_rfl) rfl rfl ?_
      refine d_qon 13 20 [] rfl rfl rfl hg2 (q_call rfl fn_33 rfl (fun w1 h1 => c33 w1 j (nth (nth L i).es k).key key hj (hK _ (mem_nth (by omega))).1 hk (hK _ (mem_nth (by omega))).2 hkl)) (by kernel_rfl) (by kernel_rfl) (by kernel_rfl) rfl ?_
      refine d_pon 14 20 rfl rfl rfl hg2 (p_pure rfl) (by kernel_rfl) rfl rfl ?_
      refine d_p 15 rfl (p_pickt rfl rfl hg2 rfl) (by kernel_rfl) rfl rfl ?_
      refine d_nil (by kernel_rfl) (fun w h => by first | exact h | exact h.ent aEt) ?_
      exact s_joinI (decide (cmpK (j : Int) (nth (nth L i).es k).key key < 0)) (by rw [decide_eq_true_eq]; omega) aSx (fun w h => h.ent aEt)
    · intro hg4
      have hs5 := hg4; try simp only [decide_eq_false_iff_not] at hs5
      refine d_off 5 20 rfl rfl rfl hg4 (by kernel_rfl) rfl rfl ?_
      refine d_off 6 20 rfl rfl rfl hg4 (by kernel_rfl) rfl rfl ?_
      refine d_off 7 20 rfl rfl rfl hg4 (by kernel_rfl) rfl rfl ?_
      refine d_off 8 20 rfl rfl rfl hg4 (by kernel_rfl) rfl rfl ?_
      refine d_off 9 20 rfl rfl rfl hg4 (by kernel_rfl) rfl rfl ?_
      refine d_off 10 20 rfl rfl rfl hg4 (by kernel_rfl) rfl rfl ?_
      refine d_off 11 20 rfl rfl rfl hg4 (by kernel_rfl) rfl rfl ?_
      refine d_off 12 20 rfl rfl rfl hg4 (by kernel_rfl) rfl rfl ?_
      refine d_off 13 20 rfl rfl rfl hg4 (by kernel_rfl) rfl rfl ?_
      refine d_off 14 20 rfl rfl rfl hg4 (by kernel_rfl) rfl rfl ?_
      refine d_p 15 rfl (p_pickf rfl rfl hg4 rfl) (by kernel_rfl) rfl rfl ?_
      refine d_nil (by kernel_rfl) (fun w h => by first | exact h | exact h.ent aEt) ?_
      exact s_joinI false (by constructor <;> intro h9 <;> first | (cases h9; done) | omega) aSx (fun w h => h.ent aEt)
  · intro x hx
    refine s_cond rfl (fun h6 => ?_) (fun h6 => ?_)
    · skip
      obtain ⟨hk5, hk6⟩ := hx.1 (by assumption)
      refine s_skip ?_
      refine s_block ?_
      refine s_region ?_
      refine oP ?_
      refine oP ?_
      try (refine o_slot (i64w (by omega) (by omega)) ?_)
      refine oP ?_
      refine o_nil ?_
      refine s_blk ?_
      exact s_backI (k + 1) (by omega) ⟨by omega, fun q hq => (Nat.lt_or_ge q k).elim (hk3 q) (fun h9 => by obtain rfl : q = k := (by omega); exact hk6)⟩ aSx (fun w h => h.ent aEt)
    · skip
      have hno : ¬ (k < (nth L i).es.length ∧ cmpK (j : Int) (nth (nth L i).es k).key key < 0) := fun h9 => by have h8 := hx.2 h9; simp_all
      have hpk : (plc (j : Int) (nth L i).es key) = k := plc_is hk1 hk3 hno
      refine s_exit_to rfl ?_
      refine s_seq ?_
      refine s_draw [] mixed ?_
      refine dP 0 ?_
      refine dP 1 ?_
      refine dP 2 ?_
      refine d_p 3 rfl (p_len_slice rfl rfl Tryz.underlying77) (by kernel_rfl) rfl rfl ?_
      refine dP 4 ?_
      refine dP 5 ?_
      apply d_split 39
      · exact rfl
      · intro hg7
        have hs8 := hg7; try simp only [decide_eq_true_eq] at hs8
        refine d_pon 6 39 rfl rfl rfl hg7 (p_fieldAddr rfl rfl fd_24_0 sz_3 rfl) (by kernel_rfl) rfl rfl ?_
        refine d_qon 7 39 [] rfl rfl rfl hg7 (q_load rfl rfl sz_3 aPk rfl) (by kernel_rfl) (by kernel_rfl) (by kernel_rfl) rfl ?_
        refine d_pon 8 39 rfl rfl rfl hg7 (p_pure rfl) (by kernel_rfl) rfl rfl ?_
        refine d_pon 9 39 rfl rfl rfl hg7 (p_pure rfl) (by kernel_rfl) rfl rfl ?_
        refine d_pon 10 39 rfl rfl rfl hg7 (p_indexAddr rfl rfl rfl sl_77 (k) (by omega) (by omega) (Rw.some (hs.es hi) (by omega))) (by kernel_rfl) rfl rfl ?_
        refine d_pon 11 39 rfl rfl rfl hg7 (p_fieldAddr rfl rfl fd_26_0 sz_9 rfl) (by kernel_rfl) rfl rfl ?_
        refine d_qon 12 39 [] rfl rfl rfl hg7 (q_load_old rfl rfl sz_9 (((hs.es hi).rdj 0 (by omega) rfl))) (by kernel_rfl) (by kernel_rfl) (by kernel_rfl) rfl ?_
        refine d_pon 13 39 rfl rfl rfl hg7 (p_pure rfl) (by kernel_rfl) rfl rfl ?_
        refine d_qon 14 39 [] rfl rfl rfl hg7 (q_call rfl fn_33 rfl (fun w1 h1 => c33 w1 j (nth (nth L i).es k).key key hj (hK _ (mem_nth (by omega))).1 hk (hK _ (mem_nth (by omega))).2 hkl)) (by kernel_rfl) (by kernel_rfl) (by kernel_rfl) rfl ?_
        refine d_pon 15 39 rfl rfl rfl hg7 (p_pure rfl) (by kernel_rfl) rfl rfl ?_
        refine d_p 16 rfl (p_pickt rfl rfl hg7 rfl) (by kernel_rfl) rfl rfl ?_
        refine dP 17 ?_
        refine dP 18 ?_
        refine d_nil (by kernel_rfl) (fun w h => by first | exact h | exact h.ent aEt) ?_
        exact s_retv (rs := [.tmp 6, .tmp 7]) rfl (.tmp rfl (.tmp rfl (.nil))) (fun w' h' => ⟨by simp only [retV, fnd]; rw [hpk]; first | (rw [decide_eq_true (show k < (nth L i).es.length by omega)]; rfl) | (rw [decide_eq_false (show ¬ k < (nth L i).es.length by omega)]; rfl), h'.below⟩)
      · intro hg9
        have hs10 := hg9; try simp only [decide_eq_false_iff_not] at hs10
        refine d_off 6 39 rfl rfl rfl hg9 (by kernel_rfl) rfl rfl ?_
        refine d_off 7 39 rfl rfl rfl hg9 (by kernel_rfl) rfl rfl ?_
        refine d_off 8 39 rfl rfl rfl hg9 (by kernel_rfl) rfl rfl ?_
        refine d_off 9 39 rfl rfl rfl hg9 (by kernel_rfl) rfl rfl ?_
        refine d_off 10 39 rfl rfl rfl hg9 (by kernel_rfl) rfl rfl ?_
        refine d_off 11 39 rfl rfl rfl hg9 (by kernel_rfl) rfl rfl ?_
        refine d_off 12 39 rfl rfl rfl hg9 (by kernel_rfl) rfl rfl ?_
        refine d_off 13 39 rfl rfl rfl hg9 (by kernel_rfl) rfl rfl ?_
        refine d_off 14 39 rfl rfl rfl hg9 (by kernel_rfl) rfl rfl ?_
        refine d_off 15 39 rfl rfl rfl hg9 (by kernel_rfl) rfl rfl ?_
        refine d_p 16 rfl (p_pickf rfl rfl hg9 rfl) (by kernel_rfl) rfl rfl ?_
        refine dP 17 ?_
        refine dP 18 ?_
        refine d_nil (by kernel_rfl) (fun w h => by first | exact h | exact h.ent aEt) ?_
        exact s_retv (rs := [.tmp 6, .tmp 7]) rfl (.tmp rfl (.tmp rfl (.nil))) (fun w' h' => ⟨by simp only [retV, fnd]; rw [hpk]; first | (rw [decide_eq_true (show k < (nth L i).es.length by omega)]; rfl) | (rw [decide_eq_false (show ¬ k < (nth L i).es.length by omega)]; rfl), h'.below⟩)

end Go.Proofs

/- Chapter 12: the reference's acts on nodes: a new node, a split, an entry inserted. Plain data. -/
namespace Gx
set_option linter.unusedSimpArgs false
set_option linter.unusedVariables false
set_option linter.unusedSectionVars false
open Go Go.RowKit
abbrev LNd.fre : LNd := ⟨true, none, 0, [], none, 0, []⟩
section
variable {w0 w : World} {M : List Nat} {As A1 A2 A3 : List HA} {et : Nat} {L : List LNd} {i j gn cap nt' : Nat}
theorem HS.node_fre (hi : i < L.length) (h : HS w0 M As w)
    (hp : Pick As (.blk gn nt' (cap * 3) (setMany (L.flatMap LNd.vals) (i * 3) [.bool true, .slice none 0 0, .slice none 0 0])) A1) (hp3 : Pick A1 (.star (L.map (subN et))) A3) :
    ∃ L', NdSet L L' i LNd.fre ∧ HS w0 M (.blk gn nt' (cap * 3) (L'.flatMap LNd.vals) :: .star (L'.map (subN et)) :: A3) w := by
  refine ⟨_, ⟨hi, rfl⟩, ?_⟩
  rw [← node_set3 hi]
  have h1 := (((h.pick hp).node_out hi (.there hp3)).tail.tail.own_nil 3 1).own_nil et 2
  exact (HS.node_in hi LNd.fre h1).perm (List.Perm.swap ..)
end
section
variable {w0 w : World} {M : List Nat} {As A1 A2 A3 : List HA} {et : Nat} {L : List LNd} {i gn cap nt' : Nat}
theorem HS.es_setN (hi : i < L.length) {ea : Option Addr} {ec n : Nat} {es : List TEnt} {xs : List Value} (hn : n = es.length) (hx : xs = es.flatMap TEnt.vals) (h : HS w0 M As w) (hp : Pick As (.blk gn nt' (cap * 3) (setMany (L.flatMap LNd.vals) (i * 3 + 1) [.slice ea n ec])) A1) (hp2 : Pick A1 (.own (.slice ea n ec) et 2 n xs) A2) (hp3 : Pick A2 (.star (L.map (subN et))) A3) :
    ∃ L', NdSet L L' i { nth L i with ea := ea, ec := ec, es := es } ∧ HS w0 M (.blk gn nt' (cap * 3) (L'.flatMap LNd.vals) :: .star (L'.map (subN et)) :: A3) w := by
  subst hn hx
  exact HS.es_set hi h hp hp2 hp3
theorem HS.cs_setN (hi : i < L.length) {ca : Option Addr} {cc n : Nat} {cs : List Int} {xs : List Value} (hn : n = cs.length) (hx : xs = cs.flatMap inV) (h : HS w0 M As w) (hp : Pick As (.blk gn nt' (cap * 3) (setMany (L.flatMap LNd.vals) (i * 3 + 2) [.slice ca n cc])) A1) (hp2 : Pick A1 (.own (.slice ca n cc) 3 1 n xs) A2) (hp3 : Pick A2 (.star (L.map (subN et))) A3) :
    ∃ L', NdSet L L' i { nth L i with ca := ca, cc := cc, cs := cs } ∧ HS w0 M (.blk gn nt' (cap * 3) (L'.flatMap LNd.vals) :: .star (L'.map (subN et)) :: A3) w := by
  subst hn hx
  exact HS.cs_set hi h hp hp2 hp3
end
theorem cs_rowE {w : World} {n m : LNd} (he : n.ca = m.ca ∧ n.cc = m.cc ∧ n.cs = m.cs) (h : Rw inV 1 w [] n.ca n.cs) : Rw inV 1 w [] m.ca m.cs := by
  rw [← he.1, ← he.2.2]
  exact h
/-- The first node behind the root that is not used. -/
def frsI (ns : List Nd) : Nat → Nat → Nat
  | 0, i => i
  | f + 1, i => if i < ns.length then if (nth ns i).us = true then frsI ns f (i + 1) else i else i
def frsX (ns : List Nd) : Nat := frsI ns ns.length 1
def frsN (ns : List Nd) : Nat × List Nd := if frsX ns < ns.length then (frsX ns, ns.set (frsX ns) ⟨true, [], []⟩) else (ns.length, ns ++ [⟨true, [], []⟩])
theorem frsI_ge (ns : List Nd) : ∀ f i, i ≤ frsI ns f i
  | 0, i => Nat.le_refl _
  | f + 1, i => by
    rw [frsI]
    split
    · split
      · exact Nat.le_of_succ_le (frsI_ge ns f (i + 1))
      · exact Nat.le_refl _
    · exact Nat.le_refl _
theorem frsN_ge {ns : List Nd} (h0 : 0 < ns.length) : 1 ≤ (frsN ns).1 := by
  unfold frsN
  split
  · exact frsI_ge ns _ 1
  · exact h0
theorem frsN_lt (ns : List Nd) : (frsN ns).1 < (frsN ns).2.length := by
  unfold frsN
  split
  · simpa using ‹_›
  · simp
theorem frsN_len (ns : List Nd) : ns.length ≤ (frsN ns).2.length ∧ (frsN ns).2.length ≤ ns.length + 1 := by
  unfold frsN
  split
  · simp
  · simp
theorem frsI_us (ns : List Nd) : ∀ f i, frsI ns f i < ns.length → ns.length < i + f → (nth ns (frsI ns f i)).us = false
  | 0, i, h, hf => by
    rw [frsI] at h
    omega
  | f + 1, i, h, hf => by
    rw [frsI] at h ⊢
    split
    · rename_i h1
      rw [if_pos h1] at h
      split
      · rename_i h2
        rw [if_pos h2] at h
        exact frsI_us ns f (i + 1) h (by omega)
      · rename_i h2
        simpa using h2
    · rename_i h1
      rw [if_neg h1] at h
      omega
theorem frsN_ne {ns : List Nd} {i : Nat} (hi : i < ns.length) (hu : (nth ns i).us = true) : (frsN ns).1 ≠ i := by
  unfold frsN
  split
  · rename_i h
    intro e
    have h2 := frsI_us ns ns.length 1 h (by omega)
    rw [show frsI ns ns.length 1 = i from e, hu] at h2
    cases h2
  · simp only []
    omega
theorem frsN_nth {ns : List Nd} {i : Nat} (hi : i < ns.length) (hne : (frsN ns).1 ≠ i) : nth (frsN ns).2 i = nth ns i := by
  unfold frsN at hne ⊢
  split
  · rename_i h
    rw [if_pos h] at hne
    rw [nth_set_nd, if_neg (fun e => hne e.1)]
  · apply nth_eq
    simp only []
    rw [List.getElem?_append_left hi]
    exact nth_get hi
/-- Where a child is in its parent. -/
def ixR (cs : List Int) (c : Int) : Nat := if ixB (hasC cs c) < cs.length then ixB (hasC cs c) else 0
/-- A node split below its parent, as the reference does it. -/
def splRA (mo : Int) (ns : List Nd) (i : Nat) : List Nd :=
  let F := (frsN ns).2; let o := (frsN ns).1; let x := nth F i
  let n := esN (esN F o (x.es.drop (splM mo + 1))) i (x.es.take (splM mo))
  if x.cs.length = 0 then n else csN (csN n o (x.cs.drop (splM mo + 1))) i (x.cs.take (splM mo + 1))
def splR (mo : Int) (ns : List Nd) (p i : Nat) : List Nd := addP (splRA mo ns i) p (ixR (nth (splRA mo ns i) p).cs (i : Int)) (nth (nth (frsN ns).2 i).es (splM mo)) (frsN ns).1
def lowR (ns : List Nd) : Nat × List Nd := ((frsN ns).1, csN (esN (csN (esN (frsN ns).2 (frsN ns).1 (nth (frsN ns).2 0).es) (frsN ns).1 (nth (frsN ns).2 0).cs) 0 []) 0 [((frsN ns).1 : Int)])
/-- Along a way: node k and its parent k - 1. -/
def grwRW (mo : Int) (P : List Nat) : Nat → List Nd → List Nd
  | 0, ns => ns
  | k + 1, ns => grwRW mo P k (if mo < ((nth ns (nth P (k + 1))).es.length : Int) then splR mo ns (nth P k) (nth P (k + 1)) else ns)
def grwRR (mo rm : Int) (ns : List Nd) : List Nd := if rm < ((nth ns 0).es.length : Int) then if mo < ((nth (lowR ns).2 (lowR ns).1).es.length : Int) then splR mo (lowR ns).2 0 (lowR ns).1 else (lowR ns).2 else ns
def insR (co mo rm : Int) (ns : List Nd) (x : TEnt) : List Nd :=
  let P := (pathN co ns x.key).1; let lf := lastN P
  grwRR mo rm (grwRW mo P (P.length - 1) (esN ns lf (insAt (nth ns lf).es (plc co (nth ns lf).es x.key) x)))
structure SpROk (mo : Int) (ns : List Nd) (p i : Nat) : Prop where
  mo0 : 0 ≤ mo ∧ mo ≤ 1000
  len : ns.length ≤ 900
  sm : Sm 900 ns
  lt : i < ns.length
  us : (nth ns i).us = true
  es : splM mo < (nth ns i).es.length
  cs : (nth ns i).cs.length = 0 ∨ splM mo + 1 ≤ (nth ns i).cs.length
  par : p < ns.length
  parE : ixR (nth (splRA mo ns i) p).cs (i : Int) ≤ (nth (splRA mo ns i) p).es.length
  parC : ixR (nth (splRA mo ns i) p).cs (i : Int) + 1 ≤ (nth (splRA mo ns i) p).cs.length
def GrwROk (mo : Int) (P : List Nat) : Nat → List Nd → Prop
  | 0, _ => True
  | k + 1, ns => (nth P (k + 1) < ns.length ∧ (mo < ((nth ns (nth P (k + 1))).es.length : Int) → SpROk mo ns (nth P k) (nth P (k + 1)))) ∧ GrwROk mo P k (if mo < ((nth ns (nth P (k + 1))).es.length : Int) then splR mo ns (nth P k) (nth P (k + 1)) else ns)
structure RootROk (mo rm : Int) (ns : List Nd) : Prop where
  lt : 0 < ns.length
  len : ns.length ≤ 900
  us : (nth ns 0).us = true
  spl : rm < ((nth ns 0).es.length : Int) → mo < ((nth (lowR ns).2 (lowR ns).1).es.length : Int) → SpROk mo (lowR ns).2 0 (lowR ns).1
structure InsROk (co mo rm : Int) (ns : List Nd) (x : TEnt) : Prop where
  ne : 0 < (pathN co ns x.key).1.length
  len : (pathN co ns x.key).1.length ≤ 900
  lf : lastN (pathN co ns x.key).1 < ns.length
  grw : GrwROk mo (pathN co ns x.key).1 ((pathN co ns x.key).1.length - 1) (esN ns (lastN (pathN co ns x.key).1) (insAt (nth ns (lastN (pathN co ns x.key).1)).es (plc co (nth ns (lastN (pathN co ns x.key).1)).es x.key) x))
  root : RootROk mo rm (grwRW mo (pathN co ns x.key).1 ((pathN co ns x.key).1.length - 1) (esN ns (lastN (pathN co ns x.key).1) (insAt (nth ns (lastN (pathN co ns x.key).1)).es (plc co (nth ns (lastN (pathN co ns x.key).1)).es x.key) x)))
theorem Sm.frs {m : Nat} {ns : List Nd} (h : Sm m ns) : Sm m (frsN ns).2 := by
  unfold frsN
  split
  · exact h.set _ _ ⟨Nat.zero_le _, Nat.zero_le _⟩
  · exact h.app _ ⟨Nat.zero_le _, Nat.zero_le _⟩
theorem Sm.splRA {m : Nat} {ns : List Nd} (h : Sm m ns) (mo : Int) (i : Nat) : Sm m (splRA mo ns i) := by
  have h1 := h.frs
  have e1 := (h1 i).1
  have e2 := (h1 i).2
  have h2 := (h1.es (frsN ns).1 (es := (nth (frsN ns).2 i).es.drop (splM mo + 1)) (by rw [List.length_drop]; omega)).es i (es := (nth (frsN ns).2 i).es.take (splM mo)) (by rw [List.length_take]; omega)
  unfold Gx.splRA
  simp only []
  split
  · exact h2
  · exact (h2.cs _ (by rw [List.length_drop]; omega)).cs _ (by rw [List.length_take]; omega)
theorem splRA_0 {mo : Int} {ns F : List Nd} {i : Nat} {x : Nd} (hF : (frsN ns).2 = F) (hx : nth F i = x) (h : x.cs.length = 0) : splRA mo ns i = esN (esN F (frsN ns).1 (x.es.drop (splM mo + 1))) i (x.es.take (splM mo)) := by
  subst hF hx
  exact if_pos h
theorem splRA_1 {mo : Int} {ns F : List Nd} {i : Nat} {x : Nd} (hF : (frsN ns).2 = F) (hx : nth F i = x) (h : ¬ x.cs.length = 0) : splRA mo ns i = csN (csN (esN (esN F (frsN ns).1 (x.es.drop (splM mo + 1))) i (x.es.take (splM mo))) (frsN ns).1 (x.cs.drop (splM mo + 1))) i (x.cs.take (splM mo + 1)) := by
  subst hF hx
  exact if_neg h
end Gx

namespace Go.Proofs
open Go Go.RowKit Gx
set_option linter.unusedVariables false
set_option linter.unusedSimpArgs false
attribute [local irreducible] Go.Calls Gx.S Gx.O Gx.D Gx.OpP Gx.OpQ Gx.OpH

theorem fn_61 : isFn Tryz.prog 61 = true := by kernel_rfl


set_option maxRecDepth 20000 in
theorem c20 (w : World) (j : Nat) (mo rm : Int) (a : Option Addr) (cap : Nat) (L : List LNd) (key : List UInt8) (hj : j ≤ 3) (h0 : 0 < L.length) (hB : Bd (pln L)) (hT : TOk (j : Int) (pln L)) (hs : Nt w [] a L) (hk : keyOk (j : Int) key = true) (hkl : key.length ≤ 1000000) : Calls Tryz.prog 20 #[.agg #[.int .i64 (j : Int), .int .i64 mo, .int .i64 rm, .slice a L.length cap], .string (bs key)] w fun en w' => ∃ g : Option Addr × Nat, en = .returned (.tuple #[.slice g.1 (pathN (j : Int) (pln L) key).1.length g.2, .bool (pathN (j : Int) (pln L) key).2.2]) ∧ True ∧ HS w [] [.own (.slice g.1 ((pathN (j : Int) (pln L) key).1).length g.2) 3 1 ((pathN (j : Int) (pln L) key).1).length (((pathN (j : Int) (pln L) key).1).map fun i : Nat => Value.int .i64 (i : Int))] w' := by
  have hK : ∀ i, i < L.length → ∀ y ∈ (nth L i).es, keyOk (j : Int) y.key = true ∧ y.key.length ≤ 1000000 := fun i hi y hy => tok_key hT i (by rw [pln_len]; exact hi) y (by rw [pln_nth hi]; exact hy)
  refine enter (args := [_, _]) Tryz.func20 Tryz.ntmps20 rfl rfl (HS.refl w []) ?_
  refine s_seq ?_
  refine s_region ?_
  refine o_h (h_box rfl rfl) rfl (fun b1 _ => ?_)
  refine oP ?_
  refine oP ?_
  refine o_nil ?_
  refine s_seq ?_
  refine s_region ?_
  refine oP ?_
  refine o_nil ?_
  refine s_seq ?_
  refine s_region ?_
  refine o_h (h_buildSlice (cs := [_]) rfl rfl sl_30 zr_3 rfl rfl rfl) rfl (fun b2 _ => ?_)
  refine oP ?_
  refine o_nil ?_
  refine s_block ?_
  refine s_loopI (α := (Option Addr × Nat) × List Nat × Nat × Nat) [4, 5, 6, 7, 8, 9, 11, 12, 13, 14, 15, 16, 17, 18, 19, 20, 21, 22, 23, 24, 25, 26, 27, 28, 29, 30, 31, 32, 33, 34, 35, 36, 37, 38, 39, 40, 41, 42, 43] (fun x => [(7, .slice x.1.1 (x.2.1 ++ [x.2.2.1]).length x.1.2), (6, .int .i64 (x.2.2.1 : Int))]) (fun x => HS w [] [.own (.slice x.1.1 (x.2.1 ++ [x.2.2.1]).length x.1.2) 3 1 (x.2.1 ++ [x.2.2.1]).length ((x.2.1 ++ [x.2.2.1]).map fun i : Nat => Value.int .i64 (i : Int)), .blk b1 24 4 [.int .i64 (j : Int), .int .i64 mo, .int .i64 rm, .slice a L.length cap]]) (fun x => x.2.2.1 < L.length ∧ x.2.1.length + x.2.2.2 = L.length ∧ Gx.Way (pln L) (x.2.2.1 :: x.2.1.reverse) ∧ (pathN (j : Int) (pln L) key) = (x.2.1 ++ (pthN (j : Int) (pln L) key x.2.2.2 x.2.2.1).1, (pthN (j : Int) (pln L) key x.2.2.2 x.2.2.1).2)) (fun x => x.2.2.2) ((some ⟨b2, 0, none⟩, 1), [], 0, L.length) ⟨h0, by simp, rfl, by rw [pathN, pln_len]; rfl⟩ aSx (fun w h => (HS.own_shut (t := 3) (sz := 1) (n := 1) (cap := 1) (h.pick (A := .blk b2 3 (1 * 1) [.int .i64 0]) aPk) rfl (by decide) (by decide)).ent aEt) (fun ⟨⟨ga, gc⟩, P, i, f⟩ hx => ?_)
  dsimp only
  obtain ⟨hi, hlen, hway, hpath⟩ := hx
  simp only [] at hi hlen hway hpath
  have hwl := way_len hT (by rw [pln_len]; exact h0) hway
  simp only [List.length_cons, List.length_reverse, pln_len] at hwl
  obtain ⟨f, rfl⟩ : ∃ f9, f = f9 + 1 := ⟨f - 1, by omega⟩
  have hni := pln_nth hi
  have hle := hB.len
  rw [pln_len] at hle
  have hes9 := hB.es i (by rw [pln_len]; exact hi)
  have hcs9 := hB.cs i (by rw [pln_len]; exact hi)
  rw [hni] at hes9 hcs9
  have hPl : (P ++ [i]).length = P.length + 1 := by simp
  refine s_block ?_
  refine s_seq ?_
  refine s_region ?_
  refine o_q (q_loadn rfl rfl sz_24 aPk rfl) rfl ?_
  refine oP ?_
  refine oP ?_
  refine o_q (q_call rfl fn_61 rfl (fun w1 h1 => c61 w1 j mo rm a cap L i key hj hi (hs.later h1.nil) (by omega) hes9 (hK i hi) hk hkl)) rfl ?_
  refine oP ?_
  refine oP ?_
  refine oP ?_
  refine oP ?_
  refine oP ?_
  refine o_nil ?_
  refine s_seq ?_
  refine s_seq ?_
  refine s_region ?_
  refine oP ?_
  refine oP ?_
  refine o_or 9 19 28 _ _ rfl
    (by
      intro hg3
      have hs4 := hg3; skip
      refine o_on 19 _ rfl rfl hg3 ?_
      refine o_p (p_fieldAddr rfl rfl fd_24_3 sz_22 rfl) rfl ?_
      refine o_on 19 _ rfl rfl hg3 ?_
      refine o_q (q_load rfl rfl sz_22 aPk rfl) rfl ?_
      refine o_on 19 _ rfl rfl hg3 ?_
      refine oP ?_
      refine o_on 19 _ rfl rfl hg3 ?_
      refine o_p (p_indexAddr rfl rfl rfl sl_22 (i) (by omega) (by omega) (Rw.some hs.1 (by omega))) rfl ?_
      refine o_on 19 _ rfl rfl hg3 ?_
      refine o_p (p_fieldAddr rfl rfl fd_102_2 sz_30 rfl) rfl ?_
      refine o_on 19 _ rfl rfl hg3 ?_
      refine o_q (q_load_old rfl rfl sz_30 ((hs.1.rdj 2 hi rfl))) rfl ?_
      refine o_on 19 _ rfl rfl hg3 ?_
      refine o_p (p_len_slice rfl rfl Tryz.underlying30) rfl ?_
      refine o_on 19 _ rfl rfl hg3 ?_
      refine oP ?_
      refine o_p (p_pickf rfl rfl hg3 rfl) rfl ?_
      refine o_nil ?_
      exact s_joinN 9 28 _ rfl rfl rfl (fun w h => by first | exact h | exact h.ent aEt))
    (by
      intro hg5
      have hs6 := hg5; skip
      refine o_off 19 _ rfl rfl hg5 rfl ?_
      refine o_off 19 _ rfl rfl hg5 rfl ?_
      refine o_off 19 _ rfl rfl hg5 rfl ?_
      refine o_off 19 _ rfl rfl hg5 rfl ?_
      refine o_off 19 _ rfl rfl hg5 rfl ?_
      refine o_off 19 _ rfl rfl hg5 rfl ?_
      refine o_off 19 _ rfl rfl hg5 rfl ?_
      refine o_off 19 _ rfl rfl hg5 rfl ?_
      refine o_p (p_pickt rfl rfl hg5 rfl) rfl ?_
      refine o_nil ?_
      exact s_joinN 9 28 _ rfl rfl rfl (fun w h => by first | exact h | exact h.ent aEt)) ?_
  refine o_nil ?_
  refine s_cond rfl (fun h7 => ?_) (fun h7 => ?_)
  · try simp only [Bool.or_eq_true, decide_eq_true_eq] at h7
    have hst : fnd (j : Int) (nth (pln L) i).es key = true ∨ (nth (pln L) i).cs.length = 0 := by rw [hni]; have hq := h7; first | exact hq | (simp at hq; simpa [LNd.pl] using hq)
    refine s_seq ?_
    refine s_region ?_
    refine oP ?_
    refine oP ?_
    refine oP ?_
    refine oP ?_
    refine o_nil ?_
    exact s_retv (rs := [.tmp 4, .tmp 5]) rfl (.tmp rfl (.tmp rfl (.nil))) (fun w' h' => ⟨(ga, gc), by rw [hpath, pthN_stop hst, hni]; rfl, trivial, by rw [hpath, pthN_stop hst]; exact h'.ent aEt⟩)
  · try simp only [Bool.or_eq_false_iff, decide_eq_false_iff_not] at h7
    have hst : ¬ (fnd (j : Int) (nth (pln L) i).es key = true ∨ (nth (pln L) i).cs.length = 0) := by rw [hni]; have hq := h7; first | exact hq | (simp at hq; simpa [LNd.pl] using hq)
    have hcl : (nth L i).cs.length = (nth L i).es.length + 1 := by rcases hT.shape i (by rw [pln_len]; exact hi) with h9 | h9; exact absurd (.inr h9) hst; rw [hni] at h9; exact h9
    have hple := plc_le (j : Int) key (nth L i).es
    have hpk : plc (j : Int) (nth L i).es key < (nth L i).cs.length := by omega
    have hkid := kid_in hT (by rw [pln_len]; exact hi) (i := i) (k := plc (j : Int) (nth L i).es key) (by rw [hni]; exact hpk)
    rw [hni, pln_len] at hkid
    simp only [LNd.pl] at hkid
    have hway2 := way_kid hway (by rw [pln_len]; exact hi) (k := plc (j : Int) (nth L i).es key) (by rw [hni]; exact hpk) (by rw [hni]; simp only [LNd.pl]; omega)
    rw [hni] at hway2
    simp only [LNd.pl] at hway2
    refine s_skip ?_
    refine s_seq ?_
    refine s_region ?_
    refine o_p (p_fieldAddr rfl rfl fd_24_3 sz_22 rfl) rfl ?_
    refine o_q (q_load rfl rfl sz_22 aPk rfl) rfl ?_
    refine oP ?_
    refine o_p (p_indexAddr rfl rfl rfl sl_22 (i) (by omega) (by omega) (Rw.some hs.1 (by omega))) rfl ?_
    refine o_p (p_fieldAddr rfl rfl fd_102_2 sz_30 rfl) rfl ?_
    refine o_q (q_load_old rfl rfl sz_30 ((hs.1.rdj 2 hi rfl))) rfl ?_
    refine oP ?_
    refine o_p (p_indexAddr rfl rfl rfl sl_30 (plc (j : Int) (nth L i).es key) (by omega) (by omega) (Rw.some (hs.cs hi) (by omega))) rfl ?_
    refine o_q (q_load_old rfl rfl sz_3 (((hs.cs hi).rdj 0 (i := plc (j : Int) (nth L i).es key) hpk rfl))) rfl ?_
    refine oP ?_
    refine o_nil ?_
    refine s_region ?_
    refine oP ?_
    refine oP ?_
    refine o_h (h_buildSlice (cs := [_]) rfl rfl sl_30 zr_3 rfl rfl rfl) rfl (fun b8 _ => ?_)
    refine o_h (h_appendS [_] rfl rfl rfl sl_30 Tryz.underlying30 zr_3 rfl aPk (src_blk aPk) rfl (by intro u hu; simp only [List.mem_cons, List.mem_nil_iff, or_false] at hu; subst hu; rfl) (by omega) (by simp only [maxLen]; omega)) rfl (fun b9 _ => ?_)
    refine oP ?_
    refine o_nil ?_
    refine s_blk ?_
    exact s_backI ((b9.1, b9.2), P ++ [i], ((nth L i).cs.getD (plc (j : Int) (nth L i).es key) 0).toNat, f) (by (try simp only []); omega) ⟨by simp only []; omega, by simp only [List.length_append, List.length_singleton]; omega, by simp only [List.reverse_append, List.reverse_singleton, List.singleton_append]; exact hway2, by simp only []; rw [hpath, pthN_step hst]; simp [hni, LNd.pl]⟩ (by simp only [List.length_append (bs := [((nth L i).cs.getD (plc (j : Int) (nth L i).es key) 0).toNat]), List.length_singleton]; rw [Int.toNat_of_nonneg (by omega)]; exact aSx) (fun w h => by have h2 := h; simp only [List.length_append (bs := [((nth L i).cs.getD (plc (j : Int) (nth L i).es key) 0).toNat]), List.length_singleton, List.map_append (l₂ := [((nth L i).cs.getD (plc (j : Int) (nth L i).es key) 0).toNat]), List.map_cons, List.map_nil]; rw [Int.toNat_of_nonneg (by omega)]; exact h2.ent aEt)

set_option maxRecDepth 20000 in
theorem c100 (w : World) (j : Nat) (mo rm : Int) (a : Option Addr) (cap : Nat) (L : List LNd) (p : Nat) (c : Int) (hp : p < L.length) (hs : Nt w [] a L) (hl : L.length ≤ 1000) (hcl : (nth L p).cs.length ≤ 1000) : Calls Tryz.prog 100 #[.agg #[.int .i64 (j : Int), .int .i64 mo, .int .i64 rm, .slice a L.length cap], .int .i64 (p : Int), .int .i64 c] w fun en w' => en = .returned (.int .i64 (ixR (nth L p).cs c : Int)) ∧ Below w.heap.size w w' := by
  refine enter (args := [_, _, _]) Tryz.func100 Tryz.ntmps100 rfl rfl (HS.refl w []) ?_
  refine s_seq ?_
  refine s_region ?_
  refine o_h (h_box rfl rfl) rfl (fun b1 _ => ?_)
  refine oP ?_
  refine o_nil ?_
  refine s_seq ?_
  refine s_seq ?_
  refine s_region ?_
  refine oP ?_
  refine o_nil ?_
  refine s_block ?_
  refine s_loopI (α := Nat) [6, 7, 8, 9, 10, 11, 12, 13, 14, 15, 16, 17, 18, 19, 20, 21, 22, 23, 24, 25, 26, 27, 28, 29, 30] (fun k => [(7, .int .i64 (k : Int))]) (fun _ => HS w [] [.blk b1 24 4 [.int .i64 (j : Int), .int .i64 mo, .int .i64 rm, .slice a L.length cap]]) (fun k => k ≤ (nth L p).cs.length ∧ ∀ q, q < k → (hasC (nth L p).cs c).getD q false = false) (fun k => (nth L p).cs.length - k) 0 ⟨Nat.zero_le _, fun j h => absurd h (Nat.not_lt_zero j)⟩ aSx (fun w h => h.ent aEt) (fun k hx => ?_)
  obtain ⟨hk1, hk3⟩ := hx
  refine s_seq ?_
  refine s_seq ?_
  refine s_region ?_
  refine oP ?_
  refine o_p (p_fieldAddr rfl rfl fd_24_3 sz_22 rfl) rfl ?_
  refine o_q (q_load rfl rfl sz_22 aPk rfl) rfl ?_
  refine oP ?_
  refine o_p (p_indexAddr rfl rfl rfl sl_22 (p) (by omega) (by omega) (Rw.some hs.1 (by omega))) rfl ?_
  refine o_p (p_fieldAddr rfl rfl fd_102_2 sz_30 rfl) rfl ?_
  refine o_q (q_load_old rfl rfl sz_30 ((hs.1.rdj 2 hp rfl))) rfl ?_
  refine o_p (p_len_slice rfl rfl Tryz.underlying30) rfl ?_
  refine oP ?_
  refine o_nil ?_
  refine s_cond rfl (fun h2 => ?_) (fun h2 => ?_)
  · try simp only [decide_eq_true_eq] at h2
    have hk : k < (nth L p).cs.length := by omega
    refine s_skip ?_
    refine s_seq ?_
    refine s_block ?_
    refine s_seq ?_
    refine s_region ?_
    refine o_p (p_fieldAddr rfl rfl fd_24_3 sz_22 rfl) rfl ?_
    refine o_q (q_load rfl rfl sz_22 aPk rfl) rfl ?_
    refine oP ?_
    refine o_p (p_indexAddr rfl rfl rfl sl_22 (p) (by omega) (by omega) (Rw.some hs.1 (by omega))) rfl ?_
    refine o_p (p_fieldAddr rfl rfl fd_102_2 sz_30 rfl) rfl ?_
    refine o_q (q_load_old rfl rfl sz_30 ((hs.1.rdj 2 hp rfl))) rfl ?_
    refine oP ?_
    refine o_p (p_indexAddr rfl rfl rfl sl_30 (k) (by omega) (by omega) (Rw.some (hs.cs hp) (by omega))) rfl ?_
    refine o_q (q_load_old rfl rfl sz_3 (((hs.cs hp).rdj 0 (by omega) rfl))) rfl ?_
    refine oP ?_
    refine oP ?_
    refine o_nil ?_
    refine s_cond rfl (fun h3 => ?_) (fun h3 => ?_)
    · try simp only [decide_eq_true_eq] at h3
      have hq9 : c = (nth L p).cs.getD k 0 := (h3).symm
      have hix := ixB_eq (l := hasC (nth L p).cs c) (k := k) (by rw [hasC_len]; omega) hk3 (fun h9 => by rw [hasC_get hk]; exact decide_eq_true hq9)
      refine s_seq ?_
      refine s_region ?_
      refine oP ?_
      refine oP ?_
      refine o_nil ?_
      exact s_retv (rs := [.tmp 6]) rfl (.tmp rfl (.nil)) (fun w' h' => ⟨by simp only [retV, ixR]; rw [hix, if_pos hk], h'.below⟩)
    · try simp only [decide_eq_false_iff_not] at h3
      have hq9 : ¬ c = (nth L p).cs.getD k 0 := fun e => h3 e.symm
      refine s_skip ?_
      refine s_blk ?_
      refine s_region ?_
      refine oP ?_
      refine oP ?_
      try (refine o_slot (i64w (by omega) (by omega)) ?_)
      refine oP ?_
      refine o_nil ?_
      exact s_backI (k + 1) (by omega) ⟨by omega, fun q hq => (Nat.lt_or_ge q k).elim (hk3 q) (fun h9 => by obtain rfl : q = k := (by omega); rw [hasC_get hk]; exact decide_eq_false hq9)⟩ aSx (fun w h => h.ent aEt)
  · try simp only [decide_eq_false_iff_not] at h2
    obtain rfl : k = (nth L p).cs.length := by omega
    have hix := ixB_eq (l := hasC (nth L p).cs c) (k := (nth L p).cs.length) (by rw [hasC_len]; omega) hk3 (fun h9 => absurd h9 (by rw [hasC_len]; omega))
    refine s_exit_to rfl ?_
    refine s_seq ?_
    refine s_region ?_
    refine oP ?_
    refine o_nil ?_
    exact s_retv (rs := [.tmp 6]) rfl (.tmp rfl (.nil)) (fun w' h' => ⟨by simp only [retV, ixR]; rw [hix, if_neg (Nat.lt_irrefl _)]; rfl, h'.below⟩)

set_option maxRecDepth 20000 in
theorem c64 (w : World) (bt : Nat) (j : Nat) (mo rm : Int) (gn cap : Nat) (L : List LNd) (hw : HS w (fps [.blk bt 24 4 [.int .i64 (j : Int), .int .i64 mo, .int .i64 rm, .slice (some ⟨gn, 0, none⟩) (L).length cap], .blk gn 102 (cap * 3) ((L).flatMap LNd.vals), .star ((L).map (subN 26))]) [.blk bt 24 4 [.int .i64 (j : Int), .int .i64 mo, .int .i64 rm, .slice (some ⟨gn, 0, none⟩) (L).length cap], .blk gn 102 (cap * 3) ((L).flatMap LNd.vals), .star ((L).map (subN 26))] w) (hnc : L.length ≤ cap) (hcm : cap ≤ maxLen) (h0 : 0 < L.length) (hl : L.length ≤ 1000) : Calls Tryz.prog 64 #[.pointer (some ⟨bt, 0, none⟩)] w fun en w' => ∃ g : (Nat × Nat) × List LNd, en = .returned (.int .i64 ((frsN (pln L)).1 : Int)) ∧ (pln g.2 = (frsN (pln L)).2 ∧ g.2.length ≤ g.1.2 ∧ g.1.2 ≤ maxLen) ∧ HS w (fps [.blk bt 24 4 [.int .i64 (j : Int), .int .i64 mo, .int .i64 rm, .slice (some ⟨gn, 0, none⟩) (L).length cap], .blk gn 102 (cap * 3) ((L).flatMap LNd.vals), .star ((L).map (subN 26))]) [.blk bt 24 4 [.int .i64 (j : Int), .int .i64 mo, .int .i64 rm, .slice (some ⟨g.1.1, 0, none⟩) (g.2).length g.1.2], .blk g.1.1 102 (g.1.2 * 3) ((g.2).flatMap LNd.vals), .star ((g.2).map (subN 26))] w' := by
  have hnl : (pln L).length = L.length := pln_len L
  refine enter (args := [_]) Tryz.func64 Tryz.ntmps64 rfl rfl hw ?_
  refine s_seq ?_
  refine s_region ?_
  refine oP ?_
  refine o_nil ?_
  refine s_seq ?_
  refine s_seq ?_
  refine s_region ?_
  refine oP ?_
  refine o_nil ?_
  refine s_block ?_
  refine s_loopI (α := Nat × Nat) [2, 3, 4, 5, 6, 7, 8, 9, 10, 11, 12, 13, 14, 15, 16, 17, 18, 19, 20, 21, 22, 23, 24, 25, 26, 27, 28, 29] (fun x => [(3, .int .i64 (x.1 : Int))]) (fun _ => HS w (fps [.blk bt 24 4 [.int .i64 (j : Int), .int .i64 mo, .int .i64 rm, .slice (some ⟨gn, 0, none⟩) (L).length cap], .blk gn 102 (cap * 3) ((L).flatMap LNd.vals), .star ((L).map (subN 26))]) [.blk bt 24 4 [.int .i64 (j : Int), .int .i64 mo, .int .i64 rm, .slice (some ⟨gn, 0, none⟩) (L).length cap], .blk gn 102 (cap * 3) ((L).flatMap LNd.vals), .star ((L).map (subN 26))]) (fun x => (1 ≤ x.1 ∧ x.1 ≤ L.length) ∧ x.1 + x.2 = L.length + 1 ∧ frsI (pln L) x.2 x.1 = (frsX (pln L))) (fun x => x.2) (1, L.length) ⟨⟨Nat.le_refl _, h0⟩, by simp only []; omega, by rw [frsX, hnl]⟩ aSx (fun w h => h.ent aEt) (fun ⟨i, f⟩ hx => ?_)
  dsimp only
  obtain ⟨⟨hi1, hi2⟩, hf1, hf2⟩ := hx
  simp only [] at hi1 hi2 hf1 hf2
  obtain ⟨f, rfl⟩ : ∃ f9, f = f9 + 1 := ⟨f - 1, by omega⟩
  rw [frsI] at hf2
  refine s_seq ?_
  refine s_seq ?_
  refine s_region ?_
  refine oP ?_
  refine oP ?_
  refine oP ?_
  refine o_p (p_fieldAddr rfl rfl fd_24_3 sz_22 rfl) rfl ?_
  refine o_q (q_load rfl rfl sz_22 aPk rfl) rfl ?_
  refine o_p (p_len_slice rfl rfl Tryz.underlying22) rfl ?_
  refine oP ?_
  refine o_nil ?_
  refine s_cond rfl (fun h1 => ?_) (fun h1 => ?_)
  · try simp only [decide_eq_true_eq] at h1
    have hil : i < L.length := by omega
    rw [if_pos (by rw [hnl]; exact hil), pln_nth hil] at hf2
    simp only [LNd.pl] at hf2
    refine s_skip ?_
    refine s_seq ?_
    refine s_block ?_
    refine s_seq ?_
    refine s_region ?_
    refine oP ?_
    refine oP ?_
    refine o_p (p_fieldAddr rfl rfl fd_24_3 sz_22 rfl) rfl ?_
    refine o_q (q_load rfl rfl sz_22 aPk rfl) rfl ?_
    refine oP ?_
    refine o_p (p_indexAddr rfl rfl rfl sl_22 (i) (by omega) (by omega) rfl) rfl ?_
    refine o_slot (show _ = Value.pointer (some ⟨gn, i * 3, none⟩) from by rw [Nat.zero_add]) ?_
    refine o_p (p_fieldAddr rfl rfl fd_102_0 sz_4 rfl) rfl ?_
    refine o_q (q_load_at rfl rfl sz_4 (fun w h => HS.nd_cell (i := i) (by omega) h aPk 0 rfl (by decide))) rfl ?_
    refine oP ?_
    refine o_nil ?_
    refine s_cond rfl (fun h2 => ?_) (fun h2 => ?_)
    · try simp only [Bool.not_eq_true'] at h2
      have hus : ¬ (nth L i).us = true := by have hq := h2; simp [hq]
      have hf3 : i = (frsX (pln L)) := by rw [← hf2]; exact (if_neg hus).symm
      have hz : (frsX (pln L)) < (pln L).length := by rw [← hf3, hnl]; exact hil
      refine s_seq ?_
      refine s_region ?_
      refine oP ?_
      refine oP ?_
      refine o_p (p_fieldAddr rfl rfl fd_24_3 sz_22 rfl) rfl ?_
      refine o_q (q_load rfl rfl sz_22 aPk rfl) rfl ?_
      refine oP ?_
      refine o_p (p_build (cs := [_, _, _]) rfl rfl pl_102 zr_102 rfl) rfl ?_
      refine o_p (p_indexAddr rfl rfl rfl sl_22 (i) (by omega) (by omega) rfl) rfl ?_
      refine o_slot (show _ = Value.pointer (some ⟨gn, i * 3, none⟩) from by rw [Nat.zero_add]) ?_
      refine o_h0 (h_store rfl rfl rfl sz_102 rfl aPt (by rw [flat_length nv3]; show _ + 3 ≤ _; omega) rfl) (fun _ _ => ?_)
      refine o_nil ?_
      refine s_seq ?_
      refine s_region ?_
      refine oP ?_
      refine oP ?_
      refine o_nil ?_
      exact s_retv (rs := [.tmp 2]) rfl (.tmp rfl (.nil)) (fun w' h' => by obtain ⟨L9, hS9, hC⟩ := HS.node_fre (i := i) (gn := gn) (cap := cap) hil h' aPk aPk; exact ⟨((gn, cap), L9), by rw [frsN, if_pos hz, ← hf3]; rfl, ⟨by rw [hS9.pl, frsN, if_pos hz, ← hf3]; rfl, by simp only []; rw [hS9.len]; exact hnc, hcm⟩, by simp only []; rw [hS9.len]; exact hC.ent aEt⟩)
    · try simp only [Bool.not_eq_false'] at h2
      have hus : (nth L i).us = true := by have hq := h2; simpa using hq
      have hf4 : frsI (pln L) f (i + 1) = (frsX (pln L)) := by rw [← hf2]; exact (if_pos hus).symm
      refine s_skip ?_
      refine s_blk ?_
      refine s_region ?_
      refine oP ?_
      refine oP ?_
      try (refine o_slot (i64w (by omega) (by omega)) ?_)
      refine oP ?_
      refine o_nil ?_
      exact s_backI (i + 1, f) (by (try simp only []); omega) ⟨⟨by (try simp only []); omega, by (try simp only []); omega⟩, by (try simp only []); omega, hf4⟩ aSx (fun w h => h.ent aEt)
  · try simp only [decide_eq_false_iff_not] at h1
    obtain rfl : i = L.length := by omega
    rw [if_neg (by rw [hnl]; omega)] at hf2
    have hz : ¬ (frsX (pln L)) < (pln L).length := by rw [← hf2, hnl]; omega
    refine s_class (fun w h => (HS.own_shut (n := L.length) (h.ent (Bs := [.blk gn 102 (cap * 3) (L.flatMap LNd.vals), .star (L.map (subN 26)), .blk bt 24 4 [.int .i64 (j : Int), .int .i64 mo, .int .i64 rm, .slice (some ⟨gn, 0, none⟩) L.length cap]]) aEt) (flat_length nv3 L) hnc hcm)) ?_
    refine s_exit_to rfl ?_
    refine s_seq ?_
    refine s_region ?_
    refine oP ?_
    refine oP ?_
    refine oP ?_
    refine o_p (p_fieldAddr rfl rfl fd_24_3 sz_22 rfl) rfl ?_
    refine o_q (q_load rfl rfl sz_22 aPk rfl) rfl ?_
    refine o_p (p_build (cs := [_, _, _]) rfl rfl pl_102 zr_102 rfl) rfl ?_
    refine o_h (h_buildSlice (cs := [_, _, _]) rfl rfl sl_22 zr_102 rfl rfl rfl) rfl (fun b3 _ => ?_)
    refine o_h (h_appendS [_, _, _] rfl rfl rfl sl_22 Tryz.underlying22 zr_102 rfl aPk (src_blk aPk) rfl (by intro u hu; simp only [List.mem_cons, List.mem_nil_iff, or_false] at hu; rcases hu with rfl | rfl | rfl <;> rfl) (by omega) (by simp only [maxLen]; omega)) rfl (fun b4 _ => ?_)
    refine o_fact (fun w h => own_addr (n := L.length + 1) (by omega) h aPk) (fun hgn => ?_)
    obtain ⟨⟨ga, gc⟩, hga⟩ : ∃ q : Option Addr × Nat, b4 = q := ⟨_, rfl⟩
    subst hga
    obtain ⟨g9, e9, hn9, hm9⟩ := hgn
    simp only [] at e9 hn9 hm9
    subst e9
    refine o_class (fun w h => HS.own_at h aPk) ?_
    refine oP ?_
    refine o_p (p_fieldAddr rfl rfl fd_24_3 sz_22 rfl) rfl ?_
    refine o_h0 (h_store rfl rfl rfl sz_22 rfl aPt (by show 4 ≤ 4; omega) rfl) (fun _ _ => ?_)
    refine o_nil ?_
    refine s_seq ?_
    refine s_region ?_
    refine oP ?_
    refine oP ?_
    refine o_p (p_fieldAddr rfl rfl fd_24_3 sz_22 rfl) rfl ?_
    refine o_q (q_load rfl rfl sz_22 aPk rfl) rfl ?_
    refine o_p (p_len_slice rfl rfl Tryz.underlying22) rfl ?_
    refine oP ?_
    try (refine o_slot (i64w (by omega) (by omega)) ?_)
    refine oP ?_
    refine o_nil ?_
    exact s_retv (rs := [.tmp 2]) rfl (.tmp rfl (.nil)) (fun w' h' => ⟨((g9, gc), L ++ [(LNd.fre : LNd)]), by rw [frsN, if_neg hz, hnl]; simp only [retV]; congr 2; omega, ⟨by rw [frsN, if_neg hz, pln_app]; rfl, by simp only [List.length_append, List.length_singleton]; exact hn9, hm9⟩, by have h2 := HS.sub_app (sub := subN 26) (l := L) (x := (LNd.fre : LNd)) (HS.star_close (Bs := [_, _]) (((h'.ent (Bs := [.star (L.map (subN 26)), .blk bt 24 4 [.int .i64 (j : Int), .int .i64 mo, .int .i64 rm, .slice (some ⟨g9, 0, none⟩) (L.length + 1) gc], .blk g9 102 (gc * 3) (L.flatMap LNd.vals ++ [.bool true, .slice none 0 0, .slice none 0 0])]) aEt).own_nil 3 1).own_nil 26 2)); have e8 : (L ++ [(LNd.fre : LNd)]).flatMap LNd.vals = L.flatMap LNd.vals ++ [.bool true, .slice none 0 0, .slice none 0 0] := (by rw [List.flatMap_append]; rfl); have e7 : (L ++ [(LNd.fre : LNd)]).length = L.length + 1 := (by simp); dsimp only; rw [e8, e7]; exact h2.ent aEt⟩)

end Go.Proofs

namespace Go.Proofs
open Go Go.RowKit Gx
set_option linter.unusedVariables false
set_option linter.unusedSimpArgs false
attribute [local irreducible] Go.Calls Gx.S Gx.O Gx.D Gx.OpP Gx.OpQ Gx.OpH

theorem fn_64 : isFn Tryz.prog 64 = true := by kernel_rfl
theorem fn_100 : isFn Tryz.prog 100 = true := by kernel_rfl
theorem fn_62 : isFn Tryz.prog 62 = true := by kernel_rfl
theorem fn_101 : isFn Tryz.prog 101 = true := by kernel_rfl


set_option maxRecDepth 20000 in
set_option maxHeartbeats 300000 in
theorem c63 (w : World) (bt : Nat) (j : Nat) (mo rm : Int) (gn cap : Nat) (L : List LNd) (p i : Nat) (hw : HS w (fps [.blk bt 24 4 [.int .i64 (j : Int), .int .i64 mo, .int .i64 rm, .slice (some ⟨gn, 0, none⟩) (L).length cap], .blk gn 102 (cap * 3) ((L).flatMap LNd.vals), .star ((L).map (subN 26))]) [.blk bt 24 4 [.int .i64 (j : Int), .int .i64 mo, .int .i64 rm, .slice (some ⟨gn, 0, none⟩) (L).length cap], .blk gn 102 (cap * 3) ((L).flatMap LNd.vals), .star ((L).map (subN 26))] w) (hnc : L.length ≤ cap) (hcm : cap ≤ maxLen) (hok : SpROk mo (pln L) p i) : Calls Tryz.prog 63 #[.pointer (some ⟨bt, 0, none⟩), .int .i64 (p : Int), .int .i64 (i : Int)] w fun en w' => ∃ g : (Nat × Nat) × List LNd, en = .returned (.tuple #[]) ∧ (pln g.2 = splR mo (pln L) p i ∧ g.2.length ≤ g.1.2 ∧ g.1.2 ≤ maxLen) ∧ HS w (fps [.blk bt 24 4 [.int .i64 (j : Int), .int .i64 mo, .int .i64 rm, .slice (some ⟨gn, 0, none⟩) (L).length cap], .blk gn 102 (cap * 3) ((L).flatMap LNd.vals), .star ((L).map (subN 26))]) [.blk bt 24 4 [.int .i64 (j : Int), .int .i64 mo, .int .i64 rm, .slice (some ⟨g.1.1, 0, none⟩) (g.2).length g.1.2], .blk g.1.1 102 (g.1.2 * 3) ((g.2).flatMap LNd.vals), .star ((g.2).map (subN 26))] w' := by
  have hlt0 := hok.lt
  have hln0 := hok.len
  have hpl0 := hok.par
  rw [pln_len] at hlt0 hln0 hpl0
  have hmo := hok.mo0
  have hes0 := hok.es
  have hcs0 := hok.cs
  have hne := frsN_ne hok.lt hok.us
  have hfn := frsN_nth hok.lt hne
  have hfl := frsN_lt (pln L)
  have hfl2 := frsN_len (pln L)
  rw [pln_len] at hfl2
  have hparE := hok.parE
  have hparC := hok.parC
  have hsA := hok.sm.splRA mo i
  refine enter (args := [_, _, _]) Tryz.func63 Tryz.ntmps63 rfl rfl hw ?_
  refine s_seq ?_
  refine s_region ?_
  refine oP ?_
  refine o_h (h_callF (Cs := [.blk bt 24 4 [.int .i64 (j : Int), .int .i64 mo, .int .i64 rm, .slice (some ⟨gn, 0, none⟩) (L).length cap], .blk gn 102 (cap * 3) ((L).flatMap LNd.vals), .star ((L).map (subN 26))]) rfl fn_64 rfl aPs (fun w1 h1 hf => c64 w1 bt j mo rm gn cap L hf hnc hcm (by omega) (by omega))) rfl (fun ⟨⟨gn1, cap1⟩, L1⟩ hF1 => ?_)
  dsimp only
  obtain ⟨hL1, hn1, hm1⟩ := hF1
  simp only [] at hL1 hn1 hm1
  have hl1 : L1.length = (frsN (pln L)).2.length := by rw [← hL1, pln_len]
  have hi1 : i < L1.length := by omega
  have ho1 : (frsN (pln L)).1 < L1.length := by omega
  have hN1 : (nth L1 i).pl = nth (pln L) i := by rw [← pln_nth hi1, hL1, hfn]
  have hE1 : (nth L1 i).es = (nth (pln L) i).es := congrArg Nd.es hN1
  have hC1 : (nth L1 i).cs = (nth (pln L) i).cs := congrArg Nd.cs hN1
  have hsm1 : (splM mo) < (nth L1 i).es.length := by rw [hE1]; exact hes0
  have hsE1 := (hok.sm i).1
  rw [← hE1] at hsE1
  have hsC1 := (hok.sm i).2
  rw [← hC1] at hsC1
  rw [← hC1] at hcs0
  have hxF : nth (frsN (pln L)).2 i = (nth L1 i).pl := by rw [hfn, hN1]
  refine oP ?_
  refine o_nil ?_
  refine s_seq ?_
  refine s_region ?_
  refine oP ?_
  refine oP ?_
  refine o_p (p_fieldAddr rfl rfl fd_24_3 sz_22 rfl) rfl ?_
  refine o_q (q_load rfl rfl sz_22 aPk rfl) rfl ?_
  refine oP ?_
  refine o_p (p_indexAddr rfl rfl rfl sl_22 (i) (by omega) (by omega) rfl) rfl ?_
  refine o_slot (show _ = Value.pointer (some ⟨gn1, i * 3, none⟩) from by rw [Nat.zero_add]) ?_
  refine o_q (q_load_atn _ rfl rfl sz_102 rfl (fun w h => HS.nd_cells hi1 h aPk)) rfl ?_
  refine o_h (h_alloc rfl zr_102) rfl (fun b1 _ => ?_)
  refine o_h0 (h_store rfl rfl rfl sz_102 rfl aPt (by simp only [setMany_length, List.length_set, List.length_cons, List.length_nil, List.length_map]; omega) rfl) (fun _ _ => ?_)
  refine o_nil ?_
  refine s_seq ?_
  refine s_region ?_
  refine oP ?_
  refine oP ?_
  refine o_p (p_fieldAddr rfl rfl fd_24_1 sz_3 rfl) rfl ?_
  refine o_q (q_load rfl rfl sz_3 aPk rfl) rfl ?_
  refine oP ?_
  try (refine o_slot (i64w (by omega) (by omega)) ?_)
  refine o_p (p_quo_nn rfl rfl rfl (by omega) (by omega) (by omega)) rfl ?_
  refine o_slot (show _ = Value.int .i64 ((splM mo) : Int) from by unfold splM; congr 1; omega) ?_
  refine oP ?_
  refine o_nil ?_
  refine s_seq ?_
  refine s_region ?_
  refine o_p (p_fieldAddr rfl rfl fd_102_1 sz_77 rfl) rfl ?_
  refine o_q (q_load rfl rfl sz_77 aPk rfl) rfl ?_
  refine o_fact (fun w h => HS.es_some hi1 (by omega) h aPk) fun hge => ?_
  obtain ⟨ge, hge⟩ := hge
  refine o_fact (fun w h => HS.es_room hi1 h aPk) fun hrE => ?_
  refine o_fact (fun w h => HS.cs_room hi1 h aPk) fun hrC => ?_
  refine oP ?_
  refine o_p (p_indexAddr rfl rfl rfl sl_77 ((splM mo)) (by omega) (by omega) hge) rfl ?_
  refine o_q (q_load_atn _ rfl rfl sz_26 rfl (fun w h => HS.es_rd hi1 hsm1 hge h aPk)) rfl ?_
  refine o_h (h_alloc rfl zr_26) rfl (fun b2 _ => ?_)
  refine o_h0 (h_store rfl rfl rfl sz_26 rfl aPt (by simp only [setMany_length, List.length_set, List.length_cons, List.length_nil, List.length_map]; omega) rfl) (fun _ _ => ?_)
  refine o_nil ?_
  refine s_seq ?_
  refine s_drawB [.blk bt 24 4 [.int .i64 (j : Int), .int .i64 mo, .int .i64 rm, .slice (some ⟨gn1, 0, none⟩) L1.length cap1], .blk gn1 102 (cap1 * 3) (L1.flatMap LNd.vals), .star (L1.map (subN 26)), .blk b1 102 3 (LNd.vals (nth L1 i)), .blk b2 26 2 (TEnt.vals (nth (nth L1 i).es (splM mo)))] [14] mixed ?_
  refine dP 0 ?_
  refine dP 1 ?_
  refine d_p 2 rfl (p_fieldAddr rfl rfl fd_24_3 sz_22 rfl) (by kernel_rfl) rfl rfl ?_
  refine d_q 3 [[]] rfl (q_load rfl rfl sz_22 aPk rfl) (by kernel_rfl) (by kernel_rfl) (by kernel_rfl) rfl ?_
  refine dP 4 ?_
  refine d_p 6 rfl (p_fieldAddr rfl rfl fd_102_1 sz_77 rfl) (by kernel_rfl) rfl rfl ?_
  refine d_q 7 [[]] rfl (q_load rfl rfl sz_77 aPk rfl) (by kernel_rfl) (by kernel_rfl) (by kernel_rfl) rfl ?_
  refine dP 8 ?_
  refine dP 9 ?_
  try (refine d_slot (i64w (by omega) (by omega)) ?_)
  refine d_p 10 rfl (p_slice _ _ ((splM mo) + 1) ((nth L1 i).es.length) rfl rfl sl_77 ⟨_, _, rfl, (by omega)⟩ rfl (by omega) (by omega)) (by kernel_rfl) rfl rfl ?_
  refine d_h 5 rfl (h_buildSlice0 rfl sl_77) (by kernel_rfl) (fun w h => h.ent aEt) rfl (fun b3 _ => ?_)
  refine d_h 11 rfl (h_appendS (((nth L1 i).es.drop ((splM mo) + 1)).flatMap TEnt.vals) rfl rfl rfl sl_77 Tryz.underlying77 zr_26 rfl aPk (fun w h => Rw.src ev2 (Rw.cut (HS.es_row hi1 h aPk) hrE.1) (HS.refl _ [])) (by rw [flat_length ev2, List.length_drop]) (flat_one ev1 _) (by omega) (by simp only [maxLen]; omega)) (by kernel_rfl) (fun w h => h.ent aEt) rfl (fun b4 _ => ?_)
  refine d_p 12 rfl (p_indexAddr rfl rfl rfl sl_22 ((frsN (pln L)).1) (by omega) (by omega) rfl) (by kernel_rfl) rfl rfl ?_
  refine d_slot (show _ = Value.pointer (some ⟨gn1, (frsN (pln L)).1 * 3, none⟩) from by rw [Nat.zero_add]) ?_
  refine d_p 13 rfl (p_fieldAddr rfl rfl fd_102_1 sz_77 rfl) (by kernel_rfl) rfl rfl ?_
  refine d_h0 14 rfl (h_store rfl rfl rfl sz_77 rfl aPt (by rw [flat_length nv3]; show _ + 1 ≤ _; omega) rfl) (by kernel_rfl) (fun w h => h.ent aEt) (fun _ _ => ?_)
  refine d_turn [] (by kernel_rfl) ?_
  refine d_nil (by kernel_rfl) (fun w h => by first | exact h | exact h.ent aEt) ?_
  refine s_seq ?_
  refine s_weaken (L' := [(0, _), (1, _), (2, _), (6, _), (7, _), (8, _), (9, _)]) aSx (fun _ h => h) ?_
  refine s_ex (fun w h => HS.es_setN (gn := gn1) (cap := cap1) (ea := b4.1) (ec := b4.2) (es := (nth L1 i).es.drop ((splM mo) + 1)) (n := 0 + ((nth L1 i).es.length - ((splM mo) + 1))) (xs := [] ++ ((nth L1 i).es.drop ((splM mo) + 1)).flatMap TEnt.vals) ho1 (by rw [List.length_drop, Nat.zero_add]) (by rw [List.nil_append]) h aPk aPk aPk) fun L2 => ?_
  refine s_fact (fun w h => h.1) fun hS2 => ?_
  refine s_class (fun w h => h.2) ?_
  have hi2 : i < L2.length := by rw [hS2.len]; exact hi1
  have hN2 : nth L2 i = nth L1 i := hS2.other hi1 hne
  refine s_drawB [.blk bt 24 4 [.int .i64 (j : Int), .int .i64 mo, .int .i64 rm, .slice (some ⟨gn1, 0, none⟩) L1.length cap1], .blk gn1 102 (cap1 * 3) (L2.flatMap LNd.vals), .star (L2.map (subN 26)), .blk b1 102 3 (LNd.vals (nth L1 i)), .blk b2 26 2 (TEnt.vals (nth (nth L1 i).es (splM mo)))] [13] mixed ?_
  refine dP 0 ?_
  refine dP 1 ?_
  refine d_p 2 rfl (p_fieldAddr rfl rfl fd_24_3 sz_22 rfl) (by kernel_rfl) rfl rfl ?_
  refine d_q 3 [[]] rfl (q_load rfl rfl sz_22 aPk rfl) (by kernel_rfl) (by kernel_rfl) (by kernel_rfl) rfl ?_
  refine dP 4 ?_
  refine d_p 6 rfl (p_fieldAddr rfl rfl fd_102_1 sz_77 rfl) (by kernel_rfl) rfl rfl ?_
  refine d_q 7 [[]] rfl (q_load rfl rfl sz_77 aPk rfl) (by kernel_rfl) (by kernel_rfl) (by kernel_rfl) rfl ?_
  refine dP 8 ?_
  refine d_p 9 rfl (p_slice _ _ 0 (splM mo) rfl rfl sl_77 rfl ⟨_, _, rfl, rfl⟩ (by omega) (by omega)) (by kernel_rfl) rfl rfl ?_
  refine d_h 5 rfl (h_buildSlice0 rfl sl_77) (by kernel_rfl) (fun w h => h.ent aEt) rfl (fun b5 _ => ?_)
  refine d_h 10 rfl (h_appendS (((nth L1 i).es.take (splM mo)).flatMap TEnt.vals) rfl rfl rfl sl_77 Tryz.underlying77 zr_26 rfl aPk (fun w h => Rw.src ev2 (rw_take (Rw.cut (i := 0) (hN2 ▸ HS.es_row hi2 h aPk) hrE.1) (splM mo)) (HS.refl _ [])) (by rw [flat_length ev2, List.length_take]; omega) (flat_one ev1 _) (by omega) (by simp only [maxLen]; omega)) (by kernel_rfl) (fun w h => h.ent aEt) rfl (fun b6 _ => ?_)
  refine d_p 11 rfl (p_indexAddr rfl rfl rfl sl_22 (i) (by omega) (by omega) rfl) (by kernel_rfl) rfl rfl ?_
  refine d_slot (show _ = Value.pointer (some ⟨gn1, i * 3, none⟩) from by rw [Nat.zero_add]) ?_
  refine d_p 12 rfl (p_fieldAddr rfl rfl fd_102_1 sz_77 rfl) (by kernel_rfl) rfl rfl ?_
  refine d_h0 13 rfl (h_store rfl rfl rfl sz_77 rfl aPt (by rw [flat_length nv3]; show _ + 1 ≤ _; omega) rfl) (by kernel_rfl) (fun w h => h.ent aEt) (fun _ _ => ?_)
  refine d_turn [] (by kernel_rfl) ?_
  refine d_nil (by kernel_rfl) (fun w h => by first | exact h | exact h.ent aEt) ?_
  refine s_seq ?_
  refine s_seq ?_
  refine s_region ?_
  refine o_p (p_fieldAddr rfl rfl fd_102_2 sz_30 rfl) rfl ?_
  refine o_ex (fun w h => HS.es_setN (gn := gn1) (cap := cap1) (ea := b6.1) (ec := b6.2) (es := (nth L1 i).es.take (splM mo)) (n := 0 + ((splM mo) - 0)) (xs := [] ++ ((nth L1 i).es.take (splM mo)).flatMap TEnt.vals) hi2 (by rw [List.length_take]; omega) (by rw [List.nil_append]) h aPk aPk aPk) fun L3 => ?_
  refine o_fact (fun w h => h.1) fun hS3 => ?_
  refine o_class (fun w h => h.2) ?_
  have hi3 : i < L3.length := by rw [hS3.len]; exact hi2
  have ho3 : (frsN (pln L)).1 < L3.length := by rw [hS3.len, hS2.len]; exact ho1
  have hcr3 : (nth L3 i).ca = (nth L1 i).ca ∧ (nth L3 i).cc = (nth L1 i).cc ∧ (nth L3 i).cs = (nth L1 i).cs := by rw [hS3.at_, hN2]; exact ⟨rfl, rfl, rfl⟩
  refine o_q (q_load rfl rfl sz_30 aPk rfl) rfl ?_
  refine o_p (p_len_slice rfl rfl Tryz.underlying30) rfl ?_
  refine oP ?_
  refine o_nil ?_
  refine s_weaken (L' := [(0, _), (1, _), (2, _), (6, _), (7, _), (8, _), (9, _), (61, _)]) aSx (fun _ h => h) ?_
  refine s_cutI (α := List LNd) [62, 63, 64, 65, 66, 67, 68, 69, 70, 71, 72, 73, 74, 75, 76, 77, 78, 79, 80, 81, 82, 83, 84, 85, 86, 87, 88, 89] (fun _ => []) (fun x => HS w (fps [.blk bt 24 4 [.int .i64 (j : Int), .int .i64 mo, .int .i64 rm, .slice (some ⟨gn, 0, none⟩) (L).length cap], .blk gn 102 (cap * 3) ((L).flatMap LNd.vals), .star ((L).map (subN 26))]) [.blk bt 24 4 [.int .i64 (j : Int), .int .i64 mo, .int .i64 rm, .slice (some ⟨gn1, 0, none⟩) (x).length cap1], .blk gn1 102 (cap1 * 3) ((x).flatMap LNd.vals), .star ((x).map (subN 26)), .blk b2 26 2 (TEnt.vals (nth (nth L1 i).es (splM mo)))]) (fun x => pln x = (splRA mo (pln L) i) ∧ x.length = L1.length) ?_ ?_
  · skip
    refine s_cond rfl (fun h7 => ?_) (fun h7 => ?_)
    · try simp only [decide_eq_true_eq] at h7
      have hcz : (nth L1 i).cs.length ≠ 0 := by have hq := h7; omega
      have hsm4 : (splM mo) + 1 ≤ (nth L1 i).cs.length := by omega
      refine s_seq ?_
      refine s_drawB [.blk bt 24 4 [.int .i64 (j : Int), .int .i64 mo, .int .i64 rm, .slice (some ⟨gn1, 0, none⟩) L1.length cap1], .blk gn1 102 (cap1 * 3) (L3.flatMap LNd.vals), .star (L3.map (subN 26)), .blk b1 102 3 (LNd.vals (nth L1 i)), .blk b2 26 2 (TEnt.vals (nth (nth L1 i).es (splM mo)))] [14] mixed ?_
      refine dP 0 ?_
      refine dP 1 ?_
      refine d_p 2 rfl (p_fieldAddr rfl rfl fd_24_3 sz_22 rfl) (by kernel_rfl) rfl rfl ?_
      refine d_q 3 [[]] rfl (q_load rfl rfl sz_22 aPk rfl) (by kernel_rfl) (by kernel_rfl) (by kernel_rfl) rfl ?_
      refine dP 4 ?_
      refine d_p 6 rfl (p_fieldAddr rfl rfl fd_102_2 sz_30 rfl) (by kernel_rfl) rfl rfl ?_
      refine d_q 7 [[]] rfl (q_load rfl rfl sz_30 aPk rfl) (by kernel_rfl) (by kernel_rfl) (by kernel_rfl) rfl ?_
      refine dP 8 ?_
      refine dP 9 ?_
      try (refine d_slot (i64w (by omega) (by omega)) ?_)
      refine d_p 10 rfl (p_slice _ _ ((splM mo) + 1) ((nth L1 i).cs.length) rfl rfl sl_30 ⟨_, _, rfl, (by omega)⟩ rfl (by omega) (by omega)) (by kernel_rfl) rfl rfl ?_
      refine d_h 5 rfl (h_buildSlice0 rfl sl_30) (by kernel_rfl) (fun w h => h.ent aEt) rfl (fun b8 _ => ?_)
      refine d_h 11 rfl (h_appendS (((nth L1 i).cs.drop ((splM mo) + 1)).flatMap inV) rfl rfl rfl sl_30 Tryz.underlying30 zr_3 rfl aPk (fun w h => Rw.src iv1 (Rw.cut (cs_rowE hcr3 (HS.cs_row hi3 h aPk)) hrC.1) (HS.refl _ [])) (by rw [flat_length iv1, List.length_drop]) (flat_one iv1c _) (by omega) (by simp only [maxLen]; omega)) (by kernel_rfl) (fun w h => h.ent aEt) rfl (fun b9 _ => ?_)
      refine d_p 12 rfl (p_indexAddr rfl rfl rfl sl_22 ((frsN (pln L)).1) (by omega) (by omega) rfl) (by kernel_rfl) rfl rfl ?_
      refine d_slot (show _ = Value.pointer (some ⟨gn1, (frsN (pln L)).1 * 3, none⟩) from by rw [Nat.zero_add]) ?_
      refine d_p 13 rfl (p_fieldAddr rfl rfl fd_102_2 sz_30 rfl) (by kernel_rfl) rfl rfl ?_
      refine d_h0 14 rfl (h_store rfl rfl rfl sz_30 rfl aPt (by rw [flat_length nv3]; show _ + 1 ≤ _; omega) rfl) (by kernel_rfl) (fun w h => h.ent aEt) (fun _ _ => ?_)
      refine d_turn [] (by kernel_rfl) ?_
      refine d_nil (by kernel_rfl) (fun w h => by first | exact h | exact h.ent aEt) ?_
      refine s_ex (fun w h => HS.cs_setN (gn := gn1) (cap := cap1) (ca := b9.1) (cc := b9.2) (cs := (nth L1 i).cs.drop ((splM mo) + 1)) (n := 0 + ((nth L1 i).cs.length - ((splM mo) + 1))) (xs := [] ++ ((nth L1 i).cs.drop ((splM mo) + 1)).flatMap inV) ho3 (by rw [List.length_drop, Nat.zero_add]) (by rw [List.nil_append]) h aPk aPk aPk) fun L4 => ?_
      refine s_fact (fun w h => h.1) fun hS4 => ?_
      refine s_class (fun w h => h.2) ?_
      have hi4 : i < L4.length := by rw [hS4.len]; exact hi3
      have hN4 : nth L4 i = nth L3 i := hS4.other hi3 hne
      have hcr4 : (nth L4 i).ca = (nth L1 i).ca ∧ (nth L4 i).cc = (nth L1 i).cc ∧ (nth L4 i).cs = (nth L1 i).cs := by rw [hN4]; exact hcr3
      refine s_drawB [.blk bt 24 4 [.int .i64 (j : Int), .int .i64 mo, .int .i64 rm, .slice (some ⟨gn1, 0, none⟩) L1.length cap1], .blk gn1 102 (cap1 * 3) (L4.flatMap LNd.vals), .star (L4.map (subN 26)), .blk b1 102 3 (LNd.vals (nth L1 i)), .blk b2 26 2 (TEnt.vals (nth (nth L1 i).es (splM mo)))] [14] mixed ?_
      refine dP 0 ?_
      refine dP 1 ?_
      refine d_p 2 rfl (p_fieldAddr rfl rfl fd_24_3 sz_22 rfl) (by kernel_rfl) rfl rfl ?_
      refine d_q 3 [[]] rfl (q_load rfl rfl sz_22 aPk rfl) (by kernel_rfl) (by kernel_rfl) (by kernel_rfl) rfl ?_
      refine dP 4 ?_
      refine d_p 6 rfl (p_fieldAddr rfl rfl fd_102_2 sz_30 rfl) (by kernel_rfl) rfl rfl ?_
      refine d_q 7 [[]] rfl (q_load rfl rfl sz_30 aPk rfl) (by kernel_rfl) (by kernel_rfl) (by kernel_rfl) rfl ?_
      refine dP 8 ?_
      refine dP 9 ?_
      try (refine d_slot (i64w (by omega) (by omega)) ?_)
      refine d_p 10 rfl (p_slice _ _ 0 ((splM mo) + 1) rfl rfl sl_30 rfl ⟨_, _, rfl, (by omega)⟩ (by omega) (by omega)) (by kernel_rfl) rfl rfl ?_
      refine d_h 5 rfl (h_buildSlice0 rfl sl_30) (by kernel_rfl) (fun w h => h.ent aEt) rfl (fun b10 _ => ?_)
      refine d_h 11 rfl (h_appendS (((nth L1 i).cs.take ((splM mo) + 1)).flatMap inV) rfl rfl rfl sl_30 Tryz.underlying30 zr_3 rfl aPk (fun w h => Rw.src iv1 (rw_take (Rw.cut (i := 0) (cs_rowE hcr4 (HS.cs_row hi4 h aPk)) hrC.1) ((splM mo) + 1)) (HS.refl _ [])) (by rw [flat_length iv1, List.length_take]; omega) (flat_one iv1c _) (by omega) (by simp only [maxLen]; omega)) (by kernel_rfl) (fun w h => h.ent aEt) rfl (fun b11 _ => ?_)
      refine d_p 12 rfl (p_indexAddr rfl rfl rfl sl_22 (i) (by omega) (by omega) rfl) (by kernel_rfl) rfl rfl ?_
      refine d_slot (show _ = Value.pointer (some ⟨gn1, i * 3, none⟩) from by rw [Nat.zero_add]) ?_
      refine d_p 13 rfl (p_fieldAddr rfl rfl fd_102_2 sz_30 rfl) (by kernel_rfl) rfl rfl ?_
      refine d_h0 14 rfl (h_store rfl rfl rfl sz_30 rfl aPt (by rw [flat_length nv3]; show _ + 1 ≤ _; omega) rfl) (by kernel_rfl) (fun w h => h.ent aEt) (fun _ _ => ?_)
      refine d_turn [] (by kernel_rfl) ?_
      refine d_nil (by kernel_rfl) (fun w h => by first | exact h | exact h.ent aEt) ?_
      refine s_ex (fun w h => HS.cs_setN (gn := gn1) (cap := cap1) (ca := b11.1) (cc := b11.2) (cs := (nth L1 i).cs.take ((splM mo) + 1)) (n := 0 + ((splM mo) + 1 - 0)) (xs := [] ++ ((nth L1 i).cs.take ((splM mo) + 1)).flatMap inV) hi4 (by rw [List.length_take]; omega) (by rw [List.nil_append]) h aPk aPk aPk) fun L5 => ?_
      refine s_fact (fun w h => h.1) fun hS5 => ?_
      refine s_class (fun w h => h.2) ?_
      exact s_joinI L5 ⟨by rw [hS5.cs, hS4.cs, hS3.es, hS2.es]; exact (splRA_1 hL1.symm (hL1.symm ▸ hxF) hcz).symm, by rw [hS5.len, hS4.len, hS3.len, hS2.len]⟩ aSx (fun w h => by rw [hS5.len, hS4.len, hS3.len, hS2.len]; exact h.ent aEt)
    · try simp only [decide_eq_false_iff_not] at h7
      have hcz : (nth L1 i).cs.length = 0 := by have hq := h7; omega
      refine s_skip ?_
      exact s_joinI L3 ⟨by rw [hS3.es, hS2.es]; exact (splRA_0 hL1.symm (hL1.symm ▸ hxF) hcz).symm, by rw [hS3.len, hS2.len]⟩ aSx (fun w h => by rw [hS3.len, hS2.len]; exact h.ent aEt)
  · intro LA hx
    obtain ⟨hA, hlA⟩ := hx
    have hpA : p < LA.length := by omega
    have hNA : (nth LA p).pl = nth (splRA mo (pln L) i) p := by rw [← pln_nth hpA, hA]
    have hEA : (nth LA p).es = (nth (splRA mo (pln L) i) p).es := congrArg Nd.es hNA
    have hCA : (nth LA p).cs = (nth (splRA mo (pln L) i) p).cs := congrArg Nd.cs hNA
    have hsAE := (hsA p).1
    have hsAC := (hsA p).2
    rw [← hEA] at hsAE
    rw [← hCA] at hsAC
    have hparE2 : (ixR (nth (splRA mo (pln L) i) p).cs (i : Int)) ≤ (nth LA p).es.length := by rw [hEA]; exact hparE
    have hparC2 : (ixR (nth (splRA mo (pln L) i) p).cs (i : Int)) + 1 ≤ (nth LA p).cs.length := by rw [hCA]; exact hparC
    refine s_seq ?_
    refine s_region ?_
    refine oP ?_
    refine oP ?_
    refine o_q (q_loadn rfl rfl sz_24 aPk rfl) rfl ?_
    refine oP ?_
    refine oP ?_
    refine o_q (q_call rfl fn_100 rfl (fun w1 h1 => c100 w1 j mo rm (some ⟨gn1, 0, none⟩) cap1 LA p (i : Int) hpA (HS.nt_at h1 aPk aPk) (by omega) (by omega))) rfl ?_
    refine o_slot (show _ = Value.int .i64 ((ixR (nth (splRA mo (pln L) i) p).cs (i : Int)) : Int) from by rw [hCA]) ?_
    refine oP ?_
    refine o_nil ?_
    refine s_seq ?_
    refine s_draw [18] mixed ?_
    refine dP 0 ?_
    refine dP 1 ?_
    refine d_p 2 rfl (p_fieldAddr rfl rfl fd_24_3 sz_22 rfl) (by kernel_rfl) rfl rfl ?_
    refine d_q 3 [[]] rfl (q_load rfl rfl sz_22 aPk rfl) (by kernel_rfl) (by kernel_rfl) (by kernel_rfl) rfl ?_
    refine dP 4 ?_
    refine dP 5 ?_
    refine dP 6 ?_
    refine d_p 7 rfl (p_fieldAddr rfl rfl fd_24_3 sz_22 rfl) (by kernel_rfl) rfl rfl ?_
    refine d_q 8 [[]] rfl (q_load rfl rfl sz_22 aPk rfl) (by kernel_rfl) (by kernel_rfl) (by kernel_rfl) rfl ?_
    refine dP 9 ?_
    refine d_p 10 rfl (p_indexAddr rfl rfl rfl sl_22 (p) (by omega) (by omega) rfl) (by kernel_rfl) rfl rfl ?_
    refine d_slot (show _ = Value.pointer (some ⟨gn1, p * 3, none⟩) from by rw [Nat.zero_add]) ?_
    refine d_p 11 rfl (p_fieldAddr rfl rfl fd_102_1 sz_77 rfl) (by kernel_rfl) rfl rfl ?_
    refine d_q 12 [[]] rfl (q_load_at rfl rfl sz_77 (fun w h => HS.nd_cell hpA h aPk 1 rfl (by decide))) (by kernel_rfl) (by kernel_rfl) (by kernel_rfl) rfl ?_
    refine dP 13 ?_
    refine d_q 14 [[]] rfl (q_loadn rfl rfl sz_26 aPk rfl) (by kernel_rfl) (by kernel_rfl) (by kernel_rfl) rfl ?_
    refine d_h 15 rfl (h_call rfl fn_62 rfl (fun w1 h1 => c62 w1 (nth LA p).ea (nth LA p).ec (nth LA p).es (ixR (nth (splRA mo (pln L) i) p).cs (i : Int)) (nth (nth L1 i).es (splM mo)) (HS.es_row hpA h1 aPk) (by omega) hparE2 (HS.es_room hpA h1 aPk).1)) (by kernel_rfl) (fun w h => h.ent aEt) rfl (fun b12 _ => ?_)
    refine d_base (fun w h => h.ent aEt) ?_
    refine d_p 16 rfl (p_indexAddr rfl rfl rfl sl_22 (p) (by omega) (by omega) rfl) (by kernel_rfl) rfl rfl ?_
    refine d_slot (show _ = Value.pointer (some ⟨gn1, p * 3, none⟩) from by rw [Nat.zero_add]) ?_
    refine d_p 17 rfl (p_fieldAddr rfl rfl fd_102_1 sz_77 rfl) (by kernel_rfl) rfl rfl ?_
    refine d_h0 18 rfl (h_store rfl rfl rfl sz_77 rfl aPt (by rw [flat_length nv3]; show _ + 1 ≤ _; omega) rfl) (by kernel_rfl) (fun w h => h.ent aEt) (fun _ _ => ?_)
    refine d_turn [] (by kernel_rfl) ?_
    refine d_nil (by kernel_rfl) (fun w h => by first | exact h | exact h.ent aEt) ?_
    refine s_weaken (L' := [(0, _), (1, _), (6, _), (10, _)]) aSx (fun _ h => h) ?_
    refine s_ex (fun w h => HS.es_set (gn := gn1) (cap := cap1) (ea := b12.1) (ec := b12.2) (es := insAt (nth LA p).es (ixR (nth (splRA mo (pln L) i) p).cs (i : Int)) (nth (nth L1 i).es (splM mo))) hpA h aPk aPk aPk) fun LB => ?_
    refine s_fact (fun w h => h.1) fun hSB => ?_
    refine s_class (fun w h => h.2) ?_
    have hpB : p < LB.length := by rw [hSB.len]; exact hpA
    have hBC : (nth LB p).cs = (nth LA p).cs := by rw [hSB.at_]
    have hBCl : (nth LB p).cs.length = (nth LA p).cs.length := by rw [hBC]
    refine s_draw [19] mixed ?_
    refine dP 0 ?_
    refine dP 1 ?_
    refine d_p 2 rfl (p_fieldAddr rfl rfl fd_24_3 sz_22 rfl) (by kernel_rfl) rfl rfl ?_
    refine d_q 3 [[]] rfl (q_load rfl rfl sz_22 aPk rfl) (by kernel_rfl) (by kernel_rfl) (by kernel_rfl) rfl ?_
    refine dP 4 ?_
    refine dP 5 ?_
    refine dP 6 ?_
    refine d_p 7 rfl (p_fieldAddr rfl rfl fd_24_3 sz_22 rfl) (by kernel_rfl) rfl rfl ?_
    refine d_q 8 [[]] rfl (q_load rfl rfl sz_22 aPk rfl) (by kernel_rfl) (by kernel_rfl) (by kernel_rfl) rfl ?_
    refine dP 9 ?_
    refine d_p 10 rfl (p_indexAddr rfl rfl rfl sl_22 (p) (by omega) (by omega) rfl) (by kernel_rfl) rfl rfl ?_
    refine d_slot (show _ = Value.pointer (some ⟨gn1, p * 3, none⟩) from by rw [Nat.zero_add]) ?_
    refine d_p 11 rfl (p_fieldAddr rfl rfl fd_102_2 sz_30 rfl) (by kernel_rfl) rfl rfl ?_
    refine d_q 12 [[]] rfl (q_load_at rfl rfl sz_30 (fun w h => HS.nd_cell hpB h aPk 2 rfl (by decide))) (by kernel_rfl) (by kernel_rfl) (by kernel_rfl) rfl ?_
    refine dP 13 ?_
    refine dP 14 ?_
    try (refine d_slot (i64w (by omega) (by omega)) ?_)
    refine dP 15 ?_
    refine d_h 16 rfl (h_call rfl fn_101 rfl (fun w1 h1 => c101 w1 (nth LB p).ca (nth LB p).cc (nth LB p).cs ((ixR (nth (splRA mo (pln L) i) p).cs (i : Int)) + 1) ((frsN (pln L)).1 : Int) (HS.cs_row hpB h1 aPk) (by omega) (by omega) (HS.cs_room hpB h1 aPk).1)) (by kernel_rfl) (fun w h => h.ent aEt) rfl (fun b13 _ => ?_)
    refine d_base (fun w h => h.ent aEt) ?_
    refine d_p 17 rfl (p_indexAddr rfl rfl rfl sl_22 (p) (by omega) (by omega) rfl) (by kernel_rfl) rfl rfl ?_
    refine d_slot (show _ = Value.pointer (some ⟨gn1, p * 3, none⟩) from by rw [Nat.zero_add]) ?_
    refine d_p 18 rfl (p_fieldAddr rfl rfl fd_102_2 sz_30 rfl) (by kernel_rfl) rfl rfl ?_
    refine d_h0 19 rfl (h_store rfl rfl rfl sz_30 rfl aPt (by rw [flat_length nv3]; show _ + 1 ≤ _; omega) rfl) (by kernel_rfl) (fun w h => h.ent aEt) (fun _ _ => ?_)
    refine d_turn [] (by kernel_rfl) ?_
    refine d_nil (by kernel_rfl) (fun w h => by first | exact h | exact h.ent aEt) ?_
    exact s_end0 rfl (fun w' h' => by obtain ⟨LC, hSC, hC⟩ := HS.cs_set (gn := gn1) (cap := cap1) (ca := b13.1) (cc := b13.2) (cs := insAt (nth LB p).cs ((ixR (nth (splRA mo (pln L) i) p).cs (i : Int)) + 1) ((frsN (pln L)).1 : Int)) hpB h' aPk aPk aPk; exact ⟨((gn1, cap1), LC), rfl, ⟨by rw [hSC.cs, hBC, hSB.es, hA, hEA, hCA]; unfold splR addP; rw [hxF]; rfl, by simp only []; rw [hSC.len, hSB.len, hlA]; exact hn1, hm1⟩, by simp only []; rw [hSC.len, hSB.len]; exact hC.ent aEt⟩)

end Go.Proofs

/- Chapter 12: the reference's insertion, parts. Plain data. -/
namespace Gx
set_option linter.unusedSimpArgs false
set_option linter.unusedVariables false
set_option linter.unusedSectionVars false
open Go Go.RowKit
theorem sm_bd2 {ns : List Nd} (h : Bd ns) : Sm 1000 ns := fun k => by
  rcases Nat.lt_or_ge k ns.length with hk | hk
  · exact ⟨h.es k hk, h.cs k hk⟩
  · rw [nth_out hk]
    exact ⟨Nat.zero_le _, Nat.zero_le _⟩
def insRB (co : Int) (ns : List Nd) (x : TEnt) : List Nd := esN ns (lastN (pathN co ns x.key).1) (insAt (nth ns (lastN (pathN co ns x.key).1)).es (plc co (nth ns (lastN (pathN co ns x.key).1)).es x.key) x)
theorem lowR_eq {LG L6 L7 L8 : List LNd} {b : Option Addr} {c : Nat} (hL6 : pln L6 = (frsN (pln LG)).2) (hi6 : 0 < L6.length) (ho6 : (frsN (pln LG)).1 < L6.length) (hS7 : NdSet L6 L7 (frsN (pln LG)).1 { nth L6 0 with us := (nth L6 (frsN (pln LG)).1).us }) (hS8 : NdSet L7 L8 0 ⟨(nth L7 0).us, none, 0, [], b, c, [((frsN (pln LG)).1 : Int)]⟩) (hi7 : 0 < L7.length) : pln L8 = (lowR (pln LG)).2 := by
  have e2 : pln L7 = csN (esN (pln L6) (frsN (pln LG)).1 (nth (pln L6) 0).es) (frsN (pln LG)).1 (nth (pln L6) 0).cs := by
    rw [csN_esN (by rw [pln_len]; exact ho6), hS7.pl, pln_nth ho6, pln_nth hi6]
    rfl
  rw [hS8.pl, lowR, ← hL6, ← e2, csN_esN (by rw [pln_len]; exact hi7), pln_nth hi7]
  rfl
end Gx

namespace Go.Proofs
open Go Go.RowKit Gx
set_option linter.unusedVariables false
set_option linter.unusedSimpArgs false
attribute [local irreducible] Go.Calls Gx.S Gx.O Gx.D Gx.OpP Gx.OpQ Gx.OpH

theorem fn_17 : isFn Tryz.prog 17 = true := by kernel_rfl
theorem fn_20 : isFn Tryz.prog 20 = true := by kernel_rfl
theorem fn_63 : isFn Tryz.prog 63 = true := by kernel_rfl


set_option maxRecDepth 20000 in
set_option maxHeartbeats 400000 in
theorem c22 (w : World) (j : Nat) (mo rm : Int) (a : Option Addr) (cap : Nat) (L : List LNd) (x : TEnt) (hj : j ≤ 3) (h0 : 0 < L.length) (hB : Bd (pln L)) (hT : TOk (j : Int) (pln L)) (hs : Nt w [] a L) (hk : keyOk (j : Int) x.key = true) (hkl : x.key.length ≤ 1000000) (hok0 : InsROk (j : Int) mo rm (pln L) x) : Calls Tryz.prog 22 #[.agg #[.int .i64 (j : Int), .int .i64 mo, .int .i64 rm, .slice a L.length cap], .agg #[.string (bs x.key), .string (bs x.val)]] w fun en w' => ∃ g : (Option Addr × Nat) × List LNd, en = .returned (.agg #[.int .i64 (j : Int), .int .i64 mo, .int .i64 rm, .slice g.1.1 g.2.length g.1.2]) ∧ pln g.2 = insR (j : Int) mo rm (pln L) x ∧ HS w [] [.nodes 26 102 g.1.1 g.1.2 g.2] w' := by
  have hln0 := hB.len
  rw [pln_len] at hln0
  have hsmB : Sm 1000 (pln L) := sm_bd2 hB
  refine enter (args := [_, _]) Tryz.func22 Tryz.ntmps22 rfl rfl (HS.refl w []) ?_
  refine s_seq ?_
  refine s_region ?_
  refine o_h (h_box rfl rfl) rfl (fun b1 _ => ?_)
  refine o_h (h_box rfl rfl) rfl (fun b2 _ => ?_)
  refine o_h (h_alloc rfl zr_24) rfl (fun b3 _ => ?_)
  refine o_nil ?_
  refine s_seq ?_
  refine s_region ?_
  refine o_q (q_loadn rfl rfl sz_24 aPk rfl) rfl ?_
  refine o_h (h_call rfl fn_17 rfl (fun w1 h1 => c17 w1 (j : Int) mo rm a cap L (hs.later h1.nil) hln0 hsmB)) rfl (fun ⟨⟨ga0, gc0⟩, L9⟩ hF9 => ?_)
  dsimp only
  have hL9 : pln L9 = pln L := hF9
  have hl9 : L9.length = L.length := by rw [← pln_len L9, hL9, pln_len]
  have h09 : 0 < L9.length := by omega
  refine o_ex (fun w h => nodes_split h09 h aPk) fun gn => ?_
  refine o_fact (p := ga0 = some ⟨gn, 0, none⟩ ∧ L9.length ≤ gc0 ∧ gc0 ≤ maxLen) (fun w h => ⟨h.1, h.2.1, h.2.2.1⟩) fun hgn => ?_
  obtain ⟨hga, hn9, hm9⟩ := hgn
  subst hga
  refine o_class (fun w h => h.2.2.2) ?_
  have hB9 : Bd (pln L9) := by rw [hL9]; exact hB
  have hT9 : TOk (j : Int) (pln L9) := by rw [hL9]; exact hT
  have hK9 : ∀ i, i < L9.length → ∀ y ∈ (nth L9 i).es, keyOk (j : Int) y.key = true ∧ y.key.length ≤ 1000000 := fun i hi y hy => tok_key hT9 i (by rw [pln_len]; exact hi) y (by rw [pln_nth hi]; exact hy)
  have hok : InsROk (j : Int) mo rm (pln L9) x := by rw [hL9]; exact hok0
  have hne := hok.ne
  have hlen9 := hok.len
  have hlf := hok.lf
  rw [pln_len] at hlf
  have hel9 := hB9.es _ (by rw [pln_len]; exact hlf)
  rw [pln_nth hlf] at hel9
  simp only [LNd.pl] at hel9
  refine o_h (h_alloc rfl zr_24) rfl (fun b4 _ => ?_)
  refine o_h0 (h_store rfl rfl rfl sz_24 rfl aPt (by simp only [setMany_length, List.length_set, List.length_cons, List.length_nil, List.length_map]; omega) rfl) (fun _ _ => ?_)
  refine o_nil ?_
  refine s_seq ?_
  refine s_region ?_
  refine o_q (q_loadn rfl rfl sz_24 aPk rfl) rfl ?_
  refine o_p (p_fieldAddr rfl rfl fd_26_0 sz_9 rfl) rfl ?_
  refine o_q (q_load rfl rfl sz_9 aPk rfl) rfl ?_
  refine o_h (h_call rfl fn_20 rfl (fun w1 h1 => c20 w1 j mo rm (some ⟨gn, 0, none⟩) gc0 L9 x.key hj h09 hB9 hT9 (HS.nt_at h1 aPk aPk) hk hkl)) rfl (fun ⟨pa, pc⟩ _ => ?_)
  dsimp only
  refine o_fact (fun w h => HS.pown_some (P := (pathN (j : Int) (pln L9) x.key).1) (a := pa) (c := pc) hne h aPk) fun hpa => ?_
  obtain ⟨gp, hpa⟩ := hpa
  refine oP ?_
  refine oP ?_
  refine oP ?_
  refine oP ?_
  refine oP ?_
  refine o_nil ?_
  refine s_seq ?_
  refine s_region ?_
  refine oP ?_
  refine oP ?_
  refine o_p (p_len_slice rfl rfl Tryz.underlying30) rfl ?_
  refine oP ?_
  try (refine o_slot (i64w (by omega) (by omega)) ?_)
  refine o_p (p_indexAddr rfl rfl rfl sl_30 ((pathN (j : Int) (pln L9) x.key).1.length - 1) (by omega) (by omega) hpa) rfl ?_
  refine o_q (q_load_at rfl rfl sz_3 (fun w h => HS.pown_rd (P := (pathN (j : Int) (pln L9) x.key).1) (a := pa) (c := pc) (k := (pathN (j : Int) (pln L9) x.key).1.length - 1) (by omega) hpa h aPk)) rfl ?_
  refine o_slot (show _ = Value.int .i64 ((lastN (pathN (j : Int) (pln L9) x.key).1) : Int) from rfl) ?_
  refine oP ?_
  refine o_nil ?_
  refine s_seq ?_
  refine s_region ?_
  refine o_q (q_loadn rfl rfl sz_24 aPk rfl) rfl ?_
  refine oP ?_
  refine o_p (p_fieldAddr rfl rfl fd_26_0 sz_9 rfl) rfl ?_
  refine o_q (q_load rfl rfl sz_9 aPk rfl) rfl ?_
  refine o_q (q_call rfl fn_61 rfl (fun w1 h1 => c61 w1 j mo rm (some ⟨gn, 0, none⟩) gc0 L9 (lastN (pathN (j : Int) (pln L9) x.key).1) x.key hj hlf (HS.nt_at h1 aPk aPk) (by omega) hel9 (hK9 _ hlf) hk hkl)) rfl ?_
  refine oP ?_
  refine oP ?_
  refine oP ?_
  refine oP ?_
  refine oP ?_
  refine o_nil ?_
  refine s_seq ?_
  refine s_weaken (L' := [(3, _), (4, _), (5, _), (6, _), (8, _), (9, _)]) aSx (fun _ h => h) ?_
  refine s_draw [14] mixed ?_
  refine d_p 0 rfl (p_fieldAddr rfl rfl fd_24_3 sz_22 rfl) (by kernel_rfl) rfl rfl ?_
  refine d_q 1 [[]] rfl (q_load rfl rfl sz_22 aPk rfl) (by kernel_rfl) (by kernel_rfl) (by kernel_rfl) rfl ?_
  refine dP 2 ?_
  refine d_p 3 rfl (p_fieldAddr rfl rfl fd_24_3 sz_22 rfl) (by kernel_rfl) rfl rfl ?_
  refine d_q 4 [[]] rfl (q_load rfl rfl sz_22 aPk rfl) (by kernel_rfl) (by kernel_rfl) (by kernel_rfl) rfl ?_
  refine dP 5 ?_
  refine d_p 6 rfl (p_indexAddr rfl rfl rfl sl_22 ((lastN (pathN (j : Int) (pln L9) x.key).1)) (by omega) (by omega) rfl) (by kernel_rfl) rfl rfl ?_
  refine d_slot (show _ = Value.pointer (some ⟨gn, (lastN (pathN (j : Int) (pln L9) x.key).1) * 3, none⟩) from by rw [Nat.zero_add]) ?_
  refine d_p 7 rfl (p_fieldAddr rfl rfl fd_102_1 sz_77 rfl) (by kernel_rfl) rfl rfl ?_
  refine d_q 8 [[]] rfl (q_load_at rfl rfl sz_77 (fun w h => HS.nd_cell hlf h aPk 1 rfl (by decide))) (by kernel_rfl) (by kernel_rfl) (by kernel_rfl) rfl ?_
  refine dP 9 ?_
  refine d_q 10 [[]] rfl (q_loadn rfl rfl sz_26 aPk rfl) (by kernel_rfl) (by kernel_rfl) (by kernel_rfl) rfl ?_
  refine d_h 11 rfl (h_call rfl fn_62 rfl (fun w1 h1 => c62 w1 (nth L9 (lastN (pathN (j : Int) (pln L9) x.key).1)).ea (nth L9 (lastN (pathN (j : Int) (pln L9) x.key).1)).ec (nth L9 (lastN (pathN (j : Int) (pln L9) x.key).1)).es (plc (j : Int) (nth L9 (lastN (pathN (j : Int) (pln L9) x.key).1)).es x.key) x (HS.es_row hlf h1 aPk) (by omega) (plc_le _ _ _) (HS.es_room hlf h1 aPk).1)) (by kernel_rfl) (fun w h => h.ent aEt) rfl (fun b5 _ => ?_)
  refine d_base (fun w h => h.ent aEt) ?_
  refine d_p 12 rfl (p_indexAddr rfl rfl rfl sl_22 ((lastN (pathN (j : Int) (pln L9) x.key).1)) (by omega) (by omega) rfl) (by kernel_rfl) rfl rfl ?_
  refine d_slot (show _ = Value.pointer (some ⟨gn, (lastN (pathN (j : Int) (pln L9) x.key).1) * 3, none⟩) from by rw [Nat.zero_add]) ?_
  refine d_p 13 rfl (p_fieldAddr rfl rfl fd_102_1 sz_77 rfl) (by kernel_rfl) rfl rfl ?_
  refine d_h0 14 rfl (h_store rfl rfl rfl sz_77 rfl aPt (by rw [flat_length nv3]; show _ + 1 ≤ _; omega) rfl) (by kernel_rfl) (fun w h => h.ent aEt) (fun _ _ => ?_)
  refine d_turn [] (by kernel_rfl) ?_
  refine d_nil (by kernel_rfl) (fun w h => by first | exact h | exact h.ent aEt) ?_
  refine s_seq ?_
  refine s_seq ?_
  refine s_region ?_
  refine oP ?_
  refine o_ex (fun w h => HS.es_set (gn := gn) (cap := gc0) (ea := b5.1) (ec := b5.2) (es := insAt (nth L9 (lastN (pathN (j : Int) (pln L9) x.key).1)).es (plc (j : Int) (nth L9 (lastN (pathN (j : Int) (pln L9) x.key).1)).es x.key) x) hlf h aPk aPk aPk) fun L1 => ?_
  refine o_fact (fun w h => h.1) fun hS1 => ?_
  refine o_class (fun w h => h.2) ?_
  have hL1 : pln L1 = (insRB (j : Int) (pln L9) x) := by rw [hS1.es, insRB, pln_nth hlf]; rfl
  refine o_class (C' := HS w [] [.blk b4 24 4 [.int .i64 (j : Int), .int .i64 mo, .int .i64 rm, .slice (some ⟨gn, 0, none⟩) (L1).length gc0], .blk gn 102 (gc0 * 3) ((L1).flatMap LNd.vals), .star ((L1).map (subN 26)), .own (.slice pa ((pathN (j : Int) (pln L9) x.key).1).length pc) 3 1 ((pathN (j : Int) (pln L9) x.key).1).length (((pathN (j : Int) (pln L9) x.key).1).map fun i : Nat => Value.int .i64 (i : Int)), .blk b2 26 2 (TEnt.vals x), .blk b3 24 4 [.int .i64 0, .int .i64 0, .int .i64 0, .slice none 0 0]]) (fun w2 h => by rw [hS1.len]; exact h.ent aEt) ?_
  refine o_p (p_len_slice rfl rfl Tryz.underlying30) rfl ?_
  refine oP ?_
  try (refine o_slot (i64w (by omega) (by omega)) ?_)
  refine o_slot (show _ = Value.int .i64 (((pathN (j : Int) (pln L9) x.key).1.length - 1 : Nat) : Int) from by congr 1; omega) ?_
  refine oP ?_
  refine o_nil ?_
  refine s_block ?_
  refine s_weaken (L' := [(4, _), (5, _), (6, _), (11, _)]) aSx (fun _ h => h) ?_
  refine s_loopI (α := ((Nat × Nat) × List LNd) × Nat) [11, 53, 54, 55, 56, 57, 58, 59, 60, 61, 62, 63, 64, 65, 66, 67, 68, 69, 70, 71, 72, 73, 74, 75, 76, 77, 78, 79] (fun y => [(11, .int .i64 (y.2 : Int))]) (fun y => HS w [] [.blk b4 24 4 [.int .i64 (j : Int), .int .i64 mo, .int .i64 rm, .slice (some ⟨y.1.1.1, 0, none⟩) (y.1.2).length y.1.1.2], .blk y.1.1.1 102 (y.1.1.2 * 3) ((y.1.2).flatMap LNd.vals), .star ((y.1.2).map (subN 26)), .own (.slice pa ((pathN (j : Int) (pln L9) x.key).1).length pc) 3 1 ((pathN (j : Int) (pln L9) x.key).1).length (((pathN (j : Int) (pln L9) x.key).1).map fun i : Nat => Value.int .i64 (i : Int)), .blk b2 26 2 (TEnt.vals x), .blk b3 24 4 [.int .i64 0, .int .i64 0, .int .i64 0, .slice none 0 0]]) (fun y => grwRW mo (pathN (j : Int) (pln L9) x.key).1 y.2 (pln y.1.2) = grwRW mo (pathN (j : Int) (pln L9) x.key).1 ((pathN (j : Int) (pln L9) x.key).1.length - 1) (insRB (j : Int) (pln L9) x) ∧ GrwROk mo (pathN (j : Int) (pln L9) x.key).1 y.2 (pln y.1.2) ∧ y.2 < (pathN (j : Int) (pln L9) x.key).1.length ∧ y.1.2.length ≤ y.1.1.2 ∧ y.1.1.2 ≤ maxLen) (fun y => y.2) (((gn, gc0), L1), (pathN (j : Int) (pln L9) x.key).1.length - 1) ⟨by rw [hL1], by rw [hL1]; exact hok.grw, by simp only []; omega, by simp only []; rw [hS1.len]; exact hn9, hm9⟩ aSx (fun w h => h.ent aEt) (fun ⟨⟨⟨ga, gc⟩, Lk⟩, k⟩ hx => ?_)
  dsimp only
  obtain ⟨hx1, hx2, hx3, hx4, hx5⟩ := hx
  simp only [] at hx1 hx2 hx3 hx4 hx5
  refine s_seq ?_
  refine s_seq ?_
  refine s_region ?_
  refine oP ?_
  refine oP ?_
  refine o_nil ?_
  refine s_cond rfl (fun h6 => ?_) (fun h6 => ?_)
  · try simp only [decide_eq_true_eq] at h6
    obtain ⟨k1, rfl⟩ : ∃ k1, k = k1 + 1 := ⟨k - 1, by omega⟩
    obtain ⟨hkl9, hsp⟩ := hx2.1
    rw [pln_len] at hkl9
    rw [pln_nth hkl9] at hsp
    simp only [LNd.pl] at hsp
    refine s_skip ?_
    refine s_seq ?_
    refine s_block ?_
    refine s_seq ?_
    refine s_draw [] mixed ?_
    refine d_p 0 rfl (p_fieldAddr rfl rfl fd_24_3 sz_22 rfl) (by kernel_rfl) rfl rfl ?_
    refine d_q 1 [] rfl (q_load rfl rfl sz_22 aPk rfl) (by kernel_rfl) (by kernel_rfl) (by kernel_rfl) rfl ?_
    refine dP 2 ?_
    refine dP 3 ?_
    refine d_p 4 rfl (p_indexAddr rfl rfl rfl sl_30 (k1 + 1) (by omega) (by omega) hpa) (by kernel_rfl) rfl rfl ?_
    refine d_q 5 [] rfl (q_load_at rfl rfl sz_3 (fun w h => HS.pown_rd (P := (pathN (j : Int) (pln L9) x.key).1) (a := pa) (c := pc) (k := k1 + 1) (by omega) hpa h aPk)) (by kernel_rfl) (by kernel_rfl) (by kernel_rfl) rfl ?_
    refine d_p 6 rfl (p_indexAddr rfl rfl rfl sl_22 ((nth (pathN (j : Int) (pln L9) x.key).1 (k1 + 1))) (by omega) (by omega) rfl) (by kernel_rfl) rfl rfl ?_
    refine d_slot (show _ = Value.pointer (some ⟨ga, (nth (pathN (j : Int) (pln L9) x.key).1 (k1 + 1)) * 3, none⟩) from by rw [Nat.zero_add]) ?_
    refine d_p 7 rfl (p_fieldAddr rfl rfl fd_102_1 sz_77 rfl) (by kernel_rfl) rfl rfl ?_
    refine d_q 8 [] rfl (q_load_at rfl rfl sz_77 (fun w h => HS.nd_cell hkl9 h aPk 1 rfl (by decide))) (by kernel_rfl) (by kernel_rfl) (by kernel_rfl) rfl ?_
    refine d_p 9 rfl (p_len_slice rfl rfl Tryz.underlying77) (by kernel_rfl) rfl rfl ?_
    refine d_p 10 rfl (p_fieldAddr rfl rfl fd_24_1 sz_3 rfl) (by kernel_rfl) rfl rfl ?_
    refine d_q 11 [] rfl (q_load rfl rfl sz_3 aPk rfl) (by kernel_rfl) (by kernel_rfl) (by kernel_rfl) rfl ?_
    refine dP 12 ?_
    refine d_nil (by kernel_rfl) (fun w h => by first | exact h | exact h.ent aEt) ?_
    refine s_cond rfl (fun h7 => ?_) (fun h7 => ?_)
    · try simp only [decide_eq_true_eq] at h7
      have hbig : mo < ((nth Lk (nth (pathN (j : Int) (pln L9) x.key).1 (k1 + 1))).es.length : Int) := h7
      refine s_draw [9] mixed ?_
      refine dP 0 ?_
      refine dP 1 ?_
      refine dP 2 ?_
      try (refine d_slot (i64w (by omega) (by omega)) ?_)
      refine d_p 3 rfl (p_indexAddr rfl rfl rfl sl_30 (k1) (by omega) (by omega) hpa) (by kernel_rfl) rfl rfl ?_
      refine d_q 4 [[]] rfl (q_load_at rfl rfl sz_3 (fun w h => HS.pown_rd (P := (pathN (j : Int) (pln L9) x.key).1) (a := pa) (c := pc) (k := k1) (by omega) hpa h aPk)) (by kernel_rfl) (by kernel_rfl) (by kernel_rfl) rfl ?_
      refine dP 5 ?_
      refine dP 6 ?_
      refine d_p 7 rfl (p_indexAddr rfl rfl rfl sl_30 (k1 + 1) (by omega) (by omega) hpa) (by kernel_rfl) rfl rfl ?_
      refine d_q 8 [[]] rfl (q_load_at rfl rfl sz_3 (fun w h => HS.pown_rd (P := (pathN (j : Int) (pln L9) x.key).1) (a := pa) (c := pc) (k := k1 + 1) (by omega) hpa h aPk)) (by kernel_rfl) (by kernel_rfl) (by kernel_rfl) rfl ?_
      refine d_h 9 rfl (h_callF (Cs := [.blk b4 24 4 [.int .i64 (j : Int), .int .i64 mo, .int .i64 rm, .slice (some ⟨ga, 0, none⟩) (Lk).length gc], .blk ga 102 (gc * 3) ((Lk).flatMap LNd.vals), .star ((Lk).map (subN 26))]) rfl fn_63 rfl aPs (fun w1 h1 hf => c63 w1 b4 j mo rm ga gc Lk (nth (pathN (j : Int) (pln L9) x.key).1 k1) (nth (pathN (j : Int) (pln L9) x.key).1 (k1 + 1)) hf hx4 hx5 (hsp hbig))) (by kernel_rfl) (fun w h => h.ent aEt) rfl (fun ⟨⟨g5, c5⟩, L5⟩ hF5 => ?_)
      refine d_turn [] (by kernel_rfl) ?_
      refine d_nil (by kernel_rfl) (fun w h => by first | exact h | exact h.ent aEt) ?_
      refine s_blk ?_
      refine s_region ?_
      refine oP ?_
      refine oP ?_
      try (refine o_slot (i64w (by omega) (by omega)) ?_)
      refine oP ?_
      refine o_nil ?_
      exact s_backI (((g5, c5), L5), k1) (by (try simp only []); omega) ⟨by simp only []; rw [hF5.1, ← hx1, grwRW, if_pos (by rw [pln_nth hkl9]; exact hbig)], by simp only []; rw [hF5.1]; have h9 := hx2.2; rw [if_pos (by rw [pln_nth hkl9]; exact hbig)] at h9; exact h9, by simp only []; omega, hF5.2.1, hF5.2.2⟩ (by refine sl_c (congrArg (fun e => some (Value.int .i64 e)) (show _ = _ from by simp only []; omega)) ?_; repeat (first | exact sl_n | refine sl_c rfl ?_)) (fun w h => h.ent aEt)
    · try simp only [decide_eq_false_iff_not] at h7
      have hbig : ¬ mo < ((nth Lk (nth (pathN (j : Int) (pln L9) x.key).1 (k1 + 1))).es.length : Int) := by have hq := h7; omega
      refine s_skip ?_
      refine s_blk ?_
      refine s_region ?_
      refine oP ?_
      refine oP ?_
      try (refine o_slot (i64w (by omega) (by omega)) ?_)
      refine oP ?_
      refine o_nil ?_
      exact s_backI (((ga, gc), Lk), k1) (by (try simp only []); omega) ⟨by simp only []; rw [← hx1, grwRW, if_neg (by rw [pln_nth hkl9]; exact hbig)], by simp only []; have h9 := hx2.2; rw [if_neg (by rw [pln_nth hkl9]; exact hbig)] at h9; exact h9, by simp only []; omega, hx4, hx5⟩ (by refine sl_c (congrArg (fun e => some (Value.int .i64 e)) (show _ = _ from by simp only []; omega)) ?_; repeat (first | exact sl_n | refine sl_c rfl ?_)) (fun w h => h.ent aEt)
  · try simp only [decide_eq_false_iff_not] at h6
    obtain rfl : k = 0 := by omega
    have hLG : pln Lk = grwRW mo (pathN (j : Int) (pln L9) x.key).1 ((pathN (j : Int) (pln L9) x.key).1.length - 1) (insRB (j : Int) (pln L9) x) := hx1
    obtain ⟨LG, rfl⟩ : ∃ LG, LG = Lk := ⟨_, rfl⟩
    have hrt : RootROk mo rm (pln LG) := by rw [hLG]; exact hok.root
    have hiG : 0 < LG.length := by rw [← pln_len]; exact hrt.lt
    have hlG := hrt.len
    rw [pln_len] at hlG
    refine s_exit_to rfl ?_
    refine s_seq ?_
    refine s_seq ?_
    refine s_draw [] mixed ?_
    refine d_p 0 rfl (p_fieldAddr rfl rfl fd_24_3 sz_22 rfl) (by kernel_rfl) rfl rfl ?_
    refine d_q 1 [] rfl (q_load rfl rfl sz_22 aPk rfl) (by kernel_rfl) (by kernel_rfl) (by kernel_rfl) rfl ?_
    refine d_p 2 rfl (p_indexAddr rfl rfl rfl sl_22 (0) (by omega) (by omega) rfl) (by kernel_rfl) rfl rfl ?_
    refine d_slot (show _ = Value.pointer (some ⟨ga, 0 * 3, none⟩) from by rw [Nat.zero_add]) ?_
    refine d_p 3 rfl (p_fieldAddr rfl rfl fd_102_1 sz_77 rfl) (by kernel_rfl) rfl rfl ?_
    refine d_q 4 [] rfl (q_load_at rfl rfl sz_77 (fun w h => HS.nd_cell hiG h aPk 1 rfl (by decide))) (by kernel_rfl) (by kernel_rfl) (by kernel_rfl) rfl ?_
    refine d_p 5 rfl (p_len_slice rfl rfl Tryz.underlying77) (by kernel_rfl) rfl rfl ?_
    refine d_p 6 rfl (p_fieldAddr rfl rfl fd_24_2 sz_3 rfl) (by kernel_rfl) rfl rfl ?_
    refine d_q 7 [] rfl (q_load rfl rfl sz_3 aPk rfl) (by kernel_rfl) (by kernel_rfl) (by kernel_rfl) rfl ?_
    refine dP 8 ?_
    refine d_nil (by kernel_rfl) (fun w h => by first | exact h | exact h.ent aEt) ?_
    refine s_weaken (L' := [(4, _), (5, _), (6, _), (11, _), (88, _)]) aSx (fun _ h => h) ?_
    refine s_cutI (α := (Nat × Nat) × List LNd) [12, 89, 90, 91, 92, 93, 94, 95, 96, 97, 98, 99, 100, 101, 102, 103, 104, 105, 106, 107, 108, 109, 110, 111, 112, 113, 114, 115, 116, 117, 118, 119, 120, 121, 122, 123, 124, 125, 126, 127, 128, 129, 130, 131] (fun _ => []) (fun y => HS w [] [.blk b4 24 4 [.int .i64 (j : Int), .int .i64 mo, .int .i64 rm, .slice (some ⟨y.1.1, 0, none⟩) (y.2).length y.1.2], .blk y.1.1 102 (y.1.2 * 3) ((y.2).flatMap LNd.vals), .star ((y.2).map (subN 26)), .blk b3 24 4 [.int .i64 0, .int .i64 0, .int .i64 0, .slice none 0 0]]) (fun y => pln y.2 = grwRR mo rm (pln LG) ∧ y.2.length ≤ y.1.2 ∧ y.1.2 ≤ maxLen) ?_ ?_
    · skip
      refine s_cond rfl (fun h8 => ?_) (fun h8 => ?_)
      · try simp only [decide_eq_true_eq] at h8
        have hbR : rm < ((nth (pln LG) 0).es.length : Int) := by rw [pln_nth hiG]; exact h8
        refine s_seq ?_
        refine s_region ?_
        refine o_h (h_callF (Cs := [.blk b4 24 4 [.int .i64 (j : Int), .int .i64 mo, .int .i64 rm, .slice (some ⟨ga, 0, none⟩) (LG).length gc], .blk ga 102 (gc * 3) ((LG).flatMap LNd.vals), .star ((LG).map (subN 26))]) rfl fn_64 rfl aPs (fun w1 h1 hf => c64 w1 b4 j mo rm ga gc LG hf hx4 hx5 hiG (by omega))) rfl (fun ⟨⟨g6, c6⟩, L6⟩ hF6 => ?_)
        dsimp only
        obtain ⟨hL6, hn6, hm6⟩ := hF6
        simp only [] at hL6 hn6 hm6
        have hi6 : 0 < L6.length := by have := frsN_len (pln LG); rw [← pln_len, hL6]; rw [pln_len] at this; omega
        have ho6 : (frsN (pln LG)).1 < L6.length := by rw [← pln_len, hL6]; exact frsN_lt _
        have hon : (frsN (pln LG)).1 ≠ 0 := by have := frsN_ge (ns := pln LG) (by rw [pln_len]; exact hiG); omega
        refine oP ?_
        refine o_nil ?_
        refine s_seq ?_
        refine s_draw [18, 21] mixed ?_
        refine d_p 0 rfl (p_fieldAddr rfl rfl fd_24_3 sz_22 rfl) (by kernel_rfl) rfl rfl ?_
        refine d_q 1 [[], []] rfl (q_load rfl rfl sz_22 aPk rfl) (by kernel_rfl) (by kernel_rfl) (by kernel_rfl) rfl ?_
        refine dP 2 ?_
        refine d_p 3 rfl (p_fieldAddr rfl rfl fd_24_3 sz_22 rfl) (by kernel_rfl) rfl rfl ?_
        refine d_q 4 [[], []] rfl (q_load rfl rfl sz_22 aPk rfl) (by kernel_rfl) (by kernel_rfl) (by kernel_rfl) rfl ?_
        refine dP 5 ?_
        refine d_p 6 rfl (p_fieldAddr rfl rfl fd_24_3 sz_22 rfl) (by kernel_rfl) rfl rfl ?_
        refine d_q 7 [[], []] rfl (q_load rfl rfl sz_22 aPk rfl) (by kernel_rfl) (by kernel_rfl) (by kernel_rfl) rfl ?_
        refine d_p 8 rfl (p_indexAddr rfl rfl rfl sl_22 (0) (by omega) (by omega) rfl) (by kernel_rfl) rfl rfl ?_
        refine d_slot (show _ = Value.pointer (some ⟨g6, 0 * 3, none⟩) from by rw [Nat.zero_add]) ?_
        refine d_p 9 rfl (p_fieldAddr rfl rfl fd_102_1 sz_77 rfl) (by kernel_rfl) rfl rfl ?_
        refine d_q 10 [[], []] rfl (q_load_at rfl rfl sz_77 (fun w h => HS.nd_cell hi6 h aPk 1 rfl (by decide))) (by kernel_rfl) (by kernel_rfl) (by kernel_rfl) rfl ?_
        refine d_p 11 rfl (p_fieldAddr rfl rfl fd_24_3 sz_22 rfl) (by kernel_rfl) rfl rfl ?_
        refine d_q 12 [[], []] rfl (q_load rfl rfl sz_22 aPk rfl) (by kernel_rfl) (by kernel_rfl) (by kernel_rfl) rfl ?_
        refine d_p 13 rfl (p_indexAddr rfl rfl rfl sl_22 (0) (by omega) (by omega) rfl) (by kernel_rfl) rfl rfl ?_
        refine d_slot (show _ = Value.pointer (some ⟨g6, 0 * 3, none⟩) from by rw [Nat.zero_add]) ?_
        refine d_p 14 rfl (p_fieldAddr rfl rfl fd_102_2 sz_30 rfl) (by kernel_rfl) rfl rfl ?_
        refine d_q 15 [[], []] rfl (q_load_at rfl rfl sz_30 (fun w h => HS.nd_cell hi6 h aPk 2 rfl (by decide))) (by kernel_rfl) (by kernel_rfl) (by kernel_rfl) rfl ?_
        refine d_p 16 rfl (p_indexAddr rfl rfl rfl sl_22 ((frsN (pln LG)).1) (by omega) (by omega) rfl) (by kernel_rfl) rfl rfl ?_
        refine d_slot (show _ = Value.pointer (some ⟨g6, (frsN (pln LG)).1 * 3, none⟩) from by rw [Nat.zero_add]) ?_
        refine d_p 17 rfl (p_fieldAddr rfl rfl fd_102_1 sz_77 rfl) (by kernel_rfl) rfl rfl ?_
        refine d_h0 18 rfl (h_store rfl rfl rfl sz_77 rfl aPt (by rw [flat_length nv3]; show _ + 1 ≤ _; omega) rfl) (by kernel_rfl) (fun w h => h.ent aEt) (fun _ _ => ?_)
        refine d_turn [21] (by kernel_rfl) ?_
        refine d_p 19 rfl (p_indexAddr rfl rfl rfl sl_22 ((frsN (pln LG)).1) (by omega) (by omega) rfl) (by kernel_rfl) rfl rfl ?_
        refine d_slot (show _ = Value.pointer (some ⟨g6, (frsN (pln LG)).1 * 3, none⟩) from by rw [Nat.zero_add]) ?_
        refine d_p 20 rfl (p_fieldAddr rfl rfl fd_102_2 sz_30 rfl) (by kernel_rfl) rfl rfl ?_
        refine d_h0 21 rfl (h_store rfl rfl rfl sz_30 rfl aPt (by rw [setMany_length, flat_length nv3]; show _ + 1 ≤ _; omega) rfl) (by kernel_rfl) (fun w h => h.ent aEt) (fun _ _ => ?_)
        refine d_turn [] (by kernel_rfl) ?_
        refine d_nil (by kernel_rfl) (fun w h => by first | exact h | exact h.ent aEt) ?_
        refine s_seq ?_
        refine s_region ?_
        refine o_p (p_fieldAddr rfl rfl fd_24_3 sz_22 rfl) rfl ?_
        refine o_ex (fun w h => HS.node_move (i := 0) (gn := g6) (cap := c6) hi6 ho6 (fun e => hon e.symm) h aPk aPk) fun L7 => ?_
        refine o_fact (fun w h => h.1) fun hS7 => ?_
        refine o_class (fun w h => h.2) ?_
        have hi7 : 0 < L7.length := by rw [hS7.len]; exact hi6
        have hN7 : nth L7 0 = nth L6 0 := hS7.other hi6 hon
        rw [← hN7]
        refine o_q (q_load rfl rfl sz_22 aPk rfl) rfl ?_
        refine o_p (p_fieldAddr rfl rfl fd_24_3 sz_22 rfl) rfl ?_
        refine o_q (q_load rfl rfl sz_22 aPk rfl) rfl ?_
        refine oP ?_
        refine o_h (h_buildSlice (cs := [_]) rfl rfl sl_30 zr_3 rfl rfl rfl) rfl (fun b9 _ => ?_)
        refine o_p (p_indexAddr rfl rfl rfl sl_22 (0) (by omega) (by omega) rfl) rfl ?_
        refine o_slot (show _ = Value.pointer (some ⟨g6, 0 * 3, none⟩) from by rw [Nat.zero_add]) ?_
        refine o_p (p_fieldAddr rfl rfl fd_102_1 sz_77 rfl) rfl ?_
        refine o_h0 (h_store rfl rfl rfl sz_77 rfl aPt (by rw [flat_length nv3]; show _ + 1 ≤ _; omega) rfl) (fun _ _ => ?_)
        refine o_p (p_indexAddr rfl rfl rfl sl_22 (0) (by omega) (by omega) rfl) rfl ?_
        refine o_slot (show _ = Value.pointer (some ⟨g6, 0 * 3, none⟩) from by rw [Nat.zero_add]) ?_
        refine o_p (p_fieldAddr rfl rfl fd_102_2 sz_30 rfl) rfl ?_
        refine o_h0 (h_store rfl rfl rfl sz_30 rfl aPt (by rw [setMany_length, flat_length nv3]; show _ + 1 ≤ _; omega) rfl) (fun _ _ => ?_)
        refine o_nil ?_
        refine s_seq ?_
        refine s_weaken (L' := [(4, _), (5, _), (6, _), (11, _), (12, _), (88, _)]) aSx (fun _ h => h) ?_
        refine s_ex (fun w h => HS.node_low (i := 0) (gn := g6) (cap := c6) (ca := some ⟨b9, 0, none⟩) (cc := 1) (cs := [((frsN (pln LG)).1 : Int)]) hi7 (HS.own_shut (t := 3) (sz := 1) (n := 1) (cap := 1) (h.pick (A := .blk b9 3 (1 * 1) (inV ((frsN (pln LG)).1 : Int))) aPk) rfl (by decide) (by decide)) (.there aPk) .here aPk) fun L8 => ?_
        refine s_fact (fun w h => h.1) fun hS8 => ?_
        refine s_class (fun w h => h.2) ?_
        have ho8 : (frsN (pln LG)).1 < L8.length := by rw [hS8.len, hS7.len]; exact ho6
        have hl8 : L8.length = L6.length := by rw [hS8.len, hS7.len]
        have hL8 : pln L8 = (lowR (pln LG)).2 := lowR_eq hL6 hi6 ho6 hS7 hS8 hi7
        refine s_class (C' := HS w [] [.blk b4 24 4 [.int .i64 (j : Int), .int .i64 mo, .int .i64 rm, .slice (some ⟨g6, 0, none⟩) (L8).length c6], .blk g6 102 (c6 * 3) ((L8).flatMap LNd.vals), .star ((L8).map (subN 26)), .own (.slice pa ((pathN (j : Int) (pln L9) x.key).1).length pc) 3 1 ((pathN (j : Int) (pln L9) x.key).1).length (((pathN (j : Int) (pln L9) x.key).1).map fun i : Nat => Value.int .i64 (i : Int)), .blk b2 26 2 (TEnt.vals x), .blk b3 24 4 [.int .i64 0, .int .i64 0, .int .i64 0, .slice none 0 0]]) (fun w2 h => by rw [hl8]; exact h.ent aEt) ?_
        refine s_draw [] mixed ?_
        refine d_p 0 rfl (p_fieldAddr rfl rfl fd_24_3 sz_22 rfl) (by kernel_rfl) rfl rfl ?_
        refine d_q 1 [] rfl (q_load rfl rfl sz_22 aPk rfl) (by kernel_rfl) (by kernel_rfl) (by kernel_rfl) rfl ?_
        refine dP 2 ?_
        refine d_p 3 rfl (p_indexAddr rfl rfl rfl sl_22 ((frsN (pln LG)).1) (by omega) (by omega) rfl) (by kernel_rfl) rfl rfl ?_
        refine d_slot (show _ = Value.pointer (some ⟨g6, (frsN (pln LG)).1 * 3, none⟩) from by rw [Nat.zero_add]) ?_
        refine d_p 4 rfl (p_fieldAddr rfl rfl fd_102_1 sz_77 rfl) (by kernel_rfl) rfl rfl ?_
        refine d_q 5 [] rfl (q_load_at rfl rfl sz_77 (fun w h => HS.nd_cell ho8 h aPk 1 rfl (by decide))) (by kernel_rfl) (by kernel_rfl) (by kernel_rfl) rfl ?_
        refine d_p 6 rfl (p_len_slice rfl rfl Tryz.underlying77) (by kernel_rfl) rfl rfl ?_
        refine d_p 7 rfl (p_fieldAddr rfl rfl fd_24_1 sz_3 rfl) (by kernel_rfl) rfl rfl ?_
        refine d_q 8 [] rfl (q_load rfl rfl sz_3 aPk rfl) (by kernel_rfl) (by kernel_rfl) (by kernel_rfl) rfl ?_
        refine dP 9 ?_
        refine d_nil (by kernel_rfl) (fun w h => by first | exact h | exact h.ent aEt) ?_
        refine s_cond rfl (fun h10 => ?_) (fun h10 => ?_)
        · try simp only [decide_eq_true_eq] at h10
          have hb8 : mo < ((nth (lowR (pln LG)).2 (lowR (pln LG)).1).es.length : Int) := by rw [← hL8, show (lowR (pln LG)).1 = (frsN (pln LG)).1 from rfl, pln_nth ho8]; exact h10
          have hspR := hrt.spl hbR hb8
          refine s_region ?_
          refine oP ?_
          refine o_h (h_callF (Cs := [.blk b4 24 4 [.int .i64 (j : Int), .int .i64 mo, .int .i64 rm, .slice (some ⟨g6, 0, none⟩) (L8).length c6], .blk g6 102 (c6 * 3) ((L8).flatMap LNd.vals), .star ((L8).map (subN 26))]) rfl fn_63 rfl aPs (fun w1 h1 hf => c63 w1 b4 j mo rm g6 c6 L8 0 (frsN (pln LG)).1 hf (by omega) hm6 (by rw [hL8]; exact hspR))) rfl (fun ⟨⟨g7, c7⟩, L9b⟩ hF7 => ?_)
          refine o_nil ?_
          exact s_joinI ((g7, c7), L9b) ⟨by rw [grwRR, if_pos hbR, if_pos hb8, ← hL8]; exact hF7.1, hF7.2.1, hF7.2.2⟩ aSx (fun w h => h.ent aEt)
        · try simp only [decide_eq_false_iff_not] at h10
          have hb8 : ¬ mo < ((nth (lowR (pln LG)).2 (lowR (pln LG)).1).es.length : Int) := by rw [← hL8, show (lowR (pln LG)).1 = (frsN (pln LG)).1 from rfl, pln_nth ho8]; have hq := h10; simp only [LNd.pl]; omega
          refine s_skip ?_
          exact s_joinI ((g6, c6), L8) ⟨by rw [grwRR, if_pos hbR, if_neg hb8]; exact hL8, by simp only []; omega, hm6⟩ aSx (fun w h => h.ent aEt)
      · try simp only [decide_eq_false_iff_not] at h8
        have hbR : ¬ rm < ((nth (pln LG) 0).es.length : Int) := by rw [pln_nth hiG]; have hq := h8; simp only [LNd.pl]; omega
        refine s_skip ?_
        exact s_joinI ((ga, gc), LG) ⟨by rw [grwRR, if_neg hbR], hx4, hx5⟩ aSx (fun w h => h.ent aEt)
    · intro ⟨⟨gz, cz⟩, LZ⟩ hz
      dsimp only
      obtain ⟨hz1, hz2, hz3⟩ := hz
      simp only [] at hz1 hz2 hz3
      refine s_seq ?_
      refine s_region ?_
      refine o_q (q_loadn rfl rfl sz_24 aPk rfl) rfl ?_
      refine o_h0 (h_store rfl rfl rfl sz_24 rfl aPt (by show 4 ≤ 4; omega) rfl) (fun _ _ => ?_)
      refine o_nil ?_
      exact s_retv (rs := [.cell 4 24]) rfl (.cell rfl sz_24 aPk rfl (.nil)) (fun w' h' => ⟨((some ⟨gz, 0, none⟩, cz), LZ), rfl, by rw [hz1, hLG, ← hL9]; rfl, nodes_join (h'.ent (Bs := [.blk gz 102 (cz * 3) (LZ.flatMap LNd.vals), .star (LZ.map (subN 26))]) aEt) hz2 hz3⟩)

end Go.Proofs

/- Chapter 12: the conditions of the acts on given nodes, reckoned; the trees of letters. Plain data. -/
namespace Gx
set_option linter.unusedSimpArgs false
set_option linter.unusedVariables false
set_option linter.unusedSectionVars false
open Go Go.RowKit
/-- One node's rows as all. -/
theorem HS.sub_one {w0 w : World} {M : List Nat} {As : List HA} {a : Option Addr} {c : Nat} {et : Nat} (h : HS w0 M (.own (.slice none 0 0) et 2 0 [] :: .own (.slice none 0 0) 3 1 0 [] :: .own (.slice a 1 c) 102 3 1 [.bool true, .slice none 0 0, .slice none 0 0] :: As) w) : HS w0 M (.own (.slice a 1 c) 102 3 1 [.bool true, .slice none 0 0, .slice none 0 0] :: .star ([(LNd.fre : LNd)].map (subN et)) :: As) w := by
  have h1 := HS.star_close (Bs := [_, _]) h
  have h2 : HS w0 M (.star [.star [.own (.slice none 0 0) et 2 0 [], .own (.slice none 0 0) 3 1 0 []]] :: .own (.slice a 1 c) 102 3 1 [.bool true, .slice none 0 0, .slice none 0 0] :: As) w := HS.star_close (Bs := [_]) h1
  exact h2.perm (List.Perm.swap ..)
def smB (m : Nat) (ns : List Nd) : Bool := ns.all fun n => decide (n.es.length ≤ m) && decide (n.cs.length ≤ m)
theorem smB_ok {m : Nat} {ns : List Nd} (h : smB m ns = true) : Sm m ns := fun k => by
  rcases Nat.lt_or_ge k ns.length with hk | hk
  · have h1 := List.all_eq_true.1 h _ (mem_nth hk)
    simp only [Bool.and_eq_true, decide_eq_true_eq] at h1
    exact h1
  · rw [nth_out hk]
    exact ⟨Nat.zero_le _, Nat.zero_le _⟩
def bdB (ns : List Nd) : Bool := decide (ns.length ≤ 1000) && smB 1000 ns
theorem bdB_ok {ns : List Nd} (h : bdB ns = true) : Bd ns := by
  unfold bdB at h
  simp only [Bool.and_eq_true, decide_eq_true_eq] at h
  exact ⟨h.1, fun i _ => (smB_ok h.2 i).1, fun i _ => (smB_ok h.2 i).2⟩
/-! ## The reference's insertion -/
def spRB (mo : Int) (ns : List Nd) (p i : Nat) : Bool := decide ((0 ≤ mo ∧ mo ≤ 1000) ∧ ns.length ≤ 900 ∧ smB 900 ns = true ∧ i < ns.length ∧ (nth ns i).us = true ∧ splM mo < (nth ns i).es.length ∧ ((nth ns i).cs.length = 0 ∨ splM mo + 1 ≤ (nth ns i).cs.length) ∧ p < ns.length ∧ ixR (nth (splRA mo ns i) p).cs (i : Int) ≤ (nth (splRA mo ns i) p).es.length ∧ ixR (nth (splRA mo ns i) p).cs (i : Int) + 1 ≤ (nth (splRA mo ns i) p).cs.length)
theorem spRB_ok {mo : Int} {ns : List Nd} {p i : Nat} (h : spRB mo ns p i = true) : SpROk mo ns p i := by
  obtain ⟨h1, h2, h3, h4, h5, h6, h7, h8, h9, h10⟩ := of_decide_eq_true h
  exact ⟨h1, h2, smB_ok h3, h4, h5, h6, h7, h8, h9, h10⟩
def grwRB (mo : Int) (P : List Nat) : Nat → List Nd → Bool
  | 0, _ => true
  | k + 1, ns => (decide (nth P (k + 1) < ns.length) && (!decide (mo < ((nth ns (nth P (k + 1))).es.length : Int)) || spRB mo ns (nth P k) (nth P (k + 1)))) && grwRB mo P k (if mo < ((nth ns (nth P (k + 1))).es.length : Int) then splR mo ns (nth P k) (nth P (k + 1)) else ns)
theorem imp_of {p : Prop} [Decidable p] {b : Bool} (h : (!decide p || b) = true) (hp : p) : b = true := by
  rw [decide_eq_true hp] at h
  exact h
theorem grwRB_ok {mo : Int} {P : List Nat} : ∀ {k : Nat} {ns : List Nd}, grwRB mo P k ns = true → GrwROk mo P k ns
  | 0, _, _ => trivial
  | k + 1, ns, h => by
    unfold grwRB at h
    rw [Bool.and_eq_true, Bool.and_eq_true, decide_eq_true_eq] at h
    exact ⟨⟨h.1.1, fun hp => spRB_ok (imp_of h.1.2 hp)⟩, grwRB_ok h.2⟩
def rootRB (mo rm : Int) (ns : List Nd) : Bool := decide (0 < ns.length ∧ ns.length ≤ 900 ∧ (nth ns 0).us = true ∧ (rm < ((nth ns 0).es.length : Int) → mo < ((nth (lowR ns).2 (lowR ns).1).es.length : Int) → spRB mo (lowR ns).2 0 (lowR ns).1 = true))
theorem rootRB_ok {mo rm : Int} {ns : List Nd} (h : rootRB mo rm ns = true) : RootROk mo rm ns := by
  obtain ⟨h1, h2, h3, h4⟩ := of_decide_eq_true h
  exact ⟨h1, h2, h3, fun a b => spRB_ok (h4 a b)⟩
def insRBk (co mo rm : Int) (ns : List Nd) (x : TEnt) : Bool := decide (0 < (pathN co ns x.key).1.length ∧ (pathN co ns x.key).1.length ≤ 900 ∧ lastN (pathN co ns x.key).1 < ns.length ∧ grwRB mo (pathN co ns x.key).1 ((pathN co ns x.key).1.length - 1) (insRB co ns x) = true ∧ rootRB mo rm (grwRW mo (pathN co ns x.key).1 ((pathN co ns x.key).1.length - 1) (insRB co ns x)) = true)
theorem insRBk_ok {co mo rm : Int} {ns : List Nd} {x : TEnt} (h : insRBk co mo rm ns x = true) : InsROk co mo rm ns x := by
  obtain ⟨h1, h2, h3, h4, h5⟩ := of_decide_eq_true h
  exact ⟨h1, h2, h3, grwRB_ok h4, rootRB_ok h5⟩
/-! ## The program's insertion -/
def spB (mo : Int) (ns : List Nd) (i : Nat) : Bool := decide ((0 ≤ mo ∧ mo ≤ 1000) ∧ ns.length ≤ 900 ∧ smB 900 ns = true ∧ i < ns.length ∧ (nth ns i).us = true ∧ splM mo < (nth ns i).es.length ∧ ((nth ns i).cs.length = 0 ∨ splM mo + 1 ≤ (nth ns i).cs.length) ∧ (parN (i : Int) (splA mo ns i) 0).1 < (splA mo ns i).length ∧ (parN (i : Int) (splA mo ns i) 0).2 ≤ (nth (splA mo ns i) (parN (i : Int) (splA mo ns i) 0).1).es.length ∧ (parN (i : Int) (splA mo ns i) 0).2 + 1 ≤ (nth (splA mo ns i) (parN (i : Int) (splA mo ns i) 0).1).cs.length)
theorem spB_ok {mo : Int} {ns : List Nd} {i : Nat} (h : spB mo ns i = true) : SpOk mo ns i := by
  obtain ⟨h1, h2, h3, h4, h5, h6, h7, h8, h9, h10⟩ := of_decide_eq_true h
  exact ⟨h1, h2, smB_ok h3, h4, h5, h6, h7, h8, h9, h10⟩
def grwB (mo : Int) : List Nd → List Nat → Bool
  | _, [] => true
  | ns, i :: P => (decide (i < ns.length) && (!decide (0 < i ∧ mo < ((nth ns i).es.length : Int)) || spB mo ns i)) && grwB mo (grw1 mo ns i) P
theorem grwB_ok {mo : Int} : ∀ {P : List Nat} {ns : List Nd}, grwB mo ns P = true → GrwOk mo ns P
  | [], _, _ => trivial
  | i :: P, ns, h => by
    unfold grwB at h
    rw [Bool.and_eq_true, Bool.and_eq_true, decide_eq_true_eq] at h
    exact ⟨⟨h.1.1, fun a b => spB_ok (imp_of h.1.2 ⟨a, b⟩)⟩, grwB_ok h.2⟩
def rootB (mo rm : Int) (ns : List Nd) : Bool := decide (0 < ns.length ∧ ns.length ≤ 900 ∧ (nth ns 0).us = true ∧ (rm < ((nth ns 0).es.length : Int) → mo < ((nth (lowN ns).2 (lowN ns).1).es.length : Int) → spB mo (lowN ns).2 (lowN ns).1 = true))
theorem rootB_ok {mo rm : Int} {ns : List Nd} (h : rootB mo rm ns = true) : RootOk mo rm ns := by
  obtain ⟨h1, h2, h3, h4⟩ := of_decide_eq_true h
  exact ⟨h1, h2, h3, fun a b => spB_ok (h4 a b)⟩
def insOB (co mo rm : Int) (ns : List Nd) (x : TEnt) : Bool := decide (0 < (pathN co ns x.key).1.length ∧ (pathN co ns x.key).1.length ≤ 900 ∧ leafN co ns x.key < ns.length ∧ (nth ns (leafN co ns x.key)).es.length ≤ 900 ∧ (pathN co ns x.key).2.1 ≤ (nth ns (leafN co ns x.key)).es.length ∧ grwB mo (insB co ns x) (pathN co ns x.key).1.reverse = true ∧ rootB mo rm (grwW mo (insB co ns x) (pathN co ns x.key).1.reverse) = true)
theorem insOB_ok {co mo rm : Int} {ns : List Nd} {x : TEnt} (h : insOB co mo rm ns x = true) : InsOk co mo rm ns x := by
  obtain ⟨h1, h2, h3, h4, h5, h6, h7⟩ := of_decide_eq_true h
  exact ⟨h1, h2, h3, h4, h5, grwB_ok h6, rootB_ok h7⟩
/-! ## The program's removal -/
def filB (mo : Int) (ns : List Nd) (p k : Nat) : Bool := decide ((0 ≤ mo ∧ mo ≤ 1000) ∧ p < ns.length ∧ k < (nth ns p).cs.length ∧ (nth ns p).cs.length = (nth ns p).es.length + 1 ∧ (∀ x, x < (nth ns p).cs.length → 0 ≤ (nth ns p).cs.getD x 0 ∧ kdN ns p x < ns.length ∧ p ≠ kdN ns p x) ∧ (∀ x, x < (nth ns p).cs.length → ∀ y, y < (nth ns p).cs.length → x ≠ y → kdN ns p x ≠ kdN ns p y) ∧ ns.length ≤ 900 ∧ smB 900 ns = true)
theorem filB_ok {mo : Int} {ns : List Nd} {p k : Nat} (h : filB mo ns p k = true) : FilOk mo ns p k := by
  obtain ⟨h1, h2, h3, h4, h5, h6, h7, h8⟩ := of_decide_eq_true h
  exact ⟨h1, h2, h3, h4, h5, fun x y hx hy => h6 x hx y hy, h7, smB_ok h8⟩
def filsB (mo : Int) : List Nd → List Nat → Bool
  | _, [] => true
  | ns, i :: P => (decide (i < ns.length) && (!decide (0 < i ∧ ((nth ns i).es.length : Int) < mo / 2) || filB mo ns (parN (i : Int) ns 0).1 (parN (i : Int) ns 0).2)) && filsB mo (fil1 mo ns i) P
theorem filsB_ok {mo : Int} : ∀ {P : List Nat} {ns : List Nd}, filsB mo ns P = true → FilsOk mo ns P
  | [], _, _ => trivial
  | i :: P, ns, h => by
    unfold filsB at h
    rw [Bool.and_eq_true, Bool.and_eq_true, decide_eq_true_eq] at h
    exact ⟨⟨h.1.1, fun a b => filB_ok (imp_of h.1.2 ⟨a, b⟩)⟩, filsB_ok h.2⟩
def rotB (ns : List Nd) : Bool := decide (0 < ns.length ∧ ns.length ≤ 900 ∧ (nth ns 0).us = true ∧ ((nth ns 0).cs.length = 1 → 0 < (nth ns 0).cs.getD 0 0 ∧ kdN ns 0 0 < ns.length ∧ (nth ns (kdN ns 0 0)).us = true))
theorem rotB_ok {rm : Int} {ns : List Nd} (h : rotB ns = true) : RotOk rm ns := by
  obtain ⟨h1, h2, h3, h4⟩ := of_decide_eq_true h
  exact ⟨h1, h2, h3, h4⟩
def rgtB (ns : List Nd) : Nat → Nat → Bool
  | 0, _ => false
  | f + 1, i => decide (i < ns.length) && (decide ((nth ns i).cs.length = 0) || (decide (0 ≤ (nth ns i).cs.getD ((nth ns i).cs.length - 1) 0) && rgtB ns f (kdN ns i ((nth ns i).cs.length - 1))))
theorem rgtB_ok {ns : List Nd} : ∀ {f i : Nat}, rgtB ns f i = true → RgtOk ns f i
  | 0, _, h => (nomatch h)
  | f + 1, i, h => by
    unfold rgtB at h
    rw [Bool.and_eq_true, Bool.or_eq_true, Bool.and_eq_true, decide_eq_true_eq, decide_eq_true_eq, decide_eq_true_eq] at h
    refine ⟨h.1, ?_⟩
    rcases h.2 with h2 | h2
    · exact .inl h2
    · exact .inr ⟨h2.1, rgtB_ok h2.2⟩
def remB (mo rm : Int) (ns : List Nd) (P : List Nat) (k : Nat) : Bool := decide ((0 ≤ mo ∧ mo ≤ 1000) ∧ 0 < P.length ∧ P.length ≤ 900 ∧ ns.length ≤ 900 ∧ smB 900 ns = true ∧ lastN P < ns.length ∧ k < (nth ns (lastN P)).es.length ∧ (0 < (nth ns (lastN P)).cs.length → k < (nth ns (lastN P)).cs.length ∧ 0 ≤ (nth ns (lastN P)).cs.getD k 0 ∧ rgtB ns ns.length (kdN ns (lastN P) k) = true ∧ lastN P ≠ lastN (remQ ns P k) ∧ 0 < (nth ns (lastN (remQ ns P k))).es.length ∧ lastN (remQ ns P k) < ns.length) ∧ (0 < (remQ ns P k).length ∧ (remQ ns P k).length ≤ 1900) ∧ lastN (remQ ns P k) < ns.length ∧ remK ns P k < (nth (rem1 ns P k) (lastN (remQ ns P k))).es.length ∧ smB 900 (rem1 ns P k) = true ∧ filsB mo (rem2 ns P k) (remQ ns P k).reverse = true ∧ rotB (filW mo (rem2 ns P k) (remQ ns P k).reverse) = true)
theorem remB_ok {mo rm : Int} {ns : List Nd} {P : List Nat} {k : Nat} (h : remB mo rm ns P k = true) : RemOk mo rm ns P k := by
  obtain ⟨h1, h2, h3, h4, h5, h6, h7, h8, h9, h10, h11, h12, h13, h14⟩ := of_decide_eq_true h
  exact ⟨h1, h2, h3, h4, smB_ok h5, h6, h7, fun a => ⟨(h8 a).1, (h8 a).2.1, rgtB_ok (h8 a).2.2.1, (h8 a).2.2.2⟩, h9, h10, h11, smB_ok h12, filsB_ok h13, rotB_ok h14⟩
/-! ## Letters -/
def ltrK (k : Nat) : TEnt := ⟨[UInt8.ofNat (97 + k)], []⟩
def ltrs : Nat → List Nd
  | 0 => [⟨true, [], []⟩]
  | k + 1 => insR 0 4 2 (ltrs k) (ltrK k)
theorem ltr_wrap : ∀ k, k < 11 → IntKind.u8.wrap (((97 + k : Nat) : Int) + 1) = ((97 + (k + 1) : Nat) : Int) := by decide
def letB (k : Nat) : Bool := decide (0 < (ltrs k).length) && (bdB (ltrs k) && (decide ((nodsE ⟨0, 4, 2, ltrs k⟩ (ltrs k).length 0 []).2 = 0) && (insRBk 0 4 2 (ltrs k) (ltrK k) && keyOk 0 (ltrK k).key)))
structure LetOk (k : Nat) : Prop where
  n0 : 0 < (ltrs k).length
  bd : Bd (ltrs k)
  tok : TOk 0 (ltrs k)
  ins : InsROk 0 4 2 (ltrs k) (ltrK k)
  key : keyOk 0 (ltrK k).key = true
theorem letB_ok {k : Nat} (h : letB k = true) : LetOk k := by
  unfold letB at h
  simp only [Bool.and_eq_true, decide_eq_true_eq] at h
  exact ⟨h.1, bdB_ok h.2.1, tok_of (t := ⟨0, 4, 2, ltrs k⟩) h.2.2.1, insRBk_ok h.2.2.2.1, h.2.2.2.2⟩
set_option maxRecDepth 100000 in
theorem letB_all : (List.range 11).all letB = true := by decide +kernel
theorem letOk {k : Nat} (h : k < 11) : LetOk k := letB_ok (List.all_eq_true.1 letB_all k (List.mem_range.2 h))
/-! ## What the examples answer -/
abbrev aK : TEnt := ⟨[107], []⟩
abbrev i0 : Int := ((0 : Nat) : Int)
theorem klen_tok {co : Int} {L : List LNd} (h : TOk co (pln L)) : ∀ i, i < L.length → ∀ x ∈ (nth L i).es, x.key.length ≤ 1000000 := fun i hi x hx => (tok_key h i (by rw [pln_len]; exact hi) x (by rw [pln_nth hi]; exact hx)).2
set_option maxRecDepth 100000 in
theorem aw_t10 : (treE ⟨i0, 4, 2, ltrs 10⟩).2 = 0 := by decide +kernel
set_option maxRecDepth 100000 in
theorem aw_t11 : (treE ⟨i0, 4, 2, ltrs 11⟩).2 = 0 := by decide +kernel
set_option maxRecDepth 100000 in
theorem aw_b11 : bdB (ltrs 11) = true := by decide +kernel
set_option maxRecDepth 100000 in
theorem aw_b10 : bdB (ltrs 10) = true := by decide +kernel
theorem aw_e : entE i0 aK = 0 := by decide +kernel
set_option maxRecDepth 100000 in
theorem aw_ins : insOB i0 4 2 (ltrs 10) aK = true := by decide +kernel
set_option maxRecDepth 100000 in
theorem aw_i0 : insE i0 4 2 (ltrs 10) aK = 0 := by decide +kernel
set_option maxRecDepth 100000 in
theorem aw_c1 : chgN (ltrs 10) (insT i0 4 2 (ltrs 10) aK) = [0, 3, 4, 5] := by decide +kernel
set_option maxRecDepth 100000 in
theorem aw_l1 : (insT i0 4 2 (ltrs 10) aK).length = 6 := by decide +kernel
set_option maxRecDepth 100000 in
theorem aw_s1 : smB 100000 (insT i0 4 2 (ltrs 10) aK) = true := by decide +kernel
theorem aw_k1 : keyE i0 [101] = 0 := by decide +kernel
theorem aw_k2 : keyE i0 [99] = 0 := by decide +kernel
set_option maxRecDepth 100000 in
theorem aw_p : (pathN i0 (ltrs 11) [101]).1 = [0, 5, 2] ∧ (pathN i0 (ltrs 11) [101]).2.2 = true := by decide +kernel
set_option maxRecDepth 100000 in
theorem aw_q : (pathN i0 (ltrs 11) [99]).2.2 = true := by decide +kernel
abbrev aR : List Nd := remN 4 2 (ltrs 11) (pathN i0 (ltrs 11) [99]).1 (pathN i0 (ltrs 11) [99]).2.1
set_option maxRecDepth 100000 in
theorem aw_r : remB 4 2 (ltrs 11) (pathN i0 (ltrs 11) [99]).1 (pathN i0 (ltrs 11) [99]).2.1 = true := by decide +kernel
set_option maxRecDepth 100000 in
theorem aw_c2 : chgN (ltrs 11) aR = [0, 1, 2, 5] := by decide +kernel
set_option maxRecDepth 100000 in
theorem aw_l2 : aR.length = 5 := by decide +kernel
set_option maxRecDepth 100000 in
theorem aw_s2 : smB 100000 aR = true := by decide +kernel
theorem chg_same {a b : List Nd} (h : a = b) : chgN a b = [] := by
  subst h
  unfold chgN chgK
  simp
end Gx

namespace Go.Proofs
open Go Go.RowKit Gx
set_option linter.unusedVariables false
set_option linter.unusedSimpArgs false
attribute [local irreducible] Go.Calls Gx.S Gx.O Gx.D Gx.OpP Gx.OpQ Gx.OpH

theorem fn_32 : isFn Tryz.prog 32 = true := by kernel_rfl
theorem zr_5 : tzero Tryz.prog 5 = some [.int .u8 0] := by kernel_rfl
theorem pl_26 : tplaces Tryz.prog 26 = some [(0, 1), (1, 1)] := by kernel_rfl
theorem fn_22 : isFn Tryz.prog 22 = true := by kernel_rfl


set_option maxRecDepth 20000 in
set_option maxHeartbeats 400000 in
theorem c56 (w : World) (N : Nat) (hN : N ≤ 11) : Calls Tryz.prog 56 #[.int .u8 ((96 + N : Nat) : Int)] w fun en w' => ∃ g : (Option Addr × Nat) × List LNd, en = .returned (.agg #[.int .i64 0, .int .i64 4, .int .i64 2, .slice g.1.1 g.2.length g.1.2]) ∧ pln g.2 = ltrs N ∧ HS w [] [.nodes 26 102 g.1.1 g.1.2 g.2] w' := by
  refine enter (args := [_]) Tryz.func56 Tryz.ntmps56 rfl rfl (HS.refl w []) ?_
  refine s_seq ?_
  refine s_region ?_
  refine o_h (h_alloc rfl zr_24) rfl (fun b1 _ => ?_)
  refine o_nil ?_
  refine s_seq ?_
  refine s_region ?_
  refine o_h (h_call rfl fn_32 rfl (fun w1 h1 => c32 w1 0 4 2)) rfl (fun b2 _ => ?_)
  refine o_h (h_alloc rfl zr_24) rfl (fun b3 _ => ?_)
  refine o_h0 (h_store rfl rfl rfl sz_24 rfl aPt (by simp only [setMany_length, List.length_set, List.length_cons, List.length_nil, List.length_map]; omega) rfl) (fun _ _ => ?_)
  refine o_nil ?_
  refine s_seq ?_
  refine s_seq ?_
  refine s_region ?_
  refine oP ?_
  refine o_nil ?_
  refine s_block ?_
  refine s_loopI (α := Nat × (Option Addr × Nat) × List LNd) [4, 6, 7, 8, 9, 10, 11, 12, 13, 14, 15, 16, 17, 18, 19, 20] (fun y => [(4, .int .u8 ((97 + y.1 : Nat) : Int))]) (fun y => HS w [] [.nodes 26 102 y.2.1.1 y.2.1.2 y.2.2, .blk b3 24 4 [.int .i64 0, .int .i64 4, .int .i64 2, .slice y.2.1.1 (y.2.2).length y.2.1.2], .blk b1 24 4 [.int .i64 0, .int .i64 0, .int .i64 0, .slice none 0 0]]) (fun y => y.1 ≤ N ∧ pln y.2.2 = ltrs y.1) (fun y => N - y.1) (0, (b2.1, b2.2), [(LNd.fre : LNd)]) ⟨Nat.zero_le _, rfl⟩ aSx (fun w h => by have h3 := HS.row_shut (a := b2.1) (cap := b2.2) (l := [(LNd.fre : LNd)]) (sub := subN 26) (t := 102) (sz := 3) (vals := LNd.vals) (n := 1) (HS.sub_one (((h.own_nil 3 1).own_nil 26 2).ent (Bs := [.own (.slice none 0 0) 26 2 0 [], .own (.slice none 0 0) 3 1 0 [], .own (.slice b2.1 1 b2.2) 102 3 1 [.bool true, .slice none 0 0, .slice none 0 0], .blk b3 24 4 [.int .i64 0, .int .i64 4, .int .i64 2, .slice b2.1 ([(LNd.fre : LNd)]).length b2.2], .blk b1 24 4 [.int .i64 0, .int .i64 0, .int .i64 0, .slice none 0 0]]) aEt)) rfl rfl; exact HS.ent (As := [.nodes 26 102 b2.1 b2.2 [(LNd.fre : LNd)], .blk b3 24 4 [.int .i64 0, .int .i64 4, .int .i64 2, .slice b2.1 ([(LNd.fre : LNd)]).length b2.2], .blk b1 24 4 [.int .i64 0, .int .i64 0, .int .i64 0, .slice none 0 0]]) aEt h3) (fun ⟨k, ⟨ga, gc⟩, Lk⟩ hx => ?_)
  dsimp only
  obtain ⟨hk1, hk2⟩ := hx
  simp only [] at hk1 hk2
  refine s_seq ?_
  refine s_seq ?_
  refine s_region ?_
  refine oP ?_
  refine oP ?_
  refine oP ?_
  refine oP ?_
  refine o_and 3 9 12 _ _ rfl
    (by
      intro hg4
      have hs5 := hg4; try simp only [decide_eq_true_eq] at hs5
      refine o_on 9 _ rfl rfl hg4 ?_
      refine oP ?_
      refine o_on 9 _ rfl rfl hg4 ?_
      refine oP ?_
      refine o_p (p_pickt rfl rfl hg4 rfl) rfl ?_
      refine o_nil ?_
      exact s_joinN 3 12 _ rfl rfl rfl (fun w h => by first | exact h | exact h.ent aEt))
    (by
      intro hg6
      have hs7 := hg6; try simp only [decide_eq_false_iff_not] at hs7
      refine o_off 9 _ rfl rfl hg6 rfl ?_
      refine o_off 9 _ rfl rfl hg6 rfl ?_
      refine o_p (p_pickf rfl rfl hg6 rfl) rfl ?_
      refine o_nil ?_
      exact s_joinN 3 12 _ rfl rfl rfl (fun w h => by first | exact h | exact h.ent aEt)) ?_
  refine o_nil ?_
  refine s_cond rfl (fun h8 => ?_) (fun h8 => ?_)
  · try simp only [Bool.and_eq_true, decide_eq_true_eq] at h8
    have hkN : k < N := by omega
    obtain ⟨hl0, hlB, hlT, hlI, hlK⟩ := letOk (show k < 11 by omega)
    rw [← hk2] at hl0 hlB hlT hlI
    rw [pln_len] at hl0
    refine s_skip ?_
    refine s_seq ?_
    refine s_block ?_
    refine s_region ?_
    refine o_q (q_loadn rfl rfl sz_24 aPk rfl) rfl ?_
    refine oP ?_
    refine o_h (h_buildSlice (cs := [_]) rfl rfl sl_150 zr_5 rfl rfl rfl) rfl (fun b9 _ => ?_)
    refine o_q (q_string_blk rfl rfl Tryz.underlying150 Tryz.underlying9 Tryz.underlying5 aPk (by simp) (by simp [isU8])) rfl ?_
    refine o_p (p_build (cs := [_, _]) rfl rfl pl_26 zr_26 rfl) rfl ?_
    refine o_h (h_call rfl fn_22 rfl (fun w1 h1 => c22 w1 0 4 2 ga gc Lk (ltrK k) (by decide) hl0 hlB hlT (HS.nt h1 aPk) hlK (by show 1 ≤ 1000000; decide) hlI)) rfl (fun ⟨gd, L5⟩ hF5 => ?_)
    dsimp only
    refine o_h0 (h_store rfl rfl rfl sz_24 rfl aPt (by simp only [setMany_length, List.length_set, List.length_cons, List.length_nil, List.length_map]; omega) rfl) (fun _ _ => ?_)
    refine o_nil ?_
    refine s_blk ?_
    refine s_region ?_
    refine oP ?_
    refine oP ?_
    try (refine o_slot (u8add _ _) ?_)
    refine o_slot (show _ = Value.int .u8 ((97 + (k + 1) : Nat) : Int) from congrArg (Value.int .u8) (ltr_wrap k (by omega))) ?_
    refine oP ?_
    refine o_nil ?_
    exact s_backI (k + 1, (gd.1, gd.2), L5) (by (try simp only []); omega) ⟨by (try simp only []); omega, by simp only []; rw [hF5, hk2]; rfl⟩ aSx (fun w h => h.ent aEt)
  · try simp only [Bool.and_eq_false_iff, decide_eq_false_iff_not] at h8
    obtain rfl : k = N := by omega
    refine s_exit_to rfl ?_
    refine s_seq ?_
    refine s_region ?_
    refine o_q (q_loadn rfl rfl sz_24 aPk rfl) rfl ?_
    refine o_h0 (h_store rfl rfl rfl sz_24 rfl aPt (by simp only [setMany_length, List.length_set, List.length_cons, List.length_nil, List.length_map]; omega) rfl) (fun _ _ => ?_)
    refine o_nil ?_
    exact s_retv (rs := [.cell 2 24]) rfl (.cell rfl sz_24 aPk rfl (.nil)) (fun w' h' => ⟨((ga, gc), Lk), rfl, hk2, h'.ent aEt⟩)

end Go.Proofs

namespace Go.Proofs
open Go Go.RowKit Gx
set_option linter.unusedVariables false
set_option linter.unusedSimpArgs false
attribute [local irreducible] Go.Calls Gx.S Gx.O Gx.D Gx.OpP Gx.OpQ Gx.OpH

theorem fn_56 : isFn Tryz.prog 56 = true := by kernel_rfl
theorem fn_16 : isFn Tryz.prog 16 = true := by kernel_rfl
theorem fn_35 : isFn Tryz.prog 35 = true := by kernel_rfl
theorem fn_25 : isFn Tryz.prog 25 = true := by kernel_rfl
theorem fn_28 : isFn Tryz.prog 28 = true := by kernel_rfl
theorem fn_23 : isFn Tryz.prog 23 = true := by kernel_rfl


set_option maxRecDepth 20000 in
set_option maxHeartbeats 400000 in
theorem c13 (w : World)  : Calls Tryz.prog 13 #[] w fun en w' => en = .returned (.bool true) ∧ Below w.heap.size w w' := by
  refine enter (args := []) Tryz.func13 Tryz.ntmps13 rfl rfl (HS.refl w []) ?_
  refine s_seq ?_
  refine s_region ?_
  refine oP ?_
  refine o_nil ?_
  refine s_seq ?_
  refine s_region ?_
  refine o_h (h_call rfl fn_56 rfl (fun w1 h1 => c56 w1 10 (by decide))) rfl (fun ⟨⟨ga1, gc1⟩, L1⟩ hL1 => ?_)
  dsimp only
  refine o_p (p_build (cs := [_, _]) rfl rfl pl_26 zr_26 rfl) rfl ?_
  refine o_h (h_call rfl fn_16 rfl (fun w1 h1 => c16o w1 0 4 2 (ga1) gc1 L1 aK (HS.nt h1 aPk) (by rw [hL1]; exact (bdB_ok (by exact aw_b10))) (klen_tok (co := i0) (by rw [hL1]; exact tok_of (t := ⟨i0, 4, 2, ltrs 10⟩) (treE_0 aw_t10).2.2.2.2.1)) (by rw [hL1]; exact aw_t10) (by decide) aw_e (fun _ => by rw [hL1]; exact insOB_ok aw_ins) (by rw [hL1]; exact aw_i0) (by rw [hL1]; exact smB_ok aw_s1))) rfl (fun ⟨⟨⟨gi, ci⟩, LI⟩, ⟨qa1, qc1⟩⟩ hFI => ?_)
  dsimp only
  have hLI : LI.length = 6 := by rw [← pln_len, hFI, hL1]; exact aw_l1
  rw [hL1, aw_c1, hLI]
  refine oP ?_
  refine oP ?_
  refine oP ?_
  refine oP ?_
  refine o_h (h_alloc rfl zr_24) rfl (fun b1 _ => ?_)
  refine o_h0 (h_store rfl rfl rfl sz_24 rfl aPt (by show 4 ≤ 4; omega) rfl) (fun _ _ => ?_)
  refine oP ?_
  refine oP ?_
  refine o_nil ?_
  refine s_seq ?_
  refine s_region ?_
  refine o_h (h_call rfl fn_56 rfl (fun w1 h1 => c56 w1 11 (by decide))) rfl (fun ⟨⟨ga2, gc2⟩, L2⟩ hL2 => ?_)
  dsimp only
  refine o_h (h_call rfl fn_35 rfl (fun w1 h1 => c35o w1 0 4 2 ga2 gc2 L2 [101] (HS.nt h1 aPk) (by rw [hL2]; exact (bdB_ok (by exact aw_b11))) (klen_tok (co := i0) (by rw [hL2]; exact tok_of (t := ⟨i0, 4, 2, ltrs 11⟩) (treE_0 aw_t11).2.2.2.2.1)) (by rw [hL2]; exact aw_t11) (by decide) aw_k1)) rfl (fun ⟨qa2, qc2⟩ _ => ?_)
  dsimp only
  rw [hL2, aw_p.1, aw_p.2]
  refine oP ?_
  refine oP ?_
  refine oP ?_
  refine oP ?_
  refine oP ?_
  refine oP ?_
  refine oP ?_
  refine o_nil ?_
  refine s_seq ?_
  refine s_region ?_
  refine o_h (h_call rfl fn_56 rfl (fun w1 h1 => c56 w1 11 (by decide))) rfl (fun ⟨⟨ga3, gc3⟩, L3⟩ hL3 => ?_)
  dsimp only
  refine o_h (h_call rfl fn_25 rfl (fun w1 h1 => c25o w1 0 4 2 ga3 gc3 L3 [99] (HS.nt h1 aPk) (by rw [hL3]; exact (bdB_ok (by exact aw_b11))) (klen_tok (co := i0) (by rw [hL3]; exact tok_of (t := ⟨i0, 4, 2, ltrs 11⟩) (treE_0 aw_t11).2.2.2.2.1)) (by rw [hL3]; exact aw_t11) (by decide) aw_k2 (by rw [hL3]; exact aw_q) (by rw [hL3]; exact remB_ok aw_r) (by rw [hL3]; exact smB_ok aw_s2) (by rw [hL3]; exact (by rw [aw_l2]; decide)))) rfl (fun ⟨⟨⟨gr, cr⟩, LR⟩, ⟨qa3, qc3⟩⟩ hFR => ?_)
  dsimp only
  have hLR : LR.length = 5 := by rw [← pln_len, hFR, hL3]; exact aw_l2
  rw [hL3, aw_c2, hLR]
  refine oP ?_
  refine oP ?_
  refine oP ?_
  refine oP ?_
  refine o_h (h_alloc rfl zr_24) rfl (fun b2 _ => ?_)
  refine o_h0 (h_store rfl rfl rfl sz_24 rfl aPt (by show 4 ≤ 4; omega) rfl) (fun _ _ => ?_)
  refine oP ?_
  refine oP ?_
  refine o_nil ?_
  refine s_seq ?_
  refine s_region ?_
  refine o_q (q_call rfl fn_28 rfl (fun w1 h1 => c28 w1 1 [97] [66] (by decide) (by decide))) rfl ?_
  refine oP ?_
  refine oP ?_
  refine oP ?_
  refine oP ?_
  refine oP ?_
  refine o_nil ?_
  refine s_seq ?_
  refine s_weaken (L' := [(0, _), (1, _), (2, _), (3, _), (4, _), (5, _), (6, _), (7, _), (8, _), (9, _), (10, _), (11, _)]) aSx (fun _ h => h) ?_
  refine s_region ?_
  refine oP ?_
  refine oP ?_
  refine oP ?_
  refine o_and 4 37 41 _ _ rfl
    (by
      intro hg3
      have hs4 := hg3; try simp only [decide_eq_true_eq] at hs4
      refine o_on 37 _ rfl rfl hg3 ?_
      refine oP ?_
      refine o_on 37 _ rfl rfl hg3 ?_
      refine o_h (h_buildSlice (cs := [_, _, _, _]) rfl rfl sl_30 zr_3 rfl rfl rfl) rfl (fun b5 _ => ?_)
      refine o_on 37 _ rfl rfl hg3 ?_
      refine o_q (q_call rfl fn_23 rfl (fun w1 h1 => c23 w1 qa1 (some ⟨b5, 0, none⟩) qc1 4 [0, 3, 4, 5] [0, 3, 4, 5] (HS.pown_row (P := [0, 3, 4, 5]) h1 aPk) (h1.rw_blk (l := [0, 3, 4, 5]) iv1 aPk) (by decide) (by decide))) rfl ?_
      refine o_p (p_pickt rfl rfl hg3 rfl) rfl ?_
      refine o_nil ?_
      exact s_joinN 4 41 _ rfl rfl rfl (fun w h => by first | exact h | exact h.ent aEt))
    (by
      intro hg6
      have hs7 := hg6; try simp only [decide_eq_false_iff_not] at hs7
      refine o_off 37 _ rfl rfl hg6 rfl ?_
      refine o_off 37 _ rfl rfl hg6 rfl ?_
      refine o_off 37 _ rfl rfl hg6 rfl ?_
      refine o_p (p_pickf rfl rfl hg6 rfl) rfl ?_
      refine o_nil ?_
      exact s_joinN 4 41 _ rfl rfl rfl (fun w h => by first | exact h | exact h.ent aEt)) ?_
  refine oP ?_
  refine o_and 5 42 47 _ _ rfl
    (by
      intro hg8
      have hs9 := hg8; try simp only [Bool.and_eq_true, decide_eq_true_eq] at hs9
      refine o_on 42 _ rfl rfl hg8 ?_
      refine o_p (p_fieldAddr rfl rfl fd_24_3 sz_22 rfl) rfl ?_
      refine o_on 42 _ rfl rfl hg8 ?_
      refine o_q (q_load rfl rfl sz_22 aPk rfl) rfl ?_
      refine o_on 42 _ rfl rfl hg8 ?_
      refine o_p (p_len_slice rfl rfl Tryz.underlying22) rfl ?_
      refine o_on 42 _ rfl rfl hg8 ?_
      refine oP ?_
      refine o_p (p_pickt rfl rfl hg8 rfl) rfl ?_
      refine o_nil ?_
      exact s_joinN 5 47 _ rfl rfl rfl (fun w h => by first | exact h | exact h.ent aEt))
    (by
      intro hg10
      have hs11 := hg10; try simp only [Bool.and_eq_false_iff, decide_eq_false_iff_not] at hs11
      refine o_off 42 _ rfl rfl hg10 rfl ?_
      refine o_off 42 _ rfl rfl hg10 rfl ?_
      refine o_off 42 _ rfl rfl hg10 rfl ?_
      refine o_off 42 _ rfl rfl hg10 rfl ?_
      refine o_p (p_pickf rfl rfl hg10 rfl) rfl ?_
      refine o_nil ?_
      exact s_joinN 5 47 _ rfl rfl rfl (fun w h => by first | exact h | exact h.ent aEt)) ?_
  refine oP ?_
  refine o_and 3 48 51 _ _ rfl
    (by
      intro hg12
      have hs13 := hg12; try simp only [Bool.and_eq_true, decide_eq_true_eq] at hs13
      refine o_on 48 _ rfl rfl hg12 ?_
      refine oP ?_
      refine o_on 48 _ rfl rfl hg12 ?_
      refine oP ?_
      refine o_p (p_pickt rfl rfl hg12 rfl) rfl ?_
      refine o_nil ?_
      exact s_joinN 3 51 _ rfl rfl rfl (fun w h => by first | exact h | exact h.ent aEt))
    (by
      intro hg14
      have hs15 := hg14; try simp only [Bool.and_eq_false_iff, decide_eq_false_iff_not] at hs15
      refine o_off 48 _ rfl rfl hg14 rfl ?_
      refine o_off 48 _ rfl rfl hg14 rfl ?_
      refine o_p (p_pickf rfl rfl hg14 rfl) rfl ?_
      refine o_nil ?_
      exact s_joinN 3 51 _ rfl rfl rfl (fun w h => by first | exact h | exact h.ent aEt)) ?_
  refine oP ?_
  refine o_and 2 52 54 _ _ rfl
    (by
      intro hg16
      have hs17 := hg16; try simp only [Bool.and_eq_true, decide_eq_true_eq] at hs17
      refine o_on 52 _ rfl rfl hg16 ?_
      refine oP ?_
      refine o_p (p_pickt rfl rfl hg16 rfl) rfl ?_
      refine o_nil ?_
      exact s_joinN 2 54 _ rfl rfl rfl (fun w h => by first | exact h | exact h.ent aEt))
    (by
      intro hg18
      have hs19 := hg18; try simp only [Bool.and_eq_false_iff, decide_eq_false_iff_not] at hs19
      refine o_off 52 _ rfl rfl hg18 rfl ?_
      refine o_p (p_pickf rfl rfl hg18 rfl) rfl ?_
      refine o_nil ?_
      exact s_joinN 2 54 _ rfl rfl rfl (fun w h => by first | exact h | exact h.ent aEt)) ?_
  refine oP ?_
  refine o_and 4 55 59 _ _ rfl
    (by
      intro hg20
      have hs21 := hg20; try simp only [Bool.and_eq_true, decide_eq_true_eq] at hs21
      refine o_on 55 _ rfl rfl hg20 ?_
      refine oP ?_
      refine o_on 55 _ rfl rfl hg20 ?_
      refine o_h (h_buildSlice (cs := [_, _, _]) rfl rfl sl_30 zr_3 rfl rfl rfl) rfl (fun b22 _ => ?_)
      refine o_on 55 _ rfl rfl hg20 ?_
      refine o_q (q_call rfl fn_23 rfl (fun w1 h1 => c23 w1 qa2 (some ⟨b22, 0, none⟩) qc2 3 [0, 5, 2] [0, 5, 2] (HS.pown_row (P := [0, 5, 2]) h1 aPk) (h1.rw_blk (l := [0, 5, 2]) iv1 aPk) (by decide) (by decide))) rfl ?_
      refine o_p (p_pickt rfl rfl hg20 rfl) rfl ?_
      refine o_nil ?_
      exact s_joinN 4 59 _ rfl rfl rfl (fun w h => by first | exact h | exact h.ent aEt))
    (by
      intro hg23
      have hs24 := hg23; try simp only [Bool.and_eq_false_iff, decide_eq_false_iff_not] at hs24
      refine o_off 55 _ rfl rfl hg23 rfl ?_
      refine o_off 55 _ rfl rfl hg23 rfl ?_
      refine o_off 55 _ rfl rfl hg23 rfl ?_
      refine o_p (p_pickf rfl rfl hg23 rfl) rfl ?_
      refine o_nil ?_
      exact s_joinN 4 59 _ rfl rfl rfl (fun w h => by first | exact h | exact h.ent aEt)) ?_
  refine oP ?_
  refine o_and 3 60 63 _ _ rfl
    (by
      intro hg25
      have hs26 := hg25; try simp only [Bool.and_eq_true, decide_eq_true_eq] at hs26
      refine o_on 60 _ rfl rfl hg25 ?_
      refine oP ?_
      refine o_on 60 _ rfl rfl hg25 ?_
      refine oP ?_
      refine o_p (p_pickt rfl rfl hg25 rfl) rfl ?_
      refine o_nil ?_
      exact s_joinN 3 63 _ rfl rfl rfl (fun w h => by first | exact h | exact h.ent aEt))
    (by
      intro hg27
      have hs28 := hg27; try simp only [Bool.and_eq_false_iff, decide_eq_false_iff_not] at hs28
      refine o_off 60 _ rfl rfl hg27 rfl ?_
      refine o_off 60 _ rfl rfl hg27 rfl ?_
      refine o_p (p_pickf rfl rfl hg27 rfl) rfl ?_
      refine o_nil ?_
      exact s_joinN 3 63 _ rfl rfl rfl (fun w h => by first | exact h | exact h.ent aEt)) ?_
  refine oP ?_
  refine o_and 4 64 68 _ _ rfl
    (by
      intro hg29
      have hs30 := hg29; try simp only [Bool.and_eq_true, decide_eq_true_eq] at hs30
      refine o_on 64 _ rfl rfl hg29 ?_
      refine oP ?_
      refine o_on 64 _ rfl rfl hg29 ?_
      refine o_h (h_buildSlice (cs := [_, _, _, _]) rfl rfl sl_30 zr_3 rfl rfl rfl) rfl (fun b31 _ => ?_)
      refine o_on 64 _ rfl rfl hg29 ?_
      refine o_q (q_call rfl fn_23 rfl (fun w1 h1 => c23 w1 qa3 (some ⟨b31, 0, none⟩) qc3 4 [0, 1, 2, 5] [0, 1, 2, 5] (HS.pown_row (P := [0, 1, 2, 5]) h1 aPk) (h1.rw_blk (l := [0, 1, 2, 5]) iv1 aPk) (by decide) (by decide))) rfl ?_
      refine o_p (p_pickt rfl rfl hg29 rfl) rfl ?_
      refine o_nil ?_
      exact s_joinN 4 68 _ rfl rfl rfl (fun w h => by first | exact h | exact h.ent aEt))
    (by
      intro hg32
      have hs33 := hg32; try simp only [Bool.and_eq_false_iff, decide_eq_false_iff_not] at hs33
      refine o_off 64 _ rfl rfl hg32 rfl ?_
      refine o_off 64 _ rfl rfl hg32 rfl ?_
      refine o_off 64 _ rfl rfl hg32 rfl ?_
      refine o_p (p_pickf rfl rfl hg32 rfl) rfl ?_
      refine o_nil ?_
      exact s_joinN 4 68 _ rfl rfl rfl (fun w h => by first | exact h | exact h.ent aEt)) ?_
  refine oP ?_
  refine o_and 5 69 74 _ _ rfl
    (by
      intro hg34
      have hs35 := hg34; try simp only [Bool.and_eq_true, decide_eq_true_eq] at hs35
      refine o_on 69 _ rfl rfl hg34 ?_
      refine o_p (p_fieldAddr rfl rfl fd_24_3 sz_22 rfl) rfl ?_
      refine o_on 69 _ rfl rfl hg34 ?_
      refine o_q (q_load rfl rfl sz_22 aPk rfl) rfl ?_
      refine o_on 69 _ rfl rfl hg34 ?_
      refine o_p (p_len_slice rfl rfl Tryz.underlying22) rfl ?_
      refine o_on 69 _ rfl rfl hg34 ?_
      refine oP ?_
      refine o_p (p_pickt rfl rfl hg34 rfl) rfl ?_
      refine o_nil ?_
      exact s_joinN 5 74 _ rfl rfl rfl (fun w h => by first | exact h | exact h.ent aEt))
    (by
      intro hg36
      have hs37 := hg36; try simp only [Bool.and_eq_false_iff, decide_eq_false_iff_not] at hs37
      refine o_off 69 _ rfl rfl hg36 rfl ?_
      refine o_off 69 _ rfl rfl hg36 rfl ?_
      refine o_off 69 _ rfl rfl hg36 rfl ?_
      refine o_off 69 _ rfl rfl hg36 rfl ?_
      refine o_p (p_pickf rfl rfl hg36 rfl) rfl ?_
      refine o_nil ?_
      exact s_joinN 5 74 _ rfl rfl rfl (fun w h => by first | exact h | exact h.ent aEt)) ?_
  refine oP ?_
  refine o_and 3 75 78 _ _ rfl
    (by
      intro hg38
      have hs39 := hg38; try simp only [Bool.and_eq_true, decide_eq_true_eq] at hs39
      refine o_on 75 _ rfl rfl hg38 ?_
      refine oP ?_
      refine o_on 75 _ rfl rfl hg38 ?_
      refine oP ?_
      refine o_p (p_pickt rfl rfl hg38 rfl) rfl ?_
      refine o_nil ?_
      exact s_joinN 3 78 _ rfl rfl rfl (fun w h => by first | exact h | exact h.ent aEt))
    (by
      intro hg40
      have hs41 := hg40; try simp only [Bool.and_eq_false_iff, decide_eq_false_iff_not] at hs41
      refine o_off 75 _ rfl rfl hg40 rfl ?_
      refine o_off 75 _ rfl rfl hg40 rfl ?_
      refine o_p (p_pickf rfl rfl hg40 rfl) rfl ?_
      refine o_nil ?_
      exact s_joinN 3 78 _ rfl rfl rfl (fun w h => by first | exact h | exact h.ent aEt)) ?_
  refine oP ?_
  refine o_and 3 79 82 _ _ rfl
    (by
      intro hg42
      have hs43 := hg42; try simp only [Bool.and_eq_true, decide_eq_true_eq] at hs43
      refine o_on 79 _ rfl rfl hg42 ?_
      refine oP ?_
      refine o_on 79 _ rfl rfl hg42 ?_
      refine oP ?_
      refine o_p (p_pickt rfl rfl hg42 rfl) rfl ?_
      refine o_nil ?_
      exact s_joinN 3 82 _ rfl rfl rfl (fun w h => by first | exact h | exact h.ent aEt))
    (by
      intro hg44
      have hs45 := hg44; try simp only [Bool.and_eq_false_iff, decide_eq_false_iff_not] at hs45
      refine o_off 79 _ rfl rfl hg44 rfl ?_
      refine o_off 79 _ rfl rfl hg44 rfl ?_
      refine o_p (p_pickf rfl rfl hg44 rfl) rfl ?_
      refine o_nil ?_
      exact s_joinN 3 82 _ rfl rfl rfl (fun w h => by first | exact h | exact h.ent aEt)) ?_
  refine oP ?_
  refine o_nil ?_
  exact s_retv (rs := [.tmp 0]) rfl (.tmp rfl (.nil)) (fun w' h' => ⟨by rfl, h'.below⟩)

end Go.Proofs

namespace Go.Proofs
open Go Go.RowKit Gx
set_option linter.unusedVariables false
set_option linter.unusedSimpArgs false
attribute [local irreducible] Go.Calls Gx.S Gx.O Gx.D Gx.OpP Gx.OpQ Gx.OpH

theorem fn_52 : isFn Tryz.prog 52 = true := by kernel_rfl
theorem fn_66 : isFn Tryz.prog 66 = true := by kernel_rfl
theorem fn_65 : isFn Tryz.prog 65 = true := by kernel_rfl
theorem fn_24 : isFn Tryz.prog 24 = true := by kernel_rfl


set_option maxRecDepth 20000 in
theorem c52 (w : World) (a b : Option Addr) (c d : Nat) (l m : List TEnt) (hs : Rw TEnt.vals 2 w [] a l) (ht : Rw TEnt.vals 2 w [] b m) (hl : l.length ≤ 100000) (hm : m.length ≤ 100000) : Calls Tryz.prog 52 #[.slice a l.length c, .slice b m.length d] w fun en w' => en = .returned (.bool (decide (l = m))) ∧ Below w.heap.size w w' := by
  refine enter (args := [_, _]) Tryz.func52 Tryz.ntmps52 rfl rfl (HS.refl w []) ?_
  refine s_seq ?_
  refine s_region ?_
  refine oP ?_
  refine o_nil ?_
  refine s_seq ?_
  refine s_seq ?_
  refine s_region ?_
  refine oP ?_
  refine o_p (p_len_slice rfl rfl Tryz.underlying77) rfl ?_
  refine oP ?_
  refine o_p (p_len_slice rfl rfl Tryz.underlying77) rfl ?_
  refine oP ?_
  refine o_nil ?_
  refine s_cond rfl (fun h1 => ?_) (fun h1 => ?_)
  · try simp only [Bool.not_eq_true', decide_eq_false_iff_not] at h1
    have hn9 : l ≠ m := fun e => by have hq := h1; rw [e] at hq; simp at hq
    refine s_seq ?_
    refine s_region ?_
    refine oP ?_
    refine o_nil ?_
    exact s_retv (rs := [.tmp 4]) rfl (.tmp rfl (.nil)) (fun w' h' => ⟨by rw [decide_eq_false hn9]; rfl, h'.below⟩)
  · try simp only [Bool.not_eq_false', decide_eq_true_eq] at h1
    have hlm : l.length = m.length := by have hq := h1; omega
    refine s_skip ?_
    refine s_seq ?_
    refine s_seq ?_
    refine s_region ?_
    refine oP ?_
    refine o_nil ?_
    refine s_block ?_
    refine s_loopI (α := Nat) [4, 5, 11, 12, 13, 14, 15, 16, 17, 18, 19, 20, 21, 22, 23, 24, 25] (fun k => [(5, .int .i64 (k : Int))]) (fun _ => HS w [] []) (fun k => k ≤ l.length ∧ ∀ j, j < k → nth l j = nth m j) (fun k => l.length - k) 0 ⟨Nat.zero_le _, fun j h => absurd h (Nat.not_lt_zero j)⟩ aSx (fun w h => h.ent aEt) (fun k hx => ?_)
    obtain ⟨hk1, hk3⟩ := hx
    refine s_seq ?_
    refine s_seq ?_
    refine s_region ?_
    refine oP ?_
    refine oP ?_
    refine o_p (p_len_slice rfl rfl Tryz.underlying77) rfl ?_
    refine oP ?_
    refine o_nil ?_
    refine s_cond rfl (fun h2 => ?_) (fun h2 => ?_)
    · try simp only [decide_eq_true_eq] at h2
      have hk : k < l.length := by omega
      have hk2 : k < m.length := by omega
      refine s_skip ?_
      refine s_seq ?_
      refine s_block ?_
      refine s_seq ?_
      refine s_draw [] mixed ?_
      refine dP 0 ?_
      refine dP 1 ?_
      refine d_p 2 rfl (p_indexAddr rfl rfl rfl sl_77 (k) (by omega) (by omega) (Rw.some hs (by omega))) (by kernel_rfl) rfl rfl ?_
      refine d_q 3 [] rfl (q_load_oldn _ rfl rfl sz_26 rfl (Rw.rd hs (by omega))) (by kernel_rfl) (by kernel_rfl) (by kernel_rfl) rfl ?_
      refine dP 4 ?_
      refine dP 5 ?_
      refine d_p 6 rfl (p_indexAddr rfl rfl rfl sl_77 (k) (by omega) (by omega) (Rw.some ht (by omega))) (by kernel_rfl) rfl rfl ?_
      refine d_q 7 [] rfl (q_load_oldn _ rfl rfl sz_26 rfl (Rw.rd ht (by omega))) (by kernel_rfl) (by kernel_rfl) (by kernel_rfl) rfl ?_
      refine d_p 8 rfl (p_neq_agg rfl rfl rfl eqk_26 (by rfl) (by rfl) (by rfl)) (by kernel_rfl) rfl rfl ?_
      refine d_nil (by kernel_rfl) (fun w h => by first | exact h | exact h.ent aEt) ?_
      refine s_cond rfl (fun h3 => ?_) (fun h3 => ?_)
      · try simp only [Bool.not_eq_true', Bool.and_eq_false_iff, decide_eq_false_iff_not] at h3
        have hn9 : l ≠ m := fun e => by have hq := h3; rw [e] at hq; simp at hq
        refine s_seq ?_
        refine s_region ?_
        refine oP ?_
        refine o_nil ?_
        exact s_retv (rs := [.tmp 4]) rfl (.tmp rfl (.nil)) (fun w' h' => ⟨by rw [decide_eq_false hn9]; rfl, h'.below⟩)
      · try simp only [Bool.not_eq_false', Bool.and_eq_true, decide_eq_true_eq] at h3
        have he9 : nth l k = nth m k := by have hq := h3; exact ent_ext hq.1 hq.2.1
        refine s_skip ?_
        refine s_blk ?_
        refine s_region ?_
        refine oP ?_
        refine oP ?_
        try (refine o_slot (i64w (by omega) (by omega)) ?_)
        refine oP ?_
        refine o_nil ?_
        exact s_backI (k + 1) (by omega) ⟨by omega, fun j hj => (Nat.lt_or_ge j k).elim (hk3 j) (fun h9 => by obtain rfl : j = k := (by omega); exact he9)⟩ aSx (fun w h => h.ent aEt)
    · try simp only [decide_eq_false_iff_not] at h2
      have hl9 : l = m := list_ext_nth hlm fun j hj => hk3 j (by omega)
      refine s_exit_to rfl ?_
      refine s_seq ?_
      refine s_region ?_
      refine oP ?_
      refine o_nil ?_
      exact s_retv (rs := [.tmp 4]) rfl (.tmp rfl (.nil)) (fun w' h' => ⟨by rw [decide_eq_true hl9]; rfl, h'.below⟩)

set_option maxRecDepth 20000 in
theorem c65 (w : World) (n m : LNd) (hne : Rw TEnt.vals 2 w [] n.ea n.es) (hnc : Rw inV 1 w [] n.ca n.cs) (hme : Rw TEnt.vals 2 w [] m.ea m.es) (hmc : Rw inV 1 w [] m.ca m.cs) (h1 : n.es.length ≤ 100000 ∧ n.cs.length ≤ 100000) (h2 : m.es.length ≤ 100000 ∧ m.cs.length ≤ 100000) : Calls Tryz.prog 65 #[.agg #[.bool n.us, .slice n.ea n.es.length n.ec, .slice n.ca n.cs.length n.cc], .agg #[.bool m.us, .slice m.ea m.es.length m.ec, .slice m.ca m.cs.length m.cc]] w fun en w' => en = .returned (.bool (decide (n.pl = m.pl))) ∧ Below w.heap.size w w' := by
  refine enter (args := [_, _]) Tryz.func65 Tryz.ntmps65 rfl rfl (HS.refl w []) ?_
  refine s_seq ?_
  refine s_region ?_
  refine o_h (h_box rfl rfl) rfl (fun b1 _ => ?_)
  refine o_h (h_box rfl rfl) rfl (fun b2 _ => ?_)
  refine oP ?_
  refine o_nil ?_
  refine s_seq ?_
  refine s_region ?_
  refine o_p (p_fieldAddr rfl rfl fd_102_0 sz_4 rfl) rfl ?_
  refine o_q (q_load rfl rfl sz_4 aPk rfl) rfl ?_
  refine o_p (p_fieldAddr rfl rfl fd_102_0 sz_4 rfl) rfl ?_
  refine o_q (q_load rfl rfl sz_4 aPk rfl) rfl ?_
  refine o_p (p_eql_bool rfl rfl rfl Tryz.underlying4) rfl ?_
  refine oP ?_
  refine o_and 6 10 16 _ _ rfl
    (by
      intro hg3
      have hs4 := hg3; skip
      refine o_on 10 _ rfl rfl hg3 ?_
      refine o_p (p_fieldAddr rfl rfl fd_102_1 sz_77 rfl) rfl ?_
      refine o_on 10 _ rfl rfl hg3 ?_
      refine o_q (q_load rfl rfl sz_77 aPk rfl) rfl ?_
      refine o_on 10 _ rfl rfl hg3 ?_
      refine o_p (p_fieldAddr rfl rfl fd_102_1 sz_77 rfl) rfl ?_
      refine o_on 10 _ rfl rfl hg3 ?_
      refine o_q (q_load rfl rfl sz_77 aPk rfl) rfl ?_
      refine o_on 10 _ rfl rfl hg3 ?_
      refine o_q (q_call rfl fn_52 rfl (fun w1 h1 => c52 w1 n.ea m.ea n.ec m.ec n.es m.es (hne.later h1.nil) (hme.later h1.nil) (by omega) (by omega))) rfl ?_
      refine o_p (p_pickt rfl rfl hg3 rfl) rfl ?_
      refine o_nil ?_
      exact s_joinN 6 16 _ rfl rfl rfl (fun w h => by first | exact h | exact h.ent aEt))
    (by
      intro hg5
      have hs6 := hg5; skip
      refine o_off 10 _ rfl rfl hg5 rfl ?_
      refine o_off 10 _ rfl rfl hg5 rfl ?_
      refine o_off 10 _ rfl rfl hg5 rfl ?_
      refine o_off 10 _ rfl rfl hg5 rfl ?_
      refine o_off 10 _ rfl rfl hg5 rfl ?_
      refine o_p (p_pickf rfl rfl hg5 rfl) rfl ?_
      refine o_nil ?_
      exact s_joinN 6 16 _ rfl rfl rfl (fun w h => by first | exact h | exact h.ent aEt)) ?_
  refine oP ?_
  refine o_and 6 17 23 _ _ rfl
    (by
      intro hg7
      have hs8 := hg7; try simp only [Bool.and_eq_true, decide_eq_true_eq] at hs8
      refine o_on 17 _ rfl rfl hg7 ?_
      refine o_p (p_fieldAddr rfl rfl fd_102_2 sz_30 rfl) rfl ?_
      refine o_on 17 _ rfl rfl hg7 ?_
      refine o_q (q_load rfl rfl sz_30 aPk rfl) rfl ?_
      refine o_on 17 _ rfl rfl hg7 ?_
      refine o_p (p_fieldAddr rfl rfl fd_102_2 sz_30 rfl) rfl ?_
      refine o_on 17 _ rfl rfl hg7 ?_
      refine o_q (q_load rfl rfl sz_30 aPk rfl) rfl ?_
      refine o_on 17 _ rfl rfl hg7 ?_
      refine o_q (q_call rfl fn_23 rfl (fun w1 h1 => c23 w1 n.ca m.ca n.cc m.cc n.cs m.cs (hnc.later h1.nil) (hmc.later h1.nil) (by omega) (by omega))) rfl ?_
      refine o_p (p_pickt rfl rfl hg7 rfl) rfl ?_
      refine o_nil ?_
      exact s_joinN 6 23 _ rfl rfl rfl (fun w h => by first | exact h | exact h.ent aEt))
    (by
      intro hg9
      have hs10 := hg9; try simp only [Bool.and_eq_false_iff, decide_eq_false_iff_not] at hs10
      refine o_off 17 _ rfl rfl hg9 rfl ?_
      refine o_off 17 _ rfl rfl hg9 rfl ?_
      refine o_off 17 _ rfl rfl hg9 rfl ?_
      refine o_off 17 _ rfl rfl hg9 rfl ?_
      refine o_off 17 _ rfl rfl hg9 rfl ?_
      refine o_p (p_pickf rfl rfl hg9 rfl) rfl ?_
      refine o_nil ?_
      exact s_joinN 6 23 _ rfl rfl rfl (fun w h => by first | exact h | exact h.ent aEt)) ?_
  refine oP ?_
  refine o_nil ?_
  exact s_retv (rs := [.tmp 4]) rfl (.tmp rfl (.nil)) (fun w' h' => ⟨by simp only [retV]; rw [alike_eq], h'.below⟩)

set_option maxRecDepth 20000 in
theorem c66 (w : World) (co mo rm : Int) (a : Option Addr) (cap : Nat) (L : List LNd) (k : Nat) (hs : Rw LNd.vals 3 w [] a L) : Calls Tryz.prog 66 #[.agg #[.int .i64 co, .int .i64 mo, .int .i64 rm, .slice a L.length cap], .int .i64 (k : Int)] w fun en w' => en = .returned (.agg (LNd.vals (nth L k)).toArray) ∧ Below w.heap.size w w' := by
  refine enter (args := [_, _]) Tryz.func66 Tryz.ntmps66 rfl rfl (HS.refl w []) ?_
  refine s_seq ?_
  refine s_region ?_
  refine o_h (h_box rfl rfl) rfl (fun b1 _ => ?_)
  refine o_h (h_alloc rfl zr_102) rfl (fun b2 _ => ?_)
  refine o_nil ?_
  refine s_seq ?_
  refine s_seq ?_
  refine s_region ?_
  refine oP ?_
  refine o_p (p_fieldAddr rfl rfl fd_24_3 sz_22 rfl) rfl ?_
  refine o_q (q_load rfl rfl sz_22 aPk rfl) rfl ?_
  refine o_p (p_len_slice rfl rfl Tryz.underlying22) rfl ?_
  refine oP ?_
  refine o_nil ?_
  refine s_cond rfl (fun h3 => ?_) (fun h3 => ?_)
  · try simp only [decide_eq_true_eq] at h3
    refine s_seq ?_
    refine s_region ?_
    refine o_p (p_fieldAddr rfl rfl fd_24_3 sz_22 rfl) rfl ?_
    refine o_q (q_load rfl rfl sz_22 aPk rfl) rfl ?_
    refine oP ?_
    refine o_p (p_indexAddr rfl rfl rfl sl_22 (k) (by omega) (by omega) (Rw.some hs (by omega))) rfl ?_
    refine o_q (q_load_oldn _ rfl rfl sz_102 rfl (Rw.rd hs (by omega))) rfl ?_
    refine o_h0 (h_store rfl rfl rfl sz_102 rfl aPt (by simp only [setMany_length, List.length_set, List.length_cons, List.length_nil, List.length_map]; omega) rfl) (fun _ _ => ?_)
    refine o_nil ?_
    exact s_retv (rs := [.cell 4 102]) rfl (.cell rfl sz_102 aPk rfl (.nil)) (fun w' h' => ⟨by first | rfl | (rw [nth_out (by omega)]; rfl), h'.below⟩)
  · try simp only [decide_eq_false_iff_not] at h3
    refine s_skip ?_
    refine s_seq ?_
    refine s_region ?_
    refine o_p (p_build (cs := [_, _, _]) rfl rfl pl_102 zr_102 rfl) rfl ?_
    refine o_h0 (h_store rfl rfl rfl sz_102 rfl aPt (by simp only [setMany_length, List.length_set, List.length_cons, List.length_nil, List.length_map]; omega) rfl) (fun _ _ => ?_)
    refine o_nil ?_
    exact s_retv (rs := [.cell 4 102]) rfl (.cell rfl sz_102 aPk rfl (.nil)) (fun w' h' => ⟨by first | rfl | (rw [nth_out (by omega)]; rfl), h'.below⟩)

set_option maxRecDepth 20000 in
theorem c24 (w : World) (co mo rm co2 mo2 rm2 : Int) (a b : Option Addr) (ca cb : Nat) (L M : List LNd) (hs : Nt w [] a L) (ht : Nt w [] b M) (hL : L.length ≤ 1000) (hM : M.length ≤ 1000) (hLs : Sm 100000 (pln L)) (hMs : Sm 100000 (pln M)) : Calls Tryz.prog 24 #[.agg #[.int .i64 co, .int .i64 mo, .int .i64 rm, .slice a L.length ca], .agg #[.int .i64 co2, .int .i64 mo2, .int .i64 rm2, .slice b M.length cb]] w fun en w' => ∃ g : Option Addr × Nat, en = .returned (.slice g.1 (chgN (pln L) (pln M)).length g.2) ∧ True ∧ HS w [] [.own (.slice g.1 ((chgN (pln L) (pln M))).length g.2) 3 1 ((chgN (pln L) (pln M))).length (((chgN (pln L) (pln M))).map fun i : Nat => Value.int .i64 (i : Int))] w' := by
  refine enter (args := [_, _]) Tryz.func24 Tryz.ntmps24 rfl rfl (HS.refl w []) ?_
  refine s_seq ?_
  refine s_region ?_
  refine o_h (h_box rfl rfl) rfl (fun b1 _ => ?_)
  refine o_h (h_box rfl rfl) rfl (fun b2 _ => ?_)
  refine oP ?_
  refine o_nil ?_
  refine s_seq ?_
  refine s_region ?_
  refine oP ?_
  refine o_nil ?_
  refine s_seq ?_
  refine s_seq ?_
  refine s_region ?_
  refine oP ?_
  refine o_nil ?_
  refine s_block ?_
  refine s_loopI (α := Nat × Option Addr × Nat) [5, 6, 7, 8, 9, 10, 11, 12, 13, 14, 15, 16, 17, 18, 19, 20, 21, 22, 23, 24, 25, 26, 27, 28, 29] (fun x => [(6, .int .i64 (x.1 : Int)), (5, .slice x.2.1 (chgK (pln L) (pln M) x.1).length x.2.2)]) (fun x => HS w [] [.own (.slice x.2.1 ((chgK (pln L) (pln M) x.1)).length x.2.2) 3 1 ((chgK (pln L) (pln M) x.1)).length (((chgK (pln L) (pln M) x.1)).map fun i : Nat => Value.int .i64 (i : Int)), .blk b1 24 4 [.int .i64 co, .int .i64 mo, .int .i64 rm, .slice a L.length ca], .blk b2 24 4 [.int .i64 co2, .int .i64 mo2, .int .i64 rm2, .slice b M.length cb]]) (fun x => x.1 ≤ (max L.length M.length)) (fun x => (max L.length M.length) - x.1) (0, none, 0) (Nat.zero_le _) aSx (fun w h => (h.own_nil 3 1).ent aEt) (fun ⟨k, ga, gc⟩ hk1 => ?_)
  dsimp only
  simp only [] at hk1
  refine s_seq ?_
  refine s_seq ?_
  refine s_region ?_
  refine oP ?_
  refine o_p (p_fieldAddr rfl rfl fd_24_3 sz_22 rfl) rfl ?_
  refine o_q (q_load rfl rfl sz_22 aPk rfl) rfl ?_
  refine o_p (p_len_slice rfl rfl Tryz.underlying22) rfl ?_
  refine o_p (p_fieldAddr rfl rfl fd_24_3 sz_22 rfl) rfl ?_
  refine o_q (q_load rfl rfl sz_22 aPk rfl) rfl ?_
  refine o_p (p_len_slice rfl rfl Tryz.underlying22) rfl ?_
  refine o_p (p_max2 rfl rfl rfl ) rfl ?_
  refine oP ?_
  refine o_nil ?_
  refine s_cond rfl (fun h3 => ?_) (fun h3 => ?_)
  · try simp only [decide_eq_true_eq] at h3
    have hk : k < (max L.length M.length) := by have hq := h3; omega
    have hkl := chgK_len (pln L) (pln M) k
    refine s_skip ?_
    refine s_seq ?_
    refine s_block ?_
    refine s_seq ?_
    refine s_draw [] mixed ?_
    refine d_q 0 [] rfl (q_loadn rfl rfl sz_24 aPk rfl) (by kernel_rfl) (by kernel_rfl) (by kernel_rfl) rfl ?_
    refine dP 1 ?_
    refine d_q 2 [] rfl (q_call rfl fn_66 rfl (fun w1 h1 => c66 w1 co mo rm a ca L k (Rw.later hs.1 h1.nil))) (by kernel_rfl) (by kernel_rfl) (by kernel_rfl) rfl ?_
    refine d_q 3 [] rfl (q_loadn rfl rfl sz_24 aPk rfl) (by kernel_rfl) (by kernel_rfl) (by kernel_rfl) rfl ?_
    refine dP 4 ?_
    refine d_q 5 [] rfl (q_call rfl fn_66 rfl (fun w1 h1 => c66 w1 co2 mo2 rm2 b cb M k (Rw.later ht.1 h1.nil))) (by kernel_rfl) (by kernel_rfl) (by kernel_rfl) rfl ?_
    refine d_q 6 [] rfl (q_call rfl fn_65 rfl (fun w1 h1 => c65 w1 (nth L k) (nth M k) ((hs.esA k).later h1.nil) ((hs.csA k).later h1.nil) ((ht.esA k).later h1.nil) ((ht.csA k).later h1.nil) (by have := hLs k; rw [pln_nth'] at this; exact this) (by have := hMs k; rw [pln_nth'] at this; exact this))) (by kernel_rfl) (by kernel_rfl) (by kernel_rfl) rfl ?_
    refine dP 7 ?_
    refine d_nil (by kernel_rfl) (fun w h => by first | exact h | exact h.ent aEt) ?_
    refine s_cond rfl (fun h4 => ?_) (fun h4 => ?_)
    · try simp only [Bool.not_eq_true', decide_eq_false_iff_not] at h4
      have hne9 : nth (pln L) k ≠ nth (pln M) k := by rw [pln_nth', pln_nth']; have hq := h4; simpa using hq
      have hst := chgK_ne hne9
      refine s_region ?_
      refine oP ?_
      refine oP ?_
      refine o_h (h_buildSlice (cs := [_]) rfl rfl sl_30 zr_3 rfl rfl rfl) rfl (fun b5 _ => ?_)
      refine o_h (h_appendS [_] rfl rfl rfl sl_30 Tryz.underlying30 zr_3 rfl aPk (src_blk aPk) rfl (by intro u hu; simp only [List.mem_cons, List.mem_nil_iff, or_false] at hu; subst hu; rfl) (by omega) (by simp only [maxLen]; omega)) rfl (fun b6 _ => ?_)
      refine oP ?_
      refine o_nil ?_
      refine s_blk ?_
      refine s_region ?_
      refine oP ?_
      refine oP ?_
      try (refine o_slot (i64w (by omega) (by omega)) ?_)
      refine oP ?_
      refine o_nil ?_
      exact s_backI (k + 1, b6.1, b6.2) (by (try simp only []); omega) (by (try simp only []); omega) (by dsimp only; rw [hst]; simp only [List.length_append, List.length_singleton]; exact aSx) (fun w h => by have h2 := h; dsimp only; rw [hst]; simp only [List.length_append, List.length_singleton, List.map_append, List.map_cons, List.map_nil]; exact h2.ent aEt)
    · try simp only [Bool.not_eq_false', decide_eq_true_eq] at h4
      have hne9 : nth (pln L) k = nth (pln M) k := by rw [pln_nth', pln_nth']; have hq := h4; simpa using hq
      have hst := chgK_eq hne9
      refine s_skip ?_
      refine s_blk ?_
      refine s_region ?_
      refine oP ?_
      refine oP ?_
      try (refine o_slot (i64w (by omega) (by omega)) ?_)
      refine oP ?_
      refine o_nil ?_
      exact s_backI (k + 1, ga, gc) (by (try simp only []); omega) (by (try simp only []); omega) (by dsimp only; rw [hst]; exact aSx) (fun w h => by dsimp only; rw [hst]; exact h.ent aEt)
  · try simp only [decide_eq_false_iff_not] at h3
    obtain rfl : k = (max L.length M.length) := by omega
    refine s_exit_to rfl ?_
    refine s_seq ?_
    refine s_region ?_
    refine oP ?_
    refine oP ?_
    refine o_nil ?_
    exact s_retv (rs := [.tmp 4]) rfl (.tmp rfl (.nil)) (fun w' h' => ⟨(ga, gc), by unfold chgN; rw [pln_len, pln_len]; rfl, trivial, by unfold chgN; rw [pln_len, pln_len]; exact h'.ent aEt⟩)

set_option maxRecDepth 20000 in
theorem c21 (w : World) (co mo rm : Int) (a b : Option Addr) (ca cb : Nat) (L M : List LNd) (hs : Nt w [] a L) (ht : Nt w [] b M) (hL : L.length ≤ 1000) (hM : M.length ≤ 1000) (hLs : Sm 100000 (pln L)) (hMs : Sm 100000 (pln M)) (he : pln L = pln M) : Calls Tryz.prog 21 #[.agg #[.int .i64 co, .int .i64 mo, .int .i64 rm, .slice a L.length ca], .agg #[.int .i64 co, .int .i64 mo, .int .i64 rm, .slice b M.length cb]] w fun en w' => en = .returned (.bool true) ∧ Below w.heap.size w w' := by
  have hl9 : L.length = M.length := by rw [← pln_len L, he, pln_len]
  have hch : (chgN (pln L) (pln M)) = [] := chg_same he
  refine enter (args := [_, _]) Tryz.func21 Tryz.ntmps21 rfl rfl (HS.refl w []) ?_
  refine s_seq ?_
  refine s_region ?_
  refine o_h (h_box rfl rfl) rfl (fun b1 _ => ?_)
  refine o_h (h_box rfl rfl) rfl (fun b2 _ => ?_)
  refine oP ?_
  refine o_nil ?_
  refine s_seq ?_
  refine s_seq ?_
  refine s_region ?_
  refine o_p (p_fieldAddr rfl rfl fd_24_0 sz_3 rfl) rfl ?_
  refine o_q (q_load rfl rfl sz_3 aPk rfl) rfl ?_
  refine o_p (p_fieldAddr rfl rfl fd_24_0 sz_3 rfl) rfl ?_
  refine o_q (q_load rfl rfl sz_3 aPk rfl) rfl ?_
  refine oP ?_
  refine oP ?_
  refine o_or 6 10 16 _ _ rfl
    (by
      intro hg3
      have hs4 := hg3; try simp only [Bool.not_eq_false', decide_eq_true_eq] at hs4
      refine o_on 10 _ rfl rfl hg3 ?_
      refine o_p (p_fieldAddr rfl rfl fd_24_1 sz_3 rfl) rfl ?_
      refine o_on 10 _ rfl rfl hg3 ?_
      refine o_q (q_load rfl rfl sz_3 aPk rfl) rfl ?_
      refine o_on 10 _ rfl rfl hg3 ?_
      refine o_p (p_fieldAddr rfl rfl fd_24_1 sz_3 rfl) rfl ?_
      refine o_on 10 _ rfl rfl hg3 ?_
      refine o_q (q_load rfl rfl sz_3 aPk rfl) rfl ?_
      refine o_on 10 _ rfl rfl hg3 ?_
      refine oP ?_
      refine o_p (p_pickf rfl rfl hg3 rfl) rfl ?_
      refine o_nil ?_
      exact s_joinN 6 16 _ rfl rfl rfl (fun w h => by first | exact h | exact h.ent aEt))
    (by
      intro hg5
      have hs6 := hg5; try simp only [Bool.not_eq_true', decide_eq_false_iff_not] at hs6
      refine o_off 10 _ rfl rfl hg5 rfl ?_
      refine o_off 10 _ rfl rfl hg5 rfl ?_
      refine o_off 10 _ rfl rfl hg5 rfl ?_
      refine o_off 10 _ rfl rfl hg5 rfl ?_
      refine o_off 10 _ rfl rfl hg5 rfl ?_
      refine o_p (p_pickt rfl rfl hg5 rfl) rfl ?_
      refine o_nil ?_
      exact s_joinN 6 16 _ rfl rfl rfl (fun w h => by first | exact h | exact h.ent aEt)) ?_
  refine oP ?_
  refine o_or 6 17 23 _ _ rfl
    (by
      intro hg7
      have hs8 := hg7; try simp only [Bool.or_eq_false_iff, Bool.not_eq_false', decide_eq_true_eq] at hs8
      refine o_on 17 _ rfl rfl hg7 ?_
      refine o_p (p_fieldAddr rfl rfl fd_24_2 sz_3 rfl) rfl ?_
      refine o_on 17 _ rfl rfl hg7 ?_
      refine o_q (q_load rfl rfl sz_3 aPk rfl) rfl ?_
      refine o_on 17 _ rfl rfl hg7 ?_
      refine o_p (p_fieldAddr rfl rfl fd_24_2 sz_3 rfl) rfl ?_
      refine o_on 17 _ rfl rfl hg7 ?_
      refine o_q (q_load rfl rfl sz_3 aPk rfl) rfl ?_
      refine o_on 17 _ rfl rfl hg7 ?_
      refine oP ?_
      refine o_p (p_pickf rfl rfl hg7 rfl) rfl ?_
      refine o_nil ?_
      exact s_joinN 6 23 _ rfl rfl rfl (fun w h => by first | exact h | exact h.ent aEt))
    (by
      intro hg9
      have hs10 := hg9; try simp only [Bool.or_eq_true, Bool.not_eq_true', decide_eq_false_iff_not] at hs10
      refine o_off 17 _ rfl rfl hg9 rfl ?_
      refine o_off 17 _ rfl rfl hg9 rfl ?_
      refine o_off 17 _ rfl rfl hg9 rfl ?_
      refine o_off 17 _ rfl rfl hg9 rfl ?_
      refine o_off 17 _ rfl rfl hg9 rfl ?_
      refine o_p (p_pickt rfl rfl hg9 rfl) rfl ?_
      refine o_nil ?_
      exact s_joinN 6 23 _ rfl rfl rfl (fun w h => by first | exact h | exact h.ent aEt)) ?_
  refine oP ?_
  refine o_or 8 24 32 _ _ rfl
    (by
      intro hg11
      have hs12 := hg11; try simp only [Bool.or_eq_false_iff, Bool.not_eq_false', decide_eq_true_eq] at hs12
      refine o_on 24 _ rfl rfl hg11 ?_
      refine o_p (p_fieldAddr rfl rfl fd_24_3 sz_22 rfl) rfl ?_
      refine o_on 24 _ rfl rfl hg11 ?_
      refine o_q (q_load rfl rfl sz_22 aPk rfl) rfl ?_
      refine o_on 24 _ rfl rfl hg11 ?_
      refine o_p (p_len_slice rfl rfl Tryz.underlying22) rfl ?_
      refine o_on 24 _ rfl rfl hg11 ?_
      refine o_p (p_fieldAddr rfl rfl fd_24_3 sz_22 rfl) rfl ?_
      refine o_on 24 _ rfl rfl hg11 ?_
      refine o_q (q_load rfl rfl sz_22 aPk rfl) rfl ?_
      refine o_on 24 _ rfl rfl hg11 ?_
      refine o_p (p_len_slice rfl rfl Tryz.underlying22) rfl ?_
      refine o_on 24 _ rfl rfl hg11 ?_
      refine oP ?_
      refine o_p (p_pickf rfl rfl hg11 rfl) rfl ?_
      refine o_nil ?_
      exact s_joinN 8 32 _ rfl rfl rfl (fun w h => by first | exact h | exact h.ent aEt))
    (by
      intro hg13
      have hs14 := hg13; try simp only [Bool.or_eq_true, Bool.not_eq_true', decide_eq_false_iff_not] at hs14
      refine o_off 24 _ rfl rfl hg13 rfl ?_
      refine o_off 24 _ rfl rfl hg13 rfl ?_
      refine o_off 24 _ rfl rfl hg13 rfl ?_
      refine o_off 24 _ rfl rfl hg13 rfl ?_
      refine o_off 24 _ rfl rfl hg13 rfl ?_
      refine o_off 24 _ rfl rfl hg13 rfl ?_
      refine o_off 24 _ rfl rfl hg13 rfl ?_
      refine o_p (p_pickt rfl rfl hg13 rfl) rfl ?_
      refine o_nil ?_
      exact s_joinN 8 32 _ rfl rfl rfl (fun w h => by first | exact h | exact h.ent aEt)) ?_
  refine o_nil ?_
  refine s_cond rfl (fun h15 => ?_) (fun h15 => ?_)
  · try simp only [Bool.or_eq_true, Bool.not_eq_true', decide_eq_false_iff_not] at h15
    exfalso; have hq9 := h15; simp [hl9] at hq9
  · try simp only [Bool.or_eq_false_iff, Bool.not_eq_false', decide_eq_true_eq] at h15
    refine s_skip ?_
    refine s_seq ?_
    refine s_region ?_
    refine o_q (q_loadn rfl rfl sz_24 aPk rfl) rfl ?_
    refine o_q (q_loadn rfl rfl sz_24 aPk rfl) rfl ?_
    refine o_h (h_call rfl fn_24 rfl (fun w1 h1 => c24 w1 co mo rm co mo rm a b ca cb L M (hs.later h1.nil) (ht.later h1.nil) hL hM hLs hMs)) rfl (fun b16 _ => ?_)
    rw [hch]
    refine o_p (p_len_slice rfl rfl Tryz.underlying30) rfl ?_
    refine oP ?_
    refine oP ?_
    refine o_nil ?_
    exact s_retv (rs := [.tmp 4]) rfl (.tmp rfl (.nil)) (fun w' h' => ⟨by rfl, h'.below⟩)

end Go.Proofs

/- Regions whose order is open: a maker of memory under a guard. Nothing of a program is named here. -/
namespace Gx
open Go Go.RowKit
section
variable {X : Ctx} {ops : Array Oper} {F : List Nat} {fuel i : Nat} {listed : Array Bool} {k : List KI} {L : Slots} {d ty : Nat} {op : Op} {pos : String} {aft : Array Edge} {w0 : World} {M : List Nat} {As Bs : List HA}
end
end Gx

/- Chapter 12: small facts for the laws. Plain data. -/
namespace Gx
set_option linter.unusedSimpArgs false
set_option linter.unusedVariables false
set_option linter.unusedSectionVars false
open Go Go.RowKit Go.Proofs
section
variable {w0 w : World} {M : List Nat} {As As' : List HA}
theorem nt_nil {a : Option Addr} : Nt w M a ([] : List LNd) := ⟨Rw.nilR, fun n hn => (nomatch hn)⟩
end
abbrev siz0 (co mo rm : Int) : Int := if colE12 co = 0 then sizE mo rm else colE12 co
abbrev cE1 (co : Int) (a : List UInt8) : Int := if colE12 co = 0 then keyE co a else colE12 co
theorem sm_nil {m : Nat} : Sm m ([] : List Nd) := fun k => ⟨Nat.zero_le _, Nat.zero_le _⟩
end Gx

namespace Go.Proofs
open Go Go.RowKit Gx
set_option linter.unusedVariables false
set_option linter.unusedSimpArgs false
attribute [local irreducible] Go.Calls Gx.S Gx.O Gx.D Gx.OpP Gx.OpQ Gx.OpH

theorem fn_13 : isFn Tryz.prog 13 = true := by kernel_rfl
theorem fn_30 : isFn Tryz.prog 30 = true := by kernel_rfl
theorem fn_31 : isFn Tryz.prog 31 = true := by kernel_rfl
theorem fn_21 : isFn Tryz.prog 21 = true := by kernel_rfl


end Go.Proofs

/- Chapter 12: which numbers are children already, as a row of truth values. Plain data. -/
namespace Gx
set_option linter.unusedSimpArgs false
set_option linter.unusedVariables false
set_option linter.unusedSectionVars false
open Go Go.RowKit
def seenV (n : Nat) (S : List Int) : List Value := (List.range n).map fun k => Value.bool (decide (((k : Nat) : Int) ∈ S))
theorem seen_len (n : Nat) (S : List Int) : (seenV n S).length = n := by simp [seenV]
theorem seen_get {n k : Nat} {S : List Int} (h : k < n) : (seenV n S)[k]? = some (.bool (decide (((k : Nat) : Int) ∈ S))) := by
  unfold seenV
  rw [List.getElem?_map, List.getElem?_range h]
  rfl
theorem seen_set {n k : Nat} {S : List Int} (h : k < n) : setMany (seenV n S) k [.bool true] = seenV n (((k : Nat) : Int) :: S) := by
  apply List.ext_getElem?
  intro i
  show ((seenV n S).set k (.bool true))[i]? = _
  rw [List.getElem?_set]
  by_cases hi : i < n
  · rw [seen_get hi]
    by_cases e : k = i
    · subst e
      rw [if_pos rfl, if_pos (by rw [seen_len]; exact h), seen_get h, decide_eq_true (List.mem_cons_self ..)]
    · rw [if_neg e, seen_get hi]
      congr 2
      have hne : ((i : Nat) : Int) ≠ ((k : Nat) : Int) := by omega
      simp [List.mem_cons, hne]
  · rw [if_neg (by omega), List.getElem?_eq_none (by rw [seen_len]; omega), List.getElem?_eq_none (by rw [seen_len]; omega)]
theorem seen_dup {n : Nat} {c : Int} {S : List Int} (h : c ∈ S) : seenV n (c :: S) = seenV n S := by
  unfold seenV
  apply List.map_congr_left
  intro k _
  congr 1
  by_cases e : ((k : Nat) : Int) ∈ S
  · rw [decide_eq_true e, decide_eq_true (List.mem_cons_of_mem _ e)]
  · rw [decide_eq_false e, decide_eq_false (fun h2 => by
      rcases List.mem_cons.1 h2 with h3 | h3
      · exact e (h3 ▸ h)
      · exact e h3)]
theorem nodE_un {t : Tre} {i : Nat} {S : List Int} (h : ¬ (nth t.ns i).us = true) : nodE t i S = if (0 < i ∧ i + 1 < t.ns.length) ∧ (nth t.ns i).es.length + (nth t.ns i).cs.length = 0 then (0, S) else (3, S) := by
  unfold nodE
  simp only []
  rw [if_neg h]
section
variable {t : Tre} {i : Nat} {S : List Int} {n : Nd}
theorem nodE_16 (hn : nth t.ns i = n) (hu : n.us = true) (h : ¬ (n.es.length : Int) ≤ mostN t.mo t.rm i) : nodE t i S = (16, S) := by
  subst hn
  unfold nodE
  simp only []
  rw [if_pos hu, if_neg h]
theorem nodE_10 (hn : nth t.ns i = n) (hu : n.us = true) (h : (n.es.length : Int) ≤ mostN t.mo t.rm i) (h2 : ¬ (n.cs.length = 0 ∨ n.cs.length = n.es.length + 1)) : nodE t i S = (10, S) := by
  subst hn
  unfold nodE
  simp only []
  rw [if_pos hu, if_pos h, if_neg h2]
theorem nodE_en (hn : nth t.ns i = n) (hu : n.us = true) (h : (n.es.length : Int) ≤ mostN t.mo t.rm i) (h2 : n.cs.length = 0 ∨ n.cs.length = n.es.length + 1) (h3 : ¬ entsE t.co n.es = 0) : nodE t i S = (entsE t.co n.es, S) := by
  subst hn
  unfold nodE
  simp only []
  rw [if_pos hu, if_pos h, if_pos h2, if_neg h3]
theorem nodE_ki (hn : nth t.ns i = n) (hu : n.us = true) (h : (n.es.length : Int) ≤ mostN t.mo t.rm i) (h2 : n.cs.length = 0 ∨ n.cs.length = n.es.length + 1) (h3 : entsE t.co n.es = 0) (h4 : ¬ (kidsE t.ns n.cs S).1 = 0) : nodE t i S = kidsE t.ns n.cs S := by
  subst hn
  unfold nodE
  simp only []
  rw [if_pos hu, if_pos h, if_pos h2, if_pos h3, if_neg h4]
theorem nodE_or (hn : nth t.ns i = n) (hu : n.us = true) (h : (n.es.length : Int) ≤ mostN t.mo t.rm i) (h2 : n.cs.length = 0 ∨ n.cs.length = n.es.length + 1) (h3 : entsE t.co n.es = 0) (h4 : (kidsE t.ns n.cs S).1 = 0) : nodE t i S = (ordsE t.co n.es, (kidsE t.ns n.cs S).2) := by
  subst hn
  unfold nodE
  simp only []
  rw [if_pos hu, if_pos h, if_pos h2, if_pos h3, if_pos h4]
end
theorem eachF_at {es : List Int} {k : Nat} (hk : k < es.length) (h : ∀ j, j < k → es.getD j 0 = 0) (h2 : es.getD k 0 ≠ 0) : eachF es 0 = ((k : Int), es.getD k 0) := by
  have key : ∀ i, i ≤ k → eachF es 0 = eachF (es.drop i) i := by
    intro i
    induction i with
    | zero => intro _; rfl
    | succ i ih =>
      intro hi
      rw [ih (by omega), eachF_drop (by omega), if_pos (h i (by omega))]
  rw [key k (Nat.le_refl _), eachF_drop hk, if_neg h2]
theorem eachF_all {es : List Int} (h : ∀ j, j < es.length → es.getD j 0 = 0) : eachF es 0 = (0, 0) := by
  have key : ∀ i, i ≤ es.length → eachF es 0 = eachF (es.drop i) i := by
    intro i
    induction i with
    | zero => intro _; rfl
    | succ i ih =>
      intro hi
      rw [ih (by omega), eachF_drop (by omega), if_pos (h i (by omega))]
  rw [key _ (Nat.le_refl _), List.drop_length]
  rfl
theorem ents_bad {co : Int} {es : List TEnt} {k : Nat} (hk : k < es.length) (h1 : ∀ q, q < k → entE co (nth es q) = 0) (h2 : ¬ entE co (nth es k) = 0) : entsE co es = entE co (nth es k) := by
  unfold entsE
  rw [eachF_at (es := es.map (entE co)) (k := k) (by rw [List.length_map]; exact hk) (fun q hq => by rw [ents_get (by omega)]; exact h1 q hq) (by rw [ents_get hk]; exact h2), ents_get hk]
theorem ents_all {co : Int} {es : List TEnt} (h1 : ∀ q, q < es.length → entE co (nth es q) = 0) : entsE co es = 0 := by
  unfold entsE
  rw [eachF_all (fun q hq => by rw [List.length_map] at hq; rw [ents_get hq]; exact h1 q hq)]
theorem ords_bad {co : Int} {es : List TEnt} {k : Nat} (hk : k < es.length) (h1 : ∀ q, q < k → ordE co es q = 0) (h2 : ¬ ordE co es k = 0) : ordsE co es = ordE co es k := by
  unfold ordsE
  rw [eachF_at (es := (List.range es.length).map (ordE co es)) (k := k) (by simpa using hk) (fun q hq => by rw [ords_get (by omega)]; exact h1 q hq) (by rw [ords_get hk]; exact h2), ords_get hk]
theorem ords_all {co : Int} {es : List TEnt} (h1 : ∀ q, q < es.length → ordE co es q = 0) : ordsE co es = 0 := by
  unfold ordsE
  rw [eachF_all (fun q hq => by rw [List.length_map, List.length_range] at hq; rw [ords_get hq]; exact h1 q hq)]
end Gx

namespace Go.Proofs
open Go Go.RowKit Gx
set_option linter.unusedVariables false
set_option linter.unusedSimpArgs false
attribute [local irreducible] Go.Calls Gx.S Gx.O Gx.D Gx.OpP Gx.OpQ Gx.OpH

theorem fn_19 : isFn Tryz.prog 19 = true := by kernel_rfl


set_option maxRecDepth 20000 in
set_option maxHeartbeats 400000 in
theorem c85 (w : World) (j : Nat) (mo rm : Int) (a : Option Addr) (cap : Nat) (L : List LNd) (i sb scap tot : Nat) (S : List Int) (hw : HS w (fps [.blk sb 4 tot (seenV L.length S)]) [.blk sb 4 tot (seenV L.length S)] w) (hs : Nt w (fps [.blk sb 4 tot (seenV L.length S)]) a L) (hj : j ≤ 3) (hi : i < L.length) (hl : L.length ≤ 1000) (hel : (nth L i).es.length ≤ 1000) (hcl : (nth L i).cs.length ≤ 1000) (hK : ∀ x ∈ (nth L i).es, x.key.length ≤ 1000000) : Calls Tryz.prog 85 #[.agg #[.int .i64 (j : Int), .int .i64 mo, .int .i64 rm, .slice a L.length cap], .int .i64 (i : Int), .slice (some ⟨sb, 0, none⟩) L.length scap] w fun en w' => ∃ g : Unit, en = .returned (.int .i64 (nodE (⟨(j : Int), mo, rm, pln L⟩ : Tre) i S).1) ∧ True ∧ HS w (fps [.blk sb 4 tot (seenV L.length S)]) [.blk sb 4 tot (seenV L.length (nodE (⟨(j : Int), mo, rm, pln L⟩ : Tre) i S).2)] w' := by
  have hNI := pln_nth hi
  have hnl : (pln L).length = L.length := pln_len L
  refine enter (args := [_, _, _]) Tryz.func85 Tryz.ntmps85 rfl rfl hw ?_
  refine s_seq ?_
  refine s_region ?_
  refine o_h (h_box rfl rfl) rfl (fun b1 _ => ?_)
  refine oP ?_
  refine o_nil ?_
  refine s_seq ?_
  refine s_region ?_
  refine o_p (p_fieldAddr rfl rfl fd_24_3 sz_22 rfl) rfl ?_
  refine o_q (q_load rfl rfl sz_22 aPk rfl) rfl ?_
  refine oP ?_
  refine o_p (p_indexAddr rfl rfl rfl sl_22 (i) (by omega) (by omega) (Rw.some hs.1 (by omega))) rfl ?_
  refine o_q (q_load_oldn _ rfl rfl sz_102 rfl (Rw.rd hs.1 hi)) rfl ?_
  refine o_h (h_alloc rfl zr_102) rfl (fun b2 _ => ?_)
  refine o_h0 (h_store rfl rfl rfl sz_102 rfl aPt (by simp only [setMany_length, List.length_set, List.length_cons, List.length_nil, List.length_map]; omega) rfl) (fun _ _ => ?_)
  refine o_nil ?_
  refine s_seq ?_
  refine s_seq ?_
  refine s_region ?_
  refine o_p (p_fieldAddr rfl rfl fd_102_0 sz_4 rfl) rfl ?_
  refine o_q (q_load rfl rfl sz_4 aPk rfl) rfl ?_
  refine oP ?_
  refine o_nil ?_
  refine s_cond rfl (fun h3 => ?_) (fun h3 => ?_)
  · try simp only [Bool.not_eq_true'] at h3
    have hu9 : ¬ (nth L i).us = true := by have hq := h3; simp [hq]
    have hun := nodE_un (t := (⟨(j : Int), mo, rm, pln L⟩ : Tre)) (S := S) (i := i) (by rw [show ((⟨(j : Int), mo, rm, pln L⟩ : Tre)).ns = pln L from rfl, hNI]; exact hu9)
    rw [show ((⟨(j : Int), mo, rm, pln L⟩ : Tre)).ns = pln L from rfl, hNI, hnl] at hun
    refine s_seq ?_
    refine s_seq ?_
    refine s_region ?_
    refine oP ?_
    refine oP ?_
    refine oP ?_
    refine o_or 7 24 31 _ _ rfl
      (by
        intro hg4
        have hs5 := hg4; try simp only [decide_eq_false_iff_not] at hs5
        refine o_on 24 _ rfl rfl hg4 ?_
        refine oP ?_
        refine o_on 24 _ rfl rfl hg4 ?_
        refine oP ?_
        try (refine o_slot (i64w (by omega) (by omega)) ?_)
        refine o_on 24 _ rfl rfl hg4 ?_
        refine o_p (p_fieldAddr rfl rfl fd_24_3 sz_22 rfl) rfl ?_
        refine o_on 24 _ rfl rfl hg4 ?_
        refine o_q (q_load rfl rfl sz_22 aPk rfl) rfl ?_
        refine o_on 24 _ rfl rfl hg4 ?_
        refine o_p (p_len_slice rfl rfl Tryz.underlying22) rfl ?_
        refine o_on 24 _ rfl rfl hg4 ?_
        refine oP ?_
        refine o_p (p_pickf rfl rfl hg4 rfl) rfl ?_
        refine o_nil ?_
        exact s_joinN 7 31 _ rfl rfl rfl (fun w h => by first | exact h | exact h.ent aEt))
      (by
        intro hg6
        have hs7 := hg6; try simp only [decide_eq_true_eq] at hs7
        refine o_off 24 _ rfl rfl hg6 rfl ?_
        refine o_off 24 _ rfl rfl hg6 rfl ?_
        refine o_off 24 _ rfl rfl hg6 rfl ?_
        refine o_off 24 _ rfl rfl hg6 rfl ?_
        refine o_off 24 _ rfl rfl hg6 rfl ?_
        refine o_off 24 _ rfl rfl hg6 rfl ?_
        refine o_p (p_pickt rfl rfl hg6 rfl) rfl ?_
        refine o_nil ?_
        exact s_joinN 7 31 _ rfl rfl rfl (fun w h => by first | exact h | exact h.ent aEt)) ?_
    refine oP ?_
    refine o_or 5 32 37 _ _ rfl
      (by
        intro hg8
        have hs9 := hg8; try simp only [Bool.or_eq_false_iff, decide_eq_false_iff_not] at hs9
        refine o_on 32 _ rfl rfl hg8 ?_
        refine o_p (p_fieldAddr rfl rfl fd_102_1 sz_77 rfl) rfl ?_
        refine o_on 32 _ rfl rfl hg8 ?_
        refine o_q (q_load rfl rfl sz_77 aPk rfl) rfl ?_
        refine o_on 32 _ rfl rfl hg8 ?_
        refine o_p (p_len_slice rfl rfl Tryz.underlying77) rfl ?_
        refine o_on 32 _ rfl rfl hg8 ?_
        refine oP ?_
        refine o_p (p_pickf rfl rfl hg8 rfl) rfl ?_
        refine o_nil ?_
        exact s_joinN 5 37 _ rfl rfl rfl (fun w h => by first | exact h | exact h.ent aEt))
      (by
        intro hg10
        have hs11 := hg10; try simp only [Bool.or_eq_true, decide_eq_true_eq] at hs11
        refine o_off 32 _ rfl rfl hg10 rfl ?_
        refine o_off 32 _ rfl rfl hg10 rfl ?_
        refine o_off 32 _ rfl rfl hg10 rfl ?_
        refine o_off 32 _ rfl rfl hg10 rfl ?_
        refine o_p (p_pickt rfl rfl hg10 rfl) rfl ?_
        refine o_nil ?_
        exact s_joinN 5 37 _ rfl rfl rfl (fun w h => by first | exact h | exact h.ent aEt)) ?_
    refine oP ?_
    refine o_or 5 38 43 _ _ rfl
      (by
        intro hg12
        have hs13 := hg12; try simp only [Bool.or_eq_false_iff, decide_eq_false_iff_not] at hs13
        refine o_on 38 _ rfl rfl hg12 ?_
        refine o_p (p_fieldAddr rfl rfl fd_102_2 sz_30 rfl) rfl ?_
        refine o_on 38 _ rfl rfl hg12 ?_
        refine o_q (q_load rfl rfl sz_30 aPk rfl) rfl ?_
        refine o_on 38 _ rfl rfl hg12 ?_
        refine o_p (p_len_slice rfl rfl Tryz.underlying30) rfl ?_
        refine o_on 38 _ rfl rfl hg12 ?_
        refine oP ?_
        refine o_p (p_pickf rfl rfl hg12 rfl) rfl ?_
        refine o_nil ?_
        exact s_joinN 5 43 _ rfl rfl rfl (fun w h => by first | exact h | exact h.ent aEt))
      (by
        intro hg14
        have hs15 := hg14; try simp only [Bool.or_eq_true, decide_eq_true_eq] at hs15
        refine o_off 38 _ rfl rfl hg14 rfl ?_
        refine o_off 38 _ rfl rfl hg14 rfl ?_
        refine o_off 38 _ rfl rfl hg14 rfl ?_
        refine o_off 38 _ rfl rfl hg14 rfl ?_
        refine o_p (p_pickt rfl rfl hg14 rfl) rfl ?_
        refine o_nil ?_
        exact s_joinN 5 43 _ rfl rfl rfl (fun w h => by first | exact h | exact h.ent aEt)) ?_
    refine o_nil ?_
    refine s_cond rfl (fun h16 => ?_) (fun h16 => ?_)
    · try simp only [Bool.or_eq_true, decide_eq_true_eq] at h16
      have hn9 : ¬ ((0 < i ∧ i + 1 < L.length) ∧ (nth L i).es.length + (nth L i).cs.length = 0) := by have hq := h16; omega
      have hun2 : (nodE (⟨(j : Int), mo, rm, pln L⟩ : Tre) i S) = (3, S) := by rw [hun]; exact if_neg hn9
      refine s_seq ?_
      refine s_region ?_
      refine oP ?_
      refine o_nil ?_
      exact s_retv (rs := [.tmp 6]) rfl (.tmp rfl (.nil)) (fun w' h' => ⟨(), by rw [hun2]; rfl, trivial, by rw [hun2]; exact h'.ent aEt⟩)
    · try simp only [Bool.or_eq_false_iff, decide_eq_false_iff_not] at h16
      have hn9 : (0 < i ∧ i + 1 < L.length) ∧ (nth L i).es.length + (nth L i).cs.length = 0 := by have hq := h16; omega
      have hun2 : (nodE (⟨(j : Int), mo, rm, pln L⟩ : Tre) i S) = (0, S) := by rw [hun]; exact if_pos hn9
      refine s_skip ?_
      refine s_seq ?_
      refine s_region ?_
      refine oP ?_
      refine o_nil ?_
      exact s_retv (rs := [.tmp 6]) rfl (.tmp rfl (.nil)) (fun w' h' => ⟨(), by rw [hun2]; rfl, trivial, by rw [hun2]; exact h'.ent aEt⟩)
  · try simp only [Bool.not_eq_false'] at h3
    have hu9 : (nth L i).us = true := by have hq := h3; simpa using hq
    refine s_skip ?_
    refine s_seq ?_
    refine s_region ?_
    refine o_p (p_fieldAddr rfl rfl fd_24_1 sz_3 rfl) rfl ?_
    refine o_q (q_load rfl rfl sz_3 aPk rfl) rfl ?_
    refine oP ?_
    refine o_nil ?_
    refine s_seq ?_
    refine s_seq ?_
    refine s_region ?_
    refine oP ?_
    refine oP ?_
    refine o_nil ?_
    refine s_weaken (L' := [(2, _), (3, _), (6, _), (7, _), (8, _), (47, _)]) aSx (fun _ h => h) ?_
    refine s_cutS (α := Unit) [8, 48, 49] (fun _ => [(8, .int .i64 (mostN mo rm i))]) (fun _ => True) ?_ ?_
    · skip
      refine s_cond rfl (fun h17 => ?_) (fun h17 => ?_)
      · try simp only [decide_eq_true_eq] at h17
        have hi0 : i = 0 := by have hq := h17; omega
        refine s_region ?_
        refine o_p (p_fieldAddr rfl rfl fd_24_2 sz_3 rfl) rfl ?_
        refine o_q (q_load rfl rfl sz_3 aPk rfl) rfl ?_
        refine oP ?_
        refine o_nil ?_
        exact s_joinI () trivial (by rw [show mostN mo rm i = rm from if_pos hi0]; exact aSx) (fun w h => h)
      · try simp only [decide_eq_false_iff_not] at h17
        have hi0 : ¬ i = 0 := by have hq := h17; omega
        refine s_skip ?_
        exact s_joinI () trivial (by rw [show mostN mo rm i = mo from if_neg hi0]; exact aSx) (fun w h => h)
    · intro _ _
      refine s_seq ?_
      refine s_seq ?_
      refine s_region ?_
      refine o_p (p_fieldAddr rfl rfl fd_102_1 sz_77 rfl) rfl ?_
      refine o_q (q_load rfl rfl sz_77 aPk rfl) rfl ?_
      refine o_p (p_len_slice rfl rfl Tryz.underlying77) rfl ?_
      refine oP ?_
      refine oP ?_
      refine o_nil ?_
      refine s_cond rfl (fun h18 => ?_) (fun h18 => ?_)
      · try simp only [decide_eq_true_eq] at h18
        have h16 : (nodE (⟨(j : Int), mo, rm, pln L⟩ : Tre) i S) = (16, S) := nodE_16 (t := (⟨(j : Int), mo, rm, pln L⟩ : Tre)) hNI hu9 (by show ¬ ((nth L i).es.length : Int) ≤ mostN mo rm i; have hq := h18; omega)
        refine s_seq ?_
        refine s_region ?_
        refine oP ?_
        refine o_nil ?_
        exact s_retv (rs := [.tmp 6]) rfl (.tmp rfl (.nil)) (fun w' h' => ⟨(), by rw [h16]; rfl, trivial, by rw [h16]; exact h'.ent aEt⟩)
      · try simp only [decide_eq_false_iff_not] at h18
        have hM9 : ((nth L i).es.length : Int) ≤ mostN mo rm i := by have hq := h18; omega
        refine s_skip ?_
        refine s_seq ?_
        refine s_seq ?_
        refine s_region ?_
        refine o_p (p_fieldAddr rfl rfl fd_102_2 sz_30 rfl) rfl ?_
        refine o_q (q_load rfl rfl sz_30 aPk rfl) rfl ?_
        refine o_p (p_len_slice rfl rfl Tryz.underlying30) rfl ?_
        refine oP ?_
        refine oP ?_
        refine o_and 9 59 68 _ _ rfl
          (by
            intro hg19
            have hs20 := hg19; try simp only [decide_eq_true_eq] at hs20
            refine o_on 59 _ rfl rfl hg19 ?_
            refine o_p (p_fieldAddr rfl rfl fd_102_2 sz_30 rfl) rfl ?_
            refine o_on 59 _ rfl rfl hg19 ?_
            refine o_q (q_load rfl rfl sz_30 aPk rfl) rfl ?_
            refine o_on 59 _ rfl rfl hg19 ?_
            refine o_p (p_len_slice rfl rfl Tryz.underlying30) rfl ?_
            refine o_on 59 _ rfl rfl hg19 ?_
            refine o_p (p_fieldAddr rfl rfl fd_102_1 sz_77 rfl) rfl ?_
            refine o_on 59 _ rfl rfl hg19 ?_
            refine o_q (q_load rfl rfl sz_77 aPk rfl) rfl ?_
            refine o_on 59 _ rfl rfl hg19 ?_
            refine o_p (p_len_slice rfl rfl Tryz.underlying77) rfl ?_
            refine o_on 59 _ rfl rfl hg19 ?_
            refine oP ?_
            try (refine o_slot (i64w (by omega) (by omega)) ?_)
            refine o_on 59 _ rfl rfl hg19 ?_
            refine oP ?_
            refine o_p (p_pickt rfl rfl hg19 rfl) rfl ?_
            refine o_nil ?_
            exact s_joinN 9 68 _ rfl rfl rfl (fun w h => by first | exact h | exact h.ent aEt))
          (by
            intro hg21
            have hs22 := hg21; try simp only [decide_eq_false_iff_not] at hs22
            refine o_off 59 _ rfl rfl hg21 rfl ?_
            refine o_off 59 _ rfl rfl hg21 rfl ?_
            refine o_off 59 _ rfl rfl hg21 rfl ?_
            refine o_off 59 _ rfl rfl hg21 rfl ?_
            refine o_off 59 _ rfl rfl hg21 rfl ?_
            refine o_off 59 _ rfl rfl hg21 rfl ?_
            refine o_off 59 _ rfl rfl hg21 rfl ?_
            refine o_off 59 _ rfl rfl hg21 rfl ?_
            refine o_p (p_pickf rfl rfl hg21 rfl) rfl ?_
            refine o_nil ?_
            exact s_joinN 9 68 _ rfl rfl rfl (fun w h => by first | exact h | exact h.ent aEt)) ?_
        refine o_nil ?_
        refine s_cond rfl (fun h23 => ?_) (fun h23 => ?_)
        · try simp only [Bool.and_eq_true, decide_eq_true_eq, Bool.not_eq_true', decide_eq_false_iff_not] at h23
          have h10 : (nodE (⟨(j : Int), mo, rm, pln L⟩ : Tre) i S) = (10, S) := nodE_10 (t := (⟨(j : Int), mo, rm, pln L⟩ : Tre)) hNI hu9 hM9 (by show ¬ ((nth L i).cs.length = 0 ∨ (nth L i).cs.length = (nth L i).es.length + 1); have hq := h23; omega)
          refine s_seq ?_
          refine s_region ?_
          refine oP ?_
          refine o_nil ?_
          exact s_retv (rs := [.tmp 6]) rfl (.tmp rfl (.nil)) (fun w' h' => ⟨(), by rw [h10]; rfl, trivial, by rw [h10]; exact h'.ent aEt⟩)
        · try simp only [Bool.and_eq_false_iff, decide_eq_false_iff_not, Bool.not_eq_false', decide_eq_true_eq] at h23
          have hS9 : (nth L i).cs.length = 0 ∨ (nth L i).cs.length = (nth L i).es.length + 1 := by have hq := h23; omega
          refine s_skip ?_
          refine s_seq ?_
          refine s_seq ?_
          refine s_region ?_
          refine oP ?_
          refine o_nil ?_
          refine s_block ?_
          refine s_weaken (L' := [(2, _), (3, _), (6, _), (7, _), (9, _)]) aSx (fun _ h => h) ?_
          refine s_loopI (α := Nat) [6, 9, 10, 69, 70, 71, 72, 73, 74, 75, 76, 77, 78, 79, 80, 81, 82, 83, 84, 85, 86] (fun k => [(9, .int .i64 (k : Int))]) (fun _ => HS w (fps [.blk sb 4 tot (seenV L.length S)]) [.blk sb 4 tot (seenV L.length S), .blk b1 24 4 [.int .i64 (j : Int), .int .i64 mo, .int .i64 rm, .slice a L.length cap], .blk b2 102 3 (LNd.vals (nth L i))]) (fun k => k ≤ (nth L i).es.length ∧ ∀ q, q < k → entE (j : Int) (nth (nth L i).es q) = 0) (fun k => (nth L i).es.length - k) 0 ⟨Nat.zero_le _, fun j h => absurd h (Nat.not_lt_zero j)⟩ aSx (fun w h => h.ent aEt) (fun k hx => ?_)
          obtain ⟨hk1, hk3⟩ := hx
          refine s_seq ?_
          refine s_seq ?_
          refine s_region ?_
          refine oP ?_
          refine o_p (p_fieldAddr rfl rfl fd_102_1 sz_77 rfl) rfl ?_
          refine o_q (q_load rfl rfl sz_77 aPk rfl) rfl ?_
          refine o_p (p_len_slice rfl rfl Tryz.underlying77) rfl ?_
          refine oP ?_
          refine o_nil ?_
          refine s_cond rfl (fun h24 => ?_) (fun h24 => ?_)
          · try simp only [decide_eq_true_eq] at h24
            have hk5 : k < (nth L i).es.length := by omega
            refine s_skip ?_
            refine s_seq ?_
            refine s_block ?_
            refine s_seq ?_
            refine s_draw [] mixed ?_
            refine d_p 0 rfl (p_fieldAddr rfl rfl fd_24_0 sz_3 rfl) (by kernel_rfl) rfl rfl ?_
            refine d_q 1 [] rfl (q_load rfl rfl sz_3 aPk rfl) (by kernel_rfl) (by kernel_rfl) (by kernel_rfl) rfl ?_
            refine d_p 2 rfl (p_fieldAddr rfl rfl fd_102_1 sz_77 rfl) (by kernel_rfl) rfl rfl ?_
            refine d_q 3 [] rfl (q_load rfl rfl sz_77 aPk rfl) (by kernel_rfl) (by kernel_rfl) (by kernel_rfl) rfl ?_
            refine dP 4 ?_
            refine d_p 5 rfl (p_indexAddr rfl rfl rfl sl_77 (k) (by omega) (by omega) (Rw.some (hs.es hi) (by omega))) (by kernel_rfl) rfl rfl ?_
            refine d_q 6 [] rfl (q_load_oldn _ rfl rfl sz_26 rfl (Rw.rd (hs.es hi) hk5)) (by kernel_rfl) (by kernel_rfl) (by kernel_rfl) rfl ?_
            refine d_q 7 [] rfl (q_call rfl fn_19 rfl (fun w1 h1 => c19 w1 j (nth (nth L i).es k) hj (hK _ (mem_nth hk5)))) (by kernel_rfl) (by kernel_rfl) (by kernel_rfl) rfl ?_
            refine dP 8 ?_
            refine d_nil (by kernel_rfl) (fun w h => by first | exact h | exact h.ent aEt) ?_
            refine s_seq ?_
            refine s_region ?_
            refine oP ?_
            refine oP ?_
            refine o_nil ?_
            refine s_cond rfl (fun h25 => ?_) (fun h25 => ?_)
            · try simp only [Bool.not_eq_true', decide_eq_false_iff_not] at h25
              have hz6 : ¬ entE (j : Int) (nth (nth L i).es k) = 0 := h25
              have hEb := ents_bad hk5 hk3 hz6
              have hEe : (nodE (⟨(j : Int), mo, rm, pln L⟩ : Tre) i S) = (entE (j : Int) (nth (nth L i).es k), S) := by rw [← hEb]; exact nodE_en (t := (⟨(j : Int), mo, rm, pln L⟩ : Tre)) hNI hu9 hM9 hS9 (by show ¬ entsE (j : Int) (nth L i).es = 0; rw [hEb]; exact hz6)
              refine s_seq ?_
              refine s_region ?_
              refine oP ?_
              refine oP ?_
              refine o_nil ?_
              exact s_retv (rs := [.tmp 6]) rfl (.tmp rfl (.nil)) (fun w' h' => ⟨(), by rw [hEe]; rfl, trivial, by rw [hEe]; exact h'.ent aEt⟩)
            · try simp only [Bool.not_eq_false', decide_eq_true_eq] at h25
              have hz6 : entE (j : Int) (nth (nth L i).es k) = 0 := by have hq := h25; omega
              refine s_skip ?_
              refine s_blk ?_
              refine s_region ?_
              refine oP ?_
              refine oP ?_
              try (refine o_slot (i64w (by omega) (by omega)) ?_)
              refine oP ?_
              refine o_nil ?_
              exact s_backI (k + 1) (by omega) ⟨by omega, fun q hq => (Nat.lt_or_ge q k).elim (hk3 q) (fun h9 => by obtain rfl : q = k := (by omega); exact hz6)⟩ aSx (fun w h => h.ent aEt)
          · try simp only [decide_eq_false_iff_not] at h24
            have hEn : ∀ q, q < (nth L i).es.length → entE (j : Int) (nth (nth L i).es q) = 0 := fun q hq => hk3 q (by omega)
            have hE0 : entsE (j : Int) (nth L i).es = 0 := ents_all hEn
            refine s_exit_to rfl ?_
            refine s_seq ?_
            refine s_seq ?_
            refine s_region ?_
            refine oP ?_
            refine o_nil ?_
            refine s_block ?_
            refine s_loopI (α := Nat × List Int) [6, 11, 12, 87, 88, 89, 90, 91, 92, 93, 94, 95, 96, 97, 98, 99, 100, 101, 102, 103, 104, 105, 106, 107, 108, 109, 110, 111, 112, 113, 114, 115, 116, 117, 118, 119, 120, 121] (fun y => [(11, .int .i64 (y.1 : Int))]) (fun y => HS w (fps [.blk sb 4 tot (seenV L.length S)]) [.blk sb 4 tot (seenV L.length y.2), .blk b1 24 4 [.int .i64 (j : Int), .int .i64 mo, .int .i64 rm, .slice a L.length cap], .blk b2 102 3 (LNd.vals (nth L i))]) (fun y => y.1 ≤ (nth L i).cs.length ∧ (kidsE (pln L) (nth L i).cs S) = kidsE (pln L) ((nth L i).cs.drop y.1) y.2) (fun y => (nth L i).cs.length - y.1) (0, S) ⟨Nat.zero_le _, rfl⟩ aSx (fun w h => h.ent aEt) (fun ⟨k, Sk⟩ hx => ?_)
            dsimp only
            obtain ⟨hk1, hk3⟩ := hx
            simp only [] at hk1 hk3
            refine s_seq ?_
            refine s_seq ?_
            refine s_region ?_
            refine oP ?_
            refine o_p (p_fieldAddr rfl rfl fd_102_2 sz_30 rfl) rfl ?_
            refine o_q (q_load rfl rfl sz_30 aPk rfl) rfl ?_
            refine o_p (p_len_slice rfl rfl Tryz.underlying30) rfl ?_
            refine oP ?_
            refine o_nil ?_
            refine s_cond rfl (fun h26 => ?_) (fun h26 => ?_)
            · try simp only [decide_eq_true_eq] at h26
              have hk5 : k < (nth L i).cs.length := by omega
              have hkd9 : nth (nth L i).cs k = ((nth L i).cs.getD k 0) := rfl
              have hst := kids_drop hk5
              rw [hst, kidsE_cons] at hk3
              refine s_skip ?_
              refine s_seq ?_
              refine s_block ?_
              refine s_seq ?_
              refine s_region ?_
              refine o_p (p_fieldAddr rfl rfl fd_102_2 sz_30 rfl) rfl ?_
              refine o_q (q_load rfl rfl sz_30 aPk rfl) rfl ?_
              refine oP ?_
              refine o_p (p_indexAddr rfl rfl rfl sl_30 (k) (by omega) (by omega) (Rw.some (hs.cs hi) (by omega))) rfl ?_
              refine o_q (q_load_old rfl rfl sz_3 (((hs.cs hi).rdj 0 hk5 rfl))) rfl ?_
              refine o_slot (show _ = Value.int .i64 ((nth L i).cs.getD k 0) from rfl) ?_
              refine oP ?_
              refine o_nil ?_
              refine s_seq ?_
              refine s_seq ?_
              refine s_region ?_
              refine oP ?_
              refine o_p (p_fieldAddr rfl rfl fd_24_3 sz_22 rfl) rfl ?_
              refine o_q (q_load rfl rfl sz_22 aPk rfl) rfl ?_
              refine o_p (p_len_slice rfl rfl Tryz.underlying22) rfl ?_
              refine oP ?_
              try (refine o_slot (i64w (by omega) (by omega)) ?_)
              refine o_q (q_call rfl fn_46 rfl (fun w1 h1 => c46 w1 _ _ _)) rfl ?_
              refine oP ?_
              refine oP ?_
              refine o_or 8 106 114 _ _ rfl
                (by
                  intro hg27
                  have hs28 := hg27; try simp only [Bool.not_eq_false', Bool.and_eq_true, decide_eq_true_eq] at hs28
                  refine o_on 106 _ rfl rfl hg27 ?_
                  refine o_p (p_fieldAddr rfl rfl fd_24_3 sz_22 rfl) rfl ?_
                  refine o_on 106 _ rfl rfl hg27 ?_
                  refine o_q (q_load rfl rfl sz_22 aPk rfl) rfl ?_
                  refine o_on 106 _ rfl rfl hg27 ?_
                  refine oP ?_
                  refine o_on 106 _ rfl rfl hg27 ?_
                  refine o_p (p_indexAddr rfl rfl rfl sl_22 (((nth L i).cs.getD k 0).toNat) (by omega) (by omega) (Rw.some hs.1 (by omega))) rfl ?_
                  refine o_on 106 _ rfl rfl hg27 ?_
                  refine o_p (p_fieldAddr rfl rfl fd_102_0 sz_4 rfl) rfl ?_
                  refine o_on 106 _ rfl rfl hg27 ?_
                  refine o_q (q_load_old rfl rfl sz_4 ((hs.1.rdj 0 (i := ((nth L i).cs.getD k 0).toNat) (by omega) rfl))) rfl ?_
                  refine o_on 106 _ rfl rfl hg27 ?_
                  refine oP ?_
                  refine o_p (p_pickf rfl rfl hg27 rfl) rfl ?_
                  refine o_nil ?_
                  exact s_joinN 8 114 _ rfl rfl rfl (fun w h => by first | exact h | exact h.ent aEt))
                (by
                  intro hg29
                  have hs30 := hg29; try simp only [Bool.not_eq_true', Bool.and_eq_false_iff, decide_eq_false_iff_not] at hs30
                  refine o_off 106 _ rfl rfl hg29 rfl ?_
                  refine o_off 106 _ rfl rfl hg29 rfl ?_
                  refine o_off 106 _ rfl rfl hg29 rfl ?_
                  refine o_off 106 _ rfl rfl hg29 rfl ?_
                  refine o_off 106 _ rfl rfl hg29 rfl ?_
                  refine o_off 106 _ rfl rfl hg29 rfl ?_
                  refine o_off 106 _ rfl rfl hg29 rfl ?_
                  refine o_p (p_pickt rfl rfl hg29 rfl) rfl ?_
                  refine o_nil ?_
                  exact s_joinN 8 114 _ rfl rfl rfl (fun w h => by first | exact h | exact h.ent aEt)) ?_
              refine o_nil ?_
              refine s_cond rfl (fun h31 => ?_) (fun h31 => ?_)
              · try simp only [Bool.or_eq_true, Bool.not_eq_true', Bool.and_eq_false_iff, decide_eq_false_iff_not] at h31
                have hko : ¬ KidOk (pln L) ((nth L i).cs.getD k 0) := by rintro ⟨h91, h92⟩; rw [hnl] at h91; rw [pln_nth (by omega)] at h92; have hq := h31; exact hq.elim (fun hq => by omega) (fun hq => by rw [show (nth L ((nth L i).cs.getD k 0).toNat).pl.us = (nth L ((nth L i).cs.getD k 0).toNat).us from rfl, hq] at h92; cases h92)
                have hk6e : (nodE (⟨(j : Int), mo, rm, pln L⟩ : Tre) i S) = (6, Sk) := by have h8 : kidE1 (pln L) ((nth L i).cs.getD k 0) Sk = 6 := if_neg hko; have h7 : kidS1 (pln L) ((nth L i).cs.getD k 0) Sk = Sk := if_neg hko; rw [h8, h7, if_neg (by decide)] at hk3; rw [← hk3]; exact nodE_ki (t := (⟨(j : Int), mo, rm, pln L⟩ : Tre)) hNI hu9 hM9 hS9 hE0 (by show ¬ (kidsE (pln L) (nth L i).cs S).1 = 0; rw [hk3]; show ¬ (6 : Int) = 0; decide)
                refine s_seq ?_
                refine s_weaken (L' := [(2, _), (3, _), (7, _), (9, _), (11, _), (12, _), (69, _), (70, _), (71, _), (72, _), (73, _)]) aSx (fun _ h => h) ?_
                refine s_region ?_
                refine oP ?_
                refine o_nil ?_
                exact s_retv (rs := [.tmp 6]) rfl (.tmp rfl (.nil)) (fun w' h' => ⟨(), by rw [hk6e]; rfl, trivial, by rw [hk6e]; exact h'.ent aEt⟩)
              · try simp only [Bool.or_eq_false_iff, Bool.not_eq_false', Bool.and_eq_true, decide_eq_true_eq] at h31
                have hko : KidOk (pln L) ((nth L i).cs.getD k 0) := by have hq := h31; refine ⟨by rw [hnl]; exact hq.1, ?_⟩; rw [pln_nth (by omega)]; exact hq.2
                have hko1 := hko.1
                rw [hnl] at hko1
                have hcv2 : ((nth L i).cs.getD k 0).toNat < L.length := by omega
                have hcc : ((((nth L i).cs.getD k 0).toNat : Nat) : Int) = ((nth L i).cs.getD k 0) := Int.toNat_of_nonneg (by omega)
                have h7 : kidS1 (pln L) ((nth L i).cs.getD k 0) Sk = ((nth L i).cs.getD k 0) :: Sk := if_pos hko
                rw [h7] at hk3
                have hsv := seen_set (n := L.length) (S := Sk) hcv2
                rw [hcc] at hsv
                refine s_skip ?_
                refine s_seq ?_
                refine s_seq ?_
                refine s_weaken (L' := [(2, _), (3, _), (7, _), (9, _), (11, _), (12, _), (69, _), (70, _), (71, _), (72, _), (73, _)]) aSx (fun _ h => h) ?_
                refine s_region ?_
                refine oP ?_
                refine oP ?_
                refine o_p (p_indexAddr rfl rfl rfl sl_140 (((nth L i).cs.getD k 0).toNat) (by omega) (by omega) rfl) rfl ?_
                refine o_slot (show _ = Value.pointer (some ⟨sb, ((nth L i).cs.getD k 0).toNat, none⟩) from by rw [Nat.zero_add, Nat.mul_one]) ?_
                refine o_q (q_load_at rfl rfl sz_4 (fun w h => h.rd_blk (Mc := []) aPk (seen_get hcv2) (by simp))) rfl ?_
                refine o_nil ?_
                refine s_cond rfl (fun h32 => ?_) (fun h32 => ?_)
                · try simp only [decide_eq_true_eq] at h32
                  have hmem : ((nth L i).cs.getD k 0) ∈ Sk := by have hq := h32; rw [hcc] at hq; exact hq
                  have h8 : kidE1 (pln L) ((nth L i).cs.getD k 0) Sk = 23 := by rw [kidE1, if_pos hko, if_pos hmem]
                  rw [h8, if_neg (by decide)] at hk3
                  have hk23 : (nodE (⟨(j : Int), mo, rm, pln L⟩ : Tre) i S) = (23, ((nth L i).cs.getD k 0) :: Sk) := by rw [← hk3]; exact nodE_ki (t := (⟨(j : Int), mo, rm, pln L⟩ : Tre)) hNI hu9 hM9 hS9 hE0 (by show ¬ (kidsE (pln L) (nth L i).cs S).1 = 0; rw [hk3]; show ¬ (23 : Int) = 0; decide)
                  refine s_seq ?_
                  refine s_region ?_
                  refine oP ?_
                  refine o_nil ?_
                  exact s_retv (rs := [.tmp 6]) rfl (.tmp rfl (.nil)) (fun w' h' => ⟨(), by rw [hk23]; rfl, trivial, by rw [hk23, seen_dup hmem]; exact h'.ent aEt⟩)
                · try simp only [decide_eq_false_iff_not] at h32
                  have hmem : ¬ ((nth L i).cs.getD k 0) ∈ Sk := by have hq := h32; rw [hcc] at hq; exact hq
                  have h8 : kidE1 (pln L) ((nth L i).cs.getD k 0) Sk = 0 := by rw [kidE1, if_pos hko, if_neg hmem]
                  rw [h8, if_pos rfl] at hk3
                  have hk9 := hk3
                  refine s_skip ?_
                  refine s_region ?_
                  refine oP ?_
                  refine oP ?_
                  refine o_p (p_indexAddr rfl rfl rfl sl_140 (((nth L i).cs.getD k 0).toNat) (by omega) (by omega) rfl) rfl ?_
                  refine o_slot (show _ = Value.pointer (some ⟨sb, ((nth L i).cs.getD k 0).toNat, none⟩) from by rw [Nat.zero_add, Nat.mul_one]) ?_
                  refine o_h0 (h_store rfl rfl rfl sz_4 rfl aPt (by rw [seen_len]; show _ + 1 ≤ _; omega) rfl) (fun _ _ => ?_)
                  refine o_nil ?_
                  refine s_blk ?_
                  refine s_region ?_
                  refine oP ?_
                  refine oP ?_
                  try (refine o_slot (i64w (by omega) (by omega)) ?_)
                  refine oP ?_
                  refine o_nil ?_
                  exact s_backI (k + 1, ((nth L i).cs.getD k 0) :: Sk) (by (try simp only []); omega) ⟨by (try simp only []); omega, hk9⟩ aSx (fun w h => by have h2 := h; rw [show setMany (seenV L.length Sk) ((nth L i).cs.getD k 0).toNat (Value.cells (.bool true)).toList = seenV L.length (((nth L i).cs.getD k 0) :: Sk) from hsv] at h2; exact h2.ent aEt)
            · try simp only [decide_eq_false_iff_not] at h26
              have hdr9 : (nth L i).cs.drop k = [] := List.drop_of_length_le (by omega)
              rw [hdr9] at hk3
              have hK0 : (kidsE (pln L) (nth L i).cs S).1 = 0 := by rw [hk3]; rfl
              have hK2 : (kidsE (pln L) (nth L i).cs S).2 = Sk := by rw [hk3]; rfl
              have hOr : (nodE (⟨(j : Int), mo, rm, pln L⟩ : Tre) i S) = (ordsE (j : Int) (nth L i).es, (kidsE (pln L) (nth L i).cs S).2) := by have h9 := nodE_or (t := (⟨(j : Int), mo, rm, pln L⟩ : Tre)) (i := i) (S := S) (n := (nth L i).pl) hNI hu9 hM9 hS9 hE0 hK0; exact h9
              refine s_exit_to rfl ?_
              refine s_seq ?_
              refine s_seq ?_
              refine s_region ?_
              refine oP ?_
              refine o_nil ?_
              refine s_block ?_
              refine s_loopI (α := Nat) [6, 13, 122, 123, 124, 125, 126, 127, 128, 129, 130, 131, 132, 133, 134, 135, 136, 137, 138, 139, 140, 141, 142, 143, 144, 145] (fun k => [(13, .int .i64 (k : Int))]) (fun _ => HS w (fps [.blk sb 4 tot (seenV L.length S)]) [.blk sb 4 tot (seenV L.length (kidsE (pln L) (nth L i).cs S).2), .blk b1 24 4 [.int .i64 (j : Int), .int .i64 mo, .int .i64 rm, .slice a L.length cap], .blk b2 102 3 (LNd.vals (nth L i))]) (fun k => 1 ≤ k ∧ ∀ q, q < k → ordE (j : Int) (nth L i).es q = 0) (fun k => (nth L i).es.length - k) 1 ⟨Nat.le_refl _, fun q h => if_pos (.inl (by omega))⟩ aSx (fun w h => by rw [hK2]; exact h.ent aEt) (fun k hx => ?_)
              obtain ⟨hk1, hk3b⟩ := hx
              refine s_seq ?_
              refine s_seq ?_
              refine s_region ?_
              refine oP ?_
              refine o_p (p_fieldAddr rfl rfl fd_102_1 sz_77 rfl) rfl ?_
              refine o_q (q_load rfl rfl sz_77 aPk rfl) rfl ?_
              refine o_p (p_len_slice rfl rfl Tryz.underlying77) rfl ?_
              refine oP ?_
              refine o_nil ?_
              refine s_cond rfl (fun h33 => ?_) (fun h33 => ?_)
              · try simp only [decide_eq_true_eq] at h33
                have hk5 : k < (nth L i).es.length := by omega
                have hk6 : k - 1 < (nth L i).es.length := by omega
                refine s_skip ?_
                refine s_seq ?_
                refine s_block ?_
                refine s_seq ?_
                refine s_draw [] mixed ?_
                refine d_p 0 rfl (p_fieldAddr rfl rfl fd_24_0 sz_3 rfl) (by kernel_rfl) rfl rfl ?_
                refine d_q 1 [] rfl (q_load rfl rfl sz_3 aPk rfl) (by kernel_rfl) (by kernel_rfl) (by kernel_rfl) rfl ?_
                refine d_p 2 rfl (p_fieldAddr rfl rfl fd_102_1 sz_77 rfl) (by kernel_rfl) rfl rfl ?_
                refine d_q 3 [] rfl (q_load rfl rfl sz_77 aPk rfl) (by kernel_rfl) (by kernel_rfl) (by kernel_rfl) rfl ?_
                refine dP 4 ?_
                refine dP 5 ?_
                try (refine d_slot (i64w (by omega) (by omega)) ?_)
                refine d_p 6 rfl (p_indexAddr rfl rfl rfl sl_77 (k - 1) (by omega) (by omega) (Rw.some (hs.es hi) (by omega))) (by kernel_rfl) rfl rfl ?_
                refine d_p 7 rfl (p_fieldAddr rfl rfl fd_26_0 sz_9 rfl) (by kernel_rfl) rfl rfl ?_
                refine d_q 8 [] rfl (q_load_old rfl rfl sz_9 (((hs.es hi).rdj 0 hk6 rfl))) (by kernel_rfl) (by kernel_rfl) (by kernel_rfl) rfl ?_
                refine d_p 9 rfl (p_fieldAddr rfl rfl fd_102_1 sz_77 rfl) (by kernel_rfl) rfl rfl ?_
                refine d_q 10 [] rfl (q_load rfl rfl sz_77 aPk rfl) (by kernel_rfl) (by kernel_rfl) (by kernel_rfl) rfl ?_
                refine dP 11 ?_
                refine d_p 12 rfl (p_indexAddr rfl rfl rfl sl_77 (k) (by omega) (by omega) (Rw.some (hs.es hi) (by omega))) (by kernel_rfl) rfl rfl ?_
                refine d_p 13 rfl (p_fieldAddr rfl rfl fd_26_0 sz_9 rfl) (by kernel_rfl) rfl rfl ?_
                refine d_q 14 [] rfl (q_load_old rfl rfl sz_9 (((hs.es hi).rdj 0 hk5 rfl))) (by kernel_rfl) (by kernel_rfl) (by kernel_rfl) rfl ?_
                refine d_q 15 [] rfl (q_call rfl fn_33 rfl (fun w1 h1 => c33 w1 j (nth (nth L i).es (k - 1)).key (nth (nth L i).es k).key hj (entE_key (hEn _ hk6)) (entE_key (hEn _ hk5)) (hK _ (mem_nth hk6)) (hK _ (mem_nth hk5)))) (by kernel_rfl) (by kernel_rfl) (by kernel_rfl) rfl ?_
                refine dP 16 ?_
                refine d_nil (by kernel_rfl) (fun w h => by first | exact h | exact h.ent aEt) ?_
                refine s_cond rfl (fun h34 => ?_) (fun h34 => ?_)
                · try simp only [decide_eq_true_eq] at h34
                  have hz11 : ¬ ordE (j : Int) (nth L i).es k = 0 := by unfold ordE; rw [if_neg (by have hq := h34; omega)]; decide
                  have hOb := ords_bad hk5 hk3b hz11
                  have hOv : ordE (j : Int) (nth L i).es k = 9 := if_neg (by have hq := h34; omega)
                  refine s_seq ?_
                  refine s_weaken (L' := [(2, _), (3, _), (7, _), (9, _), (11, _), (13, _), (69, _), (70, _), (71, _), (72, _), (73, _), (87, _), (88, _), (89, _), (90, _), (91, _)]) aSx (fun _ h => h) ?_
                  refine s_region ?_
                  refine oP ?_
                  refine o_nil ?_
                  exact s_retv (rs := [.tmp 6]) rfl (.tmp rfl (.nil)) (fun w' h' => ⟨(), by rw [hOr, hOb, hOv]; rfl, trivial, by rw [hOr]; exact h'.ent aEt⟩)
                · try simp only [decide_eq_false_iff_not] at h34
                  have hz11 : ordE (j : Int) (nth L i).es k = 0 := if_pos (.inr (by have hq := h34; omega))
                  refine s_skip ?_
                  refine s_blk ?_
                  refine s_weaken (L' := [(2, _), (3, _), (7, _), (9, _), (11, _), (13, _), (69, _), (70, _), (71, _), (72, _), (73, _), (87, _), (88, _), (89, _), (90, _), (91, _)]) aSx (fun _ h => h) ?_
                  refine s_region ?_
                  refine oP ?_
                  refine oP ?_
                  try (refine o_slot (i64w (by omega) (by omega)) ?_)
                  refine oP ?_
                  refine o_nil ?_
                  exact s_backI (k + 1) (by omega) ⟨by omega, fun q hq => (Nat.lt_or_ge q k).elim (hk3b q) (fun h9 => by obtain rfl : q = k := (by omega); exact hz11)⟩ aSx (fun w h => h.ent aEt)
              · try simp only [decide_eq_false_iff_not] at h33
                have hO0 : ordsE (j : Int) (nth L i).es = 0 := ords_all (fun q hq => hk3b q (by omega))
                refine s_exit_to rfl ?_
                refine s_seq ?_
                refine s_region ?_
                refine oP ?_
                refine o_nil ?_
                exact s_retv (rs := [.tmp 6]) rfl (.tmp rfl (.nil)) (fun w' h' => ⟨(), by rw [hOr, hO0]; rfl, trivial, by rw [hOr]; exact h'.ent aEt⟩)

end Go.Proofs

/- Chapter 12: nodes marked. Plain data. -/
namespace Gx
set_option linter.unusedSimpArgs false
set_option linter.unusedVariables false
set_option linter.unusedSectionVars false
open Go Go.RowKit
def mkS (vs : List Vis) (S : List Int) : List Int := (vs.map fun v => ((v.i : Nat) : Int)).reverse ++ S
theorem mkS_app (A B : List Vis) (S : List Int) : mkS (A ++ B) S = mkS B (mkS A S) := by simp [mkS]
theorem mkS_mem {vs : List Vis} {c : Int} : c ∈ mkS vs [] ↔ ∃ v ∈ vs, ((v.i : Nat) : Int) = c := by simp [mkS]
end Gx

namespace Go.Proofs
open Go Go.RowKit Gx
set_option linter.unusedVariables false
set_option linter.unusedSimpArgs false
attribute [local irreducible] Go.Calls Gx.S Gx.O Gx.D Gx.OpP Gx.OpQ Gx.OpH

theorem fn_86 : isFn Tryz.prog 86 = true := by kernel_rfl


def MkC (j : Nat) (mo rm : Int) (a : Option Addr) (cap : Nat) (L : List LNd) (sb scap tot : Nat) (f : Nat) : Prop := ∀ (w : World) (S : List Int) (v : Vis) (P : List Nat), (HS w (fps [.blk sb 4 tot (seenV L.length S)]) [.blk sb 4 tot (seenV L.length S)] w) → (Nt w (fps [.blk sb 4 tot (seenV L.length S)]) a L) → (TOk (j : Int) (pln L)) → (Bd (pln L)) → (0 < L.length) → (Gx.Way (pln L) (v.i :: P)) → P.length + f = L.length → Calls Tryz.prog 86 #[.agg #[.int .i64 (j : Int), .int .i64 mo, .int .i64 rm, .slice a L.length cap], .int .i64 (v.i : Int), .slice (some ⟨sb, 0, none⟩) L.length scap] w fun en w' => ∃ g : Unit, en = .returned (.tuple #[]) ∧ True ∧ HS w (fps [.blk sb 4 tot (seenV L.length S)]) [.blk sb 4 tot (seenV L.length (mkS (vis (pln L) f v) S))] w'

set_option maxRecDepth 20000 in
theorem c86s (w : World) (j : Nat) (mo rm : Int) (a : Option Addr) (cap : Nat) (L : List LNd) (sb scap tot : Nat) (S : List Int) (v : Vis) (P : List Nat) (f : Nat) (hw : HS w (fps [.blk sb 4 tot (seenV L.length S)]) [.blk sb 4 tot (seenV L.length S)] w) (hs : Nt w (fps [.blk sb 4 tot (seenV L.length S)]) a L) (hT : TOk (j : Int) (pln L)) (hB : Bd (pln L)) (h0 : 0 < L.length) (hway : Gx.Way (pln L) (v.i :: P)) (hf : P.length + (f + 1) = L.length) (ih : MkC j mo rm a cap L sb scap tot f) : Calls Tryz.prog 86 #[.agg #[.int .i64 (j : Int), .int .i64 mo, .int .i64 rm, .slice a L.length cap], .int .i64 (v.i : Int), .slice (some ⟨sb, 0, none⟩) L.length scap] w fun en w' => ∃ g : Unit, en = .returned (.tuple #[]) ∧ True ∧ HS w (fps [.blk sb 4 tot (seenV L.length S)]) [.blk sb 4 tot (seenV L.length (mkS (vis (pln L) (f + 1) v) S))] w' := by
  have hi0 := way_lt hT (by rw [pln_len]; exact h0) hway v.i (List.mem_cons_self ..)
  have hi : v.i < L.length := by rw [pln_len] at hi0; exact hi0
  have hn := pln_nth hi
  have hle := hB.len
  rw [pln_len] at hle
  have hcl := hB.cs v.i hi0
  rw [hn] at hcl
  simp only [LNd.pl] at hcl
  refine enter (args := [_, _, _]) Tryz.func86 Tryz.ntmps86 rfl rfl hw ?_
  refine s_seq ?_
  refine s_region ?_
  refine o_h (h_box rfl rfl) rfl (fun b1 _ => ?_)
  refine o_nil ?_
  refine s_seq ?_
  refine s_region ?_
  refine oP ?_
  refine oP ?_
  refine o_p (p_indexAddr rfl rfl rfl sl_140 (v.i) (by omega) (by omega) rfl) rfl ?_
  refine o_slot (show _ = Value.pointer (some ⟨sb, v.i, none⟩) from by rw [Nat.zero_add, Nat.mul_one]) ?_
  refine o_h0 (h_store rfl rfl rfl sz_4 rfl aPt (by rw [seen_len]; show _ + 1 ≤ _; omega) rfl) (fun _ _ => ?_)
  refine o_nil ?_
  refine s_seq ?_
  refine s_region ?_
  refine oP ?_
  refine o_nil ?_
  refine s_block ?_
  refine s_loopI (α := Nat) [6, 10, 11, 12, 13, 14, 15, 16, 17, 18, 19, 20, 21, 22, 23, 24, 25, 26, 27, 28, 29, 30, 31, 32] (fun k => [(6, .int .i64 (k : Int))]) (fun k => HS w (fps [.blk sb 4 tot (seenV L.length S)]) [.blk sb 4 tot (seenV L.length (mkS (visK (pln L) f v k) S)), .blk b1 24 4 [.int .i64 (j : Int), .int .i64 mo, .int .i64 rm, .slice a L.length cap]]) (fun k => k ≤ (nth L v.i).cs.length) (fun k => (nth L v.i).cs.length - k) 0 (Nat.zero_le _) aSx (fun w h => by have h2 := h; rw [show setMany (seenV L.length S) v.i (Value.cells (.bool true)).toList = seenV L.length (((v.i : Nat) : Int) :: S) from seen_set hi] at h2; exact h2.ent aEt) (fun k hk1 => ?_)
  refine s_seq ?_
  refine s_seq ?_
  refine s_region ?_
  refine oP ?_
  refine o_p (p_fieldAddr rfl rfl fd_24_3 sz_22 rfl) rfl ?_
  refine o_q (q_load rfl rfl sz_22 aPk rfl) rfl ?_
  refine oP ?_
  refine o_p (p_indexAddr rfl rfl rfl sl_22 (v.i) (by omega) (by omega) (Rw.some hs.1 (by omega))) rfl ?_
  refine o_p (p_fieldAddr rfl rfl fd_102_2 sz_30 rfl) rfl ?_
  refine o_q (q_load_old rfl rfl sz_30 ((hs.1.rdj 2 hi rfl))) rfl ?_
  refine o_p (p_len_slice rfl rfl Tryz.underlying30) rfl ?_
  refine oP ?_
  refine o_nil ?_
  refine s_cond rfl (fun h2 => ?_) (fun h2 => ?_)
  · try simp only [decide_eq_true_eq] at h2
    have hkl : k < (nth L v.i).cs.length := by omega
    have hkid := kid_in hT hi0 (k := k) (by rw [hn]; exact hkl)
    rw [hn, pln_len] at hkid
    simp only [LNd.pl] at hkid
    have hway2 := way_kid hway hi0 (k := k) (by rw [hn]; exact hkl) (by rw [hn]; simp only [LNd.pl]; omega)
    refine s_skip ?_
    refine s_seq ?_
    refine s_block ?_
    refine s_draw [11] mixed ?_
    refine d_q 0 [[]] rfl (q_loadn rfl rfl sz_24 aPk rfl) (by kernel_rfl) (by kernel_rfl) (by kernel_rfl) rfl ?_
    refine d_p 1 rfl (p_fieldAddr rfl rfl fd_24_3 sz_22 rfl) (by kernel_rfl) rfl rfl ?_
    refine d_q 2 [[9, 8, 6, 5, 4]] rfl (q_load rfl rfl sz_22 aPk rfl) (by kernel_rfl) (by kernel_rfl) (by kernel_rfl) rfl ?_
    refine dP 3 ?_
    refine d_p 4 rfl (p_indexAddr rfl rfl rfl sl_22 (v.i) (by omega) (by omega) (Rw.some hs.1 (by omega))) (by kernel_rfl) rfl rfl ?_
    refine d_p 5 rfl (p_fieldAddr rfl rfl fd_102_2 sz_30 rfl) (by kernel_rfl) rfl rfl ?_
    refine d_q 6 [[9, 8]] rfl (q_load_old rfl rfl sz_30 ((hs.1.rdj 2 hi rfl))) (by kernel_rfl) (by kernel_rfl) (by kernel_rfl) rfl ?_
    refine dP 7 ?_
    refine d_p 8 rfl (p_indexAddr rfl rfl rfl sl_30 (k) (by omega) (by omega) (Rw.some (hs.cs hi) (by omega))) (by kernel_rfl) rfl rfl ?_
    refine d_q 9 [[]] rfl (q_load_old rfl rfl sz_3 (((hs.cs hi).rdj 0 (i := k) hkl rfl))) (by kernel_rfl) (by kernel_rfl) (by kernel_rfl) rfl ?_
    refine d_slot (show _ = Value.int .i64 ((kidV (pln L) v k).i : Int) from by rw [kidV, hn]; exact congrArg (Value.int .i64) (Int.toNat_of_nonneg (show 0 ≤ (nth L v.i).cs.getD k 0 by omega)).symm) ?_
    refine dP 10 ?_
    refine d_h 11 rfl (h_callF (Cs := [.blk sb 4 tot (seenV L.length (mkS (visK (pln L) f v k) S))]) rfl fn_86 rfl aPs (fun w1 h1 hf9 => ih w1 (mkS (visK (pln L) f v k) S) (kidV (pln L) v k) (v.i :: P) hf9 ((hs.keep h1).mono (fps_pick aPs)) hT hB h0 hway2 (by simp only [List.length_cons]; omega))) (by kernel_rfl) (fun w h => h.ent aEt) rfl (fun _ _ => ?_)
    refine d_turn [] (by kernel_rfl) ?_
    refine d_nil (by kernel_rfl) (fun w h => by first | exact h | exact h.ent aEt) ?_
    refine s_blk ?_
    refine s_region ?_
    refine oP ?_
    refine oP ?_
    try (refine o_slot (i64w (by omega) (by omega)) ?_)
    refine oP ?_
    refine o_nil ?_
    exact s_backI (k + 1) (by omega) (by omega) aSx (fun w h => by rw [visK_succ, mkS_app]; exact h.ent aEt)
  · try simp only [decide_eq_false_iff_not] at h2
    obtain rfl : k = (nth L v.i).cs.length := by omega
    refine s_exit_to rfl ?_
    exact s_end0 rfl (fun w' h' => ⟨(), rfl, trivial, by rw [visK_all, hn]; exact h'.ent aEt⟩)

theorem c86 (j : Nat) (mo rm : Int) (a : Option Addr) (cap : Nat) (L : List LNd) (sb scap tot : Nat) : ∀ f, MkC j mo rm a cap L sb scap tot f
  | 0 => fun w S v P hw hs hT hB h0 hway hf => by
    have h1 := way_len hT (by rw [pln_len]; exact h0) hway
    rw [pln_len, List.length_cons] at h1
    omega
  | f + 1 => fun w S v P hw hs hT hB h0 hway hf => c86s w j mo rm a cap L sb scap tot S v P f hw hs hT hB h0 hway hf (c86 j mo rm a cap L sb scap tot f)

end Go.Proofs

/- Chapter 12: where nodes lie, as the reference looks. Plain data. -/
namespace Gx
set_option linter.unusedSimpArgs false
set_option linter.unusedVariables false
set_option linter.unusedSectionVars false
open Go Go.RowKit
/-- A slice of strings as a bound: none, or one. -/
def StK (w : World) (p : Option Addr) (n : Nat) (o : Option (List UInt8)) : Prop := match o with
  | none => n = 0
  | some k => n = 1 ∧ ∃ b off, p = some ⟨b, off, none⟩ ∧ Rd w [] b off (.string (bs k))
theorem StK.later {w w' : World} {As : List HA} {p : Option Addr} {n : Nat} {o : Option (List UInt8)} (h : StK w p n o) (hs : HS w [] As w') : StK w' p n o := by
  cases o with
  | none => exact h
  | some k =>
    obtain ⟨h1, b, off, h2, h3⟩ := h
    exact ⟨h1, b, off, h2, h3.next hs⟩
theorem StK.of_pos {w : World} {p : Option Addr} {n : Nat} {o : Option (List UInt8)} (h : StK w p n o) (hn : 0 < n) : ∃ k b off, o = some k ∧ n = 1 ∧ p = some ⟨b, off, none⟩ ∧ Rd w [] b off (.string (bs k)) := by
  cases o with
  | none =>
    have : n = 0 := h
    omega
  | some k =>
    obtain ⟨h1, b, off, h2, h3⟩ := h
    exact ⟨k, b, off, rfl, h1, h2, h3⟩
theorem StK.of_no {w : World} {p : Option Addr} {n : Nat} {o : Option (List UInt8)} (h : StK w p n o) (hn : ¬ 0 < n) : o = none := by
  cases o with
  | none => rfl
  | some k =>
    obtain ⟨h1, _⟩ := h
    omega
theorem StK.new {w : World} {b : Nat} {k : List UInt8} (h : Rd w [] b 0 (.string (bs k))) : StK w (some ⟨b, 0, none⟩) 1 (some k) := ⟨rfl, b, 0, rfl, h⟩
theorem loK_pos {es : List TEnt} {k : Nat} {lo : Option (List UInt8)} (h : 0 < k) : loK es k lo = some (nth es (k - 1)).key := if_pos h
theorem loK_no {es : List TEnt} {k : Nat} {lo : Option (List UInt8)} (h : ¬ 0 < k) : loK es k lo = lo := if_neg h
theorem hiK_pos {es : List TEnt} {k : Nat} {hi : Option (List UInt8)} (h : k < es.length) : hiK es k hi = some (nth es k).key := if_pos h
theorem hiK_no {es : List TEnt} {k : Nat} {hi : Option (List UInt8)} (h : ¬ k < es.length) : hiK es k hi = hi := if_neg h
theorem shpF_app {t : Tre} {deep : Int} : ∀ (A B : List Vis), shpF t deep (A ++ B) = if (shpF t deep A).2 = 0 then shpF t deep B else shpF t deep A
  | [], B => rfl
  | v :: A, B => by
    rw [List.cons_append, shpF, shpF]
    by_cases h : visE t deep v = 0
    · rw [if_pos h, if_pos h]
      exact shpF_app A B
    · rw [if_neg h, if_neg h, if_neg h]
theorem gap_iff {t : Tre} {v : Vis} {N R : Nd} (hN : nth t.ns v.i = N) (hR : nth t.ns 0 = R) (h1 : R.cs.length = 0 ∨ R.cs.length = R.es.length + 1) (h2 : ∀ c ∈ R.cs, 1 ≤ c) : gapB t v = true ↔ (v.i ≠ 0 ∧ (N.es.length : Int) < t.mo / 2) ∨ (((R.es.length = 0 ∧ R.cs.length = 1) ∧ R.cs.getD 0 0 = (v.i : Int)) ∧ (N.es.length : Int) ≤ t.rm) := by
  subst hN hR
  unfold gapB
  simp only [Bool.and_eq_true, Bool.or_eq_true, decide_eq_true_eq]
  constructor
  · rintro ⟨h3, h4 | ⟨⟨h4, h5⟩, h6⟩⟩
    · exact .inl ⟨by omega, h4⟩
    · refine .inr ⟨⟨⟨h4, ?_⟩, ?_⟩, h6⟩
      · rcases h1 with h1 | h1
        · rw [List.eq_nil_of_length_eq_zero h1] at h5
          cases h5
        · omega
      · have hl : (nth t.ns 0).cs.length = 1 := by
          rcases h1 with h1 | h1
          · rw [List.eq_nil_of_length_eq_zero h1] at h5
            cases h5
          · omega
        obtain ⟨c, hc⟩ := List.length_eq_one_iff.1 hl
        rw [hc] at h5 ⊢
        exact (List.mem_singleton.1 h5).symm
  · rintro (⟨h3, h4⟩ | ⟨⟨⟨h4, h5⟩, h6⟩, h7⟩)
    · exact ⟨by omega, .inl h4⟩
    · obtain ⟨c, hc⟩ := List.length_eq_one_iff.1 h5
      have h8 := h2 c (by rw [hc]; exact List.mem_singleton.2 rfl)
      rw [hc] at h6 ⊢
      have h9 : c = (v.i : Int) := h6
      exact ⟨by omega, .inr ⟨⟨h4, List.mem_singleton.2 h9.symm⟩, h7⟩⟩
theorem visE_gap {t : Tre} {deep : Int} {v : Vis} (h : gapB t v = true) : visE t deep v = 14 := by rw [visE_eq, if_pos h]
theorem visE_out {t : Tre} {deep : Int} {v : Vis} (h : ¬ gapB t v = true) (h2 : outsB t v = true) : visE t deep v = 9 := by rw [visE_eq, if_neg h, if_pos h2]
theorem visE_22 {t : Tre} {deep : Int} {v : Vis} (h : ¬ gapB t v = true) (h2 : ¬ outsB t v = true) (h3 : (nth t.ns v.i).cs.length = 0 ∧ v.d ≠ deep + 1) : visE t deep v = 22 := by rw [visE_eq, if_neg h, if_neg h2, if_pos h3]
theorem visE_ok {t : Tre} {deep : Int} {v : Vis} (h : ¬ gapB t v = true) (h2 : ¬ outsB t v = true) (h3 : ¬ ((nth t.ns v.i).cs.length = 0 ∧ v.d ≠ deep + 1)) : visE t deep v = 0 := by rw [visE_eq, if_neg h, if_neg h2, if_neg h3]
theorem outs_hit {t : Tre} {v : Vis} {N : Nd} {k : Nat} (hN : nth t.ns v.i = N) (hk : k < N.es.length) (h : outB t v (nth N.es k) = true) : outsB t v = true := by
  subst hN
  exact List.any_eq_true.2 ⟨_, mem_nth hk, h⟩
theorem outs_no {t : Tre} {v : Vis} {N : Nd} (hN : nth t.ns v.i = N) (h : ∀ q, q < N.es.length → ¬ outB t v (nth N.es q) = true) : ¬ outsB t v = true := fun h2 => by
  subst hN
  obtain ⟨x, hx, h3⟩ := List.any_eq_true.1 h2
  obtain ⟨q, hq, e⟩ := List.getElem_of_mem hx
  have e2 : nth (nth t.ns v.i).es q = x := nth_eq (by rw [List.getElem?_eq_getElem hq, e])
  exact h q hq (by rw [e2]; exact h3)
theorem out_iff {t : Tre} {v : Vis} {x : TEnt} : outB t v x = true ↔ (∃ b, v.lo = some b ∧ 0 ≤ cmpK t.co b x.key) ∨ (∃ b, v.hi = some b ∧ 0 ≤ cmpK t.co x.key b) := by
  unfold outB
  cases v.lo <;> cases v.hi <;> simp
section
variable {t : Tre} {v : Vis} {x : TEnt} {kl kh : List UInt8}
theorem out_a (h1 : v.lo = some kl) (h : 0 ≤ cmpK t.co kl x.key) : (true = true ↔ outB t v x = true) := ⟨fun _ => out_iff.2 (.inl ⟨kl, h1, h⟩), fun _ => rfl⟩
theorem out_b (h1 : v.lo = some kl) (h : ¬ 0 ≤ cmpK t.co kl x.key) (h2 : v.hi = some kh) : (decide (cmpK t.co x.key kh ≥ 0) = true ↔ outB t v x = true) := by
  rw [decide_eq_true_eq, out_iff, h1, h2]
  constructor
  · exact fun h9 => .inr ⟨kh, rfl, h9⟩
  · rintro (⟨b, hb, h9⟩ | ⟨b, hb, h9⟩)
    · cases hb
      exact absurd h9 h
    · cases hb
      exact h9
theorem out_c (h1 : v.lo = some kl) (h : ¬ 0 ≤ cmpK t.co kl x.key) (h2 : v.hi = none) : (false = true ↔ outB t v x = true) := by
  rw [out_iff, h1, h2]
  constructor
  · exact fun h9 => (nomatch h9)
  · rintro (⟨b, hb, h9⟩ | ⟨b, hb, h9⟩)
    · cases hb
      exact absurd h9 h
    · cases hb
theorem out_d (h1 : v.lo = none) (h2 : v.hi = some kh) : (decide (cmpK t.co x.key kh ≥ 0) = true ↔ outB t v x = true) := by
  rw [decide_eq_true_eq, out_iff, h1, h2]
  constructor
  · exact fun h9 => .inr ⟨kh, rfl, h9⟩
  · rintro (⟨b, hb, h9⟩ | ⟨b, hb, h9⟩)
    · cases hb
    · cases hb
      exact h9
theorem out_e (h1 : v.lo = none) (h2 : v.hi = none) : (false = true ↔ outB t v x = true) := by
  rw [out_iff, h1, h2]
  constructor
  · exact fun h9 => (nomatch h9)
  · rintro (⟨b, hb, h9⟩ | ⟨b, hb, h9⟩) <;> cases hb
end
theorem shp_head {t : Tre} {deep : Int} {f : Nat} {v : Vis} (h : ¬ visE t deep v = 0) : shpF t deep (vis t.ns (f + 1) v) = ((v.i : Int), visE t deep v) := by
  rw [vis, shpF, if_neg h]
theorem shp_K0 {t : Tre} {deep : Int} {f : Nat} {v : Vis} (h : visE t deep v = 0) : (shpF t deep (visK t.ns f v 0)).2 = 0 := by
  rw [visK_0, shpF, if_pos h]
  rfl
end Gx

