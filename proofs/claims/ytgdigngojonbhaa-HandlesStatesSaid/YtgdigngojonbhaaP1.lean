/- Contracts of the program's functions, proved by walking them with the rules of the Gx texts; without conditions beyond those that each contract names. -/
import Derived.WalkKit
import Derived.Deep.Draws
import Derived.Lib.Strings
import Derived.Laws.BytesArg
import Derived.Laws.IdiomStrings
import Derived.Deep.Quiet
import Derived.Laws.StructEq
import Derived.ChangeKeysEq
import Derived.Laws.Externs
import Derived.Lib.Overlaps
import Derived.Carry
import Derived.Laws.Small
import Derived.Test.YtgdigngojonbhaaProg
import Derived.KernelRfl
import Derived.ProofKit
import Derived.OpenShut
import Derived.Test.YtgdigngojonbhaaP0
namespace Go.Proofs
open Go Go.RowKit Gx
set_option linter.unusedVariables false
set_option linter.unusedSimpArgs false
attribute [local irreducible] Go.Calls Gx.S Gx.O Gx.D Gx.OpP Gx.OpQ Gx.OpH

theorem sl_46 : tsl Try.prog 46 = some (62, 3, 24) := by kernel_rfl
theorem sl_75 : tsl Try.prog 75 = some (48, 5, 56) := by kernel_rfl
theorem sl_24 : tsl Try.prog 24 = some (77, 4, 48) := by kernel_rfl
theorem sl_146 : tsl Try.prog 146 = some (28, 1, 8) := by kernel_rfl
theorem sz_28 : tsz Try.prog 28 = some (1, false) := by kernel_rfl
theorem sz_62 : tsz Try.prog 62 = some (3, true) := by kernel_rfl
theorem zr_62 : tzero Try.prog 62 = some [.int .i64 0, .int .i64 0, .bool false] := by kernel_rfl
theorem fn_105 : isFn Try.prog 105 = true := by kernel_rfl
theorem sz_48 : tsz Try.prog 48 = some (5, true) := by kernel_rfl
theorem zr_48 : tzero Try.prog 48 = some [.int .i64 0, .int .i64 0, .int .i64 0, .bool false, .slice none 0 0] := by kernel_rfl
theorem fn_120 : isFn Try.prog 120 = true := by kernel_rfl
theorem zr_77 : tzero Try.prog 77 = some [.int .i64 0, .int .i64 0, .bool false, .slice none 0 0] := by kernel_rfl


set_option maxRecDepth 20000 in
theorem c49 (w : World) (n lo hi : Int) : Calls Try.prog 49 #[.int .i64 n, .int .i64 lo, .int .i64 hi] w fun en w' => en = .returned (.bool (decide (lo ≤ n) && decide (n ≤ hi))) ∧ Below w.heap.size w w' := by
  refine enter (args := [_, _, _]) Try.func49 Try.ntmps49 rfl rfl (HS.refl w []) ?_
  refine s_seq ?_
  refine s_region ?_
  refine o_p (p_pure rfl) rfl ?_
  refine o_nil ?_
  refine s_seq ?_
  refine s_region ?_
  refine o_p (p_pure rfl) rfl ?_
  refine o_p (p_pure rfl) rfl ?_
  refine o_p (p_pure rfl) rfl ?_
  refine o_p (p_pure rfl) rfl ?_
  refine o_and 4 10 14 _ _ rfl
    (by
      intro hg1
      have hs2 := hg1; try simp only [decide_eq_true_eq, decide_eq_false_iff_not, Bool.not_eq_true', Bool.not_eq_false', Bool.and_eq_true, Bool.or_eq_true, Bool.and_eq_false_iff, Bool.or_eq_false_iff, Bool.not_true, Bool.not_false] at hs2
      refine o_on 10 _ rfl rfl hg1 ?_
      refine o_p (p_pure rfl) rfl ?_
      refine o_on 10 _ rfl rfl hg1 ?_
      refine o_p (p_pure rfl) rfl ?_
      refine o_on 10 _ rfl rfl hg1 ?_
      refine o_p (p_pure rfl) rfl ?_
      refine o_p (p_pickt rfl rfl hg1 rfl) rfl ?_
      refine o_nil ?_
      exact s_joinN 4 14 _ rfl rfl rfl (fun w h => by first | exact h | exact h.ent aEt))
    (by
      intro hg3
      have hs4 := hg3; try simp only [decide_eq_true_eq, decide_eq_false_iff_not, Bool.not_eq_true', Bool.not_eq_false', Bool.and_eq_true, Bool.or_eq_true, Bool.and_eq_false_iff, Bool.or_eq_false_iff, Bool.not_true, Bool.not_false] at hs4
      refine o_off 10 _ rfl rfl hg3 rfl ?_
      refine o_off 10 _ rfl rfl hg3 rfl ?_
      refine o_off 10 _ rfl rfl hg3 rfl ?_
      refine o_p (p_pickf rfl rfl hg3 rfl) rfl ?_
      refine o_nil ?_
      exact s_joinN 4 14 _ rfl rfl rfl (fun w h => by first | exact h | exact h.ent aEt)) ?_
  refine o_p (p_pure rfl) rfl ?_
  refine o_nil ?_
  exact s_retv (rs := [.tmp 6]) rfl (.tmp rfl (.nil)) (fun w' h' => ⟨rfl, h'.below⟩)

set_option maxRecDepth 20000 in
theorem c16 (w : World) (n lo hi : Int) : Calls Try.prog 16 #[.int .i64 n, .int .i64 lo, .int .i64 hi] w fun en w' => en = .returned (.bool (decide (lo ≤ n) && decide (n ≤ hi))) ∧ Below w.heap.size w w' := by
  refine enter (args := [_, _, _]) Try.func16 Try.ntmps16 rfl rfl (HS.refl w []) ?_
  refine s_seq ?_
  refine s_region ?_
  refine o_p (p_pure rfl) rfl ?_
  refine o_nil ?_
  refine s_seq ?_
  refine s_region ?_
  refine o_p (p_pure rfl) rfl ?_
  refine o_p (p_pure rfl) rfl ?_
  refine o_p (p_pure rfl) rfl ?_
  refine o_p (p_pure rfl) rfl ?_
  refine o_and 4 10 14 _ _ rfl
    (by
      intro hg1
      have hs2 := hg1; try simp only [decide_eq_true_eq, decide_eq_false_iff_not, Bool.not_eq_true', Bool.not_eq_false', Bool.and_eq_true, Bool.or_eq_true, Bool.and_eq_false_iff, Bool.or_eq_false_iff, Bool.not_true, Bool.not_false] at hs2
      refine o_on 10 _ rfl rfl hg1 ?_
      refine o_p (p_pure rfl) rfl ?_
      refine o_on 10 _ rfl rfl hg1 ?_
      refine o_p (p_pure rfl) rfl ?_
      refine o_on 10 _ rfl rfl hg1 ?_
      refine o_p (p_pure rfl) rfl ?_
      refine o_p (p_pickt rfl rfl hg1 rfl) rfl ?_
      refine o_nil ?_
      exact s_joinN 4 14 _ rfl rfl rfl (fun w h => by first | exact h | exact h.ent aEt))
    (by
      intro hg3
      have hs4 := hg3; try simp only [decide_eq_true_eq, decide_eq_false_iff_not, Bool.not_eq_true', Bool.not_eq_false', Bool.and_eq_true, Bool.or_eq_true, Bool.and_eq_false_iff, Bool.or_eq_false_iff, Bool.not_true, Bool.not_false] at hs4
      refine o_off 10 _ rfl rfl hg3 rfl ?_
      refine o_off 10 _ rfl rfl hg3 rfl ?_
      refine o_off 10 _ rfl rfl hg3 rfl ?_
      refine o_p (p_pickf rfl rfl hg3 rfl) rfl ?_
      refine o_nil ?_
      exact s_joinN 4 14 _ rfl rfl rfl (fun w h => by first | exact h | exact h.ent aEt)) ?_
  refine o_p (p_pure rfl) rfl ?_
  refine o_nil ?_
  exact s_retv (rs := [.tmp 6]) rfl (.tmp rfl (.nil)) (fun w' h' => ⟨rfl, h'.below⟩)

set_option maxRecDepth 20000 in
theorem c48 (w : World) (ok : Bool) (e : Int) : Calls Try.prog 48 #[.bool ok, .int .i64 e] w fun en w' => en = .returned (.int .i64 (cond ok 0 e)) ∧ Below w.heap.size w w' := by
  refine enter (args := [_, _]) Try.func48 Try.ntmps48 rfl rfl (HS.refl w []) ?_
  refine s_seq ?_
  refine s_region ?_
  refine o_p (p_pure rfl) rfl ?_
  refine o_nil ?_
  refine s_seq ?_
  refine s_seq ?_
  refine s_region ?_
  refine o_p (p_pure rfl) rfl ?_
  refine o_nil ?_
  refine s_cond rfl (fun h1 => ?_) (fun h1 => ?_)
  · try simp only [decide_eq_true_eq, decide_eq_false_iff_not, Bool.not_eq_true', Bool.not_eq_false', Bool.and_eq_true, Bool.or_eq_true, Bool.and_eq_false_iff, Bool.or_eq_false_iff, Bool.not_true, Bool.not_false] at h1
    refine s_seq ?_
    refine s_region ?_
    refine o_p (p_pure rfl) rfl ?_
    refine o_nil ?_
    exact s_retv (rs := [.tmp 4]) rfl (.tmp rfl (.nil)) (fun w' h' => ⟨by simp_all [retV], h'.below⟩)
  · try simp only [decide_eq_true_eq, decide_eq_false_iff_not, Bool.not_eq_true', Bool.not_eq_false', Bool.and_eq_true, Bool.or_eq_true, Bool.and_eq_false_iff, Bool.or_eq_false_iff, Bool.not_true, Bool.not_false] at h1
    refine s_skip ?_
    refine s_seq ?_
    refine s_region ?_
    refine o_p (p_pure rfl) rfl ?_
    refine o_p (p_pure rfl) rfl ?_
    refine o_nil ?_
    exact s_retv (rs := [.tmp 4]) rfl (.tmp rfl (.nil)) (fun w' h' => ⟨by simp_all [retV], h'.below⟩)

set_option maxRecDepth 20000 in
theorem c52 (w : World) (a : Option Addr) (cap : Nat) (es : List Int) (hs : Sl w [] a 1 es.length (fun i => [.int .i64 (es.getD i 0)])) (hm : es.length ≤ 1000) : Calls Try.prog 52 #[.slice a es.length cap] w fun en w' => en = .returned (.int .i64 (firstI es)) ∧ Below w.heap.size w w' := by
  refine enter (args := [_]) Try.func52 Try.ntmps52 rfl rfl (HS.refl w []) ?_
  refine s_seq ?_
  refine s_region ?_
  refine o_p (p_pure rfl) rfl ?_
  refine o_nil ?_
  refine s_seq ?_
  refine s_seq ?_
  refine s_region ?_
  refine o_p (p_pure rfl) rfl ?_
  refine o_p (p_len_slice rfl rfl Try.underlying146) rfl ?_
  refine o_p (p_pure rfl) rfl ?_
  refine o_nil ?_
  refine s_block ?_
  refine s_loopI (α := Nat) [2, 4, 7, 8, 9, 10, 11, 12, 13, 14] (fun k => [(7, .int .i64 (k : Int))]) (fun _ => _) (fun k => k ≤ es.length ∧ firstI es = firstI (es.drop k)) (fun k => es.length - k) 0 ⟨by omega, rfl⟩ aSx (fun w h => h) (fun k hk => ?_)
  obtain ⟨hk1, hk2⟩ := hk
  refine s_seq ?_
  refine s_region ?_
  refine o_p (p_pure rfl) rfl ?_
  refine o_nil ?_
  refine s_seq ?_
  refine s_cond rfl (fun h1 => ?_) (fun h1 => ?_)
  · try simp only [decide_eq_true_eq, decide_eq_false_iff_not, Bool.not_eq_true', Bool.not_eq_false', Bool.and_eq_true, Bool.or_eq_true, Bool.and_eq_false_iff, Bool.or_eq_false_iff, Bool.not_true, Bool.not_false] at h1
    refine s_skip ?_
    refine s_seq ?_
    refine s_block ?_
    refine s_seq ?_
    refine s_region ?_
    refine o_p (p_indexAddr rfl rfl rfl sl_146 _ rfl (by omega) (hs.some (by omega))) rfl ?_
    refine o_q (q_load_old rfl rfl sz_28 (hs.rd (i := k) (j := 0) (by omega) rfl)) rfl ?_
    refine o_p (p_pure rfl) rfl ?_
    refine o_nil ?_
    refine s_seq ?_
    refine s_region ?_
    refine o_p (p_pure rfl) rfl ?_
    refine o_p (p_pure rfl) rfl ?_
    refine o_nil ?_
    refine s_cond rfl (fun h2 => ?_) (fun h2 => ?_)
    · try simp only [decide_eq_true_eq, decide_eq_false_iff_not, Bool.not_eq_true', Bool.not_eq_false', Bool.and_eq_true, Bool.or_eq_true, Bool.and_eq_false_iff, Bool.or_eq_false_iff, Bool.not_true, Bool.not_false] at h2
      refine s_seq ?_
      refine s_region ?_
      refine o_p (p_pure rfl) rfl ?_
      refine o_p (p_pure rfl) rfl ?_
      refine o_nil ?_
      exact s_retv (rs := [.tmp 2]) rfl (.tmp rfl (.nil)) (fun w' h' => ⟨by simp only [retV]; rw [hk2, firstI_drop (by omega), if_neg (by assumption)], h'.below⟩)
    · try simp only [decide_eq_true_eq, decide_eq_false_iff_not, Bool.not_eq_true', Bool.not_eq_false', Bool.and_eq_true, Bool.or_eq_true, Bool.and_eq_false_iff, Bool.or_eq_false_iff, Bool.not_true, Bool.not_false] at h2
      refine s_skip ?_
      refine s_blk ?_
      refine s_region ?_
      refine o_p (p_pure rfl) rfl ?_
      try (refine o_slot (i64w (by omega) (by omega)) ?_)
      refine o_p (p_pure rfl) rfl ?_
      refine o_nil ?_
      exact s_backI (k+1) (by omega) ⟨by omega, by rw [hk2, firstI_drop (by omega), if_pos (by assumption)]⟩ aSx (fun w h => h)
  · try simp only [decide_eq_true_eq, decide_eq_false_iff_not, Bool.not_eq_true', Bool.not_eq_false', Bool.and_eq_true, Bool.or_eq_true, Bool.and_eq_false_iff, Bool.or_eq_false_iff, Bool.not_true, Bool.not_false] at h1
    refine s_exit_to rfl ?_
    refine s_seq ?_
    refine s_region ?_
    refine o_p (p_pure rfl) rfl ?_
    refine o_nil ?_
    exact s_retv (rs := [.tmp 2]) rfl (.tmp rfl (.nil)) (fun w' h' => ⟨by simp only [retV]; rw [hk2, firstI_end (by omega)], h'.below⟩)

theorem f52 {w0 w : World} {M : List Nat} {As As' : List HA} {b cap n : Nat} {t : TypeId} {tot : Nat} {cs : List Value} (h : HS w0 M As w) (hp : Pick As (.blk b t tot cs) As') (hc : cs.all isI64 = true) (hn : cs.length = n) (hl : n ≤ 1000) :
    Calls Try.prog 52 #[.slice (some ⟨b, 0, none⟩) n cap] w fun en w' => en = .returned (.int .i64 (firstV cs)) ∧ Below w.heap.size w w' := by
  subst hn
  have := c52 w (some ⟨b, 0, none⟩) cap (cs.map intOf) (by simpa using h.sl_ints hp hc) (by simpa using hl)
  rw [firstV_eq hc] at this
  simpa using this

set_option maxRecDepth 20000 in
theorem c92 (w : World) (a : Option Addr) (cap : Nat) (l : List Lock) (q : Nat) (cv : Array Value) (es : List Int) (hs : Rw Lock.vals 3 w [] a l) (hm : l.length ≤ 1000000) (hq : isFn Try.prog q = true) (he : es.length = l.length) (hc : ∀ k w1, k < l.length → (∀ j, j < k → es.getD j 0 = 0) → HS w [] [] w1 → Calls Try.prog q (#[] ++ [.int .i64 (k : Int), .agg (Lock.vals (nth l k)).toArray].toArray ++ cv) w1 fun en w2 => en = .returned (.int .i64 (es.getD k 0)) ∧ Below w1.heap.size w1 w2) : Calls Try.prog 92 #[.slice a l.length cap, .func (.func q) #[] cv] w fun en w' => en = .returned (.tuple #[.int .i64 (eachF es 0).1, .int .i64 (eachF es 0).2]) ∧ Below w.heap.size w w' := by
  refine enter (args := [_, _]) Try.func92 Try.ntmps92 rfl rfl (HS.refl w []) ?_
  refine s_seq ?_
  refine s_region ?_
  refine o_p (p_pure rfl) rfl ?_
  refine o_p (p_pure rfl) rfl ?_
  refine o_nil ?_
  refine s_seq ?_
  refine s_seq ?_
  refine s_region ?_
  refine o_p (p_pure rfl) rfl ?_
  refine o_p (p_len_slice rfl rfl Try.underlying46) rfl ?_
  refine o_p (p_pure rfl) rfl ?_
  refine o_nil ?_
  refine s_block ?_
  refine s_loopI (α := Nat) [4, 5, 6, 7, 8, 11, 12, 13, 14, 15, 16, 17, 18, 19, 20, 21, 22, 23, 24] (fun k => [(11, .int .i64 (k : Int))]) (fun _ => HS w [] []) (fun k => k ≤ l.length ∧ eachF es 0 = eachF (es.drop k) k ∧ ∀ j, j < k → es.getD j 0 = 0) (fun k => l.length - k) 0 ⟨by omega, rfl, fun i h => absurd h (Nat.not_lt_zero i)⟩ aSx (fun w h => h.ent aEt) (fun k hk => ?_)
  obtain ⟨hk1, hk2, hk3⟩ := hk
  refine s_seq ?_
  refine s_region ?_
  refine o_p (p_pure rfl) rfl ?_
  refine o_nil ?_
  refine s_seq ?_
  refine s_cond rfl (fun h1 => ?_) (fun h1 => ?_)
  · try simp only [decide_eq_true_eq, decide_eq_false_iff_not, Bool.not_eq_true', Bool.not_eq_false', Bool.and_eq_true, Bool.or_eq_true, Bool.and_eq_false_iff, Bool.or_eq_false_iff, Bool.not_true, Bool.not_false] at h1
    refine s_skip ?_
    refine s_seq ?_
    refine s_block ?_
    refine s_seq ?_
    refine s_region ?_
    refine o_p (p_pure rfl) rfl ?_
    refine o_p (p_indexAddr rfl rfl rfl sl_46 (k) (by omega) (by omega) (Rw.some hs (by omega))) rfl ?_
    refine o_q (q_load_oldn _ rfl rfl sz_62 rfl (Rw.rd hs (by omega))) rfl ?_
    refine o_h (h_alloc rfl zr_62) rfl (fun b2 _ => ?_)
    refine o_p (p_pure rfl) rfl ?_
    refine o_h0 (h_store rfl rfl rfl sz_62 rfl aPt (by simp only [setMany_length, List.length_set, List.length_cons, List.length_nil, List.length_map]; omega) rfl) (fun _ _ => ?_)
    refine o_nil ?_
    refine s_seq ?_
    refine s_region ?_
    refine o_p (p_pure rfl) rfl ?_
    refine o_p (p_pure rfl) rfl ?_
    refine o_q (q_loadn rfl rfl sz_62 aPk rfl) rfl ?_
    refine o_q (q_callv rfl rfl hq rfl (fun w1 h1 => hc k w1 (by omega) hk3 (h1.ent aEt))) rfl ?_
    refine o_p (p_pure rfl) rfl ?_
    refine o_nil ?_
    refine s_seq ?_
    refine s_region ?_
    refine o_p (p_pure rfl) rfl ?_
    refine o_p (p_pure rfl) rfl ?_
    refine o_nil ?_
    refine s_cond rfl (fun h3 => ?_) (fun h3 => ?_)
    · try simp only [decide_eq_true_eq, decide_eq_false_iff_not, Bool.not_eq_true', Bool.not_eq_false', Bool.and_eq_true, Bool.or_eq_true, Bool.and_eq_false_iff, Bool.or_eq_false_iff, Bool.not_true, Bool.not_false] at h3
      refine s_seq ?_
      refine s_region ?_
      refine o_p (p_pure rfl) rfl ?_
      refine o_p (p_pure rfl) rfl ?_
      refine o_p (p_pure rfl) rfl ?_
      refine o_p (p_pure rfl) rfl ?_
      refine o_nil ?_
      exact s_retv (rs := [.tmp 4, .tmp 5]) rfl (.tmp rfl (.tmp rfl (.nil))) (fun w' h' => ⟨by simp only [retV]; rw [hk2, eachF_drop (by omega), if_neg (by assumption)], h'.below⟩)
    · try simp only [decide_eq_true_eq, decide_eq_false_iff_not, Bool.not_eq_true', Bool.not_eq_false', Bool.and_eq_true, Bool.or_eq_true, Bool.and_eq_false_iff, Bool.or_eq_false_iff, Bool.not_true, Bool.not_false] at h3
      refine s_skip ?_
      refine s_blk ?_
      refine s_region ?_
      refine o_p (p_pure rfl) rfl ?_
      try (refine o_slot (i64w (by omega) (by omega)) ?_)
      refine o_p (p_pure rfl) rfl ?_
      refine o_nil ?_
      exact s_backI (k+1) (by omega) ⟨by omega, by rw [hk2, eachF_drop (by omega), if_pos (by assumption)], fun j hj => (Nat.lt_or_ge j k).elim (hk3 j) (fun h => by obtain rfl : j = k := (by omega); assumption)⟩ aSx (fun w h => h.ent aEt)
  · try simp only [decide_eq_true_eq, decide_eq_false_iff_not, Bool.not_eq_true', Bool.not_eq_false', Bool.and_eq_true, Bool.or_eq_true, Bool.and_eq_false_iff, Bool.or_eq_false_iff, Bool.not_true, Bool.not_false] at h1
    refine s_exit_to rfl ?_
    refine s_seq ?_
    refine s_region ?_
    refine o_p (p_pure rfl) rfl ?_
    refine o_p (p_pure rfl) rfl ?_
    refine o_nil ?_
    exact s_retv (rs := [.tmp 4, .tmp 5]) rfl (.tmp rfl (.tmp rfl (.nil))) (fun w' h' => ⟨by simp only [retV]; rw [hk2, eachF_end (by omega)], h'.below⟩)

set_option maxRecDepth 20000 in
theorem c105 (w : World) (a : Option Addr) (cap : Nat) (l : List Lock) (q : Nat) (cv : Array Value) (bt : List Bool) (hs : Rw Lock.vals 3 w [] a l) (hm : l.length ≤ 1000000) (hq : isFn Try.prog q = true) (hb : bt.length = l.length) (hc : ∀ k w1, k < l.length → HS w [] [] w1 → Calls Try.prog q (#[] ++ [.agg (Lock.vals (nth l k)).toArray].toArray ++ cv) w1 fun en w2 => en = .returned (.bool (bt.getD k false)) ∧ Below w1.heap.size w1 w2) : Calls Try.prog 105 #[.slice a l.length cap, .func (.func q) #[] cv] w fun en w' => en = .returned (.int .i64 (ixI bt)) ∧ Below w.heap.size w w' := by
  refine enter (args := [_, _]) Try.func105 Try.ntmps105 rfl rfl (HS.refl w []) ?_
  refine s_seq ?_
  refine s_region ?_
  refine o_p (p_pure rfl) rfl ?_
  refine o_nil ?_
  refine s_seq ?_
  refine s_seq ?_
  refine s_region ?_
  refine o_p (p_pure rfl) rfl ?_
  refine o_p (p_len_slice rfl rfl Try.underlying46) rfl ?_
  refine o_p (p_pure rfl) rfl ?_
  refine o_nil ?_
  refine s_block ?_
  refine s_loopI (α := Nat) [4, 5, 8, 9, 10, 11, 12, 13, 14, 15, 16, 17, 18] (fun k => [(8, .int .i64 (k : Int))]) (fun _ => _) (fun k => k ≤ l.length ∧ ∀ i, i < k → bt.getD i false = false) (fun k => l.length - k) 0 ⟨by omega, fun i h => absurd h (Nat.not_lt_zero i)⟩ aSx (fun w h => h) (fun k hk => ?_)
  obtain ⟨hk1, hk2⟩ := hk
  refine s_seq ?_
  refine s_region ?_
  refine o_p (p_pure rfl) rfl ?_
  refine o_nil ?_
  refine s_seq ?_
  refine s_cond rfl (fun h1 => ?_) (fun h1 => ?_)
  · try simp only [decide_eq_true_eq, decide_eq_false_iff_not, Bool.not_eq_true', Bool.not_eq_false', Bool.and_eq_true, Bool.or_eq_true, Bool.and_eq_false_iff, Bool.or_eq_false_iff, Bool.not_true, Bool.not_false] at h1
    refine s_skip ?_
    refine s_seq ?_
    refine s_block ?_
    refine s_seq ?_
    refine s_region ?_
    refine o_p (p_pure rfl) rfl ?_
    refine o_p (p_pure rfl) rfl ?_
    refine o_nil ?_
    refine s_seq ?_
    refine s_region ?_
    refine o_p (p_pure rfl) rfl ?_
    refine o_p (p_pure rfl) rfl ?_
    refine o_p (p_pure rfl) rfl ?_
    refine o_p (p_indexAddr rfl rfl rfl sl_46 (k) (by omega) (by omega) (Rw.some hs (by omega))) rfl ?_
    refine o_q (q_load_oldn _ rfl rfl sz_62 rfl (Rw.rd hs (by omega))) rfl ?_
    refine o_q (q_callv rfl rfl hq rfl (fun w1 h1 => hc k w1 (by omega) (h1.ent aEt))) rfl ?_
    refine o_nil ?_
    refine s_cond rfl (fun h2 => ?_) (fun h2 => ?_)
    · try simp only [decide_eq_true_eq, decide_eq_false_iff_not, Bool.not_eq_true', Bool.not_eq_false', Bool.and_eq_true, Bool.or_eq_true, Bool.and_eq_false_iff, Bool.or_eq_false_iff, Bool.not_true, Bool.not_false] at h2
      refine s_seq ?_
      refine s_region ?_
      refine o_p (p_pure rfl) rfl ?_
      refine o_p (p_pure rfl) rfl ?_
      refine o_nil ?_
      exact s_retv (rs := [.tmp 4]) rfl (.tmp rfl (.nil)) (fun w' h' => ⟨by have e := ixB_eq (l := bt) (k := k) (by omega) hk2 (fun _ => by assumption); simp only [retV, ixI, e]; rw [if_pos (by omega)], h'.below⟩)
    · try simp only [decide_eq_true_eq, decide_eq_false_iff_not, Bool.not_eq_true', Bool.not_eq_false', Bool.and_eq_true, Bool.or_eq_true, Bool.and_eq_false_iff, Bool.or_eq_false_iff, Bool.not_true, Bool.not_false] at h2
      refine s_skip ?_
      refine s_blk ?_
      refine s_region ?_
      refine o_p (p_pure rfl) rfl ?_
      try (refine o_slot (i64w (by omega) (by omega)) ?_)
      refine o_p (p_pure rfl) rfl ?_
      refine o_nil ?_
      exact s_backI (k+1) (by omega) ⟨by omega, fun i hi => (Nat.lt_or_ge i k).elim (hk2 i) (fun h => by obtain rfl : i = k := (by omega); assumption)⟩ aSx (fun w h => h)
  · try simp only [decide_eq_true_eq, decide_eq_false_iff_not, Bool.not_eq_true', Bool.not_eq_false', Bool.and_eq_true, Bool.or_eq_true, Bool.and_eq_false_iff, Bool.or_eq_false_iff, Bool.not_true, Bool.not_false] at h1
    refine s_exit_to rfl ?_
    refine s_seq ?_
    refine s_region ?_
    refine o_p (p_pure rfl) rfl ?_
    refine o_nil ?_
    exact s_retv (rs := [.tmp 4]) rfl (.tmp rfl (.nil)) (fun w' h' => ⟨by have e := ixB_eq (l := bt) (k := k) (by omega) hk2 (fun h => by omega); simp only [retV, ixI, e]; rw [if_neg (by omega)], h'.below⟩)

set_option maxRecDepth 20000 in
theorem c87 (w : World) (a : Option Addr) (cap : Nat) (l : List Lock) (q : Nat) (cv : Array Value) (bt : List Bool) (hs : Rw Lock.vals 3 w [] a l) (hm : l.length ≤ 1000000) (hq : isFn Try.prog q = true) (hb : bt.length = l.length) (hc : ∀ k w1, k < l.length → HS w [] [] w1 → Calls Try.prog q (#[] ++ [.agg (Lock.vals (nth l k)).toArray].toArray ++ cv) w1 fun en w2 => en = .returned (.bool (bt.getD k false)) ∧ Below w1.heap.size w1 w2) : Calls Try.prog 87 #[.slice a l.length cap, .func (.func q) #[] cv] w fun en w' => en = .returned (.bool (bt.any id)) ∧ Below w.heap.size w w' := by
  refine enter (args := [_, _]) Try.func87 Try.ntmps87 rfl rfl (HS.refl w []) ?_
  refine s_seq ?_
  refine s_region ?_
  refine o_p (p_pure rfl) rfl ?_
  refine o_nil ?_
  refine s_seq ?_
  refine s_region ?_
  refine o_p (p_pure rfl) rfl ?_
  refine o_p (p_pure rfl) rfl ?_
  refine o_q (q_call rfl fn_105 rfl (fun w1 h1 => c105 w1 a cap l q cv bt (hs.later h1) hm hq hb (fun k w2 hk h2 => hc k w2 hk (by simpa using h1.call h2)))) rfl ?_
  refine o_p (p_pure rfl) rfl ?_
  refine o_p (p_pure rfl) rfl ?_
  refine o_nil ?_
  exact s_retv (rs := [.tmp 4]) rfl (.tmp rfl (.nil)) (fun w' h' => ⟨by simp only [retV]; rw [← ixI_any], h'.below⟩)

set_option maxRecDepth 20000 in
theorem c113 (w : World) (a : Option Addr) (cap : Nat) (l : List Lock) (hs : Rw Lock.vals 3 w [] a l) (hm : l.length ≤ 1000000) : Calls Try.prog 113 #[.slice a l.length cap] w fun en w' => ∃ g : Option Addr × Nat, en = .returned (.slice g.1 l.length g.2) ∧ True ∧ HS w [] [.own (.slice g.1 l.length g.2) 62 3 l.length (l.flatMap Lock.vals)] w' := by
  refine enter (args := [_]) Try.func113 Try.ntmps113 rfl rfl (HS.refl w []) ?_
  refine s_seq ?_
  refine s_region ?_
  refine o_p (p_pure rfl) rfl ?_
  refine o_nil ?_
  refine s_seq ?_
  refine s_seq ?_
  refine s_region ?_
  refine o_p (p_pure rfl) rfl ?_
  refine o_p (p_slice_nil_eql rfl rfl rfl Try.underlying46) rfl ?_
  refine o_nil ?_
  refine s_cond rfl (fun h1 => ?_) (fun h1 => ?_)
  · try simp only [decide_eq_true_eq, decide_eq_false_iff_not, Bool.not_eq_true', Bool.not_eq_false', Bool.and_eq_true, Bool.or_eq_true, Bool.and_eq_false_iff, Bool.or_eq_false_iff, Bool.not_true, Bool.not_false] at h1
    have ha0 : a = none := by cases a with | none => rfl | some b => simp at h1
    subst ha0
    have hl0 : l = [] := Rw.none hs
    refine s_seq ?_
    refine s_region ?_
    refine o_p (p_pure rfl) rfl ?_
    refine o_nil ?_
    exact s_retv (rs := [.tmp 2]) rfl (.tmp rfl (.nil)) (fun w' h' => ⟨(none, 0), by rw [hl0]; rfl, trivial, by rw [hl0]; exact (h'.own_nil 62 3).ent aEt⟩)
  · try simp only [decide_eq_true_eq, decide_eq_false_iff_not, Bool.not_eq_true', Bool.not_eq_false', Bool.and_eq_true, Bool.or_eq_true, Bool.and_eq_false_iff, Bool.or_eq_false_iff, Bool.not_true, Bool.not_false] at h1
    refine s_skip ?_
    refine s_seq ?_
    refine s_region ?_
    refine o_h (h_buildSlice0 rfl sl_46) rfl (fun b2 _ => ?_)
    refine o_p (p_pure rfl) rfl ?_
    refine o_h (h_appendS (l.flatMap Lock.vals) rfl rfl rfl sl_46 Try.underlying46 zr_62 rfl aPk (fun w h => Rw.src lv3 hs h) (flat_length lv3 l) (flat_one lv1 l) (by omega) (by simp only [maxLen]; omega)) rfl (fun b3 _ => ?_)
    refine o_p (p_pure rfl) rfl ?_
    refine o_nil ?_
    exact s_retv (rs := [.tmp 2]) rfl (.tmp rfl (.nil)) (fun w' h' => ⟨b3, by simp only [retV, Nat.zero_add], trivial, by have h2 := h'; simp only [Nat.zero_add, List.nil_append] at h2; exact h2.ent aEt⟩)

set_option maxRecDepth 20000 in
theorem c57 (w : World) (a : Option Addr) (cap : Nat) (l : List LOpn) (q : Nat) (cv : Array Value) (es : List Int) (hs : Rw LOpn.vals 5 w [] a l) (hm : l.length ≤ 1000000) (hq : isFn Try.prog q = true) (he : es.length = l.length) (hc : ∀ k w1, k < l.length → (∀ j, j < k → es.getD j 0 = 0) → HS w [] [] w1 → Calls Try.prog q (#[] ++ [.int .i64 (k : Int), .agg (LOpn.vals (nth l k)).toArray].toArray ++ cv) w1 fun en w2 => en = .returned (.int .i64 (es.getD k 0)) ∧ Below w1.heap.size w1 w2) : Calls Try.prog 57 #[.slice a l.length cap, .func (.func q) #[] cv] w fun en w' => en = .returned (.tuple #[.int .i64 (eachF es 0).1, .int .i64 (eachF es 0).2]) ∧ Below w.heap.size w w' := by
  refine enter (args := [_, _]) Try.func57 Try.ntmps57 rfl rfl (HS.refl w []) ?_
  refine s_seq ?_
  refine s_region ?_
  refine o_p (p_pure rfl) rfl ?_
  refine o_p (p_pure rfl) rfl ?_
  refine o_nil ?_
  refine s_seq ?_
  refine s_seq ?_
  refine s_region ?_
  refine o_p (p_pure rfl) rfl ?_
  refine o_p (p_len_slice rfl rfl Try.underlying75) rfl ?_
  refine o_p (p_pure rfl) rfl ?_
  refine o_nil ?_
  refine s_block ?_
  refine s_loopI (α := Nat) [4, 5, 6, 7, 8, 11, 12, 13, 14, 15, 16, 17, 18, 19, 20, 21, 22, 23, 24] (fun k => [(11, .int .i64 (k : Int))]) (fun _ => HS w [] []) (fun k => k ≤ l.length ∧ eachF es 0 = eachF (es.drop k) k ∧ ∀ j, j < k → es.getD j 0 = 0) (fun k => l.length - k) 0 ⟨by omega, rfl, fun i h => absurd h (Nat.not_lt_zero i)⟩ aSx (fun w h => h.ent aEt) (fun k hk => ?_)
  obtain ⟨hk1, hk2, hk3⟩ := hk
  refine s_seq ?_
  refine s_region ?_
  refine o_p (p_pure rfl) rfl ?_
  refine o_nil ?_
  refine s_seq ?_
  refine s_cond rfl (fun h1 => ?_) (fun h1 => ?_)
  · try simp only [decide_eq_true_eq, decide_eq_false_iff_not, Bool.not_eq_true', Bool.not_eq_false', Bool.and_eq_true, Bool.or_eq_true, Bool.and_eq_false_iff, Bool.or_eq_false_iff, Bool.not_true, Bool.not_false] at h1
    refine s_skip ?_
    refine s_seq ?_
    refine s_block ?_
    refine s_seq ?_
    refine s_region ?_
    refine o_p (p_pure rfl) rfl ?_
    refine o_p (p_indexAddr rfl rfl rfl sl_75 (k) (by omega) (by omega) (Rw.some hs (by omega))) rfl ?_
    refine o_q (q_load_oldn _ rfl rfl sz_48 rfl (Rw.rd hs (by omega))) rfl ?_
    refine o_h (h_alloc rfl zr_48) rfl (fun b2 _ => ?_)
    refine o_p (p_pure rfl) rfl ?_
    refine o_h0 (h_store rfl rfl rfl sz_48 rfl aPt (by simp only [setMany_length, List.length_set, List.length_cons, List.length_nil, List.length_map]; omega) rfl) (fun _ _ => ?_)
    refine o_nil ?_
    refine s_seq ?_
    refine s_region ?_
    refine o_p (p_pure rfl) rfl ?_
    refine o_p (p_pure rfl) rfl ?_
    refine o_q (q_loadn rfl rfl sz_48 aPk rfl) rfl ?_
    refine o_q (q_callv rfl rfl hq rfl (fun w1 h1 => hc k w1 (by omega) hk3 (h1.ent aEt))) rfl ?_
    refine o_p (p_pure rfl) rfl ?_
    refine o_nil ?_
    refine s_seq ?_
    refine s_region ?_
    refine o_p (p_pure rfl) rfl ?_
    refine o_p (p_pure rfl) rfl ?_
    refine o_nil ?_
    refine s_cond rfl (fun h3 => ?_) (fun h3 => ?_)
    · try simp only [decide_eq_true_eq, decide_eq_false_iff_not, Bool.not_eq_true', Bool.not_eq_false', Bool.and_eq_true, Bool.or_eq_true, Bool.and_eq_false_iff, Bool.or_eq_false_iff, Bool.not_true, Bool.not_false] at h3
      refine s_seq ?_
      refine s_region ?_
      refine o_p (p_pure rfl) rfl ?_
      refine o_p (p_pure rfl) rfl ?_
      refine o_p (p_pure rfl) rfl ?_
      refine o_p (p_pure rfl) rfl ?_
      refine o_nil ?_
      exact s_retv (rs := [.tmp 4, .tmp 5]) rfl (.tmp rfl (.tmp rfl (.nil))) (fun w' h' => ⟨by simp only [retV]; rw [hk2, eachF_drop (by omega), if_neg (by assumption)], h'.below⟩)
    · try simp only [decide_eq_true_eq, decide_eq_false_iff_not, Bool.not_eq_true', Bool.not_eq_false', Bool.and_eq_true, Bool.or_eq_true, Bool.and_eq_false_iff, Bool.or_eq_false_iff, Bool.not_true, Bool.not_false] at h3
      refine s_skip ?_
      refine s_blk ?_
      refine s_region ?_
      refine o_p (p_pure rfl) rfl ?_
      try (refine o_slot (i64w (by omega) (by omega)) ?_)
      refine o_p (p_pure rfl) rfl ?_
      refine o_nil ?_
      exact s_backI (k+1) (by omega) ⟨by omega, by rw [hk2, eachF_drop (by omega), if_pos (by assumption)], fun j hj => (Nat.lt_or_ge j k).elim (hk3 j) (fun h => by obtain rfl : j = k := (by omega); assumption)⟩ aSx (fun w h => h.ent aEt)
  · try simp only [decide_eq_true_eq, decide_eq_false_iff_not, Bool.not_eq_true', Bool.not_eq_false', Bool.and_eq_true, Bool.or_eq_true, Bool.and_eq_false_iff, Bool.or_eq_false_iff, Bool.not_true, Bool.not_false] at h1
    refine s_exit_to rfl ?_
    refine s_seq ?_
    refine s_region ?_
    refine o_p (p_pure rfl) rfl ?_
    refine o_p (p_pure rfl) rfl ?_
    refine o_nil ?_
    exact s_retv (rs := [.tmp 4, .tmp 5]) rfl (.tmp rfl (.tmp rfl (.nil))) (fun w' h' => ⟨by simp only [retV]; rw [hk2, eachF_end (by omega)], h'.below⟩)

set_option maxRecDepth 20000 in
theorem c120 (w : World) (a : Option Addr) (cap : Nat) (l : List LOpn) (q : Nat) (cv : Array Value) (bt : List Bool) (hs : Rw LOpn.vals 5 w [] a l) (hm : l.length ≤ 1000000) (hq : isFn Try.prog q = true) (hb : bt.length = l.length) (hc : ∀ k w1, k < l.length → HS w [] [] w1 → Calls Try.prog q (#[] ++ [.agg (LOpn.vals (nth l k)).toArray].toArray ++ cv) w1 fun en w2 => en = .returned (.bool (bt.getD k false)) ∧ Below w1.heap.size w1 w2) : Calls Try.prog 120 #[.slice a l.length cap, .func (.func q) #[] cv] w fun en w' => en = .returned (.int .i64 (ixI bt)) ∧ Below w.heap.size w w' := by
  refine enter (args := [_, _]) Try.func120 Try.ntmps120 rfl rfl (HS.refl w []) ?_
  refine s_seq ?_
  refine s_region ?_
  refine o_p (p_pure rfl) rfl ?_
  refine o_nil ?_
  refine s_seq ?_
  refine s_seq ?_
  refine s_region ?_
  refine o_p (p_pure rfl) rfl ?_
  refine o_p (p_len_slice rfl rfl Try.underlying75) rfl ?_
  refine o_p (p_pure rfl) rfl ?_
  refine o_nil ?_
  refine s_block ?_
  refine s_loopI (α := Nat) [4, 5, 8, 9, 10, 11, 12, 13, 14, 15, 16, 17, 18] (fun k => [(8, .int .i64 (k : Int))]) (fun _ => _) (fun k => k ≤ l.length ∧ ∀ i, i < k → bt.getD i false = false) (fun k => l.length - k) 0 ⟨by omega, fun i h => absurd h (Nat.not_lt_zero i)⟩ aSx (fun w h => h) (fun k hk => ?_)
  obtain ⟨hk1, hk2⟩ := hk
  refine s_seq ?_
  refine s_region ?_
  refine o_p (p_pure rfl) rfl ?_
  refine o_nil ?_
  refine s_seq ?_
  refine s_cond rfl (fun h1 => ?_) (fun h1 => ?_)
  · try simp only [decide_eq_true_eq, decide_eq_false_iff_not, Bool.not_eq_true', Bool.not_eq_false', Bool.and_eq_true, Bool.or_eq_true, Bool.and_eq_false_iff, Bool.or_eq_false_iff, Bool.not_true, Bool.not_false] at h1
    refine s_skip ?_
    refine s_seq ?_
    refine s_block ?_
    refine s_seq ?_
    refine s_region ?_
    refine o_p (p_pure rfl) rfl ?_
    refine o_p (p_pure rfl) rfl ?_
    refine o_nil ?_
    refine s_seq ?_
    refine s_region ?_
    refine o_p (p_pure rfl) rfl ?_
    refine o_p (p_pure rfl) rfl ?_
    refine o_p (p_pure rfl) rfl ?_
    refine o_p (p_indexAddr rfl rfl rfl sl_75 (k) (by omega) (by omega) (Rw.some hs (by omega))) rfl ?_
    refine o_q (q_load_oldn _ rfl rfl sz_48 rfl (Rw.rd hs (by omega))) rfl ?_
    refine o_q (q_callv rfl rfl hq rfl (fun w1 h1 => hc k w1 (by omega) (h1.ent aEt))) rfl ?_
    refine o_nil ?_
    refine s_cond rfl (fun h2 => ?_) (fun h2 => ?_)
    · try simp only [decide_eq_true_eq, decide_eq_false_iff_not, Bool.not_eq_true', Bool.not_eq_false', Bool.and_eq_true, Bool.or_eq_true, Bool.and_eq_false_iff, Bool.or_eq_false_iff, Bool.not_true, Bool.not_false] at h2
      refine s_seq ?_
      refine s_region ?_
      refine o_p (p_pure rfl) rfl ?_
      refine o_p (p_pure rfl) rfl ?_
      refine o_nil ?_
      exact s_retv (rs := [.tmp 4]) rfl (.tmp rfl (.nil)) (fun w' h' => ⟨by have e := ixB_eq (l := bt) (k := k) (by omega) hk2 (fun _ => by assumption); simp only [retV, ixI, e]; rw [if_pos (by omega)], h'.below⟩)
    · try simp only [decide_eq_true_eq, decide_eq_false_iff_not, Bool.not_eq_true', Bool.not_eq_false', Bool.and_eq_true, Bool.or_eq_true, Bool.and_eq_false_iff, Bool.or_eq_false_iff, Bool.not_true, Bool.not_false] at h2
      refine s_skip ?_
      refine s_blk ?_
      refine s_region ?_
      refine o_p (p_pure rfl) rfl ?_
      try (refine o_slot (i64w (by omega) (by omega)) ?_)
      refine o_p (p_pure rfl) rfl ?_
      refine o_nil ?_
      exact s_backI (k+1) (by omega) ⟨by omega, fun i hi => (Nat.lt_or_ge i k).elim (hk2 i) (fun h => by obtain rfl : i = k := (by omega); assumption)⟩ aSx (fun w h => h)
  · try simp only [decide_eq_true_eq, decide_eq_false_iff_not, Bool.not_eq_true', Bool.not_eq_false', Bool.and_eq_true, Bool.or_eq_true, Bool.and_eq_false_iff, Bool.or_eq_false_iff, Bool.not_true, Bool.not_false] at h1
    refine s_exit_to rfl ?_
    refine s_seq ?_
    refine s_region ?_
    refine o_p (p_pure rfl) rfl ?_
    refine o_nil ?_
    exact s_retv (rs := [.tmp 4]) rfl (.tmp rfl (.nil)) (fun w' h' => ⟨by have e := ixB_eq (l := bt) (k := k) (by omega) hk2 (fun h => by omega); simp only [retV, ixI, e]; rw [if_neg (by omega)], h'.below⟩)

set_option maxRecDepth 20000 in
theorem c95 (w : World) (a : Option Addr) (cap : Nat) (l : List LOpn) (q : Nat) (cv : Array Value) (bt : List Bool) (hs : Rw LOpn.vals 5 w [] a l) (hm : l.length ≤ 1000000) (hq : isFn Try.prog q = true) (hb : bt.length = l.length) (hc : ∀ k w1, k < l.length → HS w [] [] w1 → Calls Try.prog q (#[] ++ [.agg (LOpn.vals (nth l k)).toArray].toArray ++ cv) w1 fun en w2 => en = .returned (.bool (bt.getD k false)) ∧ Below w1.heap.size w1 w2) : Calls Try.prog 95 #[.slice a l.length cap, .func (.func q) #[] cv] w fun en w' => en = .returned (.bool (bt.any id)) ∧ Below w.heap.size w w' := by
  refine enter (args := [_, _]) Try.func95 Try.ntmps95 rfl rfl (HS.refl w []) ?_
  refine s_seq ?_
  refine s_region ?_
  refine o_p (p_pure rfl) rfl ?_
  refine o_nil ?_
  refine s_seq ?_
  refine s_region ?_
  refine o_p (p_pure rfl) rfl ?_
  refine o_p (p_pure rfl) rfl ?_
  refine o_q (q_call rfl fn_120 rfl (fun w1 h1 => c120 w1 a cap l q cv bt (hs.later h1) hm hq hb (fun k w2 hk h2 => hc k w2 hk (by simpa using h1.call h2)))) rfl ?_
  refine o_p (p_pure rfl) rfl ?_
  refine o_p (p_pure rfl) rfl ?_
  refine o_nil ?_
  exact s_retv (rs := [.tmp 4]) rfl (.tmp rfl (.nil)) (fun w' h' => ⟨by simp only [retV]; rw [← ixI_any], h'.below⟩)

set_option maxRecDepth 20000 in
theorem c112 (w : World) (a : Option Addr) (cap : Nat) (l : List LOpn) (hs : Rw LOpn.vals 5 w [] a l) (hm : l.length ≤ 1000000) : Calls Try.prog 112 #[.slice a l.length cap] w fun en w' => ∃ g : Option Addr × Nat, en = .returned (.slice g.1 l.length g.2) ∧ True ∧ HS w [] [.own (.slice g.1 l.length g.2) 48 5 l.length (l.flatMap LOpn.vals)] w' := by
  refine enter (args := [_]) Try.func112 Try.ntmps112 rfl rfl (HS.refl w []) ?_
  refine s_seq ?_
  refine s_region ?_
  refine o_p (p_pure rfl) rfl ?_
  refine o_nil ?_
  refine s_seq ?_
  refine s_seq ?_
  refine s_region ?_
  refine o_p (p_pure rfl) rfl ?_
  refine o_p (p_slice_nil_eql rfl rfl rfl Try.underlying75) rfl ?_
  refine o_nil ?_
  refine s_cond rfl (fun h1 => ?_) (fun h1 => ?_)
  · try simp only [decide_eq_true_eq, decide_eq_false_iff_not, Bool.not_eq_true', Bool.not_eq_false', Bool.and_eq_true, Bool.or_eq_true, Bool.and_eq_false_iff, Bool.or_eq_false_iff, Bool.not_true, Bool.not_false] at h1
    have ha0 : a = none := by cases a with | none => rfl | some b => simp at h1
    subst ha0
    have hl0 : l = [] := Rw.none hs
    refine s_seq ?_
    refine s_region ?_
    refine o_p (p_pure rfl) rfl ?_
    refine o_nil ?_
    exact s_retv (rs := [.tmp 2]) rfl (.tmp rfl (.nil)) (fun w' h' => ⟨(none, 0), by rw [hl0]; rfl, trivial, by rw [hl0]; exact (h'.own_nil 48 5).ent aEt⟩)
  · try simp only [decide_eq_true_eq, decide_eq_false_iff_not, Bool.not_eq_true', Bool.not_eq_false', Bool.and_eq_true, Bool.or_eq_true, Bool.and_eq_false_iff, Bool.or_eq_false_iff, Bool.not_true, Bool.not_false] at h1
    refine s_skip ?_
    refine s_seq ?_
    refine s_region ?_
    refine o_h (h_buildSlice0 rfl sl_75) rfl (fun b2 _ => ?_)
    refine o_p (p_pure rfl) rfl ?_
    refine o_h (h_appendS (l.flatMap LOpn.vals) rfl rfl rfl sl_75 Try.underlying75 zr_48 rfl aPk (fun w h => Rw.src ov5 hs h) (flat_length ov5 l) (flat_one ov1 l) (by omega) (by simp only [maxLen]; omega)) rfl (fun b3 _ => ?_)
    refine o_p (p_pure rfl) rfl ?_
    refine o_nil ?_
    exact s_retv (rs := [.tmp 2]) rfl (.tmp rfl (.nil)) (fun w' h' => ⟨b3, by simp only [retV, Nat.zero_add], trivial, by have h2 := h'; simp only [Nat.zero_add, List.nil_append] at h2; exact h2.ent aEt⟩)

set_option maxRecDepth 20000 in
theorem c111 (w : World) (a : Option Addr) (cap : Nat) (l : List LFil) (hs : Rw LFil.vals 4 w [] a l) (hm : l.length ≤ 1000000) : Calls Try.prog 111 #[.slice a l.length cap] w fun en w' => ∃ g : Option Addr × Nat, en = .returned (.slice g.1 l.length g.2) ∧ True ∧ HS w [] [.own (.slice g.1 l.length g.2) 77 4 l.length (l.flatMap LFil.vals)] w' := by
  refine enter (args := [_]) Try.func111 Try.ntmps111 rfl rfl (HS.refl w []) ?_
  refine s_seq ?_
  refine s_region ?_
  refine o_p (p_pure rfl) rfl ?_
  refine o_nil ?_
  refine s_seq ?_
  refine s_seq ?_
  refine s_region ?_
  refine o_p (p_pure rfl) rfl ?_
  refine o_p (p_slice_nil_eql rfl rfl rfl Try.underlying24) rfl ?_
  refine o_nil ?_
  refine s_cond rfl (fun h1 => ?_) (fun h1 => ?_)
  · try simp only [decide_eq_true_eq, decide_eq_false_iff_not, Bool.not_eq_true', Bool.not_eq_false', Bool.and_eq_true, Bool.or_eq_true, Bool.and_eq_false_iff, Bool.or_eq_false_iff, Bool.not_true, Bool.not_false] at h1
    have ha0 : a = none := by cases a with | none => rfl | some b => simp at h1
    subst ha0
    have hl0 : l = [] := Rw.none hs
    refine s_seq ?_
    refine s_region ?_
    refine o_p (p_pure rfl) rfl ?_
    refine o_nil ?_
    exact s_retv (rs := [.tmp 2]) rfl (.tmp rfl (.nil)) (fun w' h' => ⟨(none, 0), by rw [hl0]; rfl, trivial, by rw [hl0]; exact (h'.own_nil 77 4).ent aEt⟩)
  · try simp only [decide_eq_true_eq, decide_eq_false_iff_not, Bool.not_eq_true', Bool.not_eq_false', Bool.and_eq_true, Bool.or_eq_true, Bool.and_eq_false_iff, Bool.or_eq_false_iff, Bool.not_true, Bool.not_false] at h1
    refine s_skip ?_
    refine s_seq ?_
    refine s_region ?_
    refine o_h (h_buildSlice0 rfl sl_24) rfl (fun b2 _ => ?_)
    refine o_p (p_pure rfl) rfl ?_
    refine o_h (h_appendS (l.flatMap LFil.vals) rfl rfl rfl sl_24 Try.underlying24 zr_77 rfl aPk (fun w h => Rw.src fv4 hs h) (flat_length fv4 l) (flat_one fv1 l) (by omega) (by simp only [maxLen]; omega)) rfl (fun b3 _ => ?_)
    refine o_p (p_pure rfl) rfl ?_
    refine o_nil ?_
    exact s_retv (rs := [.tmp 2]) rfl (.tmp rfl (.nil)) (fun w' h' => ⟨b3, by simp only [retV, Nat.zero_add], trivial, by have h2 := h'; simp only [Nat.zero_add, List.nil_append] at h2; exact h2.ent aEt⟩)

end Go.Proofs

namespace Go.Proofs
open Go Go.RowKit Gx
set_option linter.unusedVariables false
set_option linter.unusedSimpArgs false
attribute [local irreducible] Go.Calls Gx.S Gx.O Gx.D Gx.OpP Gx.OpQ Gx.OpH

theorem fd_42_0 : tfd Try.prog 42 0 = some (0, 3) := by kernel_rfl
theorem sz_3 : tsz Try.prog 3 = some (1, false) := by kernel_rfl
theorem fn_49 : isFn Try.prog 49 = true := by kernel_rfl
theorem fd_42_1 : tfd Try.prog 42 1 = some (1, 3) := by kernel_rfl
theorem fn_48 : isFn Try.prog 48 = true := by kernel_rfl
theorem fn_16 : isFn Try.prog 16 = true := by kernel_rfl
theorem fd_48_1 : tfd Try.prog 48 1 = some (1, 3) := by kernel_rfl
theorem fd_48_2 : tfd Try.prog 48 2 = some (2, 3) := by kernel_rfl
theorem fn_104 : isFn Try.prog 104 = true := by kernel_rfl
theorem fn_71 : isFn Try.prog 71 = true := by kernel_rfl
theorem fn_64 : isFn Try.prog 64 = true := by kernel_rfl
theorem fd_62_0 : tfd Try.prog 62 0 = some (0, 3) := by kernel_rfl
theorem fd_62_1 : tfd Try.prog 62 1 = some (1, 3) := by kernel_rfl
theorem fn_124 : isFn Try.prog 124 = true := by kernel_rfl
theorem fd_62_2 : tfd Try.prog 62 2 = some (2, 4) := by kernel_rfl
theorem sz_4 : tsz Try.prog 4 = some (1, false) := by kernel_rfl
theorem fn_79 : isFn Try.prog 79 = true := by kernel_rfl
theorem fn_119 : isFn Try.prog 119 = true := by kernel_rfl
theorem sl_38 : tsl Try.prog 38 = some (3, 1, 8) := by kernel_rfl
theorem fn_91 : isFn Try.prog 91 = true := by kernel_rfl
theorem fn_90 : isFn Try.prog 90 = true := by kernel_rfl
theorem mixed : Try.prog.follows .mixedOrders = true := by kernel_rfl
theorem zr_3 : tzero Try.prog 3 = some [.int .i64 0] := by kernel_rfl


def cmpI (x y : Int) : Int := if x < y then -1 else if y < x then 1 else 0
def cmp2 (a b : Int × Int) : Int := firstI [cmpI a.1 b.1, cmpI a.2 b.2]
theorem cmp2_lt (a b : Int × Int) : decide (cmp2 a b < 0) = refLt a b := by
  unfold cmp2 refLt
  simp only [firstI, cmpI]
  repeat' split
  all_goals first
    | (simp; omega)
    | (simp; done)
    | grind
theorem cmp2_eq (a b : Int × Int) : cmp2 a b = 0 ↔ a = b := by
  obtain ⟨a1, a2⟩ := a
  obtain ⟨b1, b2⟩ := b
  unfold cmp2
  simp only [firstI, cmpI, Prod.mk.injEq]
  repeat' split
  all_goals first
    | omega
    | (simp; omega)
theorem rngE_r {fr cnt : Int} (h : rngE fr cnt = 0) : 0 ≤ fr ∧ fr ≤ 2147483647 ∧ 1 ≤ cnt ∧ cnt ≤ 2147483647 - fr := by
  unfold rngE at h
  split at h
  · omega
  · cases h
theorem openE_r {ac sh : Int} (h : openE ac sh = 0) : 1 ≤ ac ∧ ac ≤ 7 ∧ 0 ≤ sh ∧ sh ≤ 7 := by
  unfold openE at h
  split at h
  · omega
  · cases h
theorem not_all : ((List.range 8).all fun n => (List.range 8).all fun m => ((!decide (bits .andNot .i64 (n : Int) (m : Int) = 0)) == missN n m)) = true := by decide +kernel
theorem andNot_8 {x y : Int} (hx : 0 ≤ x ∧ x ≤ 7) (hy : 0 ≤ y ∧ y ≤ 7) : (!decide (bits .andNot .i64 x y = 0)) = missN x.toNat y.toNat := by
  have h := not_all
  rw [List.all_eq_true] at h
  have h1 := h x.toNat (List.mem_range.2 (by omega))
  rw [List.all_eq_true] at h1
  have h2 := h1 y.toNat (List.mem_range.2 (by omega))
  rw [Int.toNat_of_nonneg hx.1, Int.toNat_of_nonneg hy.1] at h2
  exact eq_of_beq h2
theorem has_all : ((List.range 8).all fun n => ([1, 2, 4] : List Nat).all fun m => (decide ((n : Int) / (m : Int) % 2 = 1) == decide (n / m % 2 = 1))) = true := by decide +kernel
def hasB (x : Int) (m : Nat) : Bool := decide (x.toNat / m % 2 = 1)
theorem has_8 {x : Int} (hx : 0 ≤ x ∧ x ≤ 7) {m : Nat} (hm : m = 1 ∨ m = 2 ∨ m = 4) : decide (x / (m : Int) % 2 = 1) = hasB x m := by
  have h := has_all
  rw [List.all_eq_true] at h
  have h1 := h x.toNat (List.mem_range.2 (by omega))
  rw [List.all_eq_true] at h1
  have h2 := h1 m (by rcases hm with rfl | rfl | rfl <;> simp)
  rw [Int.toNat_of_nonneg hx.1] at h2
  exact eq_of_beq h2
theorem miss_has (x y : Int) : missN x.toNat y.toNat = ((hasB x 1 && !hasB y 1) || (hasB x 2 && !hasB y 2) || (hasB x 4 && !hasB y 4)) := by
  unfold missN hasB
  rw [Nat.div_one, Nat.div_one]
  have e : ∀ n m : Nat, decide (n % 2 = 1 ∧ m % 2 = 0) = (decide (n % 2 = 1) && !decide (m % 2 = 1)) := fun n m => by
    rcases Nat.mod_two_eq_zero_or_one n with h | h <;> rcases Nat.mod_two_eq_zero_or_one m with h2 | h2 <;> simp [h, h2]
  rw [e, e, e]
def pk3 : Nat → Int
  | 0 => 1
  | 1 => 2
  | 2 => 4
  | _ => 8

set_option maxRecDepth 20000 in
theorem c55 (w : World) (rc sq : Int) : Calls Try.prog 55 #[.agg #[.int .i64 rc, .int .i64 sq]] w fun en w' => en = .returned (.int .i64 (refE rc sq)) ∧ Below w.heap.size w w' := by
  refine enter (args := [_]) Try.func55 Try.ntmps55 rfl rfl (HS.refl w []) ?_
  refine s_seq ?_
  refine s_region ?_
  refine o_h (h_box rfl rfl) rfl (fun b1 _ => ?_)
  refine o_p (p_pure rfl) rfl ?_
  refine o_nil ?_
  refine s_seq ?_
  refine s_region ?_
  refine o_p (p_fieldAddr rfl rfl fd_42_0 sz_3 rfl) rfl ?_
  refine o_q (q_load rfl rfl sz_3 aPk rfl) rfl ?_
  refine o_q (q_call rfl fn_49 rfl (fun w1 h1 => c49 w1 _ _ _)) rfl ?_
  refine o_p (p_pure rfl) rfl ?_
  refine o_and 4 6 10 _ _ rfl
    (by
      intro hg2
      have hs3 := hg2; try simp only [decide_eq_true_eq, decide_eq_false_iff_not, Bool.not_eq_true', Bool.not_eq_false', Bool.and_eq_true, Bool.or_eq_true, Bool.and_eq_false_iff, Bool.or_eq_false_iff, Bool.not_true, Bool.not_false] at hs3
      refine o_on 6 _ rfl rfl hg2 ?_
      refine o_p (p_fieldAddr rfl rfl fd_42_1 sz_3 rfl) rfl ?_
      refine o_on 6 _ rfl rfl hg2 ?_
      refine o_q (q_load rfl rfl sz_3 aPk rfl) rfl ?_
      refine o_on 6 _ rfl rfl hg2 ?_
      refine o_q (q_call rfl fn_49 rfl (fun w1 h1 => c49 w1 _ _ _)) rfl ?_
      refine o_p (p_pickt rfl rfl hg2 rfl) rfl ?_
      refine o_nil ?_
      exact s_joinN 4 10 _ rfl rfl rfl (fun w h => by first | exact h | exact h.ent aEt))
    (by
      intro hg4
      have hs5 := hg4; try simp only [decide_eq_true_eq, decide_eq_false_iff_not, Bool.not_eq_true', Bool.not_eq_false', Bool.and_eq_true, Bool.or_eq_true, Bool.and_eq_false_iff, Bool.or_eq_false_iff, Bool.not_true, Bool.not_false] at hs5
      refine o_off 6 _ rfl rfl hg4 rfl ?_
      refine o_off 6 _ rfl rfl hg4 rfl ?_
      refine o_off 6 _ rfl rfl hg4 rfl ?_
      refine o_p (p_pickf rfl rfl hg4 rfl) rfl ?_
      refine o_nil ?_
      exact s_joinN 4 10 _ rfl rfl rfl (fun w h => by first | exact h | exact h.ent aEt)) ?_
  refine o_q (q_call rfl fn_48 rfl (fun w1 h1 => c48 w1 _ _)) rfl ?_
  refine o_p (p_pure rfl) rfl ?_
  refine o_nil ?_
  exact s_retv (rs := [.tmp 2]) rfl (.tmp rfl (.nil)) (fun w' h' => ⟨by simp only [retV, refE]; grind, h'.below⟩)

set_option maxRecDepth 20000 in
theorem c32 (w : World) (rc sq : Int) : Calls Try.prog 32 #[.agg #[.int .i64 rc, .int .i64 sq]] w fun en w' => en = .returned (.int .i64 (refE rc sq)) ∧ Below w.heap.size w w' := by
  refine enter (args := [_]) Try.func32 Try.ntmps32 rfl rfl (HS.refl w []) ?_
  refine s_seq ?_
  refine s_region ?_
  refine o_h (h_box rfl rfl) rfl (fun b1 _ => ?_)
  refine o_p (p_pure rfl) rfl ?_
  refine o_nil ?_
  refine s_seq ?_
  refine s_seq ?_
  refine s_region ?_
  refine o_p (p_fieldAddr rfl rfl fd_42_0 sz_3 rfl) rfl ?_
  refine o_q (q_load rfl rfl sz_3 aPk rfl) rfl ?_
  refine o_q (q_call rfl fn_16 rfl (fun w1 h1 => c16 w1 _ _ _)) rfl ?_
  refine o_p (p_pure rfl) rfl ?_
  refine o_p (p_pure rfl) rfl ?_
  refine o_or 5 7 12 _ _ rfl
    (by
      intro hg2
      have hs3 := hg2; try simp only [decide_eq_true_eq, decide_eq_false_iff_not, Bool.not_eq_true', Bool.not_eq_false', Bool.and_eq_true, Bool.or_eq_true, Bool.and_eq_false_iff, Bool.or_eq_false_iff, Bool.not_true, Bool.not_false] at hs3
      refine o_on 7 _ rfl rfl hg2 ?_
      refine o_p (p_fieldAddr rfl rfl fd_42_1 sz_3 rfl) rfl ?_
      refine o_on 7 _ rfl rfl hg2 ?_
      refine o_q (q_load rfl rfl sz_3 aPk rfl) rfl ?_
      refine o_on 7 _ rfl rfl hg2 ?_
      refine o_q (q_call rfl fn_16 rfl (fun w1 h1 => c16 w1 _ _ _)) rfl ?_
      refine o_on 7 _ rfl rfl hg2 ?_
      refine o_p (p_pure rfl) rfl ?_
      refine o_p (p_pickf rfl rfl hg2 rfl) rfl ?_
      refine o_nil ?_
      exact s_joinN 5 12 _ rfl rfl rfl (fun w h => by first | exact h | exact h.ent aEt))
    (by
      intro hg4
      have hs5 := hg4; try simp only [decide_eq_true_eq, decide_eq_false_iff_not, Bool.not_eq_true', Bool.not_eq_false', Bool.and_eq_true, Bool.or_eq_true, Bool.and_eq_false_iff, Bool.or_eq_false_iff, Bool.not_true, Bool.not_false] at hs5
      refine o_off 7 _ rfl rfl hg4 rfl ?_
      refine o_off 7 _ rfl rfl hg4 rfl ?_
      refine o_off 7 _ rfl rfl hg4 rfl ?_
      refine o_off 7 _ rfl rfl hg4 rfl ?_
      refine o_p (p_pickt rfl rfl hg4 rfl) rfl ?_
      refine o_nil ?_
      exact s_joinN 5 12 _ rfl rfl rfl (fun w h => by first | exact h | exact h.ent aEt)) ?_
  refine o_nil ?_
  refine s_cond rfl (fun h6 => ?_) (fun h6 => ?_)
  · try simp only [decide_eq_true_eq, decide_eq_false_iff_not, Bool.not_eq_true', Bool.not_eq_false', Bool.and_eq_true, Bool.or_eq_true, Bool.and_eq_false_iff, Bool.or_eq_false_iff, Bool.not_true, Bool.not_false] at h6
    refine s_seq ?_
    refine s_region ?_
    refine o_p (p_pure rfl) rfl ?_
    refine o_nil ?_
    exact s_retv (rs := [.tmp 2]) rfl (.tmp rfl (.nil)) (fun w' h' => ⟨by simp only [retV, refE]; grind, h'.below⟩)
  · try simp only [decide_eq_true_eq, decide_eq_false_iff_not, Bool.not_eq_true', Bool.not_eq_false', Bool.and_eq_true, Bool.or_eq_true, Bool.and_eq_false_iff, Bool.or_eq_false_iff, Bool.not_true, Bool.not_false] at h6
    refine s_skip ?_
    refine s_seq ?_
    refine s_region ?_
    refine o_p (p_pure rfl) rfl ?_
    refine o_nil ?_
    exact s_retv (rs := [.tmp 2]) rfl (.tmp rfl (.nil)) (fun w' h' => ⟨by simp only [retV, refE]; grind, h'.below⟩)

set_option maxRecDepth 20000 in
theorem c62 (w : World) (o : LOpn) : Calls Try.prog 62 #[.agg #[.int .i64 o.hd, .int .i64 o.ac, .int .i64 o.sh, .bool o.dl, .slice o.la o.lk.length o.lc]] w fun en w' => en = .returned (.int .i64 (openE o.ac o.sh)) ∧ Below w.heap.size w w' := by
  refine enter (args := [_]) Try.func62 Try.ntmps62 rfl rfl (HS.refl w []) ?_
  refine s_seq ?_
  refine s_region ?_
  refine o_h (h_box rfl rfl) rfl (fun b1 _ => ?_)
  refine o_p (p_pure rfl) rfl ?_
  refine o_nil ?_
  refine s_seq ?_
  refine s_region ?_
  refine o_p (p_fieldAddr rfl rfl fd_48_1 sz_3 rfl) rfl ?_
  refine o_q (q_load rfl rfl sz_3 aPk rfl) rfl ?_
  refine o_q (q_call rfl fn_49 rfl (fun w1 h1 => c49 w1 _ _ _)) rfl ?_
  refine o_p (p_pure rfl) rfl ?_
  refine o_and 4 6 10 _ _ rfl
    (by
      intro hg2
      have hs3 := hg2; try simp only [decide_eq_true_eq, decide_eq_false_iff_not, Bool.not_eq_true', Bool.not_eq_false', Bool.and_eq_true, Bool.or_eq_true, Bool.and_eq_false_iff, Bool.or_eq_false_iff, Bool.not_true, Bool.not_false] at hs3
      refine o_on 6 _ rfl rfl hg2 ?_
      refine o_p (p_fieldAddr rfl rfl fd_48_2 sz_3 rfl) rfl ?_
      refine o_on 6 _ rfl rfl hg2 ?_
      refine o_q (q_load rfl rfl sz_3 aPk rfl) rfl ?_
      refine o_on 6 _ rfl rfl hg2 ?_
      refine o_q (q_call rfl fn_49 rfl (fun w1 h1 => c49 w1 _ _ _)) rfl ?_
      refine o_p (p_pickt rfl rfl hg2 rfl) rfl ?_
      refine o_nil ?_
      exact s_joinN 4 10 _ rfl rfl rfl (fun w h => by first | exact h | exact h.ent aEt))
    (by
      intro hg4
      have hs5 := hg4; try simp only [decide_eq_true_eq, decide_eq_false_iff_not, Bool.not_eq_true', Bool.not_eq_false', Bool.and_eq_true, Bool.or_eq_true, Bool.and_eq_false_iff, Bool.or_eq_false_iff, Bool.not_true, Bool.not_false] at hs5
      refine o_off 6 _ rfl rfl hg4 rfl ?_
      refine o_off 6 _ rfl rfl hg4 rfl ?_
      refine o_off 6 _ rfl rfl hg4 rfl ?_
      refine o_p (p_pickf rfl rfl hg4 rfl) rfl ?_
      refine o_nil ?_
      exact s_joinN 4 10 _ rfl rfl rfl (fun w h => by first | exact h | exact h.ent aEt)) ?_
  refine o_q (q_call rfl fn_48 rfl (fun w1 h1 => c48 w1 _ _)) rfl ?_
  refine o_p (p_pure rfl) rfl ?_
  refine o_nil ?_
  exact s_retv (rs := [.tmp 2]) rfl (.tmp rfl (.nil)) (fun w' h' => ⟨by simp only [retV, openE]; grind, h'.below⟩)

set_option maxRecDepth 20000 in
theorem c22 (w : World) (o : LOpn) : Calls Try.prog 22 #[.agg #[.int .i64 o.hd, .int .i64 o.ac, .int .i64 o.sh, .bool o.dl, .slice o.la o.lk.length o.lc]] w fun en w' => en = .returned (.int .i64 (openE o.ac o.sh)) ∧ Below w.heap.size w w' := by
  refine enter (args := [_]) Try.func22 Try.ntmps22 rfl rfl (HS.refl w []) ?_
  refine s_seq ?_
  refine s_region ?_
  refine o_h (h_box rfl rfl) rfl (fun b1 _ => ?_)
  refine o_p (p_pure rfl) rfl ?_
  refine o_nil ?_
  refine s_seq ?_
  refine s_seq ?_
  refine s_region ?_
  refine o_p (p_fieldAddr rfl rfl fd_48_1 sz_3 rfl) rfl ?_
  refine o_q (q_load rfl rfl sz_3 aPk rfl) rfl ?_
  refine o_q (q_call rfl fn_16 rfl (fun w1 h1 => c16 w1 _ _ _)) rfl ?_
  refine o_p (p_pure rfl) rfl ?_
  refine o_p (p_pure rfl) rfl ?_
  refine o_or 5 7 12 _ _ rfl
    (by
      intro hg2
      have hs3 := hg2; try simp only [decide_eq_true_eq, decide_eq_false_iff_not, Bool.not_eq_true', Bool.not_eq_false', Bool.and_eq_true, Bool.or_eq_true, Bool.and_eq_false_iff, Bool.or_eq_false_iff, Bool.not_true, Bool.not_false] at hs3
      refine o_on 7 _ rfl rfl hg2 ?_
      refine o_p (p_fieldAddr rfl rfl fd_48_2 sz_3 rfl) rfl ?_
      refine o_on 7 _ rfl rfl hg2 ?_
      refine o_q (q_load rfl rfl sz_3 aPk rfl) rfl ?_
      refine o_on 7 _ rfl rfl hg2 ?_
      refine o_q (q_call rfl fn_16 rfl (fun w1 h1 => c16 w1 _ _ _)) rfl ?_
      refine o_on 7 _ rfl rfl hg2 ?_
      refine o_p (p_pure rfl) rfl ?_
      refine o_p (p_pickf rfl rfl hg2 rfl) rfl ?_
      refine o_nil ?_
      exact s_joinN 5 12 _ rfl rfl rfl (fun w h => by first | exact h | exact h.ent aEt))
    (by
      intro hg4
      have hs5 := hg4; try simp only [decide_eq_true_eq, decide_eq_false_iff_not, Bool.not_eq_true', Bool.not_eq_false', Bool.and_eq_true, Bool.or_eq_true, Bool.and_eq_false_iff, Bool.or_eq_false_iff, Bool.not_true, Bool.not_false] at hs5
      refine o_off 7 _ rfl rfl hg4 rfl ?_
      refine o_off 7 _ rfl rfl hg4 rfl ?_
      refine o_off 7 _ rfl rfl hg4 rfl ?_
      refine o_off 7 _ rfl rfl hg4 rfl ?_
      refine o_p (p_pickt rfl rfl hg4 rfl) rfl ?_
      refine o_nil ?_
      exact s_joinN 5 12 _ rfl rfl rfl (fun w h => by first | exact h | exact h.ent aEt)) ?_
  refine o_nil ?_
  refine s_cond rfl (fun h6 => ?_) (fun h6 => ?_)
  · try simp only [decide_eq_true_eq, decide_eq_false_iff_not, Bool.not_eq_true', Bool.not_eq_false', Bool.and_eq_true, Bool.or_eq_true, Bool.and_eq_false_iff, Bool.or_eq_false_iff, Bool.not_true, Bool.not_false] at h6
    refine s_seq ?_
    refine s_region ?_
    refine o_p (p_pure rfl) rfl ?_
    refine o_nil ?_
    exact s_retv (rs := [.tmp 2]) rfl (.tmp rfl (.nil)) (fun w' h' => ⟨by simp only [retV, openE]; grind, h'.below⟩)
  · try simp only [decide_eq_true_eq, decide_eq_false_iff_not, Bool.not_eq_true', Bool.not_eq_false', Bool.and_eq_true, Bool.or_eq_true, Bool.and_eq_false_iff, Bool.or_eq_false_iff, Bool.not_true, Bool.not_false] at h6
    refine s_skip ?_
    refine s_seq ?_
    refine s_region ?_
    refine o_p (p_pure rfl) rfl ?_
    refine o_nil ?_
    exact s_retv (rs := [.tmp 2]) rfl (.tmp rfl (.nil)) (fun w' h' => ⟨by simp only [retV, openE]; grind, h'.below⟩)

set_option maxRecDepth 20000 in
theorem c104 (w : World) (x : Int) : Calls Try.prog 104 #[.int .i64 x] w fun en w' => en = .returned (.bool (decide (0 ≤ x) && decide (x ≤ 2147483647))) ∧ Below w.heap.size w w' := by
  refine enter (args := [_]) Try.func104 Try.ntmps104 rfl rfl (HS.refl w []) ?_
  refine s_seq ?_
  refine s_region ?_
  refine o_p (p_pure rfl) rfl ?_
  refine o_nil ?_
  refine s_seq ?_
  refine s_region ?_
  refine o_p (p_pure rfl) rfl ?_
  refine o_q (q_call rfl fn_16 rfl (fun w1 h1 => c16 w1 _ _ _)) rfl ?_
  refine o_p (p_pure rfl) rfl ?_
  refine o_nil ?_
  exact s_retv (rs := [.tmp 2]) rfl (.tmp rfl (.nil)) (fun w' h' => ⟨rfl, h'.below⟩)

set_option maxRecDepth 20000 in
theorem c94 (w : World) (fr cnt : Int) : Calls Try.prog 94 #[.int .i64 fr, .int .i64 cnt] w fun en w' => en = .returned (.int .i64 (rngE fr cnt)) ∧ Below w.heap.size w w' := by
  refine enter (args := [_, _]) Try.func94 Try.ntmps94 rfl rfl (HS.refl w []) ?_
  refine s_seq ?_
  refine s_region ?_
  refine o_p (p_pure rfl) rfl ?_
  refine o_nil ?_
  refine s_seq ?_
  refine s_region ?_
  refine o_p (p_pure rfl) rfl ?_
  refine o_q (q_call rfl fn_49 rfl (fun w1 h1 => c49 w1 _ _ _)) rfl ?_
  refine o_p (p_pure rfl) rfl ?_
  refine o_and 5 7 12 _ _ rfl
    (by
      intro hg1
      have hs2 := hg1; try simp only [decide_eq_true_eq, decide_eq_false_iff_not, Bool.not_eq_true', Bool.not_eq_false', Bool.and_eq_true, Bool.or_eq_true, Bool.and_eq_false_iff, Bool.or_eq_false_iff, Bool.not_true, Bool.not_false] at hs2
      refine o_on 7 _ rfl rfl hg1 ?_
      refine o_p (p_pure rfl) rfl ?_
      refine o_on 7 _ rfl rfl hg1 ?_
      refine o_p (p_pure rfl) rfl ?_
      refine o_on 7 _ rfl rfl hg1 ?_
      refine o_p (p_pure rfl) rfl ?_
      try (refine o_slot (i64w (by omega) (by omega)) ?_)
      refine o_on 7 _ rfl rfl hg1 ?_
      refine o_q (q_call rfl fn_49 rfl (fun w1 h1 => c49 w1 _ _ _)) rfl ?_
      refine o_p (p_pickt rfl rfl hg1 rfl) rfl ?_
      refine o_nil ?_
      exact s_joinN 5 12 _ rfl rfl rfl (fun w h => by first | exact h | exact h.ent aEt))
    (by
      intro hg3
      have hs4 := hg3; try simp only [decide_eq_true_eq, decide_eq_false_iff_not, Bool.not_eq_true', Bool.not_eq_false', Bool.and_eq_true, Bool.or_eq_true, Bool.and_eq_false_iff, Bool.or_eq_false_iff, Bool.not_true, Bool.not_false] at hs4
      refine o_off 7 _ rfl rfl hg3 rfl ?_
      refine o_off 7 _ rfl rfl hg3 rfl ?_
      refine o_off 7 _ rfl rfl hg3 rfl ?_
      refine o_off 7 _ rfl rfl hg3 rfl ?_
      refine o_p (p_pickf rfl rfl hg3 rfl) rfl ?_
      refine o_nil ?_
      exact s_joinN 5 12 _ rfl rfl rfl (fun w h => by first | exact h | exact h.ent aEt)) ?_
  refine o_q (q_call rfl fn_48 rfl (fun w1 h1 => c48 w1 _ _)) rfl ?_
  refine o_p (p_pure rfl) rfl ?_
  refine o_nil ?_
  exact s_retv (rs := [.tmp 4]) rfl (.tmp rfl (.nil)) (fun w' h' => ⟨by simp only [retV, rngE]; grind, h'.below⟩)

set_option maxRecDepth 20000 in
theorem c69 (w : World) (fr cnt : Int) : Calls Try.prog 69 #[.int .i64 fr, .int .i64 cnt] w fun en w' => en = .returned (.int .i64 (rngE fr cnt)) ∧ Below w.heap.size w w' := by
  refine enter (args := [_, _]) Try.func69 Try.ntmps69 rfl rfl (HS.refl w []) ?_
  refine s_seq ?_
  refine s_region ?_
  refine o_p (p_pure rfl) rfl ?_
  refine o_nil ?_
  refine s_seq ?_
  refine s_seq ?_
  refine s_region ?_
  refine o_p (p_pure rfl) rfl ?_
  refine o_q (q_call rfl fn_104 rfl (fun w1 h1 => c104 w1 _)) rfl ?_
  refine o_p (p_pure rfl) rfl ?_
  refine o_p (p_pure rfl) rfl ?_
  refine o_or 6 8 14 _ _ rfl
    (by
      intro hg1
      have hs2 := hg1; try simp only [decide_eq_true_eq, decide_eq_false_iff_not, Bool.not_eq_true', Bool.not_eq_false', Bool.and_eq_true, Bool.or_eq_true, Bool.and_eq_false_iff, Bool.or_eq_false_iff, Bool.not_true, Bool.not_false] at hs2
      refine o_on 8 _ rfl rfl hg1 ?_
      refine o_p (p_pure rfl) rfl ?_
      refine o_on 8 _ rfl rfl hg1 ?_
      refine o_p (p_pure rfl) rfl ?_
      refine o_on 8 _ rfl rfl hg1 ?_
      refine o_p (p_pure rfl) rfl ?_
      try (refine o_slot (i64w (by omega) (by omega)) ?_)
      refine o_on 8 _ rfl rfl hg1 ?_
      refine o_q (q_call rfl fn_16 rfl (fun w1 h1 => c16 w1 _ _ _)) rfl ?_
      refine o_on 8 _ rfl rfl hg1 ?_
      refine o_p (p_pure rfl) rfl ?_
      refine o_p (p_pickf rfl rfl hg1 rfl) rfl ?_
      refine o_nil ?_
      exact s_joinN 6 14 _ rfl rfl rfl (fun w h => by first | exact h | exact h.ent aEt))
    (by
      intro hg3
      have hs4 := hg3; try simp only [decide_eq_true_eq, decide_eq_false_iff_not, Bool.not_eq_true', Bool.not_eq_false', Bool.and_eq_true, Bool.or_eq_true, Bool.and_eq_false_iff, Bool.or_eq_false_iff, Bool.not_true, Bool.not_false] at hs4
      refine o_off 8 _ rfl rfl hg3 rfl ?_
      refine o_off 8 _ rfl rfl hg3 rfl ?_
      refine o_off 8 _ rfl rfl hg3 rfl ?_
      refine o_off 8 _ rfl rfl hg3 rfl ?_
      refine o_off 8 _ rfl rfl hg3 rfl ?_
      refine o_p (p_pickt rfl rfl hg3 rfl) rfl ?_
      refine o_nil ?_
      exact s_joinN 6 14 _ rfl rfl rfl (fun w h => by first | exact h | exact h.ent aEt)) ?_
  refine o_nil ?_
  refine s_cond rfl (fun h5 => ?_) (fun h5 => ?_)
  · try simp only [decide_eq_true_eq, decide_eq_false_iff_not, Bool.not_eq_true', Bool.not_eq_false', Bool.and_eq_true, Bool.or_eq_true, Bool.and_eq_false_iff, Bool.or_eq_false_iff, Bool.not_true, Bool.not_false] at h5
    refine s_seq ?_
    refine s_region ?_
    refine o_p (p_pure rfl) rfl ?_
    refine o_nil ?_
    exact s_retv (rs := [.tmp 4]) rfl (.tmp rfl (.nil)) (fun w' h' => ⟨by simp only [retV, rngE]; grind, h'.below⟩)
  · try simp only [decide_eq_true_eq, decide_eq_false_iff_not, Bool.not_eq_true', Bool.not_eq_false', Bool.and_eq_true, Bool.or_eq_true, Bool.and_eq_false_iff, Bool.or_eq_false_iff, Bool.not_true, Bool.not_false] at h5
    refine s_skip ?_
    refine s_seq ?_
    refine s_region ?_
    refine o_p (p_pure rfl) rfl ?_
    refine o_nil ?_
    exact s_retv (rs := [.tmp 4]) rfl (.tmp rfl (.nil)) (fun w' h' => ⟨by simp only [retV, rngE]; grind, h'.below⟩)

set_option maxRecDepth 20000 in
theorem c89 (w : World) (b : Bool) : Calls Try.prog 89 #[.bool b] w fun en w' => en = .returned (.int .i64 (bif b then 1 else 0)) ∧ Below w.heap.size w w' := by
  refine enter (args := [_]) Try.func89 Try.ntmps89 rfl rfl (HS.refl w []) ?_
  refine s_seq ?_
  refine s_region ?_
  refine o_p (p_pure rfl) rfl ?_
  refine o_nil ?_
  refine s_seq ?_
  refine s_seq ?_
  refine s_region ?_
  refine o_p (p_pure rfl) rfl ?_
  refine o_nil ?_
  refine s_cond rfl (fun h1 => ?_) (fun h1 => ?_)
  · try simp only [decide_eq_true_eq, decide_eq_false_iff_not, Bool.not_eq_true', Bool.not_eq_false', Bool.and_eq_true, Bool.or_eq_true, Bool.and_eq_false_iff, Bool.or_eq_false_iff, Bool.not_true, Bool.not_false] at h1
    refine s_seq ?_
    refine s_region ?_
    refine o_p (p_pure rfl) rfl ?_
    refine o_nil ?_
    exact s_retv (rs := [.tmp 2]) rfl (.tmp rfl (.nil)) (fun w' h' => ⟨by simp_all [retV], h'.below⟩)
  · try simp only [decide_eq_true_eq, decide_eq_false_iff_not, Bool.not_eq_true', Bool.not_eq_false', Bool.and_eq_true, Bool.or_eq_true, Bool.and_eq_false_iff, Bool.or_eq_false_iff, Bool.not_true, Bool.not_false] at h1
    refine s_skip ?_
    refine s_seq ?_
    refine s_region ?_
    refine o_p (p_pure rfl) rfl ?_
    refine o_nil ?_
    exact s_retv (rs := [.tmp 2]) rfl (.tmp rfl (.nil)) (fun w' h' => ⟨by simp_all [retV], h'.below⟩)

set_option maxRecDepth 20000 in
theorem c63 (w : World) (a b : LOpn) (ha : openE a.ac a.sh = 0) (hb : openE b.ac b.sh = 0) : Calls Try.prog 63 #[.agg #[.int .i64 a.hd, .int .i64 a.ac, .int .i64 a.sh, .bool a.dl, .slice a.la a.lk.length a.lc], .agg #[.int .i64 b.hd, .int .i64 b.ac, .int .i64 b.sh, .bool b.dl, .slice b.la b.lk.length b.lc]] w fun en w' => en = .returned (.bool (cfl a.pl b.pl)) ∧ Below w.heap.size w w' := by
  have ha1 := openE_r ha
  have hb1 := openE_r hb
  refine enter (args := [_, _]) Try.func63 Try.ntmps63 rfl rfl (HS.refl w []) ?_
  refine s_seq ?_
  refine s_region ?_
  refine o_h (h_box rfl rfl) rfl (fun b1 _ => ?_)
  refine o_h (h_box rfl rfl) rfl (fun b2 _ => ?_)
  refine o_p (p_pure rfl) rfl ?_
  refine o_nil ?_
  refine s_seq ?_
  refine s_region ?_
  refine o_p (p_fieldAddr rfl rfl fd_48_1 sz_3 rfl) rfl ?_
  refine o_q (q_load rfl rfl sz_3 aPk rfl) rfl ?_
  refine o_p (p_fieldAddr rfl rfl fd_48_2 sz_3 rfl) rfl ?_
  refine o_q (q_load rfl rfl sz_3 aPk rfl) rfl ?_
  refine o_p (p_pure rfl) rfl ?_
  refine o_p (p_pure rfl) rfl ?_
  refine o_p (p_pure rfl) rfl ?_
  refine o_or 7 11 18 _ _ rfl
    (by
      intro hg3
      have hs4 := hg3; try simp only [decide_eq_true_eq, decide_eq_false_iff_not, Bool.not_eq_true', Bool.not_eq_false', Bool.and_eq_true, Bool.or_eq_true, Bool.and_eq_false_iff, Bool.or_eq_false_iff, Bool.not_true, Bool.not_false] at hs4
      refine o_on 11 _ rfl rfl hg3 ?_
      refine o_p (p_fieldAddr rfl rfl fd_48_1 sz_3 rfl) rfl ?_
      refine o_on 11 _ rfl rfl hg3 ?_
      refine o_q (q_load rfl rfl sz_3 aPk rfl) rfl ?_
      refine o_on 11 _ rfl rfl hg3 ?_
      refine o_p (p_fieldAddr rfl rfl fd_48_2 sz_3 rfl) rfl ?_
      refine o_on 11 _ rfl rfl hg3 ?_
      refine o_q (q_load rfl rfl sz_3 aPk rfl) rfl ?_
      refine o_on 11 _ rfl rfl hg3 ?_
      refine o_p (p_pure rfl) rfl ?_
      refine o_on 11 _ rfl rfl hg3 ?_
      refine o_p (p_pure rfl) rfl ?_
      refine o_p (p_pickf rfl rfl hg3 rfl) rfl ?_
      refine o_nil ?_
      exact s_joinN 7 18 _ rfl rfl rfl (fun w h => by first | exact h | exact h.ent aEt))
    (by
      intro hg5
      have hs6 := hg5; try simp only [decide_eq_true_eq, decide_eq_false_iff_not, Bool.not_eq_true', Bool.not_eq_false', Bool.and_eq_true, Bool.or_eq_true, Bool.and_eq_false_iff, Bool.or_eq_false_iff, Bool.not_true, Bool.not_false] at hs6
      refine o_off 11 _ rfl rfl hg5 rfl ?_
      refine o_off 11 _ rfl rfl hg5 rfl ?_
      refine o_off 11 _ rfl rfl hg5 rfl ?_
      refine o_off 11 _ rfl rfl hg5 rfl ?_
      refine o_off 11 _ rfl rfl hg5 rfl ?_
      refine o_off 11 _ rfl rfl hg5 rfl ?_
      refine o_p (p_pickt rfl rfl hg5 rfl) rfl ?_
      refine o_nil ?_
      exact s_joinN 7 18 _ rfl rfl rfl (fun w h => by first | exact h | exact h.ent aEt)) ?_
  refine o_p (p_pure rfl) rfl ?_
  refine o_nil ?_
  exact s_retv (rs := [.tmp 4]) rfl (.tmp rfl (.nil)) (fun w' h' => ⟨by simp only [retV, cfl, LOpn.pl]; rw [← andNot_8 (x := a.ac) (y := b.sh) (by omega) (by omega), ← andNot_8 (x := b.ac) (y := a.sh) (by omega) (by omega)]; rfl, h'.below⟩)

set_option maxRecDepth 20000 in
theorem c71 (w : World) (x : Int) (m : Nat) (hx : 0 ≤ x ∧ x ≤ 7) (hm : m = 1 ∨ m = 2 ∨ m = 4) : Calls Try.prog 71 #[.int .i64 x, .int .i64 (m : Int)] w fun en w' => en = .returned (.bool (hasB x m)) ∧ Below w.heap.size w w' := by
  have hxm : 0 ≤ x / (m : Int) := Int.ediv_nonneg (by omega) (by omega)
  refine enter (args := [_, _]) Try.func71 Try.ntmps71 rfl rfl (HS.refl w []) ?_
  refine s_seq ?_
  refine s_region ?_
  refine o_p (p_pure rfl) rfl ?_
  refine o_nil ?_
  refine s_seq ?_
  refine s_region ?_
  refine o_p (p_pure rfl) rfl ?_
  refine o_p (p_pure rfl) rfl ?_
  refine o_p (p_quo_nn rfl rfl rfl (by omega) (by omega) (by omega)) rfl ?_
  refine o_p (p_rem_nn rfl rfl rfl (by omega) (by omega)) rfl ?_
  refine o_p (p_pure rfl) rfl ?_
  refine o_p (p_pure rfl) rfl ?_
  refine o_nil ?_
  exact s_retv (rs := [.tmp 4]) rfl (.tmp rfl (.nil)) (fun w' h' => ⟨by simp only [retV]; rw [← has_8 hx hm], h'.below⟩)

set_option maxRecDepth 20000 in
theorem c64 (w : World) (a b : LOpn) (ha : openE a.ac a.sh = 0) (hb : openE b.ac b.sh = 0) : Calls Try.prog 64 #[.agg #[.int .i64 a.hd, .int .i64 a.ac, .int .i64 a.sh, .bool a.dl, .slice a.la a.lk.length a.lc], .agg #[.int .i64 b.hd, .int .i64 b.ac, .int .i64 b.sh, .bool b.dl, .slice b.la b.lk.length b.lc]] w fun en w' => en = .returned (.bool (missN b.ac.toNat a.sh.toNat)) ∧ Below w.heap.size w w' := by
  have ha1 := openE_r ha
  have hb1 := openE_r hb
  refine enter (args := [_, _]) Try.func64 Try.ntmps64 rfl rfl (HS.refl w []) ?_
  refine s_seq ?_
  refine s_region ?_
  refine o_h (h_box rfl rfl) rfl (fun b1 _ => ?_)
  refine o_h (h_box rfl rfl) rfl (fun b2 _ => ?_)
  refine o_p (p_pure rfl) rfl ?_
  refine o_nil ?_
  refine s_seq ?_
  refine s_seq ?_
  refine s_region ?_
  refine o_p (p_pure rfl) rfl ?_
  refine o_nil ?_
  refine s_block ?_
  refine s_loopI (α := Nat) [4, 5, 6, 7, 8, 9, 10, 11, 12, 13, 14, 15, 16, 17, 18, 19, 20] (fun k => [(5, .int .i64 (pk3 k))]) (fun _ => _) (fun k => k ≤ 3 ∧ (0 < k → (hasB b.ac 1 && !hasB a.sh 1) = false) ∧ (1 < k → (hasB b.ac 2 && !hasB a.sh 2) = false) ∧ (2 < k → (hasB b.ac 4 && !hasB a.sh 4) = false)) (fun k => 3 - k) 0 (by simp) aSx (fun w h => h) (fun k hk => ?_)
  obtain ⟨hk0, hk1, hk2, hk3⟩ := hk
  rcases k with _ | _ | _ | _ | k
  · skip
    refine s_seq ?_
    refine s_seq ?_
    refine s_region ?_
    refine o_p (p_pure rfl) rfl ?_
    refine o_p (p_pure rfl) rfl ?_
    refine o_nil ?_
    refine s_cond rfl (fun h3 => ?_) (fun h3 => ?_)
    · try simp only [decide_eq_true_eq, decide_eq_false_iff_not, Bool.not_eq_true', Bool.not_eq_false', Bool.and_eq_true, Bool.or_eq_true, Bool.and_eq_false_iff, Bool.or_eq_false_iff, Bool.not_true, Bool.not_false] at h3
      refine s_skip ?_
      refine s_seq ?_
      refine s_block ?_
      refine s_seq ?_
      refine s_region ?_
      refine o_p (p_fieldAddr rfl rfl fd_48_1 sz_3 rfl) rfl ?_
      refine o_q (q_load rfl rfl sz_3 aPk rfl) rfl ?_
      refine o_p (p_pure rfl) rfl ?_
      refine o_q (q_call rfl fn_71 rfl (fun w1 h1 => c71 w1 b.ac 1 (by omega) (by omega))) rfl ?_
      refine o_p (p_pure rfl) rfl ?_
      refine o_and 6 14 20 _ _ rfl
        (by
          intro hg4
          have hs5 := hg4; try simp only [decide_eq_true_eq, decide_eq_false_iff_not, Bool.not_eq_true', Bool.not_eq_false', Bool.and_eq_true, Bool.or_eq_true, Bool.and_eq_false_iff, Bool.or_eq_false_iff, Bool.not_true, Bool.not_false] at hs5
          refine o_on 14 _ rfl rfl hg4 ?_
          refine o_p (p_fieldAddr rfl rfl fd_48_2 sz_3 rfl) rfl ?_
          refine o_on 14 _ rfl rfl hg4 ?_
          refine o_q (q_load rfl rfl sz_3 aPk rfl) rfl ?_
          refine o_on 14 _ rfl rfl hg4 ?_
          refine o_p (p_pure rfl) rfl ?_
          refine o_on 14 _ rfl rfl hg4 ?_
          refine o_q (q_call rfl fn_71 rfl (fun w1 h1 => c71 w1 a.sh 1 (by omega) (by omega))) rfl ?_
          refine o_on 14 _ rfl rfl hg4 ?_
          refine o_p (p_pure rfl) rfl ?_
          refine o_p (p_pickt rfl rfl hg4 rfl) rfl ?_
          refine o_nil ?_
          exact s_joinN 6 20 _ rfl rfl rfl (fun w h => by first | exact h | exact h.ent aEt))
        (by
          intro hg6
          have hs7 := hg6; try simp only [decide_eq_true_eq, decide_eq_false_iff_not, Bool.not_eq_true', Bool.not_eq_false', Bool.and_eq_true, Bool.or_eq_true, Bool.and_eq_false_iff, Bool.or_eq_false_iff, Bool.not_true, Bool.not_false] at hs7
          refine o_off 14 _ rfl rfl hg6 rfl ?_
          refine o_off 14 _ rfl rfl hg6 rfl ?_
          refine o_off 14 _ rfl rfl hg6 rfl ?_
          refine o_off 14 _ rfl rfl hg6 rfl ?_
          refine o_off 14 _ rfl rfl hg6 rfl ?_
          refine o_p (p_pickf rfl rfl hg6 rfl) rfl ?_
          refine o_nil ?_
          exact s_joinN 6 20 _ rfl rfl rfl (fun w h => by first | exact h | exact h.ent aEt)) ?_
      refine o_nil ?_
      refine s_cond rfl (fun h8 => ?_) (fun h8 => ?_)
      · try simp only [decide_eq_true_eq, decide_eq_false_iff_not, Bool.not_eq_true', Bool.not_eq_false', Bool.and_eq_true, Bool.or_eq_true, Bool.and_eq_false_iff, Bool.or_eq_false_iff, Bool.not_true, Bool.not_false] at h8
        refine s_seq ?_
        refine s_region ?_
        refine o_p (p_pure rfl) rfl ?_
        refine o_nil ?_
        exact s_retv (rs := [.tmp 4]) rfl (.tmp rfl (.nil)) (fun w' h' => ⟨by simp only [retV]; rw [miss_has]; have hq := h8; (try simp at hq); simp [hq], h'.below⟩)
      · try simp only [decide_eq_true_eq, decide_eq_false_iff_not, Bool.not_eq_true', Bool.not_eq_false', Bool.and_eq_true, Bool.or_eq_true, Bool.and_eq_false_iff, Bool.or_eq_false_iff, Bool.not_true, Bool.not_false] at h8
        refine s_skip ?_
        refine s_blk ?_
        refine s_region ?_
        refine o_p (p_pure rfl) rfl ?_
        refine o_p (p_pure rfl) rfl ?_
        try (refine o_slot (i64w (by omega) (by omega)) ?_)
        refine o_p (p_pure rfl) rfl ?_
        refine o_nil ?_
        exact s_backI 1 (by omega) (by refine ⟨by omega, ?_, ?_, ?_⟩ <;> intro hlt <;> first | (exfalso; omega) | (exact hk1 (by omega)) | (exact hk2 (by omega)) | (exact hk3 (by omega)) | (have hq := h8; revert hq; cases hasB b.ac 1 <;> cases hasB a.sh 1 <;> simp)) aSx (fun w h => h)
    · try simp only [decide_eq_true_eq, decide_eq_false_iff_not, Bool.not_eq_true', Bool.not_eq_false', Bool.and_eq_true, Bool.or_eq_true, Bool.and_eq_false_iff, Bool.or_eq_false_iff, Bool.not_true, Bool.not_false] at h3
      exfalso; first | omega | (simp [pk3] at h3; done)
  · skip
    refine s_seq ?_
    refine s_seq ?_
    refine s_region ?_
    refine o_p (p_pure rfl) rfl ?_
    refine o_p (p_pure rfl) rfl ?_
    refine o_nil ?_
    refine s_cond rfl (fun h9 => ?_) (fun h9 => ?_)
    · try simp only [decide_eq_true_eq, decide_eq_false_iff_not, Bool.not_eq_true', Bool.not_eq_false', Bool.and_eq_true, Bool.or_eq_true, Bool.and_eq_false_iff, Bool.or_eq_false_iff, Bool.not_true, Bool.not_false] at h9
      refine s_skip ?_
      refine s_seq ?_
      refine s_block ?_
      refine s_seq ?_
      refine s_region ?_
      refine o_p (p_fieldAddr rfl rfl fd_48_1 sz_3 rfl) rfl ?_
      refine o_q (q_load rfl rfl sz_3 aPk rfl) rfl ?_
      refine o_p (p_pure rfl) rfl ?_
      refine o_q (q_call rfl fn_71 rfl (fun w1 h1 => c71 w1 b.ac 2 (by omega) (by omega))) rfl ?_
      refine o_p (p_pure rfl) rfl ?_
      refine o_and 6 14 20 _ _ rfl
        (by
          intro hg10
          have hs11 := hg10; try simp only [decide_eq_true_eq, decide_eq_false_iff_not, Bool.not_eq_true', Bool.not_eq_false', Bool.and_eq_true, Bool.or_eq_true, Bool.and_eq_false_iff, Bool.or_eq_false_iff, Bool.not_true, Bool.not_false] at hs11
          refine o_on 14 _ rfl rfl hg10 ?_
          refine o_p (p_fieldAddr rfl rfl fd_48_2 sz_3 rfl) rfl ?_
          refine o_on 14 _ rfl rfl hg10 ?_
          refine o_q (q_load rfl rfl sz_3 aPk rfl) rfl ?_
          refine o_on 14 _ rfl rfl hg10 ?_
          refine o_p (p_pure rfl) rfl ?_
          refine o_on 14 _ rfl rfl hg10 ?_
          refine o_q (q_call rfl fn_71 rfl (fun w1 h1 => c71 w1 a.sh 2 (by omega) (by omega))) rfl ?_
          refine o_on 14 _ rfl rfl hg10 ?_
          refine o_p (p_pure rfl) rfl ?_
          refine o_p (p_pickt rfl rfl hg10 rfl) rfl ?_
          refine o_nil ?_
          exact s_joinN 6 20 _ rfl rfl rfl (fun w h => by first | exact h | exact h.ent aEt))
        (by
          intro hg12
          have hs13 := hg12; try simp only [decide_eq_true_eq, decide_eq_false_iff_not, Bool.not_eq_true', Bool.not_eq_false', Bool.and_eq_true, Bool.or_eq_true, Bool.and_eq_false_iff, Bool.or_eq_false_iff, Bool.not_true, Bool.not_false] at hs13
          refine o_off 14 _ rfl rfl hg12 rfl ?_
          refine o_off 14 _ rfl rfl hg12 rfl ?_
          refine o_off 14 _ rfl rfl hg12 rfl ?_
          refine o_off 14 _ rfl rfl hg12 rfl ?_
          refine o_off 14 _ rfl rfl hg12 rfl ?_
          refine o_p (p_pickf rfl rfl hg12 rfl) rfl ?_
          refine o_nil ?_
          exact s_joinN 6 20 _ rfl rfl rfl (fun w h => by first | exact h | exact h.ent aEt)) ?_
      refine o_nil ?_
      refine s_cond rfl (fun h14 => ?_) (fun h14 => ?_)
      · try simp only [decide_eq_true_eq, decide_eq_false_iff_not, Bool.not_eq_true', Bool.not_eq_false', Bool.and_eq_true, Bool.or_eq_true, Bool.and_eq_false_iff, Bool.or_eq_false_iff, Bool.not_true, Bool.not_false] at h14
        refine s_seq ?_
        refine s_region ?_
        refine o_p (p_pure rfl) rfl ?_
        refine o_nil ?_
        exact s_retv (rs := [.tmp 4]) rfl (.tmp rfl (.nil)) (fun w' h' => ⟨by simp only [retV]; rw [miss_has]; have hq := h14; (try simp at hq); simp [hq], h'.below⟩)
      · try simp only [decide_eq_true_eq, decide_eq_false_iff_not, Bool.not_eq_true', Bool.not_eq_false', Bool.and_eq_true, Bool.or_eq_true, Bool.and_eq_false_iff, Bool.or_eq_false_iff, Bool.not_true, Bool.not_false] at h14
        refine s_skip ?_
        refine s_blk ?_
        refine s_region ?_
        refine o_p (p_pure rfl) rfl ?_
        refine o_p (p_pure rfl) rfl ?_
        try (refine o_slot (i64w (by omega) (by omega)) ?_)
        refine o_p (p_pure rfl) rfl ?_
        refine o_nil ?_
        exact s_backI 2 (by omega) (by refine ⟨by omega, ?_, ?_, ?_⟩ <;> intro hlt <;> first | (exfalso; omega) | (exact hk1 (by omega)) | (exact hk2 (by omega)) | (exact hk3 (by omega)) | (have hq := h14; revert hq; cases hasB b.ac 2 <;> cases hasB a.sh 2 <;> simp)) aSx (fun w h => h)
    · try simp only [decide_eq_true_eq, decide_eq_false_iff_not, Bool.not_eq_true', Bool.not_eq_false', Bool.and_eq_true, Bool.or_eq_true, Bool.and_eq_false_iff, Bool.or_eq_false_iff, Bool.not_true, Bool.not_false] at h9
      exfalso; first | omega | (simp [pk3] at h9; done)
  · skip
    refine s_seq ?_
    refine s_seq ?_
    refine s_region ?_
    refine o_p (p_pure rfl) rfl ?_
    refine o_p (p_pure rfl) rfl ?_
    refine o_nil ?_
    refine s_cond rfl (fun h15 => ?_) (fun h15 => ?_)
    · try simp only [decide_eq_true_eq, decide_eq_false_iff_not, Bool.not_eq_true', Bool.not_eq_false', Bool.and_eq_true, Bool.or_eq_true, Bool.and_eq_false_iff, Bool.or_eq_false_iff, Bool.not_true, Bool.not_false] at h15
      refine s_skip ?_
      refine s_seq ?_
      refine s_block ?_
      refine s_seq ?_
      refine s_region ?_
      refine o_p (p_fieldAddr rfl rfl fd_48_1 sz_3 rfl) rfl ?_
      refine o_q (q_load rfl rfl sz_3 aPk rfl) rfl ?_
      refine o_p (p_pure rfl) rfl ?_
      refine o_q (q_call rfl fn_71 rfl (fun w1 h1 => c71 w1 b.ac 4 (by omega) (by omega))) rfl ?_
      refine o_p (p_pure rfl) rfl ?_
      refine o_and 6 14 20 _ _ rfl
        (by
          intro hg16
          have hs17 := hg16; try simp only [decide_eq_true_eq, decide_eq_false_iff_not, Bool.not_eq_true', Bool.not_eq_false', Bool.and_eq_true, Bool.or_eq_true, Bool.and_eq_false_iff, Bool.or_eq_false_iff, Bool.not_true, Bool.not_false] at hs17
          refine o_on 14 _ rfl rfl hg16 ?_
          refine o_p (p_fieldAddr rfl rfl fd_48_2 sz_3 rfl) rfl ?_
          refine o_on 14 _ rfl rfl hg16 ?_
          refine o_q (q_load rfl rfl sz_3 aPk rfl) rfl ?_
          refine o_on 14 _ rfl rfl hg16 ?_
          refine o_p (p_pure rfl) rfl ?_
          refine o_on 14 _ rfl rfl hg16 ?_
          refine o_q (q_call rfl fn_71 rfl (fun w1 h1 => c71 w1 a.sh 4 (by omega) (by omega))) rfl ?_
          refine o_on 14 _ rfl rfl hg16 ?_
          refine o_p (p_pure rfl) rfl ?_
          refine o_p (p_pickt rfl rfl hg16 rfl) rfl ?_
          refine o_nil ?_
          exact s_joinN 6 20 _ rfl rfl rfl (fun w h => by first | exact h | exact h.ent aEt))
        (by
          intro hg18
          have hs19 := hg18; try simp only [decide_eq_true_eq, decide_eq_false_iff_not, Bool.not_eq_true', Bool.not_eq_false', Bool.and_eq_true, Bool.or_eq_true, Bool.and_eq_false_iff, Bool.or_eq_false_iff, Bool.not_true, Bool.not_false] at hs19
          refine o_off 14 _ rfl rfl hg18 rfl ?_
          refine o_off 14 _ rfl rfl hg18 rfl ?_
          refine o_off 14 _ rfl rfl hg18 rfl ?_
          refine o_off 14 _ rfl rfl hg18 rfl ?_
          refine o_off 14 _ rfl rfl hg18 rfl ?_
          refine o_p (p_pickf rfl rfl hg18 rfl) rfl ?_
          refine o_nil ?_
          exact s_joinN 6 20 _ rfl rfl rfl (fun w h => by first | exact h | exact h.ent aEt)) ?_
      refine o_nil ?_
      refine s_cond rfl (fun h20 => ?_) (fun h20 => ?_)
      · try simp only [decide_eq_true_eq, decide_eq_false_iff_not, Bool.not_eq_true', Bool.not_eq_false', Bool.and_eq_true, Bool.or_eq_true, Bool.and_eq_false_iff, Bool.or_eq_false_iff, Bool.not_true, Bool.not_false] at h20
        refine s_seq ?_
        refine s_region ?_
        refine o_p (p_pure rfl) rfl ?_
        refine o_nil ?_
        exact s_retv (rs := [.tmp 4]) rfl (.tmp rfl (.nil)) (fun w' h' => ⟨by simp only [retV]; rw [miss_has]; have hq := h20; (try simp at hq); simp [hq], h'.below⟩)
      · try simp only [decide_eq_true_eq, decide_eq_false_iff_not, Bool.not_eq_true', Bool.not_eq_false', Bool.and_eq_true, Bool.or_eq_true, Bool.and_eq_false_iff, Bool.or_eq_false_iff, Bool.not_true, Bool.not_false] at h20
        refine s_skip ?_
        refine s_blk ?_
        refine s_region ?_
        refine o_p (p_pure rfl) rfl ?_
        refine o_p (p_pure rfl) rfl ?_
        try (refine o_slot (i64w (by omega) (by omega)) ?_)
        refine o_p (p_pure rfl) rfl ?_
        refine o_nil ?_
        exact s_backI 3 (by omega) (by refine ⟨by omega, ?_, ?_, ?_⟩ <;> intro hlt <;> first | (exfalso; omega) | (exact hk1 (by omega)) | (exact hk2 (by omega)) | (exact hk3 (by omega)) | (have hq := h20; revert hq; cases hasB b.ac 4 <;> cases hasB a.sh 4 <;> simp)) aSx (fun w h => h)
    · try simp only [decide_eq_true_eq, decide_eq_false_iff_not, Bool.not_eq_true', Bool.not_eq_false', Bool.and_eq_true, Bool.or_eq_true, Bool.and_eq_false_iff, Bool.or_eq_false_iff, Bool.not_true, Bool.not_false] at h15
      exfalso; first | omega | (simp [pk3] at h15; done)
  · skip
    refine s_seq ?_
    refine s_seq ?_
    refine s_region ?_
    refine o_p (p_pure rfl) rfl ?_
    refine o_p (p_pure rfl) rfl ?_
    refine o_nil ?_
    refine s_cond rfl (fun h21 => ?_) (fun h21 => ?_)
    · try simp only [decide_eq_true_eq, decide_eq_false_iff_not, Bool.not_eq_true', Bool.not_eq_false', Bool.and_eq_true, Bool.or_eq_true, Bool.and_eq_false_iff, Bool.or_eq_false_iff, Bool.not_true, Bool.not_false] at h21
      exfalso; first | omega | (simp [pk3] at h21; done)
    · try simp only [decide_eq_true_eq, decide_eq_false_iff_not, Bool.not_eq_true', Bool.not_eq_false', Bool.and_eq_true, Bool.or_eq_true, Bool.and_eq_false_iff, Bool.or_eq_false_iff, Bool.not_true, Bool.not_false] at h21
      refine s_exit_to rfl ?_
      refine s_seq ?_
      refine s_region ?_
      refine o_p (p_pure rfl) rfl ?_
      refine o_nil ?_
      exact s_retv (rs := [.tmp 4]) rfl (.tmp rfl (.nil)) (fun w' h' => ⟨by simp only [retV]; rw [miss_has, hk1 (by omega), hk2 (by omega), hk3 (by omega)]; rfl, h'.below⟩)
  · exfalso; omega

set_option maxRecDepth 20000 in
theorem c23 (w : World) (a b : LOpn) (ha : openE a.ac a.sh = 0) (hb : openE b.ac b.sh = 0) : Calls Try.prog 23 #[.agg #[.int .i64 a.hd, .int .i64 a.ac, .int .i64 a.sh, .bool a.dl, .slice a.la a.lk.length a.lc], .agg #[.int .i64 b.hd, .int .i64 b.ac, .int .i64 b.sh, .bool b.dl, .slice b.la b.lk.length b.lc]] w fun en w' => en = .returned (.bool (cfl a.pl b.pl)) ∧ Below w.heap.size w w' := by
  refine enter (args := [_, _]) Try.func23 Try.ntmps23 rfl rfl (HS.refl w []) ?_
  refine s_seq ?_
  refine s_region ?_
  refine o_h (h_box rfl rfl) rfl (fun b1 _ => ?_)
  refine o_h (h_box rfl rfl) rfl (fun b2 _ => ?_)
  refine o_p (p_pure rfl) rfl ?_
  refine o_nil ?_
  refine s_seq ?_
  refine s_region ?_
  refine o_q (q_loadn rfl rfl sz_48 aPk rfl) rfl ?_
  refine o_q (q_loadn rfl rfl sz_48 aPk rfl) rfl ?_
  refine o_q (q_call rfl fn_64 rfl (fun w1 h1 => c64 w1 a b ha hb)) rfl ?_
  refine o_p (p_pure rfl) rfl ?_
  refine o_or 4 8 12 _ _ rfl
    (by
      intro hg3
      have hs4 := hg3; try simp only [decide_eq_true_eq, decide_eq_false_iff_not, Bool.not_eq_true', Bool.not_eq_false', Bool.and_eq_true, Bool.or_eq_true, Bool.and_eq_false_iff, Bool.or_eq_false_iff, Bool.not_true, Bool.not_false] at hs4
      refine o_on 8 _ rfl rfl hg3 ?_
      refine o_q (q_loadn rfl rfl sz_48 aPk rfl) rfl ?_
      refine o_on 8 _ rfl rfl hg3 ?_
      refine o_q (q_loadn rfl rfl sz_48 aPk rfl) rfl ?_
      refine o_on 8 _ rfl rfl hg3 ?_
      refine o_q (q_call rfl fn_64 rfl (fun w1 h1 => c64 w1 b a hb ha)) rfl ?_
      refine o_p (p_pickf rfl rfl hg3 rfl) rfl ?_
      refine o_nil ?_
      exact s_joinN 4 12 _ rfl rfl rfl (fun w h => by first | exact h | exact h.ent aEt))
    (by
      intro hg5
      have hs6 := hg5; try simp only [decide_eq_true_eq, decide_eq_false_iff_not, Bool.not_eq_true', Bool.not_eq_false', Bool.and_eq_true, Bool.or_eq_true, Bool.and_eq_false_iff, Bool.or_eq_false_iff, Bool.not_true, Bool.not_false] at hs6
      refine o_off 8 _ rfl rfl hg5 rfl ?_
      refine o_off 8 _ rfl rfl hg5 rfl ?_
      refine o_off 8 _ rfl rfl hg5 rfl ?_
      refine o_p (p_pickt rfl rfl hg5 rfl) rfl ?_
      refine o_nil ?_
      exact s_joinN 4 12 _ rfl rfl rfl (fun w h => by first | exact h | exact h.ent aEt)) ?_
  refine o_p (p_pure rfl) rfl ?_
  refine o_nil ?_
  exact s_retv (rs := [.tmp 4]) rfl (.tmp rfl (.nil)) (fun w' h' => ⟨by simp only [retV]; rw [cfl, Bool.or_comm]; rfl, h'.below⟩)

set_option maxRecDepth 20000 in
theorem c124 (w : World) (a b : Lock) (ha : rngE a.fr a.cnt = 0) (hb : rngE b.fr b.cnt = 0) : Calls Try.prog 124 #[.agg #[.int .i64 a.fr, .int .i64 a.cnt, .bool a.ex], .agg #[.int .i64 b.fr, .int .i64 b.cnt, .bool b.ex]] w fun en w' => en = .returned (.bool (ovl a b)) ∧ Below w.heap.size w w' := by
  have ha1 := rngE_r ha
  have hb1 := rngE_r hb
  refine enter (args := [_, _]) Try.func124 Try.ntmps124 rfl rfl (HS.refl w []) ?_
  refine s_seq ?_
  refine s_region ?_
  refine o_h (h_box rfl rfl) rfl (fun b1 _ => ?_)
  refine o_h (h_box rfl rfl) rfl (fun b2 _ => ?_)
  refine o_p (p_pure rfl) rfl ?_
  refine o_nil ?_
  refine s_seq ?_
  refine s_region ?_
  refine o_p (p_fieldAddr rfl rfl fd_62_0 sz_3 rfl) rfl ?_
  refine o_q (q_load rfl rfl sz_3 aPk rfl) rfl ?_
  refine o_p (p_fieldAddr rfl rfl fd_62_0 sz_3 rfl) rfl ?_
  refine o_q (q_load rfl rfl sz_3 aPk rfl) rfl ?_
  refine o_p (p_fieldAddr rfl rfl fd_62_1 sz_3 rfl) rfl ?_
  refine o_q (q_load rfl rfl sz_3 aPk rfl) rfl ?_
  refine o_p (p_pure rfl) rfl ?_
  try (refine o_slot (i64w (by omega) (by omega)) ?_)
  refine o_p (p_pure rfl) rfl ?_
  refine o_p (p_pure rfl) rfl ?_
  refine o_and 9 13 22 _ _ rfl
    (by
      intro hg3
      have hs4 := hg3; try simp only [decide_eq_true_eq, decide_eq_false_iff_not, Bool.not_eq_true', Bool.not_eq_false', Bool.and_eq_true, Bool.or_eq_true, Bool.and_eq_false_iff, Bool.or_eq_false_iff, Bool.not_true, Bool.not_false] at hs4
      refine o_on 13 _ rfl rfl hg3 ?_
      refine o_p (p_fieldAddr rfl rfl fd_62_0 sz_3 rfl) rfl ?_
      refine o_on 13 _ rfl rfl hg3 ?_
      refine o_q (q_load rfl rfl sz_3 aPk rfl) rfl ?_
      refine o_on 13 _ rfl rfl hg3 ?_
      refine o_p (p_fieldAddr rfl rfl fd_62_0 sz_3 rfl) rfl ?_
      refine o_on 13 _ rfl rfl hg3 ?_
      refine o_q (q_load rfl rfl sz_3 aPk rfl) rfl ?_
      refine o_on 13 _ rfl rfl hg3 ?_
      refine o_p (p_fieldAddr rfl rfl fd_62_1 sz_3 rfl) rfl ?_
      refine o_on 13 _ rfl rfl hg3 ?_
      refine o_q (q_load rfl rfl sz_3 aPk rfl) rfl ?_
      refine o_on 13 _ rfl rfl hg3 ?_
      refine o_p (p_pure rfl) rfl ?_
      try (refine o_slot (i64w (by omega) (by omega)) ?_)
      refine o_on 13 _ rfl rfl hg3 ?_
      refine o_p (p_pure rfl) rfl ?_
      refine o_p (p_pickt rfl rfl hg3 rfl) rfl ?_
      refine o_nil ?_
      exact s_joinN 9 22 _ rfl rfl rfl (fun w h => by first | exact h | exact h.ent aEt))
    (by
      intro hg5
      have hs6 := hg5; try simp only [decide_eq_true_eq, decide_eq_false_iff_not, Bool.not_eq_true', Bool.not_eq_false', Bool.and_eq_true, Bool.or_eq_true, Bool.and_eq_false_iff, Bool.or_eq_false_iff, Bool.not_true, Bool.not_false] at hs6
      refine o_off 13 _ rfl rfl hg5 rfl ?_
      refine o_off 13 _ rfl rfl hg5 rfl ?_
      refine o_off 13 _ rfl rfl hg5 rfl ?_
      refine o_off 13 _ rfl rfl hg5 rfl ?_
      refine o_off 13 _ rfl rfl hg5 rfl ?_
      refine o_off 13 _ rfl rfl hg5 rfl ?_
      refine o_off 13 _ rfl rfl hg5 rfl ?_
      refine o_off 13 _ rfl rfl hg5 rfl ?_
      refine o_p (p_pickf rfl rfl hg5 rfl) rfl ?_
      refine o_nil ?_
      exact s_joinN 9 22 _ rfl rfl rfl (fun w h => by first | exact h | exact h.ent aEt)) ?_
  refine o_p (p_pure rfl) rfl ?_
  refine o_nil ?_
  exact s_retv (rs := [.tmp 4]) rfl (.tmp rfl (.nil)) (fun w' h' => ⟨by simp only [retV, ovl], h'.below⟩)

set_option maxRecDepth 20000 in
theorem c103 (w : World) (a b : Lock) (ha : rngE a.fr a.cnt = 0) (hb : rngE b.fr b.cnt = 0) : Calls Try.prog 103 #[.agg #[.int .i64 a.fr, .int .i64 a.cnt, .bool a.ex], .agg #[.int .i64 b.fr, .int .i64 b.cnt, .bool b.ex]] w fun en w' => en = .returned (.bool (clsh a b)) ∧ Below w.heap.size w w' := by
  have ha1 := rngE_r ha
  have hb1 := rngE_r hb
  refine enter (args := [_, _]) Try.func103 Try.ntmps103 rfl rfl (HS.refl w []) ?_
  refine s_seq ?_
  refine s_region ?_
  refine o_h (h_box rfl rfl) rfl (fun b1 _ => ?_)
  refine o_h (h_box rfl rfl) rfl (fun b2 _ => ?_)
  refine o_p (p_pure rfl) rfl ?_
  refine o_nil ?_
  refine s_seq ?_
  refine s_region ?_
  refine o_q (q_loadn rfl rfl sz_62 aPk rfl) rfl ?_
  refine o_q (q_loadn rfl rfl sz_62 aPk rfl) rfl ?_
  refine o_q (q_call rfl fn_124 rfl (fun w1 h1 => c124 w1 _ _ (by assumption) (by assumption))) rfl ?_
  refine o_p (p_pure rfl) rfl ?_
  refine o_and 7 8 15 _ _ rfl
    (by
      intro hg3
      have hs4 := hg3; try simp only [decide_eq_true_eq, decide_eq_false_iff_not, Bool.not_eq_true', Bool.not_eq_false', Bool.and_eq_true, Bool.or_eq_true, Bool.and_eq_false_iff, Bool.or_eq_false_iff, Bool.not_true, Bool.not_false] at hs4
      refine o_on 8 _ rfl rfl hg3 ?_
      refine o_p (p_fieldAddr rfl rfl fd_62_2 sz_4 rfl) rfl ?_
      refine o_on 8 _ rfl rfl hg3 ?_
      refine o_q (q_load rfl rfl sz_4 aPk rfl) rfl ?_
      refine o_on 8 _ rfl rfl hg3 ?_
      refine o_p (p_pure rfl) rfl ?_
      refine o_or 3 11 14 _ _ rfl
        (by
          intro hg5
          have hs6 := hg5; try simp only [decide_eq_true_eq, decide_eq_false_iff_not, Bool.not_eq_true', Bool.not_eq_false', Bool.and_eq_true, Bool.or_eq_true, Bool.and_eq_false_iff, Bool.or_eq_false_iff, Bool.not_true, Bool.not_false] at hs6
          refine o_on 11 _ rfl rfl hg5 ?_
          refine o_p (p_fieldAddr rfl rfl fd_62_2 sz_4 rfl) rfl ?_
          refine o_on 11 _ rfl rfl hg5 ?_
          refine o_q (q_load rfl rfl sz_4 aPk rfl) rfl ?_
          refine o_on 8 _ rfl rfl hg3 ?_
          refine o_p (p_pickf rfl rfl hg5 rfl) rfl ?_
          refine o_nil ?_
          exact s_joinN 3 14 _ rfl rfl rfl (fun w h => by first | exact h | exact h.ent aEt))
        (by
          intro hg7
          have hs8 := hg7; try simp only [decide_eq_true_eq, decide_eq_false_iff_not, Bool.not_eq_true', Bool.not_eq_false', Bool.and_eq_true, Bool.or_eq_true, Bool.and_eq_false_iff, Bool.or_eq_false_iff, Bool.not_true, Bool.not_false] at hs8
          refine o_off 11 _ rfl rfl hg7 rfl ?_
          refine o_off 11 _ rfl rfl hg7 rfl ?_
          refine o_on 8 _ rfl rfl hg3 ?_
          refine o_p (p_pickt rfl rfl hg7 rfl) rfl ?_
          refine o_nil ?_
          exact s_joinN 3 14 _ rfl rfl rfl (fun w h => by first | exact h | exact h.ent aEt)) ?_
      refine o_p (p_pickt rfl rfl hg3 rfl) rfl ?_
      refine o_nil ?_
      exact s_joinN 5 15 _ rfl rfl rfl (fun w h => by first | exact h | exact h.ent aEt))
    (by
      intro hg9
      have hs10 := hg9; try simp only [decide_eq_true_eq, decide_eq_false_iff_not, Bool.not_eq_true', Bool.not_eq_false', Bool.and_eq_true, Bool.or_eq_true, Bool.and_eq_false_iff, Bool.or_eq_false_iff, Bool.not_true, Bool.not_false] at hs10
      refine o_off 8 _ rfl rfl hg9 rfl ?_
      refine o_off 8 _ rfl rfl hg9 rfl ?_
      refine o_off 8 _ rfl rfl hg9 rfl ?_
      refine o_off' 11 rfl rfl rfl ?_
      refine o_off' 11 rfl rfl rfl ?_
      refine o_off 8 _ rfl rfl hg9 rfl ?_
      refine o_p (p_pickf rfl rfl hg9 rfl) rfl ?_
      refine o_nil ?_
      exact s_joinN 7 15 _ rfl rfl rfl (fun w h => by first | exact h | exact h.ent aEt)) ?_
  refine o_p (p_pure rfl) rfl ?_
  refine o_nil ?_
  exact s_retv (rs := [.tmp 4]) rfl (.tmp rfl (.nil)) (fun w' h' => ⟨by simp only [retV, clsh], h'.below⟩)

set_option maxRecDepth 20000 in
theorem c79 (w : World) (a b : Lock) (ha : rngE a.fr a.cnt = 0) (hb : rngE b.fr b.cnt = 0) : Calls Try.prog 79 #[.int .i64 a.fr, .int .i64 a.cnt, .int .i64 b.fr, .int .i64 b.cnt] w fun en w' => en = .returned (.bool (ovl a b)) ∧ Below w.heap.size w w' := by
  have ha1 := rngE_r ha
  have hb1 := rngE_r hb
  refine enter (args := [_, _, _, _]) Try.func79 Try.ntmps79 rfl rfl (HS.refl w []) ?_
  refine s_seq ?_
  refine s_region ?_
  refine o_p (p_pure rfl) rfl ?_
  refine o_nil ?_
  refine s_seq ?_
  refine s_region ?_
  refine o_p (p_pure rfl) rfl ?_
  refine o_p (p_pure rfl) rfl ?_
  refine o_p (p_pure rfl) rfl ?_
  refine o_p (p_pure rfl) rfl ?_
  try (refine o_slot (i64w (by omega) (by omega)) ?_)
  refine o_p (p_pure rfl) rfl ?_
  refine o_p (p_pure rfl) rfl ?_
  refine o_and 6 14 20 _ _ rfl
    (by
      intro hg1
      have hs2 := hg1; try simp only [decide_eq_true_eq, decide_eq_false_iff_not, Bool.not_eq_true', Bool.not_eq_false', Bool.and_eq_true, Bool.or_eq_true, Bool.and_eq_false_iff, Bool.or_eq_false_iff, Bool.not_true, Bool.not_false] at hs2
      refine o_on 14 _ rfl rfl hg1 ?_
      refine o_p (p_pure rfl) rfl ?_
      refine o_on 14 _ rfl rfl hg1 ?_
      refine o_p (p_pure rfl) rfl ?_
      refine o_on 14 _ rfl rfl hg1 ?_
      refine o_p (p_pure rfl) rfl ?_
      refine o_on 14 _ rfl rfl hg1 ?_
      refine o_p (p_pure rfl) rfl ?_
      try (refine o_slot (i64w (by omega) (by omega)) ?_)
      refine o_on 14 _ rfl rfl hg1 ?_
      refine o_p (p_pure rfl) rfl ?_
      refine o_p (p_pickt rfl rfl hg1 rfl) rfl ?_
      refine o_nil ?_
      exact s_joinN 6 20 _ rfl rfl rfl (fun w h => by first | exact h | exact h.ent aEt))
    (by
      intro hg3
      have hs4 := hg3; try simp only [decide_eq_true_eq, decide_eq_false_iff_not, Bool.not_eq_true', Bool.not_eq_false', Bool.and_eq_true, Bool.or_eq_true, Bool.and_eq_false_iff, Bool.or_eq_false_iff, Bool.not_true, Bool.not_false] at hs4
      refine o_off 14 _ rfl rfl hg3 rfl ?_
      refine o_off 14 _ rfl rfl hg3 rfl ?_
      refine o_off 14 _ rfl rfl hg3 rfl ?_
      refine o_off 14 _ rfl rfl hg3 rfl ?_
      refine o_off 14 _ rfl rfl hg3 rfl ?_
      refine o_p (p_pickf rfl rfl hg3 rfl) rfl ?_
      refine o_nil ?_
      exact s_joinN 6 20 _ rfl rfl rfl (fun w h => by first | exact h | exact h.ent aEt)) ?_
  refine o_p (p_pure rfl) rfl ?_
  refine o_nil ?_
  exact s_retv (rs := [.tmp 8]) rfl (.tmp rfl (.nil)) (fun w' h' => ⟨by simp only [retV, ovl], h'.below⟩)

set_option maxRecDepth 20000 in
theorem c72 (w : World) (a b : Lock) (ha : rngE a.fr a.cnt = 0) (hb : rngE b.fr b.cnt = 0) : Calls Try.prog 72 #[.agg #[.int .i64 a.fr, .int .i64 a.cnt, .bool a.ex], .agg #[.int .i64 b.fr, .int .i64 b.cnt, .bool b.ex]] w fun en w' => en = .returned (.bool (clsh a b)) ∧ Below w.heap.size w w' := by
  have ha1 := rngE_r ha
  have hb1 := rngE_r hb
  refine enter (args := [_, _]) Try.func72 Try.ntmps72 rfl rfl (HS.refl w []) ?_
  refine s_seq ?_
  refine s_region ?_
  refine o_h (h_box rfl rfl) rfl (fun b1 _ => ?_)
  refine o_h (h_box rfl rfl) rfl (fun b2 _ => ?_)
  refine o_p (p_pure rfl) rfl ?_
  refine o_nil ?_
  refine s_seq ?_
  refine s_region ?_
  refine o_p (p_fieldAddr rfl rfl fd_62_0 sz_3 rfl) rfl ?_
  refine o_q (q_load rfl rfl sz_3 aPk rfl) rfl ?_
  refine o_p (p_fieldAddr rfl rfl fd_62_1 sz_3 rfl) rfl ?_
  refine o_q (q_load rfl rfl sz_3 aPk rfl) rfl ?_
  refine o_p (p_fieldAddr rfl rfl fd_62_0 sz_3 rfl) rfl ?_
  refine o_q (q_load rfl rfl sz_3 aPk rfl) rfl ?_
  refine o_p (p_fieldAddr rfl rfl fd_62_1 sz_3 rfl) rfl ?_
  refine o_q (q_load rfl rfl sz_3 aPk rfl) rfl ?_
  refine o_q (q_call rfl fn_79 rfl (fun w1 h1 => c79 w1 a b ha hb)) rfl ?_
  refine o_p (p_pure rfl) rfl ?_
  refine o_and 7 14 21 _ _ rfl
    (by
      intro hg3
      have hs4 := hg3; try simp only [decide_eq_true_eq, decide_eq_false_iff_not, Bool.not_eq_true', Bool.not_eq_false', Bool.and_eq_true, Bool.or_eq_true, Bool.and_eq_false_iff, Bool.or_eq_false_iff, Bool.not_true, Bool.not_false] at hs4
      refine o_on 14 _ rfl rfl hg3 ?_
      refine o_p (p_fieldAddr rfl rfl fd_62_2 sz_4 rfl) rfl ?_
      refine o_on 14 _ rfl rfl hg3 ?_
      refine o_q (q_load rfl rfl sz_4 aPk rfl) rfl ?_
      refine o_on 14 _ rfl rfl hg3 ?_
      refine o_p (p_pure rfl) rfl ?_
      refine o_or 3 17 20 _ _ rfl
        (by
          intro hg5
          have hs6 := hg5; try simp only [decide_eq_true_eq, decide_eq_false_iff_not, Bool.not_eq_true', Bool.not_eq_false', Bool.and_eq_true, Bool.or_eq_true, Bool.and_eq_false_iff, Bool.or_eq_false_iff, Bool.not_true, Bool.not_false] at hs6
          refine o_on 17 _ rfl rfl hg5 ?_
          refine o_p (p_fieldAddr rfl rfl fd_62_2 sz_4 rfl) rfl ?_
          refine o_on 17 _ rfl rfl hg5 ?_
          refine o_q (q_load rfl rfl sz_4 aPk rfl) rfl ?_
          refine o_on 14 _ rfl rfl hg3 ?_
          refine o_p (p_pickf rfl rfl hg5 rfl) rfl ?_
          refine o_nil ?_
          exact s_joinN 3 20 _ rfl rfl rfl (fun w h => by first | exact h | exact h.ent aEt))
        (by
          intro hg7
          have hs8 := hg7; try simp only [decide_eq_true_eq, decide_eq_false_iff_not, Bool.not_eq_true', Bool.not_eq_false', Bool.and_eq_true, Bool.or_eq_true, Bool.and_eq_false_iff, Bool.or_eq_false_iff, Bool.not_true, Bool.not_false] at hs8
          refine o_off 17 _ rfl rfl hg7 rfl ?_
          refine o_off 17 _ rfl rfl hg7 rfl ?_
          refine o_on 14 _ rfl rfl hg3 ?_
          refine o_p (p_pickt rfl rfl hg7 rfl) rfl ?_
          refine o_nil ?_
          exact s_joinN 3 20 _ rfl rfl rfl (fun w h => by first | exact h | exact h.ent aEt)) ?_
      refine o_p (p_pickt rfl rfl hg3 rfl) rfl ?_
      refine o_nil ?_
      exact s_joinN 5 21 _ rfl rfl rfl (fun w h => by first | exact h | exact h.ent aEt))
    (by
      intro hg9
      have hs10 := hg9; try simp only [decide_eq_true_eq, decide_eq_false_iff_not, Bool.not_eq_true', Bool.not_eq_false', Bool.and_eq_true, Bool.or_eq_true, Bool.and_eq_false_iff, Bool.or_eq_false_iff, Bool.not_true, Bool.not_false] at hs10
      refine o_off 14 _ rfl rfl hg9 rfl ?_
      refine o_off 14 _ rfl rfl hg9 rfl ?_
      refine o_off 14 _ rfl rfl hg9 rfl ?_
      refine o_off' 17 rfl rfl rfl ?_
      refine o_off' 17 rfl rfl rfl ?_
      refine o_off 14 _ rfl rfl hg9 rfl ?_
      refine o_p (p_pickf rfl rfl hg9 rfl) rfl ?_
      refine o_nil ?_
      exact s_joinN 7 21 _ rfl rfl rfl (fun w h => by first | exact h | exact h.ent aEt)) ?_
  refine o_p (p_pure rfl) rfl ?_
  refine o_nil ?_
  exact s_retv (rs := [.tmp 4]) rfl (.tmp rfl (.nil)) (fun w' h' => ⟨by simp only [retV, clsh], h'.below⟩)

set_option maxRecDepth 20000 in
theorem c60 (w : World) (a b c d : Int) : Calls Try.prog 60 #[.agg #[.int .i64 a, .int .i64 b], .agg #[.int .i64 c, .int .i64 d]] w fun en w' => en = .returned (.bool (refLt (a, b) (c, d))) ∧ Below w.heap.size w w' := by
  refine enter (args := [_, _]) Try.func60 Try.ntmps60 rfl rfl (HS.refl w []) ?_
  refine s_seq ?_
  refine s_region ?_
  refine o_h (h_box rfl rfl) rfl (fun b1 _ => ?_)
  refine o_h (h_box rfl rfl) rfl (fun b2 _ => ?_)
  refine o_p (p_pure rfl) rfl ?_
  refine o_nil ?_
  refine s_seq ?_
  refine s_region ?_
  refine o_p (p_fieldAddr rfl rfl fd_42_0 sz_3 rfl) rfl ?_
  refine o_q (q_load rfl rfl sz_3 aPk rfl) rfl ?_
  refine o_p (p_fieldAddr rfl rfl fd_42_0 sz_3 rfl) rfl ?_
  refine o_q (q_load rfl rfl sz_3 aPk rfl) rfl ?_
  refine o_p (p_pure rfl) rfl ?_
  refine o_p (p_pure rfl) rfl ?_
  refine o_or 13 10 23 _ _ rfl
    (by
      intro hg3
      have hs4 := hg3; try simp only [decide_eq_true_eq, decide_eq_false_iff_not, Bool.not_eq_true', Bool.not_eq_false', Bool.and_eq_true, Bool.or_eq_true, Bool.and_eq_false_iff, Bool.or_eq_false_iff, Bool.not_true, Bool.not_false] at hs4
      refine o_on 10 _ rfl rfl hg3 ?_
      refine o_p (p_fieldAddr rfl rfl fd_42_0 sz_3 rfl) rfl ?_
      refine o_on 10 _ rfl rfl hg3 ?_
      refine o_q (q_load rfl rfl sz_3 aPk rfl) rfl ?_
      refine o_on 10 _ rfl rfl hg3 ?_
      refine o_p (p_fieldAddr rfl rfl fd_42_0 sz_3 rfl) rfl ?_
      refine o_on 10 _ rfl rfl hg3 ?_
      refine o_q (q_load rfl rfl sz_3 aPk rfl) rfl ?_
      refine o_on 10 _ rfl rfl hg3 ?_
      refine o_p (p_pure rfl) rfl ?_
      refine o_on 10 _ rfl rfl hg3 ?_
      refine o_p (p_pure rfl) rfl ?_
      refine o_and 6 16 22 _ _ rfl
        (by
          intro hg5
          have hs6 := hg5; try simp only [decide_eq_true_eq, decide_eq_false_iff_not, Bool.not_eq_true', Bool.not_eq_false', Bool.and_eq_true, Bool.or_eq_true, Bool.and_eq_false_iff, Bool.or_eq_false_iff, Bool.not_true, Bool.not_false] at hs6
          refine o_on 16 _ rfl rfl hg5 ?_
          refine o_p (p_fieldAddr rfl rfl fd_42_1 sz_3 rfl) rfl ?_
          refine o_on 16 _ rfl rfl hg5 ?_
          refine o_q (q_load rfl rfl sz_3 aPk rfl) rfl ?_
          refine o_on 16 _ rfl rfl hg5 ?_
          refine o_p (p_fieldAddr rfl rfl fd_42_1 sz_3 rfl) rfl ?_
          refine o_on 16 _ rfl rfl hg5 ?_
          refine o_q (q_load rfl rfl sz_3 aPk rfl) rfl ?_
          refine o_on 16 _ rfl rfl hg5 ?_
          refine o_p (p_pure rfl) rfl ?_
          refine o_on 10 _ rfl rfl hg3 ?_
          refine o_p (p_pickt rfl rfl hg5 rfl) rfl ?_
          refine o_nil ?_
          exact s_joinN 6 22 _ rfl rfl rfl (fun w h => by first | exact h | exact h.ent aEt))
        (by
          intro hg7
          have hs8 := hg7; try simp only [decide_eq_true_eq, decide_eq_false_iff_not, Bool.not_eq_true', Bool.not_eq_false', Bool.and_eq_true, Bool.or_eq_true, Bool.and_eq_false_iff, Bool.or_eq_false_iff, Bool.not_true, Bool.not_false] at hs8
          refine o_off 16 _ rfl rfl hg7 rfl ?_
          refine o_off 16 _ rfl rfl hg7 rfl ?_
          refine o_off 16 _ rfl rfl hg7 rfl ?_
          refine o_off 16 _ rfl rfl hg7 rfl ?_
          refine o_off 16 _ rfl rfl hg7 rfl ?_
          refine o_on 10 _ rfl rfl hg3 ?_
          refine o_p (p_pickf rfl rfl hg7 rfl) rfl ?_
          refine o_nil ?_
          exact s_joinN 6 22 _ rfl rfl rfl (fun w h => by first | exact h | exact h.ent aEt)) ?_
      refine o_p (p_pickf rfl rfl hg3 rfl) rfl ?_
      refine o_nil ?_
      exact s_joinN 8 23 _ rfl rfl rfl (fun w h => by first | exact h | exact h.ent aEt))
    (by
      intro hg9
      have hs10 := hg9; try simp only [decide_eq_true_eq, decide_eq_false_iff_not, Bool.not_eq_true', Bool.not_eq_false', Bool.and_eq_true, Bool.or_eq_true, Bool.and_eq_false_iff, Bool.or_eq_false_iff, Bool.not_true, Bool.not_false] at hs10
      refine o_off 10 _ rfl rfl hg9 rfl ?_
      refine o_off 10 _ rfl rfl hg9 rfl ?_
      refine o_off 10 _ rfl rfl hg9 rfl ?_
      refine o_off 10 _ rfl rfl hg9 rfl ?_
      refine o_off 10 _ rfl rfl hg9 rfl ?_
      refine o_off 10 _ rfl rfl hg9 rfl ?_
      refine o_off' 16 rfl rfl rfl ?_
      refine o_off' 16 rfl rfl rfl ?_
      refine o_off' 16 rfl rfl rfl ?_
      refine o_off' 16 rfl rfl rfl ?_
      refine o_off' 16 rfl rfl rfl ?_
      refine o_off 10 _ rfl rfl hg9 rfl ?_
      refine o_p (p_pickt rfl rfl hg9 rfl) rfl ?_
      refine o_nil ?_
      exact s_joinN 13 23 _ rfl rfl rfl (fun w h => by first | exact h | exact h.ent aEt)) ?_
  refine o_p (p_pure rfl) rfl ?_
  refine o_nil ?_
  exact s_retv (rs := [.tmp 4]) rfl (.tmp rfl (.nil)) (fun w' h' => ⟨by simp only [retV, refLt], h'.below⟩)

set_option maxRecDepth 20000 in
theorem c119 (w : World) (x : Int) : Calls Try.prog 119 #[.int .i64 x] w fun en w' => en = .returned (.bool false) ∧ Below w.heap.size w w' := by
  refine enter (args := [_]) Try.func119 Try.ntmps119 rfl rfl (HS.refl w []) ?_
  refine s_seq ?_
  refine s_region ?_
  refine o_p (p_pure rfl) rfl ?_
  refine o_nil ?_
  refine s_seq ?_
  refine s_region ?_
  refine o_p (p_pure rfl) rfl ?_
  refine o_p (p_pure rfl) rfl ?_
  refine o_p (p_pure rfl) rfl ?_
  refine o_p (p_pure rfl) rfl ?_
  refine o_nil ?_
  exact s_retv (rs := [.tmp 2]) rfl (.tmp rfl (.nil)) (fun w' h' => ⟨by simp only [retV]; simp, h'.below⟩)

set_option maxRecDepth 20000 in
theorem c91 (w : World) (x y : Int) : Calls Try.prog 91 #[.int .i64 x, .int .i64 y] w fun en w' => en = .returned (.int .i64 (cmpI x y)) ∧ Below w.heap.size w w' := by
  refine enter (args := [_, _]) Try.func91 Try.ntmps91 rfl rfl (HS.refl w []) ?_
  refine s_seq ?_
  refine s_region ?_
  refine o_p (p_pure rfl) rfl ?_
  refine o_nil ?_
  refine s_seq ?_
  refine s_region ?_
  refine o_p (p_pure rfl) rfl ?_
  refine o_q (q_call rfl fn_119 rfl (fun w1 h1 => c119 w1 _)) rfl ?_
  refine o_p (p_pure rfl) rfl ?_
  refine o_nil ?_
  refine s_seq ?_
  refine s_region ?_
  refine o_p (p_pure rfl) rfl ?_
  refine o_q (q_call rfl fn_119 rfl (fun w1 h1 => c119 w1 _)) rfl ?_
  refine o_p (p_pure rfl) rfl ?_
  refine o_nil ?_
  refine s_seq ?_
  refine s_seq ?_
  refine s_region ?_
  refine o_p (p_pure rfl) rfl ?_
  refine o_nil ?_
  refine s_cond rfl (fun h1 => ?_) (fun h1 => ?_)
  · try simp only [decide_eq_true_eq, decide_eq_false_iff_not, Bool.not_eq_true', Bool.not_eq_false', Bool.and_eq_true, Bool.or_eq_true, Bool.and_eq_false_iff, Bool.or_eq_false_iff, Bool.not_true, Bool.not_false] at h1
    exfalso; first | omega | (simp at h1; done) | (simp_all; done)
  · try simp only [decide_eq_true_eq, decide_eq_false_iff_not, Bool.not_eq_true', Bool.not_eq_false', Bool.and_eq_true, Bool.or_eq_true, Bool.and_eq_false_iff, Bool.or_eq_false_iff, Bool.not_true, Bool.not_false] at h1
    refine s_skip ?_
    refine s_seq ?_
    refine s_seq ?_
    refine s_region ?_
    refine o_p (p_pure rfl) rfl ?_
    refine o_nil ?_
    refine s_cond rfl (fun h2 => ?_) (fun h2 => ?_)
    · try simp only [decide_eq_true_eq, decide_eq_false_iff_not, Bool.not_eq_true', Bool.not_eq_false', Bool.and_eq_true, Bool.or_eq_true, Bool.and_eq_false_iff, Bool.or_eq_false_iff, Bool.not_true, Bool.not_false] at h2
      exfalso; first | omega | (simp at h2; done) | (simp_all; done)
    · try simp only [decide_eq_true_eq, decide_eq_false_iff_not, Bool.not_eq_true', Bool.not_eq_false', Bool.and_eq_true, Bool.or_eq_true, Bool.and_eq_false_iff, Bool.or_eq_false_iff, Bool.not_true, Bool.not_false] at h2
      refine s_skip ?_
      refine s_seq ?_
      refine s_seq ?_
      refine s_region ?_
      refine o_p (p_pure rfl) rfl ?_
      refine o_p (p_pure rfl) rfl ?_
      refine o_p (p_pure rfl) rfl ?_
      refine o_nil ?_
      refine s_cond rfl (fun h3 => ?_) (fun h3 => ?_)
      · try simp only [decide_eq_true_eq, decide_eq_false_iff_not, Bool.not_eq_true', Bool.not_eq_false', Bool.and_eq_true, Bool.or_eq_true, Bool.and_eq_false_iff, Bool.or_eq_false_iff, Bool.not_true, Bool.not_false] at h3
        refine s_seq ?_
        refine s_region ?_
        refine o_p (p_pure rfl) rfl ?_
        refine o_nil ?_
        exact s_retv (rs := [.tmp 4]) rfl (.tmp rfl (.nil)) (fun w' h' => ⟨by simp only [retV, cmpI]; grind, h'.below⟩)
      · try simp only [decide_eq_true_eq, decide_eq_false_iff_not, Bool.not_eq_true', Bool.not_eq_false', Bool.and_eq_true, Bool.or_eq_true, Bool.and_eq_false_iff, Bool.or_eq_false_iff, Bool.not_true, Bool.not_false] at h3
        refine s_skip ?_
        refine s_seq ?_
        refine s_seq ?_
        refine s_region ?_
        refine o_p (p_pure rfl) rfl ?_
        refine o_p (p_pure rfl) rfl ?_
        refine o_p (p_pure rfl) rfl ?_
        refine o_nil ?_
        refine s_cond rfl (fun h4 => ?_) (fun h4 => ?_)
        · try simp only [decide_eq_true_eq, decide_eq_false_iff_not, Bool.not_eq_true', Bool.not_eq_false', Bool.and_eq_true, Bool.or_eq_true, Bool.and_eq_false_iff, Bool.or_eq_false_iff, Bool.not_true, Bool.not_false] at h4
          refine s_seq ?_
          refine s_region ?_
          refine o_p (p_pure rfl) rfl ?_
          refine o_nil ?_
          exact s_retv (rs := [.tmp 4]) rfl (.tmp rfl (.nil)) (fun w' h' => ⟨by simp only [retV, cmpI]; grind, h'.below⟩)
        · try simp only [decide_eq_true_eq, decide_eq_false_iff_not, Bool.not_eq_true', Bool.not_eq_false', Bool.and_eq_true, Bool.or_eq_true, Bool.and_eq_false_iff, Bool.or_eq_false_iff, Bool.not_true, Bool.not_false] at h4
          refine s_skip ?_
          refine s_seq ?_
          refine s_region ?_
          refine o_p (p_pure rfl) rfl ?_
          refine o_nil ?_
          exact s_retv (rs := [.tmp 4]) rfl (.tmp rfl (.nil)) (fun w' h' => ⟨by simp only [retV, cmpI]; grind, h'.below⟩)

set_option maxRecDepth 20000 in
theorem c90 (w : World) (a : Option Addr) (cap : Nat) (es : List Int) (hs : Sl w [] a 1 es.length (fun i => [.int .i64 (es.getD i 0)])) (hm : es.length ≤ 1000) : Calls Try.prog 90 #[.slice a es.length cap] w fun en w' => en = .returned (.int .i64 (firstI es)) ∧ Below w.heap.size w w' := by
  refine enter (args := [_]) Try.func90 Try.ntmps90 rfl rfl (HS.refl w []) ?_
  refine s_seq ?_
  refine s_region ?_
  refine o_p (p_pure rfl) rfl ?_
  refine o_nil ?_
  refine s_seq ?_
  refine s_region ?_
  refine o_p (p_pure rfl) rfl ?_
  refine o_nil ?_
  refine s_seq ?_
  refine s_seq ?_
  refine s_region ?_
  refine o_p (p_pure rfl) rfl ?_
  refine o_p (p_len_slice rfl rfl Try.underlying38) rfl ?_
  refine o_p (p_pure rfl) rfl ?_
  refine o_nil ?_
  refine s_block ?_
  refine s_loopI (α := Nat) [2, 5, 8, 9, 10, 11, 12, 13, 14, 15, 16] (fun k => [(8, .int .i64 (k : Int))]) (fun _ => _) (fun k => k ≤ es.length ∧ firstI es = firstI (es.drop k)) (fun k => es.length - k) 0 ⟨by omega, rfl⟩ aSx (fun w h => h) (fun k hk => ?_)
  obtain ⟨hk1, hk2⟩ := hk
  refine s_seq ?_
  refine s_region ?_
  refine o_p (p_pure rfl) rfl ?_
  refine o_nil ?_
  refine s_seq ?_
  refine s_cond rfl (fun h1 => ?_) (fun h1 => ?_)
  · try simp only [decide_eq_true_eq, decide_eq_false_iff_not, Bool.not_eq_true', Bool.not_eq_false', Bool.and_eq_true, Bool.or_eq_true, Bool.and_eq_false_iff, Bool.or_eq_false_iff, Bool.not_true, Bool.not_false] at h1
    refine s_skip ?_
    refine s_seq ?_
    refine s_block ?_
    refine s_seq ?_
    refine s_region ?_
    refine o_p (p_indexAddr rfl rfl rfl sl_38 _ rfl (by omega) (hs.some (by omega))) rfl ?_
    refine o_q (q_load_old rfl rfl sz_3 (hs.rd (i := k) (j := 0) (by omega) rfl)) rfl ?_
    refine o_p (p_pure rfl) rfl ?_
    refine o_nil ?_
    refine s_seq ?_
    refine s_region ?_
    refine o_p (p_pure rfl) rfl ?_
    refine o_p (p_pure rfl) rfl ?_
    refine o_p (p_pure rfl) rfl ?_
    refine o_nil ?_
    refine s_cond rfl (fun h2 => ?_) (fun h2 => ?_)
    · try simp only [decide_eq_true_eq, decide_eq_false_iff_not, Bool.not_eq_true', Bool.not_eq_false', Bool.and_eq_true, Bool.or_eq_true, Bool.and_eq_false_iff, Bool.or_eq_false_iff, Bool.not_true, Bool.not_false] at h2
      refine s_seq ?_
      refine s_region ?_
      refine o_p (p_pure rfl) rfl ?_
      refine o_p (p_pure rfl) rfl ?_
      refine o_nil ?_
      exact s_retv (rs := [.tmp 2]) rfl (.tmp rfl (.nil)) (fun w' h' => ⟨by simp only [retV]; rw [hk2, firstI_drop (by omega), if_neg (by assumption)], h'.below⟩)
    · try simp only [decide_eq_true_eq, decide_eq_false_iff_not, Bool.not_eq_true', Bool.not_eq_false', Bool.and_eq_true, Bool.or_eq_true, Bool.and_eq_false_iff, Bool.or_eq_false_iff, Bool.not_true, Bool.not_false] at h2
      refine s_skip ?_
      refine s_blk ?_
      refine s_region ?_
      refine o_p (p_pure rfl) rfl ?_
      try (refine o_slot (i64w (by omega) (by omega)) ?_)
      refine o_p (p_pure rfl) rfl ?_
      refine o_nil ?_
      exact s_backI (k+1) (by omega) ⟨by omega, by rw [hk2, firstI_drop (by omega), if_pos (by assumption)]⟩ aSx (fun w h => h)
  · try simp only [decide_eq_true_eq, decide_eq_false_iff_not, Bool.not_eq_true', Bool.not_eq_false', Bool.and_eq_true, Bool.or_eq_true, Bool.and_eq_false_iff, Bool.or_eq_false_iff, Bool.not_true, Bool.not_false] at h1
    refine s_exit_to rfl ?_
    refine s_seq ?_
    refine s_region ?_
    refine o_p (p_pure rfl) rfl ?_
    refine o_p (p_pure rfl) rfl ?_
    refine o_nil ?_
    exact s_retv (rs := [.tmp 2]) rfl (.tmp rfl (.nil)) (fun w' h' => ⟨by simp only [retV]; rw [hk2, firstI_end (by omega)], h'.below⟩)

theorem f90 {w0 w : World} {M : List Nat} {As As' : List HA} {b cap n : Nat} {t : TypeId} {tot : Nat} {cs : List Value} (h : HS w0 M As w) (hp : Pick As (.blk b t tot cs) As') (hc : cs.all isI64 = true) (hn : cs.length = n) (hl : n ≤ 1000) :
    Calls Try.prog 90 #[.slice (some ⟨b, 0, none⟩) n cap] w fun en w' => en = .returned (.int .i64 (firstV cs)) ∧ Below w.heap.size w w' := by
  subst hn
  have := c90 w (some ⟨b, 0, none⟩) cap (cs.map intOf) (by simpa using h.sl_ints hp hc) (by simpa using hl)
  rw [firstV_eq hc] at this
  simpa using this

set_option maxRecDepth 20000 in
theorem c56 (w : World) (a b c d : Int) : Calls Try.prog 56 #[.agg #[.int .i64 a, .int .i64 b], .agg #[.int .i64 c, .int .i64 d]] w fun en w' => en = .returned (.int .i64 (cmp2 (a, b) (c, d))) ∧ Below w.heap.size w w' := by
  refine enter (args := [_, _]) Try.func56 Try.ntmps56 rfl rfl (HS.refl w []) ?_
  refine s_seq ?_
  refine s_region ?_
  refine o_h (h_box rfl rfl) rfl (fun b1 _ => ?_)
  refine o_h (h_box rfl rfl) rfl (fun b2 _ => ?_)
  refine o_p (p_pure rfl) rfl ?_
  refine o_nil ?_
  refine s_seq ?_
  refine s_draw [] mixed ?_
  refine d_p 0 rfl (p_fieldAddr rfl rfl fd_42_0 sz_3 rfl) (by kernel_rfl) rfl rfl ?_
  refine d_q 1 [] rfl (q_load rfl rfl sz_3 aPk rfl) (by kernel_rfl) (by kernel_rfl) (by kernel_rfl) rfl ?_
  refine d_p 2 rfl (p_fieldAddr rfl rfl fd_42_0 sz_3 rfl) (by kernel_rfl) rfl rfl ?_
  refine d_q 3 [] rfl (q_load rfl rfl sz_3 aPk rfl) (by kernel_rfl) (by kernel_rfl) (by kernel_rfl) rfl ?_
  refine d_q 4 [] rfl (q_call rfl fn_91 rfl (fun w1 h1 => c91 w1 _ _)) (by kernel_rfl) (by kernel_rfl) (by kernel_rfl) rfl ?_
  refine d_p 5 rfl (p_fieldAddr rfl rfl fd_42_1 sz_3 rfl) (by kernel_rfl) rfl rfl ?_
  refine d_q 6 [] rfl (q_load rfl rfl sz_3 aPk rfl) (by kernel_rfl) (by kernel_rfl) (by kernel_rfl) rfl ?_
  refine d_p 7 rfl (p_fieldAddr rfl rfl fd_42_1 sz_3 rfl) (by kernel_rfl) rfl rfl ?_
  refine d_q 8 [] rfl (q_load rfl rfl sz_3 aPk rfl) (by kernel_rfl) (by kernel_rfl) (by kernel_rfl) rfl ?_
  refine d_q 9 [] rfl (q_call rfl fn_91 rfl (fun w1 h1 => c91 w1 _ _)) (by kernel_rfl) (by kernel_rfl) (by kernel_rfl) rfl ?_
  refine d_h 10 rfl (h_buildSlice (cs := [_, _]) rfl rfl sl_38 zr_3 rfl rfl rfl) (by kernel_rfl) (fun w h => h.ent aEt) rfl (fun b3 _ => ?_)
  refine d_base (fun w h => h.ent aEt) ?_
  refine d_q 11 [] rfl (q_call rfl fn_90 rfl (fun w1 h1 => f90 h1 aPk (by rfl) (by rfl) (by decide))) (by kernel_rfl) (by kernel_rfl) (by kernel_rfl) rfl ?_
  refine d_p 12 rfl (p_pure rfl) (by kernel_rfl) rfl rfl ?_
  refine d_nil (by kernel_rfl) (fun w h => h.ent aEt) ?_
  exact s_retv (rs := [.tmp 4]) rfl (.tmp rfl (.nil)) (fun w' h' => ⟨by simp only [retV, cmp2]; rfl, h'.below⟩)

end Go.Proofs

/- From a reading of the arguments to what their values are; and back, for a law that answers true and writes to nothing old. -/
namespace Gx
open Go Go.RowKit Go.ChangeShapes Go.WideShapes Go.ChangeAt

section
variable {H : Type} {enc : TypeId × Value → H} {P : Program} {W : World}
/-- What is known of cells that read as a type's. -/
def okT (P : Program) (W : World) : Nat → TypeId → List Value → Prop
  | 0, _, _ => False
  | d + 1, t, cs => match P.underlying t with
    | some (.int k) => ∃ n, cs = [.int k n] ∧ (Lit.int k n).wf = true
    | some .string => ∃ l, cs = [.string (bs l)] ∧ l.length ≤ maxLen
    | some .bool => ∃ b, cs = [.bool b]
    | some (.slice e) => ∃ a n cap cell, cs = [.slice a n cap] ∧ n ≤ cap ∧ cap ≤ maxLen ∧ (0 < P.cellsOf e → Sl W [] a (P.cellsOf e) n cell) ∧ ∀ i, i < n → okT P W d e (cell i)
    | some (.struct fs) => cs.length = P.cellsOf t ∧ ∀ f ∈ fs.toList, okT P W d f.type ((cs.drop f.offset).take (P.cellsOf f.type))
    | some (.array n e) => cs.length = P.cellsOf t ∧ ∀ i, i < n → okT P W d e ((cs.drop (i * P.cellsOf e)).take (P.cellsOf e))
    | _ => True
theorem cells?_get {a : Addr} {n : Nat} {cs : List Value} (h : W.cells? 0 a n = some cs) : cs.length = n ∧ ∀ j v, cs[j]? = some v → W.cell? (a.add j) = some v := by
  unfold World.cells? at h
  rw [if_pos (Nat.zero_le _)] at h
  have hl : cs.length = n := by simpa using mapM_some_length h
  refine ⟨hl, fun j v hv => ?_⟩
  have hj : j < n := by rw [← hl]; exact (List.getElem?_eq_some_iff.1 hv).1
  have := mapM_some_get h j j (by simp [hj])
  rw [this, hv]
theorem okT_of_trod {sp : Nat → Bool} {held : Bool} : ∀ (d : Nat) (t : TypeId) (cs : List Value) (x : DataW H × List MemPlace), DataW.trod enc P W 0 sp held d t cs = some x → okT P W d t cs
  | 0, _, _, _, h => by simp [DataW.trod] at h
  | d + 1, t, cs, x, h => by
    rw [okT]
    split
    · rename_i k hu
      obtain ⟨n, rfl, _, hw⟩ := DataW.trod_int hu h
      exact ⟨n, rfl, hw⟩
    · rename_i hu
      obtain ⟨s, rfl, _, hs⟩ := DataW.trod_string hu h
      exact ⟨s.data.toList, rfl, hs⟩
    · rename_i hu
      obtain ⟨b, rfl, _⟩ := DataW.trod_bool hu h
      exact ⟨b, rfl⟩
    · rename_i e hu
      rcases DataW.trod_slice hu h with ⟨rfl, _⟩ | ⟨a, len, cap, elems, rest, n, hn, rfl, _, _, hl, hc, hel, hg, _⟩
      · exact ⟨none, 0, 0, fun _ => [], rfl, Nat.le_refl _, Nat.zero_le _, fun _ => ⟨fun h0 => absurd h0 (Nat.lt_irrefl _)⟩, fun i hi => absurd hi (Nat.not_lt_zero i)⟩
      · cases hn
        have hx : ∀ i, i < len → ∃ c y, W.cells? 0 (a.add (i * P.cellsOf e)) (P.cellsOf e) = some c ∧ DataW.trod enc P W 0 sp held d e c = some y := fun i hi => by
          have h1 := hg i hi
          have h2 : ∃ y, elems[i]? = some y := ⟨_, List.getElem?_eq_getElem (by omega)⟩
          obtain ⟨y, hy⟩ := h2
          rw [hy, Option.bind_eq_some_iff] at h1
          obtain ⟨c, e1, e2⟩ := h1
          exact ⟨c, y, e1, e2⟩
        have hcell : ∀ i, ∃ c, i < len → ∃ y, W.cells? 0 (a.add (i * P.cellsOf e)) (P.cellsOf e) = some c ∧ DataW.trod enc P W 0 sp held d e c = some y := fun i => by
          by_cases hi : i < len
          · obtain ⟨c, y, e1, e2⟩ := hx i hi; exact ⟨c, fun _ => ⟨y, e1, e2⟩⟩
          · exact ⟨[], fun h => absurd h hi⟩
        obtain ⟨cell, hcell⟩ := Classical.axiomOfChoice hcell
        refine ⟨some a, len, cap, cell, rfl, hl, hc, fun h0 => ⟨fun hpos => ?_⟩, fun i hi => ?_⟩
        · have hsp : a.spot = none := by
            obtain ⟨y, e1, _⟩ := hcell 0 hpos
            obtain ⟨e2, e3⟩ := cells?_get e1
            have hz : 0 < (cell 0).length := by omega
            have e4 := e3 0 _ (List.getElem?_eq_getElem hz)
            have e5 : (a.add (0 * P.cellsOf e)).add 0 = a := by simp [Addr.add]
            rw [e5] at e4
            unfold World.cell? at e4
            split at e4
            · split at e4
              · cases e4
              · rename_i hns
                cases hsx : a.spot with
                | none => rfl
                | some v => rw [hsx] at hns; simp at hns
            · cases e4
          obtain ⟨b, o, s⟩ := a
          simp only at hsp
          subst hsp
          refine ⟨b, o, rfl, fun i hi => ?_⟩
          obtain ⟨y, e1, _⟩ := hcell i hi
          obtain ⟨e2, e3⟩ := cells?_get e1
          refine ⟨e2, fun j v hv => ?_⟩
          have e4 := e3 j v hv
          have e5 : ((⟨b, o, none⟩ : Addr).add (i * P.cellsOf e)).add j = ⟨b, o + i * P.cellsOf e + j, none⟩ := by rw [addr_add, addr_add]
          rw [e5] at e4
          refine ⟨?_, by simp, e4⟩
          unfold World.cell? at e4
          split at e4
          · rename_i hh
            exact (Array.getElem?_eq_some_iff.1 hh).1
          · cases e4
        · obtain ⟨y, _, e2⟩ := hcell i hi
          exact okT_of_trod d e _ y e2
    · rename_i fs hu
      obtain ⟨xs, n, hn, _, hl, hxl, hg⟩ := DataW.trod_struct hu h
      cases hn
      refine ⟨hl, fun f hf => ?_⟩
      obtain ⟨i, hi, rfl⟩ := List.getElem_of_mem hf
      have hi' : i < fs.size := by simpa using hi
      have h1 := hg i fs[i] (by simp [hi'])
      rw [List.getElem?_eq_getElem (by omega)] at h1
      exact okT_of_trod d _ _ _ (by simpa using h1)
    · rename_i n e hu
      obtain ⟨xs, m, hm, _, hl, hxl, hg⟩ := DataW.trod_array hu h
      cases hm
      refine ⟨hl, fun i hi => ?_⟩
      have h1 := hg i hi
      rw [List.getElem?_eq_getElem (by omega)] at h1
      exact okT_of_trod d _ _ _ h1
    · trivial
/-! ## By shape -/
section
variable {d : Nat} {t : TypeId} {cs : List Value}
theorem okT_int {k : IntKind} (h : okT P W d t cs) (hu : P.underlying t = some (.int k)) : ∃ n, cs = [.int k n] ∧ (Lit.int k n).wf = true := by
  cases d with
  | zero => cases h
  | succ d => rw [okT, hu] at h; exact h
theorem okT_bool (h : okT P W d t cs) (hu : P.underlying t = some .bool) : ∃ b, cs = [.bool b] := by
  cases d with
  | zero => cases h
  | succ d => rw [okT, hu] at h; exact h
theorem okT_sl {e : TypeId} (h : okT P W d t cs) (hu : P.underlying t = some (.slice e)) (hc : 0 < P.cellsOf e) : ∃ d' a n cap cell, cs = [.slice a n cap] ∧ n ≤ cap ∧ cap ≤ maxLen ∧ Sl W [] a (P.cellsOf e) n cell ∧ ∀ i, i < n → okT P W d' e (cell i) := by
  cases d with
  | zero => cases h
  | succ d =>
    rw [okT, hu] at h
    obtain ⟨a, n, cap, cell, h1, h2, h3, h4, h5⟩ := h
    exact ⟨d, a, n, cap, cell, h1, h2, h3, h4 hc, h5⟩
theorem okT_st {fs : Array Field} (h : okT P W d t cs) (hu : P.underlying t = some (.struct fs)) : ∃ d', cs.length = P.cellsOf t ∧ ∀ f ∈ fs.toList, okT P W d' f.type ((cs.drop f.offset).take (P.cellsOf f.type)) := by
  cases d with
  | zero => cases h
  | succ d => rw [okT, hu] at h; exact ⟨d, h⟩
end
theorem okT_trod {sp : Nat → Bool} {held : Bool} {t : TypeId} {v : Value} {x : DataW H} {ps : List MemPlace} (h : DataW.Trod enc P W 0 sp held t v x ps) : ∃ d, okT P W d t v.cells.toList := by
  obtain ⟨d, h⟩ := h
  exact ⟨d, okT_of_trod d t _ _ h⟩
theorem agg_of {t : TypeId} {v : Value} {r : Reach} {b0 : Nat} (hval : Value.okWide P W r b0 t v) (ha : (match P.underlying t with | some (.struct _) | some (.array _ _) => true | _ => false) = true) : ∃ cs : List Value, v = .agg cs.toArray ∧ v.cells.toList = cs := by
  unfold Value.okWide at hval
  split at ha
  · rename_i hu; rw [hu] at hval; obtain ⟨cs, rfl, _⟩ := hval; exact ⟨cs.toList, rfl, rfl⟩
  · rename_i hu; rw [hu] at hval; obtain ⟨cs, rfl, _⟩ := hval; exact ⟨cs.toList, rfl, rfl⟩
  · cases ha
theorem wf_i64 {n : Int} (h : (Lit.int .i64 n).wf = true) : -9223372036854775808 ≤ n ∧ n ≤ 9223372036854775807 := by
  simpa [Lit.wf, IntKind.min, IntKind.max, IntKind.signed, IntKind.bits] using h
/-! ## A law that answers true and writes to nothing old -/
theorem trodAll_later (hl : laidOutB P = true) {W' : World} (hb : Below W.heap.size W W') : ∀ {ts : List TypeId} {vs : List Value} {ds : List (DataW H)} {ps : List MemPlace}, ts.all (fun t => P.readableRec t && decide (t < P.types.size)) = true →
    DataW.TrodAll enc P W 0 (fun _ => true) true ts vs ds ps → (∀ x ∈ ps, x.block < W.heap.size) → DataW.TrodAll enc P W' 0 (fun b => decide (b < W.heap.size)) true ts vs ds ps
  | [], [], [], _, _, h, _ => h
  | [], _ :: _, _, _, _, h, _ => (by cases h)
  | [], [], _ :: _, _, _, h, _ => (by cases h)
  | _ :: _, [], _, _, _, h, _ => (by cases h)
  | _ :: _, _ :: _, [], _, _, h, _ => (by cases h)
  | t :: ts, v :: vs, d :: ds, ps, hr, h, hlt => by
    obtain ⟨p, q, h1, h2, rfl⟩ := h
    simp only [List.all_cons, Bool.and_eq_true, decide_eq_true_eq] at hr
    exact ⟨p, q, Below.trod hl hr.1.1 hr.1.2 h1 hb (fun x hx => hlt x (List.mem_append_left _ hx)), trodAll_later hl hb hr.2 h2 (fun x hx => hlt x (List.mem_append_right _ hx)), rfl⟩
theorem post_true {f : Func} {s : ChangeSpec} {apart fresh handsOn : Bool} {W' : World} {args : Array Value} {ds gs : List (DataW H)} {before : List MemPlace} {tb : TypeId}
    (hl : laidOutB P = true) (hr : f.params.toList.all (fun t => P.readableRec t && decide (t < P.types.size)) = true) (hbool : f.resultTypes = #[tb]) (htb : P.underlying tb = some .bool) (hv : s.vars = [])
    (hs : s.fn H ds = { results := [.lit (.bool true)], args := ds }) (hW : DataW.Whole enc P f.params.toList s.vars apart W args.toList ds gs before) (hb : Below W.heap.size W W') :
    s.post enc P f apart fresh handsOn false W args (.bool true) W' := by
  have hW' := hW
  obtain ⟨p, q, hA, hV, rfl, hfz, hnd⟩ := hW
  rw [hv] at hV
  obtain ⟨rfl, rfl⟩ := trodVars_none hV
  have hlt : ∀ x ∈ p, x.block < W.heap.size := fun x hx => by simpa using hW'.lt x (by simpa using hx)
  refine ⟨ds, [], p ++ [], [], p, [], hW', ?_, ?_, ?_, hb.frame _, fun h => by cases h⟩
  · rw [List.append_nil, hs, hbool]
    exact trodAll_mk1 (shut_bool htb true)
  · rw [List.append_nil, hs]
    exact trodAll_later hl hb hr hA hlt
  · rw [List.append_nil, hs, hv]
    rfl
end
end Gx

/- Chapter 25: arguments that read as tables of handles, as rows of plain data. -/
namespace Go.Proofs
open Go Go.RowKit Gx
set_option linter.unusedVariables false
set_option linter.unusedSimpArgs false
theorem rw_of {α : Type} [Inhabited α] {vals : α → List Value} {sz n : Nat} {W : World} {a : Option Addr} {cell : Nat → List Value} {Q : α → Prop} (hs : Sl W [] a sz n cell) (hr : ∀ i, i < n → ∃ x, cell i = vals x ∧ Q x) : ∃ l : List α, n = l.length ∧ Rw vals sz W [] a l ∧ (∀ x ∈ l, Q x) ∧ ∀ i, i < n → cell i = vals (nth l i) := by
  have hr2 : ∀ i, ∃ x, i < n → cell i = vals x ∧ Q x := fun i => by
    by_cases hi : i < n
    · obtain ⟨x, h⟩ := hr i hi
      exact ⟨x, fun _ => h⟩
    · exact ⟨default, fun h => absurd h hi⟩
  obtain ⟨f, hf⟩ := Classical.axiomOfChoice hr2
  have hg : ∀ i, i < n → nth ((List.range n).map f) i = f i := fun i hi => by
    simp only [nth, List.getD_eq_getElem?_getD, List.getElem?_map, List.getElem?_range hi, Option.map_some, Option.getD_some]
  refine ⟨(List.range n).map f, by simp, ⟨fun hn => ?_⟩, fun x hx => ?_, fun i hi => ?_⟩
  · rw [List.length_map, List.length_range] at hn
    obtain ⟨b, o, e, h2⟩ := hs.at_ hn
    refine ⟨b, o, e, fun i hi => ?_⟩
    rw [List.length_map, List.length_range] at hi
    have h3 := h2 i hi
    rw [(hf i hi).1] at h3
    rw [hg i hi]
    exact h3
  · obtain ⟨i, hi, rfl⟩ := List.mem_map.1 hx
    exact (hf i (List.mem_range.1 hi)).2
  · rw [hg i hi]
    exact (hf i hi).1
theorem tcells3 : Try.prog.cellsOf 3 = 1 := by kernel_rfl
theorem tcells4 : Try.prog.cellsOf 4 = 1 := by kernel_rfl
theorem tcells42 : Try.prog.cellsOf 42 = 2 := by kernel_rfl
theorem tcells46 : Try.prog.cellsOf 46 = 1 := by kernel_rfl
theorem tcells75 : Try.prog.cellsOf 75 = 1 := by kernel_rfl
theorem tcells62 : Try.prog.cellsOf 62 = 3 := by kernel_rfl
theorem tcells48 : Try.prog.cellsOf 48 = 5 := by kernel_rfl
theorem tcells77 : Try.prog.cellsOf 77 = 4 := by kernel_rfl
section
variable {W : World} {d : Nat}
theorem ln3 {cs : List Value} (h : cs.length = 3) : ∃ x0 x1 x2, cs = [x0, x1, x2] := by
  match cs, h with
  | [x0, x1, x2], _ => exact ⟨x0, x1, x2, rfl⟩
theorem ln4 {cs : List Value} (h : cs.length = 4) : ∃ x0 x1 x2 x3, cs = [x0, x1, x2, x3] := by
  match cs, h with
  | [x0, x1, x2, x3], _ => exact ⟨x0, x1, x2, x3, rfl⟩
theorem ln5 {cs : List Value} (h : cs.length = 5) : ∃ x0 x1 x2 x3 x4, cs = [x0, x1, x2, x3, x4] := by
  match cs, h with
  | [x0, x1, x2, x3, x4], _ => exact ⟨x0, x1, x2, x3, x4, rfl⟩
theorem int_of {x : Value} (h : okT Try.prog W d 3 [x]) : ∃ n, x = .int .i64 n := by
  obtain ⟨n, e, _⟩ := okT_int h Try.underlying3
  cases e
  exact ⟨n, rfl⟩
theorem bool_of {x : Value} (h : okT Try.prog W d 4 [x]) : ∃ n, x = .bool n := by
  obtain ⟨n, e⟩ := okT_bool h Try.underlying4
  cases e
  exact ⟨n, rfl⟩
theorem lock_of {cs : List Value} (h : okT Try.prog W d 62 cs) : ∃ k : Lock, cs = k.vals := by
  obtain ⟨d2, l, o⟩ := okT_st h Try.underlying62
  rw [tcells62] at l
  obtain ⟨x0, x1, x2, rfl⟩ := ln3 l
  simp only [List.mem_cons, List.mem_nil_iff, or_false, forall_eq_or_imp, forall_eq] at o
  rw [tcells3, tcells4] at o
  obtain ⟨n0, rfl⟩ := int_of (x := x0) o.1
  obtain ⟨n1, rfl⟩ := int_of (x := x1) o.2.1
  obtain ⟨n2, rfl⟩ := bool_of (x := x2) o.2.2
  exact ⟨⟨n0, n1, n2⟩, rfl⟩
theorem locks_of {x : Value} (h : okT Try.prog W d 46 [x]) : ∃ a c l, x = .slice a (List.length (α := Lock) l) c ∧ Kt W [] a l := by
  obtain ⟨d2, a, n, cap, cell, e, h1, h2, sl, rows⟩ := okT_sl h Try.underlying46 (by rw [tcells62]; decide)
  rw [tcells62] at sl
  cases e
  obtain ⟨l, rfl, hl, _⟩ := rw_of (vals := Lock.vals) (Q := fun _ => True) sl fun i hi => (lock_of (rows i hi)).imp fun _ h => ⟨h, trivial⟩
  exact ⟨a, cap, l, rfl, hl⟩
theorem opn_of {cs : List Value} (h : okT Try.prog W d 48 cs) : ∃ k : LOpn, cs = k.vals ∧ Kt W [] k.la k.lk := by
  obtain ⟨d2, l, o⟩ := okT_st h Try.underlying48
  rw [tcells48] at l
  obtain ⟨x0, x1, x2, x3, x4, rfl⟩ := ln5 l
  simp only [List.mem_cons, List.mem_nil_iff, or_false, forall_eq_or_imp, forall_eq] at o
  rw [tcells3, tcells4, tcells46] at o
  obtain ⟨n0, rfl⟩ := int_of (x := x0) o.1
  obtain ⟨n1, rfl⟩ := int_of (x := x1) o.2.1
  obtain ⟨n2, rfl⟩ := int_of (x := x2) o.2.2.1
  obtain ⟨n3, rfl⟩ := bool_of (x := x3) o.2.2.2.1
  obtain ⟨a, c, k, rfl, hk⟩ := locks_of (x := x4) o.2.2.2.2
  exact ⟨⟨n0, n1, n2, n3, a, c, k⟩, rfl, hk⟩
theorem opens_of {x : Value} (h : okT Try.prog W d 75 [x]) : ∃ a c l, x = .slice a (List.length (α := LOpn) l) c ∧ Ot W [] a l ∧ l.length ≤ c := by
  obtain ⟨d2, a, n, cap, cell, e, h1, h2, sl, rows⟩ := okT_sl h Try.underlying75 (by rw [tcells48]; decide)
  rw [tcells48] at sl
  cases e
  obtain ⟨l, rfl, hl, hk, _⟩ := rw_of (vals := LOpn.vals) (Q := fun o => Kt W [] o.la o.lk) sl fun i hi => opn_of (rows i hi)
  exact ⟨a, cap, l, rfl, ⟨hl, hk⟩, h1⟩
theorem ref_of {x y : Value} (h : okT Try.prog W d 42 [x, y]) : ∃ n m, x = .int .i64 n ∧ y = .int .i64 m := by
  obtain ⟨d2, l, o⟩ := okT_st h Try.underlying42
  simp only [List.mem_cons, List.mem_nil_iff, or_false, forall_eq_or_imp, forall_eq] at o
  rw [tcells3] at o
  obtain ⟨n0, rfl⟩ := int_of (x := x) o.1
  obtain ⟨n1, rfl⟩ := int_of (x := y) o.2
  exact ⟨n0, n1, rfl, rfl⟩
theorem fil_of {cs : List Value} (h : okT Try.prog W d 77 cs) : ∃ k : LFil, cs = k.vals ∧ Ot W [] k.oa k.op ∧ k.op.length ≤ k.oc := by
  obtain ⟨d2, l, o⟩ := okT_st h Try.underlying77
  rw [tcells77] at l
  obtain ⟨x0, x1, x2, x3, rfl⟩ := ln4 l
  simp only [List.mem_cons, List.mem_nil_iff, or_false, forall_eq_or_imp, forall_eq] at o
  rw [tcells42, tcells4, tcells75] at o
  obtain ⟨n0, n1, rfl, rfl⟩ := ref_of (x := x0) (y := x1) o.1
  obtain ⟨n2, rfl⟩ := bool_of (x := x2) o.2.1
  obtain ⟨a, c, k, rfl, hk, hc⟩ := opens_of (x := x3) o.2.2
  exact ⟨⟨n0, n1, n2, a, c, k⟩, rfl, hk, hc⟩
/-- A slice of files reads as a table's files. -/
theorem files_of {n : Nat} {a : Option Addr} {cell : Nat → List Value} (sl : Sl W [] a 4 n cell) (rows : ∀ i, i < n → okT Try.prog W d 77 (cell i)) : ∃ l : List LFil, n = l.length ∧ Ft W [] a l := by
  obtain ⟨l, rfl, hl, hk, _⟩ := rw_of (vals := LFil.vals) (Q := fun f => Ot W [] f.oa f.op ∧ f.op.length ≤ f.oc) sl fun i hi => fil_of (rows i hi)
  exact ⟨l, rfl, hl, hk⟩
end
end Go.Proofs

namespace Go.Proofs
open Go Go.RowKit Gx
set_option linter.unusedVariables false
set_option linter.unusedSimpArgs false
attribute [local irreducible] Go.Calls Gx.S Gx.O Gx.D Gx.OpP Gx.OpQ Gx.OpH

theorem fn_103 : isFn Try.prog 103 = true := by kernel_rfl
theorem fn_94 : isFn Try.prog 94 = true := by kernel_rfl
theorem fn_63 : isFn Try.prog 63 = true := by kernel_rfl
theorem sz_46 : tsz Try.prog 46 = some (1, false) := by kernel_rfl
theorem fn_87 : isFn Try.prog 87 = true := by kernel_rfl


theorem subA0 {a : Option Addr} {cap sz : Nat} (h : a = some ⟨ab a, ao a, none⟩) : subA a cap 0 sz = a := by
  unfold subA
  split
  · rfl
  · rw [h]; simp [addr_add]
def okL (l : List Lock) : Prop := ∀ k ∈ l, rngE k.fr k.cnt = 0
theorem okL_nth {l : List Lock} (h : okL l) {i : Nat} (hi : i < l.length) : rngE (nth l i).fr (nth l i).cnt = 0 := h _ (mem_nth hi)
theorem rngs_ok {l : List Lock} (h : rngsE l = 0) : okL l := by
  intro k hk
  exact eachF_0.1 h _ (List.mem_map.2 ⟨k, hk, rfl⟩)
theorem map_getD_nth {α : Type} [Inhabited α] {l : List α} {f : α → Int} {k : Nat} (h : k < l.length) : (l.map f).getD k 0 = f (nth l k) := by
  simp only [nth, List.getD_eq_getElem?_getD, List.getElem?_map, List.getElem?_eq_getElem h, Option.map_some, Option.getD_some]
theorem map_getD_nthB {α : Type} [Inhabited α] {l : List α} {f : α → Bool} {k : Nat} (h : k < l.length) : (l.map f).getD k false = f (nth l k) := by
  simp only [nth, List.getD_eq_getElem?_getD, List.getElem?_map, List.getElem?_eq_getElem h, Option.map_some, Option.getD_some]
theorem any_map_id {α : Type} (l : List α) (f : α → Bool) : (l.map f).any id = l.any f := by simp [List.any_map]
theorem take_succ_nth {α : Type} [Inhabited α] {l : List α} {k : Nat} (h : k < l.length) : l.take (k + 1) = l.take k ++ [nth l k] := by
  rw [List.take_succ_eq_append_getElem h, nth, List.getD_eq_getElem?_getD, List.getElem?_eq_getElem h]; rfl
theorem drop_nth {α : Type} [Inhabited α] {l : List α} {k : Nat} (h : k < l.length) : l.drop k = nth l k :: l.drop (k + 1) := by
  rw [List.drop_eq_getElem_cons h, nth, List.getD_eq_getElem?_getD, List.getElem?_eq_getElem h]; rfl
def heldK (l : List LOpn) (k : Nat) : List Lock := (l.take k).flatMap LOpn.lk
theorem heldK_succ {l : List LOpn} {k : Nat} (h : k < l.length) : heldK l (k + 1) = heldK l k ++ (nth l k).lk := by
  unfold heldK
  rw [take_succ_nth h, List.flatMap_append]
  simp
theorem heldK_all (l : List LOpn) : heldK l l.length = (plo l).flatMap Opn.lk := by
  unfold heldK
  rw [List.take_length, List.flatMap_map]
  rfl
def lkA (H : List Lock) (k : Lock) : List Lock := if H.any (clsh · k) = true then H else H ++ [k]

set_option maxRecDepth 20000 in
theorem c122 (w : World) (b : Nat) (h k : Lock) (hr : ∀ j v, k.vals[j]? = some v → Rd w [] b (0 + j) v) (ha : rngE h.fr h.cnt = 0) (hb : rngE k.fr k.cnt = 0) : Calls Try.prog 122 #[.agg #[.int .i64 h.fr, .int .i64 h.cnt, .bool h.ex], .pointer (some ⟨b, 0, none⟩)] w fun en w' => en = .returned (.bool (clsh h k)) ∧ Below w.heap.size w w' := by
  refine enter (args := [_, _]) Try.func122 Try.ntmps122 rfl rfl (HS.refl w []) ?_
  refine s_seq ?_
  refine s_region ?_
  refine o_h (h_box rfl rfl) rfl (fun b1 _ => ?_)
  refine o_p (p_pure rfl) rfl ?_
  refine o_nil ?_
  refine s_seq ?_
  refine s_region ?_
  refine o_q (q_loadn rfl rfl sz_62 aPk rfl) rfl ?_
  refine o_q (q_load_oldn _ rfl rfl sz_62 rfl hr) rfl ?_
  refine o_q (q_call rfl fn_103 rfl (fun w1 h1 => c103 w1 h k ha hb)) rfl ?_
  refine o_p (p_pure rfl) rfl ?_
  refine o_nil ?_
  exact s_retv (rs := [.tmp 3]) rfl (.tmp rfl (.nil)) (fun w' h' => ⟨rfl, h'.below⟩)

set_option maxRecDepth 20000 in
theorem c93 (w : World) (i : Int) (k : Lock) : Calls Try.prog 93 #[.int .i64 i, .agg #[.int .i64 k.fr, .int .i64 k.cnt, .bool k.ex]] w fun en w' => en = .returned (.int .i64 (rngE k.fr k.cnt)) ∧ Below w.heap.size w w' := by
  refine enter (args := [_, _]) Try.func93 Try.ntmps93 rfl rfl (HS.refl w []) ?_
  refine s_seq ?_
  refine s_region ?_
  refine o_h (h_box rfl rfl) rfl (fun b1 _ => ?_)
  refine o_p (p_pure rfl) rfl ?_
  refine o_nil ?_
  refine s_seq ?_
  refine s_region ?_
  refine o_p (p_fieldAddr rfl rfl fd_62_0 sz_3 rfl) rfl ?_
  refine o_q (q_load rfl rfl sz_3 aPk rfl) rfl ?_
  refine o_p (p_fieldAddr rfl rfl fd_62_1 sz_3 rfl) rfl ?_
  refine o_q (q_load rfl rfl sz_3 aPk rfl) rfl ?_
  refine o_q (q_call rfl fn_94 rfl (fun w1 h1 => c94 w1 _ _)) rfl ?_
  refine o_p (p_pure rfl) rfl ?_
  refine o_nil ?_
  exact s_retv (rs := [.tmp 4]) rfl (.tmp rfl (.nil)) (fun w' h' => ⟨rfl, h'.below⟩)

set_option maxRecDepth 20000 in
theorem c96 (w : World) (b : Nat) (y x : LOpn) (hr : ∀ j v, x.vals[j]? = some v → Rd w [] b (0 + j) v) (hx : openE x.ac x.sh = 0) (hy : openE y.ac y.sh = 0) : Calls Try.prog 96 #[.agg #[.int .i64 y.hd, .int .i64 y.ac, .int .i64 y.sh, .bool y.dl, .slice y.la y.lk.length y.lc], .pointer (some ⟨b, 0, none⟩)] w fun en w' => en = .returned (.bool (cfl x.pl y.pl)) ∧ Below w.heap.size w w' := by
  refine enter (args := [_, _]) Try.func96 Try.ntmps96 rfl rfl (HS.refl w []) ?_
  refine s_seq ?_
  refine s_region ?_
  refine o_h (h_box rfl rfl) rfl (fun b1 _ => ?_)
  refine o_p (p_pure rfl) rfl ?_
  refine o_nil ?_
  refine s_seq ?_
  refine s_region ?_
  refine o_q (q_load_oldn _ rfl rfl sz_48 rfl hr) rfl ?_
  refine o_q (q_loadn rfl rfl sz_48 aPk rfl) rfl ?_
  refine o_q (q_call rfl fn_63 rfl (fun w1 h1 => c63 w1 x y hx hy)) rfl ?_
  refine o_p (p_pure rfl) rfl ?_
  refine o_nil ?_
  exact s_retv (rs := [.tmp 3]) rfl (.tmp rfl (.nil)) (fun w' h' => ⟨rfl, h'.below⟩)

set_option maxRecDepth 20000 in
theorem c121 (w : World) (b : Nat) (i : Int) (k : Lock) (g : Option Addr × Nat) (H : List Lock) (hw : HS w (fps [.blk b 46 1 [.slice g.1 H.length g.2], .own (.slice g.1 H.length g.2) 62 3 H.length (H.flatMap Lock.vals)]) [.blk b 46 1 [.slice g.1 H.length g.2], .own (.slice g.1 H.length g.2) 62 3 H.length (H.flatMap Lock.vals)] w) (hH : okL H) (hk : rngE k.fr k.cnt = 0) (hm : H.length ≤ 100000) : Calls Try.prog 121 #[.int .i64 i, .agg #[.int .i64 k.fr, .int .i64 k.cnt, .bool k.ex], .pointer (some ⟨b, 0, none⟩)] w fun en w' => ∃ g2 : Option Addr × Nat, en = .returned (.int .i64 (if H.any (clsh · k) = true then 29 else 0)) ∧ True ∧ HS w (fps [.blk b 46 1 [.slice g.1 H.length g.2], .own (.slice g.1 H.length g.2) 62 3 H.length (H.flatMap Lock.vals)]) [.blk b 46 1 [.slice g2.1 (lkA H k).length g2.2], .own (.slice g2.1 (lkA H k).length g2.2) 62 3 (lkA H k).length ((lkA H k).flatMap Lock.vals)] w' := by
  refine enter (args := [_, _, _]) Try.func121 Try.ntmps121 rfl rfl hw ?_
  refine s_seq ?_
  refine s_region ?_
  refine o_h (h_box rfl rfl) rfl (fun b1 _ => ?_)
  refine o_p (p_pure rfl) rfl ?_
  refine o_nil ?_
  refine s_seq ?_
  refine s_seq ?_
  refine s_region ?_
  refine o_q (q_load rfl rfl sz_46 aPk rfl) rfl ?_
  refine o_p (p_pure rfl) rfl ?_
  refine o_q (q_call rfl fn_87 rfl (fun w1 h1 => by have h9 := c87 w1 g.1 g.2 H 122 #[.pointer (some ⟨b1, 0, none⟩)] (H.map (clsh · k)) (h1.rw_own lv3 aPk rfl) (by omega) (by kernel_rfl) (by simp) (fun j w2 hj h2 => by rw [map_getD_nthB hj]; exact c122 w2 b1 (nth H j) k (fun q v hv => by rw [Nat.zero_add]; exact (h1.rd_blk (Mc := []) aPk hv (by simp)).later h2 (by simp)) (okL_nth hH hj) hk); rw [any_map_id] at h9; exact h9)) rfl ?_
  refine o_nil ?_
  refine s_cond rfl (fun h2 => ?_) (fun h2 => ?_)
  · try simp only [decide_eq_true_eq, decide_eq_false_iff_not, Bool.not_eq_true', Bool.not_eq_false', Bool.and_eq_true, Bool.or_eq_true, Bool.and_eq_false_iff, Bool.or_eq_false_iff, Bool.not_true, Bool.not_false] at h2
    refine s_seq ?_
    refine s_region ?_
    refine o_p (p_pure rfl) rfl ?_
    refine o_nil ?_
    exact s_retv (rs := [.tmp 5]) rfl (.tmp rfl (.nil)) (fun w' h' => ⟨g, by rw [if_pos h2]; rfl, trivial, by rw [lkA, if_pos h2]; exact h'.ent aEt⟩)
  · try simp only [decide_eq_true_eq, decide_eq_false_iff_not, Bool.not_eq_true', Bool.not_eq_false', Bool.and_eq_true, Bool.or_eq_true, Bool.and_eq_false_iff, Bool.or_eq_false_iff, Bool.not_true, Bool.not_false] at h2
    refine s_skip ?_
    refine s_seq ?_
    refine s_region ?_
    refine o_q (q_load rfl rfl sz_46 aPk rfl) rfl ?_
    refine o_q (q_loadn rfl rfl sz_62 aPk rfl) rfl ?_
    refine o_h (h_buildSlice (cs := [_, _, _]) rfl rfl sl_46 zr_62 rfl rfl rfl) rfl (fun b3 _ => ?_)
    refine o_h (h_appendS (n := H.length) k.vals rfl rfl rfl sl_46 Try.underlying46 zr_62 rfl aPk (src_blk aPk) rfl (lv1 k) (by omega) (by simp only [maxLen]; omega)) rfl (fun b4 _ => ?_)
    refine o_h0 (h_store rfl rfl rfl sz_46 rfl aPt (by simp only [setMany_length, List.length_set, List.length_cons, List.length_nil, List.length_map]; omega) rfl) (fun _ _ => ?_)
    refine o_nil ?_
    refine s_seq ?_
    refine s_region ?_
    refine o_p (p_pure rfl) rfl ?_
    refine o_nil ?_
    exact s_retv (rs := [.tmp 5]) rfl (.tmp rfl (.nil)) (fun w' h' => ⟨b4, by rw [if_neg (by simpa using h2)]; rfl, trivial, by rw [lkA, if_neg (by simpa using h2), List.flatMap_append, List.length_append]; simp only [List.flatMap_cons, List.flatMap_nil, List.append_nil]; exact h'.ent aEt⟩)

end Go.Proofs

namespace Go.Proofs
open Go Go.RowKit Gx
set_option linter.unusedVariables false
set_option linter.unusedSimpArgs false
attribute [local irreducible] Go.Calls Gx.S Gx.O Gx.D Gx.OpP Gx.OpQ Gx.OpH

theorem fn_121 : isFn Try.prog 121 = true := by kernel_rfl
theorem zr_46 : tzero Try.prog 46 = some [.slice none 0 0] := by kernel_rfl
theorem fd_48_4 : tfd Try.prog 48 4 = some (4, 46) := by kernel_rfl
theorem fn_92 : isFn Try.prog 92 = true := by kernel_rfl
theorem fd_48_0 : tfd Try.prog 48 0 = some (0, 3) := by kernel_rfl
theorem fd_114_0 : tfd Try.prog 114 0 = some (0, 3) := by kernel_rfl
theorem fn_62 : isFn Try.prog 62 = true := by kernel_rfl
theorem fn_52 : isFn Try.prog 52 = true := by kernel_rfl
theorem zr_28 : tzero Try.prog 28 = some [.int .i64 0] := by kernel_rfl
theorem fd_114_1 : tfd Try.prog 114 1 = some (1, 112) := by kernel_rfl
theorem sz_112 : tsz Try.prog 112 = some (1, false) := by kernel_rfl
theorem zv_4 : tzv Try.prog 4 = some (.bool false) := by kernel_rfl
theorem ki_3 : tki Try.prog 3 = some .i64 := by kernel_rfl
theorem fn_95 : isFn Try.prog 95 = true := by kernel_rfl
theorem fn_97 : isFn Try.prog 97 = true := by kernel_rfl


abbrev KI : Int → Value := fun n => Value.int .i64 n
theorem lockedE_step {H : List Lock} {k : Lock} {ks : List Lock} (h : H.any (clsh · k) = false) : lockedE H (k :: ks) = lockedE (lkA H k) ks := by
  unfold lkA
  rw [lockedE, if_neg (by rw [h]; decide), if_neg (by rw [h]; decide)]
theorem lockedE_hit {H : List Lock} {k : Lock} {ks : List Lock} (h : H.any (clsh · k) = true) : lockedE H (k :: ks) = 29 := by rw [lockedE, if_pos h]
theorem heldK_le {l : List LOpn} (hl : ∀ o ∈ l, o.lk.length ≤ 16) : ∀ k, k ≤ l.length → (heldK l k).length ≤ 16 * k
  | 0, _ => by simp [heldK]
  | k + 1, h => by
    have h1 := heldK_le hl k (by omega)
    have h2 := hl _ (mem_nth (show k < l.length by omega))
    rw [heldK_succ (by omega), List.length_append]
    omega
theorem heldK_ok {l : List LOpn} (hl : ∀ o ∈ l, okL o.lk) (k : Nat) : okL (heldK l k) := by
  intro x hx
  obtain ⟨o, ho, hk⟩ := List.mem_flatMap.1 hx
  exact hl o (List.mem_of_mem_take ho) x hk
theorem nth_plo {l : List LOpn} {k : Nat} (h : k < l.length) : nth (plo l) k = (nth l k).pl := by
  simp only [nth, plo, List.getD_eq_getElem?_getD, List.getElem?_map, List.getElem?_eq_getElem h, Option.map_some, Option.getD_some]
def hdE1 (next : Int) (ops : List Opn) (k : Nat) : Int :=
  if 1 ≤ (nth ops k).hd ∧ (nth ops k).hd ≤ next - 1 then if openE (nth ops k).ac (nth ops k).sh = 0 then if k = 0 ∨ (nth ops (k - 1)).hd < (nth ops k).hd then if (nth ops k).lk.length ≤ 16 then 0 else 8 else 9 else openE (nth ops k).ac (nth ops k).sh else 2
def hdE2 (next : Int) (ops : List Opn) (k : Nat) : Int := if hdE1 next ops k = 0 then rngsE (nth ops k).lk else hdE1 next ops k
open Classical in
noncomputable def hdE3 (next : Int) (known : List Int) (ops : List Opn) (k : Nat) : Int := if hdE2 next ops k = 0 then if (nth ops k).hd ∈ known then 23 else 0 else hdE2 next ops k
noncomputable def hdE4 (next : Int) (known : List Int) (ops : List Opn) (k : Nat) : Int := if hdE3 next known ops k = 0 then if (ops.take k).any (cfl (nth ops k)) = true then 28 else 0 else hdE3 next known ops k
theorem hdl_4 (next : Int) (known : List Int) (ops : List Opn) (k : Nat) : hdlE next known ops k = if hdE4 next known ops k = 0 then lockedE ((ops.take k).flatMap Opn.lk) (nth ops k).lk else hdE4 next known ops k := by
  unfold hdE4 hdE3 hdE2 hdE1 hdlE
  simp only []
  grind
theorem hd1_0 {next : Int} {ops : List Opn} {k : Nat} (h : hdE1 next ops k = 0) : (1 ≤ (nth ops k).hd ∧ (nth ops k).hd ≤ next - 1) ∧ openE (nth ops k).ac (nth ops k).sh = 0 ∧ (k = 0 ∨ (nth ops (k - 1)).hd < (nth ops k).hd) ∧ (nth ops k).lk.length ≤ 16 := by
  unfold hdE1 at h
  grind
theorem hd2_0 {next : Int} {ops : List Opn} {k : Nat} (h : hdE2 next ops k = 0) : hdE1 next ops k = 0 ∧ okL (nth ops k).lk := by
  unfold hdE2 at h
  split at h
  · rename_i h1; exact ⟨h1, rngs_ok h⟩
  · contradiction
theorem hd3_0 {next : Int} {known : List Int} {ops : List Opn} {k : Nat} (h : hdE3 next known ops k = 0) : hdE2 next ops k = 0 ∧ (nth ops k).hd ∉ known := by
  unfold hdE3 at h
  grind
theorem hd4_0 {next : Int} {known : List Int} {ops : List Opn} {k : Nat} (h : hdE4 next known ops k = 0) : hdE3 next known ops k = 0 ∧ (ops.take k).any (cfl (nth ops k)) = false := by
  unfold hdE4 at h
  grind
theorem hdl_0 {next : Int} {known : List Int} {ops : List Opn} {k : Nat} (h : hdlE next known ops k = 0) : hdE4 next known ops k = 0 ∧ lockedE ((ops.take k).flatMap Opn.lk) (nth ops k).lk = 0 := by
  rw [hdl_4] at h
  grind
theorem hd_way {next : Int} {ops : List Opn} {k : Nat} {b : Bool} (hb : b = decide (k = 0 ∨ (nth ops (k - 1)).hd < (nth ops k).hd)) :
    firstV [.int .i64 (bif decide (1 ≤ (nth ops k).hd) && decide ((nth ops k).hd ≤ next - 1) then 0 else 2), .int .i64 (openE (nth ops k).ac (nth ops k).sh), .int .i64 (bif b then 0 else 9), .int .i64 (bif decide (((nth ops k).lk.length : Int) ≤ 16) then 0 else 8)] = hdE1 next ops k := by
  subst hb
  simp only [firstV, cond_eq_ite, decide_eq_true_eq, Bool.and_eq_true, hdE1]
  grind

set_option maxRecDepth 20000 in
theorem d92 (w : World) (a : Option Addr) (cap : Nat) (x : List Lock) (b : Nat) (g0 : Option Addr × Nat) (H0 : List Lock) (hw : HS w (fps [.blk b 46 1 [.slice g0.1 (H0).length g0.2], .own (.slice g0.1 (H0).length g0.2) 62 3 (H0).length ((H0).flatMap Lock.vals)]) [.blk b 46 1 [.slice g0.1 (H0).length g0.2], .own (.slice g0.1 (H0).length g0.2) 62 3 (H0).length ((H0).flatMap Lock.vals)] w) (hs : Kt w (fps [.blk b 46 1 [.slice g0.1 (H0).length g0.2], .own (.slice g0.1 (H0).length g0.2) 62 3 (H0).length ((H0).flatMap Lock.vals)]) a x) (hH : okL H0) (hx : okL x) (hm : H0.length ≤ 10000) (hm2 : x.length ≤ 10000) : Calls Try.prog 92 #[.slice a x.length cap, .func (.func 121) #[] #[.pointer (some ⟨b, 0, none⟩)]] w fun en w' => ∃ g : Int, en = .returned (.tuple #[.int .i64 g, .int .i64 (lockedE H0 x)]) ∧ True ∧ HS w (fps [.blk b 46 1 [.slice g0.1 (H0).length g0.2], .own (.slice g0.1 (H0).length g0.2) 62 3 (H0).length ((H0).flatMap Lock.vals)]) [] w' := by
  refine enter (args := [_, _]) Try.func92 Try.ntmps92 rfl rfl hw ?_
  refine s_seq ?_
  refine s_region ?_
  refine o_p (p_pure rfl) rfl ?_
  refine o_p (p_pure rfl) rfl ?_
  refine o_nil ?_
  refine s_seq ?_
  refine s_seq ?_
  refine s_region ?_
  refine o_p (p_pure rfl) rfl ?_
  refine o_p (p_len_slice rfl rfl Try.underlying46) rfl ?_
  refine o_p (p_pure rfl) rfl ?_
  refine o_nil ?_
  refine s_block ?_
  refine s_loopI (α := Nat × Option Addr × Nat) [4, 5, 6, 7, 8, 11, 12, 13, 14, 15, 16, 17, 18, 19, 20, 21, 22, 23, 24] (fun y => [(11, .int .i64 (y.1 : Int))]) (fun y => HS w (fps [.blk b 46 1 [.slice g0.1 (H0).length g0.2], .own (.slice g0.1 (H0).length g0.2) 62 3 (H0).length ((H0).flatMap Lock.vals)]) [.blk b 46 1 [.slice y.2.1 (H0 ++ x.take y.1).length y.2.2], .own (.slice y.2.1 (H0 ++ x.take y.1).length y.2.2) 62 3 (H0 ++ x.take y.1).length ((H0 ++ x.take y.1).flatMap Lock.vals)]) (fun y => y.1 ≤ x.length ∧ lockedE H0 x = lockedE (H0 ++ x.take y.1) (x.drop y.1)) (fun y => x.length - y.1) (0, g0) ⟨by simp, by simp⟩ aSx (fun w h => by simp only [List.take_zero, List.append_nil]; exact h.ent aEt) (fun ⟨k, gk⟩ hk => ?_)
  dsimp only
  simp only [] at hk
  obtain ⟨hk1, hk2⟩ := hk
  refine s_seq ?_
  refine s_region ?_
  refine o_p (p_pure rfl) rfl ?_
  refine o_nil ?_
  refine s_seq ?_
  refine s_cond rfl (fun h1 => ?_) (fun h1 => ?_)
  · try simp only [decide_eq_true_eq, decide_eq_false_iff_not, Bool.not_eq_true', Bool.not_eq_false', Bool.and_eq_true, Bool.or_eq_true, Bool.and_eq_false_iff, Bool.or_eq_false_iff, Bool.not_true, Bool.not_false] at h1
    have hk : k < x.length := by omega
    have hdr := drop_nth hk
    have hok := okL_nth hx hk
    refine s_skip ?_
    refine s_seq ?_
    refine s_block ?_
    refine s_seq ?_
    refine s_region ?_
    refine o_p (p_pure rfl) rfl ?_
    refine o_p (p_indexAddr rfl rfl rfl sl_46 (k) (by omega) (by omega) (Rw.some hs (by omega))) rfl ?_
    refine o_q (q_load_oldn _ rfl rfl sz_62 rfl (Rw.rd hs (by omega))) rfl ?_
    refine o_h (h_alloc rfl zr_62) rfl (fun b2 _ => ?_)
    refine o_p (p_pure rfl) rfl ?_
    refine o_h0 (h_store rfl rfl rfl sz_62 rfl aPt (by simp only [setMany_length, List.length_set, List.length_cons, List.length_nil, List.length_map]; omega) rfl) (fun _ _ => ?_)
    refine o_nil ?_
    refine s_seq ?_
    refine s_region ?_
    refine o_p (p_pure rfl) rfl ?_
    refine o_p (p_pure rfl) rfl ?_
    refine o_q (q_loadn rfl rfl sz_62 aPk rfl) rfl ?_
    refine o_h (h_callvF (Cs := [.blk b 46 1 [.slice gk.1 (H0 ++ x.take k).length gk.2], .own (.slice gk.1 (H0 ++ x.take k).length gk.2) 62 3 (H0 ++ x.take k).length ((H0 ++ x.take k).flatMap Lock.vals)]) rfl rfl fn_121 rfl aPs (fun w1 h1 hf => c121 w1 b k (nth x k) gk (H0 ++ x.take k) hf (fun q hq => (List.mem_append.1 hq).elim (hH q) (fun h => hx q (List.mem_of_mem_take h))) hok (by simp only [List.length_append, List.length_take]; omega))) rfl (fun b3 _ => ?_)
    refine o_p (p_pure rfl) rfl ?_
    refine o_nil ?_
    refine s_seq ?_
    refine s_region ?_
    refine o_p (p_pure rfl) rfl ?_
    refine o_p (p_pure rfl) rfl ?_
    refine o_nil ?_
    refine s_cond rfl (fun h4 => ?_) (fun h4 => ?_)
    · try simp only [decide_eq_true_eq, decide_eq_false_iff_not, Bool.not_eq_true', Bool.not_eq_false', Bool.and_eq_true, Bool.or_eq_true, Bool.and_eq_false_iff, Bool.or_eq_false_iff, Bool.not_true, Bool.not_false] at h4
      have hya : (H0 ++ x.take k).any (clsh · (nth x k)) = true := by have hq := h4; revert hq; cases (H0 ++ x.take k).any (clsh · (nth x k)) <;> simp
      refine s_seq ?_
      refine s_region ?_
      refine o_p (p_pure rfl) rfl ?_
      refine o_p (p_pure rfl) rfl ?_
      refine o_p (p_pure rfl) rfl ?_
      refine o_p (p_pure rfl) rfl ?_
      refine o_nil ?_
      exact s_retv (rs := [.tmp 4, .tmp 5]) rfl (.tmp rfl (.tmp rfl (.nil))) (fun w' h' => ⟨k, by rw [hk2, hdr, lockedE_hit hya, if_pos hya]; rfl, trivial, h'.ent aEt⟩)
    · try simp only [decide_eq_true_eq, decide_eq_false_iff_not, Bool.not_eq_true', Bool.not_eq_false', Bool.and_eq_true, Bool.or_eq_true, Bool.and_eq_false_iff, Bool.or_eq_false_iff, Bool.not_true, Bool.not_false] at h4
      have hna : (H0 ++ x.take k).any (clsh · (nth x k)) = false := by have hq := h4; revert hq; cases (H0 ++ x.take k).any (clsh · (nth x k)) <;> simp
      have hla : lkA (H0 ++ x.take k) (nth x k) = H0 ++ x.take (k + 1) := by rw [lkA, if_neg (by rw [hna]; decide), take_succ_nth hk, List.append_assoc]
      refine s_skip ?_
      refine s_blk ?_
      refine s_region ?_
      refine o_p (p_pure rfl) rfl ?_
      try (refine o_slot (i64w (by omega) (by omega)) ?_)
      refine o_p (p_pure rfl) rfl ?_
      refine o_nil ?_
      exact s_backI (k + 1, b3) (by (try simp only []); omega) ⟨by (try simp only []); omega, by rw [hk2, hdr, lockedE_step hna, hla]⟩ aSx (fun w h => by rw [hla] at h; exact h.ent aEt)
  · try simp only [decide_eq_true_eq, decide_eq_false_iff_not, Bool.not_eq_true', Bool.not_eq_false', Bool.and_eq_true, Bool.or_eq_true, Bool.and_eq_false_iff, Bool.or_eq_false_iff, Bool.not_true, Bool.not_false] at h1
    refine s_exit_to rfl ?_
    refine s_seq ?_
    refine s_region ?_
    refine o_p (p_pure rfl) rfl ?_
    refine o_p (p_pure rfl) rfl ?_
    refine o_nil ?_
    exact s_retv (rs := [.tmp 4, .tmp 5]) rfl (.tmp rfl (.tmp rfl (.nil))) (fun w' h' => ⟨0, by rw [hk2, List.drop_of_length_le (by omega)]; rfl, trivial, h'.ent aEt⟩)

set_option maxRecDepth 20000 in
theorem c97 (w : World) (x : LOpn) (a : Option Addr) (cap : Nat) (l : List LOpn) (hs : Ot w [] a l) (hx : Kt w [] x.la x.lk) (hox : okL x.lk) (hol : ∀ o ∈ l, okL o.lk) (hm : l.length ≤ 500) (hl : ∀ o ∈ l, o.lk.length ≤ 16) (hxl : x.lk.length ≤ 16) : Calls Try.prog 97 #[.agg #[.int .i64 x.hd, .int .i64 x.ac, .int .i64 x.sh, .bool x.dl, .slice x.la x.lk.length x.lc], .slice a l.length cap] w fun en w' => en = .returned (.int .i64 (lockedE (heldK l l.length) x.lk)) ∧ Below w.heap.size w w' := by
  refine enter (args := [_, _]) Try.func97 Try.ntmps97 rfl rfl (HS.refl w []) ?_
  refine s_seq ?_
  refine s_region ?_
  refine o_h (h_box rfl rfl) rfl (fun b1 _ => ?_)
  refine o_p (p_pure rfl) rfl ?_
  refine o_nil ?_
  refine s_seq ?_
  refine s_region ?_
  refine o_h (h_alloc rfl zr_46) rfl (fun b2 _ => ?_)
  refine o_nil ?_
  refine s_seq ?_
  refine s_seq ?_
  refine s_region ?_
  refine o_p (p_pure rfl) rfl ?_
  refine o_p (p_len_slice rfl rfl Try.underlying75) rfl ?_
  refine o_p (p_pure rfl) rfl ?_
  refine o_nil ?_
  refine s_block ?_
  refine s_loopI (α := Nat × Option Addr × Nat) [7, 12, 13, 14, 15, 16, 17, 18, 19, 20] (fun y => [(12, .int .i64 (y.1 : Int))]) (fun y => HS w [] [.blk b2 46 1 [.slice y.2.1 (heldK l y.1).length y.2.2], .own (.slice y.2.1 (heldK l y.1).length y.2.2) 62 3 (heldK l y.1).length ((heldK l y.1).flatMap Lock.vals), .blk b1 48 5 x.vals]) (fun y => y.1 ≤ l.length) (fun y => l.length - y.1) (0, none, 0) (by simp) aSx (fun w h => (h.own_nil 62 3).ent aEt) (fun ⟨k, g1, g2⟩ hk => ?_)
  dsimp only
  simp only [] at hk
  refine s_seq ?_
  refine s_region ?_
  refine o_p (p_pure rfl) rfl ?_
  refine o_nil ?_
  refine s_seq ?_
  refine s_cond rfl (fun h3 => ?_) (fun h3 => ?_)
  · try simp only [decide_eq_true_eq, decide_eq_false_iff_not, Bool.not_eq_true', Bool.not_eq_false', Bool.and_eq_true, Bool.or_eq_true, Bool.and_eq_false_iff, Bool.or_eq_false_iff, Bool.not_true, Bool.not_false] at h3
    have hkl : k < l.length := by omega
    have hhl := heldK_le hl k (by omega)
    have hkk := hl _ (mem_nth hkl)
    refine s_skip ?_
    refine s_seq ?_
    refine s_block ?_
    refine s_seq ?_
    refine s_region ?_
    refine o_p (p_indexAddr rfl rfl rfl sl_75 (k) (by omega) (by omega) (Rw.some hs.1 (by omega))) rfl ?_
    refine o_q (q_load_oldn _ rfl rfl sz_48 rfl (Rw.rd hs.1 (by omega))) rfl ?_
    refine o_h (h_alloc rfl zr_48) rfl (fun b4 _ => ?_)
    refine o_h0 (h_store rfl rfl rfl sz_48 rfl aPt (by simp only [setMany_length, List.length_set, List.length_cons, List.length_nil, List.length_map]; omega) rfl) (fun _ _ => ?_)
    refine o_nil ?_
    refine s_region ?_
    refine o_q (q_load rfl rfl sz_46 aPk rfl) rfl ?_
    refine o_p (p_fieldAddr rfl rfl fd_48_4 sz_46 rfl) rfl ?_
    refine o_q (q_load rfl rfl sz_46 aPk rfl) rfl ?_
    refine o_h (h_appendS (n := (heldK l k).length) ((nth l k).lk.flatMap Lock.vals) rfl rfl rfl sl_46 Try.underlying46 zr_62 rfl aPk (fun w h => Rw.src lv3 (hs.at hkl) h) (flat_length lv3 _) (flat_one lv1 _) (by omega) (by simp only [maxLen]; omega)) rfl (fun b5 _ => ?_)
    refine o_h0 (h_store rfl rfl rfl sz_46 rfl aPt (by simp only [setMany_length, List.length_set, List.length_cons, List.length_nil, List.length_map]; omega) rfl) (fun _ _ => ?_)
    refine o_nil ?_
    refine s_blk ?_
    refine s_region ?_
    refine o_p (p_pure rfl) rfl ?_
    try (refine o_slot (i64w (by omega) (by omega)) ?_)
    refine o_p (p_pure rfl) rfl ?_
    refine o_nil ?_
    exact s_backI (k + 1, _, _) (by (try simp only []); omega) (by (try simp only []); omega) aSx (fun w h => by rw [heldK_succ hkl, List.flatMap_append, List.length_append]; exact h.ent aEt)
  · try simp only [decide_eq_true_eq, decide_eq_false_iff_not, Bool.not_eq_true', Bool.not_eq_false', Bool.and_eq_true, Bool.or_eq_true, Bool.and_eq_false_iff, Bool.or_eq_false_iff, Bool.not_true, Bool.not_false] at h3
    have hke : k = l.length := by omega
    have hhl := heldK_le hl k (by omega)
    refine s_exit_to rfl ?_
    refine s_seq ?_
    refine s_region ?_
    refine o_p (p_fieldAddr rfl rfl fd_48_4 sz_46 rfl) rfl ?_
    refine o_q (q_load rfl rfl sz_46 aPk rfl) rfl ?_
    refine o_p (p_pure rfl) rfl ?_
    refine o_h (h_callF (Cs := [.blk b2 46 1 [.slice g1 (heldK l k).length g2], .own (.slice g1 (heldK l k).length g2) 62 3 (heldK l k).length ((heldK l k).flatMap Lock.vals)]) rfl fn_92 rfl aPs (fun w1 h1 hf => d92 w1 x.la x.lc x.lk b2 (g1, g2) (heldK l k) hf (hx.keep (h1.ent aEt)) (heldK_ok hol k) hox (by omega) (by omega))) rfl (fun gi _ => ?_)
    refine o_p (p_pure rfl) rfl ?_
    refine o_p (p_pure rfl) rfl ?_
    refine o_p (p_pure rfl) rfl ?_
    refine o_p (p_pure rfl) rfl ?_
    refine o_p (p_pure rfl) rfl ?_
    refine o_nil ?_
    refine s_seq ?_
    refine s_region ?_
    refine o_p (p_pure rfl) rfl ?_
    refine o_p (p_pure rfl) rfl ?_
    refine o_nil ?_
    exact s_retv (rs := [.tmp 4]) rfl (.tmp rfl (.nil)) (fun w' h' => ⟨by rw [hke]; rfl, h'.below⟩)

set_option maxRecDepth 20000 in
theorem c59 (w : World) (bc r : Nat) (next : Int) (known : List Int) (a : Option Addr) (cap : Nat) (l : List LOpn) (i : Nat) (hb0 : Rd w [] bc 0 (.int .i64 next)) (hb1 : Rd w [] bc 1 (.map (some r))) (hr : MpR w [] r KI known) (hs : Ot w [] a l) (hi : i < l.length) (hcap : l.length ≤ cap) (hm : l.length ≤ 500) (hn : 1 ≤ next ∧ next ≤ 2147483647) (hv : ∀ j, j < i → hdlE next known (plo l) j = 0) : Calls Try.prog 59 #[.pointer (some ⟨bc, 0, none⟩), .slice a l.length cap, .int .i64 (i : Int)] w fun en w' => en = .returned (.int .i64 (hdlE next known (plo l) i)) ∧ Below w.heap.size w w' := by
  have ep := nth_plo hi
  have eany : ((plo l).take i).any (cfl (nth (plo l) i)) = (l.take i).any (fun y => cfl (nth l i).pl y.pl) := by rw [ep, plo, ← List.map_take, List.any_map]; rfl
  have hci : l.length = (plo l).length := by simp
  have hvo : ∀ o ∈ l.take i, openE o.ac o.sh = 0 ∧ okL o.lk ∧ o.lk.length ≤ 16 := by
    intro o ho
    obtain ⟨j, hj, e⟩ := List.getElem_of_mem ho
    have hji : j < i := by rw [List.length_take] at hj; omega
    have e2 : nth l j = o := by rw [← nth_take hji]; exact nth_eq (by rw [List.getElem?_eq_getElem hj, e])
    have h0 := (hdl_0 (hv j hji)).1
    have h3 := hd4_0 h0
    have h2 := hd3_0 h3.1
    have h1 := hd2_0 h2.1
    have h00 := hd1_0 h1.1
    rw [nth_plo (by omega), e2] at h00 h1
    exact ⟨h00.2.1, h1.2, h00.2.2.2⟩
  refine enter (args := [_, _, _]) Try.func59 Try.ntmps59 rfl rfl (HS.refl w []) ?_
  refine s_seq ?_
  refine s_region ?_
  refine o_p (p_pure rfl) rfl ?_
  refine o_nil ?_
  refine s_seq ?_
  refine s_region ?_
  refine o_p (p_pure rfl) rfl ?_
  refine o_p (p_pure rfl) rfl ?_
  refine o_p (p_indexAddr rfl rfl rfl sl_75 (i) (by omega) (by omega) (Rw.some hs.1 (by omega))) rfl ?_
  refine o_q (q_load_oldn _ rfl rfl sz_48 rfl (Rw.rd hs.1 (i := i) (by omega))) rfl ?_
  refine o_h (h_alloc rfl zr_48) rfl (fun b1 _ => ?_)
  refine o_h0 (h_store rfl rfl rfl sz_48 rfl aPt (by simp only [setMany_length, List.length_set, List.length_cons, List.length_nil, List.length_map]; omega) rfl) (fun _ _ => ?_)
  refine o_nil ?_
  refine s_seq ?_
  refine s_cutI (α := Unit) [8, 13, 14, 15, 16, 17, 18, 19, 20, 21, 22, 23, 24, 25, 26, 27, 28, 29, 30, 31, 32, 33, 34, 35, 36, 37, 38, 39, 40, 41, 42, 43, 44, 45] (fun _ => [(8, .int .i64 (hdE1 next (plo l) i))]) (fun _ => HS w [] [.blk b1 48 5 [.int .i64 (nth l i).hd, .int .i64 (nth l i).ac, .int .i64 (nth l i).sh, .bool (nth l i).dl, .slice (nth l i).la (nth l i).lk.length (nth l i).lc]]) (fun _ => True) ?_ ?_
  · skip
    refine s_draw [] mixed ?_
    refine d_p 0 rfl (p_fieldAddr rfl rfl fd_48_0 sz_3 rfl) (by kernel_rfl) rfl rfl ?_
    refine d_q 1 [] rfl (q_load rfl rfl sz_3 aPk rfl) (by kernel_rfl) (by kernel_rfl) (by kernel_rfl) rfl ?_
    refine d_p 2 rfl (p_pure rfl) (by kernel_rfl) rfl rfl ?_
    refine d_p 3 rfl (p_pure rfl) (by kernel_rfl) rfl rfl ?_
    refine d_p 4 rfl (p_fieldAddr rfl rfl fd_114_0 sz_3 rfl) (by kernel_rfl) rfl rfl ?_
    refine d_q 5 [] rfl (q_load_old rfl rfl sz_3 (hb0)) (by kernel_rfl) (by kernel_rfl) (by kernel_rfl) rfl ?_
    refine d_p 6 rfl (p_pure rfl) (by kernel_rfl) rfl rfl ?_
    try (refine d_slot (i64w (by omega) (by omega)) ?_)
    refine d_q 7 [] rfl (q_call rfl fn_49 rfl (fun w1 h1 => c49 w1 _ _ _)) (by kernel_rfl) (by kernel_rfl) (by kernel_rfl) rfl ?_
    refine d_q 8 [] rfl (q_call rfl fn_48 rfl (fun w1 h1 => c48 w1 _ _)) (by kernel_rfl) (by kernel_rfl) (by kernel_rfl) rfl ?_
    refine d_q 9 [] rfl (q_loadn rfl rfl sz_48 aPk rfl) (by kernel_rfl) (by kernel_rfl) (by kernel_rfl) rfl ?_
    refine d_q 10 [] rfl (q_call rfl fn_62 rfl (fun w1 h1 => c62 w1 _)) (by kernel_rfl) (by kernel_rfl) (by kernel_rfl) rfl ?_
    refine d_p 11 rfl (p_pure rfl) (by kernel_rfl) rfl rfl ?_
    refine d_p 12 rfl (p_pure rfl) (by kernel_rfl) rfl rfl ?_
    refine d_p 13 rfl (p_pure rfl) (by kernel_rfl) rfl rfl ?_
    apply d_split 26
    · exact rfl
    · intro hg2
      have hs3 := hg2; try simp only [decide_eq_true_eq, decide_eq_false_iff_not, Bool.not_eq_true', Bool.not_eq_false', Bool.and_eq_true, Bool.or_eq_true, Bool.and_eq_false_iff, Bool.or_eq_false_iff, Bool.not_true, Bool.not_false] at hs3
      refine d_off 14 26 rfl rfl rfl hg2 (by kernel_rfl) rfl rfl ?_
      refine d_off 15 26 rfl rfl rfl hg2 (by kernel_rfl) rfl rfl ?_
      refine d_off 16 26 rfl rfl rfl hg2 (by kernel_rfl) rfl rfl ?_
      refine d_off 17 26 rfl rfl rfl hg2 (by kernel_rfl) rfl rfl ?_
      refine d_off 18 26 rfl rfl rfl hg2 (by kernel_rfl) rfl rfl ?_
      refine d_off 19 26 rfl rfl rfl hg2 (by kernel_rfl) rfl rfl ?_
      refine d_off 20 26 rfl rfl rfl hg2 (by kernel_rfl) rfl rfl ?_
      refine d_off 21 26 rfl rfl rfl hg2 (by kernel_rfl) rfl rfl ?_
      refine d_off 22 26 rfl rfl rfl hg2 (by kernel_rfl) rfl rfl ?_
      refine d_off 23 26 rfl rfl rfl hg2 (by kernel_rfl) rfl rfl ?_
      refine d_p 24 rfl (p_pickt rfl rfl hg2 rfl) (by kernel_rfl) rfl rfl ?_
      refine d_q 25 [] rfl (q_call rfl fn_48 rfl (fun w1 h1 => c48 w1 _ _)) (by kernel_rfl) (by kernel_rfl) (by kernel_rfl) rfl ?_
      refine d_p 26 rfl (p_fieldAddr rfl rfl fd_48_4 sz_46 rfl) (by kernel_rfl) rfl rfl ?_
      refine d_q 27 [] rfl (q_load rfl rfl sz_46 aPk rfl) (by kernel_rfl) (by kernel_rfl) (by kernel_rfl) rfl ?_
      refine d_p 28 rfl (p_len_slice rfl rfl Try.underlying46) (by kernel_rfl) rfl rfl ?_
      refine d_p 29 rfl (p_pure rfl) (by kernel_rfl) rfl rfl ?_
      refine d_q 30 [] rfl (q_call rfl fn_48 rfl (fun w1 h1 => c48 w1 _ _)) (by kernel_rfl) (by kernel_rfl) (by kernel_rfl) rfl ?_
      refine d_h 31 rfl (h_buildSlice (cs := [_, _, _, _]) rfl rfl sl_146 zr_28 rfl rfl rfl) (by kernel_rfl) (fun w h => h.ent aEt) rfl (fun b4 _ => ?_)
      refine d_base (fun w h => h.ent aEt) ?_
      refine d_q 32 [] rfl (q_call rfl fn_52 rfl (fun w1 h1 => f52 h1 aPk (by rfl) (by rfl) (by decide))) (by kernel_rfl) (by kernel_rfl) (by kernel_rfl) rfl ?_
      refine d_p 33 rfl (p_pure rfl) (by kernel_rfl) rfl rfl ?_
      refine d_nil (by kernel_rfl) (fun w h => h.ent aEt) ?_
      exact s_joinI () trivial (sl_c (congrArg (fun e => some (Value.int .i64 e)) ((by have hw9 := hd_way (next := next) (ops := plo l) (k := i) (b := true) (by simp; omega); rw [ep] at hw9; exact hw9) )) aSx) (fun w h => h.ent aEt)
    · intro hg5
      have hs6 := hg5; try simp only [decide_eq_true_eq, decide_eq_false_iff_not, Bool.not_eq_true', Bool.not_eq_false', Bool.and_eq_true, Bool.or_eq_true, Bool.and_eq_false_iff, Bool.or_eq_false_iff, Bool.not_true, Bool.not_false] at hs6
      refine d_pon 14 26 rfl rfl rfl hg5 (p_pure rfl) (by kernel_rfl) rfl rfl ?_
      refine d_pon 15 26 rfl rfl rfl hg5 (p_pure rfl) (by kernel_rfl) rfl rfl ?_
      refine d_pon 16 26 rfl rfl rfl hg5 (p_pure rfl) (by kernel_rfl) rfl rfl ?_
      try (refine d_slot (i64w (by omega) (by omega)) ?_)
      refine d_pon 17 26 rfl rfl rfl hg5 (p_max2 rfl rfl rfl ) (by kernel_rfl) rfl rfl ?_
      refine d_slot (show _ = Value.int .i64 ((i - 1 : Nat) : Int) from by congr 1; split <;> omega) ?_
      refine d_pon 18 26 rfl rfl rfl hg5 (p_indexAddr rfl rfl rfl sl_75 ((i - 1)) (by omega) (by omega) (Rw.some hs.1 (by omega))) (by kernel_rfl) rfl rfl ?_
      refine d_pon 19 26 rfl rfl rfl hg5 (p_fieldAddr rfl rfl fd_48_0 sz_3 rfl) (by kernel_rfl) rfl rfl ?_
      refine d_qon 20 26 [] rfl rfl rfl hg5 (q_load_old rfl rfl sz_3 ((hs.1.rdj (i := i - 1) 0 (by omega) rfl))) (by kernel_rfl) (by kernel_rfl) (by kernel_rfl) rfl ?_
      refine d_pon 21 26 rfl rfl rfl hg5 (p_fieldAddr rfl rfl fd_48_0 sz_3 rfl) (by kernel_rfl) rfl rfl ?_
      refine d_qon 22 26 [] rfl rfl rfl hg5 (q_load rfl rfl sz_3 aPk rfl) (by kernel_rfl) (by kernel_rfl) (by kernel_rfl) rfl ?_
      refine d_pon 23 26 rfl rfl rfl hg5 (p_pure rfl) (by kernel_rfl) rfl rfl ?_
      refine d_p 24 rfl (p_pickf rfl rfl hg5 rfl) (by kernel_rfl) rfl rfl ?_
      refine d_q 25 [] rfl (q_call rfl fn_48 rfl (fun w1 h1 => c48 w1 _ _)) (by kernel_rfl) (by kernel_rfl) (by kernel_rfl) rfl ?_
      refine d_p 26 rfl (p_fieldAddr rfl rfl fd_48_4 sz_46 rfl) (by kernel_rfl) rfl rfl ?_
      refine d_q 27 [] rfl (q_load rfl rfl sz_46 aPk rfl) (by kernel_rfl) (by kernel_rfl) (by kernel_rfl) rfl ?_
      refine d_p 28 rfl (p_len_slice rfl rfl Try.underlying46) (by kernel_rfl) rfl rfl ?_
      refine d_p 29 rfl (p_pure rfl) (by kernel_rfl) rfl rfl ?_
      refine d_q 30 [] rfl (q_call rfl fn_48 rfl (fun w1 h1 => c48 w1 _ _)) (by kernel_rfl) (by kernel_rfl) (by kernel_rfl) rfl ?_
      refine d_h 31 rfl (h_buildSlice (cs := [_, _, _, _]) rfl rfl sl_146 zr_28 rfl rfl rfl) (by kernel_rfl) (fun w h => h.ent aEt) rfl (fun b7 _ => ?_)
      refine d_base (fun w h => h.ent aEt) ?_
      refine d_q 32 [] rfl (q_call rfl fn_52 rfl (fun w1 h1 => f52 h1 aPk (by rfl) (by rfl) (by decide))) (by kernel_rfl) (by kernel_rfl) (by kernel_rfl) rfl ?_
      refine d_p 33 rfl (p_pure rfl) (by kernel_rfl) rfl rfl ?_
      refine d_nil (by kernel_rfl) (fun w h => h.ent aEt) ?_
      exact s_joinI () trivial (sl_c (congrArg (fun e => some (Value.int .i64 e)) (by have hw9 := hd_way (next := next) (ops := plo l) (k := i) (b := decide ((nth l (i - 1)).hd < (nth l i).hd)) (by rw [ep, nth_plo (by omega)]; simp only [LOpn.pl]; apply decide_eq_decide.2; omega); rw [ep] at hw9; exact hw9)) aSx) (fun w h => h.ent aEt)
  · intro _ _
    refine s_seq ?_
    refine s_seq ?_
    refine s_region ?_
    refine o_p (p_pure rfl) rfl ?_
    refine o_p (p_pure rfl) rfl ?_
    refine o_nil ?_
    refine s_cutI (α := Unit) [8, 48, 49, 50, 51, 52, 53] (fun _ => [(8, .int .i64 (hdE2 next (plo l) i))]) (fun _ => HS w [] [.blk b1 48 5 [.int .i64 (nth l i).hd, .int .i64 (nth l i).ac, .int .i64 (nth l i).sh, .bool (nth l i).dl, .slice (nth l i).la (nth l i).lk.length (nth l i).lc]]) (fun _ => True) ?_ ?_
    · skip
      refine s_cond rfl (fun h8 => ?_) (fun h8 => ?_)
      · try simp only [decide_eq_true_eq, decide_eq_false_iff_not, Bool.not_eq_true', Bool.not_eq_false', Bool.and_eq_true, Bool.or_eq_true, Bool.and_eq_false_iff, Bool.or_eq_false_iff, Bool.not_true, Bool.not_false] at h8
        have he1 : hdE1 next (plo l) i = 0 := by omega
        have h10 := hd1_0 he1
        rw [ep] at h10
        refine s_region ?_
        refine o_p (p_fieldAddr rfl rfl fd_48_4 sz_46 rfl) rfl ?_
        refine o_q (q_load rfl rfl sz_46 aPk rfl) rfl ?_
        refine o_q (q_call rfl fn_92 rfl (fun w1 h1 => by have h9 := c92 w1 (nth l i).la (nth l i).lc (nth l i).lk 93 #[] ((nth l i).lk.map fun k => rngE k.fr k.cnt) ((hs.at hi).later h1) (by have := h10.2.2.2; simp only [LOpn.pl] at this; omega) (by kernel_rfl) (by simp) (fun j w2 hj _ h2 => by rw [map_getD_nth hj]; exact c93 w2 _ _); exact h9)) rfl ?_
        refine o_p (p_pure rfl) rfl ?_
        refine o_p (p_pure rfl) rfl ?_
        refine o_p (p_pure rfl) rfl ?_
        refine o_p (p_pure rfl) rfl ?_
        refine o_nil ?_
        exact s_joinI () trivial (sl_c (congrArg (fun e => some (Value.int .i64 e)) (by rw [hdE2, if_pos he1, ep]; rfl)) aSx) (fun w h => h.ent aEt)
      · try simp only [decide_eq_true_eq, decide_eq_false_iff_not, Bool.not_eq_true', Bool.not_eq_false', Bool.and_eq_true, Bool.or_eq_true, Bool.and_eq_false_iff, Bool.or_eq_false_iff, Bool.not_true, Bool.not_false] at h8
        refine s_skip ?_
        exact s_joinI () trivial (sl_c (congrArg (fun e => some (Value.int .i64 e)) (by rw [hdE2, if_neg (by omega)])) aSx) (fun w h => h.ent aEt)
    · intro _ _
      refine s_seq ?_
      refine s_draw [] mixed ?_
      refine d_p 0 rfl (p_pure rfl) (by kernel_rfl) rfl rfl ?_
      refine d_p 1 rfl (p_pure rfl) (by kernel_rfl) rfl rfl ?_
      refine d_p 2 rfl (p_pure rfl) (by kernel_rfl) rfl rfl ?_
      refine d_p 3 rfl (p_fieldAddr rfl rfl fd_114_1 sz_112 rfl) (by kernel_rfl) rfl rfl ?_
      refine d_q 4 [] rfl (q_load_old rfl rfl sz_112 (hb1)) (by kernel_rfl) (by kernel_rfl) (by kernel_rfl) rfl ?_
      refine d_p 5 rfl (p_fieldAddr rfl rfl fd_48_0 sz_3 rfl) (by kernel_rfl) rfl rfl ?_
      refine d_q 6 [] rfl (q_load rfl rfl sz_3 aPk rfl) (by kernel_rfl) (by kernel_rfl) (by kernel_rfl) rfl ?_
      refine d_q 7 [] rfl (q_lookup_old rfl rfl rfl Try.underlying112 zv_4 (key_int ki_3) (hr)) (by kernel_rfl) (by kernel_rfl) (by kernel_rfl) rfl ?_
      refine d_p 8 rfl (p_pure rfl) (by kernel_rfl) rfl rfl ?_
      refine d_q 9 [] rfl (q_call rfl fn_48 rfl (fun w1 h1 => c48 w1 _ _)) (by kernel_rfl) (by kernel_rfl) (by kernel_rfl) rfl ?_
      refine d_h 10 rfl (h_buildSlice (cs := [_, _]) rfl rfl sl_146 zr_28 rfl rfl rfl) (by kernel_rfl) (fun w h => h.ent aEt) rfl (fun b9 _ => ?_)
      refine d_base (fun w h => h.ent aEt) ?_
      refine d_q 11 [] rfl (q_call rfl fn_52 rfl (fun w1 h1 => f52 h1 aPk (by rfl) (by rfl) (by decide))) (by kernel_rfl) (by kernel_rfl) (by kernel_rfl) rfl ?_
      refine d_slot (show _ = Value.int .i64 (hdE3 next known (plo l) i) from by congr 1; unfold hdE3; rw [ep]; simp only [firstV, cond_eq_ite]; have : ∀ p : Prop, [Decidable p] → ((if (!decide p) = true then (0 : Int) else 23) = if p then 23 else 0) := (by intro p _; by_cases p <;> simp [*]); rw [this]; simp only [LOpn.pl]; grind) ?_
      refine d_p 12 rfl (p_pure rfl) (by kernel_rfl) rfl rfl ?_
      refine d_nil (by kernel_rfl) (fun w h => h.ent aEt) ?_
      refine s_seq ?_
      refine s_seq ?_
      refine s_region ?_
      refine o_p (p_pure rfl) rfl ?_
      refine o_p (p_pure rfl) rfl ?_
      refine o_p (p_pure rfl) rfl ?_
      refine o_and 6 68 74 _ _ rfl
        (by
          intro hg10
          have hs11 := hg10; try simp only [decide_eq_true_eq, decide_eq_false_iff_not, Bool.not_eq_true', Bool.not_eq_false', Bool.and_eq_true, Bool.or_eq_true, Bool.and_eq_false_iff, Bool.or_eq_false_iff, Bool.not_true, Bool.not_false] at hs11
          refine o_on 68 _ rfl rfl hg10 ?_
          refine o_p (p_pure rfl) rfl ?_
          refine o_on 68 _ rfl rfl hg10 ?_
          refine o_p (p_pure rfl) rfl ?_
          refine o_on 68 _ rfl rfl hg10 ?_
          refine o_p (p_slice _ _ 0 i rfl rfl sl_75 rfl ⟨_, _, rfl, rfl⟩ (by omega) (by omega)) rfl ?_
          refine o_slot (show _ = Value.slice a (l.take i).length cap from by rw [subA0 (Rw.some hs.1 (by omega)), List.length_take]; congr 1; omega) ?_
          refine o_on 68 _ rfl rfl hg10 ?_
          refine o_p (p_pure rfl) rfl ?_
          refine o_on 68 _ rfl rfl hg10 ?_
          refine o_q (q_call rfl fn_95 rfl (fun w1 h1 => by have h9 := c95 w1 a cap (l.take i) 96 #[.pointer (some ⟨b1, 0, none⟩)] ((l.take i).map fun y => cfl (nth l i).pl y.pl) ((hs.take i).1.later h1) (by simp; omega) (by kernel_rfl) (by simp) (fun j w2 hj h2 => by rw [map_getD_nthB hj]; exact c96 w2 b1 _ (nth l i) (fun q v hv => by rw [Nat.zero_add]; exact (h1.rd_blk (Mc := []) aPk hv (by simp)).later h2 (by simp)) (by have h30 := hd3_0 (next := next) (known := known) (ops := plo l) (k := i) (by omega); have h10 := hd1_0 (hd2_0 h30.1).1; rw [ep] at h10; exact h10.2.1) (hvo _ (mem_nth hj)).1); rw [any_map_id, ← eany] at h9; exact h9)) rfl ?_
          refine o_p (p_pickt rfl rfl hg10 rfl) rfl ?_
          refine o_nil ?_
          exact s_joinN 6 74 _ rfl rfl rfl (fun w h => by first | exact h | exact h.ent aEt))
        (by
          intro hg12
          have hs13 := hg12; try simp only [decide_eq_true_eq, decide_eq_false_iff_not, Bool.not_eq_true', Bool.not_eq_false', Bool.and_eq_true, Bool.or_eq_true, Bool.and_eq_false_iff, Bool.or_eq_false_iff, Bool.not_true, Bool.not_false] at hs13
          refine o_off 68 _ rfl rfl hg12 rfl ?_
          refine o_off 68 _ rfl rfl hg12 rfl ?_
          refine o_off 68 _ rfl rfl hg12 rfl ?_
          refine o_off 68 _ rfl rfl hg12 rfl ?_
          refine o_off 68 _ rfl rfl hg12 rfl ?_
          refine o_p (p_pickf rfl rfl hg12 rfl) rfl ?_
          refine o_nil ?_
          exact s_joinN 6 74 _ rfl rfl rfl (fun w h => by first | exact h | exact h.ent aEt)) ?_
      refine o_nil ?_
      refine s_weaken (L' := [(1, _), (2, _), (6, _), (7, _), (8, _), (74, _)]) aSx (fun _ h => h) ?_
      refine s_cutI (α := Unit) [8] (fun _ => [(8, .int .i64 (hdE4 next known (plo l) i))]) (fun _ => HS w [] [.blk b1 48 5 [.int .i64 (nth l i).hd, .int .i64 (nth l i).ac, .int .i64 (nth l i).sh, .bool (nth l i).dl, .slice (nth l i).la (nth l i).lk.length (nth l i).lc]]) (fun _ => True) ?_ ?_
      · skip
        refine s_cond rfl (fun h14 => ?_) (fun h14 => ?_)
        · try simp only [decide_eq_true_eq, decide_eq_false_iff_not, Bool.not_eq_true', Bool.not_eq_false', Bool.and_eq_true, Bool.or_eq_true, Bool.and_eq_false_iff, Bool.or_eq_false_iff, Bool.not_true, Bool.not_false] at h14
          refine s_region ?_
          refine o_p (p_pure rfl) rfl ?_
          refine o_nil ?_
          exact s_joinI () trivial (sl_c (congrArg (fun e => some (Value.int .i64 e)) (by have hq := h14; (try simp only [Bool.and_eq_true, decide_eq_true_eq] at hq); rw [hdE4, if_pos hq.1, if_pos hq.2])) aSx) (fun w h => h.ent aEt)
        · try simp only [decide_eq_true_eq, decide_eq_false_iff_not, Bool.not_eq_true', Bool.not_eq_false', Bool.and_eq_true, Bool.or_eq_true, Bool.and_eq_false_iff, Bool.or_eq_false_iff, Bool.not_true, Bool.not_false] at h14
          refine s_skip ?_
          exact s_joinI () trivial (sl_c (congrArg (fun e => some (Value.int .i64 e)) (by have hq := h14; unfold hdE4; grind)) aSx) (fun w h => h.ent aEt)
      · intro _ _
        refine s_seq ?_
        refine s_seq ?_
        refine s_region ?_
        refine o_p (p_pure rfl) rfl ?_
        refine o_p (p_pure rfl) rfl ?_
        refine o_nil ?_
        refine s_cond rfl (fun h15 => ?_) (fun h15 => ?_)
        · try simp only [decide_eq_true_eq, decide_eq_false_iff_not, Bool.not_eq_true', Bool.not_eq_false', Bool.and_eq_true, Bool.or_eq_true, Bool.and_eq_false_iff, Bool.or_eq_false_iff, Bool.not_true, Bool.not_false] at h15
          have he4 : hdE4 next known (plo l) i = 0 := by omega
          have h40 := hd4_0 he4
          have h30 := hd3_0 h40.1
          have h20 := hd2_0 h30.1
          have h10 := hd1_0 h20.1
          rw [ep] at h10 h20
          refine s_draw [] mixed ?_
          refine d_q 0 [] rfl (q_loadn rfl rfl sz_48 aPk rfl) (by kernel_rfl) (by kernel_rfl) (by kernel_rfl) rfl ?_
          refine d_p 1 rfl (p_pure rfl) (by kernel_rfl) rfl rfl ?_
          refine d_p 2 rfl (p_pure rfl) (by kernel_rfl) rfl rfl ?_
          refine d_p 3 rfl (p_slice _ _ 0 i rfl rfl sl_75 rfl ⟨_, _, rfl, rfl⟩ (by omega) (by omega)) (by kernel_rfl) rfl rfl ?_
          refine d_slot (show _ = Value.slice a (l.take i).length cap from by rw [subA0 (Rw.some hs.1 (by omega)), List.length_take]; congr 1; omega) ?_
          refine d_q 4 [] rfl (q_call rfl fn_97 rfl (fun w1 h1 => c97 w1 (nth l i) a cap (l.take i) ((hs.take i).later h1) ((hs.at hi).later h1) h20.2 (fun o ho => (hvo o ho).2.1) (by simp; omega) (fun o ho => (hvo o ho).2.2) h10.2.2.2)) (by kernel_rfl) (by kernel_rfl) (by kernel_rfl) rfl ?_
          refine d_p 5 rfl (p_pure rfl) (by kernel_rfl) rfl rfl ?_
          refine d_nil (by kernel_rfl) (fun w h => h.ent aEt) ?_
          refine s_seq ?_
          refine s_region ?_
          refine o_p (p_pure rfl) rfl ?_
          refine o_p (p_pure rfl) rfl ?_
          refine o_nil ?_
          exact s_retv (rs := [.tmp 6]) rfl (.tmp rfl (.nil)) (fun w' h' => ⟨by rw [hdl_4]; first | (rw [if_pos he4, heldK_all, ← List.map_take, ep]; rfl) | (rw [if_neg (by omega)]; rfl), h'.below⟩)
        · try simp only [decide_eq_true_eq, decide_eq_false_iff_not, Bool.not_eq_true', Bool.not_eq_false', Bool.and_eq_true, Bool.or_eq_true, Bool.and_eq_false_iff, Bool.or_eq_false_iff, Bool.not_true, Bool.not_false] at h15
          refine s_skip ?_
          refine s_seq ?_
          refine s_region ?_
          refine o_p (p_pure rfl) rfl ?_
          refine o_p (p_pure rfl) rfl ?_
          refine o_nil ?_
          exact s_retv (rs := [.tmp 6]) rfl (.tmp rfl (.nil)) (fun w' h' => ⟨by rw [hdl_4]; first | (rw [if_pos he4, heldK_all, ← List.map_take, ep]; rfl) | (rw [if_neg (by omega)]; rfl), h'.below⟩)

end Go.Proofs

namespace Go.Proofs
open Go Go.RowKit Gx
set_option linter.unusedVariables false
set_option linter.unusedSimpArgs false
attribute [local irreducible] Go.Calls Gx.S Gx.O Gx.D Gx.OpP Gx.OpQ Gx.OpH

theorem sz_111 : tsz Try.prog 111 = some (1, false) := by kernel_rfl
theorem fd_77_2 : tfd Try.prog 77 2 = some (3, 75) := by kernel_rfl
theorem sz_75 : tsz Try.prog 75 = some (1, false) := by kernel_rfl
theorem fn_59 : isFn Try.prog 59 = true := by kernel_rfl
theorem fd_77_0 : tfd Try.prog 77 0 = some (0, 42) := by kernel_rfl
theorem sz_42 : tsz Try.prog 42 = some (2, true) := by kernel_rfl
theorem fn_55 : isFn Try.prog 55 = true := by kernel_rfl
theorem fd_26_1 : tfd Try.prog 26 1 = some (1, 24) := by kernel_rfl
theorem sz_24 : tsz Try.prog 24 = some (1, false) := by kernel_rfl
theorem fn_56 : isFn Try.prog 56 = true := by kernel_rfl
theorem fn_57 : isFn Try.prog 57 = true := by kernel_rfl
theorem sz_77 : tsz Try.prog 77 = some (4, true) := by kernel_rfl
theorem fn_54 : isFn Try.prog 54 = true := by kernel_rfl
theorem fd_26_0 : tfd Try.prog 26 0 = some (0, 3) := by kernel_rfl
theorem pl_114 : tplaces Try.prog 114 = some [(0, 1), (1, 1)] := by kernel_rfl
theorem zr_114 : tzero Try.prog 114 = some [.int .i64 0, .map none] := by kernel_rfl
theorem zr_111 : tzero Try.prog 111 = some [.pointer none] := by kernel_rfl
theorem fn_53 : isFn Try.prog 53 = true := by kernel_rfl


theorem hdlE_congr {next : Int} {k1 k2 : List Int} {ops : List Opn} {k : Nat} (h : ∀ x, x ∈ k1 ↔ x ∈ k2) : hdlE next k1 ops k = hdlE next k2 ops k := by
  unfold hdlE
  simp only [h]
theorem hdlsE_congr {next : Int} {k1 k2 : List Int} {ops : List Opn} (h : ∀ x, x ∈ k1 ↔ x ∈ k2) : hdlsE next k1 ops = hdlsE next k2 ops := by
  unfold hdlsE
  congr 2
  apply List.map_congr_left
  intro k _
  exact hdlE_congr h
def hdlEs (next : Int) (ks : List Int) (ops : List Opn) : List Int := (List.range ops.length).map (hdlE next ks ops)
theorem hdlEs_get {next : Int} {ks : List Int} {ops : List Opn} {k : Nat} (h : k < ops.length) : (hdlEs next ks ops).getD k 0 = hdlE next ks ops k := by
  simp [hdlEs, List.getD_eq_getElem?_getD, h]
def filEs (next : Int) (L : List Fil) : List Int := (List.range L.length).map (filE next L)
theorem filEs_get {next : Int} {L : List Fil} {k : Nat} (h : k < L.length) : (filEs next L).getD k 0 = filE next L k := by
  simp [filEs, List.getD_eq_getElem?_getD, h]
theorem nth_pls {l : List LFil} {k : Nat} (h : k < l.length) : nth (pls l) k = (nth l k).pl := by
  simp only [nth, pls, List.getD_eq_getElem?_getD, List.getElem?_map, List.getElem?_eq_getElem h, Option.map_some, Option.getD_some]
def filE1 (L : List Fil) (i : Nat) : Int :=
  if refE (nth L i).rc (nth L i).sq = 0 then if i = 0 ∨ refLt ((nth L (i - 1)).rc, (nth L (i - 1)).sq) ((nth L i).rc, (nth L i).sq) = true then if 0 < (nth L i).op.length then 0 else 17 else 9 else refE (nth L i).rc (nth L i).sq
theorem filE_1 (next : Int) (L : List Fil) (i : Nat) : filE next L i = if filE1 L i = 0 then hdlsE next (hds (L.take i)) (nth L i).op else filE1 L i := by
  unfold filE filE1
  simp only []
  grind
theorem fil_way {L : List Fil} {i : Nat} {b : Bool} (hb : b = decide (i = 0 ∨ refLt ((nth L (i - 1)).rc, (nth L (i - 1)).sq) ((nth L i).rc, (nth L i).sq) = true)) :
    firstV [.int .i64 (refE (nth L i).rc (nth L i).sq), .int .i64 (bif b then 0 else 9), .int .i64 (bif decide ((0 : Int) < ((nth L i).op.length : Int)) then 0 else 17)] = filE1 L i := by
  subst hb
  simp only [firstV, cond_eq_ite, decide_eq_true_eq, filE1]
  grind
theorem hds_take {L : List Fil} {i : Nat} (h : i < L.length) (x : Int) : x ∈ hds (L.take (i + 1)) ↔ x ∈ hds (L.take i) ∨ x ∈ (nth L i).op.map Opn.hd := by
  rw [take_succ_nth h]
  unfold hds
  rw [List.flatMap_append, List.mem_append]
  simp
open Classical in
theorem mem_insK' {α : Type} {ks : List α} {a x : α} : x ∈ insK' ks a ↔ x ∈ ks ∨ x = a := by
  unfold insK'
  split
  · rename_i h
    constructor
    · exact .inl
    · rintro (h2 | rfl)
      · exact h2
      · exact h
  · simp
theorem plo_take_hd {l : List LOpn} {k : Nat} (h : k < l.length) (x : Int) : x ∈ ((l.take (k + 1)).map LOpn.hd) ↔ x ∈ ((l.take k).map LOpn.hd) ∨ x = (nth l k).hd := by
  rw [take_succ_nth h]
  simp
theorem cntT_succ {l : List LFil} {k : Nat} (h : k < l.length) : cntT (pls (l.take (k + 1))) = cntT (pls (l.take k)) + (nth l k).op.length := by
  rw [take_succ_nth h]
  simp [cntT, pls, LFil.pl]
theorem cntT_le {l : List LFil} (hl : ∀ f ∈ l, f.op.length ≤ 1000) : ∀ k, k ≤ l.length → cntT (pls (l.take k)) ≤ 1000 * k
  | 0, _ => by simp [cntT, pls]
  | k + 1, h => by
    have h1 := cntT_le hl k (by omega)
    have h2 := hl _ (mem_nth (show k < l.length by omega))
    rw [cntT_succ (by omega)]
    omega
theorem sum_mem : ∀ {l : List Nat} {n : Nat}, n ∈ l → n ≤ l.sum
  | [], _, h => by cases h
  | m :: l, n, h => by
    rw [List.sum_cons]
    rcases List.mem_cons.1 h with rfl | h
    · omega
    · have := sum_mem h; omega
theorem cntT_mem {L : List Fil} {f : Fil} (h : f ∈ L) : f.op.length ≤ cntT L := by
  unfold cntT
  exact sum_mem (List.mem_map.2 ⟨f, h, rfl⟩)
theorem chk_first {next : Int} {L : List Fil} : firstV [.int .i64 (bif decide (1 ≤ next) && decide (next ≤ 2147483647) then 0 else 2), .int .i64 (bif decide ((if (L.length : Int) > (cntT L : Int) then (L.length : Int) else (cntT L : Int)) ≤ 32) then 0 else 8)] = if 1 ≤ next ∧ next ≤ 2147483647 then if L.length ≤ 32 ∧ cntT L ≤ 32 then 0 else 8 else 2 := by
  simp only [firstV, cond_eq_ite, decide_eq_true_eq, Bool.and_eq_true]
  grind

set_option maxRecDepth 20000 in
theorem c58 (w : World) (bv bf bc r : Nat) (next : Int) (known : List Int) (a : Option Addr) (cap : Nat) (l : List LOpn) (i : Nat) (x : LOpn) (hv0 : Rd w [] bv 0 (.pointer (some ⟨bc, 0, none⟩))) (hf3 : Rd w [] bf 3 (.slice a l.length cap)) (hb0 : Rd w [] bc 0 (.int .i64 next)) (hb1 : Rd w [] bc 1 (.map (some r))) (hr : MpR w [] r KI known) (hs : Ot w [] a l) (hi : i < l.length) (hcap : l.length ≤ cap) (hm : l.length ≤ 500) (hn : 1 ≤ next ∧ next ≤ 2147483647) (hv : ∀ j, j < i → hdlE next known (plo l) j = 0) : Calls Try.prog 58 #[.int .i64 (i : Int), .agg #[.int .i64 x.hd, .int .i64 x.ac, .int .i64 x.sh, .bool x.dl, .slice x.la x.lk.length x.lc], .pointer (some ⟨bv, 0, none⟩), .pointer (some ⟨bf, 0, none⟩)] w fun en w' => en = .returned (.int .i64 (hdlE next known (plo l) i)) ∧ Below w.heap.size w w' := by
  refine enter (args := [_, _, _, _]) Try.func58 Try.ntmps58 rfl rfl (HS.refl w []) ?_
  refine s_seq ?_
  refine s_region ?_
  refine o_h (h_box rfl rfl) rfl (fun b1 _ => ?_)
  refine o_p (p_pure rfl) rfl ?_
  refine o_nil ?_
  refine s_seq ?_
  refine s_region ?_
  refine o_q (q_load_old rfl rfl sz_111 (hv0)) rfl ?_
  refine o_p (p_fieldAddr rfl rfl fd_77_2 sz_75 rfl) rfl ?_
  refine o_q (q_load_old rfl rfl sz_75 (hf3)) rfl ?_
  refine o_p (p_pure rfl) rfl ?_
  refine o_q (q_call rfl fn_59 rfl (fun w1 h1 => c59 w1 bc r next known a cap l i (hb0.next h1) (hb1.next h1) (hr.later h1) (hs.later h1) hi hcap hm hn hv)) rfl ?_
  refine o_p (p_pure rfl) rfl ?_
  refine o_nil ?_
  exact s_retv (rs := [.tmp 6]) rfl (.tmp rfl (.nil)) (fun w' h' => ⟨rfl, h'.below⟩)

set_option maxRecDepth 20000 in
theorem c54 (w : World) (bt bv bc r : Nat) (next : Int) (ks : List Int) (a : Option Addr) (cap : Nat) (L : List LFil) (i : Nat) (hw : HS w (fps [.mp r KI ks]) [.mp r KI ks] w) (ht1 : Rd w (fps [.mp r KI ks]) bt 1 (.slice a L.length cap)) (hv0 : Rd w (fps [.mp r KI ks]) bv 0 (.pointer (some ⟨bc, 0, none⟩))) (hb0 : Rd w (fps [.mp r KI ks]) bc 0 (.int .i64 next)) (hb1 : Rd w (fps [.mp r KI ks]) bc 1 (.map (some r))) (hs : Ft w (fps [.mp r KI ks]) a L) (hi : i < L.length) (hm : L.length ≤ 500) (hmo : ∀ f ∈ L, f.op.length ≤ 500) (hn : 1 ≤ next ∧ next ≤ 2147483647) (hk : ∀ x, x ∈ ks ↔ x ∈ hds ((pls L).take i)) : Calls Try.prog 54 #[.int .i64 (i : Int), .agg #[.int .i64 (nth L i).rc, .int .i64 (nth L i).sq, .bool (nth L i).pd, .slice (nth L i).oa (nth L i).op.length (nth L i).oc], .pointer (some ⟨bt, 0, none⟩), .pointer (some ⟨bv, 0, none⟩)] w fun en w' => ∃ g : List Int, en = .returned (.int .i64 (filE next (pls L) i)) ∧ (∀ x, x ∈ g ↔ x ∈ hds ((pls L).take (i + 1))) ∧ HS w (fps [.mp r KI ks]) [.mp r KI g] w' := by
  have ep := nth_pls hi
  have hmi := hmo _ (mem_nth hi)
  have hpl : i < (pls L).length := by simpa using hi
  refine enter (args := [_, _, _, _]) Try.func54 Try.ntmps54 rfl rfl hw ?_
  refine s_seq ?_
  refine s_region ?_
  refine o_h (h_box rfl rfl) rfl (fun b1 _ => ?_)
  refine o_p (p_pure rfl) rfl ?_
  refine o_nil ?_
  refine s_seq ?_
  refine s_cutI (α := Unit) [7, 10, 11, 12, 13, 14, 15, 16, 17, 18, 19, 20, 21, 22, 23, 24, 25, 26, 27, 28, 29, 30, 31, 32, 33, 34, 35, 36] (fun _ => [(7, .int .i64 (filE1 (pls L) i))]) (fun _ => HS w (fps [.mp r KI ks]) [.mp r KI ks, .blk b1 77 4 [.int .i64 (nth L i).rc, .int .i64 (nth L i).sq, .bool (nth L i).pd, .slice (nth L i).oa (nth L i).op.length (nth L i).oc]]) (fun _ => True) ?_ ?_
  · skip
    refine s_draw [] mixed ?_
    refine d_p 0 rfl (p_fieldAddr rfl rfl fd_77_0 sz_42 rfl) (by kernel_rfl) rfl rfl ?_
    refine d_q 1 [] rfl (q_loadn rfl rfl sz_42 aPk rfl) (by kernel_rfl) (by kernel_rfl) (by kernel_rfl) rfl ?_
    refine d_q 2 [] rfl (q_call rfl fn_55 rfl (fun w1 h1 => c55 w1 _ _)) (by kernel_rfl) (by kernel_rfl) (by kernel_rfl) rfl ?_
    refine d_p 3 rfl (p_pure rfl) (by kernel_rfl) rfl rfl ?_
    refine d_p 4 rfl (p_pure rfl) (by kernel_rfl) rfl rfl ?_
    refine d_p 5 rfl (p_pure rfl) (by kernel_rfl) rfl rfl ?_
    apply d_split 15
    · exact rfl
    · intro hg2
      have hs3 := hg2; try simp only [decide_eq_true_eq, decide_eq_false_iff_not, Bool.not_eq_true', Bool.not_eq_false', Bool.and_eq_true, Bool.or_eq_true, Bool.and_eq_false_iff, Bool.or_eq_false_iff, Bool.not_true, Bool.not_false] at hs3
      refine d_off 6 15 rfl rfl rfl hg2 (by kernel_rfl) rfl rfl ?_
      refine d_off 7 15 rfl rfl rfl hg2 (by kernel_rfl) rfl rfl ?_
      refine d_off 8 15 rfl rfl rfl hg2 (by kernel_rfl) rfl rfl ?_
      refine d_off 9 15 rfl rfl rfl hg2 (by kernel_rfl) rfl rfl ?_
      refine d_off 10 15 rfl rfl rfl hg2 (by kernel_rfl) rfl rfl ?_
      refine d_off 11 15 rfl rfl rfl hg2 (by kernel_rfl) rfl rfl ?_
      refine d_off 12 15 rfl rfl rfl hg2 (by kernel_rfl) rfl rfl ?_
      refine d_off 13 15 rfl rfl rfl hg2 (by kernel_rfl) rfl rfl ?_
      refine d_off 14 15 rfl rfl rfl hg2 (by kernel_rfl) rfl rfl ?_
      refine d_off 15 15 rfl rfl rfl hg2 (by kernel_rfl) rfl rfl ?_
      refine d_off 16 15 rfl rfl rfl hg2 (by kernel_rfl) rfl rfl ?_
      refine d_off 17 15 rfl rfl rfl hg2 (by kernel_rfl) rfl rfl ?_
      refine d_p 18 rfl (p_pickt rfl rfl hg2 rfl) (by kernel_rfl) rfl rfl ?_
      refine d_q 19 [] rfl (q_call rfl fn_48 rfl (fun w1 h1 => c48 w1 _ _)) (by kernel_rfl) (by kernel_rfl) (by kernel_rfl) rfl ?_
      refine d_p 20 rfl (p_fieldAddr rfl rfl fd_77_2 sz_75 rfl) (by kernel_rfl) rfl rfl ?_
      refine d_q 21 [] rfl (q_load rfl rfl sz_75 aPk rfl) (by kernel_rfl) (by kernel_rfl) (by kernel_rfl) rfl ?_
      refine d_p 22 rfl (p_len_slice rfl rfl Try.underlying75) (by kernel_rfl) rfl rfl ?_
      refine d_p 23 rfl (p_pure rfl) (by kernel_rfl) rfl rfl ?_
      refine d_q 24 [] rfl (q_call rfl fn_48 rfl (fun w1 h1 => c48 w1 _ _)) (by kernel_rfl) (by kernel_rfl) (by kernel_rfl) rfl ?_
      refine d_h 25 rfl (h_buildSlice (cs := [_, _, _]) rfl rfl sl_146 zr_28 rfl rfl rfl) (by kernel_rfl) (fun w h => h.ent aEt) rfl (fun b4 _ => ?_)
      refine d_base (fun w h => h.ent aEt) ?_
      refine d_q 26 [] rfl (q_call rfl fn_52 rfl (fun w1 h1 => f52 h1 aPk (by rfl) (by rfl) (by decide))) (by kernel_rfl) (by kernel_rfl) (by kernel_rfl) rfl ?_
      refine d_p 27 rfl (p_pure rfl) (by kernel_rfl) rfl rfl ?_
      refine d_nil (by kernel_rfl) (fun w h => h.ent aEt) ?_
      exact s_joinI () trivial (sl_c (congrArg (fun e => some (Value.int .i64 e)) (by have hw9 := fil_way (L := pls L) (i := i) (b := true) (by simp; omega); rw [ep] at hw9; simp only [LFil.pl, List.length_map] at hw9; exact hw9)) aSx) (fun w h => h.ent aEt)
    · intro hg5
      have hs6 := hg5; try simp only [decide_eq_true_eq, decide_eq_false_iff_not, Bool.not_eq_true', Bool.not_eq_false', Bool.and_eq_true, Bool.or_eq_true, Bool.and_eq_false_iff, Bool.or_eq_false_iff, Bool.not_true, Bool.not_false] at hs6
      refine d_pon 6 15 rfl rfl rfl hg5 (p_fieldAddr rfl rfl fd_26_1 sz_24 rfl) (by kernel_rfl) rfl rfl ?_
      refine d_qon 7 15 [] rfl rfl rfl hg5 (q_load_old rfl rfl sz_24 (ht1)) (by kernel_rfl) (by kernel_rfl) (by kernel_rfl) rfl ?_
      refine d_pon 8 15 rfl rfl rfl hg5 (p_pure rfl) (by kernel_rfl) rfl rfl ?_
      refine d_pon 9 15 rfl rfl rfl hg5 (p_pure rfl) (by kernel_rfl) rfl rfl ?_
      try (refine d_slot (i64w (by omega) (by omega)) ?_)
      refine d_pon 10 15 rfl rfl rfl hg5 (p_max2 rfl rfl rfl ) (by kernel_rfl) rfl rfl ?_
      refine d_slot (show _ = Value.int .i64 ((i - 1 : Nat) : Int) from by congr 1; split <;> omega) ?_
      refine d_pon 11 15 rfl rfl rfl hg5 (p_indexAddr rfl rfl rfl sl_24 ((i - 1)) (by omega) (by omega) (Rw.some hs.1 (by omega))) (by kernel_rfl) rfl rfl ?_
      refine d_pon 12 15 rfl rfl rfl hg5 (p_fieldAddr rfl rfl fd_77_0 sz_42 rfl) (by kernel_rfl) rfl rfl ?_
      refine d_qon 13 15 [] rfl rfl rfl hg5 (q_load_oldn [.int .i64 (nth L (i - 1)).rc, .int .i64 (nth L (i - 1)).sq] rfl rfl sz_42 rfl (fun j v hv => Rw.rd hs.1 (i := i - 1) (by omega) j v (by rcases j with _ | _ | j <;> first | exact hv | (simp at hv)))) (by kernel_rfl) (by kernel_rfl) (by kernel_rfl) rfl ?_
      refine d_pon 14 15 rfl rfl rfl hg5 (p_fieldAddr rfl rfl fd_77_0 sz_42 rfl) (by kernel_rfl) rfl rfl ?_
      refine d_qon 15 15 [] rfl rfl rfl hg5 (q_loadn rfl rfl sz_42 aPk rfl) (by kernel_rfl) (by kernel_rfl) (by kernel_rfl) rfl ?_
      refine d_qon 16 15 [] rfl rfl rfl hg5 (q_call rfl fn_56 rfl (fun w1 h1 => c56 w1 _ _ _ _)) (by kernel_rfl) (by kernel_rfl) (by kernel_rfl) rfl ?_
      refine d_pon 17 15 rfl rfl rfl hg5 (p_pure rfl) (by kernel_rfl) rfl rfl ?_
      refine d_p 18 rfl (p_pickf rfl rfl hg5 rfl) (by kernel_rfl) rfl rfl ?_
      refine d_q 19 [] rfl (q_call rfl fn_48 rfl (fun w1 h1 => c48 w1 _ _)) (by kernel_rfl) (by kernel_rfl) (by kernel_rfl) rfl ?_
      refine d_p 20 rfl (p_fieldAddr rfl rfl fd_77_2 sz_75 rfl) (by kernel_rfl) rfl rfl ?_
      refine d_q 21 [] rfl (q_load rfl rfl sz_75 aPk rfl) (by kernel_rfl) (by kernel_rfl) (by kernel_rfl) rfl ?_
      refine d_p 22 rfl (p_len_slice rfl rfl Try.underlying75) (by kernel_rfl) rfl rfl ?_
      refine d_p 23 rfl (p_pure rfl) (by kernel_rfl) rfl rfl ?_
      refine d_q 24 [] rfl (q_call rfl fn_48 rfl (fun w1 h1 => c48 w1 _ _)) (by kernel_rfl) (by kernel_rfl) (by kernel_rfl) rfl ?_
      refine d_h 25 rfl (h_buildSlice (cs := [_, _, _]) rfl rfl sl_146 zr_28 rfl rfl rfl) (by kernel_rfl) (fun w h => h.ent aEt) rfl (fun b7 _ => ?_)
      refine d_base (fun w h => h.ent aEt) ?_
      refine d_q 26 [] rfl (q_call rfl fn_52 rfl (fun w1 h1 => f52 h1 aPk (by rfl) (by rfl) (by decide))) (by kernel_rfl) (by kernel_rfl) (by kernel_rfl) rfl ?_
      refine d_p 27 rfl (p_pure rfl) (by kernel_rfl) rfl rfl ?_
      refine d_nil (by kernel_rfl) (fun w h => h.ent aEt) ?_
      exact s_joinI () trivial (sl_c (congrArg (fun e => some (Value.int .i64 e)) (by have hw9 := fil_way (L := pls L) (i := i) (b := decide (cmp2 ((nth L (i - 1)).rc, (nth L (i - 1)).sq) ((nth L i).rc, (nth L i).sq) < 0)) (by rw [cmp2_lt, ep, nth_pls (by omega)]; simp only [LFil.pl]; have : ¬ i = 0 := (by omega); simp [this]); rw [ep] at hw9; simp only [LFil.pl, List.length_map] at hw9; exact hw9)) aSx) (fun w h => h.ent aEt)
  · intro _ _
    refine s_seq ?_
    refine s_seq ?_
    refine s_region ?_
    refine o_p (p_pure rfl) rfl ?_
    refine o_p (p_pure rfl) rfl ?_
    refine o_nil ?_
    refine s_cutI (α := Unit) [7, 39, 40, 41, 42, 43, 44, 45] (fun _ => [(7, .int .i64 (filE next (pls L) i))]) (fun _ => HS w (fps [.mp r KI ks]) [.mp r KI ks, .blk b1 77 4 [.int .i64 (nth L i).rc, .int .i64 (nth L i).sq, .bool (nth L i).pd, .slice (nth L i).oa (nth L i).op.length (nth L i).oc]]) (fun _ => True) ?_ ?_
    · skip
      refine s_cond rfl (fun h8 => ?_) (fun h8 => ?_)
      · try simp only [decide_eq_true_eq, decide_eq_false_iff_not, Bool.not_eq_true', Bool.not_eq_false', Bool.and_eq_true, Bool.or_eq_true, Bool.and_eq_false_iff, Bool.or_eq_false_iff, Bool.not_true, Bool.not_false] at h8
        refine s_region ?_
        refine o_p (p_fieldAddr rfl rfl fd_77_2 sz_75 rfl) rfl ?_
        refine o_q (q_load rfl rfl sz_75 aPk rfl) rfl ?_
        refine o_p (p_pure rfl) rfl ?_
        refine o_q (q_call rfl fn_57 rfl (fun w1 h1 => by have h9 := c57 w1 (nth L i).oa (nth L i).oc (nth L i).op 58 #[.pointer (some ⟨bv, 0, none⟩), .pointer (some ⟨b1, 0, none⟩)] (hdlEs next ks (plo (nth L i).op)) ((hs.at hi).1.later h1) (by omega) (by kernel_rfl) (by simp [hdlEs]) (fun j w2 hj hz h2 => by rw [hdlEs_get (by simpa using hj)]; exact c58 w2 bv b1 bc r next ks _ _ (nth L i).op j _ ((hv0.next h1).next h2) ((h1.rd_blk (Mc := []) aPk rfl (by simp)).next h2) ((hb0.next h1).next h2) ((hb1.next h1).next h2) ((h1.mpr aPk).later h2) (((hs.at hi).later h1).later h2) hj (hs.cap hi) (by omega) hn (fun q hq => by rw [← hdlEs_get (by simp; omega)]; exact hz q hq)); exact h9)) rfl ?_
        refine o_p (p_pure rfl) rfl ?_
        refine o_p (p_pure rfl) rfl ?_
        refine o_p (p_pure rfl) rfl ?_
        refine o_p (p_pure rfl) rfl ?_
        refine o_nil ?_
        exact s_joinI () trivial (sl_c (congrArg (fun e => some (Value.int .i64 e)) (by rw [filE_1, if_pos h8, ep, ← hdlsE_congr hk]; rfl)) aSx) (fun w h => h.ent aEt)
      · try simp only [decide_eq_true_eq, decide_eq_false_iff_not, Bool.not_eq_true', Bool.not_eq_false', Bool.and_eq_true, Bool.or_eq_true, Bool.and_eq_false_iff, Bool.or_eq_false_iff, Bool.not_true, Bool.not_false] at h8
        refine s_skip ?_
        exact s_joinI () trivial (sl_c (congrArg (fun e => some (Value.int .i64 e)) (by rw [filE_1, if_neg h8])) aSx) (fun w h => h.ent aEt)
    · intro _ _
      refine s_seq ?_
      refine s_seq ?_
      refine s_region ?_
      refine o_p (p_fieldAddr rfl rfl fd_77_2 sz_75 rfl) rfl ?_
      refine o_q (q_load rfl rfl sz_75 aPk rfl) rfl ?_
      refine o_p (p_len_slice rfl rfl Try.underlying75) rfl ?_
      refine o_p (p_pure rfl) rfl ?_
      refine o_nil ?_
      refine s_block ?_
      refine s_loopI (α := Nat × List Int) [9, 49, 50, 51, 52, 53, 54, 55, 56, 57, 58, 59] (fun y => [(49, .int .i64 (y.1 : Int))]) (fun y => HS w (fps [.mp r KI ks]) [.mp r KI y.2, .blk b1 77 4 [.int .i64 (nth L i).rc, .int .i64 (nth L i).sq, .bool (nth L i).pd, .slice (nth L i).oa (nth L i).op.length (nth L i).oc]]) (fun y => y.1 ≤ (nth L i).op.length ∧ ∀ x, x ∈ y.2 ↔ x ∈ ks ∨ x ∈ ((nth L i).op.take y.1).map LOpn.hd) (fun y => (nth L i).op.length - y.1) (0, ks) ⟨by simp, by simp⟩ aSx (fun w h => h.ent aEt) (fun ⟨k, kk⟩ hy => ?_)
      dsimp only
      simp only [] at hy
      obtain ⟨hk1, hk2⟩ := hy
      refine s_seq ?_
      refine s_region ?_
      refine o_p (p_pure rfl) rfl ?_
      refine o_nil ?_
      refine s_seq ?_
      refine s_cond rfl (fun h9 => ?_) (fun h9 => ?_)
      · try simp only [decide_eq_true_eq, decide_eq_false_iff_not, Bool.not_eq_true', Bool.not_eq_false', Bool.and_eq_true, Bool.or_eq_true, Bool.and_eq_false_iff, Bool.or_eq_false_iff, Bool.not_true, Bool.not_false] at h9
        refine s_skip ?_
        refine s_seq ?_
        refine s_block ?_
        refine s_seq ?_
        refine s_region ?_
        refine o_p (p_indexAddr rfl rfl rfl sl_75 (k) (by omega) (by omega) (Rw.some (hs.at hi).1 (by omega))) rfl ?_
        refine o_q (q_load_oldn _ rfl rfl sz_48 rfl (Rw.rd (hs.at hi).1 (i := k) (by omega))) rfl ?_
        refine o_h (h_alloc rfl zr_48) rfl (fun b10 _ => ?_)
        refine o_h0 (h_store rfl rfl rfl sz_48 rfl aPt (by simp only [setMany_length, List.length_set, List.length_cons, List.length_nil, List.length_map]; omega) rfl) (fun _ _ => ?_)
        refine o_nil ?_
        refine s_draw [6] mixed ?_
        refine d_q 0 [[]] rfl (q_load_old rfl rfl sz_111 (hv0)) (by kernel_rfl) (by kernel_rfl) (by kernel_rfl) rfl ?_
        refine d_p 1 rfl (p_pure rfl) (by kernel_rfl) rfl rfl ?_
        refine d_p 2 rfl (p_fieldAddr rfl rfl fd_114_1 sz_112 rfl) (by kernel_rfl) rfl rfl ?_
        refine d_q 3 [[]] rfl (q_load_old rfl rfl sz_112 (hb1)) (by kernel_rfl) (by kernel_rfl) (by kernel_rfl) rfl ?_
        refine d_p 4 rfl (p_fieldAddr rfl rfl fd_48_0 sz_3 rfl) (by kernel_rfl) rfl rfl ?_
        refine d_q 5 [[]] rfl (q_load rfl rfl sz_3 aPk rfl) (by kernel_rfl) (by kernel_rfl) (by kernel_rfl) rfl ?_
        refine d_h0 6 rfl (h_mapUpdate (.inl rfl) rfl rfl rfl Try.underlying112 (key_int ki_3) aPt) (by kernel_rfl) (fun w h => h.ent aEt) (fun _ _ => ?_)
        refine d_turn [] (by kernel_rfl) ?_
        refine d_nil (by kernel_rfl) (fun w h => h.ent aEt) ?_
        refine s_blk ?_
        refine s_region ?_
        refine o_p (p_pure rfl) rfl ?_
        try (refine o_slot (i64w (by omega) (by omega)) ?_)
        refine o_p (p_pure rfl) rfl ?_
        refine o_nil ?_
        exact s_backI (k + 1, _) (by (try simp only []); omega) ⟨by (try simp only []); omega, fun x => by rw [mem_insK', hk2, plo_take_hd (by omega), or_assoc]⟩ aSx (fun w h => h.ent aEt)
      · try simp only [decide_eq_true_eq, decide_eq_false_iff_not, Bool.not_eq_true', Bool.not_eq_false', Bool.and_eq_true, Bool.or_eq_true, Bool.and_eq_false_iff, Bool.or_eq_false_iff, Bool.not_true, Bool.not_false] at h9
        refine s_exit_to rfl ?_
        refine s_seq ?_
        refine s_region ?_
        refine o_p (p_pure rfl) rfl ?_
        refine o_p (p_pure rfl) rfl ?_
        refine o_nil ?_
        exact s_retv (rs := [.tmp 6]) rfl (.tmp rfl (.nil)) (fun w' h' => ⟨kk, rfl, fun x => by rw [hk2, hds_take hpl, hk, ep]; simp only [LFil.pl, List.map_map]; obtain rfl : k = (nth L i).op.length := (by omega); rw [List.take_length]; rfl, h'.ent aEt⟩)

set_option maxRecDepth 20000 in
theorem d53 (w : World) (bt bv bc r : Nat) (next : Int) (ks0 : List Int) (a : Option Addr) (cap : Nat) (L : List LFil) (hw : HS w (fps [.mp r KI ks0]) [.mp r KI ks0] w) (ht1 : Rd w (fps [.mp r KI ks0]) bt 1 (.slice a L.length cap)) (hv0 : Rd w (fps [.mp r KI ks0]) bv 0 (.pointer (some ⟨bc, 0, none⟩))) (hb0 : Rd w (fps [.mp r KI ks0]) bc 0 (.int .i64 next)) (hb1 : Rd w (fps [.mp r KI ks0]) bc 1 (.map (some r))) (hs : Ft w (fps [.mp r KI ks0]) a L) (hm : L.length ≤ 500) (hmo : ∀ f ∈ L, f.op.length ≤ 500) (hn : 1 ≤ next ∧ next ≤ 2147483647) (hk0 : ks0 = []) : Calls Try.prog 53 #[.slice a L.length cap, .func (.func 54) #[] #[.pointer (some ⟨bt, 0, none⟩), .pointer (some ⟨bv, 0, none⟩)]] w fun en w' => ∃ g : List Int, en = .returned (.tuple #[.int .i64 (eachF (filEs next (pls L)) 0).1, .int .i64 (eachF (filEs next (pls L)) 0).2]) ∧ True ∧ HS w (fps [.mp r KI ks0]) [.mp r KI g] w' := by
  have hlen : (filEs next (pls L)).length = L.length := by simp [filEs]
  refine enter (args := [_, _]) Try.func53 Try.ntmps53 rfl rfl hw ?_
  refine s_seq ?_
  refine s_region ?_
  refine o_p (p_pure rfl) rfl ?_
  refine o_p (p_pure rfl) rfl ?_
  refine o_nil ?_
  refine s_seq ?_
  refine s_seq ?_
  refine s_region ?_
  refine o_p (p_pure rfl) rfl ?_
  refine o_p (p_len_slice rfl rfl Try.underlying24) rfl ?_
  refine o_p (p_pure rfl) rfl ?_
  refine o_nil ?_
  refine s_block ?_
  refine s_loopI (α := Nat × List Int) [4, 5, 6, 7, 8, 11, 12, 13, 14, 15, 16, 17, 18, 19, 20, 21, 22, 23, 24] (fun y => [(11, .int .i64 (y.1 : Int))]) (fun y => HS w (fps [.mp r KI ks0]) [.mp r KI y.2]) (fun y => y.1 ≤ L.length ∧ eachF (filEs next (pls L)) 0 = eachF ((filEs next (pls L)).drop y.1) y.1 ∧ ∀ x, x ∈ y.2 ↔ x ∈ hds ((pls L).take y.1)) (fun y => L.length - y.1) (0, ks0) ⟨by simp, rfl, by simp [hk0, hds]⟩ aSx (fun w h => h.ent aEt) (fun ⟨k, ks⟩ hy => ?_)
  dsimp only
  simp only [] at hy
  obtain ⟨hk1, hk2, hk3⟩ := hy
  refine s_seq ?_
  refine s_region ?_
  refine o_p (p_pure rfl) rfl ?_
  refine o_nil ?_
  refine s_seq ?_
  refine s_cond rfl (fun h1 => ?_) (fun h1 => ?_)
  · try simp only [decide_eq_true_eq, decide_eq_false_iff_not, Bool.not_eq_true', Bool.not_eq_false', Bool.and_eq_true, Bool.or_eq_true, Bool.and_eq_false_iff, Bool.or_eq_false_iff, Bool.not_true, Bool.not_false] at h1
    refine s_skip ?_
    refine s_seq ?_
    refine s_block ?_
    refine s_seq ?_
    refine s_region ?_
    refine o_p (p_pure rfl) rfl ?_
    refine o_p (p_indexAddr rfl rfl rfl sl_24 (k) (by omega) (by omega) (Rw.some hs.1 (by omega))) rfl ?_
    refine o_q (q_load_oldn _ rfl rfl sz_77 rfl (Rw.rd hs.1 (i := k) (by omega))) rfl ?_
    refine o_h (h_alloc rfl zr_77) rfl (fun b2 _ => ?_)
    refine o_p (p_pure rfl) rfl ?_
    refine o_h0 (h_store rfl rfl rfl sz_77 rfl aPt (by simp only [setMany_length, List.length_set, List.length_cons, List.length_nil, List.length_map]; omega) rfl) (fun _ _ => ?_)
    refine o_nil ?_
    refine s_seq ?_
    refine s_region ?_
    refine o_p (p_pure rfl) rfl ?_
    refine o_p (p_pure rfl) rfl ?_
    refine o_q (q_loadn rfl rfl sz_77 aPk rfl) rfl ?_
    refine o_h (h_callvF (Cs := [.mp r KI ks]) rfl rfl fn_54 rfl aPs (fun w1 h1 hf => c54 w1 bt bv bc r next ks a cap L k hf ((h1.ent (Bs := [.mp r KI ks]) aEt).keep ht1) ((h1.ent (Bs := [.mp r KI ks]) aEt).keep hv0) ((h1.ent (Bs := [.mp r KI ks]) aEt).keep hb0) ((h1.ent (Bs := [.mp r KI ks]) aEt).keep hb1) (hs.keep (h1.ent (Bs := [.mp r KI ks]) aEt)) (by omega) hm hmo hn hk3)) rfl (fun b3 hg => ?_)
    refine o_p (p_pure rfl) rfl ?_
    refine o_nil ?_
    refine s_seq ?_
    refine s_region ?_
    refine o_p (p_pure rfl) rfl ?_
    refine o_p (p_pure rfl) rfl ?_
    refine o_nil ?_
    refine s_cond rfl (fun h4 => ?_) (fun h4 => ?_)
    · try simp only [decide_eq_true_eq, decide_eq_false_iff_not, Bool.not_eq_true', Bool.not_eq_false', Bool.and_eq_true, Bool.or_eq_true, Bool.and_eq_false_iff, Bool.or_eq_false_iff, Bool.not_true, Bool.not_false] at h4
      refine s_seq ?_
      refine s_region ?_
      refine o_p (p_pure rfl) rfl ?_
      refine o_p (p_pure rfl) rfl ?_
      refine o_p (p_pure rfl) rfl ?_
      refine o_p (p_pure rfl) rfl ?_
      refine o_nil ?_
      exact s_retv (rs := [.tmp 4, .tmp 5]) rfl (.tmp rfl (.tmp rfl (.nil))) (fun w' h' => ⟨b3, by rw [hk2, eachF_drop (by omega), if_neg (by rw [filEs_get (by simp; omega)]; exact h4), filEs_get (by simp; omega)]; rfl, trivial, h'.ent aEt⟩)
    · try simp only [decide_eq_true_eq, decide_eq_false_iff_not, Bool.not_eq_true', Bool.not_eq_false', Bool.and_eq_true, Bool.or_eq_true, Bool.and_eq_false_iff, Bool.or_eq_false_iff, Bool.not_true, Bool.not_false] at h4
      refine s_skip ?_
      refine s_blk ?_
      refine s_region ?_
      refine o_p (p_pure rfl) rfl ?_
      try (refine o_slot (i64w (by omega) (by omega)) ?_)
      refine o_p (p_pure rfl) rfl ?_
      refine o_nil ?_
      exact s_backI (k + 1, b3) (by (try simp only []); omega) ⟨by (try simp only []); omega, by rw [hk2, eachF_drop (by omega), if_pos (by rw [filEs_get (by simp; omega)]; exact h4)], hg⟩ aSx (fun w h => h.ent aEt)
  · try simp only [decide_eq_true_eq, decide_eq_false_iff_not, Bool.not_eq_true', Bool.not_eq_false', Bool.and_eq_true, Bool.or_eq_true, Bool.and_eq_false_iff, Bool.or_eq_false_iff, Bool.not_true, Bool.not_false] at h1
    refine s_exit_to rfl ?_
    refine s_seq ?_
    refine s_region ?_
    refine o_p (p_pure rfl) rfl ?_
    refine o_p (p_pure rfl) rfl ?_
    refine o_nil ?_
    exact s_retv (rs := [.tmp 4, .tmp 5]) rfl (.tmp rfl (.tmp rfl (.nil))) (fun w' h' => ⟨ks, by rw [hk2, eachF_end (by omega)]; rfl, trivial, h'.ent aEt⟩)

set_option maxRecDepth 20000 in
theorem c18 (w : World) (next : Int) (a : Option Addr) (cap : Nat) (L : List LFil) (hs : Ft w [] a L) (hm : L.length ≤ 1000) (hmo : ∀ f ∈ L, f.op.length ≤ 1000) : Calls Try.prog 18 #[.agg #[.int .i64 next, .slice a L.length cap]] w fun en w' => en = .returned (.tuple #[.int .i64 (chkT next (pls L)).1, .int .i64 (chkT next (pls L)).2]) ∧ Below w.heap.size w w' := by
  have hcl := cntT_le hmo L.length (Nat.le_refl _)
  have hpl : (pls L).length = L.length := by simp
  refine enter (args := [_]) Try.func18 Try.ntmps18 rfl rfl (HS.refl w []) ?_
  refine s_seq ?_
  refine s_region ?_
  refine o_h (h_box rfl rfl) rfl (fun b1 _ => ?_)
  refine o_p (p_pure rfl) rfl ?_
  refine o_p (p_pure rfl) rfl ?_
  refine o_nil ?_
  refine s_seq ?_
  refine s_region ?_
  refine o_p (p_pure rfl) rfl ?_
  refine o_nil ?_
  refine s_seq ?_
  refine s_seq ?_
  refine s_region ?_
  refine o_p (p_fieldAddr rfl rfl fd_26_1 sz_24 rfl) rfl ?_
  refine o_q (q_load rfl rfl sz_24 aPk rfl) rfl ?_
  refine o_p (p_len_slice rfl rfl Try.underlying24) rfl ?_
  refine o_p (p_pure rfl) rfl ?_
  refine o_nil ?_
  refine s_block ?_
  refine s_loopI (α := Nat) [4, 6, 12, 13, 14, 15, 16, 17, 18, 19, 20, 21] (fun k => [(12, .int .i64 (k : Int)), (4, .int .i64 (cntT (pls (L.take k)) : Int))]) (fun _ => HS w [] [.blk b1 26 2 [.int .i64 next, .slice a L.length cap]]) (fun k => k ≤ L.length) (fun k => L.length - k) 0 (by simp) (sl_c rfl (sl_c (congrArg (fun e => some (Value.int .i64 e)) (by simp [cntT, pls])) aSx)) (fun w h => h.ent aEt) (fun k hk => ?_)
  have hck := cntT_le hmo k hk
  refine s_seq ?_
  refine s_region ?_
  refine o_p (p_pure rfl) rfl ?_
  refine o_nil ?_
  refine s_seq ?_
  refine s_cond rfl (fun h2 => ?_) (fun h2 => ?_)
  · try simp only [decide_eq_true_eq, decide_eq_false_iff_not, Bool.not_eq_true', Bool.not_eq_false', Bool.and_eq_true, Bool.or_eq_true, Bool.and_eq_false_iff, Bool.or_eq_false_iff, Bool.not_true, Bool.not_false] at h2
    have hmk := hmo _ (mem_nth (show k < L.length by omega))
    refine s_skip ?_
    refine s_seq ?_
    refine s_block ?_
    refine s_seq ?_
    refine s_region ?_
    refine o_p (p_indexAddr rfl rfl rfl sl_24 (k) (by omega) (by omega) (Rw.some hs.1 (by omega))) rfl ?_
    refine o_q (q_load_oldn _ rfl rfl sz_77 rfl (Rw.rd hs.1 (i := k) (by omega))) rfl ?_
    refine o_h (h_alloc rfl zr_77) rfl (fun b3 _ => ?_)
    refine o_h0 (h_store rfl rfl rfl sz_77 rfl aPt (by simp only [setMany_length, List.length_set, List.length_cons, List.length_nil, List.length_map]; omega) rfl) (fun _ _ => ?_)
    refine o_nil ?_
    refine s_region ?_
    refine o_p (p_pure rfl) rfl ?_
    refine o_p (p_fieldAddr rfl rfl fd_77_2 sz_75 rfl) rfl ?_
    refine o_q (q_load rfl rfl sz_75 aPk rfl) rfl ?_
    refine o_p (p_len_slice rfl rfl Try.underlying75) rfl ?_
    refine o_p (p_pure rfl) rfl ?_
    try (refine o_slot (i64w (by omega) (by omega)) ?_)
    refine o_p (p_pure rfl) rfl ?_
    refine o_nil ?_
    refine s_blk ?_
    refine s_region ?_
    refine o_p (p_pure rfl) rfl ?_
    try (refine o_slot (i64w (by omega) (by omega)) ?_)
    refine o_p (p_pure rfl) rfl ?_
    refine o_nil ?_
    exact s_backI (k + 1) (by omega) (by omega) (sl_c rfl (sl_c (congrArg (fun e => some (Value.int .i64 e)) (by rw [cntT_succ (by omega)]; omega)) aSx)) (fun w h => h.ent aEt)
  · try simp only [decide_eq_true_eq, decide_eq_false_iff_not, Bool.not_eq_true', Bool.not_eq_false', Bool.and_eq_true, Bool.or_eq_true, Bool.and_eq_false_iff, Bool.or_eq_false_iff, Bool.not_true, Bool.not_false] at h2
    obtain rfl : k = L.length := by omega
    rw [List.take_length] at *
    refine s_exit_to rfl ?_
    refine s_seq ?_
    refine s_seq ?_
    refine s_draw [] mixed ?_
    refine d_p 0 rfl (p_fieldAddr rfl rfl fd_26_0 sz_3 rfl) (by kernel_rfl) rfl rfl ?_
    refine d_q 1 [] rfl (q_load rfl rfl sz_3 aPk rfl) (by kernel_rfl) (by kernel_rfl) (by kernel_rfl) rfl ?_
    refine d_q 2 [] rfl (q_call rfl fn_49 rfl (fun w1 h1 => c49 w1 _ _ _)) (by kernel_rfl) (by kernel_rfl) (by kernel_rfl) rfl ?_
    refine d_q 3 [] rfl (q_call rfl fn_48 rfl (fun w1 h1 => c48 w1 _ _)) (by kernel_rfl) (by kernel_rfl) (by kernel_rfl) rfl ?_
    refine d_p 4 rfl (p_pure rfl) (by kernel_rfl) rfl rfl ?_
    refine d_p 5 rfl (p_fieldAddr rfl rfl fd_26_1 sz_24 rfl) (by kernel_rfl) rfl rfl ?_
    refine d_q 6 [] rfl (q_load rfl rfl sz_24 aPk rfl) (by kernel_rfl) (by kernel_rfl) (by kernel_rfl) rfl ?_
    refine d_p 7 rfl (p_len_slice rfl rfl Try.underlying24) (by kernel_rfl) rfl rfl ?_
    refine d_p 8 rfl (p_max2 rfl rfl rfl ) (by kernel_rfl) rfl rfl ?_
    refine d_p 9 rfl (p_pure rfl) (by kernel_rfl) rfl rfl ?_
    refine d_q 10 [] rfl (q_call rfl fn_48 rfl (fun w1 h1 => c48 w1 _ _)) (by kernel_rfl) (by kernel_rfl) (by kernel_rfl) rfl ?_
    refine d_h 11 rfl (h_buildSlice (cs := [_, _]) rfl rfl sl_146 zr_28 rfl rfl rfl) (by kernel_rfl) (fun w h => h.ent aEt) rfl (fun b4 _ => ?_)
    refine d_base (fun w h => h.ent aEt) ?_
    refine d_q 12 [] rfl (q_call rfl fn_52 rfl (fun w1 h1 => f52 h1 aPk (by rfl) (by rfl) (by decide))) (by kernel_rfl) (by kernel_rfl) (by kernel_rfl) rfl ?_
    refine d_p 13 rfl (p_pure rfl) (by kernel_rfl) rfl rfl ?_
    refine d_nil (by kernel_rfl) (fun w h => h.ent aEt) ?_
    refine s_seq ?_
    refine s_region ?_
    refine o_p (p_pure rfl) rfl ?_
    refine o_p (p_pure rfl) rfl ?_
    refine o_nil ?_
    refine s_cond rfl (fun h5 => ?_) (fun h5 => ?_)
    · try simp only [decide_eq_true_eq, decide_eq_false_iff_not, Bool.not_eq_true', Bool.not_eq_false', Bool.and_eq_true, Bool.or_eq_true, Bool.and_eq_false_iff, Bool.or_eq_false_iff, Bool.not_true, Bool.not_false] at h5
      refine s_seq ?_
      refine s_region ?_
      refine o_p (p_pure rfl) rfl ?_
      refine o_p (p_pure rfl) rfl ?_
      refine o_p (p_pure rfl) rfl ?_
      refine o_nil ?_
      exact s_retv (rs := [.tmp 2, .tmp 3]) rfl (.tmp rfl (.tmp rfl (.nil))) (fun w' h' => ⟨by unfold chkT; have hq := h5; have hf9 := chk_first (next := next) (L := pls L); rw [hpl] at hf9 ⊢; rw [hf9] at hq ⊢; simp only [retV]; grind, h'.below⟩)
    · try simp only [decide_eq_true_eq, decide_eq_false_iff_not, Bool.not_eq_true', Bool.not_eq_false', Bool.and_eq_true, Bool.or_eq_true, Bool.and_eq_false_iff, Bool.or_eq_false_iff, Bool.not_true, Bool.not_false] at h5
      have hc2 : (1 ≤ next ∧ next ≤ 2147483647) ∧ L.length ≤ 32 ∧ cntT (pls L) ≤ 32 := by have hq := h5; have hf9 := chk_first (next := next) (L := pls L); rw [hpl] at hf9; rw [hf9] at hq; grind
      have hm3 : ∀ f ∈ L, f.op.length ≤ 500 := fun f hf => by have h9 := cntT_mem (List.mem_map.2 ⟨f, hf, rfl⟩ : f.pl ∈ pls L); simp only [LFil.pl, List.length_map] at h9; have h8 : cntT (L.map LFil.pl) ≤ 32 := hc2.2.2; omega
      refine s_skip ?_
      refine s_seq ?_
      refine s_region ?_
      refine o_p (p_fieldAddr rfl rfl fd_26_0 sz_3 rfl) rfl ?_
      refine o_q (q_load rfl rfl sz_3 aPk rfl) rfl ?_
      refine o_h (h_makeMap rfl KI) rfl (fun b6 _ => ?_)
      refine o_p (p_build (cs := [_, _]) rfl rfl pl_114 zr_114 rfl) rfl ?_
      refine o_h (h_box rfl rfl) rfl (fun b7 _ => ?_)
      refine o_h (h_alloc rfl zr_111) rfl (fun b8 _ => ?_)
      refine o_h0 (h_store rfl rfl rfl sz_111 rfl aPt (by simp only [setMany_length, List.length_set, List.length_cons, List.length_nil, List.length_map]; omega) rfl) (fun _ _ => ?_)
      refine o_nil ?_
      refine s_seq ?_
      refine s_weaken (L' := [(0, _), (1, _), (2, _), (3, _), (4, _), (8, _), (9, _), (10, _), (11, _), (12, _)]) aSx (fun _ h => h) ?_
      refine s_region ?_
      refine o_p (p_fieldAddr rfl rfl fd_26_1 sz_24 rfl) rfl ?_
      refine o_q (q_load rfl rfl sz_24 aPk rfl) rfl ?_
      refine o_p (p_pure rfl) rfl ?_
      refine o_h (h_callF (Cs := [.mp b6 KI []]) rfl fn_53 rfl aPs (fun w1 h1 hf => d53 w1 b1 b8 b7 b6 next [] a cap L hf ((h1.ent (Bs := [.blk b1 26 2 [.int .i64 next, .slice a L.length cap], .mp b6 KI []]) aEt).rd_beside rfl) ((h1.ent (Bs := [.blk b8 111 1 [.pointer (some ⟨b7, 0, none⟩)], .mp b6 KI []]) aEt).rd_beside rfl) ((h1.ent (Bs := [.blk b7 114 2 [.int .i64 next, .map (some b6)], .mp b6 KI []]) aEt).rd_beside rfl) ((h1.ent (Bs := [.blk b7 114 2 [.int .i64 next, .map (some b6)], .mp b6 KI []]) aEt).rd_beside rfl) (hs.keep (h1.ent (Bs := [.mp b6 KI []]) aEt)) (by omega) hm3 hc2.1 rfl)) rfl (fun gk _ => ?_)
      refine o_p (p_pure rfl) rfl ?_
      refine o_p (p_pure rfl) rfl ?_
      refine o_p (p_pure rfl) rfl ?_
      refine o_p (p_pure rfl) rfl ?_
      refine o_nil ?_
      exact s_retv (rs := [.tmp 2, .tmp 3]) rfl (.tmp rfl (.tmp rfl (.nil))) (fun w' h' => ⟨by unfold chkT; rw [hpl, if_pos hc2.1, if_pos hc2.2]; unfold filEs; rw [hpl]; rfl, h'.below⟩)

end Go.Proofs

namespace Go.Proofs
open Go Go.RowKit Gx
set_option linter.unusedVariables false
set_option linter.unusedSimpArgs false
attribute [local irreducible] Go.Calls Gx.S Gx.O Gx.D Gx.OpP Gx.OpQ Gx.OpH

theorem fd_106_0 : tfd Try.prog 106 0 = some (0, 26) := by kernel_rfl
theorem sz_26 : tsz Try.prog 26 = some (2, true) := by kernel_rfl
theorem ki_175 : tki Try.prog 175 = some .u64 := by kernel_rfl
theorem fn_125 : isFn Try.prog 125 = true := by kernel_rfl


def ixO (l : List Opn) (h : Int) : Nat := ixB (l.map fun o => decide (o.hd = h))
def findF : List Fil → Int → Nat → Nat × Nat × Int
  | [], _, _ => (0, 0, 6)
  | f :: r, h, i => if ixO f.op h < f.op.length then (i, ixO f.op h, 0) else findF r h (i + 1)
theorem findF_drop {L : List Fil} {h : Int} {k : Nat} (hk : k < L.length) : findF (L.drop k) h k = if ixO (nth L k).op h < (nth L k).op.length then (k, ixO (nth L k).op h, 0) else findF (L.drop (k + 1)) h (k + 1) := by
  rw [drop_nth hk, findF]
theorem findF_end {L : List Fil} {h : Int} {k : Nat} (hk : L.length ≤ k) : findF (L.drop k) h k = (0, 0, 6) := by rw [List.drop_of_length_le hk]; rfl
def trV (p : Nat × Nat × Int) : Value := .tuple #[.int .i64 (p.1 : Int), .int .i64 (p.2.1 : Int), .int .i64 p.2.2]
theorem ixO_pl (l : List LOpn) (h : Int) : ixB (l.map fun o => decide (o.hd = h)) = ixO (plo l) h := by
  unfold ixO plo
  rw [List.map_map]
  rfl
def cmps (L : List Fil) (rc sq : Int) : List Int := L.map fun f => cmp2 (f.rc, f.sq) (rc, sq)

set_option maxRecDepth 20000 in
theorem c123 (w : World) (b : Nat) (o : LOpn) (h : Int) (hr : Rd w [] b 0 (.int .i64 h)) : Calls Try.prog 123 #[.agg #[.int .i64 o.hd, .int .i64 o.ac, .int .i64 o.sh, .bool o.dl, .slice o.la o.lk.length o.lc], .pointer (some ⟨b, 0, none⟩)] w fun en w' => en = .returned (.bool (decide (o.hd = h))) ∧ Below w.heap.size w w' := by
  refine enter (args := [_, _]) Try.func123 Try.ntmps123 rfl rfl (HS.refl w []) ?_
  refine s_seq ?_
  refine s_region ?_
  refine o_h (h_box rfl rfl) rfl (fun b1 _ => ?_)
  refine o_p (p_pure rfl) rfl ?_
  refine o_nil ?_
  refine s_seq ?_
  refine s_region ?_
  refine o_p (p_fieldAddr rfl rfl fd_48_0 sz_3 rfl) rfl ?_
  refine o_q (q_load rfl rfl sz_3 aPk rfl) rfl ?_
  refine o_q (q_load_old rfl rfl sz_3 (hr)) rfl ?_
  refine o_p (p_pure rfl) rfl ?_
  refine o_p (p_pure rfl) rfl ?_
  refine o_nil ?_
  exact s_retv (rs := [.tmp 3]) rfl (.tmp rfl (.nil)) (fun w' h' => ⟨rfl, h'.below⟩)

set_option maxRecDepth 20000 in
theorem c100 (w : World) (bt : Nat) (a : Option Addr) (cap : Nat) (L : List LFil) (h : Int) (ht1 : Rd w [] bt 1 (.slice a L.length cap)) (hs : Ft w [] a L) (hm : L.length ≤ 1000) (hmo : ∀ f ∈ L, f.op.length ≤ 1000) : Calls Try.prog 100 #[.pointer (some ⟨bt, 0, none⟩), .int .i64 h] w fun en w' => en = .returned (trV (findF (pls L) h 0)) ∧ Below w.heap.size w w' := by
  have hpl : (pls L).length = L.length := by simp
  refine enter (args := [_, _]) Try.func100 Try.ntmps100 rfl rfl (HS.refl w []) ?_
  refine s_seq ?_
  refine s_region ?_
  refine o_h (h_box rfl rfl) rfl (fun b1 _ => ?_)
  refine o_p (p_pure rfl) rfl ?_
  refine o_p (p_pure rfl) rfl ?_
  refine o_p (p_pure rfl) rfl ?_
  refine o_nil ?_
  refine s_seq ?_
  refine s_seq ?_
  refine s_region ?_
  refine o_p (p_pure rfl) rfl ?_
  refine o_p (p_pure rfl) rfl ?_
  refine o_p (p_fieldAddr rfl rfl fd_106_0 sz_26 rfl) rfl ?_
  refine o_p (p_fieldAddr rfl rfl fd_26_1 sz_24 rfl) rfl ?_
  refine o_q (q_load_old rfl rfl sz_24 (ht1)) rfl ?_
  refine o_p (p_len_slice rfl rfl Try.underlying24) rfl ?_
  refine o_p (p_pure rfl) rfl ?_
  refine o_nil ?_
  refine s_block ?_
  refine s_loopI (α := Nat) [4, 5, 6, 7, 8, 9, 16, 17, 18, 19, 20, 21, 22, 23, 24, 25, 26, 27, 28, 29] (fun k => [(16, .int .i64 (k : Int))]) (fun _ => HS w [] [.blk b1 3 1 [.int .i64 h]]) (fun k => k ≤ L.length ∧ findF (pls L) h 0 = findF ((pls L).drop k) h k) (fun k => L.length - k) 0 ⟨by simp, rfl⟩ aSx (fun w h => h.ent aEt) (fun k hk => ?_)
  obtain ⟨hk1, hk2⟩ := hk
  refine s_seq ?_
  refine s_region ?_
  refine o_p (p_pure rfl) rfl ?_
  refine o_nil ?_
  refine s_seq ?_
  refine s_cond rfl (fun h2 => ?_) (fun h2 => ?_)
  · try simp only [decide_eq_true_eq, decide_eq_false_iff_not, Bool.not_eq_true', Bool.not_eq_false', Bool.and_eq_true, Bool.or_eq_true, Bool.and_eq_false_iff, Bool.or_eq_false_iff, Bool.not_true, Bool.not_false] at h2
    have hkl : k < L.length := by omega
    refine s_skip ?_
    refine s_seq ?_
    refine s_block ?_
    refine s_seq ?_
    refine s_region ?_
    refine o_p (p_pure rfl) rfl ?_
    refine o_p (p_indexAddr rfl rfl rfl sl_24 (k) (by omega) (by omega) (Rw.some hs.1 (by omega))) rfl ?_
    refine o_q (q_load_oldn _ rfl rfl sz_77 rfl (Rw.rd hs.1 (i := k) (by omega))) rfl ?_
    refine o_h (h_alloc rfl zr_77) rfl (fun b3 _ => ?_)
    refine o_p (p_pure rfl) rfl ?_
    refine o_h0 (h_store rfl rfl rfl sz_77 rfl aPt (by simp only [setMany_length, List.length_set, List.length_cons, List.length_nil, List.length_map]; omega) rfl) (fun _ _ => ?_)
    refine o_nil ?_
    refine s_seq ?_
    refine s_region ?_
    refine o_p (p_fieldAddr rfl rfl fd_77_2 sz_75 rfl) rfl ?_
    refine o_q (q_load rfl rfl sz_75 aPk rfl) rfl ?_
    refine o_p (p_pure rfl) rfl ?_
    refine o_q (q_call rfl fn_120 rfl (fun w1 h1 => c120 w1 (nth L k).oa (nth L k).oc (nth L k).op 123 #[.pointer (some ⟨b1, 0, none⟩)] ((nth L k).op.map fun o => decide (o.hd = h)) ((hs.at hkl).1.later h1) (by have := hmo _ (mem_nth hkl); omega) (by kernel_rfl) (by simp) (fun j w2 hj h2 => by rw [map_getD_nthB hj]; exact c123 w2 b1 _ h ((h1.rd_blk (Mc := []) aPk rfl (by simp)).next h2)))) rfl ?_
    refine o_p (p_pure rfl) rfl ?_
    refine o_nil ?_
    refine s_seq ?_
    refine s_region ?_
    refine o_p (p_pure rfl) rfl ?_
    refine o_p (p_pure rfl) rfl ?_
    refine o_nil ?_
    refine s_cond rfl (fun h4 => ?_) (fun h4 => ?_)
    · try simp only [decide_eq_true_eq, decide_eq_false_iff_not, Bool.not_eq_true', Bool.not_eq_false', Bool.and_eq_true, Bool.or_eq_true, Bool.and_eq_false_iff, Bool.or_eq_false_iff, Bool.not_true, Bool.not_false] at h4
      have hix : ixO (nth L k).pl.op h < (nth L k).op.length ∧ ixI ((nth L k).op.map fun o => decide (o.hd = h)) = (ixO (nth L k).pl.op h : Int) := by have hq := h4; unfold ixI at hq ⊢; rw [List.length_map, ixO_pl] at hq ⊢; split at hq <;> first | (rename_i h9; exact ⟨h9, by rw [if_pos h9]; rfl⟩) | omega
      refine s_seq ?_
      refine s_region ?_
      refine o_p (p_pure rfl) rfl ?_
      refine o_p (p_pure rfl) rfl ?_
      refine o_p (p_pure rfl) rfl ?_
      refine o_p (p_pure rfl) rfl ?_
      refine o_p (p_pure rfl) rfl ?_
      refine o_nil ?_
      exact s_retv (rs := [.tmp 4, .tmp 5, .tmp 6]) rfl (.tmp rfl (.tmp rfl (.tmp rfl (.nil)))) (fun w' h' => ⟨by rw [hk2, findF_drop (by omega), nth_pls hkl, if_pos (by simp only [LFil.pl, List.length_map]; exact hix.1), hix.2]; rfl, h'.below⟩)
    · try simp only [decide_eq_true_eq, decide_eq_false_iff_not, Bool.not_eq_true', Bool.not_eq_false', Bool.and_eq_true, Bool.or_eq_true, Bool.and_eq_false_iff, Bool.or_eq_false_iff, Bool.not_true, Bool.not_false] at h4
      have hno : ¬ ixO (nth L k).pl.op h < (nth L k).op.length := by have hq := h4; unfold ixI at hq; rw [List.length_map, ixO_pl] at hq; intro h9; have h8 : ixO (plo (nth L k).op) h < (nth L k).op.length := h9; rw [if_pos h8] at hq; omega
      refine s_skip ?_
      refine s_blk ?_
      refine s_region ?_
      refine o_p (p_pure rfl) rfl ?_
      try (refine o_slot (i64w (by omega) (by omega)) ?_)
      refine o_p (p_pure rfl) rfl ?_
      refine o_nil ?_
      exact s_backI (k + 1) (by omega) ⟨by omega, by rw [hk2, findF_drop (by omega), if_neg (by rw [nth_pls hkl]; simp only [LFil.pl, List.length_map]; exact hno)]⟩ aSx (fun w h => h.ent aEt)
  · try simp only [decide_eq_true_eq, decide_eq_false_iff_not, Bool.not_eq_true', Bool.not_eq_false', Bool.and_eq_true, Bool.or_eq_true, Bool.and_eq_false_iff, Bool.or_eq_false_iff, Bool.not_true, Bool.not_false] at h2
    refine s_exit_to rfl ?_
    refine s_seq ?_
    refine s_region ?_
    refine o_p (p_pure rfl) rfl ?_
    refine o_p (p_pure rfl) rfl ?_
    refine o_p (p_pure rfl) rfl ?_
    refine o_nil ?_
    exact s_retv (rs := [.tmp 4, .tmp 5, .tmp 6]) rfl (.tmp rfl (.tmp rfl (.tmp rfl (.nil)))) (fun w' h' => ⟨by rw [hk2, findF_end (by omega)]; rfl, h'.below⟩)

set_option maxRecDepth 20000 in
theorem c126 (w : World) (f : LFil) (rc sq : Int) : Calls Try.prog 126 #[.agg #[.int .i64 f.rc, .int .i64 f.sq, .bool f.pd, .slice f.oa f.op.length f.oc], .agg #[.int .i64 rc, .int .i64 sq]] w fun en w' => en = .returned (.int .i64 (cmp2 (f.rc, f.sq) (rc, sq))) ∧ Below w.heap.size w w' := by
  refine enter (args := [_, _]) Try.func126 Try.ntmps126 rfl rfl (HS.refl w []) ?_
  refine s_seq ?_
  refine s_region ?_
  refine o_h (h_box rfl rfl) rfl (fun b1 _ => ?_)
  refine o_h (h_box rfl rfl) rfl (fun b2 _ => ?_)
  refine o_p (p_pure rfl) rfl ?_
  refine o_nil ?_
  refine s_seq ?_
  refine s_region ?_
  refine o_p (p_fieldAddr rfl rfl fd_77_0 sz_42 rfl) rfl ?_
  refine o_q (q_loadn rfl rfl sz_42 aPk rfl) rfl ?_
  refine o_q (q_loadn rfl rfl sz_42 aPk rfl) rfl ?_
  refine o_q (q_call rfl fn_56 rfl (fun w1 h1 => c56 w1 _ _ _ _)) rfl ?_
  refine o_p (p_pure rfl) rfl ?_
  refine o_nil ?_
  exact s_retv (rs := [.tmp 4]) rfl (.tmp rfl (.nil)) (fun w' h' => ⟨rfl, h'.below⟩)

set_option maxRecDepth 20000 in
theorem c125 (w : World) (a : Option Addr) (cap : Nat) (l : List LFil) (q : Nat) (cv : Array Value) (cs : List Int) (rc sq : Int) (hs : Rw LFil.vals 4 w [] a l) (hm : l.length ≤ 1000000) (hq : isFn Try.prog q = true) (hb : cs.length = l.length) (hc : ∀ k w1, k < l.length → HS w [] [] w1 → Calls Try.prog q (#[] ++ [.agg (LFil.vals (nth l k)).toArray, .agg #[.int .i64 rc, .int .i64 sq]].toArray ++ cv) w1 fun en w2 => en = .returned (.int .i64 (cs.getD k 0)) ∧ Below w1.heap.size w1 w2) : Calls Try.prog 125 #[.slice a l.length cap, .agg #[.int .i64 rc, .int .i64 sq], .func (.func q) #[] cv] w fun en w' => en = .returned (.tuple #[.int .i64 (bsL cs : Int), .bool (bsF' cs)]) ∧ Below w.heap.size w w' := by
  refine enter (args := [_, _, _]) Try.func125 Try.ntmps125 rfl rfl (HS.refl w []) ?_
  refine s_seq ?_
  refine s_region ?_
  refine o_h (h_box rfl rfl) rfl (fun b1 _ => ?_)
  refine o_p (p_pure rfl) rfl ?_
  refine o_p (p_pure rfl) rfl ?_
  refine o_nil ?_
  refine s_seq ?_
  refine s_region ?_
  refine o_p (p_pure rfl) rfl ?_
  refine o_p (p_len_slice rfl rfl Try.underlying24) rfl ?_
  refine o_p (p_pure rfl) rfl ?_
  refine o_nil ?_
  refine s_seq ?_
  refine s_region ?_
  refine o_p (p_pure rfl) rfl ?_
  refine o_p (p_pure rfl) rfl ?_
  refine o_p (p_pure rfl) rfl ?_
  refine o_nil ?_
  refine s_seq ?_
  refine s_block ?_
  refine s_loopI (α := Nat × Nat × Nat) [9, 10, 11, 15, 16, 17, 18, 19, 20, 21, 22, 23, 24, 25, 26, 27, 28, 29, 30, 31, 32, 33, 34] (fun x => [(9, .int .i64 (x.2.1 : Int)), (10, .int .i64 (x.2.2 : Int))]) (fun _ => HS w [] [.blk b1 42 2 [.int .i64 rc, .int .i64 sq]]) (fun x => x.2.1 ≤ x.2.2 ∧ x.2.2 ≤ l.length ∧ x.2.2 - x.2.1 ≤ x.1 ∧ bsC cs x.1 x.2.1 x.2.2 = bsL cs) (fun x => x.1) (l.length, 0, l.length) ⟨by simp, by simp, by simp, by rw [← hb]; rfl⟩ aSx (fun w h => h.ent aEt) (fun ⟨m, lo, hi⟩ hx => ?_)
  dsimp only
  obtain ⟨hx1, hx2, hx3, hx4⟩ := hx
  simp only [] at hx1 hx2 hx3 hx4
  refine s_seq ?_
  refine s_seq ?_
  refine s_region ?_
  refine o_p (p_pure rfl) rfl ?_
  refine o_p (p_pure rfl) rfl ?_
  refine o_p (p_pure rfl) rfl ?_
  refine o_nil ?_
  refine s_cond rfl (fun h2 => ?_) (fun h2 => ?_)
  · try simp only [decide_eq_true_eq, decide_eq_false_iff_not, Bool.not_eq_true', Bool.not_eq_false', Bool.and_eq_true, Bool.or_eq_true, Bool.and_eq_false_iff, Bool.or_eq_false_iff, Bool.not_true, Bool.not_false] at h2
    refine s_skip ?_
    refine s_block ?_
    refine s_seq ?_
    refine s_region ?_
    refine o_p (p_pure rfl) rfl ?_
    refine o_p (p_pure rfl) rfl ?_
    refine o_p (p_pure rfl) rfl ?_
    try (refine o_slot (i64w (by omega) (by omega)) ?_)
    refine o_p (p_conv_int rfl rfl ki_3 ki_175) rfl ?_
    rw [show IntKind.u64.wrap ((lo : Int) + (hi : Int)) = ((lo + hi : Nat) : Int) from u64w32 _ (by omega)]
    refine o_p (p_shr rfl rfl rfl (by decide) 1 rfl) rfl ?_
    refine o_p (p_conv_int rfl rfl ki_175 ki_3) rfl ?_
    try (refine o_slot (i64w (by omega) (by omega)) ?_)
    refine o_slot (show _ = Value.int .i64 (((lo + hi) / 2 : Nat) : Int) from by congr 1) ?_
    obtain ⟨q2, hq1, hq2⟩ := bsC_step (cs := cs) (show lo < hi by omega) hx3
    refine o_p (p_pure rfl) rfl ?_
    refine o_nil ?_
    refine s_seq ?_
    refine s_draw [] mixed ?_
    refine d_p 0 rfl (p_pure rfl) (by kernel_rfl) rfl rfl ?_
    refine d_p 1 rfl (p_pure rfl) (by kernel_rfl) rfl rfl ?_
    refine d_p 2 rfl (p_pure rfl) (by kernel_rfl) rfl rfl ?_
    refine d_p 3 rfl (p_indexAddr rfl rfl rfl sl_24 ((lo + hi) / 2) (by omega) (by omega) (Rw.some hs (by omega))) (by kernel_rfl) rfl rfl ?_
    refine d_q 4 [] rfl (q_load_oldn _ rfl rfl sz_77 rfl (Rw.rd hs (i := (lo + hi) / 2) (by omega))) (by kernel_rfl) (by kernel_rfl) (by kernel_rfl) rfl ?_
    refine d_q 5 [] rfl (q_loadn rfl rfl sz_42 aPk rfl) (by kernel_rfl) (by kernel_rfl) (by kernel_rfl) rfl ?_
    refine d_q 6 [] rfl (q_callv rfl rfl hq rfl (fun w1 h1 => hc ((lo + hi) / 2) w1 (by omega) (h1.ent aEt))) (by kernel_rfl) (by kernel_rfl) (by kernel_rfl) rfl ?_
    refine d_p 7 rfl (p_pure rfl) (by kernel_rfl) rfl rfl ?_
    refine d_nil (by kernel_rfl) (fun w h => h.ent aEt) ?_
    refine s_cond rfl (fun h3 => ?_) (fun h3 => ?_)
    · try simp only [decide_eq_true_eq, decide_eq_false_iff_not, Bool.not_eq_true', Bool.not_eq_false', Bool.and_eq_true, Bool.or_eq_true, Bool.and_eq_false_iff, Bool.or_eq_false_iff, Bool.not_true, Bool.not_false] at h3
      refine s_weaken (L' := [(0, _), (1, _), (2, _), (4, _), (6, _), (7, _), (8, _), (9, _), (10, _), (11, _), (12, _), (13, _), (14, _)]) aSx (fun _ h => h) ?_
      refine s_region ?_
      refine o_p (p_pure rfl) rfl ?_
      refine o_p (p_pure rfl) rfl ?_
      try (refine o_slot (i64w (by omega) (by omega)) ?_)
      refine o_p (p_pure rfl) rfl ?_
      refine o_nil ?_
      refine s_blk ?_
      exact s_backI (q2, (lo + hi) / 2 + 1, hi) (by (try simp only []); omega) ⟨by (try simp only []); omega, hx2, by (try simp only []); omega, by simp only []; rw [← hx4, hq2, if_pos h3]⟩ (by refine sl_c (congrArg (fun e => some (Value.int .i64 e)) (show (((lo + hi) / 2 : Nat) : Int) + 1 = (((lo + hi) / 2 + 1 : Nat) : Int) by omega)) ?_; repeat (first | exact sl_n | refine sl_c rfl ?_)) (fun w h => h.ent aEt)
    · try simp only [decide_eq_true_eq, decide_eq_false_iff_not, Bool.not_eq_true', Bool.not_eq_false', Bool.and_eq_true, Bool.or_eq_true, Bool.and_eq_false_iff, Bool.or_eq_false_iff, Bool.not_true, Bool.not_false] at h3
      refine s_weaken (L' := [(0, _), (1, _), (2, _), (4, _), (6, _), (7, _), (8, _), (9, _), (10, _), (11, _), (12, _), (13, _), (14, _)]) aSx (fun _ h => h) ?_
      refine s_region ?_
      refine o_p (p_pure rfl) rfl ?_
      refine o_p (p_pure rfl) rfl ?_
      refine o_nil ?_
      refine s_blk ?_
      exact s_backI (q2, lo, (lo + hi) / 2) (by (try simp only []); omega) ⟨by (try simp only []); omega, by (try simp only []); omega, by (try simp only []); omega, by simp only []; rw [← hx4, hq2, if_neg h3]⟩ aSx (fun w h => h.ent aEt)
  · try simp only [decide_eq_true_eq, decide_eq_false_iff_not, Bool.not_eq_true', Bool.not_eq_false', Bool.and_eq_true, Bool.or_eq_true, Bool.and_eq_false_iff, Bool.or_eq_false_iff, Bool.not_true, Bool.not_false] at h2
    refine s_exit_to rfl ?_
    refine s_seq ?_
    refine s_draw [] mixed ?_
    refine d_p 0 rfl (p_pure rfl) (by kernel_rfl) rfl rfl ?_
    have hlo : bsL cs = lo := by rw [← hx4, bsC_end _ _ _ _ (by omega)]
    refine d_p 1 rfl (p_pure rfl) (by kernel_rfl) rfl rfl ?_
    refine d_p 2 rfl (p_pure rfl) (by kernel_rfl) rfl rfl ?_
    refine d_p 3 rfl (p_pure rfl) (by kernel_rfl) rfl rfl ?_
    refine d_p 4 rfl (p_pure rfl) (by kernel_rfl) rfl rfl ?_
    apply d_split 39
    · exact rfl
    · intro hg4
      have hs5 := hg4; try simp only [decide_eq_true_eq, decide_eq_false_iff_not, Bool.not_eq_true', Bool.not_eq_false', Bool.and_eq_true, Bool.or_eq_true, Bool.and_eq_false_iff, Bool.or_eq_false_iff, Bool.not_true, Bool.not_false] at hs5
      refine d_pon 5 39 rfl rfl rfl hg4 (p_pure rfl) (by kernel_rfl) rfl rfl ?_
      refine d_pon 6 39 rfl rfl rfl hg4 (p_pure rfl) (by kernel_rfl) rfl rfl ?_
      refine d_pon 7 39 rfl rfl rfl hg4 (p_pure rfl) (by kernel_rfl) rfl rfl ?_
      refine d_pon 8 39 rfl rfl rfl hg4 (p_indexAddr rfl rfl rfl sl_24 (lo) (by omega) (by omega) (Rw.some hs (by omega))) (by kernel_rfl) rfl rfl ?_
      refine d_qon 9 39 [] rfl rfl rfl hg4 (q_load_oldn _ rfl rfl sz_77 rfl (Rw.rd hs (i := lo) (by omega))) (by kernel_rfl) (by kernel_rfl) (by kernel_rfl) rfl ?_
      refine d_qon 10 39 [] rfl rfl rfl hg4 (q_loadn rfl rfl sz_42 aPk rfl) (by kernel_rfl) (by kernel_rfl) (by kernel_rfl) rfl ?_
      refine d_qon 11 39 [] rfl rfl rfl hg4 (q_callv rfl rfl hq rfl (fun w1 h1 => hc lo w1 (by omega) (h1.ent aEt))) (by kernel_rfl) (by kernel_rfl) (by kernel_rfl) rfl ?_
      refine d_pon 12 39 rfl rfl rfl hg4 (p_pure rfl) (by kernel_rfl) rfl rfl ?_
      refine d_p 13 rfl (p_pickt rfl rfl hg4 rfl) (by kernel_rfl) rfl rfl ?_
      refine d_p 14 rfl (p_pure rfl) (by kernel_rfl) rfl rfl ?_
      refine d_p 15 rfl (p_pure rfl) (by kernel_rfl) rfl rfl ?_
      refine d_nil (by kernel_rfl) (fun w h => h.ent aEt) ?_
      exact s_retv (rs := [.tmp 6, .tmp 7]) rfl (.tmp rfl (.tmp rfl (.nil))) (fun w' h' => ⟨by simp only [retV, bsF', hlo]; first | (have : ¬ lo < cs.length := (by omega); simp [this]; done) | (have : lo < cs.length := (by omega); simp [this]; done), h'.below⟩)
    · intro hg6
      have hs7 := hg6; try simp only [decide_eq_true_eq, decide_eq_false_iff_not, Bool.not_eq_true', Bool.not_eq_false', Bool.and_eq_true, Bool.or_eq_true, Bool.and_eq_false_iff, Bool.or_eq_false_iff, Bool.not_true, Bool.not_false] at hs7
      refine d_off 5 39 rfl rfl rfl hg6 (by kernel_rfl) rfl rfl ?_
      refine d_off 6 39 rfl rfl rfl hg6 (by kernel_rfl) rfl rfl ?_
      refine d_off 7 39 rfl rfl rfl hg6 (by kernel_rfl) rfl rfl ?_
      refine d_off 8 39 rfl rfl rfl hg6 (by kernel_rfl) rfl rfl ?_
      refine d_off 9 39 rfl rfl rfl hg6 (by kernel_rfl) rfl rfl ?_
      refine d_off 10 39 rfl rfl rfl hg6 (by kernel_rfl) rfl rfl ?_
      refine d_off 11 39 rfl rfl rfl hg6 (by kernel_rfl) rfl rfl ?_
      refine d_off 12 39 rfl rfl rfl hg6 (by kernel_rfl) rfl rfl ?_
      refine d_p 13 rfl (p_pickf rfl rfl hg6 rfl) (by kernel_rfl) rfl rfl ?_
      refine d_p 14 rfl (p_pure rfl) (by kernel_rfl) rfl rfl ?_
      refine d_p 15 rfl (p_pure rfl) (by kernel_rfl) rfl rfl ?_
      refine d_nil (by kernel_rfl) (fun w h => h.ent aEt) ?_
      exact s_retv (rs := [.tmp 6, .tmp 7]) rfl (.tmp rfl (.tmp rfl (.nil))) (fun w' h' => ⟨by simp only [retV, bsF', hlo]; first | (have : ¬ lo < cs.length := (by omega); simp [this]; done) | (have : lo < cs.length := (by omega); simp [this]; done), h'.below⟩)

set_option maxRecDepth 20000 in
theorem c114 (w : World) (bt : Nat) (a : Option Addr) (cap : Nat) (L : List LFil) (rc sq : Int) (ht1 : Rd w [] bt 1 (.slice a L.length cap)) (hs : Ft w [] a L) (hm : L.length ≤ 1000) (hmo : ∀ f ∈ L, f.op.length ≤ 1000) : Calls Try.prog 114 #[.pointer (some ⟨bt, 0, none⟩), .agg #[.int .i64 rc, .int .i64 sq]] w fun en w' => en = .returned (.tuple #[.int .i64 (bsL (cmps (pls L) rc sq) : Int), .bool (bsF' (cmps (pls L) rc sq))]) ∧ Below w.heap.size w w' := by
  refine enter (args := [_, _]) Try.func114 Try.ntmps114 rfl rfl (HS.refl w []) ?_
  refine s_seq ?_
  refine s_region ?_
  refine o_h (h_box rfl rfl) rfl (fun b1 _ => ?_)
  refine o_p (p_pure rfl) rfl ?_
  refine o_p (p_pure rfl) rfl ?_
  refine o_nil ?_
  refine s_seq ?_
  refine s_draw [] mixed ?_
  refine d_p 0 rfl (p_pure rfl) (by kernel_rfl) rfl rfl ?_
  refine d_p 1 rfl (p_pure rfl) (by kernel_rfl) rfl rfl ?_
  refine d_p 2 rfl (p_fieldAddr rfl rfl fd_106_0 sz_26 rfl) (by kernel_rfl) rfl rfl ?_
  refine d_p 3 rfl (p_fieldAddr rfl rfl fd_26_1 sz_24 rfl) (by kernel_rfl) rfl rfl ?_
  refine d_q 4 [] rfl (q_load_old rfl rfl sz_24 (ht1)) (by kernel_rfl) (by kernel_rfl) (by kernel_rfl) rfl ?_
  refine d_q 5 [] rfl (q_loadn rfl rfl sz_42 aPk rfl) (by kernel_rfl) (by kernel_rfl) (by kernel_rfl) rfl ?_
  refine d_q 6 [] rfl (q_call rfl fn_125 rfl (fun w1 h1 => c125 w1 a cap L 126 #[] (cmps (pls L) rc sq) rc sq (hs.1.later h1) (by omega) (by kernel_rfl) (by simp [cmps]) (fun j w2 hj h2 => by have e : (cmps (pls L) rc sq).getD j 0 = cmp2 ((nth L j).rc, (nth L j).sq) (rc, sq) := (by unfold cmps pls; rw [List.map_map]; exact map_getD_nth hj); rw [e]; exact c126 w2 _ _ _))) (by kernel_rfl) (by kernel_rfl) (by kernel_rfl) rfl ?_
  refine d_p 7 rfl (p_pure rfl) (by kernel_rfl) rfl rfl ?_
  refine d_p 8 rfl (p_pure rfl) (by kernel_rfl) rfl rfl ?_
  refine d_p 9 rfl (p_pure rfl) (by kernel_rfl) rfl rfl ?_
  refine d_p 10 rfl (p_pure rfl) (by kernel_rfl) rfl rfl ?_
  refine d_nil (by kernel_rfl) (fun w h => h.ent aEt) ?_
  exact s_retv (rs := [.tmp 4, .tmp 5]) rfl (.tmp rfl (.tmp rfl (.nil))) (fun w' h' => ⟨rfl, h'.below⟩)

end Go.Proofs

namespace Go.Proofs
open Go Go.RowKit Gx
set_option linter.unusedVariables false
set_option linter.unusedSimpArgs false
attribute [local irreducible] Go.Calls Gx.S Gx.O Gx.D Gx.OpP Gx.OpQ Gx.OpH

theorem fn_100 : isFn Try.prog 100 = true := by kernel_rfl
theorem fd_77_1 : tfd Try.prog 77 1 = some (2, 4) := by kernel_rfl


theorem and_all : ((List.range 8).all fun n => ((decide (Gx.bits .and .i64 (n : Int) 4 = 0)) == !decide (n / 4 % 2 = 1)) && ((decide (Gx.bits .and .i64 (n : Int) 2 = 0)) == !decide (n / 2 % 2 = 1)) && ((decide (Gx.bits .and .i64 (n : Int) 1 = 0)) == !decide (n / 1 % 2 = 1)) && ((decide (Gx.bits .and .i64 (n : Int) 3 = 0)) == !(decide (n / 1 % 2 = 1) || decide (n / 2 % 2 = 1)))) = true := by decide +kernel
theorem and_8 {x : Int} (hx : 0 ≤ x ∧ x ≤ 7) : decide (Gx.bits .and .i64 x 4 = 0) = !hasB x 4 ∧ decide (Gx.bits .and .i64 x 2 = 0) = !hasB x 2 ∧ decide (Gx.bits .and .i64 x 1 = 0) = !hasB x 1 ∧ decide (Gx.bits .and .i64 x 3 = 0) = !(hasB x 1 || hasB x 2) := by
  have h := and_all
  rw [List.all_eq_true] at h
  have h1 := h x.toNat (List.mem_range.2 (by omega))
  rw [Int.toNat_of_nonneg hx.1] at h1
  simp only [Bool.and_eq_true, beq_iff_eq] at h1
  exact ⟨h1.1.1.1, h1.1.1.2, h1.1.2, h1.2⟩
theorem findF_spec {h : Int} : ∀ {L : List Fil} {j : Nat}, (findF L h j).2.2 = 0 → ∃ i k, findF L h j = (j + i, k, 0) ∧ i < L.length ∧ k < (nth L i).op.length ∧ k = ixO (nth L i).op h
  | [], j, e => by cases e
  | f :: L, j, e => by
    unfold findF at e ⊢
    split
    · rename_i h1
      exact ⟨0, _, rfl, by simp, by simpa [nth] using h1, by simp [nth]⟩
    · rename_i h1
      rw [if_neg h1] at e
      obtain ⟨i, k, h2, h3, h4, h5⟩ := findF_spec e
      exact ⟨i + 1, k, by rw [h2]; congr 1; omega, by simpa using h3, by simpa [nth] using h4, by simpa [nth] using h5⟩
theorem VW.at {L : List LFil} (hV : VW (pls L)) {i k : Nat} (hi : i < L.length) (hk : k < (nth L i).op.length) : openE (nth (nth L i).op k).ac (nth (nth L i).op k).sh = 0 ∧ okL (nth (nth L i).op k).lk ∧ (nth (nth L i).op k).lk.length ≤ 16 :=
  hV.op (nth L i).pl (List.mem_map.2 ⟨_, mem_nth hi, rfl⟩) (nth (nth L i).op k).pl (List.mem_map.2 ⟨_, mem_nth hk, rfl⟩)
theorem VW.lens {L : List LFil} (hV : VW (pls L)) : L.length ≤ 32 ∧ ∀ f ∈ L, f.op.length ≤ 32 := by
  refine ⟨by simpa using hV.len, fun f hf => ?_⟩
  have h9 := cntT_mem (List.mem_map.2 ⟨f, hf, rfl⟩ : f.pl ∈ pls L)
  have h8 : cntT (L.map LFil.pl) ≤ 32 := hV.cnt
  simp only [LFil.pl, List.length_map] at h9
  omega
theorem findF_some {L : List LFil} {h : Int} (hV : VW (pls L)) (e : (findF (pls L) h 0).2.2 = 0) : ∃ i k, findF (pls L) h 0 = (i, k, 0) ∧ i < L.length ∧ k < (nth L i).op.length ∧ openE (nth (nth L i).op k).ac (nth (nth L i).op k).sh = 0 ∧ okL (nth (nth L i).op k).lk ∧ (nth (nth L i).op k).lk.length ≤ 16 := by
  obtain ⟨i, k, h1, h2, h3, _⟩ := findF_spec e
  have hi : i < L.length := by simpa using h2
  rw [nth_pls hi] at h3
  have hk : k < (nth L i).op.length := by simpa [LFil.pl] using h3
  exact ⟨i, k, by rw [h1, Nat.zero_add], hi, hk, VW.at hV hi hk⟩
def updF (L : List Fil) (i : Nat) (u : Fil → Fil) : List Fil := L.set i (u (nth L i))
def updO (L : List Fil) (i k : Nat) (u : Opn → Opn) : List Fil := updF L i fun f => { f with op := f.op.set k (u (nth f.op k)) }
theorem pls_set {L : List LFil} {i : Nat} {f : LFil} : pls (L.set i f) = (pls L).set i f.pl := by simp [pls, List.map_set]
def markT (L : List Fil) (h : Int) (d : Bool) : List Fil × Int :=
  if (findF L h 0).2.2 = 0 then if hasB (nth (nth L (findF L h 0).1).op (findF L h 0).2.1).ac 4 = true then (updF L (findF L h 0).1 fun f => { f with pd := d }, 0) else (L, 27) else (L, (findF L h 0).2.2)
def anyK (f : Fil) (q : Lock) : Bool := f.op.any fun o => o.lk.any (clsh · q)
def lockE (L : List Fil) (i k : Nat) (q : Lock) : Int :=
  if (hasB (nth (nth L i).op k).ac 1 || hasB (nth (nth L i).op k).ac 2) = true then if (nth (nth L i).op k).lk.length < 16 then if anyK (nth L i) q = true then 29 else 0 else 16 else 27
def lockT (L : List Fil) (h : Int) (q : Lock) : List Fil × Int :=
  if (findF L h 0).2.2 = 0 then if rngE q.fr q.cnt = 0 then if lockE L (findF L h 0).1 (findF L h 0).2.1 q = 0 then (updO L (findF L h 0).1 (findF L h 0).2.1 fun o => { o with lk := o.lk ++ [q] }, 0) else (L, lockE L (findF L h 0).1 (findF L h 0).2.1 q) else (L, rngE q.fr q.cnt) else (L, (findF L h 0).2.2)
theorem lockE_first {L : List Fil} {i k : Nat} {q : Lock} : firstV [.int .i64 (bif !!(hasB (nth (nth L i).op k).ac 1 || hasB (nth (nth L i).op k).ac 2) then 0 else 27), .int .i64 (bif decide (((nth (nth L i).op k).lk.length : Int) < 16) then 0 else 16), .int .i64 (bif !anyK (nth L i) q then 0 else 29)] = lockE L i k q := by
  simp only [firstV, lockE, cond_eq_ite, decide_eq_true_eq, Bool.not_not, Bool.not_eq_true']
  grind

set_option maxRecDepth 20000 in
theorem c84 (w : World) (bt : Nat) (next : Int) (a : Option Addr) (cap : Nat) (L : List LFil) (h : Int) (d : Bool) (hw : HS w (fps [.blk bt 106 2 [.int .i64 (next), .slice a (L).length cap], .files a cap (L)]) [.blk bt 106 2 [.int .i64 (next), .slice a (L).length cap], .files a cap (L)] w) (hV : VW (pls L)) : Calls Try.prog 84 #[.pointer (some ⟨bt, 0, none⟩), .int .i64 h, .bool d] w fun en w' => ∃ g : (Option Addr × Nat) × List LFil, en = .returned (.int .i64 (markT (pls L) h d).2) ∧ pls g.2 = (markT (pls L) h d).1 ∧ HS w (fps [.blk bt 106 2 [.int .i64 (next), .slice a (L).length cap], .files a cap (L)]) [.blk bt 106 2 [.int .i64 (next), .slice g.1.1 (g.2).length g.1.2], .files g.1.1 g.1.2 (g.2)] w' := by
  refine enter (args := [_, _, _]) Try.func84 Try.ntmps84 rfl rfl hw ?_
  refine s_seq ?_
  refine s_region ?_
  refine o_p (p_pure rfl) rfl ?_
  refine o_nil ?_
  refine s_seq ?_
  refine s_region ?_
  refine o_p (p_pure rfl) rfl ?_
  refine o_p (p_pure rfl) rfl ?_
  refine o_q (q_call rfl fn_100 rfl (fun w1 h1 => c100 w1 bt _ _ L h (h1.rd_blk (Mc := []) aPk rfl (by simp)) (h1.ft aPk) (by have := (VW.lens hV).1; omega) (fun f hf => by have := (VW.lens hV).2 f hf; omega))) rfl ?_
  refine o_p (p_pure rfl) rfl ?_
  refine o_p (p_pure rfl) rfl ?_
  refine o_p (p_pure rfl) rfl ?_
  refine o_p (p_pure rfl) rfl ?_
  refine o_p (p_pure rfl) rfl ?_
  refine o_p (p_pure rfl) rfl ?_
  refine o_p (p_pure rfl) rfl ?_
  refine o_nil ?_
  refine s_seq ?_
  refine s_seq ?_
  refine s_region ?_
  refine o_p (p_pure rfl) rfl ?_
  refine o_p (p_pure rfl) rfl ?_
  refine o_nil ?_
  refine s_cond rfl (fun h1 => ?_) (fun h1 => ?_)
  · try simp only [decide_eq_true_eq, decide_eq_false_iff_not, Bool.not_eq_true', Bool.not_eq_false', Bool.and_eq_true, Bool.or_eq_true, Bool.and_eq_false_iff, Bool.or_eq_false_iff, Bool.not_true, Bool.not_false] at h1
    refine s_seq ?_
    refine s_region ?_
    refine o_p (p_pure rfl) rfl ?_
    refine o_p (p_pure rfl) rfl ?_
    refine o_nil ?_
    exact s_retv (rs := [.tmp 6]) rfl (.tmp rfl (.nil)) (fun w' h' => ⟨((a, cap), L), by rw [markT, if_neg h1]; rfl, by rw [markT, if_neg h1], h'.ent aEt⟩)
  · try simp only [decide_eq_true_eq, decide_eq_false_iff_not, Bool.not_eq_true', Bool.not_eq_false', Bool.and_eq_true, Bool.or_eq_true, Bool.and_eq_false_iff, Bool.or_eq_false_iff, Bool.not_true, Bool.not_false] at h1
    obtain ⟨i, k, hfe, hi, hk, hV3⟩ := findF_some hV h1
    rw [hfe]
    obtain ⟨ga, rfl, hcap, hcm⟩ := files_addr (by omega) hw (.there .here)
    obtain ⟨go, hoa, hoc, hom⟩ := file_addr hi (by omega) hw (.there .here)
    dsimp only
    refine s_skip ?_
    refine s_seq ?_
    refine s_seq ?_
    refine s_region ?_
    refine o_p (p_pure rfl) rfl ?_
    refine o_p (p_pure rfl) rfl ?_
    refine o_p (p_fieldAddr rfl rfl fd_106_0 sz_26 rfl) rfl ?_
    refine o_p (p_fieldAddr rfl rfl fd_26_1 sz_24 rfl) rfl ?_
    refine o_q (q_load rfl rfl sz_24 aPk rfl) rfl ?_
    refine o_p (p_pure rfl) rfl ?_
    refine o_p (p_indexAddr rfl rfl rfl sl_24 (i) (by omega) (by omega) rfl) rfl ?_
    refine o_p (p_fieldAddr rfl rfl fd_77_2 sz_75 rfl) rfl ?_
    refine o_q (q_load_at rfl rfl sz_75 (fun w h => (HS.ft (a := some ⟨ga, 0, none⟩) (cap := cap) (l := L) h aPk).1.rdj 3 hi rfl)) rfl ?_
    refine o_p (p_pure rfl) rfl ?_
    refine o_p (p_indexAddr rfl rfl rfl sl_75 (k) (by omega) (by omega) hoa) rfl ?_
    refine o_p (p_fieldAddr rfl rfl fd_48_1 sz_3 rfl) rfl ?_
    refine o_q (q_load_at rfl rfl sz_3 (fun w h => by have h9 := ((HS.ft (a := some ⟨ga, 0, none⟩) (cap := cap) (l := L) h aPk).at hi).1.rdj 1 hk rfl; rw [hoa] at h9; exact h9)) rfl ?_
    refine o_p (p_pure rfl) rfl ?_
    refine o_p (p_pure rfl) rfl ?_
    refine o_nil ?_
    refine s_cond rfl (fun h2 => ?_) (fun h2 => ?_)
    · try simp only [decide_eq_true_eq, decide_eq_false_iff_not, Bool.not_eq_true', Bool.not_eq_false', Bool.and_eq_true, Bool.or_eq_true, Bool.and_eq_false_iff, Bool.or_eq_false_iff, Bool.not_true, Bool.not_false] at h2
      have hno : hasB (nth (nth L i).op k).ac 4 = false := by have hq := h2; have h9 := (and_8 (x := (nth (nth L i).op k).ac) (by have := openE_r hV3.1; omega)).1; rw [hq] at h9; simpa using h9.symm
      refine s_seq ?_
      refine s_weaken (L' := [(0, _), (2, _), (6, _), (7, _)]) aSx (fun _ h => h) ?_
      refine s_region ?_
      refine o_p (p_pure rfl) rfl ?_
      refine o_nil ?_
      exact s_retv (rs := [.tmp 6]) rfl (.tmp rfl (.nil)) (fun w' h' => ⟨((some ⟨ga, 0, none⟩, cap), L), by rw [markT, hfe]; simp only [if_true]; rw [nth_pls hi, LFil.pl, nth_plo hk, if_neg (by simp only [LOpn.pl]; rw [hno]; decide)]; rfl, by rw [markT, hfe]; simp only [if_true]; rw [nth_pls hi, LFil.pl, nth_plo hk, if_neg (by simp only [LOpn.pl]; rw [hno]; decide)], h'.ent aEt⟩)
    · try simp only [decide_eq_true_eq, decide_eq_false_iff_not, Bool.not_eq_true', Bool.not_eq_false', Bool.and_eq_true, Bool.or_eq_true, Bool.and_eq_false_iff, Bool.or_eq_false_iff, Bool.not_true, Bool.not_false] at h2
      have hyes : hasB (nth (nth L i).op k).ac 4 = true := by have hq := h2; have h9 := (and_8 (x := (nth (nth L i).op k).ac) (by have := openE_r hV3.1; omega)).1; rw [decide_eq_false hq] at h9; simpa using h9.symm
      refine s_class (fun w h => HS.file_at hi h aPk) ?_
      refine s_skip ?_
      refine s_seq ?_
      refine s_weaken (L' := [(0, _), (2, _), (6, _), (7, _)]) aSx (fun _ h => h) ?_
      refine s_region ?_
      refine o_p (p_pure rfl) rfl ?_
      refine o_p (p_pure rfl) rfl ?_
      refine o_p (p_fieldAddr rfl rfl fd_106_0 sz_26 rfl) rfl ?_
      refine o_p (p_fieldAddr rfl rfl fd_26_1 sz_24 rfl) rfl ?_
      refine o_q (q_load rfl rfl sz_24 aPk rfl) rfl ?_
      refine o_p (p_pure rfl) rfl ?_
      refine o_p (p_pure rfl) rfl ?_
      refine o_p (p_indexAddr rfl rfl rfl sl_24 (i) (by omega) (by omega) rfl) rfl ?_
      refine o_slot (show _ = Value.pointer (some ⟨ga, i * 4, none⟩) from by rw [Nat.zero_add]) ?_
      refine o_p (p_fieldAddr rfl rfl fd_77_1 sz_4 rfl) rfl ?_
      refine o_h0 (h_store rfl rfl rfl sz_4 rfl aPt (by rw [flat_length fv4]; omega) rfl) (fun _ _ => ?_)
      refine o_nil ?_
      refine s_seq ?_
      refine s_region ?_
      refine o_p (p_pure rfl) rfl ?_
      refine o_nil ?_
      exact s_retv (rs := [.tmp 6]) rfl (.tmp rfl (.nil)) (fun w' h' => ⟨((some ⟨ga, 0, none⟩, cap), L.set i { nth L i with pd := d }), by rw [markT, hfe]; simp only [if_true]; rw [nth_pls hi, LFil.pl, nth_plo hk, if_pos (by simp only [LOpn.pl]; exact hyes)]; rfl, by rw [markT, hfe]; simp only [if_true]; rw [nth_pls hi, LFil.pl, nth_plo hk, if_pos (by simp only [LOpn.pl]; exact hyes), pls_set, updF, nth_pls hi]; rfl, by have h2 := HS.file_put (f := { nth L i with pd := d }) hi (h'.ent (Bs := [.blk ga 77 (cap * 4) _, .opens (nth L i).oa (nth L i).oc (nth L i).op, .star ((others L i).map subF), .blk bt 106 2 [.int .i64 next, .slice (some ⟨ga, 0, none⟩) L.length cap]]) aEt) (flat_set fv4 L i 2 [.bool d] (nth L i) _ (nth_get hi) rfl (by simp)) hcap hcm; rw [List.length_set]; exact h2.ent aEt⟩)

end Go.Proofs

namespace Go.Proofs
open Go Go.RowKit Gx
set_option linter.unusedVariables false
set_option linter.unusedSimpArgs false
attribute [local irreducible] Go.Calls Gx.S Gx.O Gx.D Gx.OpP Gx.OpQ Gx.OpH



theorem any_locks (l : List LOpn) (q : Lock) : (l.any fun o => o.lk.any (clsh · q)) = ((plo l).any fun o => o.lk.any (clsh · q)) := by
  unfold plo
  rw [List.any_map]
  rfl
theorem lockE_loc {L : List LFil} {i k : Nat} {q : Lock} (hi : i < L.length) (hk : k < (nth L i).op.length) : firstV [.int .i64 (bif !!(hasB (nth (nth L i).op k).ac 1 || hasB (nth (nth L i).op k).ac 2) then 0 else 27), .int .i64 (bif decide (((nth (nth L i).op k).lk.length : Int) < 16) then 0 else 16), .int .i64 (bif !((nth L i).op.any fun o => o.lk.any (clsh · q)) then 0 else 29)] = lockE (pls L) i k q := by
  rw [← lockE_first, nth_pls hi, LFil.pl, nth_plo hk, anyK, any_locks]
  rfl
theorem lockE_pos {L : List Fil} {i k : Nat} {q : Lock} (h : lockE L i k q = 0) : (nth (nth L i).op k).lk.length < 16 ∧ anyK (nth L i) q = false := by
  unfold lockE at h
  grind
theorem upd_lk {L : List LFil} {i k : Nat} {u : Opn → Opn} {o : LOpn} (hi : i < L.length) (hk : k < (nth L i).op.length) (ho : o.pl = u (nth (nth L i).op k).pl) : pls (L.set i { nth L i with op := (nth L i).op.set k o }) = updO (pls L) i k u := by
  rw [pls_set, updO, updF, nth_pls hi]
  congr 1
  have e : (((nth L i).op.set k o).map LOpn.pl) = ((nth L i).op.map LOpn.pl).set k (u (nth ((nth L i).op.map LOpn.pl) k)) := by
    rw [List.map_set, ho]
    congr 2
    exact (nth_plo hk).symm
  simp only [LFil.pl]
  rw [e]
theorem lockT_e {L : List Fil} {h : Int} {q : Lock} (hn : ¬ firstV [.int .i64 (findF L h 0).2.2, .int .i64 (rngE q.fr q.cnt)] = 0) : lockT L h q = (L, firstV [.int .i64 (findF L h 0).2.2, .int .i64 (rngE q.fr q.cnt)]) := by
  have e : firstV [.int .i64 (findF L h 0).2.2, .int .i64 (rngE q.fr q.cnt)] = if (findF L h 0).2.2 = 0 then rngE q.fr q.cnt else (findF L h 0).2.2 := by
    simp only [firstV]
    grind
  rw [e] at hn ⊢
  unfold lockT
  grind
theorem firstV2 {a b : Int} : firstV [.int .i64 a, .int .i64 b] = if a = 0 then b else a := by
  simp only [firstV]
  grind

set_option maxRecDepth 20000 in
theorem c102 (w : World) (b : Nat) (h k : Lock) (hr : ∀ j v, k.vals[j]? = some v → Rd w [] b (0 + j) v) (ha : rngE h.fr h.cnt = 0) (hb : rngE k.fr k.cnt = 0) : Calls Try.prog 102 #[.agg #[.int .i64 h.fr, .int .i64 h.cnt, .bool h.ex], .pointer (some ⟨b, 0, none⟩)] w fun en w' => en = .returned (.bool (clsh h k)) ∧ Below w.heap.size w w' := by
  refine enter (args := [_, _]) Try.func102 Try.ntmps102 rfl rfl (HS.refl w []) ?_
  refine s_seq ?_
  refine s_region ?_
  refine o_h (h_box rfl rfl) rfl (fun b1 _ => ?_)
  refine o_p (p_pure rfl) rfl ?_
  refine o_nil ?_
  refine s_seq ?_
  refine s_region ?_
  refine o_q (q_loadn rfl rfl sz_62 aPk rfl) rfl ?_
  refine o_q (q_load_oldn _ rfl rfl sz_62 rfl hr) rfl ?_
  refine o_q (q_call rfl fn_103 rfl (fun w1 h1 => c103 w1 h k ha hb)) rfl ?_
  refine o_p (p_pure rfl) rfl ?_
  refine o_nil ?_
  exact s_retv (rs := [.tmp 3]) rfl (.tmp rfl (.nil)) (fun w' h' => ⟨rfl, h'.below⟩)

set_option maxRecDepth 20000 in
theorem c101 (w : World) (b : Nat) (y : LOpn) (k : Lock) (hr : ∀ j v, k.vals[j]? = some v → Rd w [] b (0 + j) v) (hy : Kt w [] y.la y.lk) (ha : okL y.lk) (hm : y.lk.length ≤ 1000) (hb : rngE k.fr k.cnt = 0) : Calls Try.prog 101 #[.agg #[.int .i64 y.hd, .int .i64 y.ac, .int .i64 y.sh, .bool y.dl, .slice y.la y.lk.length y.lc], .pointer (some ⟨b, 0, none⟩)] w fun en w' => en = .returned (.bool (y.lk.any (clsh · k))) ∧ Below w.heap.size w w' := by
  refine enter (args := [_, _]) Try.func101 Try.ntmps101 rfl rfl (HS.refl w []) ?_
  refine s_seq ?_
  refine s_region ?_
  refine o_h (h_box rfl rfl) rfl (fun b1 _ => ?_)
  refine o_p (p_pure rfl) rfl ?_
  refine o_nil ?_
  refine s_seq ?_
  refine s_region ?_
  refine o_p (p_fieldAddr rfl rfl fd_48_4 sz_46 rfl) rfl ?_
  refine o_q (q_load rfl rfl sz_46 aPk rfl) rfl ?_
  refine o_p (p_pure rfl) rfl ?_
  refine o_q (q_call rfl fn_87 rfl (fun w1 h1 => by have h9 := c87 w1 y.la y.lc y.lk 102 #[.pointer (some ⟨b, 0, none⟩)] (y.lk.map (clsh · k)) (hy.later h1) (by omega) (by kernel_rfl) (by simp) (fun j w2 hj h2 => by rw [map_getD_nthB hj]; exact c102 w2 b (nth y.lk j) k (fun q v hv => ((hr q v hv).next h1).next h2) (okL_nth ha hj) hb); rw [any_map_id] at h9; exact h9)) rfl ?_
  refine o_p (p_pure rfl) rfl ?_
  refine o_nil ?_
  exact s_retv (rs := [.tmp 3]) rfl (.tmp rfl (.nil)) (fun w' h' => ⟨rfl, h'.below⟩)

set_option maxRecDepth 20000 in
theorem c67 (w : World) (bt : Nat) (next : Int) (a : Option Addr) (cap : Nat) (L : List LFil) (h : Int) (q : Lock) (hw : HS w (fps [.blk bt 106 2 [.int .i64 (next), .slice a (L).length cap], .files a cap (L)]) [.blk bt 106 2 [.int .i64 (next), .slice a (L).length cap], .files a cap (L)] w) (hV : VW (pls L)) : Calls Try.prog 67 #[.pointer (some ⟨bt, 0, none⟩), .int .i64 h, .agg #[.int .i64 q.fr, .int .i64 q.cnt, .bool q.ex]] w fun en w' => ∃ g : (Option Addr × Nat) × List LFil, en = .returned (.int .i64 (lockT (pls L) h q).2) ∧ pls g.2 = (lockT (pls L) h q).1 ∧ HS w (fps [.blk bt 106 2 [.int .i64 (next), .slice a (L).length cap], .files a cap (L)]) [.blk bt 106 2 [.int .i64 (next), .slice g.1.1 (g.2).length g.1.2], .files g.1.1 g.1.2 (g.2)] w' := by
  refine enter (args := [_, _, _]) Try.func67 Try.ntmps67 rfl rfl hw ?_
  refine s_seq ?_
  refine s_region ?_
  refine o_h (h_box rfl rfl) rfl (fun b1 _ => ?_)
  refine o_p (p_pure rfl) rfl ?_
  refine o_nil ?_
  refine s_seq ?_
  refine s_region ?_
  refine o_p (p_pure rfl) rfl ?_
  refine o_p (p_pure rfl) rfl ?_
  refine o_q (q_call rfl fn_100 rfl (fun w1 h1 => c100 w1 bt _ _ L h (h1.rd_blk (Mc := []) aPk rfl (by simp)) (h1.ft aPk) (by have := (VW.lens hV).1; omega) (fun f hf => by have := (VW.lens hV).2 f hf; omega))) rfl ?_
  refine o_p (p_pure rfl) rfl ?_
  refine o_p (p_pure rfl) rfl ?_
  refine o_p (p_pure rfl) rfl ?_
  refine o_p (p_pure rfl) rfl ?_
  refine o_p (p_pure rfl) rfl ?_
  refine o_p (p_pure rfl) rfl ?_
  refine o_p (p_pure rfl) rfl ?_
  refine o_nil ?_
  refine s_seq ?_
  refine s_seq ?_
  refine s_region ?_
  refine o_p (p_pure rfl) rfl ?_
  refine o_p (p_fieldAddr rfl rfl fd_62_0 sz_3 rfl) rfl ?_
  refine o_q (q_load rfl rfl sz_3 aPk rfl) rfl ?_
  refine o_p (p_fieldAddr rfl rfl fd_62_1 sz_3 rfl) rfl ?_
  refine o_q (q_load rfl rfl sz_3 aPk rfl) rfl ?_
  refine o_q (q_call rfl fn_94 rfl (fun w1 h1 => c94 w1 _ _)) rfl ?_
  refine o_h (h_buildSlice (cs := [_, _]) rfl rfl sl_146 zr_28 rfl rfl rfl) rfl (fun b2 _ => ?_)
  refine o_q (q_call rfl fn_52 rfl (fun w1 h1 => f52 h1 aPk (by rfl) (by rfl) (by decide))) rfl ?_
  refine o_p (p_pure rfl) rfl ?_
  refine o_nil ?_
  refine s_seq ?_
  refine s_region ?_
  refine o_p (p_pure rfl) rfl ?_
  refine o_p (p_pure rfl) rfl ?_
  refine o_nil ?_
  refine s_cond rfl (fun h3 => ?_) (fun h3 => ?_)
  · try simp only [decide_eq_true_eq, decide_eq_false_iff_not, Bool.not_eq_true', Bool.not_eq_false', Bool.and_eq_true, Bool.or_eq_true, Bool.and_eq_false_iff, Bool.or_eq_false_iff, Bool.not_true, Bool.not_false] at h3
    have hq0 := h3
    rw [firstV2] at hq0
    refine s_seq ?_
    refine s_region ?_
    refine o_p (p_pure rfl) rfl ?_
    refine o_p (p_pure rfl) rfl ?_
    refine o_nil ?_
    exact s_retv (rs := [.tmp 6]) rfl (.tmp rfl (.nil)) (fun w' h' => ⟨((a, cap), L), by rw [lockT_e h3]; rfl, by rw [lockT_e h3], h'.ent aEt⟩)
  · try simp only [decide_eq_true_eq, decide_eq_false_iff_not, Bool.not_eq_true', Bool.not_eq_false', Bool.and_eq_true, Bool.or_eq_true, Bool.and_eq_false_iff, Bool.or_eq_false_iff, Bool.not_true, Bool.not_false] at h3
    have hz : (findF (pls L) h 0).2.2 = 0 ∧ rngE q.fr q.cnt = 0 := by have hq := h3; rw [firstV2] at hq; split at hq <;> first | exact ⟨by assumption, hq⟩ | contradiction
    obtain ⟨i, k, hfe, hi, hk, hV3⟩ := findF_some hV hz.1
    rw [hfe]
    obtain ⟨ga, rfl, hcap, hcm⟩ := files_addr (by omega) hw (.there .here)
    obtain ⟨go, hoa, hoc, hom⟩ := file_addr hi (by omega) hw (.there .here)
    dsimp only
    refine s_skip ?_
    refine s_seq ?_
    refine s_region ?_
    refine o_p (p_pure rfl) rfl ?_
    refine o_p (p_pure rfl) rfl ?_
    refine o_p (p_fieldAddr rfl rfl fd_106_0 sz_26 rfl) rfl ?_
    refine o_p (p_fieldAddr rfl rfl fd_26_1 sz_24 rfl) rfl ?_
    refine o_q (q_load rfl rfl sz_24 aPk rfl) rfl ?_
    refine o_p (p_pure rfl) rfl ?_
    refine o_p (p_indexAddr rfl rfl rfl sl_24 (i) (by omega) (by omega) rfl) rfl ?_
    refine o_q (q_load_atn _ rfl rfl sz_77 rfl (fun w h => Rw.rd (HS.ft (a := some ⟨ga, 0, none⟩) (cap := cap) (l := L) h aPk).1 hi)) rfl ?_
    refine o_h (h_alloc rfl zr_77) rfl (fun b4 _ => ?_)
    refine o_h0 (h_store rfl rfl rfl sz_77 rfl aPt (by simp only [setMany_length, List.length_set, List.length_cons, List.length_nil, List.length_map]; omega) rfl) (fun _ _ => ?_)
    refine o_nil ?_
    refine s_seq ?_
    refine s_weaken (L' := [(5, _), (6, _), (8, _), (10, _)]) aSx (fun _ h => h) ?_
    refine s_region ?_
    refine o_p (p_fieldAddr rfl rfl fd_77_2 sz_75 rfl) rfl ?_
    refine o_q (q_load rfl rfl sz_75 aPk rfl) rfl ?_
    refine o_p (p_pure rfl) rfl ?_
    refine o_p (p_indexAddr rfl rfl rfl sl_75 (k) (by omega) (by omega) hoa) rfl ?_
    refine o_p (p_pure rfl) rfl ?_
    refine o_nil ?_
    refine s_seq ?_
    refine s_region ?_
    refine o_p (p_fieldAddr rfl rfl fd_77_2 sz_75 rfl) rfl ?_
    refine o_q (q_load rfl rfl sz_75 aPk rfl) rfl ?_
    refine o_p (p_pure rfl) rfl ?_
    refine o_q (q_call rfl fn_95 rfl (fun w1 h1 => by have hot := (HS.ft (a := some ⟨ga, 0, none⟩) (cap := cap) (l := L) h1 aPk).at hi; have h9 := c95 w1 _ (nth L i).oc (nth L i).op 101 #[.pointer (some ⟨b1, 0, none⟩)] ((nth L i).op.map fun o => o.lk.any (clsh · q)) hot.1 (by have := (VW.lens hV).2 _ (mem_nth hi); omega) (by kernel_rfl) (by simp) (fun j w2 hj h2 => by rw [map_getD_nthB hj]; exact c101 w2 b1 _ q (fun p v hv => by rw [Nat.zero_add]; exact (h1.rd_blk (Mc := []) aPk hv (by simp)).next h2) ((hot.at hj).later h2) (VW.at hV hi hj).2.1 (by have := (VW.at hV hi hj).2.2; omega) hz.2); rw [any_map_id] at h9; exact h9)) rfl ?_
    refine o_p (p_pure rfl) rfl ?_
    refine o_nil ?_
    refine s_seq ?_
    refine s_seq ?_
    refine s_draw [] mixed ?_
    refine d_p 0 rfl (p_pure rfl) (by kernel_rfl) rfl rfl ?_
    refine d_p 1 rfl (p_pure rfl) (by kernel_rfl) rfl rfl ?_
    refine d_p 2 rfl (p_fieldAddr rfl rfl fd_48_1 sz_3 rfl) (by kernel_rfl) rfl rfl ?_
    refine d_q 3 [] rfl (q_load_at rfl rfl sz_3 (fun w h => by have h9 := ((HS.ft (a := some ⟨ga, 0, none⟩) (cap := cap) (l := L) h aPk).at hi).1.rdj 1 hk rfl; rw [hoa] at h9; exact h9)) (by kernel_rfl) (by kernel_rfl) (by kernel_rfl) rfl ?_
    refine d_p 4 rfl (p_pure rfl) (by kernel_rfl) rfl rfl ?_
    refine d_p 5 rfl (p_pure rfl) (by kernel_rfl) rfl rfl ?_
    refine d_slot (show _ = Value.bool (!!(hasB (nth (nth L i).op k).ac 1 || hasB (nth (nth L i).op k).ac 2)) from by rw [(and_8 (x := (nth (nth L i).op k).ac) (by have := openE_r hV3.1; omega)).2.2.2]) ?_
    refine d_q 6 [] rfl (q_call rfl fn_48 rfl (fun w1 h1 => c48 w1 _ _)) (by kernel_rfl) (by kernel_rfl) (by kernel_rfl) rfl ?_
    refine d_p 7 rfl (p_pure rfl) (by kernel_rfl) rfl rfl ?_
    refine d_p 8 rfl (p_pure rfl) (by kernel_rfl) rfl rfl ?_
    refine d_p 9 rfl (p_fieldAddr rfl rfl fd_48_4 sz_46 rfl) (by kernel_rfl) rfl rfl ?_
    refine d_q 10 [] rfl (q_load_at rfl rfl sz_46 (fun w h => by have h9 := ((HS.ft (a := some ⟨ga, 0, none⟩) (cap := cap) (l := L) h aPk).at hi).1.rdj 4 hk rfl; rw [hoa] at h9; exact h9)) (by kernel_rfl) (by kernel_rfl) (by kernel_rfl) rfl ?_
    refine d_p 11 rfl (p_len_slice rfl rfl Try.underlying46) (by kernel_rfl) rfl rfl ?_
    refine d_p 12 rfl (p_pure rfl) (by kernel_rfl) rfl rfl ?_
    refine d_q 13 [] rfl (q_call rfl fn_48 rfl (fun w1 h1 => c48 w1 _ _)) (by kernel_rfl) (by kernel_rfl) (by kernel_rfl) rfl ?_
    refine d_p 14 rfl (p_pure rfl) (by kernel_rfl) rfl rfl ?_
    refine d_p 15 rfl (p_pure rfl) (by kernel_rfl) rfl rfl ?_
    refine d_q 16 [] rfl (q_call rfl fn_48 rfl (fun w1 h1 => c48 w1 _ _)) (by kernel_rfl) (by kernel_rfl) (by kernel_rfl) rfl ?_
    refine d_h 17 rfl (h_buildSlice (cs := [_, _, _]) rfl rfl sl_146 zr_28 rfl rfl rfl) (by kernel_rfl) (fun w h => h.ent aEt) rfl (fun b5 _ => ?_)
    refine d_base (fun w h => h.ent aEt) ?_
    refine d_q 18 [] rfl (q_call rfl fn_52 rfl (fun w1 h1 => f52 h1 aPk (by rfl) (by rfl) (by decide))) (by kernel_rfl) (by kernel_rfl) (by kernel_rfl) rfl ?_
    refine d_p 19 rfl (p_pure rfl) (by kernel_rfl) rfl rfl ?_
    refine d_nil (by kernel_rfl) (fun w h => h.ent aEt) ?_
    refine s_seq ?_
    refine s_weaken (L' := [(5, _), (6, _), (11, _), (13, _)]) aSx (fun _ h => h) ?_
    refine s_region ?_
    refine o_p (p_pure rfl) rfl ?_
    refine o_p (p_pure rfl) rfl ?_
    refine o_nil ?_
    refine s_cond rfl (fun h6 => ?_) (fun h6 => ?_)
    · try simp only [decide_eq_true_eq, decide_eq_false_iff_not, Bool.not_eq_true', Bool.not_eq_false', Bool.and_eq_true, Bool.or_eq_true, Bool.and_eq_false_iff, Bool.or_eq_false_iff, Bool.not_true, Bool.not_false] at h6
      have hle : ¬ lockE (pls L) i k q = 0 := by rw [← lockE_loc hi hk]; exact h6
      refine s_seq ?_
      refine s_region ?_
      refine o_p (p_pure rfl) rfl ?_
      refine o_p (p_pure rfl) rfl ?_
      refine o_nil ?_
      exact s_retv (rs := [.tmp 6]) rfl (.tmp rfl (.nil)) (fun w' h' => ⟨((some ⟨ga, 0, none⟩, cap), L), by rw [lockT, hfe]; simp only [if_true]; rw [if_pos hz.2, if_neg hle, ← lockE_loc hi hk]; rfl, by rw [lockT, hfe]; simp only [if_true]; rw [if_pos hz.2, if_neg hle], h'.ent aEt⟩)
    · try simp only [decide_eq_true_eq, decide_eq_false_iff_not, Bool.not_eq_true', Bool.not_eq_false', Bool.and_eq_true, Bool.or_eq_true, Bool.and_eq_false_iff, Bool.or_eq_false_iff, Bool.not_true, Bool.not_false] at h6
      have hle : lockE (pls L) i k q = 0 := by rw [← lockE_loc hi hk]; exact h6
      have hlp := lockE_pos hle
      have hl16 : (nth (nth L i).op k).lk.length ≤ 16 := hV3.2.2
      refine s_class (fun w h => HS.lock_at hi hk hoa h aPk) ?_
      refine s_skip ?_
      refine s_seq ?_
      refine s_draw [7, 10] mixed ?_
      refine d_p 0 rfl (p_pure rfl) (by kernel_rfl) rfl rfl ?_
      refine d_p 1 rfl (p_pure rfl) (by kernel_rfl) rfl rfl ?_
      refine d_p 2 rfl (p_pure rfl) (by kernel_rfl) rfl rfl ?_
      refine d_p 3 rfl (p_fieldAddr rfl rfl fd_48_4 sz_46 rfl) (by kernel_rfl) rfl rfl ?_
      refine d_slot (show _ = Value.pointer (some ⟨go, k * 5 + 4, none⟩) from by rw [Nat.zero_add]) ?_
      refine d_q 4 [[], []] rfl (q_load_at rfl rfl sz_46 (fun w h => (h.rd_blk (Mc := []) (b := go) aPk (by rw [flat_get ov5 _ k 4 _ (nth_get hk) (by decide)]; rfl) (by simp)))) (by kernel_rfl) (by kernel_rfl) (by kernel_rfl) rfl ?_
      refine d_q 5 [[6], []] rfl (q_loadn rfl rfl sz_62 aPk rfl) (by kernel_rfl) (by kernel_rfl) (by kernel_rfl) rfl ?_
      refine d_h 6 rfl (h_buildSlice (cs := [_, _, _]) rfl rfl sl_46 zr_62 rfl rfl rfl) (by kernel_rfl) (fun w h => h.ent aEt) rfl (fun b7 _ => ?_)
      refine d_base (fun w h => h.ent aEt) ?_
      refine d_h 7 rfl (h_appendS (n := (nth (nth L i).op k).lk.length) q.vals rfl rfl rfl sl_46 Try.underlying46 zr_62 rfl aPk (src_blk aPk) rfl (lv1 q) (by omega) (by simp only [maxLen]; omega)) (by kernel_rfl) (fun w h => h.ent aEt) rfl (fun b8 _ => ?_)
      refine d_turn [10] (by kernel_rfl) ?_
      refine d_p 8 rfl (p_pure rfl) (by kernel_rfl) rfl rfl ?_
      refine d_p 9 rfl (p_fieldAddr rfl rfl fd_48_4 sz_46 rfl) (by kernel_rfl) rfl rfl ?_
      refine d_slot (show _ = Value.pointer (some ⟨go, k * 5 + 4, none⟩) from by rw [Nat.zero_add]) ?_
      refine d_h0 10 rfl (h_store rfl rfl rfl sz_46 rfl aPt (by rw [flat_length ov5]; omega) rfl) (by kernel_rfl) (fun w h => h.ent aEt) (fun _ _ => ?_)
      refine d_turn [] (by kernel_rfl) ?_
      refine d_nil (by kernel_rfl) (fun w h => h.ent aEt) ?_
      refine s_seq ?_
      refine s_region ?_
      refine o_p (p_pure rfl) rfl ?_
      refine o_nil ?_
      exact s_retv (rs := [.tmp 6]) rfl (.tmp rfl (.nil)) (fun w' h' => ⟨((some ⟨ga, 0, none⟩, cap), L.set i { nth L i with op := (nth L i).op.set k { (nth (nth L i).op k) with la := b8.1, lc := b8.2, lk := (nth (nth L i).op k).lk ++ [q] } }), by rw [lockT, hfe]; simp only [if_true]; rw [if_pos hz.2, if_pos hle]; rfl, by rw [lockT, hfe]; simp only [if_true]; rw [if_pos hz.2, if_pos hle]; exact upd_lk (o := { (nth (nth L i).op k) with la := b8.1, lc := b8.2, lk := (nth (nth L i).op k).lk ++ [q] }) (u := fun o => { o with lk := o.lk ++ [q] }) hi hk rfl, by have h2 := HS.lock_put (o := { (nth (nth L i).op k) with la := b8.1, lc := b8.2, lk := (nth (nth L i).op k).lk ++ [q] }) hi hk hoa (h'.ent (Bs := [.blk go 48 ((nth L i).oc * 5) _, .own (.slice b8.1 ((nth (nth L i).op k).lk.length + 1) b8.2) 62 3 ((nth (nth L i).op k).lk.length + 1) ((nth (nth L i).op k).lk.flatMap Lock.vals ++ q.vals), .star ((others (nth L i).op k).map subO), .blk ga 77 (cap * 4) (L.flatMap LFil.vals), .star ((others L i).map subF), .blk bt 106 2 [.int .i64 next, .slice (some ⟨ga, 0, none⟩) L.length cap]]) aEt |> fun hh => by simpa [HA.locks, List.flatMap_append] using hh) (flat_set ov5 (nth L i).op k 4 [.slice b8.1 ((nth (nth L i).op k).lk.length + 1) b8.2] (nth (nth L i).op k) _ (nth_get hk) (by simp [LOpn.vals, setMany]) (by simp)) hoc hom hcap hcm; rw [List.length_set]; exact h2.ent aEt⟩)

end Go.Proofs

