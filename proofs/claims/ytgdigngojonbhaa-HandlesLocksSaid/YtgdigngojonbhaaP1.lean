/- Contracts of the program's functions, proved by walking them with the rules of the Gx texts; without conditions beyond those that each contract names. -/
import Derived.WalkKit
import Derived.Deep.Draws
import Derived.Lib.Strings
import Derived.Laws.BytesArg
import Derived.Laws.IdiomStrings
import Derived.Deep.Quiet
import Derived.Laws.StructEq
import Derived.ChangeKeysEq
import Derived.Laws.Externs
import Derived.Lib.Overlaps
import Derived.Carry
import Derived.Test.YtgdigngojonbhaaProg
import Derived.KernelRfl
import Derived.Laws.Small
import Derived.ProofKit
import Derived.OpenShut
import Derived.Test.YtgdigngojonbhaaP0
namespace Go.Proofs
open Go Go.RowKit Gx
set_option linter.unusedVariables false
set_option linter.unusedSimpArgs false
attribute [local irreducible] Go.Calls Gx.S Gx.O Gx.D Gx.OpP Gx.OpQ Gx.OpH

theorem sl_46 : tsl Try.prog 46 = some (62, 3, 24) := by kernel_rfl
theorem sl_75 : tsl Try.prog 75 = some (48, 5, 56) := by kernel_rfl
theorem sl_24 : tsl Try.prog 24 = some (77, 4, 48) := by kernel_rfl
theorem sl_146 : tsl Try.prog 146 = some (28, 1, 8) := by kernel_rfl
theorem sz_28 : tsz Try.prog 28 = some (1, false) := by kernel_rfl
theorem sz_62 : tsz Try.prog 62 = some (3, true) := by kernel_rfl
theorem zr_62 : tzero Try.prog 62 = some [.int .i64 0, .int .i64 0, .bool false] := by kernel_rfl
theorem fn_105 : isFn Try.prog 105 = true := by kernel_rfl
theorem sz_48 : tsz Try.prog 48 = some (5, true) := by kernel_rfl
theorem zr_48 : tzero Try.prog 48 = some [.int .i64 0, .int .i64 0, .int .i64 0, .bool false, .slice none 0 0] := by kernel_rfl
theorem fn_120 : isFn Try.prog 120 = true := by kernel_rfl
theorem zr_77 : tzero Try.prog 77 = some [.int .i64 0, .int .i64 0, .bool false, .slice none 0 0] := by kernel_rfl


set_option maxRecDepth 20000 in
theorem c49 (w : World) (n lo hi : Int) : Calls Try.prog 49 #[.int .i64 n, .int .i64 lo, .int .i64 hi] w fun en w' => en = .returned (.bool (decide (lo ≤ n) && decide (n ≤ hi))) ∧ Below w.heap.size w w' := by
  refine enter (args := [_, _, _]) Try.func49 Try.ntmps49 rfl rfl (HS.refl w []) ?_
  refine s_seq ?_
  refine s_region ?_
  refine o_p (p_pure rfl) rfl ?_
  refine o_nil ?_
  refine s_seq ?_
  refine s_region ?_
  refine o_p (p_pure rfl) rfl ?_
  refine o_p (p_pure rfl) rfl ?_
  refine o_p (p_pure rfl) rfl ?_
  refine o_p (p_pure rfl) rfl ?_
  refine o_and 4 10 14 _ _ rfl
    (by
      intro hg1
      have hs2 := hg1; try simp only [decide_eq_true_eq, decide_eq_false_iff_not, Bool.not_eq_true', Bool.not_eq_false', Bool.and_eq_true, Bool.or_eq_true, Bool.and_eq_false_iff, Bool.or_eq_false_iff, Bool.not_true, Bool.not_false] at hs2
      refine o_on 10 _ rfl rfl hg1 ?_
      refine o_p (p_pure rfl) rfl ?_
      refine o_on 10 _ rfl rfl hg1 ?_
      refine o_p (p_pure rfl) rfl ?_
      refine o_on 10 _ rfl rfl hg1 ?_
      refine o_p (p_pure rfl) rfl ?_
      refine o_p (p_pickt rfl rfl hg1 rfl) rfl ?_
      refine o_nil ?_
      exact s_joinN 4 14 _ rfl rfl rfl (fun w h => by first | exact h | exact h.ent (by repeat (first | exact .nil | refine .cons (by repeat (first | exact .here | apply Pick.there)) ?_))))
    (by
      intro hg3
      have hs4 := hg3; try simp only [decide_eq_true_eq, decide_eq_false_iff_not, Bool.not_eq_true', Bool.not_eq_false', Bool.and_eq_true, Bool.or_eq_true, Bool.and_eq_false_iff, Bool.or_eq_false_iff, Bool.not_true, Bool.not_false] at hs4
      refine o_off 10 _ rfl rfl hg3 rfl ?_
      refine o_off 10 _ rfl rfl hg3 rfl ?_
      refine o_off 10 _ rfl rfl hg3 rfl ?_
      refine o_p (p_pickf rfl rfl hg3 rfl) rfl ?_
      refine o_nil ?_
      exact s_joinN 4 14 _ rfl rfl rfl (fun w h => by first | exact h | exact h.ent (by repeat (first | exact .nil | refine .cons (by repeat (first | exact .here | apply Pick.there)) ?_)))) ?_
  refine o_p (p_pure rfl) rfl ?_
  refine o_nil ?_
  exact s_retv (rs := [.tmp 6]) rfl (.tmp rfl (.nil)) (fun w' h' => ⟨rfl, h'.below⟩)

set_option maxRecDepth 20000 in
theorem c16 (w : World) (n lo hi : Int) : Calls Try.prog 16 #[.int .i64 n, .int .i64 lo, .int .i64 hi] w fun en w' => en = .returned (.bool (decide (lo ≤ n) && decide (n ≤ hi))) ∧ Below w.heap.size w w' := by
  refine enter (args := [_, _, _]) Try.func16 Try.ntmps16 rfl rfl (HS.refl w []) ?_
  refine s_seq ?_
  refine s_region ?_
  refine o_p (p_pure rfl) rfl ?_
  refine o_nil ?_
  refine s_seq ?_
  refine s_region ?_
  refine o_p (p_pure rfl) rfl ?_
  refine o_p (p_pure rfl) rfl ?_
  refine o_p (p_pure rfl) rfl ?_
  refine o_p (p_pure rfl) rfl ?_
  refine o_and 4 10 14 _ _ rfl
    (by
      intro hg1
      have hs2 := hg1; try simp only [decide_eq_true_eq, decide_eq_false_iff_not, Bool.not_eq_true', Bool.not_eq_false', Bool.and_eq_true, Bool.or_eq_true, Bool.and_eq_false_iff, Bool.or_eq_false_iff, Bool.not_true, Bool.not_false] at hs2
      refine o_on 10 _ rfl rfl hg1 ?_
      refine o_p (p_pure rfl) rfl ?_
      refine o_on 10 _ rfl rfl hg1 ?_
      refine o_p (p_pure rfl) rfl ?_
      refine o_on 10 _ rfl rfl hg1 ?_
      refine o_p (p_pure rfl) rfl ?_
      refine o_p (p_pickt rfl rfl hg1 rfl) rfl ?_
      refine o_nil ?_
      exact s_joinN 4 14 _ rfl rfl rfl (fun w h => by first | exact h | exact h.ent (by repeat (first | exact .nil | refine .cons (by repeat (first | exact .here | apply Pick.there)) ?_))))
    (by
      intro hg3
      have hs4 := hg3; try simp only [decide_eq_true_eq, decide_eq_false_iff_not, Bool.not_eq_true', Bool.not_eq_false', Bool.and_eq_true, Bool.or_eq_true, Bool.and_eq_false_iff, Bool.or_eq_false_iff, Bool.not_true, Bool.not_false] at hs4
      refine o_off 10 _ rfl rfl hg3 rfl ?_
      refine o_off 10 _ rfl rfl hg3 rfl ?_
      refine o_off 10 _ rfl rfl hg3 rfl ?_
      refine o_p (p_pickf rfl rfl hg3 rfl) rfl ?_
      refine o_nil ?_
      exact s_joinN 4 14 _ rfl rfl rfl (fun w h => by first | exact h | exact h.ent (by repeat (first | exact .nil | refine .cons (by repeat (first | exact .here | apply Pick.there)) ?_)))) ?_
  refine o_p (p_pure rfl) rfl ?_
  refine o_nil ?_
  exact s_retv (rs := [.tmp 6]) rfl (.tmp rfl (.nil)) (fun w' h' => ⟨rfl, h'.below⟩)

set_option maxRecDepth 20000 in
theorem c48 (w : World) (ok : Bool) (e : Int) : Calls Try.prog 48 #[.bool ok, .int .i64 e] w fun en w' => en = .returned (.int .i64 (cond ok 0 e)) ∧ Below w.heap.size w w' := by
  refine enter (args := [_, _]) Try.func48 Try.ntmps48 rfl rfl (HS.refl w []) ?_
  refine s_seq ?_
  refine s_region ?_
  refine o_p (p_pure rfl) rfl ?_
  refine o_nil ?_
  refine s_seq ?_
  refine s_seq ?_
  refine s_region ?_
  refine o_p (p_pure rfl) rfl ?_
  refine o_nil ?_
  refine s_cond rfl (fun h1 => ?_) (fun h1 => ?_)
  · try simp only [decide_eq_true_eq, decide_eq_false_iff_not, Bool.not_eq_true', Bool.not_eq_false', Bool.and_eq_true, Bool.or_eq_true, Bool.and_eq_false_iff, Bool.or_eq_false_iff, Bool.not_true, Bool.not_false] at h1
    refine s_seq ?_
    refine s_region ?_
    refine o_p (p_pure rfl) rfl ?_
    refine o_nil ?_
    exact s_retv (rs := [.tmp 4]) rfl (.tmp rfl (.nil)) (fun w' h' => ⟨by simp_all [retV], h'.below⟩)
  · try simp only [decide_eq_true_eq, decide_eq_false_iff_not, Bool.not_eq_true', Bool.not_eq_false', Bool.and_eq_true, Bool.or_eq_true, Bool.and_eq_false_iff, Bool.or_eq_false_iff, Bool.not_true, Bool.not_false] at h1
    refine s_skip ?_
    refine s_seq ?_
    refine s_region ?_
    refine o_p (p_pure rfl) rfl ?_
    refine o_p (p_pure rfl) rfl ?_
    refine o_nil ?_
    exact s_retv (rs := [.tmp 4]) rfl (.tmp rfl (.nil)) (fun w' h' => ⟨by simp_all [retV], h'.below⟩)

set_option maxRecDepth 20000 in
theorem c52 (w : World) (a : Option Addr) (cap : Nat) (es : List Int) (hs : Sl w [] a 1 es.length (fun i => [.int .i64 (es.getD i 0)])) (hm : es.length ≤ 1000) : Calls Try.prog 52 #[.slice a es.length cap] w fun en w' => en = .returned (.int .i64 (firstI es)) ∧ Below w.heap.size w w' := by
  refine enter (args := [_]) Try.func52 Try.ntmps52 rfl rfl (HS.refl w []) ?_
  refine s_seq ?_
  refine s_region ?_
  refine o_p (p_pure rfl) rfl ?_
  refine o_nil ?_
  refine s_seq ?_
  refine s_seq ?_
  refine s_region ?_
  refine o_p (p_pure rfl) rfl ?_
  first | refine o_p (p_len_slice rfl rfl Try.underlying146) rfl ?_ | refine o_q (q_len_own rfl rfl Try.underlying146 (by repeat (first | exact .here | apply Pick.there))) rfl ?_
  refine o_p (p_pure rfl) rfl ?_
  refine o_nil ?_
  refine s_block ?_
  refine s_loopI (α := Nat) [2, 4, 7, 8, 9, 10, 11, 12, 13, 14] (fun k => [(7, .int .i64 (k : Int))]) (fun _ => _) (fun k => k ≤ es.length ∧ firstI es = firstI (es.drop k)) (fun k => es.length - k) 0 ⟨by omega, rfl⟩ (by repeat (first | exact sl_n | refine sl_c rfl ?_)) (fun w h => h) (fun k hk => ?_)
  obtain ⟨hk1, hk2⟩ := hk
  refine s_seq ?_
  refine s_region ?_
  refine o_p (p_pure rfl) rfl ?_
  refine o_nil ?_
  refine s_seq ?_
  refine s_cond rfl (fun h1 => ?_) (fun h1 => ?_)
  · try simp only [decide_eq_true_eq, decide_eq_false_iff_not, Bool.not_eq_true', Bool.not_eq_false', Bool.and_eq_true, Bool.or_eq_true, Bool.and_eq_false_iff, Bool.or_eq_false_iff, Bool.not_true, Bool.not_false] at h1
    refine s_skip ?_
    refine s_seq ?_
    refine s_block ?_
    refine s_seq ?_
    refine s_region ?_
    first | refine o_p (p_indexAddr rfl rfl rfl sl_146 _ rfl (by omega) rfl) rfl ?_ | refine o_p (p_indexAddr rfl rfl rfl sl_146 (Int.toNat _) (Int.toNat_of_nonneg (by omega)).symm (by omega) rfl) rfl ?_ | refine o_p (p_indexAddr rfl rfl rfl sl_146 _ rfl (by omega) (hs.some (by omega))) rfl ?_ | refine o_p (p_indexAddr rfl rfl rfl sl_146 (Int.toNat _) (Int.toNat_of_nonneg (by omega)).symm (by omega) (hs.some (by omega))) rfl ?_
    first | refine o_q (q_load rfl rfl sz_28 (by repeat (first | exact .here | apply Pick.there)) rfl) rfl ?_ | refine o_q (q_load_old rfl rfl sz_28 (hs.rd (i := k) (j := 0) (by omega) rfl)) rfl ?_
    refine o_p (p_pure rfl) rfl ?_
    refine o_nil ?_
    refine s_seq ?_
    refine s_region ?_
    refine o_p (p_pure rfl) rfl ?_
    refine o_p (p_pure rfl) rfl ?_
    refine o_nil ?_
    refine s_cond rfl (fun h2 => ?_) (fun h2 => ?_)
    · try simp only [decide_eq_true_eq, decide_eq_false_iff_not, Bool.not_eq_true', Bool.not_eq_false', Bool.and_eq_true, Bool.or_eq_true, Bool.and_eq_false_iff, Bool.or_eq_false_iff, Bool.not_true, Bool.not_false] at h2
      refine s_seq ?_
      refine s_region ?_
      refine o_p (p_pure rfl) rfl ?_
      refine o_p (p_pure rfl) rfl ?_
      refine o_nil ?_
      exact s_retv (rs := [.tmp 2]) rfl (.tmp rfl (.nil)) (fun w' h' => ⟨by simp only [retV]; rw [hk2, firstI_drop (by omega), if_neg (by assumption)], h'.below⟩)
    · try simp only [decide_eq_true_eq, decide_eq_false_iff_not, Bool.not_eq_true', Bool.not_eq_false', Bool.and_eq_true, Bool.or_eq_true, Bool.and_eq_false_iff, Bool.or_eq_false_iff, Bool.not_true, Bool.not_false] at h2
      refine s_skip ?_
      refine s_blk ?_
      refine s_region ?_
      refine o_p (p_pure rfl) rfl ?_
      try (refine o_slot (i64w (by omega) (by omega)) ?_)
      refine o_p (p_pure rfl) rfl ?_
      refine o_nil ?_
      exact s_backI (k+1) (by omega) ⟨by omega, by rw [hk2, firstI_drop (by omega), if_pos (by assumption)]⟩ (by repeat (first | exact sl_n | refine sl_c rfl ?_)) (fun w h => h)
  · try simp only [decide_eq_true_eq, decide_eq_false_iff_not, Bool.not_eq_true', Bool.not_eq_false', Bool.and_eq_true, Bool.or_eq_true, Bool.and_eq_false_iff, Bool.or_eq_false_iff, Bool.not_true, Bool.not_false] at h1
    refine s_exit_to rfl ?_
    refine s_seq ?_
    refine s_region ?_
    refine o_p (p_pure rfl) rfl ?_
    refine o_nil ?_
    exact s_retv (rs := [.tmp 2]) rfl (.tmp rfl (.nil)) (fun w' h' => ⟨by simp only [retV]; rw [hk2, firstI_end (by omega)], h'.below⟩)

theorem f52 {w0 w : World} {M : List Nat} {As As' : List HA} {b cap n : Nat} {t : TypeId} {tot : Nat} {cs : List Value} (h : HS w0 M As w) (hp : Pick As (.blk b t tot cs) As') (hc : cs.all isI64 = true) (hn : cs.length = n) (hl : n ≤ 1000) :
    Calls Try.prog 52 #[.slice (some ⟨b, 0, none⟩) n cap] w fun en w' => en = .returned (.int .i64 (firstV cs)) ∧ Below w.heap.size w w' := by
  subst hn
  have := c52 w (some ⟨b, 0, none⟩) cap (cs.map intOf) (by simpa using h.sl_ints hp hc) (by simpa using hl)
  rw [firstV_eq hc] at this
  simpa using this

set_option maxRecDepth 20000 in
theorem c92 (w : World) (a : Option Addr) (cap : Nat) (l : List Lock) (q : Nat) (cv : Array Value) (es : List Int) (hs : Rw Lock.vals 3 w [] a l) (hm : l.length ≤ 1000000) (hq : isFn Try.prog q = true) (he : es.length = l.length) (hc : ∀ k w1, k < l.length → (∀ j, j < k → es.getD j 0 = 0) → HS w [] [] w1 → Calls Try.prog q (#[] ++ [.int .i64 (k : Int), .agg (Lock.vals (nth l k)).toArray].toArray ++ cv) w1 fun en w2 => en = .returned (.int .i64 (es.getD k 0)) ∧ Below w1.heap.size w1 w2) : Calls Try.prog 92 #[.slice a l.length cap, .func (.func q) #[] cv] w fun en w' => en = .returned (.tuple #[.int .i64 (eachF es 0).1, .int .i64 (eachF es 0).2]) ∧ Below w.heap.size w w' := by
  refine enter (args := [_, _]) Try.func92 Try.ntmps92 rfl rfl (HS.refl w []) ?_
  refine s_seq ?_
  refine s_region ?_
  refine o_p (p_pure rfl) rfl ?_
  refine o_p (p_pure rfl) rfl ?_
  refine o_nil ?_
  refine s_seq ?_
  refine s_seq ?_
  refine s_region ?_
  refine o_p (p_pure rfl) rfl ?_
  first | refine o_p (p_len_slice rfl rfl Try.underlying46) rfl ?_ | refine o_q (q_len_own rfl rfl Try.underlying46 (by repeat (first | exact .here | apply Pick.there))) rfl ?_
  refine o_p (p_pure rfl) rfl ?_
  refine o_nil ?_
  refine s_block ?_
  refine s_loopI (α := Nat) [4, 5, 6, 7, 8, 11, 12, 13, 14, 15, 16, 17, 18, 19, 20, 21, 22, 23, 24] (fun k => [(11, .int .i64 (k : Int))]) (fun _ => HS w [] []) (fun k => k ≤ l.length ∧ eachF es 0 = eachF (es.drop k) k ∧ ∀ j, j < k → es.getD j 0 = 0) (fun k => l.length - k) 0 ⟨by omega, rfl, fun i h => absurd h (Nat.not_lt_zero i)⟩ (by repeat (first | exact sl_n | refine sl_c rfl ?_)) (fun w h => h.ent (by repeat (first | exact .nil | refine .cons (by repeat (first | exact .here | apply Pick.there)) ?_))) (fun k hk => ?_)
  obtain ⟨hk1, hk2, hk3⟩ := hk
  refine s_seq ?_
  refine s_region ?_
  refine o_p (p_pure rfl) rfl ?_
  refine o_nil ?_
  refine s_seq ?_
  refine s_cond rfl (fun h1 => ?_) (fun h1 => ?_)
  · try simp only [decide_eq_true_eq, decide_eq_false_iff_not, Bool.not_eq_true', Bool.not_eq_false', Bool.and_eq_true, Bool.or_eq_true, Bool.and_eq_false_iff, Bool.or_eq_false_iff, Bool.not_true, Bool.not_false] at h1
    refine s_skip ?_
    refine s_seq ?_
    refine s_block ?_
    refine s_seq ?_
    refine s_region ?_
    refine o_p (p_pure rfl) rfl ?_
    first | refine o_p (p_indexAddr rfl rfl rfl sl_46 (k) (by omega) (by omega) rfl) rfl ?_ | refine o_p (p_indexAddr rfl rfl rfl sl_46 (k) (by omega) (by omega) (Rw.some hs (by omega))) rfl ?_
    first | refine o_q (q_loadn rfl rfl sz_62 (by repeat (first | exact .here | apply Pick.there)) rfl) rfl ?_ | refine o_q (q_load_oldn _ rfl rfl sz_62 rfl (Rw.rd hs (by omega))) rfl ?_ | refine o_q (q_load_oldn _ rfl rfl sz_62 (hs.rdj 0 (by omega) rfl)) rfl ?_
    refine o_h (h_alloc rfl zr_62) rfl (fun b2 _ => ?_)
    refine o_p (p_pure rfl) rfl ?_
    refine o_h0 (h_store rfl rfl rfl sz_62 rfl (by repeat (first | exact .here | apply Put.there)) (by simp only [setMany_length, List.length_set, List.length_cons, List.length_nil, List.length_map]; omega) rfl) (fun _ _ => ?_)
    refine o_nil ?_
    refine s_seq ?_
    refine s_region ?_
    refine o_p (p_pure rfl) rfl ?_
    refine o_p (p_pure rfl) rfl ?_
    first | refine o_q (q_loadn rfl rfl sz_62 (by repeat (first | exact .here | apply Pick.there)) rfl) rfl ?_ | refine o_q (q_load_oldn _ rfl rfl sz_62 rfl (Rw.rd hs (by omega))) rfl ?_ | refine o_q (q_load_oldn _ rfl rfl sz_62 (hs.rdj 0 (by omega) rfl)) rfl ?_
    refine o_q (q_callv rfl rfl hq rfl (fun w1 h1 => hc k w1 (by omega) hk3 (h1.ent (by repeat (first | exact .nil | refine .cons (by repeat (first | exact .here | apply Pick.there)) ?_))))) rfl ?_
    refine o_p (p_pure rfl) rfl ?_
    refine o_nil ?_
    refine s_seq ?_
    refine s_region ?_
    refine o_p (p_pure rfl) rfl ?_
    refine o_p (p_pure rfl) rfl ?_
    refine o_nil ?_
    refine s_cond rfl (fun h3 => ?_) (fun h3 => ?_)
    · try simp only [decide_eq_true_eq, decide_eq_false_iff_not, Bool.not_eq_true', Bool.not_eq_false', Bool.and_eq_true, Bool.or_eq_true, Bool.and_eq_false_iff, Bool.or_eq_false_iff, Bool.not_true, Bool.not_false] at h3
      refine s_seq ?_
      refine s_region ?_
      refine o_p (p_pure rfl) rfl ?_
      refine o_p (p_pure rfl) rfl ?_
      refine o_p (p_pure rfl) rfl ?_
      refine o_p (p_pure rfl) rfl ?_
      refine o_nil ?_
      exact s_retv (rs := [.tmp 4, .tmp 5]) rfl (.tmp rfl (.tmp rfl (.nil))) (fun w' h' => ⟨by simp only [retV]; rw [hk2, eachF_drop (by omega), if_neg (by assumption)], h'.below⟩)
    · try simp only [decide_eq_true_eq, decide_eq_false_iff_not, Bool.not_eq_true', Bool.not_eq_false', Bool.and_eq_true, Bool.or_eq_true, Bool.and_eq_false_iff, Bool.or_eq_false_iff, Bool.not_true, Bool.not_false] at h3
      refine s_skip ?_
      refine s_blk ?_
      refine s_region ?_
      refine o_p (p_pure rfl) rfl ?_
      try (refine o_slot (i64w (by omega) (by omega)) ?_)
      refine o_p (p_pure rfl) rfl ?_
      refine o_nil ?_
      exact s_backI (k+1) (by omega) ⟨by omega, by rw [hk2, eachF_drop (by omega), if_pos (by assumption)], fun j hj => (Nat.lt_or_ge j k).elim (hk3 j) (fun h => by obtain rfl : j = k := (by omega); assumption)⟩ (by repeat (first | exact sl_n | refine sl_c rfl ?_)) (fun w h => h.ent (by repeat (first | exact .nil | refine .cons (by repeat (first | exact .here | apply Pick.there)) ?_)))
  · try simp only [decide_eq_true_eq, decide_eq_false_iff_not, Bool.not_eq_true', Bool.not_eq_false', Bool.and_eq_true, Bool.or_eq_true, Bool.and_eq_false_iff, Bool.or_eq_false_iff, Bool.not_true, Bool.not_false] at h1
    refine s_exit_to rfl ?_
    refine s_seq ?_
    refine s_region ?_
    refine o_p (p_pure rfl) rfl ?_
    refine o_p (p_pure rfl) rfl ?_
    refine o_nil ?_
    exact s_retv (rs := [.tmp 4, .tmp 5]) rfl (.tmp rfl (.tmp rfl (.nil))) (fun w' h' => ⟨by simp only [retV]; rw [hk2, eachF_end (by omega)], h'.below⟩)

set_option maxRecDepth 20000 in
theorem c105 (w : World) (a : Option Addr) (cap : Nat) (l : List Lock) (q : Nat) (cv : Array Value) (bt : List Bool) (hs : Rw Lock.vals 3 w [] a l) (hm : l.length ≤ 1000000) (hq : isFn Try.prog q = true) (hb : bt.length = l.length) (hc : ∀ k w1, k < l.length → HS w [] [] w1 → Calls Try.prog q (#[] ++ [.agg (Lock.vals (nth l k)).toArray].toArray ++ cv) w1 fun en w2 => en = .returned (.bool (bt.getD k false)) ∧ Below w1.heap.size w1 w2) : Calls Try.prog 105 #[.slice a l.length cap, .func (.func q) #[] cv] w fun en w' => en = .returned (.int .i64 (ixI bt)) ∧ Below w.heap.size w w' := by
  refine enter (args := [_, _]) Try.func105 Try.ntmps105 rfl rfl (HS.refl w []) ?_
  refine s_seq ?_
  refine s_region ?_
  refine o_p (p_pure rfl) rfl ?_
  refine o_nil ?_
  refine s_seq ?_
  refine s_seq ?_
  refine s_region ?_
  refine o_p (p_pure rfl) rfl ?_
  first | refine o_p (p_len_slice rfl rfl Try.underlying46) rfl ?_ | refine o_q (q_len_own rfl rfl Try.underlying46 (by repeat (first | exact .here | apply Pick.there))) rfl ?_
  refine o_p (p_pure rfl) rfl ?_
  refine o_nil ?_
  refine s_block ?_
  refine s_loopI (α := Nat) [4, 5, 8, 9, 10, 11, 12, 13, 14, 15, 16, 17, 18] (fun k => [(8, .int .i64 (k : Int))]) (fun _ => _) (fun k => k ≤ l.length ∧ ∀ i, i < k → bt.getD i false = false) (fun k => l.length - k) 0 ⟨by omega, fun i h => absurd h (Nat.not_lt_zero i)⟩ (by repeat (first | exact sl_n | refine sl_c rfl ?_)) (fun w h => h) (fun k hk => ?_)
  obtain ⟨hk1, hk2⟩ := hk
  refine s_seq ?_
  refine s_region ?_
  refine o_p (p_pure rfl) rfl ?_
  refine o_nil ?_
  refine s_seq ?_
  refine s_cond rfl (fun h1 => ?_) (fun h1 => ?_)
  · try simp only [decide_eq_true_eq, decide_eq_false_iff_not, Bool.not_eq_true', Bool.not_eq_false', Bool.and_eq_true, Bool.or_eq_true, Bool.and_eq_false_iff, Bool.or_eq_false_iff, Bool.not_true, Bool.not_false] at h1
    refine s_skip ?_
    refine s_seq ?_
    refine s_block ?_
    refine s_seq ?_
    refine s_region ?_
    refine o_p (p_pure rfl) rfl ?_
    refine o_p (p_pure rfl) rfl ?_
    refine o_nil ?_
    refine s_seq ?_
    refine s_region ?_
    refine o_p (p_pure rfl) rfl ?_
    refine o_p (p_pure rfl) rfl ?_
    refine o_p (p_pure rfl) rfl ?_
    first | refine o_p (p_indexAddr rfl rfl rfl sl_46 (k) (by omega) (by omega) rfl) rfl ?_ | refine o_p (p_indexAddr rfl rfl rfl sl_46 (k) (by omega) (by omega) (Rw.some hs (by omega))) rfl ?_
    first | refine o_q (q_loadn rfl rfl sz_62 (by repeat (first | exact .here | apply Pick.there)) rfl) rfl ?_ | refine o_q (q_load_oldn _ rfl rfl sz_62 rfl (Rw.rd hs (by omega))) rfl ?_ | refine o_q (q_load_oldn _ rfl rfl sz_62 (hs.rdj 0 (by omega) rfl)) rfl ?_
    refine o_q (q_callv rfl rfl hq rfl (fun w1 h1 => hc k w1 (by omega) (h1.ent (by repeat (first | exact .nil | refine .cons (by repeat (first | exact .here | apply Pick.there)) ?_))))) rfl ?_
    refine o_nil ?_
    refine s_cond rfl (fun h2 => ?_) (fun h2 => ?_)
    · try simp only [decide_eq_true_eq, decide_eq_false_iff_not, Bool.not_eq_true', Bool.not_eq_false', Bool.and_eq_true, Bool.or_eq_true, Bool.and_eq_false_iff, Bool.or_eq_false_iff, Bool.not_true, Bool.not_false] at h2
      refine s_seq ?_
      refine s_region ?_
      refine o_p (p_pure rfl) rfl ?_
      refine o_p (p_pure rfl) rfl ?_
      refine o_nil ?_
      exact s_retv (rs := [.tmp 4]) rfl (.tmp rfl (.nil)) (fun w' h' => ⟨by have e := ixB_eq (l := bt) (k := k) (by omega) hk2 (fun _ => by assumption); simp only [retV, ixI, e]; rw [if_pos (by omega)], h'.below⟩)
    · try simp only [decide_eq_true_eq, decide_eq_false_iff_not, Bool.not_eq_true', Bool.not_eq_false', Bool.and_eq_true, Bool.or_eq_true, Bool.and_eq_false_iff, Bool.or_eq_false_iff, Bool.not_true, Bool.not_false] at h2
      refine s_skip ?_
      refine s_blk ?_
      refine s_region ?_
      refine o_p (p_pure rfl) rfl ?_
      try (refine o_slot (i64w (by omega) (by omega)) ?_)
      refine o_p (p_pure rfl) rfl ?_
      refine o_nil ?_
      exact s_backI (k+1) (by omega) ⟨by omega, fun i hi => (Nat.lt_or_ge i k).elim (hk2 i) (fun h => by obtain rfl : i = k := (by omega); assumption)⟩ (by repeat (first | exact sl_n | refine sl_c rfl ?_)) (fun w h => h)
  · try simp only [decide_eq_true_eq, decide_eq_false_iff_not, Bool.not_eq_true', Bool.not_eq_false', Bool.and_eq_true, Bool.or_eq_true, Bool.and_eq_false_iff, Bool.or_eq_false_iff, Bool.not_true, Bool.not_false] at h1
    refine s_exit_to rfl ?_
    refine s_seq ?_
    refine s_region ?_
    refine o_p (p_pure rfl) rfl ?_
    refine o_nil ?_
    exact s_retv (rs := [.tmp 4]) rfl (.tmp rfl (.nil)) (fun w' h' => ⟨by have e := ixB_eq (l := bt) (k := k) (by omega) hk2 (fun h => by omega); simp only [retV, ixI, e]; rw [if_neg (by omega)], h'.below⟩)

set_option maxRecDepth 20000 in
theorem c87 (w : World) (a : Option Addr) (cap : Nat) (l : List Lock) (q : Nat) (cv : Array Value) (bt : List Bool) (hs : Rw Lock.vals 3 w [] a l) (hm : l.length ≤ 1000000) (hq : isFn Try.prog q = true) (hb : bt.length = l.length) (hc : ∀ k w1, k < l.length → HS w [] [] w1 → Calls Try.prog q (#[] ++ [.agg (Lock.vals (nth l k)).toArray].toArray ++ cv) w1 fun en w2 => en = .returned (.bool (bt.getD k false)) ∧ Below w1.heap.size w1 w2) : Calls Try.prog 87 #[.slice a l.length cap, .func (.func q) #[] cv] w fun en w' => en = .returned (.bool (bt.any id)) ∧ Below w.heap.size w w' := by
  refine enter (args := [_, _]) Try.func87 Try.ntmps87 rfl rfl (HS.refl w []) ?_
  refine s_seq ?_
  refine s_region ?_
  refine o_p (p_pure rfl) rfl ?_
  refine o_nil ?_
  refine s_seq ?_
  refine s_region ?_
  refine o_p (p_pure rfl) rfl ?_
  refine o_p (p_pure rfl) rfl ?_
  refine o_q (q_call rfl fn_105 rfl (fun w1 h1 => c105 w1 a cap l q cv bt (hs.later h1) hm hq hb (fun k w2 hk h2 => hc k w2 hk (by simpa using h1.call h2)))) rfl ?_
  refine o_p (p_pure rfl) rfl ?_
  refine o_p (p_pure rfl) rfl ?_
  refine o_nil ?_
  exact s_retv (rs := [.tmp 4]) rfl (.tmp rfl (.nil)) (fun w' h' => ⟨by simp only [retV]; rw [← ixI_any], h'.below⟩)

set_option maxRecDepth 20000 in
theorem c113 (w : World) (a : Option Addr) (cap : Nat) (l : List Lock) (hs : Rw Lock.vals 3 w [] a l) (hm : l.length ≤ 1000000) : Calls Try.prog 113 #[.slice a l.length cap] w fun en w' => ∃ g : Option Addr × Nat, en = .returned (.slice g.1 l.length g.2) ∧ True ∧ HS w [] [.own (.slice g.1 l.length g.2) 62 3 l.length (l.flatMap Lock.vals)] w' := by
  refine enter (args := [_]) Try.func113 Try.ntmps113 rfl rfl (HS.refl w []) ?_
  refine s_seq ?_
  refine s_region ?_
  refine o_p (p_pure rfl) rfl ?_
  refine o_nil ?_
  refine s_seq ?_
  refine s_seq ?_
  refine s_region ?_
  refine o_p (p_pure rfl) rfl ?_
  refine o_p (p_slice_nil_eql rfl rfl rfl Try.underlying46) rfl ?_
  refine o_nil ?_
  refine s_cond rfl (fun h1 => ?_) (fun h1 => ?_)
  · try simp only [decide_eq_true_eq, decide_eq_false_iff_not, Bool.not_eq_true', Bool.not_eq_false', Bool.and_eq_true, Bool.or_eq_true, Bool.and_eq_false_iff, Bool.or_eq_false_iff, Bool.not_true, Bool.not_false] at h1
    have ha0 : a = none := by cases a with | none => rfl | some b => simp at h1
    subst ha0
    have hl0 : l = [] := Rw.none hs
    refine s_seq ?_
    refine s_region ?_
    refine o_p (p_pure rfl) rfl ?_
    refine o_nil ?_
    exact s_retv (rs := [.tmp 2]) rfl (.tmp rfl (.nil)) (fun w' h' => ⟨(none, 0), by rw [hl0]; rfl, trivial, by rw [hl0]; exact (h'.own_nil 62 3).ent (by repeat (first | exact .nil | refine .cons (by repeat (first | exact .here | apply Pick.there)) ?_))⟩)
  · try simp only [decide_eq_true_eq, decide_eq_false_iff_not, Bool.not_eq_true', Bool.not_eq_false', Bool.and_eq_true, Bool.or_eq_true, Bool.and_eq_false_iff, Bool.or_eq_false_iff, Bool.not_true, Bool.not_false] at h1
    refine s_skip ?_
    refine s_seq ?_
    refine s_region ?_
    refine o_h (h_buildSlice0 rfl sl_46) rfl (fun b2 _ => ?_)
    refine o_p (p_pure rfl) rfl ?_
    refine o_h (h_appendS (l.flatMap Lock.vals) rfl rfl rfl sl_46 Try.underlying46 zr_62 rfl (by repeat (first | exact .here | apply Pick.there)) (fun w h => Rw.src lv3 hs h) (flat_length lv3 l) (flat_one lv1 l) (by omega) (by simp only [maxLen]; omega)) rfl (fun b3 _ => ?_)
    refine o_p (p_pure rfl) rfl ?_
    refine o_nil ?_
    exact s_retv (rs := [.tmp 2]) rfl (.tmp rfl (.nil)) (fun w' h' => ⟨b3, by simp only [retV, Nat.zero_add], trivial, by have h2 := h'; simp only [Nat.zero_add, List.nil_append] at h2; exact h2.ent (by repeat (first | exact .nil | refine .cons (by repeat (first | exact .here | apply Pick.there)) ?_))⟩)

set_option maxRecDepth 20000 in
theorem c57 (w : World) (a : Option Addr) (cap : Nat) (l : List LOpn) (q : Nat) (cv : Array Value) (es : List Int) (hs : Rw LOpn.vals 5 w [] a l) (hm : l.length ≤ 1000000) (hq : isFn Try.prog q = true) (he : es.length = l.length) (hc : ∀ k w1, k < l.length → (∀ j, j < k → es.getD j 0 = 0) → HS w [] [] w1 → Calls Try.prog q (#[] ++ [.int .i64 (k : Int), .agg (LOpn.vals (nth l k)).toArray].toArray ++ cv) w1 fun en w2 => en = .returned (.int .i64 (es.getD k 0)) ∧ Below w1.heap.size w1 w2) : Calls Try.prog 57 #[.slice a l.length cap, .func (.func q) #[] cv] w fun en w' => en = .returned (.tuple #[.int .i64 (eachF es 0).1, .int .i64 (eachF es 0).2]) ∧ Below w.heap.size w w' := by
  refine enter (args := [_, _]) Try.func57 Try.ntmps57 rfl rfl (HS.refl w []) ?_
  refine s_seq ?_
  refine s_region ?_
  refine o_p (p_pure rfl) rfl ?_
  refine o_p (p_pure rfl) rfl ?_
  refine o_nil ?_
  refine s_seq ?_
  refine s_seq ?_
  refine s_region ?_
  refine o_p (p_pure rfl) rfl ?_
  first | refine o_p (p_len_slice rfl rfl Try.underlying75) rfl ?_ | refine o_q (q_len_own rfl rfl Try.underlying75 (by repeat (first | exact .here | apply Pick.there))) rfl ?_
  refine o_p (p_pure rfl) rfl ?_
  refine o_nil ?_
  refine s_block ?_
  refine s_loopI (α := Nat) [4, 5, 6, 7, 8, 11, 12, 13, 14, 15, 16, 17, 18, 19, 20, 21, 22, 23, 24] (fun k => [(11, .int .i64 (k : Int))]) (fun _ => HS w [] []) (fun k => k ≤ l.length ∧ eachF es 0 = eachF (es.drop k) k ∧ ∀ j, j < k → es.getD j 0 = 0) (fun k => l.length - k) 0 ⟨by omega, rfl, fun i h => absurd h (Nat.not_lt_zero i)⟩ (by repeat (first | exact sl_n | refine sl_c rfl ?_)) (fun w h => h.ent (by repeat (first | exact .nil | refine .cons (by repeat (first | exact .here | apply Pick.there)) ?_))) (fun k hk => ?_)
  obtain ⟨hk1, hk2, hk3⟩ := hk
  refine s_seq ?_
  refine s_region ?_
  refine o_p (p_pure rfl) rfl ?_
  refine o_nil ?_
  refine s_seq ?_
  refine s_cond rfl (fun h1 => ?_) (fun h1 => ?_)
  · try simp only [decide_eq_true_eq, decide_eq_false_iff_not, Bool.not_eq_true', Bool.not_eq_false', Bool.and_eq_true, Bool.or_eq_true, Bool.and_eq_false_iff, Bool.or_eq_false_iff, Bool.not_true, Bool.not_false] at h1
    refine s_skip ?_
    refine s_seq ?_
    refine s_block ?_
    refine s_seq ?_
    refine s_region ?_
    refine o_p (p_pure rfl) rfl ?_
    first | refine o_p (p_indexAddr rfl rfl rfl sl_75 (k) (by omega) (by omega) rfl) rfl ?_ | refine o_p (p_indexAddr rfl rfl rfl sl_75 (k) (by omega) (by omega) (Rw.some hs (by omega))) rfl ?_
    first | refine o_q (q_loadn rfl rfl sz_48 (by repeat (first | exact .here | apply Pick.there)) rfl) rfl ?_ | refine o_q (q_load_oldn _ rfl rfl sz_48 rfl (Rw.rd hs (by omega))) rfl ?_ | refine o_q (q_load_oldn _ rfl rfl sz_48 (hs.rdj 0 (by omega) rfl)) rfl ?_
    refine o_h (h_alloc rfl zr_48) rfl (fun b2 _ => ?_)
    refine o_p (p_pure rfl) rfl ?_
    refine o_h0 (h_store rfl rfl rfl sz_48 rfl (by repeat (first | exact .here | apply Put.there)) (by simp only [setMany_length, List.length_set, List.length_cons, List.length_nil, List.length_map]; omega) rfl) (fun _ _ => ?_)
    refine o_nil ?_
    refine s_seq ?_
    refine s_region ?_
    refine o_p (p_pure rfl) rfl ?_
    refine o_p (p_pure rfl) rfl ?_
    first | refine o_q (q_loadn rfl rfl sz_48 (by repeat (first | exact .here | apply Pick.there)) rfl) rfl ?_ | refine o_q (q_load_oldn _ rfl rfl sz_48 rfl (Rw.rd hs (by omega))) rfl ?_ | refine o_q (q_load_oldn _ rfl rfl sz_48 (hs.rdj 0 (by omega) rfl)) rfl ?_
    refine o_q (q_callv rfl rfl hq rfl (fun w1 h1 => hc k w1 (by omega) hk3 (h1.ent (by repeat (first | exact .nil | refine .cons (by repeat (first | exact .here | apply Pick.there)) ?_))))) rfl ?_
    refine o_p (p_pure rfl) rfl ?_
    refine o_nil ?_
    refine s_seq ?_
    refine s_region ?_
    refine o_p (p_pure rfl) rfl ?_
    refine o_p (p_pure rfl) rfl ?_
    refine o_nil ?_
    refine s_cond rfl (fun h3 => ?_) (fun h3 => ?_)
    · try simp only [decide_eq_true_eq, decide_eq_false_iff_not, Bool.not_eq_true', Bool.not_eq_false', Bool.and_eq_true, Bool.or_eq_true, Bool.and_eq_false_iff, Bool.or_eq_false_iff, Bool.not_true, Bool.not_false] at h3
      refine s_seq ?_
      refine s_region ?_
      refine o_p (p_pure rfl) rfl ?_
      refine o_p (p_pure rfl) rfl ?_
      refine o_p (p_pure rfl) rfl ?_
      refine o_p (p_pure rfl) rfl ?_
      refine o_nil ?_
      exact s_retv (rs := [.tmp 4, .tmp 5]) rfl (.tmp rfl (.tmp rfl (.nil))) (fun w' h' => ⟨by simp only [retV]; rw [hk2, eachF_drop (by omega), if_neg (by assumption)], h'.below⟩)
    · try simp only [decide_eq_true_eq, decide_eq_false_iff_not, Bool.not_eq_true', Bool.not_eq_false', Bool.and_eq_true, Bool.or_eq_true, Bool.and_eq_false_iff, Bool.or_eq_false_iff, Bool.not_true, Bool.not_false] at h3
      refine s_skip ?_
      refine s_blk ?_
      refine s_region ?_
      refine o_p (p_pure rfl) rfl ?_
      try (refine o_slot (i64w (by omega) (by omega)) ?_)
      refine o_p (p_pure rfl) rfl ?_
      refine o_nil ?_
      exact s_backI (k+1) (by omega) ⟨by omega, by rw [hk2, eachF_drop (by omega), if_pos (by assumption)], fun j hj => (Nat.lt_or_ge j k).elim (hk3 j) (fun h => by obtain rfl : j = k := (by omega); assumption)⟩ (by repeat (first | exact sl_n | refine sl_c rfl ?_)) (fun w h => h.ent (by repeat (first | exact .nil | refine .cons (by repeat (first | exact .here | apply Pick.there)) ?_)))
  · try simp only [decide_eq_true_eq, decide_eq_false_iff_not, Bool.not_eq_true', Bool.not_eq_false', Bool.and_eq_true, Bool.or_eq_true, Bool.and_eq_false_iff, Bool.or_eq_false_iff, Bool.not_true, Bool.not_false] at h1
    refine s_exit_to rfl ?_
    refine s_seq ?_
    refine s_region ?_
    refine o_p (p_pure rfl) rfl ?_
    refine o_p (p_pure rfl) rfl ?_
    refine o_nil ?_
    exact s_retv (rs := [.tmp 4, .tmp 5]) rfl (.tmp rfl (.tmp rfl (.nil))) (fun w' h' => ⟨by simp only [retV]; rw [hk2, eachF_end (by omega)], h'.below⟩)

set_option maxRecDepth 20000 in
theorem c120 (w : World) (a : Option Addr) (cap : Nat) (l : List LOpn) (q : Nat) (cv : Array Value) (bt : List Bool) (hs : Rw LOpn.vals 5 w [] a l) (hm : l.length ≤ 1000000) (hq : isFn Try.prog q = true) (hb : bt.length = l.length) (hc : ∀ k w1, k < l.length → HS w [] [] w1 → Calls Try.prog q (#[] ++ [.agg (LOpn.vals (nth l k)).toArray].toArray ++ cv) w1 fun en w2 => en = .returned (.bool (bt.getD k false)) ∧ Below w1.heap.size w1 w2) : Calls Try.prog 120 #[.slice a l.length cap, .func (.func q) #[] cv] w fun en w' => en = .returned (.int .i64 (ixI bt)) ∧ Below w.heap.size w w' := by
  refine enter (args := [_, _]) Try.func120 Try.ntmps120 rfl rfl (HS.refl w []) ?_
  refine s_seq ?_
  refine s_region ?_
  refine o_p (p_pure rfl) rfl ?_
  refine o_nil ?_
  refine s_seq ?_
  refine s_seq ?_
  refine s_region ?_
  refine o_p (p_pure rfl) rfl ?_
  first | refine o_p (p_len_slice rfl rfl Try.underlying75) rfl ?_ | refine o_q (q_len_own rfl rfl Try.underlying75 (by repeat (first | exact .here | apply Pick.there))) rfl ?_
  refine o_p (p_pure rfl) rfl ?_
  refine o_nil ?_
  refine s_block ?_
  refine s_loopI (α := Nat) [4, 5, 8, 9, 10, 11, 12, 13, 14, 15, 16, 17, 18] (fun k => [(8, .int .i64 (k : Int))]) (fun _ => _) (fun k => k ≤ l.length ∧ ∀ i, i < k → bt.getD i false = false) (fun k => l.length - k) 0 ⟨by omega, fun i h => absurd h (Nat.not_lt_zero i)⟩ (by repeat (first | exact sl_n | refine sl_c rfl ?_)) (fun w h => h) (fun k hk => ?_)
  obtain ⟨hk1, hk2⟩ := hk
  refine s_seq ?_
  refine s_region ?_
  refine o_p (p_pure rfl) rfl ?_
  refine o_nil ?_
  refine s_seq ?_
  refine s_cond rfl (fun h1 => ?_) (fun h1 => ?_)
  · try simp only [decide_eq_true_eq, decide_eq_false_iff_not, Bool.not_eq_true', Bool.not_eq_false', Bool.and_eq_true, Bool.or_eq_true, Bool.and_eq_false_iff, Bool.or_eq_false_iff, Bool.not_true, Bool.not_false] at h1
    refine s_skip ?_
    refine s_seq ?_
    refine s_block ?_
    refine s_seq ?_
    refine s_region ?_
    refine o_p (p_pure rfl) rfl ?_
    refine o_p (p_pure rfl) rfl ?_
    refine o_nil ?_
    refine s_seq ?_
    refine s_region ?_
    refine o_p (p_pure rfl) rfl ?_
    refine o_p (p_pure rfl) rfl ?_
    refine o_p (p_pure rfl) rfl ?_
    first | refine o_p (p_indexAddr rfl rfl rfl sl_75 (k) (by omega) (by omega) rfl) rfl ?_ | refine o_p (p_indexAddr rfl rfl rfl sl_75 (k) (by omega) (by omega) (Rw.some hs (by omega))) rfl ?_
    first | refine o_q (q_loadn rfl rfl sz_48 (by repeat (first | exact .here | apply Pick.there)) rfl) rfl ?_ | refine o_q (q_load_oldn _ rfl rfl sz_48 rfl (Rw.rd hs (by omega))) rfl ?_ | refine o_q (q_load_oldn _ rfl rfl sz_48 (hs.rdj 0 (by omega) rfl)) rfl ?_
    refine o_q (q_callv rfl rfl hq rfl (fun w1 h1 => hc k w1 (by omega) (h1.ent (by repeat (first | exact .nil | refine .cons (by repeat (first | exact .here | apply Pick.there)) ?_))))) rfl ?_
    refine o_nil ?_
    refine s_cond rfl (fun h2 => ?_) (fun h2 => ?_)
    · try simp only [decide_eq_true_eq, decide_eq_false_iff_not, Bool.not_eq_true', Bool.not_eq_false', Bool.and_eq_true, Bool.or_eq_true, Bool.and_eq_false_iff, Bool.or_eq_false_iff, Bool.not_true, Bool.not_false] at h2
      refine s_seq ?_
      refine s_region ?_
      refine o_p (p_pure rfl) rfl ?_
      refine o_p (p_pure rfl) rfl ?_
      refine o_nil ?_
      exact s_retv (rs := [.tmp 4]) rfl (.tmp rfl (.nil)) (fun w' h' => ⟨by have e := ixB_eq (l := bt) (k := k) (by omega) hk2 (fun _ => by assumption); simp only [retV, ixI, e]; rw [if_pos (by omega)], h'.below⟩)
    · try simp only [decide_eq_true_eq, decide_eq_false_iff_not, Bool.not_eq_true', Bool.not_eq_false', Bool.and_eq_true, Bool.or_eq_true, Bool.and_eq_false_iff, Bool.or_eq_false_iff, Bool.not_true, Bool.not_false] at h2
      refine s_skip ?_
      refine s_blk ?_
      refine s_region ?_
      refine o_p (p_pure rfl) rfl ?_
      try (refine o_slot (i64w (by omega) (by omega)) ?_)
      refine o_p (p_pure rfl) rfl ?_
      refine o_nil ?_
      exact s_backI (k+1) (by omega) ⟨by omega, fun i hi => (Nat.lt_or_ge i k).elim (hk2 i) (fun h => by obtain rfl : i = k := (by omega); assumption)⟩ (by repeat (first | exact sl_n | refine sl_c rfl ?_)) (fun w h => h)
  · try simp only [decide_eq_true_eq, decide_eq_false_iff_not, Bool.not_eq_true', Bool.not_eq_false', Bool.and_eq_true, Bool.or_eq_true, Bool.and_eq_false_iff, Bool.or_eq_false_iff, Bool.not_true, Bool.not_false] at h1
    refine s_exit_to rfl ?_
    refine s_seq ?_
    refine s_region ?_
    refine o_p (p_pure rfl) rfl ?_
    refine o_nil ?_
    exact s_retv (rs := [.tmp 4]) rfl (.tmp rfl (.nil)) (fun w' h' => ⟨by have e := ixB_eq (l := bt) (k := k) (by omega) hk2 (fun h => by omega); simp only [retV, ixI, e]; rw [if_neg (by omega)], h'.below⟩)

set_option maxRecDepth 20000 in
theorem c95 (w : World) (a : Option Addr) (cap : Nat) (l : List LOpn) (q : Nat) (cv : Array Value) (bt : List Bool) (hs : Rw LOpn.vals 5 w [] a l) (hm : l.length ≤ 1000000) (hq : isFn Try.prog q = true) (hb : bt.length = l.length) (hc : ∀ k w1, k < l.length → HS w [] [] w1 → Calls Try.prog q (#[] ++ [.agg (LOpn.vals (nth l k)).toArray].toArray ++ cv) w1 fun en w2 => en = .returned (.bool (bt.getD k false)) ∧ Below w1.heap.size w1 w2) : Calls Try.prog 95 #[.slice a l.length cap, .func (.func q) #[] cv] w fun en w' => en = .returned (.bool (bt.any id)) ∧ Below w.heap.size w w' := by
  refine enter (args := [_, _]) Try.func95 Try.ntmps95 rfl rfl (HS.refl w []) ?_
  refine s_seq ?_
  refine s_region ?_
  refine o_p (p_pure rfl) rfl ?_
  refine o_nil ?_
  refine s_seq ?_
  refine s_region ?_
  refine o_p (p_pure rfl) rfl ?_
  refine o_p (p_pure rfl) rfl ?_
  refine o_q (q_call rfl fn_120 rfl (fun w1 h1 => c120 w1 a cap l q cv bt (hs.later h1) hm hq hb (fun k w2 hk h2 => hc k w2 hk (by simpa using h1.call h2)))) rfl ?_
  refine o_p (p_pure rfl) rfl ?_
  refine o_p (p_pure rfl) rfl ?_
  refine o_nil ?_
  exact s_retv (rs := [.tmp 4]) rfl (.tmp rfl (.nil)) (fun w' h' => ⟨by simp only [retV]; rw [← ixI_any], h'.below⟩)

set_option maxRecDepth 20000 in
theorem c112 (w : World) (a : Option Addr) (cap : Nat) (l : List LOpn) (hs : Rw LOpn.vals 5 w [] a l) (hm : l.length ≤ 1000000) : Calls Try.prog 112 #[.slice a l.length cap] w fun en w' => ∃ g : Option Addr × Nat, en = .returned (.slice g.1 l.length g.2) ∧ True ∧ HS w [] [.own (.slice g.1 l.length g.2) 48 5 l.length (l.flatMap LOpn.vals)] w' := by
  refine enter (args := [_]) Try.func112 Try.ntmps112 rfl rfl (HS.refl w []) ?_
  refine s_seq ?_
  refine s_region ?_
  refine o_p (p_pure rfl) rfl ?_
  refine o_nil ?_
  refine s_seq ?_
  refine s_seq ?_
  refine s_region ?_
  refine o_p (p_pure rfl) rfl ?_
  refine o_p (p_slice_nil_eql rfl rfl rfl Try.underlying75) rfl ?_
  refine o_nil ?_
  refine s_cond rfl (fun h1 => ?_) (fun h1 => ?_)
  · try simp only [decide_eq_true_eq, decide_eq_false_iff_not, Bool.not_eq_true', Bool.not_eq_false', Bool.and_eq_true, Bool.or_eq_true, Bool.and_eq_false_iff, Bool.or_eq_false_iff, Bool.not_true, Bool.not_false] at h1
    have ha0 : a = none := by cases a with | none => rfl | some b => simp at h1
    subst ha0
    have hl0 : l = [] := Rw.none hs
    refine s_seq ?_
    refine s_region ?_
    refine o_p (p_pure rfl) rfl ?_
    refine o_nil ?_
    exact s_retv (rs := [.tmp 2]) rfl (.tmp rfl (.nil)) (fun w' h' => ⟨(none, 0), by rw [hl0]; rfl, trivial, by rw [hl0]; exact (h'.own_nil 48 5).ent (by repeat (first | exact .nil | refine .cons (by repeat (first | exact .here | apply Pick.there)) ?_))⟩)
  · try simp only [decide_eq_true_eq, decide_eq_false_iff_not, Bool.not_eq_true', Bool.not_eq_false', Bool.and_eq_true, Bool.or_eq_true, Bool.and_eq_false_iff, Bool.or_eq_false_iff, Bool.not_true, Bool.not_false] at h1
    refine s_skip ?_
    refine s_seq ?_
    refine s_region ?_
    refine o_h (h_buildSlice0 rfl sl_75) rfl (fun b2 _ => ?_)
    refine o_p (p_pure rfl) rfl ?_
    refine o_h (h_appendS (l.flatMap LOpn.vals) rfl rfl rfl sl_75 Try.underlying75 zr_48 rfl (by repeat (first | exact .here | apply Pick.there)) (fun w h => Rw.src ov5 hs h) (flat_length ov5 l) (flat_one ov1 l) (by omega) (by simp only [maxLen]; omega)) rfl (fun b3 _ => ?_)
    refine o_p (p_pure rfl) rfl ?_
    refine o_nil ?_
    exact s_retv (rs := [.tmp 2]) rfl (.tmp rfl (.nil)) (fun w' h' => ⟨b3, by simp only [retV, Nat.zero_add], trivial, by have h2 := h'; simp only [Nat.zero_add, List.nil_append] at h2; exact h2.ent (by repeat (first | exact .nil | refine .cons (by repeat (first | exact .here | apply Pick.there)) ?_))⟩)

set_option maxRecDepth 20000 in
theorem c111 (w : World) (a : Option Addr) (cap : Nat) (l : List LFil) (hs : Rw LFil.vals 4 w [] a l) (hm : l.length ≤ 1000000) : Calls Try.prog 111 #[.slice a l.length cap] w fun en w' => ∃ g : Option Addr × Nat, en = .returned (.slice g.1 l.length g.2) ∧ True ∧ HS w [] [.own (.slice g.1 l.length g.2) 77 4 l.length (l.flatMap LFil.vals)] w' := by
  refine enter (args := [_]) Try.func111 Try.ntmps111 rfl rfl (HS.refl w []) ?_
  refine s_seq ?_
  refine s_region ?_
  refine o_p (p_pure rfl) rfl ?_
  refine o_nil ?_
  refine s_seq ?_
  refine s_seq ?_
  refine s_region ?_
  refine o_p (p_pure rfl) rfl ?_
  refine o_p (p_slice_nil_eql rfl rfl rfl Try.underlying24) rfl ?_
  refine o_nil ?_
  refine s_cond rfl (fun h1 => ?_) (fun h1 => ?_)
  · try simp only [decide_eq_true_eq, decide_eq_false_iff_not, Bool.not_eq_true', Bool.not_eq_false', Bool.and_eq_true, Bool.or_eq_true, Bool.and_eq_false_iff, Bool.or_eq_false_iff, Bool.not_true, Bool.not_false] at h1
    have ha0 : a = none := by cases a with | none => rfl | some b => simp at h1
    subst ha0
    have hl0 : l = [] := Rw.none hs
    refine s_seq ?_
    refine s_region ?_
    refine o_p (p_pure rfl) rfl ?_
    refine o_nil ?_
    exact s_retv (rs := [.tmp 2]) rfl (.tmp rfl (.nil)) (fun w' h' => ⟨(none, 0), by rw [hl0]; rfl, trivial, by rw [hl0]; exact (h'.own_nil 77 4).ent (by repeat (first | exact .nil | refine .cons (by repeat (first | exact .here | apply Pick.there)) ?_))⟩)
  · try simp only [decide_eq_true_eq, decide_eq_false_iff_not, Bool.not_eq_true', Bool.not_eq_false', Bool.and_eq_true, Bool.or_eq_true, Bool.and_eq_false_iff, Bool.or_eq_false_iff, Bool.not_true, Bool.not_false] at h1
    refine s_skip ?_
    refine s_seq ?_
    refine s_region ?_
    refine o_h (h_buildSlice0 rfl sl_24) rfl (fun b2 _ => ?_)
    refine o_p (p_pure rfl) rfl ?_
    refine o_h (h_appendS (l.flatMap LFil.vals) rfl rfl rfl sl_24 Try.underlying24 zr_77 rfl (by repeat (first | exact .here | apply Pick.there)) (fun w h => Rw.src fv4 hs h) (flat_length fv4 l) (flat_one fv1 l) (by omega) (by simp only [maxLen]; omega)) rfl (fun b3 _ => ?_)
    refine o_p (p_pure rfl) rfl ?_
    refine o_nil ?_
    exact s_retv (rs := [.tmp 2]) rfl (.tmp rfl (.nil)) (fun w' h' => ⟨b3, by simp only [retV, Nat.zero_add], trivial, by have h2 := h'; simp only [Nat.zero_add, List.nil_append] at h2; exact h2.ent (by repeat (first | exact .nil | refine .cons (by repeat (first | exact .here | apply Pick.there)) ?_))⟩)

end Go.Proofs

namespace Go.Proofs
open Go Go.RowKit Gx
set_option linter.unusedVariables false
set_option linter.unusedSimpArgs false
attribute [local irreducible] Go.Calls Gx.S Gx.O Gx.D Gx.OpP Gx.OpQ Gx.OpH

theorem fd_42_0 : tfd Try.prog 42 0 = some (0, 3) := by kernel_rfl
theorem sz_3 : tsz Try.prog 3 = some (1, false) := by kernel_rfl
theorem fn_49 : isFn Try.prog 49 = true := by kernel_rfl
theorem fd_42_1 : tfd Try.prog 42 1 = some (1, 3) := by kernel_rfl
theorem fn_48 : isFn Try.prog 48 = true := by kernel_rfl
theorem fn_16 : isFn Try.prog 16 = true := by kernel_rfl
theorem fd_48_1 : tfd Try.prog 48 1 = some (1, 3) := by kernel_rfl
theorem fd_48_2 : tfd Try.prog 48 2 = some (2, 3) := by kernel_rfl
theorem fn_104 : isFn Try.prog 104 = true := by kernel_rfl
theorem fn_71 : isFn Try.prog 71 = true := by kernel_rfl
theorem fn_64 : isFn Try.prog 64 = true := by kernel_rfl
theorem fd_62_0 : tfd Try.prog 62 0 = some (0, 3) := by kernel_rfl
theorem fd_62_1 : tfd Try.prog 62 1 = some (1, 3) := by kernel_rfl
theorem fn_124 : isFn Try.prog 124 = true := by kernel_rfl
theorem fd_62_2 : tfd Try.prog 62 2 = some (2, 4) := by kernel_rfl
theorem sz_4 : tsz Try.prog 4 = some (1, false) := by kernel_rfl
theorem fn_79 : isFn Try.prog 79 = true := by kernel_rfl
theorem fn_119 : isFn Try.prog 119 = true := by kernel_rfl
theorem sl_38 : tsl Try.prog 38 = some (3, 1, 8) := by kernel_rfl
theorem fn_91 : isFn Try.prog 91 = true := by kernel_rfl
theorem fn_90 : isFn Try.prog 90 = true := by kernel_rfl
theorem mixed : Try.prog.follows .mixedOrders = true := by kernel_rfl
theorem zr_3 : tzero Try.prog 3 = some [.int .i64 0] := by kernel_rfl


def cmpI (x y : Int) : Int := if x < y then -1 else if y < x then 1 else 0
def cmp2 (a b : Int × Int) : Int := firstI [cmpI a.1 b.1, cmpI a.2 b.2]
theorem cmp2_lt (a b : Int × Int) : decide (cmp2 a b < 0) = refLt a b := by
  unfold cmp2 refLt
  simp only [firstI, cmpI]
  repeat' split
  all_goals first
    | (simp; omega)
    | (simp; done)
    | grind
theorem cmp2_eq (a b : Int × Int) : cmp2 a b = 0 ↔ a = b := by
  obtain ⟨a1, a2⟩ := a
  obtain ⟨b1, b2⟩ := b
  unfold cmp2
  simp only [firstI, cmpI, Prod.mk.injEq]
  repeat' split
  all_goals first
    | omega
    | (simp; omega)
theorem rngE_r {fr cnt : Int} (h : rngE fr cnt = 0) : 0 ≤ fr ∧ fr ≤ 2147483647 ∧ 1 ≤ cnt ∧ cnt ≤ 2147483647 - fr := by
  unfold rngE at h
  split at h
  · omega
  · cases h
theorem openE_r {ac sh : Int} (h : openE ac sh = 0) : 1 ≤ ac ∧ ac ≤ 7 ∧ 0 ≤ sh ∧ sh ≤ 7 := by
  unfold openE at h
  split at h
  · omega
  · cases h
theorem not_all : ((List.range 8).all fun n => (List.range 8).all fun m => ((!decide (bits .andNot .i64 (n : Int) (m : Int) = 0)) == missN n m)) = true := by decide +kernel
theorem andNot_8 {x y : Int} (hx : 0 ≤ x ∧ x ≤ 7) (hy : 0 ≤ y ∧ y ≤ 7) : (!decide (bits .andNot .i64 x y = 0)) = missN x.toNat y.toNat := by
  have h := not_all
  rw [List.all_eq_true] at h
  have h1 := h x.toNat (List.mem_range.2 (by omega))
  rw [List.all_eq_true] at h1
  have h2 := h1 y.toNat (List.mem_range.2 (by omega))
  rw [Int.toNat_of_nonneg hx.1, Int.toNat_of_nonneg hy.1] at h2
  exact eq_of_beq h2
theorem has_all : ((List.range 8).all fun n => ([1, 2, 4] : List Nat).all fun m => (decide ((n : Int) / (m : Int) % 2 = 1) == decide (n / m % 2 = 1))) = true := by decide +kernel
def hasB (x : Int) (m : Nat) : Bool := decide (x.toNat / m % 2 = 1)
theorem has_8 {x : Int} (hx : 0 ≤ x ∧ x ≤ 7) {m : Nat} (hm : m = 1 ∨ m = 2 ∨ m = 4) : decide (x / (m : Int) % 2 = 1) = hasB x m := by
  have h := has_all
  rw [List.all_eq_true] at h
  have h1 := h x.toNat (List.mem_range.2 (by omega))
  rw [List.all_eq_true] at h1
  have h2 := h1 m (by rcases hm with rfl | rfl | rfl <;> simp)
  rw [Int.toNat_of_nonneg hx.1] at h2
  exact eq_of_beq h2
theorem miss_has (x y : Int) : missN x.toNat y.toNat = ((hasB x 1 && !hasB y 1) || (hasB x 2 && !hasB y 2) || (hasB x 4 && !hasB y 4)) := by
  unfold missN hasB
  rw [Nat.div_one, Nat.div_one]
  have e : ∀ n m : Nat, decide (n % 2 = 1 ∧ m % 2 = 0) = (decide (n % 2 = 1) && !decide (m % 2 = 1)) := fun n m => by
    rcases Nat.mod_two_eq_zero_or_one n with h | h <;> rcases Nat.mod_two_eq_zero_or_one m with h2 | h2 <;> simp [h, h2]
  rw [e, e, e]
def pk3 : Nat → Int
  | 0 => 1
  | 1 => 2
  | 2 => 4
  | _ => 8

set_option maxRecDepth 20000 in
theorem c55 (w : World) (rc sq : Int) : Calls Try.prog 55 #[.agg #[.int .i64 rc, .int .i64 sq]] w fun en w' => en = .returned (.int .i64 (refE rc sq)) ∧ Below w.heap.size w w' := by
  refine enter (args := [_]) Try.func55 Try.ntmps55 rfl rfl (HS.refl w []) ?_
  refine s_seq ?_
  refine s_region ?_
  refine o_h (h_box rfl rfl) rfl (fun b1 _ => ?_)
  refine o_p (p_pure rfl) rfl ?_
  refine o_nil ?_
  refine s_seq ?_
  refine s_region ?_
  refine o_p (p_fieldAddr rfl rfl fd_42_0 sz_3 rfl) rfl ?_
  refine o_q (q_load rfl rfl sz_3 (by repeat (first | exact .here | apply Pick.there)) rfl) rfl ?_
  refine o_q (q_call rfl fn_49 rfl (fun w1 h1 => c49 w1 _ _ _)) rfl ?_
  refine o_p (p_pure rfl) rfl ?_
  refine o_and 4 6 10 _ _ rfl
    (by
      intro hg2
      have hs3 := hg2; try simp only [decide_eq_true_eq, decide_eq_false_iff_not, Bool.not_eq_true', Bool.not_eq_false', Bool.and_eq_true, Bool.or_eq_true, Bool.and_eq_false_iff, Bool.or_eq_false_iff, Bool.not_true, Bool.not_false] at hs3
      refine o_on 6 _ rfl rfl hg2 ?_
      refine o_p (p_fieldAddr rfl rfl fd_42_1 sz_3 rfl) rfl ?_
      refine o_on 6 _ rfl rfl hg2 ?_
      refine o_q (q_load rfl rfl sz_3 (by repeat (first | exact .here | apply Pick.there)) rfl) rfl ?_
      refine o_on 6 _ rfl rfl hg2 ?_
      refine o_q (q_call rfl fn_49 rfl (fun w1 h1 => c49 w1 _ _ _)) rfl ?_
      refine o_p (p_pickt rfl rfl hg2 rfl) rfl ?_
      refine o_nil ?_
      exact s_joinN 4 10 _ rfl rfl rfl (fun w h => by first | exact h | exact h.ent (by repeat (first | exact .nil | refine .cons (by repeat (first | exact .here | apply Pick.there)) ?_))))
    (by
      intro hg4
      have hs5 := hg4; try simp only [decide_eq_true_eq, decide_eq_false_iff_not, Bool.not_eq_true', Bool.not_eq_false', Bool.and_eq_true, Bool.or_eq_true, Bool.and_eq_false_iff, Bool.or_eq_false_iff, Bool.not_true, Bool.not_false] at hs5
      refine o_off 6 _ rfl rfl hg4 rfl ?_
      refine o_off 6 _ rfl rfl hg4 rfl ?_
      refine o_off 6 _ rfl rfl hg4 rfl ?_
      refine o_p (p_pickf rfl rfl hg4 rfl) rfl ?_
      refine o_nil ?_
      exact s_joinN 4 10 _ rfl rfl rfl (fun w h => by first | exact h | exact h.ent (by repeat (first | exact .nil | refine .cons (by repeat (first | exact .here | apply Pick.there)) ?_)))) ?_
  refine o_q (q_call rfl fn_48 rfl (fun w1 h1 => c48 w1 _ _)) rfl ?_
  refine o_p (p_pure rfl) rfl ?_
  refine o_nil ?_
  exact s_retv (rs := [.tmp 2]) rfl (.tmp rfl (.nil)) (fun w' h' => ⟨by simp only [retV, refE]; grind, h'.below⟩)

set_option maxRecDepth 20000 in
theorem c32 (w : World) (rc sq : Int) : Calls Try.prog 32 #[.agg #[.int .i64 rc, .int .i64 sq]] w fun en w' => en = .returned (.int .i64 (refE rc sq)) ∧ Below w.heap.size w w' := by
  refine enter (args := [_]) Try.func32 Try.ntmps32 rfl rfl (HS.refl w []) ?_
  refine s_seq ?_
  refine s_region ?_
  refine o_h (h_box rfl rfl) rfl (fun b1 _ => ?_)
  refine o_p (p_pure rfl) rfl ?_
  refine o_nil ?_
  refine s_seq ?_
  refine s_seq ?_
  refine s_region ?_
  refine o_p (p_fieldAddr rfl rfl fd_42_0 sz_3 rfl) rfl ?_
  refine o_q (q_load rfl rfl sz_3 (by repeat (first | exact .here | apply Pick.there)) rfl) rfl ?_
  refine o_q (q_call rfl fn_16 rfl (fun w1 h1 => c16 w1 _ _ _)) rfl ?_
  refine o_p (p_pure rfl) rfl ?_
  refine o_p (p_pure rfl) rfl ?_
  refine o_or 5 7 12 _ _ rfl
    (by
      intro hg2
      have hs3 := hg2; try simp only [decide_eq_true_eq, decide_eq_false_iff_not, Bool.not_eq_true', Bool.not_eq_false', Bool.and_eq_true, Bool.or_eq_true, Bool.and_eq_false_iff, Bool.or_eq_false_iff, Bool.not_true, Bool.not_false] at hs3
      refine o_on 7 _ rfl rfl hg2 ?_
      refine o_p (p_fieldAddr rfl rfl fd_42_1 sz_3 rfl) rfl ?_
      refine o_on 7 _ rfl rfl hg2 ?_
      refine o_q (q_load rfl rfl sz_3 (by repeat (first | exact .here | apply Pick.there)) rfl) rfl ?_
      refine o_on 7 _ rfl rfl hg2 ?_
      refine o_q (q_call rfl fn_16 rfl (fun w1 h1 => c16 w1 _ _ _)) rfl ?_
      refine o_on 7 _ rfl rfl hg2 ?_
      refine o_p (p_pure rfl) rfl ?_
      refine o_p (p_pickf rfl rfl hg2 rfl) rfl ?_
      refine o_nil ?_
      exact s_joinN 5 12 _ rfl rfl rfl (fun w h => by first | exact h | exact h.ent (by repeat (first | exact .nil | refine .cons (by repeat (first | exact .here | apply Pick.there)) ?_))))
    (by
      intro hg4
      have hs5 := hg4; try simp only [decide_eq_true_eq, decide_eq_false_iff_not, Bool.not_eq_true', Bool.not_eq_false', Bool.and_eq_true, Bool.or_eq_true, Bool.and_eq_false_iff, Bool.or_eq_false_iff, Bool.not_true, Bool.not_false] at hs5
      refine o_off 7 _ rfl rfl hg4 rfl ?_
      refine o_off 7 _ rfl rfl hg4 rfl ?_
      refine o_off 7 _ rfl rfl hg4 rfl ?_
      refine o_off 7 _ rfl rfl hg4 rfl ?_
      refine o_p (p_pickt rfl rfl hg4 rfl) rfl ?_
      refine o_nil ?_
      exact s_joinN 5 12 _ rfl rfl rfl (fun w h => by first | exact h | exact h.ent (by repeat (first | exact .nil | refine .cons (by repeat (first | exact .here | apply Pick.there)) ?_)))) ?_
  refine o_nil ?_
  refine s_cond rfl (fun h6 => ?_) (fun h6 => ?_)
  · try simp only [decide_eq_true_eq, decide_eq_false_iff_not, Bool.not_eq_true', Bool.not_eq_false', Bool.and_eq_true, Bool.or_eq_true, Bool.and_eq_false_iff, Bool.or_eq_false_iff, Bool.not_true, Bool.not_false] at h6
    refine s_seq ?_
    refine s_region ?_
    refine o_p (p_pure rfl) rfl ?_
    refine o_nil ?_
    exact s_retv (rs := [.tmp 2]) rfl (.tmp rfl (.nil)) (fun w' h' => ⟨by simp only [retV, refE]; grind, h'.below⟩)
  · try simp only [decide_eq_true_eq, decide_eq_false_iff_not, Bool.not_eq_true', Bool.not_eq_false', Bool.and_eq_true, Bool.or_eq_true, Bool.and_eq_false_iff, Bool.or_eq_false_iff, Bool.not_true, Bool.not_false] at h6
    refine s_skip ?_
    refine s_seq ?_
    refine s_region ?_
    refine o_p (p_pure rfl) rfl ?_
    refine o_nil ?_
    exact s_retv (rs := [.tmp 2]) rfl (.tmp rfl (.nil)) (fun w' h' => ⟨by simp only [retV, refE]; grind, h'.below⟩)

set_option maxRecDepth 20000 in
theorem c62 (w : World) (o : LOpn) : Calls Try.prog 62 #[.agg #[.int .i64 o.hd, .int .i64 o.ac, .int .i64 o.sh, .bool o.dl, .slice o.la o.lk.length o.lc]] w fun en w' => en = .returned (.int .i64 (openE o.ac o.sh)) ∧ Below w.heap.size w w' := by
  refine enter (args := [_]) Try.func62 Try.ntmps62 rfl rfl (HS.refl w []) ?_
  refine s_seq ?_
  refine s_region ?_
  refine o_h (h_box rfl rfl) rfl (fun b1 _ => ?_)
  refine o_p (p_pure rfl) rfl ?_
  refine o_nil ?_
  refine s_seq ?_
  refine s_region ?_
  refine o_p (p_fieldAddr rfl rfl fd_48_1 sz_3 rfl) rfl ?_
  refine o_q (q_load rfl rfl sz_3 (by repeat (first | exact .here | apply Pick.there)) rfl) rfl ?_
  refine o_q (q_call rfl fn_49 rfl (fun w1 h1 => c49 w1 _ _ _)) rfl ?_
  refine o_p (p_pure rfl) rfl ?_
  refine o_and 4 6 10 _ _ rfl
    (by
      intro hg2
      have hs3 := hg2; try simp only [decide_eq_true_eq, decide_eq_false_iff_not, Bool.not_eq_true', Bool.not_eq_false', Bool.and_eq_true, Bool.or_eq_true, Bool.and_eq_false_iff, Bool.or_eq_false_iff, Bool.not_true, Bool.not_false] at hs3
      refine o_on 6 _ rfl rfl hg2 ?_
      refine o_p (p_fieldAddr rfl rfl fd_48_2 sz_3 rfl) rfl ?_
      refine o_on 6 _ rfl rfl hg2 ?_
      refine o_q (q_load rfl rfl sz_3 (by repeat (first | exact .here | apply Pick.there)) rfl) rfl ?_
      refine o_on 6 _ rfl rfl hg2 ?_
      refine o_q (q_call rfl fn_49 rfl (fun w1 h1 => c49 w1 _ _ _)) rfl ?_
      refine o_p (p_pickt rfl rfl hg2 rfl) rfl ?_
      refine o_nil ?_
      exact s_joinN 4 10 _ rfl rfl rfl (fun w h => by first | exact h | exact h.ent (by repeat (first | exact .nil | refine .cons (by repeat (first | exact .here | apply Pick.there)) ?_))))
    (by
      intro hg4
      have hs5 := hg4; try simp only [decide_eq_true_eq, decide_eq_false_iff_not, Bool.not_eq_true', Bool.not_eq_false', Bool.and_eq_true, Bool.or_eq_true, Bool.and_eq_false_iff, Bool.or_eq_false_iff, Bool.not_true, Bool.not_false] at hs5
      refine o_off 6 _ rfl rfl hg4 rfl ?_
      refine o_off 6 _ rfl rfl hg4 rfl ?_
      refine o_off 6 _ rfl rfl hg4 rfl ?_
      refine o_p (p_pickf rfl rfl hg4 rfl) rfl ?_
      refine o_nil ?_
      exact s_joinN 4 10 _ rfl rfl rfl (fun w h => by first | exact h | exact h.ent (by repeat (first | exact .nil | refine .cons (by repeat (first | exact .here | apply Pick.there)) ?_)))) ?_
  refine o_q (q_call rfl fn_48 rfl (fun w1 h1 => c48 w1 _ _)) rfl ?_
  refine o_p (p_pure rfl) rfl ?_
  refine o_nil ?_
  exact s_retv (rs := [.tmp 2]) rfl (.tmp rfl (.nil)) (fun w' h' => ⟨by simp only [retV, openE]; grind, h'.below⟩)

set_option maxRecDepth 20000 in
theorem c22 (w : World) (o : LOpn) : Calls Try.prog 22 #[.agg #[.int .i64 o.hd, .int .i64 o.ac, .int .i64 o.sh, .bool o.dl, .slice o.la o.lk.length o.lc]] w fun en w' => en = .returned (.int .i64 (openE o.ac o.sh)) ∧ Below w.heap.size w w' := by
  refine enter (args := [_]) Try.func22 Try.ntmps22 rfl rfl (HS.refl w []) ?_
  refine s_seq ?_
  refine s_region ?_
  refine o_h (h_box rfl rfl) rfl (fun b1 _ => ?_)
  refine o_p (p_pure rfl) rfl ?_
  refine o_nil ?_
  refine s_seq ?_
  refine s_seq ?_
  refine s_region ?_
  refine o_p (p_fieldAddr rfl rfl fd_48_1 sz_3 rfl) rfl ?_
  refine o_q (q_load rfl rfl sz_3 (by repeat (first | exact .here | apply Pick.there)) rfl) rfl ?_
  refine o_q (q_call rfl fn_16 rfl (fun w1 h1 => c16 w1 _ _ _)) rfl ?_
  refine o_p (p_pure rfl) rfl ?_
  refine o_p (p_pure rfl) rfl ?_
  refine o_or 5 7 12 _ _ rfl
    (by
      intro hg2
      have hs3 := hg2; try simp only [decide_eq_true_eq, decide_eq_false_iff_not, Bool.not_eq_true', Bool.not_eq_false', Bool.and_eq_true, Bool.or_eq_true, Bool.and_eq_false_iff, Bool.or_eq_false_iff, Bool.not_true, Bool.not_false] at hs3
      refine o_on 7 _ rfl rfl hg2 ?_
      refine o_p (p_fieldAddr rfl rfl fd_48_2 sz_3 rfl) rfl ?_
      refine o_on 7 _ rfl rfl hg2 ?_
      refine o_q (q_load rfl rfl sz_3 (by repeat (first | exact .here | apply Pick.there)) rfl) rfl ?_
      refine o_on 7 _ rfl rfl hg2 ?_
      refine o_q (q_call rfl fn_16 rfl (fun w1 h1 => c16 w1 _ _ _)) rfl ?_
      refine o_on 7 _ rfl rfl hg2 ?_
      refine o_p (p_pure rfl) rfl ?_
      refine o_p (p_pickf rfl rfl hg2 rfl) rfl ?_
      refine o_nil ?_
      exact s_joinN 5 12 _ rfl rfl rfl (fun w h => by first | exact h | exact h.ent (by repeat (first | exact .nil | refine .cons (by repeat (first | exact .here | apply Pick.there)) ?_))))
    (by
      intro hg4
      have hs5 := hg4; try simp only [decide_eq_true_eq, decide_eq_false_iff_not, Bool.not_eq_true', Bool.not_eq_false', Bool.and_eq_true, Bool.or_eq_true, Bool.and_eq_false_iff, Bool.or_eq_false_iff, Bool.not_true, Bool.not_false] at hs5
      refine o_off 7 _ rfl rfl hg4 rfl ?_
      refine o_off 7 _ rfl rfl hg4 rfl ?_
      refine o_off 7 _ rfl rfl hg4 rfl ?_
      refine o_off 7 _ rfl rfl hg4 rfl ?_
      refine o_p (p_pickt rfl rfl hg4 rfl) rfl ?_
      refine o_nil ?_
      exact s_joinN 5 12 _ rfl rfl rfl (fun w h => by first | exact h | exact h.ent (by repeat (first | exact .nil | refine .cons (by repeat (first | exact .here | apply Pick.there)) ?_)))) ?_
  refine o_nil ?_
  refine s_cond rfl (fun h6 => ?_) (fun h6 => ?_)
  · try simp only [decide_eq_true_eq, decide_eq_false_iff_not, Bool.not_eq_true', Bool.not_eq_false', Bool.and_eq_true, Bool.or_eq_true, Bool.and_eq_false_iff, Bool.or_eq_false_iff, Bool.not_true, Bool.not_false] at h6
    refine s_seq ?_
    refine s_region ?_
    refine o_p (p_pure rfl) rfl ?_
    refine o_nil ?_
    exact s_retv (rs := [.tmp 2]) rfl (.tmp rfl (.nil)) (fun w' h' => ⟨by simp only [retV, openE]; grind, h'.below⟩)
  · try simp only [decide_eq_true_eq, decide_eq_false_iff_not, Bool.not_eq_true', Bool.not_eq_false', Bool.and_eq_true, Bool.or_eq_true, Bool.and_eq_false_iff, Bool.or_eq_false_iff, Bool.not_true, Bool.not_false] at h6
    refine s_skip ?_
    refine s_seq ?_
    refine s_region ?_
    refine o_p (p_pure rfl) rfl ?_
    refine o_nil ?_
    exact s_retv (rs := [.tmp 2]) rfl (.tmp rfl (.nil)) (fun w' h' => ⟨by simp only [retV, openE]; grind, h'.below⟩)

set_option maxRecDepth 20000 in
theorem c104 (w : World) (x : Int) : Calls Try.prog 104 #[.int .i64 x] w fun en w' => en = .returned (.bool (decide (0 ≤ x) && decide (x ≤ 2147483647))) ∧ Below w.heap.size w w' := by
  refine enter (args := [_]) Try.func104 Try.ntmps104 rfl rfl (HS.refl w []) ?_
  refine s_seq ?_
  refine s_region ?_
  refine o_p (p_pure rfl) rfl ?_
  refine o_nil ?_
  refine s_seq ?_
  refine s_region ?_
  refine o_p (p_pure rfl) rfl ?_
  refine o_q (q_call rfl fn_16 rfl (fun w1 h1 => c16 w1 _ _ _)) rfl ?_
  refine o_p (p_pure rfl) rfl ?_
  refine o_nil ?_
  exact s_retv (rs := [.tmp 2]) rfl (.tmp rfl (.nil)) (fun w' h' => ⟨rfl, h'.below⟩)

set_option maxRecDepth 20000 in
theorem c94 (w : World) (fr cnt : Int) : Calls Try.prog 94 #[.int .i64 fr, .int .i64 cnt] w fun en w' => en = .returned (.int .i64 (rngE fr cnt)) ∧ Below w.heap.size w w' := by
  refine enter (args := [_, _]) Try.func94 Try.ntmps94 rfl rfl (HS.refl w []) ?_
  refine s_seq ?_
  refine s_region ?_
  refine o_p (p_pure rfl) rfl ?_
  refine o_nil ?_
  refine s_seq ?_
  refine s_region ?_
  refine o_p (p_pure rfl) rfl ?_
  refine o_q (q_call rfl fn_49 rfl (fun w1 h1 => c49 w1 _ _ _)) rfl ?_
  refine o_p (p_pure rfl) rfl ?_
  refine o_and 5 7 12 _ _ rfl
    (by
      intro hg1
      have hs2 := hg1; try simp only [decide_eq_true_eq, decide_eq_false_iff_not, Bool.not_eq_true', Bool.not_eq_false', Bool.and_eq_true, Bool.or_eq_true, Bool.and_eq_false_iff, Bool.or_eq_false_iff, Bool.not_true, Bool.not_false] at hs2
      refine o_on 7 _ rfl rfl hg1 ?_
      refine o_p (p_pure rfl) rfl ?_
      refine o_on 7 _ rfl rfl hg1 ?_
      refine o_p (p_pure rfl) rfl ?_
      refine o_on 7 _ rfl rfl hg1 ?_
      refine o_p (p_pure rfl) rfl ?_
      try (refine o_slot (i64w (by omega) (by omega)) ?_)
      refine o_on 7 _ rfl rfl hg1 ?_
      refine o_q (q_call rfl fn_49 rfl (fun w1 h1 => c49 w1 _ _ _)) rfl ?_
      refine o_p (p_pickt rfl rfl hg1 rfl) rfl ?_
      refine o_nil ?_
      exact s_joinN 5 12 _ rfl rfl rfl (fun w h => by first | exact h | exact h.ent (by repeat (first | exact .nil | refine .cons (by repeat (first | exact .here | apply Pick.there)) ?_))))
    (by
      intro hg3
      have hs4 := hg3; try simp only [decide_eq_true_eq, decide_eq_false_iff_not, Bool.not_eq_true', Bool.not_eq_false', Bool.and_eq_true, Bool.or_eq_true, Bool.and_eq_false_iff, Bool.or_eq_false_iff, Bool.not_true, Bool.not_false] at hs4
      refine o_off 7 _ rfl rfl hg3 rfl ?_
      refine o_off 7 _ rfl rfl hg3 rfl ?_
      refine o_off 7 _ rfl rfl hg3 rfl ?_
      refine o_off 7 _ rfl rfl hg3 rfl ?_
      refine o_p (p_pickf rfl rfl hg3 rfl) rfl ?_
      refine o_nil ?_
      exact s_joinN 5 12 _ rfl rfl rfl (fun w h => by first | exact h | exact h.ent (by repeat (first | exact .nil | refine .cons (by repeat (first | exact .here | apply Pick.there)) ?_)))) ?_
  refine o_q (q_call rfl fn_48 rfl (fun w1 h1 => c48 w1 _ _)) rfl ?_
  refine o_p (p_pure rfl) rfl ?_
  refine o_nil ?_
  exact s_retv (rs := [.tmp 4]) rfl (.tmp rfl (.nil)) (fun w' h' => ⟨by simp only [retV, rngE]; grind, h'.below⟩)

set_option maxRecDepth 20000 in
theorem c69 (w : World) (fr cnt : Int) : Calls Try.prog 69 #[.int .i64 fr, .int .i64 cnt] w fun en w' => en = .returned (.int .i64 (rngE fr cnt)) ∧ Below w.heap.size w w' := by
  refine enter (args := [_, _]) Try.func69 Try.ntmps69 rfl rfl (HS.refl w []) ?_
  refine s_seq ?_
  refine s_region ?_
  refine o_p (p_pure rfl) rfl ?_
  refine o_nil ?_
  refine s_seq ?_
  refine s_seq ?_
  refine s_region ?_
  refine o_p (p_pure rfl) rfl ?_
  refine o_q (q_call rfl fn_104 rfl (fun w1 h1 => c104 w1 _)) rfl ?_
  refine o_p (p_pure rfl) rfl ?_
  refine o_p (p_pure rfl) rfl ?_
  refine o_or 6 8 14 _ _ rfl
    (by
      intro hg1
      have hs2 := hg1; try simp only [decide_eq_true_eq, decide_eq_false_iff_not, Bool.not_eq_true', Bool.not_eq_false', Bool.and_eq_true, Bool.or_eq_true, Bool.and_eq_false_iff, Bool.or_eq_false_iff, Bool.not_true, Bool.not_false] at hs2
      refine o_on 8 _ rfl rfl hg1 ?_
      refine o_p (p_pure rfl) rfl ?_
      refine o_on 8 _ rfl rfl hg1 ?_
      refine o_p (p_pure rfl) rfl ?_
      refine o_on 8 _ rfl rfl hg1 ?_
      refine o_p (p_pure rfl) rfl ?_
      try (refine o_slot (i64w (by omega) (by omega)) ?_)
      refine o_on 8 _ rfl rfl hg1 ?_
      refine o_q (q_call rfl fn_16 rfl (fun w1 h1 => c16 w1 _ _ _)) rfl ?_
      refine o_on 8 _ rfl rfl hg1 ?_
      refine o_p (p_pure rfl) rfl ?_
      refine o_p (p_pickf rfl rfl hg1 rfl) rfl ?_
      refine o_nil ?_
      exact s_joinN 6 14 _ rfl rfl rfl (fun w h => by first | exact h | exact h.ent (by repeat (first | exact .nil | refine .cons (by repeat (first | exact .here | apply Pick.there)) ?_))))
    (by
      intro hg3
      have hs4 := hg3; try simp only [decide_eq_true_eq, decide_eq_false_iff_not, Bool.not_eq_true', Bool.not_eq_false', Bool.and_eq_true, Bool.or_eq_true, Bool.and_eq_false_iff, Bool.or_eq_false_iff, Bool.not_true, Bool.not_false] at hs4
      refine o_off 8 _ rfl rfl hg3 rfl ?_
      refine o_off 8 _ rfl rfl hg3 rfl ?_
      refine o_off 8 _ rfl rfl hg3 rfl ?_
      refine o_off 8 _ rfl rfl hg3 rfl ?_
      refine o_off 8 _ rfl rfl hg3 rfl ?_
      refine o_p (p_pickt rfl rfl hg3 rfl) rfl ?_
      refine o_nil ?_
      exact s_joinN 6 14 _ rfl rfl rfl (fun w h => by first | exact h | exact h.ent (by repeat (first | exact .nil | refine .cons (by repeat (first | exact .here | apply Pick.there)) ?_)))) ?_
  refine o_nil ?_
  refine s_cond rfl (fun h5 => ?_) (fun h5 => ?_)
  · try simp only [decide_eq_true_eq, decide_eq_false_iff_not, Bool.not_eq_true', Bool.not_eq_false', Bool.and_eq_true, Bool.or_eq_true, Bool.and_eq_false_iff, Bool.or_eq_false_iff, Bool.not_true, Bool.not_false] at h5
    refine s_seq ?_
    refine s_region ?_
    refine o_p (p_pure rfl) rfl ?_
    refine o_nil ?_
    exact s_retv (rs := [.tmp 4]) rfl (.tmp rfl (.nil)) (fun w' h' => ⟨by simp only [retV, rngE]; grind, h'.below⟩)
  · try simp only [decide_eq_true_eq, decide_eq_false_iff_not, Bool.not_eq_true', Bool.not_eq_false', Bool.and_eq_true, Bool.or_eq_true, Bool.and_eq_false_iff, Bool.or_eq_false_iff, Bool.not_true, Bool.not_false] at h5
    refine s_skip ?_
    refine s_seq ?_
    refine s_region ?_
    refine o_p (p_pure rfl) rfl ?_
    refine o_nil ?_
    exact s_retv (rs := [.tmp 4]) rfl (.tmp rfl (.nil)) (fun w' h' => ⟨by simp only [retV, rngE]; grind, h'.below⟩)

set_option maxRecDepth 20000 in
theorem c63 (w : World) (a b : LOpn) (ha : openE a.ac a.sh = 0) (hb : openE b.ac b.sh = 0) : Calls Try.prog 63 #[.agg #[.int .i64 a.hd, .int .i64 a.ac, .int .i64 a.sh, .bool a.dl, .slice a.la a.lk.length a.lc], .agg #[.int .i64 b.hd, .int .i64 b.ac, .int .i64 b.sh, .bool b.dl, .slice b.la b.lk.length b.lc]] w fun en w' => en = .returned (.bool (cfl a.pl b.pl)) ∧ Below w.heap.size w w' := by
  have ha1 := openE_r ha
  have hb1 := openE_r hb
  refine enter (args := [_, _]) Try.func63 Try.ntmps63 rfl rfl (HS.refl w []) ?_
  refine s_seq ?_
  refine s_region ?_
  refine o_h (h_box rfl rfl) rfl (fun b1 _ => ?_)
  refine o_h (h_box rfl rfl) rfl (fun b2 _ => ?_)
  refine o_p (p_pure rfl) rfl ?_
  refine o_nil ?_
  refine s_seq ?_
  refine s_region ?_
  refine o_p (p_fieldAddr rfl rfl fd_48_1 sz_3 rfl) rfl ?_
  refine o_q (q_load rfl rfl sz_3 (by repeat (first | exact .here | apply Pick.there)) rfl) rfl ?_
  refine o_p (p_fieldAddr rfl rfl fd_48_2 sz_3 rfl) rfl ?_
  refine o_q (q_load rfl rfl sz_3 (by repeat (first | exact .here | apply Pick.there)) rfl) rfl ?_
  refine o_p (p_pure rfl) rfl ?_
  refine o_p (p_pure rfl) rfl ?_
  refine o_p (p_pure rfl) rfl ?_
  refine o_or 7 11 18 _ _ rfl
    (by
      intro hg3
      have hs4 := hg3; try simp only [decide_eq_true_eq, decide_eq_false_iff_not, Bool.not_eq_true', Bool.not_eq_false', Bool.and_eq_true, Bool.or_eq_true, Bool.and_eq_false_iff, Bool.or_eq_false_iff, Bool.not_true, Bool.not_false] at hs4
      refine o_on 11 _ rfl rfl hg3 ?_
      refine o_p (p_fieldAddr rfl rfl fd_48_1 sz_3 rfl) rfl ?_
      refine o_on 11 _ rfl rfl hg3 ?_
      refine o_q (q_load rfl rfl sz_3 (by repeat (first | exact .here | apply Pick.there)) rfl) rfl ?_
      refine o_on 11 _ rfl rfl hg3 ?_
      refine o_p (p_fieldAddr rfl rfl fd_48_2 sz_3 rfl) rfl ?_
      refine o_on 11 _ rfl rfl hg3 ?_
      refine o_q (q_load rfl rfl sz_3 (by repeat (first | exact .here | apply Pick.there)) rfl) rfl ?_
      refine o_on 11 _ rfl rfl hg3 ?_
      refine o_p (p_pure rfl) rfl ?_
      refine o_on 11 _ rfl rfl hg3 ?_
      refine o_p (p_pure rfl) rfl ?_
      refine o_p (p_pickf rfl rfl hg3 rfl) rfl ?_
      refine o_nil ?_
      exact s_joinN 7 18 _ rfl rfl rfl (fun w h => by first | exact h | exact h.ent (by repeat (first | exact .nil | refine .cons (by repeat (first | exact .here | apply Pick.there)) ?_))))
    (by
      intro hg5
      have hs6 := hg5; try simp only [decide_eq_true_eq, decide_eq_false_iff_not, Bool.not_eq_true', Bool.not_eq_false', Bool.and_eq_true, Bool.or_eq_true, Bool.and_eq_false_iff, Bool.or_eq_false_iff, Bool.not_true, Bool.not_false] at hs6
      refine o_off 11 _ rfl rfl hg5 rfl ?_
      refine o_off 11 _ rfl rfl hg5 rfl ?_
      refine o_off 11 _ rfl rfl hg5 rfl ?_
      refine o_off 11 _ rfl rfl hg5 rfl ?_
      refine o_off 11 _ rfl rfl hg5 rfl ?_
      refine o_off 11 _ rfl rfl hg5 rfl ?_
      refine o_p (p_pickt rfl rfl hg5 rfl) rfl ?_
      refine o_nil ?_
      exact s_joinN 7 18 _ rfl rfl rfl (fun w h => by first | exact h | exact h.ent (by repeat (first | exact .nil | refine .cons (by repeat (first | exact .here | apply Pick.there)) ?_)))) ?_
  refine o_p (p_pure rfl) rfl ?_
  refine o_nil ?_
  exact s_retv (rs := [.tmp 4]) rfl (.tmp rfl (.nil)) (fun w' h' => ⟨by simp only [retV, cfl, LOpn.pl]; rw [← andNot_8 (x := a.ac) (y := b.sh) (by omega) (by omega), ← andNot_8 (x := b.ac) (y := a.sh) (by omega) (by omega)]; rfl, h'.below⟩)

set_option maxRecDepth 20000 in
theorem c71 (w : World) (x : Int) (m : Nat) (hx : 0 ≤ x ∧ x ≤ 7) (hm : m = 1 ∨ m = 2 ∨ m = 4) : Calls Try.prog 71 #[.int .i64 x, .int .i64 (m : Int)] w fun en w' => en = .returned (.bool (hasB x m)) ∧ Below w.heap.size w w' := by
  have hxm : 0 ≤ x / (m : Int) := Int.ediv_nonneg (by omega) (by omega)
  refine enter (args := [_, _]) Try.func71 Try.ntmps71 rfl rfl (HS.refl w []) ?_
  refine s_seq ?_
  refine s_region ?_
  refine o_p (p_pure rfl) rfl ?_
  refine o_nil ?_
  refine s_seq ?_
  refine s_region ?_
  refine o_p (p_pure rfl) rfl ?_
  refine o_p (p_pure rfl) rfl ?_
  first | refine o_p (p_quo_nn rfl rfl rfl (by omega) (by omega) (by omega)) rfl ?_ | refine o_p (p_quo rfl rfl rfl (by decide)) rfl ?_ | refine o_p (p_quo rfl rfl rfl (by omega)) rfl ?_
  first | refine o_p (p_rem_nn rfl rfl rfl (by omega) (by omega)) rfl ?_ | refine o_p (p_rem rfl rfl rfl (by decide)) rfl ?_ | refine o_p (p_rem rfl rfl rfl (by omega)) rfl ?_
  refine o_p (p_pure rfl) rfl ?_
  refine o_p (p_pure rfl) rfl ?_
  refine o_nil ?_
  exact s_retv (rs := [.tmp 4]) rfl (.tmp rfl (.nil)) (fun w' h' => ⟨by simp only [retV]; rw [← has_8 hx hm], h'.below⟩)

set_option maxRecDepth 20000 in
theorem c64 (w : World) (a b : LOpn) (ha : openE a.ac a.sh = 0) (hb : openE b.ac b.sh = 0) : Calls Try.prog 64 #[.agg #[.int .i64 a.hd, .int .i64 a.ac, .int .i64 a.sh, .bool a.dl, .slice a.la a.lk.length a.lc], .agg #[.int .i64 b.hd, .int .i64 b.ac, .int .i64 b.sh, .bool b.dl, .slice b.la b.lk.length b.lc]] w fun en w' => en = .returned (.bool (missN b.ac.toNat a.sh.toNat)) ∧ Below w.heap.size w w' := by
  have ha1 := openE_r ha
  have hb1 := openE_r hb
  refine enter (args := [_, _]) Try.func64 Try.ntmps64 rfl rfl (HS.refl w []) ?_
  refine s_seq ?_
  refine s_region ?_
  refine o_h (h_box rfl rfl) rfl (fun b1 _ => ?_)
  refine o_h (h_box rfl rfl) rfl (fun b2 _ => ?_)
  refine o_p (p_pure rfl) rfl ?_
  refine o_nil ?_
  refine s_seq ?_
  refine s_seq ?_
  refine s_region ?_
  refine o_p (p_pure rfl) rfl ?_
  refine o_nil ?_
  refine s_block ?_
  refine s_loopI (α := Nat) [4, 5, 6, 7, 8, 9, 10, 11, 12, 13, 14, 15, 16, 17, 18, 19, 20] (fun k => [(5, .int .i64 (pk3 k))]) (fun _ => _) (fun k => k ≤ 3 ∧ (0 < k → (hasB b.ac 1 && !hasB a.sh 1) = false) ∧ (1 < k → (hasB b.ac 2 && !hasB a.sh 2) = false) ∧ (2 < k → (hasB b.ac 4 && !hasB a.sh 4) = false)) (fun k => 3 - k) 0 (by simp) (by repeat (first | exact sl_n | refine sl_c rfl ?_)) (fun w h => h) (fun k hk => ?_)
  obtain ⟨hk0, hk1, hk2, hk3⟩ := hk
  rcases k with _ | _ | _ | _ | k
  · skip
    refine s_seq ?_
    refine s_seq ?_
    refine s_region ?_
    refine o_p (p_pure rfl) rfl ?_
    refine o_p (p_pure rfl) rfl ?_
    refine o_nil ?_
    refine s_cond rfl (fun h3 => ?_) (fun h3 => ?_)
    · try simp only [decide_eq_true_eq, decide_eq_false_iff_not, Bool.not_eq_true', Bool.not_eq_false', Bool.and_eq_true, Bool.or_eq_true, Bool.and_eq_false_iff, Bool.or_eq_false_iff, Bool.not_true, Bool.not_false] at h3
      refine s_skip ?_
      refine s_seq ?_
      refine s_block ?_
      refine s_seq ?_
      refine s_region ?_
      refine o_p (p_fieldAddr rfl rfl fd_48_1 sz_3 rfl) rfl ?_
      refine o_q (q_load rfl rfl sz_3 (by repeat (first | exact .here | apply Pick.there)) rfl) rfl ?_
      refine o_p (p_pure rfl) rfl ?_
      refine o_q (q_call rfl fn_71 rfl (fun w1 h1 => c71 w1 b.ac 1 (by omega) (by omega))) rfl ?_
      refine o_p (p_pure rfl) rfl ?_
      refine o_and 6 14 20 _ _ rfl
        (by
          intro hg4
          have hs5 := hg4; try simp only [decide_eq_true_eq, decide_eq_false_iff_not, Bool.not_eq_true', Bool.not_eq_false', Bool.and_eq_true, Bool.or_eq_true, Bool.and_eq_false_iff, Bool.or_eq_false_iff, Bool.not_true, Bool.not_false] at hs5
          refine o_on 14 _ rfl rfl hg4 ?_
          refine o_p (p_fieldAddr rfl rfl fd_48_2 sz_3 rfl) rfl ?_
          refine o_on 14 _ rfl rfl hg4 ?_
          refine o_q (q_load rfl rfl sz_3 (by repeat (first | exact .here | apply Pick.there)) rfl) rfl ?_
          refine o_on 14 _ rfl rfl hg4 ?_
          refine o_p (p_pure rfl) rfl ?_
          refine o_on 14 _ rfl rfl hg4 ?_
          refine o_q (q_call rfl fn_71 rfl (fun w1 h1 => c71 w1 a.sh 1 (by omega) (by omega))) rfl ?_
          refine o_on 14 _ rfl rfl hg4 ?_
          refine o_p (p_pure rfl) rfl ?_
          refine o_p (p_pickt rfl rfl hg4 rfl) rfl ?_
          refine o_nil ?_
          exact s_joinN 6 20 _ rfl rfl rfl (fun w h => by first | exact h | exact h.ent (by repeat (first | exact .nil | refine .cons (by repeat (first | exact .here | apply Pick.there)) ?_))))
        (by
          intro hg6
          have hs7 := hg6; try simp only [decide_eq_true_eq, decide_eq_false_iff_not, Bool.not_eq_true', Bool.not_eq_false', Bool.and_eq_true, Bool.or_eq_true, Bool.and_eq_false_iff, Bool.or_eq_false_iff, Bool.not_true, Bool.not_false] at hs7
          refine o_off 14 _ rfl rfl hg6 rfl ?_
          refine o_off 14 _ rfl rfl hg6 rfl ?_
          refine o_off 14 _ rfl rfl hg6 rfl ?_
          refine o_off 14 _ rfl rfl hg6 rfl ?_
          refine o_off 14 _ rfl rfl hg6 rfl ?_
          refine o_p (p_pickf rfl rfl hg6 rfl) rfl ?_
          refine o_nil ?_
          exact s_joinN 6 20 _ rfl rfl rfl (fun w h => by first | exact h | exact h.ent (by repeat (first | exact .nil | refine .cons (by repeat (first | exact .here | apply Pick.there)) ?_)))) ?_
      refine o_nil ?_
      refine s_cond rfl (fun h8 => ?_) (fun h8 => ?_)
      · try simp only [decide_eq_true_eq, decide_eq_false_iff_not, Bool.not_eq_true', Bool.not_eq_false', Bool.and_eq_true, Bool.or_eq_true, Bool.and_eq_false_iff, Bool.or_eq_false_iff, Bool.not_true, Bool.not_false] at h8
        refine s_seq ?_
        refine s_region ?_
        refine o_p (p_pure rfl) rfl ?_
        refine o_nil ?_
        exact s_retv (rs := [.tmp 4]) rfl (.tmp rfl (.nil)) (fun w' h' => ⟨by simp only [retV]; rw [miss_has]; have hq := h8; (try simp at hq); simp [hq], h'.below⟩)
      · try simp only [decide_eq_true_eq, decide_eq_false_iff_not, Bool.not_eq_true', Bool.not_eq_false', Bool.and_eq_true, Bool.or_eq_true, Bool.and_eq_false_iff, Bool.or_eq_false_iff, Bool.not_true, Bool.not_false] at h8
        refine s_skip ?_
        refine s_blk ?_
        refine s_region ?_
        refine o_p (p_pure rfl) rfl ?_
        refine o_p (p_pure rfl) rfl ?_
        try (refine o_slot (i64w (by omega) (by omega)) ?_)
        refine o_p (p_pure rfl) rfl ?_
        refine o_nil ?_
        exact s_backI 1 (by omega) (by refine ⟨by omega, ?_, ?_, ?_⟩ <;> intro hlt <;> first | (exfalso; omega) | (exact hk1 (by omega)) | (exact hk2 (by omega)) | (exact hk3 (by omega)) | (have hq := h8; revert hq; cases hasB b.ac 1 <;> cases hasB a.sh 1 <;> simp)) (by repeat (first | exact sl_n | refine sl_c rfl ?_)) (fun w h => h)
    · try simp only [decide_eq_true_eq, decide_eq_false_iff_not, Bool.not_eq_true', Bool.not_eq_false', Bool.and_eq_true, Bool.or_eq_true, Bool.and_eq_false_iff, Bool.or_eq_false_iff, Bool.not_true, Bool.not_false] at h3
      exfalso; first | omega | (simp [pk3] at h3; done)
  · skip
    refine s_seq ?_
    refine s_seq ?_
    refine s_region ?_
    refine o_p (p_pure rfl) rfl ?_
    refine o_p (p_pure rfl) rfl ?_
    refine o_nil ?_
    refine s_cond rfl (fun h9 => ?_) (fun h9 => ?_)
    · try simp only [decide_eq_true_eq, decide_eq_false_iff_not, Bool.not_eq_true', Bool.not_eq_false', Bool.and_eq_true, Bool.or_eq_true, Bool.and_eq_false_iff, Bool.or_eq_false_iff, Bool.not_true, Bool.not_false] at h9
      refine s_skip ?_
      refine s_seq ?_
      refine s_block ?_
      refine s_seq ?_
      refine s_region ?_
      refine o_p (p_fieldAddr rfl rfl fd_48_1 sz_3 rfl) rfl ?_
      refine o_q (q_load rfl rfl sz_3 (by repeat (first | exact .here | apply Pick.there)) rfl) rfl ?_
      refine o_p (p_pure rfl) rfl ?_
      refine o_q (q_call rfl fn_71 rfl (fun w1 h1 => c71 w1 b.ac 2 (by omega) (by omega))) rfl ?_
      refine o_p (p_pure rfl) rfl ?_
      refine o_and 6 14 20 _ _ rfl
        (by
          intro hg10
          have hs11 := hg10; try simp only [decide_eq_true_eq, decide_eq_false_iff_not, Bool.not_eq_true', Bool.not_eq_false', Bool.and_eq_true, Bool.or_eq_true, Bool.and_eq_false_iff, Bool.or_eq_false_iff, Bool.not_true, Bool.not_false] at hs11
          refine o_on 14 _ rfl rfl hg10 ?_
          refine o_p (p_fieldAddr rfl rfl fd_48_2 sz_3 rfl) rfl ?_
          refine o_on 14 _ rfl rfl hg10 ?_
          refine o_q (q_load rfl rfl sz_3 (by repeat (first | exact .here | apply Pick.there)) rfl) rfl ?_
          refine o_on 14 _ rfl rfl hg10 ?_
          refine o_p (p_pure rfl) rfl ?_
          refine o_on 14 _ rfl rfl hg10 ?_
          refine o_q (q_call rfl fn_71 rfl (fun w1 h1 => c71 w1 a.sh 2 (by omega) (by omega))) rfl ?_
          refine o_on 14 _ rfl rfl hg10 ?_
          refine o_p (p_pure rfl) rfl ?_
          refine o_p (p_pickt rfl rfl hg10 rfl) rfl ?_
          refine o_nil ?_
          exact s_joinN 6 20 _ rfl rfl rfl (fun w h => by first | exact h | exact h.ent (by repeat (first | exact .nil | refine .cons (by repeat (first | exact .here | apply Pick.there)) ?_))))
        (by
          intro hg12
          have hs13 := hg12; try simp only [decide_eq_true_eq, decide_eq_false_iff_not, Bool.not_eq_true', Bool.not_eq_false', Bool.and_eq_true, Bool.or_eq_true, Bool.and_eq_false_iff, Bool.or_eq_false_iff, Bool.not_true, Bool.not_false] at hs13
          refine o_off 14 _ rfl rfl hg12 rfl ?_
          refine o_off 14 _ rfl rfl hg12 rfl ?_
          refine o_off 14 _ rfl rfl hg12 rfl ?_
          refine o_off 14 _ rfl rfl hg12 rfl ?_
          refine o_off 14 _ rfl rfl hg12 rfl ?_
          refine o_p (p_pickf rfl rfl hg12 rfl) rfl ?_
          refine o_nil ?_
          exact s_joinN 6 20 _ rfl rfl rfl (fun w h => by first | exact h | exact h.ent (by repeat (first | exact .nil | refine .cons (by repeat (first | exact .here | apply Pick.there)) ?_)))) ?_
      refine o_nil ?_
      refine s_cond rfl (fun h14 => ?_) (fun h14 => ?_)
      · try simp only [decide_eq_true_eq, decide_eq_false_iff_not, Bool.not_eq_true', Bool.not_eq_false', Bool.and_eq_true, Bool.or_eq_true, Bool.and_eq_false_iff, Bool.or_eq_false_iff, Bool.not_true, Bool.not_false] at h14
        refine s_seq ?_
        refine s_region ?_
        refine o_p (p_pure rfl) rfl ?_
        refine o_nil ?_
        exact s_retv (rs := [.tmp 4]) rfl (.tmp rfl (.nil)) (fun w' h' => ⟨by simp only [retV]; rw [miss_has]; have hq := h14; (try simp at hq); simp [hq], h'.below⟩)
      · try simp only [decide_eq_true_eq, decide_eq_false_iff_not, Bool.not_eq_true', Bool.not_eq_false', Bool.and_eq_true, Bool.or_eq_true, Bool.and_eq_false_iff, Bool.or_eq_false_iff, Bool.not_true, Bool.not_false] at h14
        refine s_skip ?_
        refine s_blk ?_
        refine s_region ?_
        refine o_p (p_pure rfl) rfl ?_
        refine o_p (p_pure rfl) rfl ?_
        try (refine o_slot (i64w (by omega) (by omega)) ?_)
        refine o_p (p_pure rfl) rfl ?_
        refine o_nil ?_
        exact s_backI 2 (by omega) (by refine ⟨by omega, ?_, ?_, ?_⟩ <;> intro hlt <;> first | (exfalso; omega) | (exact hk1 (by omega)) | (exact hk2 (by omega)) | (exact hk3 (by omega)) | (have hq := h14; revert hq; cases hasB b.ac 2 <;> cases hasB a.sh 2 <;> simp)) (by repeat (first | exact sl_n | refine sl_c rfl ?_)) (fun w h => h)
    · try simp only [decide_eq_true_eq, decide_eq_false_iff_not, Bool.not_eq_true', Bool.not_eq_false', Bool.and_eq_true, Bool.or_eq_true, Bool.and_eq_false_iff, Bool.or_eq_false_iff, Bool.not_true, Bool.not_false] at h9
      exfalso; first | omega | (simp [pk3] at h9; done)
  · skip
    refine s_seq ?_
    refine s_seq ?_
    refine s_region ?_
    refine o_p (p_pure rfl) rfl ?_
    refine o_p (p_pure rfl) rfl ?_
    refine o_nil ?_
    refine s_cond rfl (fun h15 => ?_) (fun h15 => ?_)
    · try simp only [decide_eq_true_eq, decide_eq_false_iff_not, Bool.not_eq_true', Bool.not_eq_false', Bool.and_eq_true, Bool.or_eq_true, Bool.and_eq_false_iff, Bool.or_eq_false_iff, Bool.not_true, Bool.not_false] at h15
      refine s_skip ?_
      refine s_seq ?_
      refine s_block ?_
      refine s_seq ?_
      refine s_region ?_
      refine o_p (p_fieldAddr rfl rfl fd_48_1 sz_3 rfl) rfl ?_
      refine o_q (q_load rfl rfl sz_3 (by repeat (first | exact .here | apply Pick.there)) rfl) rfl ?_
      refine o_p (p_pure rfl) rfl ?_
      refine o_q (q_call rfl fn_71 rfl (fun w1 h1 => c71 w1 b.ac 4 (by omega) (by omega))) rfl ?_
      refine o_p (p_pure rfl) rfl ?_
      refine o_and 6 14 20 _ _ rfl
        (by
          intro hg16
          have hs17 := hg16; try simp only [decide_eq_true_eq, decide_eq_false_iff_not, Bool.not_eq_true', Bool.not_eq_false', Bool.and_eq_true, Bool.or_eq_true, Bool.and_eq_false_iff, Bool.or_eq_false_iff, Bool.not_true, Bool.not_false] at hs17
          refine o_on 14 _ rfl rfl hg16 ?_
          refine o_p (p_fieldAddr rfl rfl fd_48_2 sz_3 rfl) rfl ?_
          refine o_on 14 _ rfl rfl hg16 ?_
          refine o_q (q_load rfl rfl sz_3 (by repeat (first | exact .here | apply Pick.there)) rfl) rfl ?_
          refine o_on 14 _ rfl rfl hg16 ?_
          refine o_p (p_pure rfl) rfl ?_
          refine o_on 14 _ rfl rfl hg16 ?_
          refine o_q (q_call rfl fn_71 rfl (fun w1 h1 => c71 w1 a.sh 4 (by omega) (by omega))) rfl ?_
          refine o_on 14 _ rfl rfl hg16 ?_
          refine o_p (p_pure rfl) rfl ?_
          refine o_p (p_pickt rfl rfl hg16 rfl) rfl ?_
          refine o_nil ?_
          exact s_joinN 6 20 _ rfl rfl rfl (fun w h => by first | exact h | exact h.ent (by repeat (first | exact .nil | refine .cons (by repeat (first | exact .here | apply Pick.there)) ?_))))
        (by
          intro hg18
          have hs19 := hg18; try simp only [decide_eq_true_eq, decide_eq_false_iff_not, Bool.not_eq_true', Bool.not_eq_false', Bool.and_eq_true, Bool.or_eq_true, Bool.and_eq_false_iff, Bool.or_eq_false_iff, Bool.not_true, Bool.not_false] at hs19
          refine o_off 14 _ rfl rfl hg18 rfl ?_
          refine o_off 14 _ rfl rfl hg18 rfl ?_
          refine o_off 14 _ rfl rfl hg18 rfl ?_
          refine o_off 14 _ rfl rfl hg18 rfl ?_
          refine o_off 14 _ rfl rfl hg18 rfl ?_
          refine o_p (p_pickf rfl rfl hg18 rfl) rfl ?_
          refine o_nil ?_
          exact s_joinN 6 20 _ rfl rfl rfl (fun w h => by first | exact h | exact h.ent (by repeat (first | exact .nil | refine .cons (by repeat (first | exact .here | apply Pick.there)) ?_)))) ?_
      refine o_nil ?_
      refine s_cond rfl (fun h20 => ?_) (fun h20 => ?_)
      · try simp only [decide_eq_true_eq, decide_eq_false_iff_not, Bool.not_eq_true', Bool.not_eq_false', Bool.and_eq_true, Bool.or_eq_true, Bool.and_eq_false_iff, Bool.or_eq_false_iff, Bool.not_true, Bool.not_false] at h20
        refine s_seq ?_
        refine s_region ?_
        refine o_p (p_pure rfl) rfl ?_
        refine o_nil ?_
        exact s_retv (rs := [.tmp 4]) rfl (.tmp rfl (.nil)) (fun w' h' => ⟨by simp only [retV]; rw [miss_has]; have hq := h20; (try simp at hq); simp [hq], h'.below⟩)
      · try simp only [decide_eq_true_eq, decide_eq_false_iff_not, Bool.not_eq_true', Bool.not_eq_false', Bool.and_eq_true, Bool.or_eq_true, Bool.and_eq_false_iff, Bool.or_eq_false_iff, Bool.not_true, Bool.not_false] at h20
        refine s_skip ?_
        refine s_blk ?_
        refine s_region ?_
        refine o_p (p_pure rfl) rfl ?_
        refine o_p (p_pure rfl) rfl ?_
        try (refine o_slot (i64w (by omega) (by omega)) ?_)
        refine o_p (p_pure rfl) rfl ?_
        refine o_nil ?_
        exact s_backI 3 (by omega) (by refine ⟨by omega, ?_, ?_, ?_⟩ <;> intro hlt <;> first | (exfalso; omega) | (exact hk1 (by omega)) | (exact hk2 (by omega)) | (exact hk3 (by omega)) | (have hq := h20; revert hq; cases hasB b.ac 4 <;> cases hasB a.sh 4 <;> simp)) (by repeat (first | exact sl_n | refine sl_c rfl ?_)) (fun w h => h)
    · try simp only [decide_eq_true_eq, decide_eq_false_iff_not, Bool.not_eq_true', Bool.not_eq_false', Bool.and_eq_true, Bool.or_eq_true, Bool.and_eq_false_iff, Bool.or_eq_false_iff, Bool.not_true, Bool.not_false] at h15
      exfalso; first | omega | (simp [pk3] at h15; done)
  · skip
    refine s_seq ?_
    refine s_seq ?_
    refine s_region ?_
    refine o_p (p_pure rfl) rfl ?_
    refine o_p (p_pure rfl) rfl ?_
    refine o_nil ?_
    refine s_cond rfl (fun h21 => ?_) (fun h21 => ?_)
    · try simp only [decide_eq_true_eq, decide_eq_false_iff_not, Bool.not_eq_true', Bool.not_eq_false', Bool.and_eq_true, Bool.or_eq_true, Bool.and_eq_false_iff, Bool.or_eq_false_iff, Bool.not_true, Bool.not_false] at h21
      exfalso; first | omega | (simp [pk3] at h21; done)
    · try simp only [decide_eq_true_eq, decide_eq_false_iff_not, Bool.not_eq_true', Bool.not_eq_false', Bool.and_eq_true, Bool.or_eq_true, Bool.and_eq_false_iff, Bool.or_eq_false_iff, Bool.not_true, Bool.not_false] at h21
      refine s_exit_to rfl ?_
      refine s_seq ?_
      refine s_region ?_
      refine o_p (p_pure rfl) rfl ?_
      refine o_nil ?_
      exact s_retv (rs := [.tmp 4]) rfl (.tmp rfl (.nil)) (fun w' h' => ⟨by simp only [retV]; rw [miss_has, hk1 (by omega), hk2 (by omega), hk3 (by omega)]; rfl, h'.below⟩)
  · exfalso; omega

set_option maxRecDepth 20000 in
theorem c23 (w : World) (a b : LOpn) (ha : openE a.ac a.sh = 0) (hb : openE b.ac b.sh = 0) : Calls Try.prog 23 #[.agg #[.int .i64 a.hd, .int .i64 a.ac, .int .i64 a.sh, .bool a.dl, .slice a.la a.lk.length a.lc], .agg #[.int .i64 b.hd, .int .i64 b.ac, .int .i64 b.sh, .bool b.dl, .slice b.la b.lk.length b.lc]] w fun en w' => en = .returned (.bool (cfl a.pl b.pl)) ∧ Below w.heap.size w w' := by
  refine enter (args := [_, _]) Try.func23 Try.ntmps23 rfl rfl (HS.refl w []) ?_
  refine s_seq ?_
  refine s_region ?_
  refine o_h (h_box rfl rfl) rfl (fun b1 _ => ?_)
  refine o_h (h_box rfl rfl) rfl (fun b2 _ => ?_)
  refine o_p (p_pure rfl) rfl ?_
  refine o_nil ?_
  refine s_seq ?_
  refine s_region ?_
  refine o_q (q_loadn rfl rfl sz_48 (by repeat (first | exact .here | apply Pick.there)) rfl) rfl ?_
  refine o_q (q_loadn rfl rfl sz_48 (by repeat (first | exact .here | apply Pick.there)) rfl) rfl ?_
  refine o_q (q_call rfl fn_64 rfl (fun w1 h1 => c64 w1 a b ha hb)) rfl ?_
  refine o_p (p_pure rfl) rfl ?_
  refine o_or 4 8 12 _ _ rfl
    (by
      intro hg3
      have hs4 := hg3; try simp only [decide_eq_true_eq, decide_eq_false_iff_not, Bool.not_eq_true', Bool.not_eq_false', Bool.and_eq_true, Bool.or_eq_true, Bool.and_eq_false_iff, Bool.or_eq_false_iff, Bool.not_true, Bool.not_false] at hs4
      refine o_on 8 _ rfl rfl hg3 ?_
      refine o_q (q_loadn rfl rfl sz_48 (by repeat (first | exact .here | apply Pick.there)) rfl) rfl ?_
      refine o_on 8 _ rfl rfl hg3 ?_
      refine o_q (q_loadn rfl rfl sz_48 (by repeat (first | exact .here | apply Pick.there)) rfl) rfl ?_
      refine o_on 8 _ rfl rfl hg3 ?_
      refine o_q (q_call rfl fn_64 rfl (fun w1 h1 => c64 w1 b a hb ha)) rfl ?_
      refine o_p (p_pickf rfl rfl hg3 rfl) rfl ?_
      refine o_nil ?_
      exact s_joinN 4 12 _ rfl rfl rfl (fun w h => by first | exact h | exact h.ent (by repeat (first | exact .nil | refine .cons (by repeat (first | exact .here | apply Pick.there)) ?_))))
    (by
      intro hg5
      have hs6 := hg5; try simp only [decide_eq_true_eq, decide_eq_false_iff_not, Bool.not_eq_true', Bool.not_eq_false', Bool.and_eq_true, Bool.or_eq_true, Bool.and_eq_false_iff, Bool.or_eq_false_iff, Bool.not_true, Bool.not_false] at hs6
      refine o_off 8 _ rfl rfl hg5 rfl ?_
      refine o_off 8 _ rfl rfl hg5 rfl ?_
      refine o_off 8 _ rfl rfl hg5 rfl ?_
      refine o_p (p_pickt rfl rfl hg5 rfl) rfl ?_
      refine o_nil ?_
      exact s_joinN 4 12 _ rfl rfl rfl (fun w h => by first | exact h | exact h.ent (by repeat (first | exact .nil | refine .cons (by repeat (first | exact .here | apply Pick.there)) ?_)))) ?_
  refine o_p (p_pure rfl) rfl ?_
  refine o_nil ?_
  exact s_retv (rs := [.tmp 4]) rfl (.tmp rfl (.nil)) (fun w' h' => ⟨by simp only [retV]; rw [cfl, Bool.or_comm]; rfl, h'.below⟩)

set_option maxRecDepth 20000 in
theorem c124 (w : World) (a b : Lock) (ha : rngE a.fr a.cnt = 0) (hb : rngE b.fr b.cnt = 0) : Calls Try.prog 124 #[.agg #[.int .i64 a.fr, .int .i64 a.cnt, .bool a.ex], .agg #[.int .i64 b.fr, .int .i64 b.cnt, .bool b.ex]] w fun en w' => en = .returned (.bool (ovl a b)) ∧ Below w.heap.size w w' := by
  have ha1 := rngE_r ha
  have hb1 := rngE_r hb
  refine enter (args := [_, _]) Try.func124 Try.ntmps124 rfl rfl (HS.refl w []) ?_
  refine s_seq ?_
  refine s_region ?_
  refine o_h (h_box rfl rfl) rfl (fun b1 _ => ?_)
  refine o_h (h_box rfl rfl) rfl (fun b2 _ => ?_)
  refine o_p (p_pure rfl) rfl ?_
  refine o_nil ?_
  refine s_seq ?_
  refine s_region ?_
  refine o_p (p_fieldAddr rfl rfl fd_62_0 sz_3 rfl) rfl ?_
  refine o_q (q_load rfl rfl sz_3 (by repeat (first | exact .here | apply Pick.there)) rfl) rfl ?_
  refine o_p (p_fieldAddr rfl rfl fd_62_0 sz_3 rfl) rfl ?_
  refine o_q (q_load rfl rfl sz_3 (by repeat (first | exact .here | apply Pick.there)) rfl) rfl ?_
  refine o_p (p_fieldAddr rfl rfl fd_62_1 sz_3 rfl) rfl ?_
  refine o_q (q_load rfl rfl sz_3 (by repeat (first | exact .here | apply Pick.there)) rfl) rfl ?_
  refine o_p (p_pure rfl) rfl ?_
  try (refine o_slot (i64w (by omega) (by omega)) ?_)
  refine o_p (p_pure rfl) rfl ?_
  refine o_p (p_pure rfl) rfl ?_
  refine o_and 9 13 22 _ _ rfl
    (by
      intro hg3
      have hs4 := hg3; try simp only [decide_eq_true_eq, decide_eq_false_iff_not, Bool.not_eq_true', Bool.not_eq_false', Bool.and_eq_true, Bool.or_eq_true, Bool.and_eq_false_iff, Bool.or_eq_false_iff, Bool.not_true, Bool.not_false] at hs4
      refine o_on 13 _ rfl rfl hg3 ?_
      refine o_p (p_fieldAddr rfl rfl fd_62_0 sz_3 rfl) rfl ?_
      refine o_on 13 _ rfl rfl hg3 ?_
      refine o_q (q_load rfl rfl sz_3 (by repeat (first | exact .here | apply Pick.there)) rfl) rfl ?_
      refine o_on 13 _ rfl rfl hg3 ?_
      refine o_p (p_fieldAddr rfl rfl fd_62_0 sz_3 rfl) rfl ?_
      refine o_on 13 _ rfl rfl hg3 ?_
      refine o_q (q_load rfl rfl sz_3 (by repeat (first | exact .here | apply Pick.there)) rfl) rfl ?_
      refine o_on 13 _ rfl rfl hg3 ?_
      refine o_p (p_fieldAddr rfl rfl fd_62_1 sz_3 rfl) rfl ?_
      refine o_on 13 _ rfl rfl hg3 ?_
      refine o_q (q_load rfl rfl sz_3 (by repeat (first | exact .here | apply Pick.there)) rfl) rfl ?_
      refine o_on 13 _ rfl rfl hg3 ?_
      refine o_p (p_pure rfl) rfl ?_
      try (refine o_slot (i64w (by omega) (by omega)) ?_)
      refine o_on 13 _ rfl rfl hg3 ?_
      refine o_p (p_pure rfl) rfl ?_
      refine o_p (p_pickt rfl rfl hg3 rfl) rfl ?_
      refine o_nil ?_
      exact s_joinN 9 22 _ rfl rfl rfl (fun w h => by first | exact h | exact h.ent (by repeat (first | exact .nil | refine .cons (by repeat (first | exact .here | apply Pick.there)) ?_))))
    (by
      intro hg5
      have hs6 := hg5; try simp only [decide_eq_true_eq, decide_eq_false_iff_not, Bool.not_eq_true', Bool.not_eq_false', Bool.and_eq_true, Bool.or_eq_true, Bool.and_eq_false_iff, Bool.or_eq_false_iff, Bool.not_true, Bool.not_false] at hs6
      refine o_off 13 _ rfl rfl hg5 rfl ?_
      refine o_off 13 _ rfl rfl hg5 rfl ?_
      refine o_off 13 _ rfl rfl hg5 rfl ?_
      refine o_off 13 _ rfl rfl hg5 rfl ?_
      refine o_off 13 _ rfl rfl hg5 rfl ?_
      refine o_off 13 _ rfl rfl hg5 rfl ?_
      refine o_off 13 _ rfl rfl hg5 rfl ?_
      refine o_off 13 _ rfl rfl hg5 rfl ?_
      refine o_p (p_pickf rfl rfl hg5 rfl) rfl ?_
      refine o_nil ?_
      exact s_joinN 9 22 _ rfl rfl rfl (fun w h => by first | exact h | exact h.ent (by repeat (first | exact .nil | refine .cons (by repeat (first | exact .here | apply Pick.there)) ?_)))) ?_
  refine o_p (p_pure rfl) rfl ?_
  refine o_nil ?_
  exact s_retv (rs := [.tmp 4]) rfl (.tmp rfl (.nil)) (fun w' h' => ⟨by simp only [retV, ovl], h'.below⟩)

set_option maxRecDepth 20000 in
theorem c103 (w : World) (a b : Lock) (ha : rngE a.fr a.cnt = 0) (hb : rngE b.fr b.cnt = 0) : Calls Try.prog 103 #[.agg #[.int .i64 a.fr, .int .i64 a.cnt, .bool a.ex], .agg #[.int .i64 b.fr, .int .i64 b.cnt, .bool b.ex]] w fun en w' => en = .returned (.bool (clsh a b)) ∧ Below w.heap.size w w' := by
  have ha1 := rngE_r ha
  have hb1 := rngE_r hb
  refine enter (args := [_, _]) Try.func103 Try.ntmps103 rfl rfl (HS.refl w []) ?_
  refine s_seq ?_
  refine s_region ?_
  refine o_h (h_box rfl rfl) rfl (fun b1 _ => ?_)
  refine o_h (h_box rfl rfl) rfl (fun b2 _ => ?_)
  refine o_p (p_pure rfl) rfl ?_
  refine o_nil ?_
  refine s_seq ?_
  refine s_region ?_
  refine o_q (q_loadn rfl rfl sz_62 (by repeat (first | exact .here | apply Pick.there)) rfl) rfl ?_
  refine o_q (q_loadn rfl rfl sz_62 (by repeat (first | exact .here | apply Pick.there)) rfl) rfl ?_
  refine o_q (q_call rfl fn_124 rfl (fun w1 h1 => c124 w1 _ _ (by assumption) (by assumption))) rfl ?_
  refine o_p (p_pure rfl) rfl ?_
  refine o_and 7 8 15 _ _ rfl
    (by
      intro hg3
      have hs4 := hg3; try simp only [decide_eq_true_eq, decide_eq_false_iff_not, Bool.not_eq_true', Bool.not_eq_false', Bool.and_eq_true, Bool.or_eq_true, Bool.and_eq_false_iff, Bool.or_eq_false_iff, Bool.not_true, Bool.not_false] at hs4
      refine o_on 8 _ rfl rfl hg3 ?_
      refine o_p (p_fieldAddr rfl rfl fd_62_2 sz_4 rfl) rfl ?_
      refine o_on 8 _ rfl rfl hg3 ?_
      refine o_q (q_load rfl rfl sz_4 (by repeat (first | exact .here | apply Pick.there)) rfl) rfl ?_
      refine o_on 8 _ rfl rfl hg3 ?_
      refine o_p (p_pure rfl) rfl ?_
      refine o_or 3 11 14 _ _ rfl
        (by
          intro hg5
          have hs6 := hg5; try simp only [decide_eq_true_eq, decide_eq_false_iff_not, Bool.not_eq_true', Bool.not_eq_false', Bool.and_eq_true, Bool.or_eq_true, Bool.and_eq_false_iff, Bool.or_eq_false_iff, Bool.not_true, Bool.not_false] at hs6
          refine o_on 11 _ rfl rfl hg5 ?_
          refine o_p (p_fieldAddr rfl rfl fd_62_2 sz_4 rfl) rfl ?_
          refine o_on 11 _ rfl rfl hg5 ?_
          refine o_q (q_load rfl rfl sz_4 (by repeat (first | exact .here | apply Pick.there)) rfl) rfl ?_
          refine o_on 8 _ rfl rfl hg3 ?_
          refine o_p (p_pickf rfl rfl hg5 rfl) rfl ?_
          refine o_nil ?_
          exact s_joinN 3 14 _ rfl rfl rfl (fun w h => by first | exact h | exact h.ent (by repeat (first | exact .nil | refine .cons (by repeat (first | exact .here | apply Pick.there)) ?_))))
        (by
          intro hg7
          have hs8 := hg7; try simp only [decide_eq_true_eq, decide_eq_false_iff_not, Bool.not_eq_true', Bool.not_eq_false', Bool.and_eq_true, Bool.or_eq_true, Bool.and_eq_false_iff, Bool.or_eq_false_iff, Bool.not_true, Bool.not_false] at hs8
          refine o_off 11 _ rfl rfl hg7 rfl ?_
          refine o_off 11 _ rfl rfl hg7 rfl ?_
          refine o_on 8 _ rfl rfl hg3 ?_
          refine o_p (p_pickt rfl rfl hg7 rfl) rfl ?_
          refine o_nil ?_
          exact s_joinN 3 14 _ rfl rfl rfl (fun w h => by first | exact h | exact h.ent (by repeat (first | exact .nil | refine .cons (by repeat (first | exact .here | apply Pick.there)) ?_)))) ?_
      refine o_p (p_pickt rfl rfl hg3 rfl) rfl ?_
      refine o_nil ?_
      exact s_joinN 5 15 _ rfl rfl rfl (fun w h => by first | exact h | exact h.ent (by repeat (first | exact .nil | refine .cons (by repeat (first | exact .here | apply Pick.there)) ?_))))
    (by
      intro hg9
      have hs10 := hg9; try simp only [decide_eq_true_eq, decide_eq_false_iff_not, Bool.not_eq_true', Bool.not_eq_false', Bool.and_eq_true, Bool.or_eq_true, Bool.and_eq_false_iff, Bool.or_eq_false_iff, Bool.not_true, Bool.not_false] at hs10
      refine o_off 8 _ rfl rfl hg9 rfl ?_
      refine o_off 8 _ rfl rfl hg9 rfl ?_
      refine o_off 8 _ rfl rfl hg9 rfl ?_
      refine o_off' 11 rfl rfl rfl ?_
      refine o_off' 11 rfl rfl rfl ?_
      refine o_off 8 _ rfl rfl hg9 rfl ?_
      refine o_p (p_pickf rfl rfl hg9 rfl) rfl ?_
      refine o_nil ?_
      exact s_joinN 7 15 _ rfl rfl rfl (fun w h => by first | exact h | exact h.ent (by repeat (first | exact .nil | refine .cons (by repeat (first | exact .here | apply Pick.there)) ?_)))) ?_
  refine o_p (p_pure rfl) rfl ?_
  refine o_nil ?_
  exact s_retv (rs := [.tmp 4]) rfl (.tmp rfl (.nil)) (fun w' h' => ⟨by simp only [retV, clsh], h'.below⟩)

set_option maxRecDepth 20000 in
theorem c79 (w : World) (a b : Lock) (ha : rngE a.fr a.cnt = 0) (hb : rngE b.fr b.cnt = 0) : Calls Try.prog 79 #[.int .i64 a.fr, .int .i64 a.cnt, .int .i64 b.fr, .int .i64 b.cnt] w fun en w' => en = .returned (.bool (ovl a b)) ∧ Below w.heap.size w w' := by
  have ha1 := rngE_r ha
  have hb1 := rngE_r hb
  refine enter (args := [_, _, _, _]) Try.func79 Try.ntmps79 rfl rfl (HS.refl w []) ?_
  refine s_seq ?_
  refine s_region ?_
  refine o_p (p_pure rfl) rfl ?_
  refine o_nil ?_
  refine s_seq ?_
  refine s_region ?_
  refine o_p (p_pure rfl) rfl ?_
  refine o_p (p_pure rfl) rfl ?_
  refine o_p (p_pure rfl) rfl ?_
  refine o_p (p_pure rfl) rfl ?_
  try (refine o_slot (i64w (by omega) (by omega)) ?_)
  refine o_p (p_pure rfl) rfl ?_
  refine o_p (p_pure rfl) rfl ?_
  refine o_and 6 14 20 _ _ rfl
    (by
      intro hg1
      have hs2 := hg1; try simp only [decide_eq_true_eq, decide_eq_false_iff_not, Bool.not_eq_true', Bool.not_eq_false', Bool.and_eq_true, Bool.or_eq_true, Bool.and_eq_false_iff, Bool.or_eq_false_iff, Bool.not_true, Bool.not_false] at hs2
      refine o_on 14 _ rfl rfl hg1 ?_
      refine o_p (p_pure rfl) rfl ?_
      refine o_on 14 _ rfl rfl hg1 ?_
      refine o_p (p_pure rfl) rfl ?_
      refine o_on 14 _ rfl rfl hg1 ?_
      refine o_p (p_pure rfl) rfl ?_
      refine o_on 14 _ rfl rfl hg1 ?_
      refine o_p (p_pure rfl) rfl ?_
      try (refine o_slot (i64w (by omega) (by omega)) ?_)
      refine o_on 14 _ rfl rfl hg1 ?_
      refine o_p (p_pure rfl) rfl ?_
      refine o_p (p_pickt rfl rfl hg1 rfl) rfl ?_
      refine o_nil ?_
      exact s_joinN 6 20 _ rfl rfl rfl (fun w h => by first | exact h | exact h.ent (by repeat (first | exact .nil | refine .cons (by repeat (first | exact .here | apply Pick.there)) ?_))))
    (by
      intro hg3
      have hs4 := hg3; try simp only [decide_eq_true_eq, decide_eq_false_iff_not, Bool.not_eq_true', Bool.not_eq_false', Bool.and_eq_true, Bool.or_eq_true, Bool.and_eq_false_iff, Bool.or_eq_false_iff, Bool.not_true, Bool.not_false] at hs4
      refine o_off 14 _ rfl rfl hg3 rfl ?_
      refine o_off 14 _ rfl rfl hg3 rfl ?_
      refine o_off 14 _ rfl rfl hg3 rfl ?_
      refine o_off 14 _ rfl rfl hg3 rfl ?_
      refine o_off 14 _ rfl rfl hg3 rfl ?_
      refine o_p (p_pickf rfl rfl hg3 rfl) rfl ?_
      refine o_nil ?_
      exact s_joinN 6 20 _ rfl rfl rfl (fun w h => by first | exact h | exact h.ent (by repeat (first | exact .nil | refine .cons (by repeat (first | exact .here | apply Pick.there)) ?_)))) ?_
  refine o_p (p_pure rfl) rfl ?_
  refine o_nil ?_
  exact s_retv (rs := [.tmp 8]) rfl (.tmp rfl (.nil)) (fun w' h' => ⟨by simp only [retV, ovl], h'.below⟩)

set_option maxRecDepth 20000 in
theorem c72 (w : World) (a b : Lock) (ha : rngE a.fr a.cnt = 0) (hb : rngE b.fr b.cnt = 0) : Calls Try.prog 72 #[.agg #[.int .i64 a.fr, .int .i64 a.cnt, .bool a.ex], .agg #[.int .i64 b.fr, .int .i64 b.cnt, .bool b.ex]] w fun en w' => en = .returned (.bool (clsh a b)) ∧ Below w.heap.size w w' := by
  have ha1 := rngE_r ha
  have hb1 := rngE_r hb
  refine enter (args := [_, _]) Try.func72 Try.ntmps72 rfl rfl (HS.refl w []) ?_
  refine s_seq ?_
  refine s_region ?_
  refine o_h (h_box rfl rfl) rfl (fun b1 _ => ?_)
  refine o_h (h_box rfl rfl) rfl (fun b2 _ => ?_)
  refine o_p (p_pure rfl) rfl ?_
  refine o_nil ?_
  refine s_seq ?_
  refine s_region ?_
  refine o_p (p_fieldAddr rfl rfl fd_62_0 sz_3 rfl) rfl ?_
  refine o_q (q_load rfl rfl sz_3 (by repeat (first | exact .here | apply Pick.there)) rfl) rfl ?_
  refine o_p (p_fieldAddr rfl rfl fd_62_1 sz_3 rfl) rfl ?_
  refine o_q (q_load rfl rfl sz_3 (by repeat (first | exact .here | apply Pick.there)) rfl) rfl ?_
  refine o_p (p_fieldAddr rfl rfl fd_62_0 sz_3 rfl) rfl ?_
  refine o_q (q_load rfl rfl sz_3 (by repeat (first | exact .here | apply Pick.there)) rfl) rfl ?_
  refine o_p (p_fieldAddr rfl rfl fd_62_1 sz_3 rfl) rfl ?_
  refine o_q (q_load rfl rfl sz_3 (by repeat (first | exact .here | apply Pick.there)) rfl) rfl ?_
  refine o_q (q_call rfl fn_79 rfl (fun w1 h1 => c79 w1 a b ha hb)) rfl ?_
  refine o_p (p_pure rfl) rfl ?_
  refine o_and 7 14 21 _ _ rfl
    (by
      intro hg3
      have hs4 := hg3; try simp only [decide_eq_true_eq, decide_eq_false_iff_not, Bool.not_eq_true', Bool.not_eq_false', Bool.and_eq_true, Bool.or_eq_true, Bool.and_eq_false_iff, Bool.or_eq_false_iff, Bool.not_true, Bool.not_false] at hs4
      refine o_on 14 _ rfl rfl hg3 ?_
      refine o_p (p_fieldAddr rfl rfl fd_62_2 sz_4 rfl) rfl ?_
      refine o_on 14 _ rfl rfl hg3 ?_
      refine o_q (q_load rfl rfl sz_4 (by repeat (first | exact .here | apply Pick.there)) rfl) rfl ?_
      refine o_on 14 _ rfl rfl hg3 ?_
      refine o_p (p_pure rfl) rfl ?_
      refine o_or 3 17 20 _ _ rfl
        (by
          intro hg5
          have hs6 := hg5; try simp only [decide_eq_true_eq, decide_eq_false_iff_not, Bool.not_eq_true', Bool.not_eq_false', Bool.and_eq_true, Bool.or_eq_true, Bool.and_eq_false_iff, Bool.or_eq_false_iff, Bool.not_true, Bool.not_false] at hs6
          refine o_on 17 _ rfl rfl hg5 ?_
          refine o_p (p_fieldAddr rfl rfl fd_62_2 sz_4 rfl) rfl ?_
          refine o_on 17 _ rfl rfl hg5 ?_
          refine o_q (q_load rfl rfl sz_4 (by repeat (first | exact .here | apply Pick.there)) rfl) rfl ?_
          refine o_on 14 _ rfl rfl hg3 ?_
          refine o_p (p_pickf rfl rfl hg5 rfl) rfl ?_
          refine o_nil ?_
          exact s_joinN 3 20 _ rfl rfl rfl (fun w h => by first | exact h | exact h.ent (by repeat (first | exact .nil | refine .cons (by repeat (first | exact .here | apply Pick.there)) ?_))))
        (by
          intro hg7
          have hs8 := hg7; try simp only [decide_eq_true_eq, decide_eq_false_iff_not, Bool.not_eq_true', Bool.not_eq_false', Bool.and_eq_true, Bool.or_eq_true, Bool.and_eq_false_iff, Bool.or_eq_false_iff, Bool.not_true, Bool.not_false] at hs8
          refine o_off 17 _ rfl rfl hg7 rfl ?_
          refine o_off 17 _ rfl rfl hg7 rfl ?_
          refine o_on 14 _ rfl rfl hg3 ?_
          refine o_p (p_pickt rfl rfl hg7 rfl) rfl ?_
          refine o_nil ?_
          exact s_joinN 3 20 _ rfl rfl rfl (fun w h => by first | exact h | exact h.ent (by repeat (first | exact .nil | refine .cons (by repeat (first | exact .here | apply Pick.there)) ?_)))) ?_
      refine o_p (p_pickt rfl rfl hg3 rfl) rfl ?_
      refine o_nil ?_
      exact s_joinN 5 21 _ rfl rfl rfl (fun w h => by first | exact h | exact h.ent (by repeat (first | exact .nil | refine .cons (by repeat (first | exact .here | apply Pick.there)) ?_))))
    (by
      intro hg9
      have hs10 := hg9; try simp only [decide_eq_true_eq, decide_eq_false_iff_not, Bool.not_eq_true', Bool.not_eq_false', Bool.and_eq_true, Bool.or_eq_true, Bool.and_eq_false_iff, Bool.or_eq_false_iff, Bool.not_true, Bool.not_false] at hs10
      refine o_off 14 _ rfl rfl hg9 rfl ?_
      refine o_off 14 _ rfl rfl hg9 rfl ?_
      refine o_off 14 _ rfl rfl hg9 rfl ?_
      refine o_off' 17 rfl rfl rfl ?_
      refine o_off' 17 rfl rfl rfl ?_
      refine o_off 14 _ rfl rfl hg9 rfl ?_
      refine o_p (p_pickf rfl rfl hg9 rfl) rfl ?_
      refine o_nil ?_
      exact s_joinN 7 21 _ rfl rfl rfl (fun w h => by first | exact h | exact h.ent (by repeat (first | exact .nil | refine .cons (by repeat (first | exact .here | apply Pick.there)) ?_)))) ?_
  refine o_p (p_pure rfl) rfl ?_
  refine o_nil ?_
  exact s_retv (rs := [.tmp 4]) rfl (.tmp rfl (.nil)) (fun w' h' => ⟨by simp only [retV, clsh], h'.below⟩)

set_option maxRecDepth 20000 in
theorem c60 (w : World) (a b c d : Int) : Calls Try.prog 60 #[.agg #[.int .i64 a, .int .i64 b], .agg #[.int .i64 c, .int .i64 d]] w fun en w' => en = .returned (.bool (refLt (a, b) (c, d))) ∧ Below w.heap.size w w' := by
  refine enter (args := [_, _]) Try.func60 Try.ntmps60 rfl rfl (HS.refl w []) ?_
  refine s_seq ?_
  refine s_region ?_
  refine o_h (h_box rfl rfl) rfl (fun b1 _ => ?_)
  refine o_h (h_box rfl rfl) rfl (fun b2 _ => ?_)
  refine o_p (p_pure rfl) rfl ?_
  refine o_nil ?_
  refine s_seq ?_
  refine s_region ?_
  refine o_p (p_fieldAddr rfl rfl fd_42_0 sz_3 rfl) rfl ?_
  refine o_q (q_load rfl rfl sz_3 (by repeat (first | exact .here | apply Pick.there)) rfl) rfl ?_
  refine o_p (p_fieldAddr rfl rfl fd_42_0 sz_3 rfl) rfl ?_
  refine o_q (q_load rfl rfl sz_3 (by repeat (first | exact .here | apply Pick.there)) rfl) rfl ?_
  refine o_p (p_pure rfl) rfl ?_
  refine o_p (p_pure rfl) rfl ?_
  refine o_or 13 10 23 _ _ rfl
    (by
      intro hg3
      have hs4 := hg3; try simp only [decide_eq_true_eq, decide_eq_false_iff_not, Bool.not_eq_true', Bool.not_eq_false', Bool.and_eq_true, Bool.or_eq_true, Bool.and_eq_false_iff, Bool.or_eq_false_iff, Bool.not_true, Bool.not_false] at hs4
      refine o_on 10 _ rfl rfl hg3 ?_
      refine o_p (p_fieldAddr rfl rfl fd_42_0 sz_3 rfl) rfl ?_
      refine o_on 10 _ rfl rfl hg3 ?_
      refine o_q (q_load rfl rfl sz_3 (by repeat (first | exact .here | apply Pick.there)) rfl) rfl ?_
      refine o_on 10 _ rfl rfl hg3 ?_
      refine o_p (p_fieldAddr rfl rfl fd_42_0 sz_3 rfl) rfl ?_
      refine o_on 10 _ rfl rfl hg3 ?_
      refine o_q (q_load rfl rfl sz_3 (by repeat (first | exact .here | apply Pick.there)) rfl) rfl ?_
      refine o_on 10 _ rfl rfl hg3 ?_
      refine o_p (p_pure rfl) rfl ?_
      refine o_on 10 _ rfl rfl hg3 ?_
      refine o_p (p_pure rfl) rfl ?_
      refine o_and 6 16 22 _ _ rfl
        (by
          intro hg5
          have hs6 := hg5; try simp only [decide_eq_true_eq, decide_eq_false_iff_not, Bool.not_eq_true', Bool.not_eq_false', Bool.and_eq_true, Bool.or_eq_true, Bool.and_eq_false_iff, Bool.or_eq_false_iff, Bool.not_true, Bool.not_false] at hs6
          refine o_on 16 _ rfl rfl hg5 ?_
          refine o_p (p_fieldAddr rfl rfl fd_42_1 sz_3 rfl) rfl ?_
          refine o_on 16 _ rfl rfl hg5 ?_
          refine o_q (q_load rfl rfl sz_3 (by repeat (first | exact .here | apply Pick.there)) rfl) rfl ?_
          refine o_on 16 _ rfl rfl hg5 ?_
          refine o_p (p_fieldAddr rfl rfl fd_42_1 sz_3 rfl) rfl ?_
          refine o_on 16 _ rfl rfl hg5 ?_
          refine o_q (q_load rfl rfl sz_3 (by repeat (first | exact .here | apply Pick.there)) rfl) rfl ?_
          refine o_on 16 _ rfl rfl hg5 ?_
          refine o_p (p_pure rfl) rfl ?_
          refine o_on 10 _ rfl rfl hg3 ?_
          refine o_p (p_pickt rfl rfl hg5 rfl) rfl ?_
          refine o_nil ?_
          exact s_joinN 6 22 _ rfl rfl rfl (fun w h => by first | exact h | exact h.ent (by repeat (first | exact .nil | refine .cons (by repeat (first | exact .here | apply Pick.there)) ?_))))
        (by
          intro hg7
          have hs8 := hg7; try simp only [decide_eq_true_eq, decide_eq_false_iff_not, Bool.not_eq_true', Bool.not_eq_false', Bool.and_eq_true, Bool.or_eq_true, Bool.and_eq_false_iff, Bool.or_eq_false_iff, Bool.not_true, Bool.not_false] at hs8
          refine o_off 16 _ rfl rfl hg7 rfl ?_
          refine o_off 16 _ rfl rfl hg7 rfl ?_
          refine o_off 16 _ rfl rfl hg7 rfl ?_
          refine o_off 16 _ rfl rfl hg7 rfl ?_
          refine o_off 16 _ rfl rfl hg7 rfl ?_
          refine o_on 10 _ rfl rfl hg3 ?_
          refine o_p (p_pickf rfl rfl hg7 rfl) rfl ?_
          refine o_nil ?_
          exact s_joinN 6 22 _ rfl rfl rfl (fun w h => by first | exact h | exact h.ent (by repeat (first | exact .nil | refine .cons (by repeat (first | exact .here | apply Pick.there)) ?_)))) ?_
      refine o_p (p_pickf rfl rfl hg3 rfl) rfl ?_
      refine o_nil ?_
      exact s_joinN 8 23 _ rfl rfl rfl (fun w h => by first | exact h | exact h.ent (by repeat (first | exact .nil | refine .cons (by repeat (first | exact .here | apply Pick.there)) ?_))))
    (by
      intro hg9
      have hs10 := hg9; try simp only [decide_eq_true_eq, decide_eq_false_iff_not, Bool.not_eq_true', Bool.not_eq_false', Bool.and_eq_true, Bool.or_eq_true, Bool.and_eq_false_iff, Bool.or_eq_false_iff, Bool.not_true, Bool.not_false] at hs10
      refine o_off 10 _ rfl rfl hg9 rfl ?_
      refine o_off 10 _ rfl rfl hg9 rfl ?_
      refine o_off 10 _ rfl rfl hg9 rfl ?_
      refine o_off 10 _ rfl rfl hg9 rfl ?_
      refine o_off 10 _ rfl rfl hg9 rfl ?_
      refine o_off 10 _ rfl rfl hg9 rfl ?_
      refine o_off' 16 rfl rfl rfl ?_
      refine o_off' 16 rfl rfl rfl ?_
      refine o_off' 16 rfl rfl rfl ?_
      refine o_off' 16 rfl rfl rfl ?_
      refine o_off' 16 rfl rfl rfl ?_
      refine o_off 10 _ rfl rfl hg9 rfl ?_
      refine o_p (p_pickt rfl rfl hg9 rfl) rfl ?_
      refine o_nil ?_
      exact s_joinN 13 23 _ rfl rfl rfl (fun w h => by first | exact h | exact h.ent (by repeat (first | exact .nil | refine .cons (by repeat (first | exact .here | apply Pick.there)) ?_)))) ?_
  refine o_p (p_pure rfl) rfl ?_
  refine o_nil ?_
  exact s_retv (rs := [.tmp 4]) rfl (.tmp rfl (.nil)) (fun w' h' => ⟨by simp only [retV, refLt], h'.below⟩)

set_option maxRecDepth 20000 in
theorem c119 (w : World) (x : Int) : Calls Try.prog 119 #[.int .i64 x] w fun en w' => en = .returned (.bool false) ∧ Below w.heap.size w w' := by
  refine enter (args := [_]) Try.func119 Try.ntmps119 rfl rfl (HS.refl w []) ?_
  refine s_seq ?_
  refine s_region ?_
  refine o_p (p_pure rfl) rfl ?_
  refine o_nil ?_
  refine s_seq ?_
  refine s_region ?_
  refine o_p (p_pure rfl) rfl ?_
  refine o_p (p_pure rfl) rfl ?_
  refine o_p (p_pure rfl) rfl ?_
  refine o_p (p_pure rfl) rfl ?_
  refine o_nil ?_
  exact s_retv (rs := [.tmp 2]) rfl (.tmp rfl (.nil)) (fun w' h' => ⟨by simp only [retV]; simp, h'.below⟩)

set_option maxRecDepth 20000 in
theorem c91 (w : World) (x y : Int) : Calls Try.prog 91 #[.int .i64 x, .int .i64 y] w fun en w' => en = .returned (.int .i64 (cmpI x y)) ∧ Below w.heap.size w w' := by
  refine enter (args := [_, _]) Try.func91 Try.ntmps91 rfl rfl (HS.refl w []) ?_
  refine s_seq ?_
  refine s_region ?_
  refine o_p (p_pure rfl) rfl ?_
  refine o_nil ?_
  refine s_seq ?_
  refine s_region ?_
  refine o_p (p_pure rfl) rfl ?_
  refine o_q (q_call rfl fn_119 rfl (fun w1 h1 => c119 w1 _)) rfl ?_
  refine o_p (p_pure rfl) rfl ?_
  refine o_nil ?_
  refine s_seq ?_
  refine s_region ?_
  refine o_p (p_pure rfl) rfl ?_
  refine o_q (q_call rfl fn_119 rfl (fun w1 h1 => c119 w1 _)) rfl ?_
  refine o_p (p_pure rfl) rfl ?_
  refine o_nil ?_
  refine s_seq ?_
  refine s_seq ?_
  refine s_region ?_
  refine o_p (p_pure rfl) rfl ?_
  refine o_nil ?_
  refine s_cond rfl (fun h1 => ?_) (fun h1 => ?_)
  · try simp only [decide_eq_true_eq, decide_eq_false_iff_not, Bool.not_eq_true', Bool.not_eq_false', Bool.and_eq_true, Bool.or_eq_true, Bool.and_eq_false_iff, Bool.or_eq_false_iff, Bool.not_true, Bool.not_false] at h1
    exfalso; first | omega | (simp at h1; done) | (simp_all; done)
  · try simp only [decide_eq_true_eq, decide_eq_false_iff_not, Bool.not_eq_true', Bool.not_eq_false', Bool.and_eq_true, Bool.or_eq_true, Bool.and_eq_false_iff, Bool.or_eq_false_iff, Bool.not_true, Bool.not_false] at h1
    refine s_skip ?_
    refine s_seq ?_
    refine s_seq ?_
    refine s_region ?_
    refine o_p (p_pure rfl) rfl ?_
    refine o_nil ?_
    refine s_cond rfl (fun h2 => ?_) (fun h2 => ?_)
    · try simp only [decide_eq_true_eq, decide_eq_false_iff_not, Bool.not_eq_true', Bool.not_eq_false', Bool.and_eq_true, Bool.or_eq_true, Bool.and_eq_false_iff, Bool.or_eq_false_iff, Bool.not_true, Bool.not_false] at h2
      exfalso; first | omega | (simp at h2; done) | (simp_all; done)
    · try simp only [decide_eq_true_eq, decide_eq_false_iff_not, Bool.not_eq_true', Bool.not_eq_false', Bool.and_eq_true, Bool.or_eq_true, Bool.and_eq_false_iff, Bool.or_eq_false_iff, Bool.not_true, Bool.not_false] at h2
      refine s_skip ?_
      refine s_seq ?_
      refine s_seq ?_
      refine s_region ?_
      refine o_p (p_pure rfl) rfl ?_
      refine o_p (p_pure rfl) rfl ?_
      refine o_p (p_pure rfl) rfl ?_
      refine o_nil ?_
      refine s_cond rfl (fun h3 => ?_) (fun h3 => ?_)
      · try simp only [decide_eq_true_eq, decide_eq_false_iff_not, Bool.not_eq_true', Bool.not_eq_false', Bool.and_eq_true, Bool.or_eq_true, Bool.and_eq_false_iff, Bool.or_eq_false_iff, Bool.not_true, Bool.not_false] at h3
        refine s_seq ?_
        refine s_region ?_
        refine o_p (p_pure rfl) rfl ?_
        refine o_nil ?_
        exact s_retv (rs := [.tmp 4]) rfl (.tmp rfl (.nil)) (fun w' h' => ⟨by simp only [retV, cmpI]; grind, h'.below⟩)
      · try simp only [decide_eq_true_eq, decide_eq_false_iff_not, Bool.not_eq_true', Bool.not_eq_false', Bool.and_eq_true, Bool.or_eq_true, Bool.and_eq_false_iff, Bool.or_eq_false_iff, Bool.not_true, Bool.not_false] at h3
        refine s_skip ?_
        refine s_seq ?_
        refine s_seq ?_
        refine s_region ?_
        refine o_p (p_pure rfl) rfl ?_
        refine o_p (p_pure rfl) rfl ?_
        refine o_p (p_pure rfl) rfl ?_
        refine o_nil ?_
        refine s_cond rfl (fun h4 => ?_) (fun h4 => ?_)
        · try simp only [decide_eq_true_eq, decide_eq_false_iff_not, Bool.not_eq_true', Bool.not_eq_false', Bool.and_eq_true, Bool.or_eq_true, Bool.and_eq_false_iff, Bool.or_eq_false_iff, Bool.not_true, Bool.not_false] at h4
          refine s_seq ?_
          refine s_region ?_
          refine o_p (p_pure rfl) rfl ?_
          refine o_nil ?_
          exact s_retv (rs := [.tmp 4]) rfl (.tmp rfl (.nil)) (fun w' h' => ⟨by simp only [retV, cmpI]; grind, h'.below⟩)
        · try simp only [decide_eq_true_eq, decide_eq_false_iff_not, Bool.not_eq_true', Bool.not_eq_false', Bool.and_eq_true, Bool.or_eq_true, Bool.and_eq_false_iff, Bool.or_eq_false_iff, Bool.not_true, Bool.not_false] at h4
          refine s_skip ?_
          refine s_seq ?_
          refine s_region ?_
          refine o_p (p_pure rfl) rfl ?_
          refine o_nil ?_
          exact s_retv (rs := [.tmp 4]) rfl (.tmp rfl (.nil)) (fun w' h' => ⟨by simp only [retV, cmpI]; grind, h'.below⟩)

set_option maxRecDepth 20000 in
theorem c90 (w : World) (a : Option Addr) (cap : Nat) (es : List Int) (hs : Sl w [] a 1 es.length (fun i => [.int .i64 (es.getD i 0)])) (hm : es.length ≤ 1000) : Calls Try.prog 90 #[.slice a es.length cap] w fun en w' => en = .returned (.int .i64 (firstI es)) ∧ Below w.heap.size w w' := by
  refine enter (args := [_]) Try.func90 Try.ntmps90 rfl rfl (HS.refl w []) ?_
  refine s_seq ?_
  refine s_region ?_
  refine o_p (p_pure rfl) rfl ?_
  refine o_nil ?_
  refine s_seq ?_
  refine s_region ?_
  refine o_p (p_pure rfl) rfl ?_
  refine o_nil ?_
  refine s_seq ?_
  refine s_seq ?_
  refine s_region ?_
  refine o_p (p_pure rfl) rfl ?_
  first | refine o_p (p_len_slice rfl rfl Try.underlying38) rfl ?_ | refine o_q (q_len_own rfl rfl Try.underlying38 (by repeat (first | exact .here | apply Pick.there))) rfl ?_
  refine o_p (p_pure rfl) rfl ?_
  refine o_nil ?_
  refine s_block ?_
  refine s_loopI (α := Nat) [2, 5, 8, 9, 10, 11, 12, 13, 14, 15, 16] (fun k => [(8, .int .i64 (k : Int))]) (fun _ => _) (fun k => k ≤ es.length ∧ firstI es = firstI (es.drop k)) (fun k => es.length - k) 0 ⟨by omega, rfl⟩ (by repeat (first | exact sl_n | refine sl_c rfl ?_)) (fun w h => h) (fun k hk => ?_)
  obtain ⟨hk1, hk2⟩ := hk
  refine s_seq ?_
  refine s_region ?_
  refine o_p (p_pure rfl) rfl ?_
  refine o_nil ?_
  refine s_seq ?_
  refine s_cond rfl (fun h1 => ?_) (fun h1 => ?_)
  · try simp only [decide_eq_true_eq, decide_eq_false_iff_not, Bool.not_eq_true', Bool.not_eq_false', Bool.and_eq_true, Bool.or_eq_true, Bool.and_eq_false_iff, Bool.or_eq_false_iff, Bool.not_true, Bool.not_false] at h1
    refine s_skip ?_
    refine s_seq ?_
    refine s_block ?_
    refine s_seq ?_
    refine s_region ?_
    first | refine o_p (p_indexAddr rfl rfl rfl sl_38 _ rfl (by omega) rfl) rfl ?_ | refine o_p (p_indexAddr rfl rfl rfl sl_38 (Int.toNat _) (Int.toNat_of_nonneg (by omega)).symm (by omega) rfl) rfl ?_ | refine o_p (p_indexAddr rfl rfl rfl sl_38 _ rfl (by omega) (hs.some (by omega))) rfl ?_ | refine o_p (p_indexAddr rfl rfl rfl sl_38 (Int.toNat _) (Int.toNat_of_nonneg (by omega)).symm (by omega) (hs.some (by omega))) rfl ?_
    first | refine o_q (q_load rfl rfl sz_3 (by repeat (first | exact .here | apply Pick.there)) rfl) rfl ?_ | refine o_q (q_load_old rfl rfl sz_3 (hs.rd (i := k) (j := 0) (by omega) rfl)) rfl ?_
    refine o_p (p_pure rfl) rfl ?_
    refine o_nil ?_
    refine s_seq ?_
    refine s_region ?_
    refine o_p (p_pure rfl) rfl ?_
    refine o_p (p_pure rfl) rfl ?_
    refine o_p (p_pure rfl) rfl ?_
    refine o_nil ?_
    refine s_cond rfl (fun h2 => ?_) (fun h2 => ?_)
    · try simp only [decide_eq_true_eq, decide_eq_false_iff_not, Bool.not_eq_true', Bool.not_eq_false', Bool.and_eq_true, Bool.or_eq_true, Bool.and_eq_false_iff, Bool.or_eq_false_iff, Bool.not_true, Bool.not_false] at h2
      refine s_seq ?_
      refine s_region ?_
      refine o_p (p_pure rfl) rfl ?_
      refine o_p (p_pure rfl) rfl ?_
      refine o_nil ?_
      exact s_retv (rs := [.tmp 2]) rfl (.tmp rfl (.nil)) (fun w' h' => ⟨by simp only [retV]; rw [hk2, firstI_drop (by omega), if_neg (by assumption)], h'.below⟩)
    · try simp only [decide_eq_true_eq, decide_eq_false_iff_not, Bool.not_eq_true', Bool.not_eq_false', Bool.and_eq_true, Bool.or_eq_true, Bool.and_eq_false_iff, Bool.or_eq_false_iff, Bool.not_true, Bool.not_false] at h2
      refine s_skip ?_
      refine s_blk ?_
      refine s_region ?_
      refine o_p (p_pure rfl) rfl ?_
      try (refine o_slot (i64w (by omega) (by omega)) ?_)
      refine o_p (p_pure rfl) rfl ?_
      refine o_nil ?_
      exact s_backI (k+1) (by omega) ⟨by omega, by rw [hk2, firstI_drop (by omega), if_pos (by assumption)]⟩ (by repeat (first | exact sl_n | refine sl_c rfl ?_)) (fun w h => h)
  · try simp only [decide_eq_true_eq, decide_eq_false_iff_not, Bool.not_eq_true', Bool.not_eq_false', Bool.and_eq_true, Bool.or_eq_true, Bool.and_eq_false_iff, Bool.or_eq_false_iff, Bool.not_true, Bool.not_false] at h1
    refine s_exit_to rfl ?_
    refine s_seq ?_
    refine s_region ?_
    refine o_p (p_pure rfl) rfl ?_
    refine o_p (p_pure rfl) rfl ?_
    refine o_nil ?_
    exact s_retv (rs := [.tmp 2]) rfl (.tmp rfl (.nil)) (fun w' h' => ⟨by simp only [retV]; rw [hk2, firstI_end (by omega)], h'.below⟩)

theorem f90 {w0 w : World} {M : List Nat} {As As' : List HA} {b cap n : Nat} {t : TypeId} {tot : Nat} {cs : List Value} (h : HS w0 M As w) (hp : Pick As (.blk b t tot cs) As') (hc : cs.all isI64 = true) (hn : cs.length = n) (hl : n ≤ 1000) :
    Calls Try.prog 90 #[.slice (some ⟨b, 0, none⟩) n cap] w fun en w' => en = .returned (.int .i64 (firstV cs)) ∧ Below w.heap.size w w' := by
  subst hn
  have := c90 w (some ⟨b, 0, none⟩) cap (cs.map intOf) (by simpa using h.sl_ints hp hc) (by simpa using hl)
  rw [firstV_eq hc] at this
  simpa using this

set_option maxRecDepth 20000 in
theorem c56 (w : World) (a b c d : Int) : Calls Try.prog 56 #[.agg #[.int .i64 a, .int .i64 b], .agg #[.int .i64 c, .int .i64 d]] w fun en w' => en = .returned (.int .i64 (cmp2 (a, b) (c, d))) ∧ Below w.heap.size w w' := by
  refine enter (args := [_, _]) Try.func56 Try.ntmps56 rfl rfl (HS.refl w []) ?_
  refine s_seq ?_
  refine s_region ?_
  refine o_h (h_box rfl rfl) rfl (fun b1 _ => ?_)
  refine o_h (h_box rfl rfl) rfl (fun b2 _ => ?_)
  refine o_p (p_pure rfl) rfl ?_
  refine o_nil ?_
  refine s_seq ?_
  refine s_draw [] mixed ?_
  refine d_p 0 rfl (p_fieldAddr rfl rfl fd_42_0 sz_3 rfl) (by kernel_rfl) rfl rfl ?_
  refine d_q 1 [] rfl (q_load rfl rfl sz_3 (by repeat (first | exact .here | apply Pick.there)) rfl) (by kernel_rfl) (by kernel_rfl) (by kernel_rfl) rfl ?_
  refine d_p 2 rfl (p_fieldAddr rfl rfl fd_42_0 sz_3 rfl) (by kernel_rfl) rfl rfl ?_
  refine d_q 3 [] rfl (q_load rfl rfl sz_3 (by repeat (first | exact .here | apply Pick.there)) rfl) (by kernel_rfl) (by kernel_rfl) (by kernel_rfl) rfl ?_
  refine d_q 4 [] rfl (q_call rfl fn_91 rfl (fun w1 h1 => c91 w1 _ _)) (by kernel_rfl) (by kernel_rfl) (by kernel_rfl) rfl ?_
  refine d_p 5 rfl (p_fieldAddr rfl rfl fd_42_1 sz_3 rfl) (by kernel_rfl) rfl rfl ?_
  refine d_q 6 [] rfl (q_load rfl rfl sz_3 (by repeat (first | exact .here | apply Pick.there)) rfl) (by kernel_rfl) (by kernel_rfl) (by kernel_rfl) rfl ?_
  refine d_p 7 rfl (p_fieldAddr rfl rfl fd_42_1 sz_3 rfl) (by kernel_rfl) rfl rfl ?_
  refine d_q 8 [] rfl (q_load rfl rfl sz_3 (by repeat (first | exact .here | apply Pick.there)) rfl) (by kernel_rfl) (by kernel_rfl) (by kernel_rfl) rfl ?_
  refine d_q 9 [] rfl (q_call rfl fn_91 rfl (fun w1 h1 => c91 w1 _ _)) (by kernel_rfl) (by kernel_rfl) (by kernel_rfl) rfl ?_
  refine d_h 10 rfl (h_buildSlice (cs := [_, _]) rfl rfl sl_38 zr_3 rfl rfl rfl) (by kernel_rfl) (fun w h => h.ent (by repeat (first | exact .nil | refine .cons (by repeat (first | exact .here | apply Pick.there)) ?_))) rfl (fun b3 _ => ?_)
  refine d_base (fun w h => h.ent (by repeat (first | exact .nil | refine .cons (by repeat (first | exact .here | apply Pick.there)) ?_))) ?_
  refine d_q 11 [] rfl (q_call rfl fn_90 rfl (fun w1 h1 => f90 h1 (by repeat (first | exact .here | apply Pick.there)) (by rfl) (by rfl) (by decide))) (by kernel_rfl) (by kernel_rfl) (by kernel_rfl) rfl ?_
  refine d_p 12 rfl (p_pure rfl) (by kernel_rfl) rfl rfl ?_
  refine d_nil (by kernel_rfl) (fun w h => h.ent (by repeat (first | exact .nil | refine .cons (by repeat (first | exact .here | apply Pick.there)) ?_))) ?_
  exact s_retv (rs := [.tmp 4]) rfl (.tmp rfl (.nil)) (fun w' h' => ⟨by simp only [retV, cmp2]; rfl, h'.below⟩)

end Go.Proofs

/- A binary search over a list of answers. Nothing of a program is named here. -/
namespace Gx
set_option linter.unusedVariables false
open Go Go.RowKit
theorem u64w32 (n : Nat) (h : n < 4294967296) : IntKind.u64.wrap (n : Int) = n := by
  rw [IntKind.wrap_u64]; omega
def bsC (cs : List Int) : Nat → Nat → Nat → Nat
  | 0, lo, _ => lo
  | m + 1, lo, hi => if lo < hi then if cs.getD ((lo + hi) / 2) 0 < 0 then bsC cs m ((lo + hi) / 2 + 1) hi else bsC cs m lo ((lo + hi) / 2) else lo
def bsL (cs : List Int) : Nat := bsC cs cs.length 0 cs.length
def bsF' (cs : List Int) : Bool := decide (bsL cs < cs.length) && decide (cs.getD (bsL cs) 0 = 0)
theorem bsC_step {cs : List Int} {m lo hi : Nat} (hl : lo < hi) (hn : hi - lo ≤ m) : ∃ q, m = q + 1 ∧ (bsC cs m lo hi = if cs.getD ((lo + hi) / 2) 0 < 0 then bsC cs q ((lo + hi) / 2 + 1) hi else bsC cs q lo ((lo + hi) / 2)) := by
  cases m with
  | zero => omega
  | succ q => exact ⟨q, rfl, by rw [bsC, if_pos hl]⟩
theorem bsC_end (cs : List Int) : ∀ (n lo hi : Nat), ¬ lo < hi → bsC cs n lo hi = lo
  | 0, _, _, _ => rfl
  | n + 1, lo, hi, h => by rw [bsC, if_neg h]
/-- Where the answers below 0 come first, the search ends behind them. -/
theorem bsC_spec {cs : List Int} {p : Nat} (hp : p ≤ cs.length) (h1 : ∀ i, i < p → cs.getD i 0 < 0) (h2 : ∀ i, p ≤ i → i < cs.length → ¬ cs.getD i 0 < 0) : ∀ (n lo hi : Nat), hi - lo ≤ n → lo ≤ p → p ≤ hi → hi ≤ cs.length → bsC cs n lo hi = p
  | 0, lo, hi, hn, a, b, c => by rw [bsC]; omega
  | n + 1, lo, hi, hn, a, b, c => by
    rw [bsC]
    by_cases hl : lo < hi
    · rw [if_pos hl]
      by_cases hx : cs.getD ((lo + hi) / 2) 0 < 0
      · rw [if_pos hx]
        have : (lo + hi) / 2 < p := by
          rcases Nat.lt_or_ge ((lo + hi) / 2) p with h | h
          · exact h
          · exact absurd hx (h2 _ h (by omega))
        exact bsC_spec hp h1 h2 n _ _ (by omega) (by omega) b c
      · rw [if_neg hx]
        have : p ≤ (lo + hi) / 2 := by
          rcases Nat.lt_or_ge ((lo + hi) / 2) p with h | h
          · exact absurd (h1 _ h) hx
          · exact h
        exact bsC_spec hp h1 h2 n _ _ (by omega) a this (by omega)
    · rw [if_neg hl]; omega
theorem bsL_spec {cs : List Int} {p : Nat} (hp : p ≤ cs.length) (h1 : ∀ i, i < p → cs.getD i 0 < 0) (h2 : ∀ i, p ≤ i → i < cs.length → ¬ cs.getD i 0 < 0) : bsL cs = p :=
  bsC_spec hp h1 h2 _ _ _ (by omega) (Nat.zero_le _) hp (Nat.le_refl _)
end Gx

/- Chapter 25: what owns a table, opened at a file and at a handle, and shut again; loads of what a class owns. Nothing of a program is named here. -/
namespace Gx
set_option linter.unusedSimpArgs false
set_option linter.unusedVariables false
set_option linter.unusedSectionVars false
open Go Go.RowKit
section
variable {P : Program} {o : Oper} {L : Slots} {w0 : World} {M : List Nat} {As As' : List HA}
theorem q_load_at {t x b i : Nat} {v : Value} (ho : o.op = .load t (.tmp x)) (hx : Slots.get L x = some (.pointer (some ⟨b, i, none⟩))) (hs : tsz P t = some (1, false)) (hr : ∀ w, HS w0 M As w → Rd w [] b i v) : OpQ P o L (HS w0 M As) v := by
  intro ρ w hρ hw
  simp only [execOp, ho, Sem.run_bind, hρ (.tmp x) _ hx, loadAt_run1 hs (hr w hw).2.2, Result.andThen_ok, Sem.run_pure]
  exact ⟨rfl, Below.refl _ _⟩
theorem q_load_atn {t x b i n : Nat} (vs : List Value) (ho : o.op = .load t (.tmp x)) (hx : Slots.get L x = some (.pointer (some ⟨b, i, none⟩))) (hs : tsz P t = some (n, true)) (hl : vs.length = n) (hr : ∀ w, HS w0 M As w → ∀ j v, vs[j]? = some v → Rd w [] b (i + j) v) : OpQ P o L (HS w0 M As) (.agg vs.toArray) := by
  intro ρ w hρ hw
  simp only [execOp, ho, Sem.run_bind, hρ (.tmp x) _ hx, loadAt_runn hs hl (fun j v hv => (hr w hw j v hv).2.2), Result.andThen_ok, Sem.run_pure]
  exact ⟨rfl, Below.refl _ _⟩
end
/-- A region whose order is open, its base weaker than the class. -/
theorem s_drawB {X : Ctx} {k : List KI} {L : Slots} {w0 : World} {M : List Nat} {As : List HA} {id : Nat} {l : List Oper} (Bs : List HA) (F : List Nat) (hm : X.P.follows .mixedOrders = true) (h : D X l.toArray F (HS w0 M Bs) l.length (Array.replicate l.length false) k L (HS w0 M As)) : S X (.c (.region id l.toArray true) :: k) L (HS w0 M As) := by
  intro a w ha hw
  refine wp_region_any hm ?_
  have := h (closed_none _ _) a ha
  simpa using wpAny_of_WG (Q' := post X k) (fun _ _ h => h) _ _ a (HS w0 M As) _ hw.drew this
theorem p_neq_bool {P : Program} {o : Oper} {L : Slots} {t t' : TypeId} {x y : Operand} {a b : Bool} (ho : o.op = .binOp .neq t x y t') (hx : ev L x = some (.bool a)) (hy : ev L y = some (.bool b)) (ht : P.underlying t = some .bool) : OpP P o L (.bool (!(a == b))) := by
  intro ρ w hρ
  have hg : (eqGuard .neq t x y (.bool a) (.bool b)).run P w = .ok () w := by unfold eqGuard; simp
  have hb : (binOp .neq t (.bool a) (.bool b)).run P w = .ok (.bool (!(a == b))) w := by simp [binOp, Go.run_equal_bool w t a b ht]
  simp only [execOp, ho, hρ _ _ hx, hρ _ _ hy, Sem.run_bind, hg, hb, Result.andThen_ok, Sem.run_pure]
theorem p_eql_bool {P : Program} {o : Oper} {L : Slots} {t t' : TypeId} {x y : Operand} {a b : Bool} (ho : o.op = .binOp .eql t x y t') (hx : ev L x = some (.bool a)) (hy : ev L y = some (.bool b)) (ht : P.underlying t = some .bool) : OpP P o L (.bool (a == b)) := by
  intro ρ w hρ
  have hg : (eqGuard .eql t x y (.bool a) (.bool b)).run P w = .ok () w := by unfold eqGuard; simp
  have hb : (binOp .eql t (.bool a) (.bool b)).run P w = .ok (.bool (a == b)) w := by simp [binOp, Go.run_equal_bool w t a b ht]
  simp only [execOp, ho, hρ _ _ hx, hρ _ _ hy, Sem.run_bind, hg, hb, Result.andThen_ok, Sem.run_pure]
theorem set_vals {α : Type} [Inhabited α] {vals : α → List Value} : ∀ {l : List α} {i : Nat} {x : α}, i < l.length → vals x = vals (nth l i) → (l.set i x).flatMap vals = l.flatMap vals
  | [], i, x, h, _ => by cases h
  | y :: l, 0, x, h, e => by
    rw [List.set_cons_zero, List.flatMap_cons, List.flatMap_cons, e]
    rfl
  | y :: l, i + 1, x, h, e => by
    rw [List.set_cons_succ, List.flatMap_cons, List.flatMap_cons, set_vals (l := l) (i := i) (x := x) (by simpa using h) e]
section
variable {w0 w : World} {M : List Nat} {As As' : List HA} {a : Option Addr} {cap : Nat}
theorem own_addr {t sz n : Nat} {xs : List Value} (hn : 0 < n) (h : HS w0 M As w) (hp : Pick As (.own (.slice a n cap) t sz n xs) As') : ∃ g, a = some ⟨g, 0, none⟩ ∧ n ≤ cap ∧ cap ≤ maxLen := by
  obtain ⟨g, e, _, h1, h2, _⟩ := h.own_blk hn hp
  exact ⟨g, e, h1, h2⟩
theorem files_addr {l : List LFil} (hn : 0 < l.length) (h : HS w0 M As w) (hp : Pick As (.files a cap l) As') : ∃ g, a = some ⟨g, 0, none⟩ ∧ l.length ≤ cap ∧ cap ≤ maxLen := own_addr hn (HS.row_open (h.pick hp)) .here
def subF (f : LFil) : HA := .opens f.oa f.oc f.op
def subO (o : LOpn) : HA := .locks o.la o.lc o.lk
theorem HS.files_open {l : List LFil} (h : HS w0 M As w) (hp : Pick As (.files a cap l) As') : HS w0 M (.own (.slice a l.length cap) 77 4 l.length (l.flatMap LFil.vals) :: .star (l.map subF) :: As') w := HS.row_open (h.pick hp)
theorem HS.files_shut {l : List LFil} {n : Nat} {xs : List Value} (h : HS w0 M (.own (.slice a n cap) 77 4 n xs :: .star (l.map subF) :: As) w) (hn : n = l.length) (hx : xs = l.flatMap LFil.vals) : HS w0 M (.files a cap l :: As) w := HS.row_shut h hn hx
/-- At file i: the row of the files as a block, the opens of this file, the others'. -/
theorem HS.file_at {l : List LFil} {i g : Nat} (hi : i < l.length) (h : HS w0 M As w) (hp : Pick As (.files (some ⟨g, 0, none⟩) cap l) As') : HS w0 M (.blk g 77 (cap * 4) (l.flatMap LFil.vals) :: .opens (nth l i).oa (nth l i).oc (nth l i).op :: .star ((others l i).map subF) :: As') w := by
  have h1 := HS.files_open h hp
  obtain ⟨g', e, _, _, _, _, h2⟩ := h1.own_blk (by omega) .here
  injection e with e
  injection e with e
  subst e
  have h3 : HS w0 M (.star (l.map subF) :: .blk g 77 (cap * 4) (l.flatMap LFil.vals) :: As') w := h2.perm (List.Perm.swap ..)
  have h4 := h3.sub_open hi
  exact h4.perm ((List.Perm.cons _ (List.Perm.swap ..)).trans (List.Perm.swap ..))
theorem HS.file_put {l : List LFil} {i g : Nat} {f : LFil} {cs : List Value} (hi : i < l.length) (h : HS w0 M (.blk g 77 (cap * 4) cs :: .opens f.oa f.oc f.op :: .star ((others l i).map subF) :: As) w) (hc : cs = (l.set i f).flatMap LFil.vals) (hn : l.length ≤ cap) (hm : cap ≤ maxLen) : HS w0 M (.files (some ⟨g, 0, none⟩) cap (l.set i f) :: As) w := by
  have h1 : HS w0 M (subF f :: .star ((others l i).map subF) :: .blk g 77 (cap * 4) cs :: As) w := h.perm ((List.Perm.swap ..).trans (List.Perm.cons _ (List.Perm.swap ..)))
  have h2 := HS.sub_shut hi h1
  have h3 : HS w0 M (.blk g 77 (cap * 4) cs :: .star ((l.set i f).map subF) :: As) w := h2.perm (List.Perm.swap ..)
  refine HS.files_shut (n := (l.set i f).length) (h3.own_shut (by rw [hc, flat_length fv4]) (by rw [List.length_set]; exact hn) hm) rfl hc
/-- At handle k of the opens of a file. -/
theorem HS.open_at {l : List LOpn} {k g : Nat} (hk : k < l.length) (h : HS w0 M As w) (hp : Pick As (.opens (some ⟨g, 0, none⟩) cap l) As') : HS w0 M (.blk g 48 (cap * 5) (l.flatMap LOpn.vals) :: .locks (nth l k).la (nth l k).lc (nth l k).lk :: .star ((others l k).map subO) :: As') w := by
  have h1 := HS.row_open (h.pick hp)
  obtain ⟨g', e, _, _, _, _, h2⟩ := h1.own_blk (by omega) .here
  injection e with e
  injection e with e
  subst e
  have h3 : HS w0 M (.star (l.map subO) :: .blk g 48 (cap * 5) (l.flatMap LOpn.vals) :: As') w := h2.perm (List.Perm.swap ..)
  have h4 := h3.sub_open hk
  exact h4.perm ((List.Perm.cons _ (List.Perm.swap ..)).trans (List.Perm.swap ..))
theorem HS.open_put {l : List LOpn} {k g : Nat} {o : LOpn} {cs : List Value} (hk : k < l.length) (h : HS w0 M (.blk g 48 (cap * 5) cs :: .locks o.la o.lc o.lk :: .star ((others l k).map subO) :: As) w) (hc : cs = (l.set k o).flatMap LOpn.vals) (hn : l.length ≤ cap) (hm : cap ≤ maxLen) : HS w0 M (.opens (some ⟨g, 0, none⟩) cap (l.set k o) :: As) w := by
  have h1 : HS w0 M (subO o :: .star ((others l k).map subO) :: .blk g 48 (cap * 5) cs :: As) w := h.perm ((List.Perm.swap ..).trans (List.Perm.cons _ (List.Perm.swap ..)))
  have h2 := HS.sub_shut hk h1
  have h3 : HS w0 M (.blk g 48 (cap * 5) cs :: .star ((l.set k o).map subO) :: As) w := h2.perm (List.Perm.swap ..)
  exact HS.row_shut (n := (l.set k o).length) (h3.own_shut (by rw [hc, flat_length ov5]) (by rw [List.length_set]; exact hn) hm) rfl hc
theorem opens_addr {l : List LOpn} (hn : 0 < l.length) (h : HS w0 M As w) (hp : Pick As (.opens a cap l) As') : ∃ g, a = some ⟨g, 0, none⟩ ∧ l.length ≤ cap ∧ cap ≤ maxLen := own_addr hn (HS.row_open (h.pick hp)) .here
/-- At the locks of handle k of file i. -/
theorem HS.lock_at {l : List LFil} {i k g go : Nat} (hi : i < l.length) (hk : k < (nth l i).op.length) (hoa : (nth l i).oa = some ⟨go, 0, none⟩) (h : HS w0 M As w) (hp : Pick As (.files (some ⟨g, 0, none⟩) cap l) As') : HS w0 M (.blk go 48 ((nth l i).oc * 5) ((nth l i).op.flatMap LOpn.vals) :: .locks (nth (nth l i).op k).la (nth (nth l i).op k).lc (nth (nth l i).op k).lk :: .star ((others (nth l i).op k).map subO) :: .blk g 77 (cap * 4) (l.flatMap LFil.vals) :: .star ((others l i).map subF) :: As') w := by
  have h1 := HS.file_at hi h hp
  rw [hoa] at h1
  exact HS.open_at hk h1 (.there .here)
theorem HS.lock_put {l : List LFil} {i k g go : Nat} {o : LOpn} {cs : List Value} (hi : i < l.length) (hk : k < (nth l i).op.length) (hoa : (nth l i).oa = some ⟨go, 0, none⟩) (h : HS w0 M (.blk go 48 ((nth l i).oc * 5) cs :: .locks o.la o.lc o.lk :: .star ((others (nth l i).op k).map subO) :: .blk g 77 (cap * 4) (l.flatMap LFil.vals) :: .star ((others l i).map subF) :: As) w) (hc : cs = ((nth l i).op.set k o).flatMap LOpn.vals) (hoc : (nth l i).op.length ≤ (nth l i).oc) (hom : (nth l i).oc ≤ maxLen) (hn : l.length ≤ cap) (hm : cap ≤ maxLen) : HS w0 M (.files (some ⟨g, 0, none⟩) cap (l.set i { nth l i with op := (nth l i).op.set k o }) :: As) w := by
  have h1 := HS.open_put hk h hc hoc hom
  rw [← hoa] at h1
  refine HS.file_put (f := { nth l i with op := (nth l i).op.set k o }) hi (h1.perm (List.Perm.swap ..)) ?_ hn hm
  exact (set_vals hi (by simp [LFil.vals])).symm
theorem HS.blk_to {b t tot : Nat} {cs cs' : List Value} (h : HS w0 M As w) (hp : Pick As (.blk b t tot cs) As') (he : cs = cs') : HS w0 M (.blk b t tot cs' :: As') w := by
  subst he
  exact h.pick hp
theorem HS.opens_split {l : List LOpn} (h : HS w0 M As w) (hp : Pick As (.opens a cap l) As') : HS w0 M (.own (.slice a l.length cap) 48 5 l.length (l.flatMap LOpn.vals) :: .star (l.map subO) :: As') w := HS.row_open (h.pick hp)
theorem HS.opens_less {l : List LOpn} {k n : Nat} {xs : List Value} (hk : k < l.length) (h : HS w0 M (.own (.slice a n cap) 48 5 n xs :: .star (l.map subO) :: As) w) (hn : n = (others l k).length) (hx : xs = (others l k).flatMap LOpn.vals) : HS w0 M (.opens a cap (others l k) :: As) w := by
  have h1 : HS w0 M (.star (l.map subO) :: .own (.slice a n cap) 48 5 n xs :: As) w := h.perm (List.Perm.swap ..)
  exact HS.row_shut ((h1.sub_drop hk).perm (List.Perm.swap ..)) hn hx
theorem HS.opens_more {l : List LOpn} {o : LOpn} {n : Nat} {xs : List Value} (h : HS w0 M (.own (.slice a n cap) 48 5 n xs :: .star (l.map subO) :: subO o :: As) w) (hn : n = (l ++ [o]).length) (hx : xs = (l ++ [o]).flatMap LOpn.vals) : HS w0 M (.opens a cap (l ++ [o]) :: As) w := by
  have h1 : HS w0 M (subO o :: .star (l.map subO) :: .own (.slice a n cap) 48 5 n xs :: As) w := h.perm ((List.Perm.swap ..).trans ((List.Perm.cons _ (List.Perm.swap ..)).trans (List.Perm.swap ..)))
  exact HS.row_shut (h1.sub_app.perm (List.Perm.swap ..)) hn hx
/-- The address of a file's opens in a table. -/
theorem file_addr {l : List LFil} {i : Nat} (hi : i < l.length) (hn : 0 < (nth l i).op.length) (h : HS w0 M As w) (hp : Pick As (.files a cap l) As') : ∃ g, (nth l i).oa = some ⟨g, 0, none⟩ ∧ (nth l i).op.length ≤ (nth l i).oc ∧ (nth l i).oc ≤ maxLen := by
  have h1 := (HS.files_open h hp).tail.sub_open hi
  exact opens_addr hn h1 .here
end
/-! ## Plain acts -/
/-- Few files, handles and locks, all in their ranges. -/
structure VW (L : List Fil) : Prop where
  len : L.length ≤ 32
  cnt : cntT L ≤ 32
  op : ∀ f ∈ L, ∀ o ∈ f.op, openE o.ac o.sh = 0 ∧ (∀ k ∈ o.lk, rngE k.fr k.cnt = 0) ∧ o.lk.length ≤ 16
end Gx

/- From a reading of the arguments to what their values are; and back, for a law that answers true and writes to nothing old. -/
namespace Gx
open Go Go.RowKit Go.ChangeShapes Go.WideShapes Go.ChangeAt

section
variable {H : Type} {enc : TypeId × Value → H} {P : Program} {W : World}
/-- What is known of cells that read as a type's. -/
def okT (P : Program) (W : World) : Nat → TypeId → List Value → Prop
  | 0, _, _ => False
  | d + 1, t, cs => match P.underlying t with
    | some (.int k) => ∃ n, cs = [.int k n] ∧ (Lit.int k n).wf = true
    | some .string => ∃ l, cs = [.string (bs l)] ∧ l.length ≤ maxLen
    | some .bool => ∃ b, cs = [.bool b]
    | some (.slice e) => ∃ a n cap cell, cs = [.slice a n cap] ∧ n ≤ cap ∧ cap ≤ maxLen ∧ (0 < P.cellsOf e → Sl W [] a (P.cellsOf e) n cell) ∧ ∀ i, i < n → okT P W d e (cell i)
    | some (.struct fs) => cs.length = P.cellsOf t ∧ ∀ f ∈ fs.toList, okT P W d f.type ((cs.drop f.offset).take (P.cellsOf f.type))
    | some (.array n e) => cs.length = P.cellsOf t ∧ ∀ i, i < n → okT P W d e ((cs.drop (i * P.cellsOf e)).take (P.cellsOf e))
    | _ => True
theorem cells?_get {a : Addr} {n : Nat} {cs : List Value} (h : W.cells? 0 a n = some cs) : cs.length = n ∧ ∀ j v, cs[j]? = some v → W.cell? (a.add j) = some v := by
  unfold World.cells? at h
  rw [if_pos (Nat.zero_le _)] at h
  have hl : cs.length = n := by simpa using mapM_some_length h
  refine ⟨hl, fun j v hv => ?_⟩
  have hj : j < n := by rw [← hl]; exact (List.getElem?_eq_some_iff.1 hv).1
  have := mapM_some_get h j j (by simp [hj])
  rw [this, hv]
theorem okT_of_trod {sp : Nat → Bool} {held : Bool} : ∀ (d : Nat) (t : TypeId) (cs : List Value) (x : DataW H × List MemPlace), DataW.trod enc P W 0 sp held d t cs = some x → okT P W d t cs
  | 0, _, _, _, h => by simp [DataW.trod] at h
  | d + 1, t, cs, x, h => by
    rw [okT]
    split
    · rename_i k hu
      obtain ⟨n, rfl, _, hw⟩ := DataW.trod_int hu h
      exact ⟨n, rfl, hw⟩
    · rename_i hu
      obtain ⟨s, rfl, _, hs⟩ := DataW.trod_string hu h
      exact ⟨s.data.toList, rfl, hs⟩
    · rename_i hu
      obtain ⟨b, rfl, _⟩ := DataW.trod_bool hu h
      exact ⟨b, rfl⟩
    · rename_i e hu
      rcases DataW.trod_slice hu h with ⟨rfl, _⟩ | ⟨a, len, cap, elems, rest, n, hn, rfl, _, _, hl, hc, hel, hg, _⟩
      · exact ⟨none, 0, 0, fun _ => [], rfl, Nat.le_refl _, Nat.zero_le _, fun _ => ⟨fun h0 => absurd h0 (Nat.lt_irrefl _)⟩, fun i hi => absurd hi (Nat.not_lt_zero i)⟩
      · cases hn
        have hx : ∀ i, i < len → ∃ c y, W.cells? 0 (a.add (i * P.cellsOf e)) (P.cellsOf e) = some c ∧ DataW.trod enc P W 0 sp held d e c = some y := fun i hi => by
          have h1 := hg i hi
          have h2 : ∃ y, elems[i]? = some y := ⟨_, List.getElem?_eq_getElem (by omega)⟩
          obtain ⟨y, hy⟩ := h2
          rw [hy, Option.bind_eq_some_iff] at h1
          obtain ⟨c, e1, e2⟩ := h1
          exact ⟨c, y, e1, e2⟩
        have hcell : ∀ i, ∃ c, i < len → ∃ y, W.cells? 0 (a.add (i * P.cellsOf e)) (P.cellsOf e) = some c ∧ DataW.trod enc P W 0 sp held d e c = some y := fun i => by
          by_cases hi : i < len
          · obtain ⟨c, y, e1, e2⟩ := hx i hi; exact ⟨c, fun _ => ⟨y, e1, e2⟩⟩
          · exact ⟨[], fun h => absurd h hi⟩
        obtain ⟨cell, hcell⟩ := Classical.axiomOfChoice hcell
        refine ⟨some a, len, cap, cell, rfl, hl, hc, fun h0 => ⟨fun hpos => ?_⟩, fun i hi => ?_⟩
        · have hsp : a.spot = none := by
            obtain ⟨y, e1, _⟩ := hcell 0 hpos
            obtain ⟨e2, e3⟩ := cells?_get e1
            have hz : 0 < (cell 0).length := by omega
            have e4 := e3 0 _ (List.getElem?_eq_getElem hz)
            have e5 : (a.add (0 * P.cellsOf e)).add 0 = a := by simp [Addr.add]
            rw [e5] at e4
            unfold World.cell? at e4
            split at e4
            · split at e4
              · cases e4
              · rename_i hns
                cases hsx : a.spot with
                | none => rfl
                | some v => rw [hsx] at hns; simp at hns
            · cases e4
          obtain ⟨b, o, s⟩ := a
          simp only at hsp
          subst hsp
          refine ⟨b, o, rfl, fun i hi => ?_⟩
          obtain ⟨y, e1, _⟩ := hcell i hi
          obtain ⟨e2, e3⟩ := cells?_get e1
          refine ⟨e2, fun j v hv => ?_⟩
          have e4 := e3 j v hv
          have e5 : ((⟨b, o, none⟩ : Addr).add (i * P.cellsOf e)).add j = ⟨b, o + i * P.cellsOf e + j, none⟩ := by rw [addr_add, addr_add]
          rw [e5] at e4
          refine ⟨?_, by simp, e4⟩
          unfold World.cell? at e4
          split at e4
          · rename_i hh
            exact (Array.getElem?_eq_some_iff.1 hh).1
          · cases e4
        · obtain ⟨y, _, e2⟩ := hcell i hi
          exact okT_of_trod d e _ y e2
    · rename_i fs hu
      obtain ⟨xs, n, hn, _, hl, hxl, hg⟩ := DataW.trod_struct hu h
      cases hn
      refine ⟨hl, fun f hf => ?_⟩
      obtain ⟨i, hi, rfl⟩ := List.getElem_of_mem hf
      have hi' : i < fs.size := by simpa using hi
      have h1 := hg i fs[i] (by simp [hi'])
      rw [List.getElem?_eq_getElem (by omega)] at h1
      exact okT_of_trod d _ _ _ (by simpa using h1)
    · rename_i n e hu
      obtain ⟨xs, m, hm, _, hl, hxl, hg⟩ := DataW.trod_array hu h
      cases hm
      refine ⟨hl, fun i hi => ?_⟩
      have h1 := hg i hi
      rw [List.getElem?_eq_getElem (by omega)] at h1
      exact okT_of_trod d _ _ _ h1
    · trivial
/-! ## By shape -/
section
variable {d : Nat} {t : TypeId} {cs : List Value}
theorem okT_int {k : IntKind} (h : okT P W d t cs) (hu : P.underlying t = some (.int k)) : ∃ n, cs = [.int k n] ∧ (Lit.int k n).wf = true := by
  cases d with
  | zero => cases h
  | succ d => rw [okT, hu] at h; exact h
theorem okT_bool (h : okT P W d t cs) (hu : P.underlying t = some .bool) : ∃ b, cs = [.bool b] := by
  cases d with
  | zero => cases h
  | succ d => rw [okT, hu] at h; exact h
theorem okT_sl {e : TypeId} (h : okT P W d t cs) (hu : P.underlying t = some (.slice e)) (hc : 0 < P.cellsOf e) : ∃ d' a n cap cell, cs = [.slice a n cap] ∧ n ≤ cap ∧ cap ≤ maxLen ∧ Sl W [] a (P.cellsOf e) n cell ∧ ∀ i, i < n → okT P W d' e (cell i) := by
  cases d with
  | zero => cases h
  | succ d =>
    rw [okT, hu] at h
    obtain ⟨a, n, cap, cell, h1, h2, h3, h4, h5⟩ := h
    exact ⟨d, a, n, cap, cell, h1, h2, h3, h4 hc, h5⟩
theorem okT_st {fs : Array Field} (h : okT P W d t cs) (hu : P.underlying t = some (.struct fs)) : ∃ d', cs.length = P.cellsOf t ∧ ∀ f ∈ fs.toList, okT P W d' f.type ((cs.drop f.offset).take (P.cellsOf f.type)) := by
  cases d with
  | zero => cases h
  | succ d => rw [okT, hu] at h; exact ⟨d, h⟩
end
theorem okT_trod {sp : Nat → Bool} {held : Bool} {t : TypeId} {v : Value} {x : DataW H} {ps : List MemPlace} (h : DataW.Trod enc P W 0 sp held t v x ps) : ∃ d, okT P W d t v.cells.toList := by
  obtain ⟨d, h⟩ := h
  exact ⟨d, okT_of_trod d t _ _ h⟩
theorem agg_of {t : TypeId} {v : Value} {r : Reach} {b0 : Nat} (hval : Value.okWide P W r b0 t v) (ha : (match P.underlying t with | some (.struct _) | some (.array _ _) => true | _ => false) = true) : ∃ cs : List Value, v = .agg cs.toArray ∧ v.cells.toList = cs := by
  unfold Value.okWide at hval
  split at ha
  · rename_i hu; rw [hu] at hval; obtain ⟨cs, rfl, _⟩ := hval; exact ⟨cs.toList, rfl, rfl⟩
  · rename_i hu; rw [hu] at hval; obtain ⟨cs, rfl, _⟩ := hval; exact ⟨cs.toList, rfl, rfl⟩
  · cases ha
theorem wf_i64 {n : Int} (h : (Lit.int .i64 n).wf = true) : -9223372036854775808 ≤ n ∧ n ≤ 9223372036854775807 := by
  simpa [Lit.wf, IntKind.min, IntKind.max, IntKind.signed, IntKind.bits] using h
/-! ## A law that answers true and writes to nothing old -/
theorem trodAll_later (hl : laidOutB P = true) {W' : World} (hb : Below W.heap.size W W') : ∀ {ts : List TypeId} {vs : List Value} {ds : List (DataW H)} {ps : List MemPlace}, ts.all (fun t => P.readableRec t && decide (t < P.types.size)) = true →
    DataW.TrodAll enc P W 0 (fun _ => true) true ts vs ds ps → (∀ x ∈ ps, x.block < W.heap.size) → DataW.TrodAll enc P W' 0 (fun b => decide (b < W.heap.size)) true ts vs ds ps
  | [], [], [], _, _, h, _ => h
  | [], _ :: _, _, _, _, h, _ => (by cases h)
  | [], [], _ :: _, _, _, h, _ => (by cases h)
  | _ :: _, [], _, _, _, h, _ => (by cases h)
  | _ :: _, _ :: _, [], _, _, h, _ => (by cases h)
  | t :: ts, v :: vs, d :: ds, ps, hr, h, hlt => by
    obtain ⟨p, q, h1, h2, rfl⟩ := h
    simp only [List.all_cons, Bool.and_eq_true, decide_eq_true_eq] at hr
    exact ⟨p, q, Below.trod hl hr.1.1 hr.1.2 h1 hb (fun x hx => hlt x (List.mem_append_left _ hx)), trodAll_later hl hb hr.2 h2 (fun x hx => hlt x (List.mem_append_right _ hx)), rfl⟩
theorem post_true {f : Func} {s : ChangeSpec} {apart fresh handsOn : Bool} {W' : World} {args : Array Value} {ds gs : List (DataW H)} {before : List MemPlace} {tb : TypeId}
    (hl : laidOutB P = true) (hr : f.params.toList.all (fun t => P.readableRec t && decide (t < P.types.size)) = true) (hbool : f.resultTypes = #[tb]) (htb : P.underlying tb = some .bool) (hv : s.vars = [])
    (hs : s.fn H ds = { results := [.lit (.bool true)], args := ds }) (hW : DataW.Whole enc P f.params.toList s.vars apart W args.toList ds gs before) (hb : Below W.heap.size W W') :
    s.post enc P f apart fresh handsOn false W args (.bool true) W' := by
  have hW' := hW
  obtain ⟨p, q, hA, hV, rfl, hfz, hnd⟩ := hW
  rw [hv] at hV
  obtain ⟨rfl, rfl⟩ := trodVars_none hV
  have hlt : ∀ x ∈ p, x.block < W.heap.size := fun x hx => by simpa using hW'.lt x (by simpa using hx)
  refine ⟨ds, [], p ++ [], [], p, [], hW', ?_, ?_, ?_, hb.frame _, fun h => by cases h⟩
  · rw [List.append_nil, hs, hbool]
    exact trodAll_mk1 (shut_bool htb true)
  · rw [List.append_nil, hs]
    exact trodAll_later hl hb hr hA hlt
  · rw [List.append_nil, hs, hv]
    rfl
end
end Gx

/- Chapter 25: arguments that read as tables of handles, as rows of plain data. -/
namespace Go.Proofs
open Go Go.RowKit Gx
set_option linter.unusedVariables false
set_option linter.unusedSimpArgs false
theorem rw_of {α : Type} [Inhabited α] {vals : α → List Value} {sz n : Nat} {W : World} {a : Option Addr} {cell : Nat → List Value} {Q : α → Prop} (hs : Sl W [] a sz n cell) (hr : ∀ i, i < n → ∃ x, cell i = vals x ∧ Q x) : ∃ l : List α, n = l.length ∧ Rw vals sz W [] a l ∧ (∀ x ∈ l, Q x) ∧ ∀ i, i < n → cell i = vals (nth l i) := by
  have hr2 : ∀ i, ∃ x, i < n → cell i = vals x ∧ Q x := fun i => by
    by_cases hi : i < n
    · obtain ⟨x, h⟩ := hr i hi
      exact ⟨x, fun _ => h⟩
    · exact ⟨default, fun h => absurd h hi⟩
  obtain ⟨f, hf⟩ := Classical.axiomOfChoice hr2
  have hg : ∀ i, i < n → nth ((List.range n).map f) i = f i := fun i hi => by
    simp only [nth, List.getD_eq_getElem?_getD, List.getElem?_map, List.getElem?_range hi, Option.map_some, Option.getD_some]
  refine ⟨(List.range n).map f, by simp, ⟨fun hn => ?_⟩, fun x hx => ?_, fun i hi => ?_⟩
  · rw [List.length_map, List.length_range] at hn
    obtain ⟨b, o, e, h2⟩ := hs.at_ hn
    refine ⟨b, o, e, fun i hi => ?_⟩
    rw [List.length_map, List.length_range] at hi
    have h3 := h2 i hi
    rw [(hf i hi).1] at h3
    rw [hg i hi]
    exact h3
  · obtain ⟨i, hi, rfl⟩ := List.mem_map.1 hx
    exact (hf i (List.mem_range.1 hi)).2
  · rw [hg i hi]
    exact (hf i hi).1
theorem tcells3 : Try.prog.cellsOf 3 = 1 := by kernel_rfl
theorem tcells4 : Try.prog.cellsOf 4 = 1 := by kernel_rfl
theorem tcells42 : Try.prog.cellsOf 42 = 2 := by kernel_rfl
theorem tcells46 : Try.prog.cellsOf 46 = 1 := by kernel_rfl
theorem tcells75 : Try.prog.cellsOf 75 = 1 := by kernel_rfl
theorem tcells62 : Try.prog.cellsOf 62 = 3 := by kernel_rfl
theorem tcells48 : Try.prog.cellsOf 48 = 5 := by kernel_rfl
theorem tcells77 : Try.prog.cellsOf 77 = 4 := by kernel_rfl
section
variable {W : World} {d : Nat}
theorem ln3 {cs : List Value} (h : cs.length = 3) : ∃ x0 x1 x2, cs = [x0, x1, x2] := by
  match cs, h with
  | [x0, x1, x2], _ => exact ⟨x0, x1, x2, rfl⟩
theorem ln4 {cs : List Value} (h : cs.length = 4) : ∃ x0 x1 x2 x3, cs = [x0, x1, x2, x3] := by
  match cs, h with
  | [x0, x1, x2, x3], _ => exact ⟨x0, x1, x2, x3, rfl⟩
theorem ln5 {cs : List Value} (h : cs.length = 5) : ∃ x0 x1 x2 x3 x4, cs = [x0, x1, x2, x3, x4] := by
  match cs, h with
  | [x0, x1, x2, x3, x4], _ => exact ⟨x0, x1, x2, x3, x4, rfl⟩
theorem int_of {x : Value} (h : okT Try.prog W d 3 [x]) : ∃ n, x = .int .i64 n := by
  obtain ⟨n, e, _⟩ := okT_int h Try.underlying3
  cases e
  exact ⟨n, rfl⟩
theorem bool_of {x : Value} (h : okT Try.prog W d 4 [x]) : ∃ n, x = .bool n := by
  obtain ⟨n, e⟩ := okT_bool h Try.underlying4
  cases e
  exact ⟨n, rfl⟩
theorem lock_of {cs : List Value} (h : okT Try.prog W d 62 cs) : ∃ k : Lock, cs = k.vals := by
  obtain ⟨d2, l, o⟩ := okT_st h Try.underlying62
  rw [tcells62] at l
  obtain ⟨x0, x1, x2, rfl⟩ := ln3 l
  simp only [List.mem_cons, List.mem_nil_iff, or_false, forall_eq_or_imp, forall_eq] at o
  rw [tcells3, tcells4] at o
  obtain ⟨n0, rfl⟩ := int_of (x := x0) o.1
  obtain ⟨n1, rfl⟩ := int_of (x := x1) o.2.1
  obtain ⟨n2, rfl⟩ := bool_of (x := x2) o.2.2
  exact ⟨⟨n0, n1, n2⟩, rfl⟩
theorem locks_of {x : Value} (h : okT Try.prog W d 46 [x]) : ∃ a c l, x = .slice a (List.length (α := Lock) l) c ∧ Kt W [] a l := by
  obtain ⟨d2, a, n, cap, cell, e, h1, h2, sl, rows⟩ := okT_sl h Try.underlying46 (by rw [tcells62]; decide)
  rw [tcells62] at sl
  cases e
  obtain ⟨l, rfl, hl, _⟩ := rw_of (vals := Lock.vals) (Q := fun _ => True) sl fun i hi => (lock_of (rows i hi)).imp fun _ h => ⟨h, trivial⟩
  exact ⟨a, cap, l, rfl, hl⟩
theorem opn_of {cs : List Value} (h : okT Try.prog W d 48 cs) : ∃ k : LOpn, cs = k.vals ∧ Kt W [] k.la k.lk := by
  obtain ⟨d2, l, o⟩ := okT_st h Try.underlying48
  rw [tcells48] at l
  obtain ⟨x0, x1, x2, x3, x4, rfl⟩ := ln5 l
  simp only [List.mem_cons, List.mem_nil_iff, or_false, forall_eq_or_imp, forall_eq] at o
  rw [tcells3, tcells4, tcells46] at o
  obtain ⟨n0, rfl⟩ := int_of (x := x0) o.1
  obtain ⟨n1, rfl⟩ := int_of (x := x1) o.2.1
  obtain ⟨n2, rfl⟩ := int_of (x := x2) o.2.2.1
  obtain ⟨n3, rfl⟩ := bool_of (x := x3) o.2.2.2.1
  obtain ⟨a, c, k, rfl, hk⟩ := locks_of (x := x4) o.2.2.2.2
  exact ⟨⟨n0, n1, n2, n3, a, c, k⟩, rfl, hk⟩
theorem opens_of {x : Value} (h : okT Try.prog W d 75 [x]) : ∃ a c l, x = .slice a (List.length (α := LOpn) l) c ∧ Ot W [] a l ∧ l.length ≤ c := by
  obtain ⟨d2, a, n, cap, cell, e, h1, h2, sl, rows⟩ := okT_sl h Try.underlying75 (by rw [tcells48]; decide)
  rw [tcells48] at sl
  cases e
  obtain ⟨l, rfl, hl, hk, _⟩ := rw_of (vals := LOpn.vals) (Q := fun o => Kt W [] o.la o.lk) sl fun i hi => opn_of (rows i hi)
  exact ⟨a, cap, l, rfl, ⟨hl, hk⟩, h1⟩
theorem ref_of {x y : Value} (h : okT Try.prog W d 42 [x, y]) : ∃ n m, x = .int .i64 n ∧ y = .int .i64 m := by
  obtain ⟨d2, l, o⟩ := okT_st h Try.underlying42
  simp only [List.mem_cons, List.mem_nil_iff, or_false, forall_eq_or_imp, forall_eq] at o
  rw [tcells3] at o
  obtain ⟨n0, rfl⟩ := int_of (x := x) o.1
  obtain ⟨n1, rfl⟩ := int_of (x := y) o.2
  exact ⟨n0, n1, rfl, rfl⟩
theorem fil_of {cs : List Value} (h : okT Try.prog W d 77 cs) : ∃ k : LFil, cs = k.vals ∧ Ot W [] k.oa k.op ∧ k.op.length ≤ k.oc := by
  obtain ⟨d2, l, o⟩ := okT_st h Try.underlying77
  rw [tcells77] at l
  obtain ⟨x0, x1, x2, x3, rfl⟩ := ln4 l
  simp only [List.mem_cons, List.mem_nil_iff, or_false, forall_eq_or_imp, forall_eq] at o
  rw [tcells42, tcells4, tcells75] at o
  obtain ⟨n0, n1, rfl, rfl⟩ := ref_of (x := x0) (y := x1) o.1
  obtain ⟨n2, rfl⟩ := bool_of (x := x2) o.2.1
  obtain ⟨a, c, k, rfl, hk, hc⟩ := opens_of (x := x3) o.2.2
  exact ⟨⟨n0, n1, n2, a, c, k⟩, rfl, hk, hc⟩
/-- A slice of files reads as a table's files. -/
theorem files_of {n : Nat} {a : Option Addr} {cell : Nat → List Value} (sl : Sl W [] a 4 n cell) (rows : ∀ i, i < n → okT Try.prog W d 77 (cell i)) : ∃ l : List LFil, n = l.length ∧ Ft W [] a l := by
  obtain ⟨l, rfl, hl, hk, _⟩ := rw_of (vals := LFil.vals) (Q := fun f => Ot W [] f.oa f.op ∧ f.op.length ≤ f.oc) sl fun i hi => fil_of (rows i hi)
  exact ⟨l, rfl, hl, hk⟩
theorem kt_of {n : Nat} {a : Option Addr} {cell : Nat → List Value} (sl : Sl W [] a 3 n cell) (rows : ∀ i, i < n → okT Try.prog W d 62 (cell i)) : ∃ l : List Lock, n = l.length ∧ Kt W [] a l := by
  obtain ⟨l, rfl, hl, _⟩ := rw_of (vals := Lock.vals) (Q := fun _ => True) sl fun i hi => (lock_of (rows i hi)).imp fun _ h => ⟨h, trivial⟩
  exact ⟨l, rfl, hl⟩
end
end Go.Proofs

namespace Go.Proofs
open Go Go.RowKit Gx
set_option linter.unusedVariables false
set_option linter.unusedSimpArgs false
attribute [local irreducible] Go.Calls Gx.S Gx.O Gx.D Gx.OpP Gx.OpQ Gx.OpH

theorem fn_103 : isFn Try.prog 103 = true := by kernel_rfl
theorem fn_94 : isFn Try.prog 94 = true := by kernel_rfl
theorem fn_63 : isFn Try.prog 63 = true := by kernel_rfl
theorem sz_46 : tsz Try.prog 46 = some (1, false) := by kernel_rfl
theorem fn_87 : isFn Try.prog 87 = true := by kernel_rfl


theorem subA0 {a : Option Addr} {cap sz : Nat} (h : a = some ⟨ab a, ao a, none⟩) : subA a cap 0 sz = a := by
  unfold subA
  split
  · rfl
  · rw [h]; simp [addr_add]
def okL (l : List Lock) : Prop := ∀ k ∈ l, rngE k.fr k.cnt = 0
theorem okL_nth {l : List Lock} (h : okL l) {i : Nat} (hi : i < l.length) : rngE (nth l i).fr (nth l i).cnt = 0 := h _ (mem_nth hi)
theorem rngs_ok {l : List Lock} (h : rngsE l = 0) : okL l := by
  intro k hk
  exact eachF_0.1 h _ (List.mem_map.2 ⟨k, hk, rfl⟩)
theorem map_getD_nth {α : Type} [Inhabited α] {l : List α} {f : α → Int} {k : Nat} (h : k < l.length) : (l.map f).getD k 0 = f (nth l k) := by
  simp only [nth, List.getD_eq_getElem?_getD, List.getElem?_map, List.getElem?_eq_getElem h, Option.map_some, Option.getD_some]
theorem map_getD_nthB {α : Type} [Inhabited α] {l : List α} {f : α → Bool} {k : Nat} (h : k < l.length) : (l.map f).getD k false = f (nth l k) := by
  simp only [nth, List.getD_eq_getElem?_getD, List.getElem?_map, List.getElem?_eq_getElem h, Option.map_some, Option.getD_some]
theorem any_map_id {α : Type} (l : List α) (f : α → Bool) : (l.map f).any id = l.any f := by simp [List.any_map]
theorem take_succ_nth {α : Type} [Inhabited α] {l : List α} {k : Nat} (h : k < l.length) : l.take (k + 1) = l.take k ++ [nth l k] := by
  rw [List.take_succ_eq_append_getElem h, nth, List.getD_eq_getElem?_getD, List.getElem?_eq_getElem h]; rfl
theorem drop_nth {α : Type} [Inhabited α] {l : List α} {k : Nat} (h : k < l.length) : l.drop k = nth l k :: l.drop (k + 1) := by
  rw [List.drop_eq_getElem_cons h, nth, List.getD_eq_getElem?_getD, List.getElem?_eq_getElem h]; rfl
def heldK (l : List LOpn) (k : Nat) : List Lock := (l.take k).flatMap LOpn.lk
theorem heldK_succ {l : List LOpn} {k : Nat} (h : k < l.length) : heldK l (k + 1) = heldK l k ++ (nth l k).lk := by
  unfold heldK
  rw [take_succ_nth h, List.flatMap_append]
  simp
theorem heldK_all (l : List LOpn) : heldK l l.length = (plo l).flatMap Opn.lk := by
  unfold heldK
  rw [List.take_length, List.flatMap_map]
  rfl
def lkA (H : List Lock) (k : Lock) : List Lock := if H.any (clsh · k) = true then H else H ++ [k]

set_option maxRecDepth 20000 in
theorem c122 (w : World) (b : Nat) (h k : Lock) (hr : ∀ j v, k.vals[j]? = some v → Rd w [] b (0 + j) v) (ha : rngE h.fr h.cnt = 0) (hb : rngE k.fr k.cnt = 0) : Calls Try.prog 122 #[.agg #[.int .i64 h.fr, .int .i64 h.cnt, .bool h.ex], .pointer (some ⟨b, 0, none⟩)] w fun en w' => en = .returned (.bool (clsh h k)) ∧ Below w.heap.size w w' := by
  refine enter (args := [_, _]) Try.func122 Try.ntmps122 rfl rfl (HS.refl w []) ?_
  refine s_seq ?_
  refine s_region ?_
  refine o_h (h_box rfl rfl) rfl (fun b1 _ => ?_)
  refine o_p (p_pure rfl) rfl ?_
  refine o_nil ?_
  refine s_seq ?_
  refine s_region ?_
  first | refine o_q (q_loadn rfl rfl sz_62 (by repeat (first | exact .here | apply Pick.there)) rfl) rfl ?_ | refine o_q (q_load_oldn _ rfl rfl sz_62 rfl hr) rfl ?_
  first | refine o_q (q_loadn rfl rfl sz_62 (by repeat (first | exact .here | apply Pick.there)) rfl) rfl ?_ | refine o_q (q_load_oldn _ rfl rfl sz_62 rfl hr) rfl ?_
  refine o_q (q_call rfl fn_103 rfl (fun w1 h1 => c103 w1 h k ha hb)) rfl ?_
  refine o_p (p_pure rfl) rfl ?_
  refine o_nil ?_
  exact s_retv (rs := [.tmp 3]) rfl (.tmp rfl (.nil)) (fun w' h' => ⟨rfl, h'.below⟩)

set_option maxRecDepth 20000 in
theorem c93 (w : World) (i : Int) (k : Lock) : Calls Try.prog 93 #[.int .i64 i, .agg #[.int .i64 k.fr, .int .i64 k.cnt, .bool k.ex]] w fun en w' => en = .returned (.int .i64 (rngE k.fr k.cnt)) ∧ Below w.heap.size w w' := by
  refine enter (args := [_, _]) Try.func93 Try.ntmps93 rfl rfl (HS.refl w []) ?_
  refine s_seq ?_
  refine s_region ?_
  refine o_h (h_box rfl rfl) rfl (fun b1 _ => ?_)
  refine o_p (p_pure rfl) rfl ?_
  refine o_nil ?_
  refine s_seq ?_
  refine s_region ?_
  refine o_p (p_fieldAddr rfl rfl fd_62_0 sz_3 rfl) rfl ?_
  refine o_q (q_load rfl rfl sz_3 (by repeat (first | exact .here | apply Pick.there)) rfl) rfl ?_
  refine o_p (p_fieldAddr rfl rfl fd_62_1 sz_3 rfl) rfl ?_
  refine o_q (q_load rfl rfl sz_3 (by repeat (first | exact .here | apply Pick.there)) rfl) rfl ?_
  refine o_q (q_call rfl fn_94 rfl (fun w1 h1 => c94 w1 _ _)) rfl ?_
  refine o_p (p_pure rfl) rfl ?_
  refine o_nil ?_
  exact s_retv (rs := [.tmp 4]) rfl (.tmp rfl (.nil)) (fun w' h' => ⟨rfl, h'.below⟩)

set_option maxRecDepth 20000 in
theorem c96 (w : World) (b : Nat) (y x : LOpn) (hr : ∀ j v, x.vals[j]? = some v → Rd w [] b (0 + j) v) (hx : openE x.ac x.sh = 0) (hy : openE y.ac y.sh = 0) : Calls Try.prog 96 #[.agg #[.int .i64 y.hd, .int .i64 y.ac, .int .i64 y.sh, .bool y.dl, .slice y.la y.lk.length y.lc], .pointer (some ⟨b, 0, none⟩)] w fun en w' => en = .returned (.bool (cfl x.pl y.pl)) ∧ Below w.heap.size w w' := by
  refine enter (args := [_, _]) Try.func96 Try.ntmps96 rfl rfl (HS.refl w []) ?_
  refine s_seq ?_
  refine s_region ?_
  refine o_h (h_box rfl rfl) rfl (fun b1 _ => ?_)
  refine o_p (p_pure rfl) rfl ?_
  refine o_nil ?_
  refine s_seq ?_
  refine s_region ?_
  first | refine o_q (q_loadn rfl rfl sz_48 (by repeat (first | exact .here | apply Pick.there)) rfl) rfl ?_ | refine o_q (q_load_oldn _ rfl rfl sz_48 rfl hr) rfl ?_
  first | refine o_q (q_loadn rfl rfl sz_48 (by repeat (first | exact .here | apply Pick.there)) rfl) rfl ?_ | refine o_q (q_load_oldn _ rfl rfl sz_48 rfl hr) rfl ?_
  refine o_q (q_call rfl fn_63 rfl (fun w1 h1 => c63 w1 x y hx hy)) rfl ?_
  refine o_p (p_pure rfl) rfl ?_
  refine o_nil ?_
  exact s_retv (rs := [.tmp 3]) rfl (.tmp rfl (.nil)) (fun w' h' => ⟨rfl, h'.below⟩)

set_option maxRecDepth 20000 in
theorem c121 (w : World) (b : Nat) (i : Int) (k : Lock) (g : Option Addr × Nat) (H : List Lock) (hw : HS w (fps [.blk b 46 1 [.slice g.1 H.length g.2], .own (.slice g.1 H.length g.2) 62 3 H.length (H.flatMap Lock.vals)]) [.blk b 46 1 [.slice g.1 H.length g.2], .own (.slice g.1 H.length g.2) 62 3 H.length (H.flatMap Lock.vals)] w) (hH : okL H) (hk : rngE k.fr k.cnt = 0) (hm : H.length ≤ 100000) : Calls Try.prog 121 #[.int .i64 i, .agg #[.int .i64 k.fr, .int .i64 k.cnt, .bool k.ex], .pointer (some ⟨b, 0, none⟩)] w fun en w' => ∃ g2 : Option Addr × Nat, en = .returned (.int .i64 (if H.any (clsh · k) = true then 29 else 0)) ∧ True ∧ HS w (fps [.blk b 46 1 [.slice g.1 H.length g.2], .own (.slice g.1 H.length g.2) 62 3 H.length (H.flatMap Lock.vals)]) [.blk b 46 1 [.slice g2.1 (lkA H k).length g2.2], .own (.slice g2.1 (lkA H k).length g2.2) 62 3 (lkA H k).length ((lkA H k).flatMap Lock.vals)] w' := by
  refine enter (args := [_, _, _]) Try.func121 Try.ntmps121 rfl rfl hw ?_
  refine s_seq ?_
  refine s_region ?_
  refine o_h (h_box rfl rfl) rfl (fun b1 _ => ?_)
  refine o_p (p_pure rfl) rfl ?_
  refine o_nil ?_
  refine s_seq ?_
  refine s_seq ?_
  refine s_region ?_
  refine o_q (q_load rfl rfl sz_46 (by repeat (first | exact .here | apply Pick.there)) rfl) rfl ?_
  refine o_p (p_pure rfl) rfl ?_
  refine o_q (q_call rfl fn_87 rfl (fun w1 h1 => by have h9 := c87 w1 g.1 g.2 H 122 #[.pointer (some ⟨b1, 0, none⟩)] (H.map (clsh · k)) (h1.rw_own lv3 (by repeat (first | exact .here | apply Pick.there)) rfl) (by omega) (by kernel_rfl) (by simp) (fun j w2 hj h2 => by rw [map_getD_nthB hj]; exact c122 w2 b1 (nth H j) k (fun q v hv => by rw [Nat.zero_add]; exact (h1.rd_blk (Mc := []) (by repeat (first | exact .here | apply Pick.there)) hv (by simp)).later h2 (by simp)) (okL_nth hH hj) hk); rw [any_map_id] at h9; exact h9)) rfl ?_
  refine o_nil ?_
  refine s_cond rfl (fun h2 => ?_) (fun h2 => ?_)
  · try simp only [decide_eq_true_eq, decide_eq_false_iff_not, Bool.not_eq_true', Bool.not_eq_false', Bool.and_eq_true, Bool.or_eq_true, Bool.and_eq_false_iff, Bool.or_eq_false_iff, Bool.not_true, Bool.not_false] at h2
    refine s_seq ?_
    refine s_region ?_
    refine o_p (p_pure rfl) rfl ?_
    refine o_nil ?_
    exact s_retv (rs := [.tmp 5]) rfl (.tmp rfl (.nil)) (fun w' h' => ⟨g, by rw [if_pos h2]; rfl, trivial, by rw [lkA, if_pos h2]; exact h'.ent (by repeat (first | exact .nil | refine .cons (by repeat (first | exact .here | apply Pick.there)) ?_))⟩)
  · try simp only [decide_eq_true_eq, decide_eq_false_iff_not, Bool.not_eq_true', Bool.not_eq_false', Bool.and_eq_true, Bool.or_eq_true, Bool.and_eq_false_iff, Bool.or_eq_false_iff, Bool.not_true, Bool.not_false] at h2
    refine s_skip ?_
    refine s_seq ?_
    refine s_region ?_
    refine o_q (q_load rfl rfl sz_46 (by repeat (first | exact .here | apply Pick.there)) rfl) rfl ?_
    refine o_q (q_loadn rfl rfl sz_62 (by repeat (first | exact .here | apply Pick.there)) rfl) rfl ?_
    refine o_h (h_buildSlice (cs := [_, _, _]) rfl rfl sl_46 zr_62 rfl rfl rfl) rfl (fun b3 _ => ?_)
    refine o_h (h_appendS (n := H.length) k.vals rfl rfl rfl sl_46 Try.underlying46 zr_62 rfl (by repeat (first | exact .here | apply Pick.there)) (src_blk (by repeat (first | exact .here | apply Pick.there))) rfl (lv1 k) (by omega) (by simp only [maxLen]; omega)) rfl (fun b4 _ => ?_)
    refine o_h0 (h_store rfl rfl rfl sz_46 rfl (by repeat (first | exact .here | apply Put.there)) (by simp only [setMany_length, List.length_set, List.length_cons, List.length_nil, List.length_map]; omega) rfl) (fun _ _ => ?_)
    refine o_nil ?_
    refine s_seq ?_
    refine s_region ?_
    refine o_p (p_pure rfl) rfl ?_
    refine o_nil ?_
    exact s_retv (rs := [.tmp 5]) rfl (.tmp rfl (.nil)) (fun w' h' => ⟨b4, by rw [if_neg (by simpa using h2)]; rfl, trivial, by rw [lkA, if_neg (by simpa using h2), List.flatMap_append, List.length_append]; simp only [List.flatMap_cons, List.flatMap_nil, List.append_nil]; exact h'.ent (by repeat (first | exact .nil | refine .cons (by repeat (first | exact .here | apply Pick.there)) ?_))⟩)

end Go.Proofs

namespace Go.Proofs
open Go Go.RowKit Gx
set_option linter.unusedVariables false
set_option linter.unusedSimpArgs false
attribute [local irreducible] Go.Calls Gx.S Gx.O Gx.D Gx.OpP Gx.OpQ Gx.OpH

theorem fn_121 : isFn Try.prog 121 = true := by kernel_rfl
theorem zr_46 : tzero Try.prog 46 = some [.slice none 0 0] := by kernel_rfl
theorem fd_48_4 : tfd Try.prog 48 4 = some (4, 46) := by kernel_rfl
theorem fn_92 : isFn Try.prog 92 = true := by kernel_rfl
theorem fd_48_0 : tfd Try.prog 48 0 = some (0, 3) := by kernel_rfl
theorem fd_114_0 : tfd Try.prog 114 0 = some (0, 3) := by kernel_rfl
theorem fn_62 : isFn Try.prog 62 = true := by kernel_rfl
theorem fn_52 : isFn Try.prog 52 = true := by kernel_rfl
theorem zr_28 : tzero Try.prog 28 = some [.int .i64 0] := by kernel_rfl
theorem fd_114_1 : tfd Try.prog 114 1 = some (1, 112) := by kernel_rfl
theorem sz_112 : tsz Try.prog 112 = some (1, false) := by kernel_rfl
theorem zv_4 : tzv Try.prog 4 = some (.bool false) := by kernel_rfl
theorem ki_3 : tki Try.prog 3 = some .i64 := by kernel_rfl
theorem fn_95 : isFn Try.prog 95 = true := by kernel_rfl
theorem fn_97 : isFn Try.prog 97 = true := by kernel_rfl


abbrev KI : Int → Value := fun n => Value.int .i64 n
theorem lockedE_step {H : List Lock} {k : Lock} {ks : List Lock} (h : H.any (clsh · k) = false) : lockedE H (k :: ks) = lockedE (lkA H k) ks := by
  unfold lkA
  rw [lockedE, if_neg (by rw [h]; decide), if_neg (by rw [h]; decide)]
theorem lockedE_hit {H : List Lock} {k : Lock} {ks : List Lock} (h : H.any (clsh · k) = true) : lockedE H (k :: ks) = 29 := by rw [lockedE, if_pos h]
theorem heldK_le {l : List LOpn} (hl : ∀ o ∈ l, o.lk.length ≤ 16) : ∀ k, k ≤ l.length → (heldK l k).length ≤ 16 * k
  | 0, _ => by simp [heldK]
  | k + 1, h => by
    have h1 := heldK_le hl k (by omega)
    have h2 := hl _ (mem_nth (show k < l.length by omega))
    rw [heldK_succ (by omega), List.length_append]
    omega
theorem heldK_ok {l : List LOpn} (hl : ∀ o ∈ l, okL o.lk) (k : Nat) : okL (heldK l k) := by
  intro x hx
  obtain ⟨o, ho, hk⟩ := List.mem_flatMap.1 hx
  exact hl o (List.mem_of_mem_take ho) x hk
theorem nth_plo {l : List LOpn} {k : Nat} (h : k < l.length) : nth (plo l) k = (nth l k).pl := by
  simp only [nth, plo, List.getD_eq_getElem?_getD, List.getElem?_map, List.getElem?_eq_getElem h, Option.map_some, Option.getD_some]
def hdE1 (next : Int) (ops : List Opn) (k : Nat) : Int :=
  if 1 ≤ (nth ops k).hd ∧ (nth ops k).hd ≤ next - 1 then if openE (nth ops k).ac (nth ops k).sh = 0 then if k = 0 ∨ (nth ops (k - 1)).hd < (nth ops k).hd then if (nth ops k).lk.length ≤ 16 then 0 else 8 else 9 else openE (nth ops k).ac (nth ops k).sh else 2
def hdE2 (next : Int) (ops : List Opn) (k : Nat) : Int := if hdE1 next ops k = 0 then rngsE (nth ops k).lk else hdE1 next ops k
open Classical in
noncomputable def hdE3 (next : Int) (known : List Int) (ops : List Opn) (k : Nat) : Int := if hdE2 next ops k = 0 then if (nth ops k).hd ∈ known then 23 else 0 else hdE2 next ops k
noncomputable def hdE4 (next : Int) (known : List Int) (ops : List Opn) (k : Nat) : Int := if hdE3 next known ops k = 0 then if (ops.take k).any (cfl (nth ops k)) = true then 28 else 0 else hdE3 next known ops k
theorem hdl_4 (next : Int) (known : List Int) (ops : List Opn) (k : Nat) : hdlE next known ops k = if hdE4 next known ops k = 0 then lockedE ((ops.take k).flatMap Opn.lk) (nth ops k).lk else hdE4 next known ops k := by
  unfold hdE4 hdE3 hdE2 hdE1 hdlE
  simp only []
  grind
theorem hd1_0 {next : Int} {ops : List Opn} {k : Nat} (h : hdE1 next ops k = 0) : (1 ≤ (nth ops k).hd ∧ (nth ops k).hd ≤ next - 1) ∧ openE (nth ops k).ac (nth ops k).sh = 0 ∧ (k = 0 ∨ (nth ops (k - 1)).hd < (nth ops k).hd) ∧ (nth ops k).lk.length ≤ 16 := by
  unfold hdE1 at h
  grind
theorem hd2_0 {next : Int} {ops : List Opn} {k : Nat} (h : hdE2 next ops k = 0) : hdE1 next ops k = 0 ∧ okL (nth ops k).lk := by
  unfold hdE2 at h
  split at h
  · rename_i h1; exact ⟨h1, rngs_ok h⟩
  · contradiction
theorem hd3_0 {next : Int} {known : List Int} {ops : List Opn} {k : Nat} (h : hdE3 next known ops k = 0) : hdE2 next ops k = 0 ∧ (nth ops k).hd ∉ known := by
  unfold hdE3 at h
  grind
theorem hd4_0 {next : Int} {known : List Int} {ops : List Opn} {k : Nat} (h : hdE4 next known ops k = 0) : hdE3 next known ops k = 0 ∧ (ops.take k).any (cfl (nth ops k)) = false := by
  unfold hdE4 at h
  grind
theorem hdl_0 {next : Int} {known : List Int} {ops : List Opn} {k : Nat} (h : hdlE next known ops k = 0) : hdE4 next known ops k = 0 ∧ lockedE ((ops.take k).flatMap Opn.lk) (nth ops k).lk = 0 := by
  rw [hdl_4] at h
  grind
theorem hd_way {next : Int} {ops : List Opn} {k : Nat} {b : Bool} (hb : b = decide (k = 0 ∨ (nth ops (k - 1)).hd < (nth ops k).hd)) :
    firstV [.int .i64 (bif decide (1 ≤ (nth ops k).hd) && decide ((nth ops k).hd ≤ next - 1) then 0 else 2), .int .i64 (openE (nth ops k).ac (nth ops k).sh), .int .i64 (bif b then 0 else 9), .int .i64 (bif decide (((nth ops k).lk.length : Int) ≤ 16) then 0 else 8)] = hdE1 next ops k := by
  subst hb
  simp only [firstV, cond_eq_ite, decide_eq_true_eq, Bool.and_eq_true, hdE1]
  grind

set_option maxRecDepth 20000 in
theorem d92 (w : World) (a : Option Addr) (cap : Nat) (x : List Lock) (b : Nat) (g0 : Option Addr × Nat) (H0 : List Lock) (hw : HS w (fps [.blk b 46 1 [.slice g0.1 (H0).length g0.2], .own (.slice g0.1 (H0).length g0.2) 62 3 (H0).length ((H0).flatMap Lock.vals)]) [.blk b 46 1 [.slice g0.1 (H0).length g0.2], .own (.slice g0.1 (H0).length g0.2) 62 3 (H0).length ((H0).flatMap Lock.vals)] w) (hs : Kt w (fps [.blk b 46 1 [.slice g0.1 (H0).length g0.2], .own (.slice g0.1 (H0).length g0.2) 62 3 (H0).length ((H0).flatMap Lock.vals)]) a x) (hH : okL H0) (hx : okL x) (hm : H0.length ≤ 10000) (hm2 : x.length ≤ 10000) : Calls Try.prog 92 #[.slice a x.length cap, .func (.func 121) #[] #[.pointer (some ⟨b, 0, none⟩)]] w fun en w' => ∃ g : Int, en = .returned (.tuple #[.int .i64 g, .int .i64 (lockedE H0 x)]) ∧ True ∧ HS w (fps [.blk b 46 1 [.slice g0.1 (H0).length g0.2], .own (.slice g0.1 (H0).length g0.2) 62 3 (H0).length ((H0).flatMap Lock.vals)]) [] w' := by
  refine enter (args := [_, _]) Try.func92 Try.ntmps92 rfl rfl hw ?_
  refine s_seq ?_
  refine s_region ?_
  refine o_p (p_pure rfl) rfl ?_
  refine o_p (p_pure rfl) rfl ?_
  refine o_nil ?_
  refine s_seq ?_
  refine s_seq ?_
  refine s_region ?_
  refine o_p (p_pure rfl) rfl ?_
  first | refine o_p (p_len_slice rfl rfl Try.underlying46) rfl ?_ | refine o_q (q_len_own rfl rfl Try.underlying46 (by repeat (first | exact .here | apply Pick.there))) rfl ?_
  refine o_p (p_pure rfl) rfl ?_
  refine o_nil ?_
  refine s_block ?_
  refine s_loopI (α := Nat × Option Addr × Nat) [4, 5, 6, 7, 8, 11, 12, 13, 14, 15, 16, 17, 18, 19, 20, 21, 22, 23, 24] (fun y => [(11, .int .i64 (y.1 : Int))]) (fun y => HS w (fps [.blk b 46 1 [.slice g0.1 (H0).length g0.2], .own (.slice g0.1 (H0).length g0.2) 62 3 (H0).length ((H0).flatMap Lock.vals)]) [.blk b 46 1 [.slice y.2.1 (H0 ++ x.take y.1).length y.2.2], .own (.slice y.2.1 (H0 ++ x.take y.1).length y.2.2) 62 3 (H0 ++ x.take y.1).length ((H0 ++ x.take y.1).flatMap Lock.vals)]) (fun y => y.1 ≤ x.length ∧ lockedE H0 x = lockedE (H0 ++ x.take y.1) (x.drop y.1)) (fun y => x.length - y.1) (0, g0) ⟨by simp, by simp⟩ (by repeat (first | exact sl_n | refine sl_c rfl ?_)) (fun w h => by simp only [List.take_zero, List.append_nil]; exact h.ent (by repeat (first | exact .nil | refine .cons (by repeat (first | exact .here | apply Pick.there)) ?_))) (fun ⟨k, gk⟩ hk => ?_)
  dsimp only
  simp only [] at hk
  obtain ⟨hk1, hk2⟩ := hk
  refine s_seq ?_
  refine s_region ?_
  refine o_p (p_pure rfl) rfl ?_
  refine o_nil ?_
  refine s_seq ?_
  refine s_cond rfl (fun h1 => ?_) (fun h1 => ?_)
  · try simp only [decide_eq_true_eq, decide_eq_false_iff_not, Bool.not_eq_true', Bool.not_eq_false', Bool.and_eq_true, Bool.or_eq_true, Bool.and_eq_false_iff, Bool.or_eq_false_iff, Bool.not_true, Bool.not_false] at h1
    have hk : k < x.length := by omega
    have hdr := drop_nth hk
    have hok := okL_nth hx hk
    refine s_skip ?_
    refine s_seq ?_
    refine s_block ?_
    refine s_seq ?_
    refine s_region ?_
    refine o_p (p_pure rfl) rfl ?_
    first | refine o_p (p_indexAddr rfl rfl rfl sl_46 (k) (by omega) (by omega) rfl) rfl ?_ | refine o_p (p_indexAddr rfl rfl rfl sl_46 (k) (by omega) (by omega) (Rw.some hs (by omega))) rfl ?_
    first | refine o_q (q_loadn rfl rfl sz_62 (by repeat (first | exact .here | apply Pick.there)) rfl) rfl ?_ | refine o_q (q_load_oldn _ rfl rfl sz_62 rfl (Rw.rd hs (by omega))) rfl ?_
    refine o_h (h_alloc rfl zr_62) rfl (fun b2 _ => ?_)
    refine o_p (p_pure rfl) rfl ?_
    refine o_h0 (h_store rfl rfl rfl sz_62 rfl (by repeat (first | exact .here | apply Put.there)) (by simp only [setMany_length, List.length_set, List.length_cons, List.length_nil, List.length_map]; omega) rfl) (fun _ _ => ?_)
    refine o_nil ?_
    refine s_seq ?_
    refine s_region ?_
    refine o_p (p_pure rfl) rfl ?_
    refine o_p (p_pure rfl) rfl ?_
    first | refine o_q (q_loadn rfl rfl sz_62 (by repeat (first | exact .here | apply Pick.there)) rfl) rfl ?_ | refine o_q (q_load_oldn _ rfl rfl sz_62 rfl (Rw.rd hs (by omega))) rfl ?_
    refine o_h (h_callvF (Cs := [.blk b 46 1 [.slice gk.1 (H0 ++ x.take k).length gk.2], .own (.slice gk.1 (H0 ++ x.take k).length gk.2) 62 3 (H0 ++ x.take k).length ((H0 ++ x.take k).flatMap Lock.vals)]) rfl rfl fn_121 rfl (by repeat (first | exact Picks.nil | (apply Picks.cons; · (repeat (first | exact .here | apply Pick.there))))) (fun w1 h1 hf => c121 w1 b k (nth x k) gk (H0 ++ x.take k) hf (fun q hq => (List.mem_append.1 hq).elim (hH q) (fun h => hx q (List.mem_of_mem_take h))) hok (by simp only [List.length_append, List.length_take]; omega))) rfl (fun b3 _ => ?_)
    refine o_p (p_pure rfl) rfl ?_
    refine o_nil ?_
    refine s_seq ?_
    refine s_region ?_
    refine o_p (p_pure rfl) rfl ?_
    refine o_p (p_pure rfl) rfl ?_
    refine o_nil ?_
    refine s_cond rfl (fun h4 => ?_) (fun h4 => ?_)
    · try simp only [decide_eq_true_eq, decide_eq_false_iff_not, Bool.not_eq_true', Bool.not_eq_false', Bool.and_eq_true, Bool.or_eq_true, Bool.and_eq_false_iff, Bool.or_eq_false_iff, Bool.not_true, Bool.not_false] at h4
      have hya : (H0 ++ x.take k).any (clsh · (nth x k)) = true := by have hq := h4; revert hq; cases (H0 ++ x.take k).any (clsh · (nth x k)) <;> simp
      refine s_seq ?_
      refine s_region ?_
      refine o_p (p_pure rfl) rfl ?_
      refine o_p (p_pure rfl) rfl ?_
      refine o_p (p_pure rfl) rfl ?_
      refine o_p (p_pure rfl) rfl ?_
      refine o_nil ?_
      exact s_retv (rs := [.tmp 4, .tmp 5]) rfl (.tmp rfl (.tmp rfl (.nil))) (fun w' h' => ⟨k, by rw [hk2, hdr, lockedE_hit hya, if_pos hya]; rfl, trivial, h'.ent (by repeat (first | exact .nil | refine .cons (by repeat (first | exact .here | apply Pick.there)) ?_))⟩)
    · try simp only [decide_eq_true_eq, decide_eq_false_iff_not, Bool.not_eq_true', Bool.not_eq_false', Bool.and_eq_true, Bool.or_eq_true, Bool.and_eq_false_iff, Bool.or_eq_false_iff, Bool.not_true, Bool.not_false] at h4
      have hna : (H0 ++ x.take k).any (clsh · (nth x k)) = false := by have hq := h4; revert hq; cases (H0 ++ x.take k).any (clsh · (nth x k)) <;> simp
      have hla : lkA (H0 ++ x.take k) (nth x k) = H0 ++ x.take (k + 1) := by rw [lkA, if_neg (by rw [hna]; decide), take_succ_nth hk, List.append_assoc]
      refine s_skip ?_
      refine s_blk ?_
      refine s_region ?_
      refine o_p (p_pure rfl) rfl ?_
      try (refine o_slot (i64w (by omega) (by omega)) ?_)
      refine o_p (p_pure rfl) rfl ?_
      refine o_nil ?_
      exact s_backI (k + 1, b3) (by (try simp only []); omega) ⟨by (try simp only []); omega, by rw [hk2, hdr, lockedE_step hna, hla]⟩ (by repeat (first | exact sl_n | refine sl_c rfl ?_)) (fun w h => by rw [hla] at h; exact h.ent (by repeat (first | exact .nil | refine .cons (by repeat (first | exact .here | apply Pick.there)) ?_)))
  · try simp only [decide_eq_true_eq, decide_eq_false_iff_not, Bool.not_eq_true', Bool.not_eq_false', Bool.and_eq_true, Bool.or_eq_true, Bool.and_eq_false_iff, Bool.or_eq_false_iff, Bool.not_true, Bool.not_false] at h1
    refine s_exit_to rfl ?_
    refine s_seq ?_
    refine s_region ?_
    refine o_p (p_pure rfl) rfl ?_
    refine o_p (p_pure rfl) rfl ?_
    refine o_nil ?_
    exact s_retv (rs := [.tmp 4, .tmp 5]) rfl (.tmp rfl (.tmp rfl (.nil))) (fun w' h' => ⟨0, by rw [hk2, List.drop_of_length_le (by omega)]; rfl, trivial, h'.ent (by repeat (first | exact .nil | refine .cons (by repeat (first | exact .here | apply Pick.there)) ?_))⟩)

set_option maxRecDepth 20000 in
theorem c97 (w : World) (x : LOpn) (a : Option Addr) (cap : Nat) (l : List LOpn) (hs : Ot w [] a l) (hx : Kt w [] x.la x.lk) (hox : okL x.lk) (hol : ∀ o ∈ l, okL o.lk) (hm : l.length ≤ 500) (hl : ∀ o ∈ l, o.lk.length ≤ 16) (hxl : x.lk.length ≤ 16) : Calls Try.prog 97 #[.agg #[.int .i64 x.hd, .int .i64 x.ac, .int .i64 x.sh, .bool x.dl, .slice x.la x.lk.length x.lc], .slice a l.length cap] w fun en w' => en = .returned (.int .i64 (lockedE (heldK l l.length) x.lk)) ∧ Below w.heap.size w w' := by
  refine enter (args := [_, _]) Try.func97 Try.ntmps97 rfl rfl (HS.refl w []) ?_
  refine s_seq ?_
  refine s_region ?_
  refine o_h (h_box rfl rfl) rfl (fun b1 _ => ?_)
  refine o_p (p_pure rfl) rfl ?_
  refine o_nil ?_
  refine s_seq ?_
  refine s_region ?_
  refine o_h (h_alloc rfl zr_46) rfl (fun b2 _ => ?_)
  refine o_nil ?_
  refine s_seq ?_
  refine s_seq ?_
  refine s_region ?_
  refine o_p (p_pure rfl) rfl ?_
  first | refine o_p (p_len_slice rfl rfl Try.underlying75) rfl ?_ | refine o_q (q_len_own rfl rfl Try.underlying75 (by repeat (first | exact .here | apply Pick.there))) rfl ?_
  refine o_p (p_pure rfl) rfl ?_
  refine o_nil ?_
  refine s_block ?_
  refine s_loopI (α := Nat × Option Addr × Nat) [7, 12, 13, 14, 15, 16, 17, 18, 19, 20] (fun y => [(12, .int .i64 (y.1 : Int))]) (fun y => HS w [] [.blk b2 46 1 [.slice y.2.1 (heldK l y.1).length y.2.2], .own (.slice y.2.1 (heldK l y.1).length y.2.2) 62 3 (heldK l y.1).length ((heldK l y.1).flatMap Lock.vals), .blk b1 48 5 x.vals]) (fun y => y.1 ≤ l.length) (fun y => l.length - y.1) (0, none, 0) (by simp) (by repeat (first | exact sl_n | refine sl_c rfl ?_)) (fun w h => (h.own_nil 62 3).ent (by repeat (first | exact .nil | refine .cons (by repeat (first | exact .here | apply Pick.there)) ?_))) (fun ⟨k, g1, g2⟩ hk => ?_)
  dsimp only
  simp only [] at hk
  refine s_seq ?_
  refine s_region ?_
  refine o_p (p_pure rfl) rfl ?_
  refine o_nil ?_
  refine s_seq ?_
  refine s_cond rfl (fun h3 => ?_) (fun h3 => ?_)
  · try simp only [decide_eq_true_eq, decide_eq_false_iff_not, Bool.not_eq_true', Bool.not_eq_false', Bool.and_eq_true, Bool.or_eq_true, Bool.and_eq_false_iff, Bool.or_eq_false_iff, Bool.not_true, Bool.not_false] at h3
    have hkl : k < l.length := by omega
    have hhl := heldK_le hl k (by omega)
    have hkk := hl _ (mem_nth hkl)
    refine s_skip ?_
    refine s_seq ?_
    refine s_block ?_
    refine s_seq ?_
    refine s_region ?_
    first | refine o_p (p_indexAddr rfl rfl rfl sl_75 (k) (by omega) (by omega) rfl) rfl ?_ | refine o_p (p_indexAddr rfl rfl rfl sl_75 (k) (by omega) (by omega) (Rw.some hs.1 (by omega))) rfl ?_
    first | refine o_q (q_loadn rfl rfl sz_48 (by repeat (first | exact .here | apply Pick.there)) rfl) rfl ?_ | refine o_q (q_load_oldn _ rfl rfl sz_48 rfl (Rw.rd hs.1 (by omega))) rfl ?_
    refine o_h (h_alloc rfl zr_48) rfl (fun b4 _ => ?_)
    refine o_h0 (h_store rfl rfl rfl sz_48 rfl (by repeat (first | exact .here | apply Put.there)) (by simp only [setMany_length, List.length_set, List.length_cons, List.length_nil, List.length_map]; omega) rfl) (fun _ _ => ?_)
    refine o_nil ?_
    refine s_region ?_
    first | refine o_q (q_load rfl rfl sz_46 (by repeat (first | exact .here | apply Pick.there)) rfl) rfl ?_ | refine o_q (q_load_old rfl rfl sz_46 (rfl (Rw.rd hs.1 (by omega)))) rfl ?_
    refine o_p (p_fieldAddr rfl rfl fd_48_4 sz_46 rfl) rfl ?_
    first | refine o_q (q_load rfl rfl sz_46 (by repeat (first | exact .here | apply Pick.there)) rfl) rfl ?_ | refine o_q (q_load_old rfl rfl sz_46 (rfl (Rw.rd hs.1 (by omega)))) rfl ?_
    refine o_h (h_appendS (n := (heldK l k).length) ((nth l k).lk.flatMap Lock.vals) rfl rfl rfl sl_46 Try.underlying46 zr_62 rfl (by repeat (first | exact .here | apply Pick.there)) (fun w h => Rw.src lv3 (hs.at hkl) h) (flat_length lv3 _) (flat_one lv1 _) (by omega) (by simp only [maxLen]; omega)) rfl (fun b5 _ => ?_)
    refine o_h0 (h_store rfl rfl rfl sz_46 rfl (by repeat (first | exact .here | apply Put.there)) (by simp only [setMany_length, List.length_set, List.length_cons, List.length_nil, List.length_map]; omega) rfl) (fun _ _ => ?_)
    refine o_nil ?_
    refine s_blk ?_
    refine s_region ?_
    refine o_p (p_pure rfl) rfl ?_
    try (refine o_slot (i64w (by omega) (by omega)) ?_)
    refine o_p (p_pure rfl) rfl ?_
    refine o_nil ?_
    exact s_backI (k + 1, _, _) (by (try simp only []); omega) (by (try simp only []); omega) (by repeat (first | exact sl_n | refine sl_c rfl ?_)) (fun w h => by rw [heldK_succ hkl, List.flatMap_append, List.length_append]; exact h.ent (by repeat (first | exact .nil | refine .cons (by repeat (first | exact .here | apply Pick.there)) ?_)))
  · try simp only [decide_eq_true_eq, decide_eq_false_iff_not, Bool.not_eq_true', Bool.not_eq_false', Bool.and_eq_true, Bool.or_eq_true, Bool.and_eq_false_iff, Bool.or_eq_false_iff, Bool.not_true, Bool.not_false] at h3
    have hke : k = l.length := by omega
    have hhl := heldK_le hl k (by omega)
    refine s_exit_to rfl ?_
    refine s_seq ?_
    refine s_region ?_
    refine o_p (p_fieldAddr rfl rfl fd_48_4 sz_46 rfl) rfl ?_
    first | refine o_q (q_load rfl rfl sz_46 (by repeat (first | exact .here | apply Pick.there)) rfl) rfl ?_ | refine o_q (q_load_old rfl rfl sz_46 (rfl (Rw.rd hs.1 (by omega)))) rfl ?_
    refine o_p (p_pure rfl) rfl ?_
    refine o_h (h_callF (Cs := [.blk b2 46 1 [.slice g1 (heldK l k).length g2], .own (.slice g1 (heldK l k).length g2) 62 3 (heldK l k).length ((heldK l k).flatMap Lock.vals)]) rfl fn_92 rfl (by repeat (first | exact Picks.nil | (apply Picks.cons; · (repeat (first | exact .here | apply Pick.there))))) (fun w1 h1 hf => d92 w1 x.la x.lc x.lk b2 (g1, g2) (heldK l k) hf (hx.keep (h1.ent (by repeat (first | exact .nil | refine .cons (by repeat (first | exact .here | apply Pick.there)) ?_)))) (heldK_ok hol k) hox (by omega) (by omega))) rfl (fun gi _ => ?_)
    refine o_p (p_pure rfl) rfl ?_
    refine o_p (p_pure rfl) rfl ?_
    refine o_p (p_pure rfl) rfl ?_
    refine o_p (p_pure rfl) rfl ?_
    refine o_p (p_pure rfl) rfl ?_
    refine o_nil ?_
    refine s_seq ?_
    refine s_region ?_
    refine o_p (p_pure rfl) rfl ?_
    refine o_p (p_pure rfl) rfl ?_
    refine o_nil ?_
    exact s_retv (rs := [.tmp 4]) rfl (.tmp rfl (.nil)) (fun w' h' => ⟨by rw [hke]; rfl, h'.below⟩)

set_option maxRecDepth 20000 in
theorem c59 (w : World) (bc r : Nat) (next : Int) (known : List Int) (a : Option Addr) (cap : Nat) (l : List LOpn) (i : Nat) (hb0 : Rd w [] bc 0 (.int .i64 next)) (hb1 : Rd w [] bc 1 (.map (some r))) (hr : MpR w [] r KI known) (hs : Ot w [] a l) (hi : i < l.length) (hcap : l.length ≤ cap) (hm : l.length ≤ 500) (hn : 1 ≤ next ∧ next ≤ 2147483647) (hv : ∀ j, j < i → hdlE next known (plo l) j = 0) : Calls Try.prog 59 #[.pointer (some ⟨bc, 0, none⟩), .slice a l.length cap, .int .i64 (i : Int)] w fun en w' => en = .returned (.int .i64 (hdlE next known (plo l) i)) ∧ Below w.heap.size w w' := by
  have ep := nth_plo hi
  have eany : ((plo l).take i).any (cfl (nth (plo l) i)) = (l.take i).any (fun y => cfl (nth l i).pl y.pl) := by rw [ep, plo, ← List.map_take, List.any_map]; rfl
  have hci : l.length = (plo l).length := by simp
  have hvo : ∀ o ∈ l.take i, openE o.ac o.sh = 0 ∧ okL o.lk ∧ o.lk.length ≤ 16 := by
    intro o ho
    obtain ⟨j, hj, e⟩ := List.getElem_of_mem ho
    have hji : j < i := by rw [List.length_take] at hj; omega
    have e2 : nth l j = o := by rw [← nth_take hji]; exact nth_eq (by rw [List.getElem?_eq_getElem hj, e])
    have h0 := (hdl_0 (hv j hji)).1
    have h3 := hd4_0 h0
    have h2 := hd3_0 h3.1
    have h1 := hd2_0 h2.1
    have h00 := hd1_0 h1.1
    rw [nth_plo (by omega), e2] at h00 h1
    exact ⟨h00.2.1, h1.2, h00.2.2.2⟩
  refine enter (args := [_, _, _]) Try.func59 Try.ntmps59 rfl rfl (HS.refl w []) ?_
  refine s_seq ?_
  refine s_region ?_
  refine o_p (p_pure rfl) rfl ?_
  refine o_nil ?_
  refine s_seq ?_
  refine s_region ?_
  refine o_p (p_pure rfl) rfl ?_
  refine o_p (p_pure rfl) rfl ?_
  first | refine o_p (p_indexAddr rfl rfl rfl sl_75 (i) (by omega) (by omega) rfl) rfl ?_ | refine o_p (p_indexAddr rfl rfl rfl sl_75 (i) (by omega) (by omega) (Rw.some hs.1 (by omega))) rfl ?_
  first | refine o_q (q_loadn rfl rfl sz_48 (by repeat (first | exact .here | apply Pick.there)) rfl) rfl ?_ | refine o_q (q_load_oldn _ rfl rfl sz_48 rfl (Rw.rd hs.1 (i := i) (by omega))) rfl ?_ | refine o_q (q_load_oldn _ rfl rfl sz_48 hb0) rfl ?_ | refine o_q (q_load_oldn _ rfl rfl sz_48 hb1) rfl ?_ | refine o_q (q_load_oldn _ rfl rfl sz_48 (hs.1.rdj (i := i - 1) 0 (by omega) rfl)) rfl ?_
  refine o_h (h_alloc rfl zr_48) rfl (fun b1 _ => ?_)
  refine o_h0 (h_store rfl rfl rfl sz_48 rfl (by repeat (first | exact .here | apply Put.there)) (by simp only [setMany_length, List.length_set, List.length_cons, List.length_nil, List.length_map]; omega) rfl) (fun _ _ => ?_)
  refine o_nil ?_
  refine s_seq ?_
  refine s_cutI (α := Unit) [8, 13, 14, 15, 16, 17, 18, 19, 20, 21, 22, 23, 24, 25, 26, 27, 28, 29, 30, 31, 32, 33, 34, 35, 36, 37, 38, 39, 40, 41, 42, 43, 44, 45] (fun _ => [(8, .int .i64 (hdE1 next (plo l) i))]) (fun _ => HS w [] [.blk b1 48 5 [.int .i64 (nth l i).hd, .int .i64 (nth l i).ac, .int .i64 (nth l i).sh, .bool (nth l i).dl, .slice (nth l i).la (nth l i).lk.length (nth l i).lc]]) (fun _ => True) ?_ ?_
  · skip
    refine s_draw [] mixed ?_
    refine d_p 0 rfl (p_fieldAddr rfl rfl fd_48_0 sz_3 rfl) (by kernel_rfl) rfl rfl ?_
    first | refine d_q 1 [] rfl (q_load rfl rfl sz_3 (by repeat (first | exact .here | apply Pick.there)) rfl) (by kernel_rfl) (by kernel_rfl) (by kernel_rfl) rfl ?_ | refine d_q 1 [] rfl (q_load_old rfl rfl sz_3 (rfl (Rw.rd hs.1 (i := i) (by omega)))) (by kernel_rfl) (by kernel_rfl) (by kernel_rfl) rfl ?_ | refine d_q 1 [] rfl (q_load_old rfl rfl sz_3 (hb0)) (by kernel_rfl) (by kernel_rfl) (by kernel_rfl) rfl ?_ | refine d_q 1 [] rfl (q_load_old rfl rfl sz_3 (hb1)) (by kernel_rfl) (by kernel_rfl) (by kernel_rfl) rfl ?_ | refine d_q 1 [] rfl (q_load_old rfl rfl sz_3 ((hs.1.rdj (i := i - 1) 0 (by omega) rfl))) (by kernel_rfl) (by kernel_rfl) (by kernel_rfl) rfl ?_
    refine d_p 2 rfl (p_pure rfl) (by kernel_rfl) rfl rfl ?_
    refine d_p 3 rfl (p_pure rfl) (by kernel_rfl) rfl rfl ?_
    refine d_p 4 rfl (p_fieldAddr rfl rfl fd_114_0 sz_3 rfl) (by kernel_rfl) rfl rfl ?_
    first | refine d_q 5 [] rfl (q_load rfl rfl sz_3 (by repeat (first | exact .here | apply Pick.there)) rfl) (by kernel_rfl) (by kernel_rfl) (by kernel_rfl) rfl ?_ | refine d_q 5 [] rfl (q_load_old rfl rfl sz_3 (rfl (Rw.rd hs.1 (i := i) (by omega)))) (by kernel_rfl) (by kernel_rfl) (by kernel_rfl) rfl ?_ | refine d_q 5 [] rfl (q_load_old rfl rfl sz_3 (hb0)) (by kernel_rfl) (by kernel_rfl) (by kernel_rfl) rfl ?_ | refine d_q 5 [] rfl (q_load_old rfl rfl sz_3 (hb1)) (by kernel_rfl) (by kernel_rfl) (by kernel_rfl) rfl ?_ | refine d_q 5 [] rfl (q_load_old rfl rfl sz_3 ((hs.1.rdj (i := i - 1) 0 (by omega) rfl))) (by kernel_rfl) (by kernel_rfl) (by kernel_rfl) rfl ?_
    refine d_p 6 rfl (p_pure rfl) (by kernel_rfl) rfl rfl ?_
    try (refine d_slot (i64w (by omega) (by omega)) ?_)
    refine d_q 7 [] rfl (q_call rfl fn_49 rfl (fun w1 h1 => c49 w1 _ _ _)) (by kernel_rfl) (by kernel_rfl) (by kernel_rfl) rfl ?_
    refine d_q 8 [] rfl (q_call rfl fn_48 rfl (fun w1 h1 => c48 w1 _ _)) (by kernel_rfl) (by kernel_rfl) (by kernel_rfl) rfl ?_
    first | refine d_q 9 [] rfl (q_loadn rfl rfl sz_48 (by repeat (first | exact .here | apply Pick.there)) rfl) (by kernel_rfl) (by kernel_rfl) (by kernel_rfl) rfl ?_ | refine d_q 9 [] rfl (q_load_oldn _ rfl rfl sz_48 rfl (Rw.rd hs.1 (i := i) (by omega))) (by kernel_rfl) (by kernel_rfl) (by kernel_rfl) rfl ?_ | refine d_q 9 [] rfl (q_load_oldn _ rfl rfl sz_48 hb0) (by kernel_rfl) (by kernel_rfl) (by kernel_rfl) rfl ?_ | refine d_q 9 [] rfl (q_load_oldn _ rfl rfl sz_48 hb1) (by kernel_rfl) (by kernel_rfl) (by kernel_rfl) rfl ?_ | refine d_q 9 [] rfl (q_load_oldn _ rfl rfl sz_48 (hs.1.rdj (i := i - 1) 0 (by omega) rfl)) (by kernel_rfl) (by kernel_rfl) (by kernel_rfl) rfl ?_
    refine d_q 10 [] rfl (q_call rfl fn_62 rfl (fun w1 h1 => c62 w1 _)) (by kernel_rfl) (by kernel_rfl) (by kernel_rfl) rfl ?_
    refine d_p 11 rfl (p_pure rfl) (by kernel_rfl) rfl rfl ?_
    refine d_p 12 rfl (p_pure rfl) (by kernel_rfl) rfl rfl ?_
    refine d_p 13 rfl (p_pure rfl) (by kernel_rfl) rfl rfl ?_
    apply d_split 26
    · exact rfl
    · intro hg2
      have hs3 := hg2; try simp only [decide_eq_true_eq, decide_eq_false_iff_not, Bool.not_eq_true', Bool.not_eq_false', Bool.and_eq_true, Bool.or_eq_true, Bool.and_eq_false_iff, Bool.or_eq_false_iff, Bool.not_true, Bool.not_false] at hs3
      refine d_off 14 26 rfl rfl rfl hg2 (by kernel_rfl) rfl rfl ?_
      refine d_off 15 26 rfl rfl rfl hg2 (by kernel_rfl) rfl rfl ?_
      refine d_off 16 26 rfl rfl rfl hg2 (by kernel_rfl) rfl rfl ?_
      refine d_off 17 26 rfl rfl rfl hg2 (by kernel_rfl) rfl rfl ?_
      refine d_off 18 26 rfl rfl rfl hg2 (by kernel_rfl) rfl rfl ?_
      refine d_off 19 26 rfl rfl rfl hg2 (by kernel_rfl) rfl rfl ?_
      refine d_off 20 26 rfl rfl rfl hg2 (by kernel_rfl) rfl rfl ?_
      refine d_off 21 26 rfl rfl rfl hg2 (by kernel_rfl) rfl rfl ?_
      refine d_off 22 26 rfl rfl rfl hg2 (by kernel_rfl) rfl rfl ?_
      refine d_off 23 26 rfl rfl rfl hg2 (by kernel_rfl) rfl rfl ?_
      refine d_p 24 rfl (p_pickt rfl rfl hg2 rfl) (by kernel_rfl) rfl rfl ?_
      refine d_q 25 [] rfl (q_call rfl fn_48 rfl (fun w1 h1 => c48 w1 _ _)) (by kernel_rfl) (by kernel_rfl) (by kernel_rfl) rfl ?_
      refine d_p 26 rfl (p_fieldAddr rfl rfl fd_48_4 sz_46 rfl) (by kernel_rfl) rfl rfl ?_
      first | refine d_q 27 [] rfl (q_load rfl rfl sz_46 (by repeat (first | exact .here | apply Pick.there)) rfl) (by kernel_rfl) (by kernel_rfl) (by kernel_rfl) rfl ?_ | refine d_q 27 [] rfl (q_load_old rfl rfl sz_46 (rfl (Rw.rd hs.1 (i := i) (by omega)))) (by kernel_rfl) (by kernel_rfl) (by kernel_rfl) rfl ?_ | refine d_q 27 [] rfl (q_load_old rfl rfl sz_46 (hb0)) (by kernel_rfl) (by kernel_rfl) (by kernel_rfl) rfl ?_ | refine d_q 27 [] rfl (q_load_old rfl rfl sz_46 (hb1)) (by kernel_rfl) (by kernel_rfl) (by kernel_rfl) rfl ?_ | refine d_q 27 [] rfl (q_load_old rfl rfl sz_46 ((hs.1.rdj (i := i - 1) 0 (by omega) rfl))) (by kernel_rfl) (by kernel_rfl) (by kernel_rfl) rfl ?_
      first | refine d_p 28 rfl (p_len_slice rfl rfl Try.underlying46) (by kernel_rfl) rfl rfl ?_ | refine d_q 28 [] rfl (q_len_own rfl rfl Try.underlying46 (by repeat (first | exact .here | apply Pick.there))) (by kernel_rfl) (by kernel_rfl) (by kernel_rfl) rfl ?_
      refine d_p 29 rfl (p_pure rfl) (by kernel_rfl) rfl rfl ?_
      refine d_q 30 [] rfl (q_call rfl fn_48 rfl (fun w1 h1 => c48 w1 _ _)) (by kernel_rfl) (by kernel_rfl) (by kernel_rfl) rfl ?_
      refine d_h 31 rfl (h_buildSlice (cs := [_, _, _, _]) rfl rfl sl_146 zr_28 rfl rfl rfl) (by kernel_rfl) (fun w h => h.ent (by repeat (first | exact .nil | refine .cons (by repeat (first | exact .here | apply Pick.there)) ?_))) rfl (fun b4 _ => ?_)
      refine d_base (fun w h => h.ent (by repeat (first | exact .nil | refine .cons (by repeat (first | exact .here | apply Pick.there)) ?_))) ?_
      refine d_q 32 [] rfl (q_call rfl fn_52 rfl (fun w1 h1 => f52 h1 (by repeat (first | exact .here | apply Pick.there)) (by rfl) (by rfl) (by decide))) (by kernel_rfl) (by kernel_rfl) (by kernel_rfl) rfl ?_
      refine d_p 33 rfl (p_pure rfl) (by kernel_rfl) rfl rfl ?_
      refine d_nil (by kernel_rfl) (fun w h => h.ent (by repeat (first | exact .nil | refine .cons (by repeat (first | exact .here | apply Pick.there)) ?_))) ?_
      exact s_joinI () trivial (sl_c (congrArg (fun e => some (Value.int .i64 e)) ((by have hw9 := hd_way (next := next) (ops := plo l) (k := i) (b := true) (by simp; omega); rw [ep] at hw9; exact hw9) )) (by repeat (first | exact sl_n | refine sl_c rfl ?_))) (fun w h => h.ent (by repeat (first | exact .nil | refine .cons (by repeat (first | exact .here | apply Pick.there)) ?_)))
    · intro hg5
      have hs6 := hg5; try simp only [decide_eq_true_eq, decide_eq_false_iff_not, Bool.not_eq_true', Bool.not_eq_false', Bool.and_eq_true, Bool.or_eq_true, Bool.and_eq_false_iff, Bool.or_eq_false_iff, Bool.not_true, Bool.not_false] at hs6
      refine d_pon 14 26 rfl rfl rfl hg5 (p_pure rfl) (by kernel_rfl) rfl rfl ?_
      refine d_pon 15 26 rfl rfl rfl hg5 (p_pure rfl) (by kernel_rfl) rfl rfl ?_
      refine d_pon 16 26 rfl rfl rfl hg5 (p_pure rfl) (by kernel_rfl) rfl rfl ?_
      try (refine d_slot (i64w (by omega) (by omega)) ?_)
      refine d_pon 17 26 rfl rfl rfl hg5 (p_max2 rfl rfl rfl ) (by kernel_rfl) rfl rfl ?_
      refine d_slot (show _ = Value.int .i64 ((i - 1 : Nat) : Int) from by congr 1; split <;> omega) ?_
      first | refine d_pon 18 26 rfl rfl rfl hg5 (p_indexAddr rfl rfl rfl sl_75 ((i - 1)) (by omega) (by omega) rfl) (by kernel_rfl) rfl rfl ?_ | refine d_pon 18 26 rfl rfl rfl hg5 (p_indexAddr rfl rfl rfl sl_75 ((i - 1)) (by omega) (by omega) (Rw.some hs.1 (by omega))) (by kernel_rfl) rfl rfl ?_
      refine d_pon 19 26 rfl rfl rfl hg5 (p_fieldAddr rfl rfl fd_48_0 sz_3 rfl) (by kernel_rfl) rfl rfl ?_
      first | refine d_qon 20 26 [] rfl rfl rfl hg5 (q_load rfl rfl sz_3 (by repeat (first | exact .here | apply Pick.there)) rfl) (by kernel_rfl) (by kernel_rfl) (by kernel_rfl) rfl ?_ | refine d_qon 20 26 [] rfl rfl rfl hg5 (q_load_old rfl rfl sz_3 (rfl (Rw.rd hs.1 (i := i) (by omega)))) (by kernel_rfl) (by kernel_rfl) (by kernel_rfl) rfl ?_ | refine d_qon 20 26 [] rfl rfl rfl hg5 (q_load_old rfl rfl sz_3 (hb0)) (by kernel_rfl) (by kernel_rfl) (by kernel_rfl) rfl ?_ | refine d_qon 20 26 [] rfl rfl rfl hg5 (q_load_old rfl rfl sz_3 (hb1)) (by kernel_rfl) (by kernel_rfl) (by kernel_rfl) rfl ?_ | refine d_qon 20 26 [] rfl rfl rfl hg5 (q_load_old rfl rfl sz_3 ((hs.1.rdj (i := i - 1) 0 (by omega) rfl))) (by kernel_rfl) (by kernel_rfl) (by kernel_rfl) rfl ?_
      refine d_pon 21 26 rfl rfl rfl hg5 (p_fieldAddr rfl rfl fd_48_0 sz_3 rfl) (by kernel_rfl) rfl rfl ?_
      first | refine d_qon 22 26 [] rfl rfl rfl hg5 (q_load rfl rfl sz_3 (by repeat (first | exact .here | apply Pick.there)) rfl) (by kernel_rfl) (by kernel_rfl) (by kernel_rfl) rfl ?_ | refine d_qon 22 26 [] rfl rfl rfl hg5 (q_load_old rfl rfl sz_3 (rfl (Rw.rd hs.1 (i := i) (by omega)))) (by kernel_rfl) (by kernel_rfl) (by kernel_rfl) rfl ?_ | refine d_qon 22 26 [] rfl rfl rfl hg5 (q_load_old rfl rfl sz_3 (hb0)) (by kernel_rfl) (by kernel_rfl) (by kernel_rfl) rfl ?_ | refine d_qon 22 26 [] rfl rfl rfl hg5 (q_load_old rfl rfl sz_3 (hb1)) (by kernel_rfl) (by kernel_rfl) (by kernel_rfl) rfl ?_ | refine d_qon 22 26 [] rfl rfl rfl hg5 (q_load_old rfl rfl sz_3 ((hs.1.rdj (i := i - 1) 0 (by omega) rfl))) (by kernel_rfl) (by kernel_rfl) (by kernel_rfl) rfl ?_
      refine d_pon 23 26 rfl rfl rfl hg5 (p_pure rfl) (by kernel_rfl) rfl rfl ?_
      refine d_p 24 rfl (p_pickf rfl rfl hg5 rfl) (by kernel_rfl) rfl rfl ?_
      refine d_q 25 [] rfl (q_call rfl fn_48 rfl (fun w1 h1 => c48 w1 _ _)) (by kernel_rfl) (by kernel_rfl) (by kernel_rfl) rfl ?_
      refine d_p 26 rfl (p_fieldAddr rfl rfl fd_48_4 sz_46 rfl) (by kernel_rfl) rfl rfl ?_
      first | refine d_q 27 [] rfl (q_load rfl rfl sz_46 (by repeat (first | exact .here | apply Pick.there)) rfl) (by kernel_rfl) (by kernel_rfl) (by kernel_rfl) rfl ?_ | refine d_q 27 [] rfl (q_load_old rfl rfl sz_46 (rfl (Rw.rd hs.1 (i := i) (by omega)))) (by kernel_rfl) (by kernel_rfl) (by kernel_rfl) rfl ?_ | refine d_q 27 [] rfl (q_load_old rfl rfl sz_46 (hb0)) (by kernel_rfl) (by kernel_rfl) (by kernel_rfl) rfl ?_ | refine d_q 27 [] rfl (q_load_old rfl rfl sz_46 (hb1)) (by kernel_rfl) (by kernel_rfl) (by kernel_rfl) rfl ?_ | refine d_q 27 [] rfl (q_load_old rfl rfl sz_46 ((hs.1.rdj (i := i - 1) 0 (by omega) rfl))) (by kernel_rfl) (by kernel_rfl) (by kernel_rfl) rfl ?_
      first | refine d_p 28 rfl (p_len_slice rfl rfl Try.underlying46) (by kernel_rfl) rfl rfl ?_ | refine d_q 28 [] rfl (q_len_own rfl rfl Try.underlying46 (by repeat (first | exact .here | apply Pick.there))) (by kernel_rfl) (by kernel_rfl) (by kernel_rfl) rfl ?_
      refine d_p 29 rfl (p_pure rfl) (by kernel_rfl) rfl rfl ?_
      refine d_q 30 [] rfl (q_call rfl fn_48 rfl (fun w1 h1 => c48 w1 _ _)) (by kernel_rfl) (by kernel_rfl) (by kernel_rfl) rfl ?_
      refine d_h 31 rfl (h_buildSlice (cs := [_, _, _, _]) rfl rfl sl_146 zr_28 rfl rfl rfl) (by kernel_rfl) (fun w h => h.ent (by repeat (first | exact .nil | refine .cons (by repeat (first | exact .here | apply Pick.there)) ?_))) rfl (fun b7 _ => ?_)
      refine d_base (fun w h => h.ent (by repeat (first | exact .nil | refine .cons (by repeat (first | exact .here | apply Pick.there)) ?_))) ?_
      refine d_q 32 [] rfl (q_call rfl fn_52 rfl (fun w1 h1 => f52 h1 (by repeat (first | exact .here | apply Pick.there)) (by rfl) (by rfl) (by decide))) (by kernel_rfl) (by kernel_rfl) (by kernel_rfl) rfl ?_
      refine d_p 33 rfl (p_pure rfl) (by kernel_rfl) rfl rfl ?_
      refine d_nil (by kernel_rfl) (fun w h => h.ent (by repeat (first | exact .nil | refine .cons (by repeat (first | exact .here | apply Pick.there)) ?_))) ?_
      exact s_joinI () trivial (sl_c (congrArg (fun e => some (Value.int .i64 e)) (by have hw9 := hd_way (next := next) (ops := plo l) (k := i) (b := decide ((nth l (i - 1)).hd < (nth l i).hd)) (by rw [ep, nth_plo (by omega)]; simp only [LOpn.pl]; apply decide_eq_decide.2; omega); rw [ep] at hw9; exact hw9)) (by repeat (first | exact sl_n | refine sl_c rfl ?_))) (fun w h => h.ent (by repeat (first | exact .nil | refine .cons (by repeat (first | exact .here | apply Pick.there)) ?_)))
  · intro _ _
    refine s_seq ?_
    refine s_seq ?_
    refine s_region ?_
    refine o_p (p_pure rfl) rfl ?_
    refine o_p (p_pure rfl) rfl ?_
    refine o_nil ?_
    refine s_cutI (α := Unit) [8, 48, 49, 50, 51, 52, 53] (fun _ => [(8, .int .i64 (hdE2 next (plo l) i))]) (fun _ => HS w [] [.blk b1 48 5 [.int .i64 (nth l i).hd, .int .i64 (nth l i).ac, .int .i64 (nth l i).sh, .bool (nth l i).dl, .slice (nth l i).la (nth l i).lk.length (nth l i).lc]]) (fun _ => True) ?_ ?_
    · skip
      refine s_cond rfl (fun h8 => ?_) (fun h8 => ?_)
      · try simp only [decide_eq_true_eq, decide_eq_false_iff_not, Bool.not_eq_true', Bool.not_eq_false', Bool.and_eq_true, Bool.or_eq_true, Bool.and_eq_false_iff, Bool.or_eq_false_iff, Bool.not_true, Bool.not_false] at h8
        have he1 : hdE1 next (plo l) i = 0 := by omega
        have h10 := hd1_0 he1
        rw [ep] at h10
        refine s_region ?_
        refine o_p (p_fieldAddr rfl rfl fd_48_4 sz_46 rfl) rfl ?_
        first | refine o_q (q_load rfl rfl sz_46 (by repeat (first | exact .here | apply Pick.there)) rfl) rfl ?_ | refine o_q (q_load_old rfl rfl sz_46 (rfl (Rw.rd hs.1 (i := i) (by omega)))) rfl ?_ | refine o_q (q_load_old rfl rfl sz_46 (hb0)) rfl ?_ | refine o_q (q_load_old rfl rfl sz_46 (hb1)) rfl ?_ | refine o_q (q_load_old rfl rfl sz_46 ((hs.1.rdj (i := i - 1) 0 (by omega) rfl))) rfl ?_
        refine o_q (q_call rfl fn_92 rfl (fun w1 h1 => by have h9 := c92 w1 (nth l i).la (nth l i).lc (nth l i).lk 93 #[] ((nth l i).lk.map fun k => rngE k.fr k.cnt) ((hs.at hi).later h1) (by have := h10.2.2.2; simp only [LOpn.pl] at this; omega) (by kernel_rfl) (by simp) (fun j w2 hj _ h2 => by rw [map_getD_nth hj]; exact c93 w2 _ _); exact h9)) rfl ?_
        refine o_p (p_pure rfl) rfl ?_
        refine o_p (p_pure rfl) rfl ?_
        refine o_p (p_pure rfl) rfl ?_
        refine o_p (p_pure rfl) rfl ?_
        refine o_nil ?_
        exact s_joinI () trivial (sl_c (congrArg (fun e => some (Value.int .i64 e)) (by rw [hdE2, if_pos he1, ep]; rfl)) (by repeat (first | exact sl_n | refine sl_c rfl ?_))) (fun w h => h.ent (by repeat (first | exact .nil | refine .cons (by repeat (first | exact .here | apply Pick.there)) ?_)))
      · try simp only [decide_eq_true_eq, decide_eq_false_iff_not, Bool.not_eq_true', Bool.not_eq_false', Bool.and_eq_true, Bool.or_eq_true, Bool.and_eq_false_iff, Bool.or_eq_false_iff, Bool.not_true, Bool.not_false] at h8
        refine s_skip ?_
        exact s_joinI () trivial (sl_c (congrArg (fun e => some (Value.int .i64 e)) (by rw [hdE2, if_neg (by omega)])) (by repeat (first | exact sl_n | refine sl_c rfl ?_))) (fun w h => h.ent (by repeat (first | exact .nil | refine .cons (by repeat (first | exact .here | apply Pick.there)) ?_)))
    · intro _ _
      refine s_seq ?_
      refine s_draw [] mixed ?_
      refine d_p 0 rfl (p_pure rfl) (by kernel_rfl) rfl rfl ?_
      refine d_p 1 rfl (p_pure rfl) (by kernel_rfl) rfl rfl ?_
      refine d_p 2 rfl (p_pure rfl) (by kernel_rfl) rfl rfl ?_
      refine d_p 3 rfl (p_fieldAddr rfl rfl fd_114_1 sz_112 rfl) (by kernel_rfl) rfl rfl ?_
      first | refine d_q 4 [] rfl (q_load rfl rfl sz_112 (by repeat (first | exact .here | apply Pick.there)) rfl) (by kernel_rfl) (by kernel_rfl) (by kernel_rfl) rfl ?_ | refine d_q 4 [] rfl (q_load_old rfl rfl sz_112 (rfl (Rw.rd hs.1 (i := i) (by omega)))) (by kernel_rfl) (by kernel_rfl) (by kernel_rfl) rfl ?_ | refine d_q 4 [] rfl (q_load_old rfl rfl sz_112 (hb0)) (by kernel_rfl) (by kernel_rfl) (by kernel_rfl) rfl ?_ | refine d_q 4 [] rfl (q_load_old rfl rfl sz_112 (hb1)) (by kernel_rfl) (by kernel_rfl) (by kernel_rfl) rfl ?_ | refine d_q 4 [] rfl (q_load_old rfl rfl sz_112 ((hs.1.rdj (i := i - 1) 0 (by omega) rfl))) (by kernel_rfl) (by kernel_rfl) (by kernel_rfl) rfl ?_
      refine d_p 5 rfl (p_fieldAddr rfl rfl fd_48_0 sz_3 rfl) (by kernel_rfl) rfl rfl ?_
      first | refine d_q 6 [] rfl (q_load rfl rfl sz_3 (by repeat (first | exact .here | apply Pick.there)) rfl) (by kernel_rfl) (by kernel_rfl) (by kernel_rfl) rfl ?_ | refine d_q 6 [] rfl (q_load_old rfl rfl sz_3 (rfl (Rw.rd hs.1 (i := i) (by omega)))) (by kernel_rfl) (by kernel_rfl) (by kernel_rfl) rfl ?_ | refine d_q 6 [] rfl (q_load_old rfl rfl sz_3 (hb0)) (by kernel_rfl) (by kernel_rfl) (by kernel_rfl) rfl ?_ | refine d_q 6 [] rfl (q_load_old rfl rfl sz_3 (hb1)) (by kernel_rfl) (by kernel_rfl) (by kernel_rfl) rfl ?_ | refine d_q 6 [] rfl (q_load_old rfl rfl sz_3 ((hs.1.rdj (i := i - 1) 0 (by omega) rfl))) (by kernel_rfl) (by kernel_rfl) (by kernel_rfl) rfl ?_
      first | refine d_q 7 [] rfl (q_lookup rfl rfl rfl Try.underlying112 zv_4 (key_int ki_3) (by repeat (first | exact .here | apply Pick.there))) (by kernel_rfl) (by kernel_rfl) (by kernel_rfl) rfl ?_ | refine d_q 7 [] rfl (q_lookup_old rfl rfl rfl Try.underlying112 zv_4 (key_int ki_3) (hr)) (by kernel_rfl) (by kernel_rfl) (by kernel_rfl) rfl ?_
      refine d_p 8 rfl (p_pure rfl) (by kernel_rfl) rfl rfl ?_
      refine d_q 9 [] rfl (q_call rfl fn_48 rfl (fun w1 h1 => c48 w1 _ _)) (by kernel_rfl) (by kernel_rfl) (by kernel_rfl) rfl ?_
      refine d_h 10 rfl (h_buildSlice (cs := [_, _]) rfl rfl sl_146 zr_28 rfl rfl rfl) (by kernel_rfl) (fun w h => h.ent (by repeat (first | exact .nil | refine .cons (by repeat (first | exact .here | apply Pick.there)) ?_))) rfl (fun b9 _ => ?_)
      refine d_base (fun w h => h.ent (by repeat (first | exact .nil | refine .cons (by repeat (first | exact .here | apply Pick.there)) ?_))) ?_
      refine d_q 11 [] rfl (q_call rfl fn_52 rfl (fun w1 h1 => f52 h1 (by repeat (first | exact .here | apply Pick.there)) (by rfl) (by rfl) (by decide))) (by kernel_rfl) (by kernel_rfl) (by kernel_rfl) rfl ?_
      refine d_slot (show _ = Value.int .i64 (hdE3 next known (plo l) i) from by congr 1; unfold hdE3; rw [ep]; simp only [firstV, cond_eq_ite]; have : ∀ p : Prop, [Decidable p] → ((if (!decide p) = true then (0 : Int) else 23) = if p then 23 else 0) := (by intro p _; by_cases p <;> simp [*]); rw [this]; simp only [LOpn.pl]; grind) ?_
      refine d_p 12 rfl (p_pure rfl) (by kernel_rfl) rfl rfl ?_
      refine d_nil (by kernel_rfl) (fun w h => h.ent (by repeat (first | exact .nil | refine .cons (by repeat (first | exact .here | apply Pick.there)) ?_))) ?_
      refine s_seq ?_
      refine s_seq ?_
      refine s_region ?_
      refine o_p (p_pure rfl) rfl ?_
      refine o_p (p_pure rfl) rfl ?_
      refine o_p (p_pure rfl) rfl ?_
      refine o_and 6 68 74 _ _ rfl
        (by
          intro hg10
          have hs11 := hg10; try simp only [decide_eq_true_eq, decide_eq_false_iff_not, Bool.not_eq_true', Bool.not_eq_false', Bool.and_eq_true, Bool.or_eq_true, Bool.and_eq_false_iff, Bool.or_eq_false_iff, Bool.not_true, Bool.not_false] at hs11
          refine o_on 68 _ rfl rfl hg10 ?_
          refine o_p (p_pure rfl) rfl ?_
          refine o_on 68 _ rfl rfl hg10 ?_
          refine o_p (p_pure rfl) rfl ?_
          refine o_on 68 _ rfl rfl hg10 ?_
          refine o_p (p_slice _ _ 0 i rfl rfl sl_75 rfl ⟨_, _, rfl, rfl⟩ (by omega) (by omega)) rfl ?_
          refine o_slot (show _ = Value.slice a (l.take i).length cap from by rw [subA0 (Rw.some hs.1 (by omega)), List.length_take]; congr 1; omega) ?_
          refine o_on 68 _ rfl rfl hg10 ?_
          refine o_p (p_pure rfl) rfl ?_
          refine o_on 68 _ rfl rfl hg10 ?_
          refine o_q (q_call rfl fn_95 rfl (fun w1 h1 => by have h9 := c95 w1 a cap (l.take i) 96 #[.pointer (some ⟨b1, 0, none⟩)] ((l.take i).map fun y => cfl (nth l i).pl y.pl) ((hs.take i).1.later h1) (by simp; omega) (by kernel_rfl) (by simp) (fun j w2 hj h2 => by rw [map_getD_nthB hj]; exact c96 w2 b1 _ (nth l i) (fun q v hv => by rw [Nat.zero_add]; exact (h1.rd_blk (Mc := []) (by repeat (first | exact .here | apply Pick.there)) hv (by simp)).later h2 (by simp)) (by have h30 := hd3_0 (next := next) (known := known) (ops := plo l) (k := i) (by omega); have h10 := hd1_0 (hd2_0 h30.1).1; rw [ep] at h10; exact h10.2.1) (hvo _ (mem_nth hj)).1); rw [any_map_id, ← eany] at h9; exact h9)) rfl ?_
          refine o_p (p_pickt rfl rfl hg10 rfl) rfl ?_
          refine o_nil ?_
          exact s_joinN 6 74 _ rfl rfl rfl (fun w h => by first | exact h | exact h.ent (by repeat (first | exact .nil | refine .cons (by repeat (first | exact .here | apply Pick.there)) ?_))))
        (by
          intro hg12
          have hs13 := hg12; try simp only [decide_eq_true_eq, decide_eq_false_iff_not, Bool.not_eq_true', Bool.not_eq_false', Bool.and_eq_true, Bool.or_eq_true, Bool.and_eq_false_iff, Bool.or_eq_false_iff, Bool.not_true, Bool.not_false] at hs13
          refine o_off 68 _ rfl rfl hg12 rfl ?_
          refine o_off 68 _ rfl rfl hg12 rfl ?_
          refine o_off 68 _ rfl rfl hg12 rfl ?_
          refine o_off 68 _ rfl rfl hg12 rfl ?_
          refine o_off 68 _ rfl rfl hg12 rfl ?_
          refine o_p (p_pickf rfl rfl hg12 rfl) rfl ?_
          refine o_nil ?_
          exact s_joinN 6 74 _ rfl rfl rfl (fun w h => by first | exact h | exact h.ent (by repeat (first | exact .nil | refine .cons (by repeat (first | exact .here | apply Pick.there)) ?_)))) ?_
      refine o_nil ?_
      refine s_weaken (L' := [(1, _), (2, _), (6, _), (7, _), (8, _), (74, _)]) (by repeat (first | exact sl_n | refine sl_c rfl ?_)) (fun _ h => h) ?_
      refine s_cutI (α := Unit) [8] (fun _ => [(8, .int .i64 (hdE4 next known (plo l) i))]) (fun _ => HS w [] [.blk b1 48 5 [.int .i64 (nth l i).hd, .int .i64 (nth l i).ac, .int .i64 (nth l i).sh, .bool (nth l i).dl, .slice (nth l i).la (nth l i).lk.length (nth l i).lc]]) (fun _ => True) ?_ ?_
      · skip
        refine s_cond rfl (fun h14 => ?_) (fun h14 => ?_)
        · try simp only [decide_eq_true_eq, decide_eq_false_iff_not, Bool.not_eq_true', Bool.not_eq_false', Bool.and_eq_true, Bool.or_eq_true, Bool.and_eq_false_iff, Bool.or_eq_false_iff, Bool.not_true, Bool.not_false] at h14
          refine s_region ?_
          refine o_p (p_pure rfl) rfl ?_
          refine o_nil ?_
          exact s_joinI () trivial (sl_c (congrArg (fun e => some (Value.int .i64 e)) (by have hq := h14; (try simp only [Bool.and_eq_true, decide_eq_true_eq] at hq); rw [hdE4, if_pos hq.1, if_pos hq.2])) (by repeat (first | exact sl_n | refine sl_c rfl ?_))) (fun w h => h.ent (by repeat (first | exact .nil | refine .cons (by repeat (first | exact .here | apply Pick.there)) ?_)))
        · try simp only [decide_eq_true_eq, decide_eq_false_iff_not, Bool.not_eq_true', Bool.not_eq_false', Bool.and_eq_true, Bool.or_eq_true, Bool.and_eq_false_iff, Bool.or_eq_false_iff, Bool.not_true, Bool.not_false] at h14
          refine s_skip ?_
          exact s_joinI () trivial (sl_c (congrArg (fun e => some (Value.int .i64 e)) (by have hq := h14; unfold hdE4; grind)) (by repeat (first | exact sl_n | refine sl_c rfl ?_))) (fun w h => h.ent (by repeat (first | exact .nil | refine .cons (by repeat (first | exact .here | apply Pick.there)) ?_)))
      · intro _ _
        refine s_seq ?_
        refine s_seq ?_
        refine s_region ?_
        refine o_p (p_pure rfl) rfl ?_
        refine o_p (p_pure rfl) rfl ?_
        refine o_nil ?_
        refine s_cond rfl (fun h15 => ?_) (fun h15 => ?_)
        · try simp only [decide_eq_true_eq, decide_eq_false_iff_not, Bool.not_eq_true', Bool.not_eq_false', Bool.and_eq_true, Bool.or_eq_true, Bool.and_eq_false_iff, Bool.or_eq_false_iff, Bool.not_true, Bool.not_false] at h15
          have he4 : hdE4 next known (plo l) i = 0 := by omega
          have h40 := hd4_0 he4
          have h30 := hd3_0 h40.1
          have h20 := hd2_0 h30.1
          have h10 := hd1_0 h20.1
          rw [ep] at h10 h20
          refine s_draw [] mixed ?_
          first | refine d_q 0 [] rfl (q_loadn rfl rfl sz_48 (by repeat (first | exact .here | apply Pick.there)) rfl) (by kernel_rfl) (by kernel_rfl) (by kernel_rfl) rfl ?_ | refine d_q 0 [] rfl (q_load_oldn _ rfl rfl sz_48 rfl (Rw.rd hs.1 (i := i) (by omega))) (by kernel_rfl) (by kernel_rfl) (by kernel_rfl) rfl ?_ | refine d_q 0 [] rfl (q_load_oldn _ rfl rfl sz_48 hb0) (by kernel_rfl) (by kernel_rfl) (by kernel_rfl) rfl ?_ | refine d_q 0 [] rfl (q_load_oldn _ rfl rfl sz_48 hb1) (by kernel_rfl) (by kernel_rfl) (by kernel_rfl) rfl ?_ | refine d_q 0 [] rfl (q_load_oldn _ rfl rfl sz_48 (hs.1.rdj (i := i - 1) 0 (by omega) rfl)) (by kernel_rfl) (by kernel_rfl) (by kernel_rfl) rfl ?_
          refine d_p 1 rfl (p_pure rfl) (by kernel_rfl) rfl rfl ?_
          refine d_p 2 rfl (p_pure rfl) (by kernel_rfl) rfl rfl ?_
          refine d_p 3 rfl (p_slice _ _ 0 i rfl rfl sl_75 rfl ⟨_, _, rfl, rfl⟩ (by omega) (by omega)) (by kernel_rfl) rfl rfl ?_
          refine d_slot (show _ = Value.slice a (l.take i).length cap from by rw [subA0 (Rw.some hs.1 (by omega)), List.length_take]; congr 1; omega) ?_
          refine d_q 4 [] rfl (q_call rfl fn_97 rfl (fun w1 h1 => c97 w1 (nth l i) a cap (l.take i) ((hs.take i).later h1) ((hs.at hi).later h1) h20.2 (fun o ho => (hvo o ho).2.1) (by simp; omega) (fun o ho => (hvo o ho).2.2) h10.2.2.2)) (by kernel_rfl) (by kernel_rfl) (by kernel_rfl) rfl ?_
          refine d_p 5 rfl (p_pure rfl) (by kernel_rfl) rfl rfl ?_
          refine d_nil (by kernel_rfl) (fun w h => h.ent (by repeat (first | exact .nil | refine .cons (by repeat (first | exact .here | apply Pick.there)) ?_))) ?_
          refine s_seq ?_
          refine s_region ?_
          refine o_p (p_pure rfl) rfl ?_
          refine o_p (p_pure rfl) rfl ?_
          refine o_nil ?_
          exact s_retv (rs := [.tmp 6]) rfl (.tmp rfl (.nil)) (fun w' h' => ⟨by rw [hdl_4]; first | (rw [if_pos he4, heldK_all, ← List.map_take, ep]; rfl) | (rw [if_neg (by omega)]; rfl), h'.below⟩)
        · try simp only [decide_eq_true_eq, decide_eq_false_iff_not, Bool.not_eq_true', Bool.not_eq_false', Bool.and_eq_true, Bool.or_eq_true, Bool.and_eq_false_iff, Bool.or_eq_false_iff, Bool.not_true, Bool.not_false] at h15
          refine s_skip ?_
          refine s_seq ?_
          refine s_region ?_
          refine o_p (p_pure rfl) rfl ?_
          refine o_p (p_pure rfl) rfl ?_
          refine o_nil ?_
          exact s_retv (rs := [.tmp 6]) rfl (.tmp rfl (.nil)) (fun w' h' => ⟨by rw [hdl_4]; first | (rw [if_pos he4, heldK_all, ← List.map_take, ep]; rfl) | (rw [if_neg (by omega)]; rfl), h'.below⟩)

end Go.Proofs

namespace Go.Proofs
open Go Go.RowKit Gx
set_option linter.unusedVariables false
set_option linter.unusedSimpArgs false
attribute [local irreducible] Go.Calls Gx.S Gx.O Gx.D Gx.OpP Gx.OpQ Gx.OpH

theorem sz_111 : tsz Try.prog 111 = some (1, false) := by kernel_rfl
theorem fd_77_2 : tfd Try.prog 77 2 = some (3, 75) := by kernel_rfl
theorem sz_75 : tsz Try.prog 75 = some (1, false) := by kernel_rfl
theorem fn_59 : isFn Try.prog 59 = true := by kernel_rfl
theorem fd_77_0 : tfd Try.prog 77 0 = some (0, 42) := by kernel_rfl
theorem sz_42 : tsz Try.prog 42 = some (2, true) := by kernel_rfl
theorem fn_55 : isFn Try.prog 55 = true := by kernel_rfl
theorem fd_26_1 : tfd Try.prog 26 1 = some (1, 24) := by kernel_rfl
theorem sz_24 : tsz Try.prog 24 = some (1, false) := by kernel_rfl
theorem fn_56 : isFn Try.prog 56 = true := by kernel_rfl
theorem fn_57 : isFn Try.prog 57 = true := by kernel_rfl
theorem sz_77 : tsz Try.prog 77 = some (4, true) := by kernel_rfl
theorem fn_54 : isFn Try.prog 54 = true := by kernel_rfl
theorem fd_26_0 : tfd Try.prog 26 0 = some (0, 3) := by kernel_rfl
theorem pl_114 : tplaces Try.prog 114 = some [(0, 1), (1, 1)] := by kernel_rfl
theorem zr_114 : tzero Try.prog 114 = some [.int .i64 0, .map none] := by kernel_rfl
theorem zr_111 : tzero Try.prog 111 = some [.pointer none] := by kernel_rfl
theorem fn_53 : isFn Try.prog 53 = true := by kernel_rfl


theorem hdlE_congr {next : Int} {k1 k2 : List Int} {ops : List Opn} {k : Nat} (h : ∀ x, x ∈ k1 ↔ x ∈ k2) : hdlE next k1 ops k = hdlE next k2 ops k := by
  unfold hdlE
  simp only [h]
theorem hdlsE_congr {next : Int} {k1 k2 : List Int} {ops : List Opn} (h : ∀ x, x ∈ k1 ↔ x ∈ k2) : hdlsE next k1 ops = hdlsE next k2 ops := by
  unfold hdlsE
  congr 2
  apply List.map_congr_left
  intro k _
  exact hdlE_congr h
def hdlEs (next : Int) (ks : List Int) (ops : List Opn) : List Int := (List.range ops.length).map (hdlE next ks ops)
theorem hdlEs_get {next : Int} {ks : List Int} {ops : List Opn} {k : Nat} (h : k < ops.length) : (hdlEs next ks ops).getD k 0 = hdlE next ks ops k := by
  simp [hdlEs, List.getD_eq_getElem?_getD, h]
def filEs (next : Int) (L : List Fil) : List Int := (List.range L.length).map (filE next L)
theorem filEs_get {next : Int} {L : List Fil} {k : Nat} (h : k < L.length) : (filEs next L).getD k 0 = filE next L k := by
  simp [filEs, List.getD_eq_getElem?_getD, h]
theorem nth_pls {l : List LFil} {k : Nat} (h : k < l.length) : nth (pls l) k = (nth l k).pl := by
  simp only [nth, pls, List.getD_eq_getElem?_getD, List.getElem?_map, List.getElem?_eq_getElem h, Option.map_some, Option.getD_some]
def filE1 (L : List Fil) (i : Nat) : Int :=
  if refE (nth L i).rc (nth L i).sq = 0 then if i = 0 ∨ refLt ((nth L (i - 1)).rc, (nth L (i - 1)).sq) ((nth L i).rc, (nth L i).sq) = true then if 0 < (nth L i).op.length then 0 else 17 else 9 else refE (nth L i).rc (nth L i).sq
theorem filE_1 (next : Int) (L : List Fil) (i : Nat) : filE next L i = if filE1 L i = 0 then hdlsE next (hds (L.take i)) (nth L i).op else filE1 L i := by
  unfold filE filE1
  simp only []
  grind
theorem fil_way {L : List Fil} {i : Nat} {b : Bool} (hb : b = decide (i = 0 ∨ refLt ((nth L (i - 1)).rc, (nth L (i - 1)).sq) ((nth L i).rc, (nth L i).sq) = true)) :
    firstV [.int .i64 (refE (nth L i).rc (nth L i).sq), .int .i64 (bif b then 0 else 9), .int .i64 (bif decide ((0 : Int) < ((nth L i).op.length : Int)) then 0 else 17)] = filE1 L i := by
  subst hb
  simp only [firstV, cond_eq_ite, decide_eq_true_eq, filE1]
  grind
theorem hds_take {L : List Fil} {i : Nat} (h : i < L.length) (x : Int) : x ∈ hds (L.take (i + 1)) ↔ x ∈ hds (L.take i) ∨ x ∈ (nth L i).op.map Opn.hd := by
  rw [take_succ_nth h]
  unfold hds
  rw [List.flatMap_append, List.mem_append]
  simp
open Classical in
theorem mem_insK' {α : Type} {ks : List α} {a x : α} : x ∈ insK' ks a ↔ x ∈ ks ∨ x = a := by
  unfold insK'
  split
  · rename_i h
    constructor
    · exact .inl
    · rintro (h2 | rfl)
      · exact h2
      · exact h
  · simp
theorem plo_take_hd {l : List LOpn} {k : Nat} (h : k < l.length) (x : Int) : x ∈ ((l.take (k + 1)).map LOpn.hd) ↔ x ∈ ((l.take k).map LOpn.hd) ∨ x = (nth l k).hd := by
  rw [take_succ_nth h]
  simp
theorem cntT_succ {l : List LFil} {k : Nat} (h : k < l.length) : cntT (pls (l.take (k + 1))) = cntT (pls (l.take k)) + (nth l k).op.length := by
  rw [take_succ_nth h]
  simp [cntT, pls, LFil.pl]
theorem cntT_le {l : List LFil} (hl : ∀ f ∈ l, f.op.length ≤ 1000) : ∀ k, k ≤ l.length → cntT (pls (l.take k)) ≤ 1000 * k
  | 0, _ => by simp [cntT, pls]
  | k + 1, h => by
    have h1 := cntT_le hl k (by omega)
    have h2 := hl _ (mem_nth (show k < l.length by omega))
    rw [cntT_succ (by omega)]
    omega
theorem sum_mem : ∀ {l : List Nat} {n : Nat}, n ∈ l → n ≤ l.sum
  | [], _, h => by cases h
  | m :: l, n, h => by
    rw [List.sum_cons]
    rcases List.mem_cons.1 h with rfl | h
    · omega
    · have := sum_mem h; omega
theorem cntT_mem {L : List Fil} {f : Fil} (h : f ∈ L) : f.op.length ≤ cntT L := by
  unfold cntT
  exact sum_mem (List.mem_map.2 ⟨f, h, rfl⟩)
theorem chk_first {next : Int} {L : List Fil} : firstV [.int .i64 (bif decide (1 ≤ next) && decide (next ≤ 2147483647) then 0 else 2), .int .i64 (bif decide ((if (L.length : Int) > (cntT L : Int) then (L.length : Int) else (cntT L : Int)) ≤ 32) then 0 else 8)] = if 1 ≤ next ∧ next ≤ 2147483647 then if L.length ≤ 32 ∧ cntT L ≤ 32 then 0 else 8 else 2 := by
  simp only [firstV, cond_eq_ite, decide_eq_true_eq, Bool.and_eq_true]
  grind

set_option maxRecDepth 20000 in
theorem c58 (w : World) (bv bf bc r : Nat) (next : Int) (known : List Int) (a : Option Addr) (cap : Nat) (l : List LOpn) (i : Nat) (x : LOpn) (hv0 : Rd w [] bv 0 (.pointer (some ⟨bc, 0, none⟩))) (hf3 : Rd w [] bf 3 (.slice a l.length cap)) (hb0 : Rd w [] bc 0 (.int .i64 next)) (hb1 : Rd w [] bc 1 (.map (some r))) (hr : MpR w [] r KI known) (hs : Ot w [] a l) (hi : i < l.length) (hcap : l.length ≤ cap) (hm : l.length ≤ 500) (hn : 1 ≤ next ∧ next ≤ 2147483647) (hv : ∀ j, j < i → hdlE next known (plo l) j = 0) : Calls Try.prog 58 #[.int .i64 (i : Int), .agg #[.int .i64 x.hd, .int .i64 x.ac, .int .i64 x.sh, .bool x.dl, .slice x.la x.lk.length x.lc], .pointer (some ⟨bv, 0, none⟩), .pointer (some ⟨bf, 0, none⟩)] w fun en w' => en = .returned (.int .i64 (hdlE next known (plo l) i)) ∧ Below w.heap.size w w' := by
  refine enter (args := [_, _, _, _]) Try.func58 Try.ntmps58 rfl rfl (HS.refl w []) ?_
  refine s_seq ?_
  refine s_region ?_
  refine o_h (h_box rfl rfl) rfl (fun b1 _ => ?_)
  refine o_p (p_pure rfl) rfl ?_
  refine o_nil ?_
  refine s_seq ?_
  refine s_region ?_
  first | refine o_q (q_load rfl rfl sz_111 (by repeat (first | exact .here | apply Pick.there)) rfl) rfl ?_ | refine o_q (q_load_old rfl rfl sz_111 (hv0)) rfl ?_ | refine o_q (q_load_old rfl rfl sz_111 (hf3)) rfl ?_
  refine o_p (p_fieldAddr rfl rfl fd_77_2 sz_75 rfl) rfl ?_
  first | refine o_q (q_load rfl rfl sz_75 (by repeat (first | exact .here | apply Pick.there)) rfl) rfl ?_ | refine o_q (q_load_old rfl rfl sz_75 (hv0)) rfl ?_ | refine o_q (q_load_old rfl rfl sz_75 (hf3)) rfl ?_
  refine o_p (p_pure rfl) rfl ?_
  refine o_q (q_call rfl fn_59 rfl (fun w1 h1 => c59 w1 bc r next known a cap l i (hb0.next h1) (hb1.next h1) (hr.later h1) (hs.later h1) hi hcap hm hn hv)) rfl ?_
  refine o_p (p_pure rfl) rfl ?_
  refine o_nil ?_
  exact s_retv (rs := [.tmp 6]) rfl (.tmp rfl (.nil)) (fun w' h' => ⟨rfl, h'.below⟩)

set_option maxRecDepth 20000 in
theorem c54 (w : World) (bt bv bc r : Nat) (next : Int) (ks : List Int) (a : Option Addr) (cap : Nat) (L : List LFil) (i : Nat) (hw : HS w (fps [.mp r KI ks]) [.mp r KI ks] w) (ht1 : Rd w (fps [.mp r KI ks]) bt 1 (.slice a L.length cap)) (hv0 : Rd w (fps [.mp r KI ks]) bv 0 (.pointer (some ⟨bc, 0, none⟩))) (hb0 : Rd w (fps [.mp r KI ks]) bc 0 (.int .i64 next)) (hb1 : Rd w (fps [.mp r KI ks]) bc 1 (.map (some r))) (hs : Ft w (fps [.mp r KI ks]) a L) (hi : i < L.length) (hm : L.length ≤ 500) (hmo : ∀ f ∈ L, f.op.length ≤ 500) (hn : 1 ≤ next ∧ next ≤ 2147483647) (hk : ∀ x, x ∈ ks ↔ x ∈ hds ((pls L).take i)) : Calls Try.prog 54 #[.int .i64 (i : Int), .agg #[.int .i64 (nth L i).rc, .int .i64 (nth L i).sq, .bool (nth L i).pd, .slice (nth L i).oa (nth L i).op.length (nth L i).oc], .pointer (some ⟨bt, 0, none⟩), .pointer (some ⟨bv, 0, none⟩)] w fun en w' => ∃ g : List Int, en = .returned (.int .i64 (filE next (pls L) i)) ∧ (∀ x, x ∈ g ↔ x ∈ hds ((pls L).take (i + 1))) ∧ HS w (fps [.mp r KI ks]) [.mp r KI g] w' := by
  have ep := nth_pls hi
  have hmi := hmo _ (mem_nth hi)
  have hpl : i < (pls L).length := by simpa using hi
  refine enter (args := [_, _, _, _]) Try.func54 Try.ntmps54 rfl rfl hw ?_
  refine s_seq ?_
  refine s_region ?_
  refine o_h (h_box rfl rfl) rfl (fun b1 _ => ?_)
  refine o_p (p_pure rfl) rfl ?_
  refine o_nil ?_
  refine s_seq ?_
  refine s_cutI (α := Unit) [7, 10, 11, 12, 13, 14, 15, 16, 17, 18, 19, 20, 21, 22, 23, 24, 25, 26, 27, 28, 29, 30, 31, 32, 33, 34, 35, 36] (fun _ => [(7, .int .i64 (filE1 (pls L) i))]) (fun _ => HS w (fps [.mp r KI ks]) [.mp r KI ks, .blk b1 77 4 [.int .i64 (nth L i).rc, .int .i64 (nth L i).sq, .bool (nth L i).pd, .slice (nth L i).oa (nth L i).op.length (nth L i).oc]]) (fun _ => True) ?_ ?_
  · skip
    refine s_draw [] mixed ?_
    refine d_p 0 rfl (p_fieldAddr rfl rfl fd_77_0 sz_42 rfl) (by kernel_rfl) rfl rfl ?_
    first | refine d_q 1 [] rfl (q_loadn rfl rfl sz_42 (by repeat (first | exact .here | apply Pick.there)) rfl) (by kernel_rfl) (by kernel_rfl) (by kernel_rfl) rfl ?_ | refine d_q 1 [] rfl (q_load_oldn _ rfl rfl sz_42 ht1) (by kernel_rfl) (by kernel_rfl) (by kernel_rfl) rfl ?_ | refine d_q 1 [] rfl (q_load_oldn _ rfl rfl sz_42 hv0) (by kernel_rfl) (by kernel_rfl) (by kernel_rfl) rfl ?_ | refine d_q 1 [] rfl (q_load_oldn _ rfl rfl sz_42 hb0) (by kernel_rfl) (by kernel_rfl) (by kernel_rfl) rfl ?_ | refine d_q 1 [] rfl (q_load_oldn _ rfl rfl sz_42 hb1) (by kernel_rfl) (by kernel_rfl) (by kernel_rfl) rfl ?_ | refine d_q 1 [] rfl (q_load_oldn _ rfl rfl sz_42 rfl (Rw.rd (hs.at hi).1 (i := k) (by omega))) (by kernel_rfl) (by kernel_rfl) (by kernel_rfl) rfl ?_
    refine d_q 2 [] rfl (q_call rfl fn_55 rfl (fun w1 h1 => c55 w1 _ _)) (by kernel_rfl) (by kernel_rfl) (by kernel_rfl) rfl ?_
    refine d_p 3 rfl (p_pure rfl) (by kernel_rfl) rfl rfl ?_
    refine d_p 4 rfl (p_pure rfl) (by kernel_rfl) rfl rfl ?_
    refine d_p 5 rfl (p_pure rfl) (by kernel_rfl) rfl rfl ?_
    apply d_split 15
    · exact rfl
    · intro hg2
      have hs3 := hg2; try simp only [decide_eq_true_eq, decide_eq_false_iff_not, Bool.not_eq_true', Bool.not_eq_false', Bool.and_eq_true, Bool.or_eq_true, Bool.and_eq_false_iff, Bool.or_eq_false_iff, Bool.not_true, Bool.not_false] at hs3
      refine d_off 6 15 rfl rfl rfl hg2 (by kernel_rfl) rfl rfl ?_
      refine d_off 7 15 rfl rfl rfl hg2 (by kernel_rfl) rfl rfl ?_
      refine d_off 8 15 rfl rfl rfl hg2 (by kernel_rfl) rfl rfl ?_
      refine d_off 9 15 rfl rfl rfl hg2 (by kernel_rfl) rfl rfl ?_
      refine d_off 10 15 rfl rfl rfl hg2 (by kernel_rfl) rfl rfl ?_
      refine d_off 11 15 rfl rfl rfl hg2 (by kernel_rfl) rfl rfl ?_
      refine d_off 12 15 rfl rfl rfl hg2 (by kernel_rfl) rfl rfl ?_
      refine d_off 13 15 rfl rfl rfl hg2 (by kernel_rfl) rfl rfl ?_
      refine d_off 14 15 rfl rfl rfl hg2 (by kernel_rfl) rfl rfl ?_
      refine d_off 15 15 rfl rfl rfl hg2 (by kernel_rfl) rfl rfl ?_
      refine d_off 16 15 rfl rfl rfl hg2 (by kernel_rfl) rfl rfl ?_
      refine d_off 17 15 rfl rfl rfl hg2 (by kernel_rfl) rfl rfl ?_
      refine d_p 18 rfl (p_pickt rfl rfl hg2 rfl) (by kernel_rfl) rfl rfl ?_
      refine d_q 19 [] rfl (q_call rfl fn_48 rfl (fun w1 h1 => c48 w1 _ _)) (by kernel_rfl) (by kernel_rfl) (by kernel_rfl) rfl ?_
      refine d_p 20 rfl (p_fieldAddr rfl rfl fd_77_2 sz_75 rfl) (by kernel_rfl) rfl rfl ?_
      first | refine d_q 21 [] rfl (q_load rfl rfl sz_75 (by repeat (first | exact .here | apply Pick.there)) rfl) (by kernel_rfl) (by kernel_rfl) (by kernel_rfl) rfl ?_ | refine d_q 21 [] rfl (q_load_old rfl rfl sz_75 (ht1)) (by kernel_rfl) (by kernel_rfl) (by kernel_rfl) rfl ?_ | refine d_q 21 [] rfl (q_load_old rfl rfl sz_75 (hv0)) (by kernel_rfl) (by kernel_rfl) (by kernel_rfl) rfl ?_ | refine d_q 21 [] rfl (q_load_old rfl rfl sz_75 (hb0)) (by kernel_rfl) (by kernel_rfl) (by kernel_rfl) rfl ?_ | refine d_q 21 [] rfl (q_load_old rfl rfl sz_75 (hb1)) (by kernel_rfl) (by kernel_rfl) (by kernel_rfl) rfl ?_ | refine d_q 21 [] rfl (q_load_old rfl rfl sz_75 (rfl (Rw.rd (hs.at hi).1 (i := k) (by omega)))) (by kernel_rfl) (by kernel_rfl) (by kernel_rfl) rfl ?_
      first | refine d_p 22 rfl (p_len_slice rfl rfl Try.underlying75) (by kernel_rfl) rfl rfl ?_ | refine d_q 22 [] rfl (q_len_own rfl rfl Try.underlying75 (by repeat (first | exact .here | apply Pick.there))) (by kernel_rfl) (by kernel_rfl) (by kernel_rfl) rfl ?_
      refine d_p 23 rfl (p_pure rfl) (by kernel_rfl) rfl rfl ?_
      refine d_q 24 [] rfl (q_call rfl fn_48 rfl (fun w1 h1 => c48 w1 _ _)) (by kernel_rfl) (by kernel_rfl) (by kernel_rfl) rfl ?_
      refine d_h 25 rfl (h_buildSlice (cs := [_, _, _]) rfl rfl sl_146 zr_28 rfl rfl rfl) (by kernel_rfl) (fun w h => h.ent (by repeat (first | exact .nil | refine .cons (by repeat (first | exact .here | apply Pick.there)) ?_))) rfl (fun b4 _ => ?_)
      refine d_base (fun w h => h.ent (by repeat (first | exact .nil | refine .cons (by repeat (first | exact .here | apply Pick.there)) ?_))) ?_
      refine d_q 26 [] rfl (q_call rfl fn_52 rfl (fun w1 h1 => f52 h1 (by repeat (first | exact .here | apply Pick.there)) (by rfl) (by rfl) (by decide))) (by kernel_rfl) (by kernel_rfl) (by kernel_rfl) rfl ?_
      refine d_p 27 rfl (p_pure rfl) (by kernel_rfl) rfl rfl ?_
      refine d_nil (by kernel_rfl) (fun w h => h.ent (by repeat (first | exact .nil | refine .cons (by repeat (first | exact .here | apply Pick.there)) ?_))) ?_
      exact s_joinI () trivial (sl_c (congrArg (fun e => some (Value.int .i64 e)) (by have hw9 := fil_way (L := pls L) (i := i) (b := true) (by simp; omega); rw [ep] at hw9; simp only [LFil.pl, List.length_map] at hw9; exact hw9)) (by repeat (first | exact sl_n | refine sl_c rfl ?_))) (fun w h => h.ent (by repeat (first | exact .nil | refine .cons (by repeat (first | exact .here | apply Pick.there)) ?_)))
    · intro hg5
      have hs6 := hg5; try simp only [decide_eq_true_eq, decide_eq_false_iff_not, Bool.not_eq_true', Bool.not_eq_false', Bool.and_eq_true, Bool.or_eq_true, Bool.and_eq_false_iff, Bool.or_eq_false_iff, Bool.not_true, Bool.not_false] at hs6
      refine d_pon 6 15 rfl rfl rfl hg5 (p_fieldAddr rfl rfl fd_26_1 sz_24 rfl) (by kernel_rfl) rfl rfl ?_
      first | refine d_qon 7 15 [] rfl rfl rfl hg5 (q_load rfl rfl sz_24 (by repeat (first | exact .here | apply Pick.there)) rfl) (by kernel_rfl) (by kernel_rfl) (by kernel_rfl) rfl ?_ | refine d_qon 7 15 [] rfl rfl rfl hg5 (q_load_old rfl rfl sz_24 (ht1)) (by kernel_rfl) (by kernel_rfl) (by kernel_rfl) rfl ?_ | refine d_qon 7 15 [] rfl rfl rfl hg5 (q_load_old rfl rfl sz_24 (hv0)) (by kernel_rfl) (by kernel_rfl) (by kernel_rfl) rfl ?_ | refine d_qon 7 15 [] rfl rfl rfl hg5 (q_load_old rfl rfl sz_24 (hb0)) (by kernel_rfl) (by kernel_rfl) (by kernel_rfl) rfl ?_ | refine d_qon 7 15 [] rfl rfl rfl hg5 (q_load_old rfl rfl sz_24 (hb1)) (by kernel_rfl) (by kernel_rfl) (by kernel_rfl) rfl ?_ | refine d_qon 7 15 [] rfl rfl rfl hg5 (q_load_old rfl rfl sz_24 (rfl (Rw.rd (hs.at hi).1 (i := k) (by omega)))) (by kernel_rfl) (by kernel_rfl) (by kernel_rfl) rfl ?_
      refine d_pon 8 15 rfl rfl rfl hg5 (p_pure rfl) (by kernel_rfl) rfl rfl ?_
      refine d_pon 9 15 rfl rfl rfl hg5 (p_pure rfl) (by kernel_rfl) rfl rfl ?_
      try (refine d_slot (i64w (by omega) (by omega)) ?_)
      refine d_pon 10 15 rfl rfl rfl hg5 (p_max2 rfl rfl rfl ) (by kernel_rfl) rfl rfl ?_
      refine d_slot (show _ = Value.int .i64 ((i - 1 : Nat) : Int) from by congr 1; split <;> omega) ?_
      first | refine d_pon 11 15 rfl rfl rfl hg5 (p_indexAddr rfl rfl rfl sl_24 ((i - 1)) (by omega) (by omega) rfl) (by kernel_rfl) rfl rfl ?_ | refine d_pon 11 15 rfl rfl rfl hg5 (p_indexAddr rfl rfl rfl sl_24 ((i - 1)) (by omega) (by omega) (Rw.some hs.1 (by omega))) (by kernel_rfl) rfl rfl ?_ | refine d_pon 11 15 rfl rfl rfl hg5 (p_indexAddr rfl rfl rfl sl_24 ((i - 1)) (by omega) (by omega) (Rw.some (hs.at hi).1 (by omega))) (by kernel_rfl) rfl rfl ?_
      refine d_pon 12 15 rfl rfl rfl hg5 (p_fieldAddr rfl rfl fd_77_0 sz_42 rfl) (by kernel_rfl) rfl rfl ?_
      refine d_qon 13 15 [] rfl rfl rfl hg5 (q_load_oldn [.int .i64 (nth L (i - 1)).rc, .int .i64 (nth L (i - 1)).sq] rfl rfl sz_42 rfl (fun j v hv => Rw.rd hs.1 (i := i - 1) (by omega) j v (by rcases j with _ | _ | j <;> first | exact hv | (simp at hv)))) (by kernel_rfl) (by kernel_rfl) (by kernel_rfl) rfl ?_
      refine d_pon 14 15 rfl rfl rfl hg5 (p_fieldAddr rfl rfl fd_77_0 sz_42 rfl) (by kernel_rfl) rfl rfl ?_
      first | refine d_qon 15 15 [] rfl rfl rfl hg5 (q_loadn rfl rfl sz_42 (by repeat (first | exact .here | apply Pick.there)) rfl) (by kernel_rfl) (by kernel_rfl) (by kernel_rfl) rfl ?_ | refine d_qon 15 15 [] rfl rfl rfl hg5 (q_load_oldn _ rfl rfl sz_42 ht1) (by kernel_rfl) (by kernel_rfl) (by kernel_rfl) rfl ?_ | refine d_qon 15 15 [] rfl rfl rfl hg5 (q_load_oldn _ rfl rfl sz_42 hv0) (by kernel_rfl) (by kernel_rfl) (by kernel_rfl) rfl ?_ | refine d_qon 15 15 [] rfl rfl rfl hg5 (q_load_oldn _ rfl rfl sz_42 hb0) (by kernel_rfl) (by kernel_rfl) (by kernel_rfl) rfl ?_ | refine d_qon 15 15 [] rfl rfl rfl hg5 (q_load_oldn _ rfl rfl sz_42 hb1) (by kernel_rfl) (by kernel_rfl) (by kernel_rfl) rfl ?_ | refine d_qon 15 15 [] rfl rfl rfl hg5 (q_load_oldn _ rfl rfl sz_42 rfl (Rw.rd (hs.at hi).1 (i := k) (by omega))) (by kernel_rfl) (by kernel_rfl) (by kernel_rfl) rfl ?_
      refine d_qon 16 15 [] rfl rfl rfl hg5 (q_call rfl fn_56 rfl (fun w1 h1 => c56 w1 _ _ _ _)) (by kernel_rfl) (by kernel_rfl) (by kernel_rfl) rfl ?_
      refine d_pon 17 15 rfl rfl rfl hg5 (p_pure rfl) (by kernel_rfl) rfl rfl ?_
      refine d_p 18 rfl (p_pickf rfl rfl hg5 rfl) (by kernel_rfl) rfl rfl ?_
      refine d_q 19 [] rfl (q_call rfl fn_48 rfl (fun w1 h1 => c48 w1 _ _)) (by kernel_rfl) (by kernel_rfl) (by kernel_rfl) rfl ?_
      refine d_p 20 rfl (p_fieldAddr rfl rfl fd_77_2 sz_75 rfl) (by kernel_rfl) rfl rfl ?_
      first | refine d_q 21 [] rfl (q_load rfl rfl sz_75 (by repeat (first | exact .here | apply Pick.there)) rfl) (by kernel_rfl) (by kernel_rfl) (by kernel_rfl) rfl ?_ | refine d_q 21 [] rfl (q_load_old rfl rfl sz_75 (ht1)) (by kernel_rfl) (by kernel_rfl) (by kernel_rfl) rfl ?_ | refine d_q 21 [] rfl (q_load_old rfl rfl sz_75 (hv0)) (by kernel_rfl) (by kernel_rfl) (by kernel_rfl) rfl ?_ | refine d_q 21 [] rfl (q_load_old rfl rfl sz_75 (hb0)) (by kernel_rfl) (by kernel_rfl) (by kernel_rfl) rfl ?_ | refine d_q 21 [] rfl (q_load_old rfl rfl sz_75 (hb1)) (by kernel_rfl) (by kernel_rfl) (by kernel_rfl) rfl ?_ | refine d_q 21 [] rfl (q_load_old rfl rfl sz_75 (rfl (Rw.rd (hs.at hi).1 (i := k) (by omega)))) (by kernel_rfl) (by kernel_rfl) (by kernel_rfl) rfl ?_
      first | refine d_p 22 rfl (p_len_slice rfl rfl Try.underlying75) (by kernel_rfl) rfl rfl ?_ | refine d_q 22 [] rfl (q_len_own rfl rfl Try.underlying75 (by repeat (first | exact .here | apply Pick.there))) (by kernel_rfl) (by kernel_rfl) (by kernel_rfl) rfl ?_
      refine d_p 23 rfl (p_pure rfl) (by kernel_rfl) rfl rfl ?_
      refine d_q 24 [] rfl (q_call rfl fn_48 rfl (fun w1 h1 => c48 w1 _ _)) (by kernel_rfl) (by kernel_rfl) (by kernel_rfl) rfl ?_
      refine d_h 25 rfl (h_buildSlice (cs := [_, _, _]) rfl rfl sl_146 zr_28 rfl rfl rfl) (by kernel_rfl) (fun w h => h.ent (by repeat (first | exact .nil | refine .cons (by repeat (first | exact .here | apply Pick.there)) ?_))) rfl (fun b7 _ => ?_)
      refine d_base (fun w h => h.ent (by repeat (first | exact .nil | refine .cons (by repeat (first | exact .here | apply Pick.there)) ?_))) ?_
      refine d_q 26 [] rfl (q_call rfl fn_52 rfl (fun w1 h1 => f52 h1 (by repeat (first | exact .here | apply Pick.there)) (by rfl) (by rfl) (by decide))) (by kernel_rfl) (by kernel_rfl) (by kernel_rfl) rfl ?_
      refine d_p 27 rfl (p_pure rfl) (by kernel_rfl) rfl rfl ?_
      refine d_nil (by kernel_rfl) (fun w h => h.ent (by repeat (first | exact .nil | refine .cons (by repeat (first | exact .here | apply Pick.there)) ?_))) ?_
      exact s_joinI () trivial (sl_c (congrArg (fun e => some (Value.int .i64 e)) (by have hw9 := fil_way (L := pls L) (i := i) (b := decide (cmp2 ((nth L (i - 1)).rc, (nth L (i - 1)).sq) ((nth L i).rc, (nth L i).sq) < 0)) (by rw [cmp2_lt, ep, nth_pls (by omega)]; simp only [LFil.pl]; have : ¬ i = 0 := (by omega); simp [this]); rw [ep] at hw9; simp only [LFil.pl, List.length_map] at hw9; exact hw9)) (by repeat (first | exact sl_n | refine sl_c rfl ?_))) (fun w h => h.ent (by repeat (first | exact .nil | refine .cons (by repeat (first | exact .here | apply Pick.there)) ?_)))
  · intro _ _
    refine s_seq ?_
    refine s_seq ?_
    refine s_region ?_
    refine o_p (p_pure rfl) rfl ?_
    refine o_p (p_pure rfl) rfl ?_
    refine o_nil ?_
    refine s_cutI (α := Unit) [7, 39, 40, 41, 42, 43, 44, 45] (fun _ => [(7, .int .i64 (filE next (pls L) i))]) (fun _ => HS w (fps [.mp r KI ks]) [.mp r KI ks, .blk b1 77 4 [.int .i64 (nth L i).rc, .int .i64 (nth L i).sq, .bool (nth L i).pd, .slice (nth L i).oa (nth L i).op.length (nth L i).oc]]) (fun _ => True) ?_ ?_
    · skip
      refine s_cond rfl (fun h8 => ?_) (fun h8 => ?_)
      · try simp only [decide_eq_true_eq, decide_eq_false_iff_not, Bool.not_eq_true', Bool.not_eq_false', Bool.and_eq_true, Bool.or_eq_true, Bool.and_eq_false_iff, Bool.or_eq_false_iff, Bool.not_true, Bool.not_false] at h8
        refine s_region ?_
        refine o_p (p_fieldAddr rfl rfl fd_77_2 sz_75 rfl) rfl ?_
        first | refine o_q (q_load rfl rfl sz_75 (by repeat (first | exact .here | apply Pick.there)) rfl) rfl ?_ | refine o_q (q_load_old rfl rfl sz_75 (ht1)) rfl ?_ | refine o_q (q_load_old rfl rfl sz_75 (hv0)) rfl ?_ | refine o_q (q_load_old rfl rfl sz_75 (hb0)) rfl ?_ | refine o_q (q_load_old rfl rfl sz_75 (hb1)) rfl ?_ | refine o_q (q_load_old rfl rfl sz_75 (rfl (Rw.rd (hs.at hi).1 (i := k) (by omega)))) rfl ?_
        refine o_p (p_pure rfl) rfl ?_
        refine o_q (q_call rfl fn_57 rfl (fun w1 h1 => by have h9 := c57 w1 (nth L i).oa (nth L i).oc (nth L i).op 58 #[.pointer (some ⟨bv, 0, none⟩), .pointer (some ⟨b1, 0, none⟩)] (hdlEs next ks (plo (nth L i).op)) ((hs.at hi).1.later h1) (by omega) (by kernel_rfl) (by simp [hdlEs]) (fun j w2 hj hz h2 => by rw [hdlEs_get (by simpa using hj)]; exact c58 w2 bv b1 bc r next ks _ _ (nth L i).op j _ ((hv0.next h1).next h2) ((h1.rd_blk (Mc := []) (by repeat (first | exact .here | apply Pick.there)) rfl (by simp)).next h2) ((hb0.next h1).next h2) ((hb1.next h1).next h2) ((h1.mpr (by repeat (first | exact .here | apply Pick.there))).later h2) (((hs.at hi).later h1).later h2) hj (hs.cap hi) (by omega) hn (fun q hq => by rw [← hdlEs_get (by simp; omega)]; exact hz q hq)); exact h9)) rfl ?_
        refine o_p (p_pure rfl) rfl ?_
        refine o_p (p_pure rfl) rfl ?_
        refine o_p (p_pure rfl) rfl ?_
        refine o_p (p_pure rfl) rfl ?_
        refine o_nil ?_
        exact s_joinI () trivial (sl_c (congrArg (fun e => some (Value.int .i64 e)) (by rw [filE_1, if_pos h8, ep, ← hdlsE_congr hk]; rfl)) (by repeat (first | exact sl_n | refine sl_c rfl ?_))) (fun w h => h.ent (by repeat (first | exact .nil | refine .cons (by repeat (first | exact .here | apply Pick.there)) ?_)))
      · try simp only [decide_eq_true_eq, decide_eq_false_iff_not, Bool.not_eq_true', Bool.not_eq_false', Bool.and_eq_true, Bool.or_eq_true, Bool.and_eq_false_iff, Bool.or_eq_false_iff, Bool.not_true, Bool.not_false] at h8
        refine s_skip ?_
        exact s_joinI () trivial (sl_c (congrArg (fun e => some (Value.int .i64 e)) (by rw [filE_1, if_neg h8])) (by repeat (first | exact sl_n | refine sl_c rfl ?_))) (fun w h => h.ent (by repeat (first | exact .nil | refine .cons (by repeat (first | exact .here | apply Pick.there)) ?_)))
    · intro _ _
      refine s_seq ?_
      refine s_seq ?_
      refine s_region ?_
      refine o_p (p_fieldAddr rfl rfl fd_77_2 sz_75 rfl) rfl ?_
      first | refine o_q (q_load rfl rfl sz_75 (by repeat (first | exact .here | apply Pick.there)) rfl) rfl ?_ | refine o_q (q_load_old rfl rfl sz_75 (ht1)) rfl ?_ | refine o_q (q_load_old rfl rfl sz_75 (hv0)) rfl ?_ | refine o_q (q_load_old rfl rfl sz_75 (hb0)) rfl ?_ | refine o_q (q_load_old rfl rfl sz_75 (hb1)) rfl ?_ | refine o_q (q_load_old rfl rfl sz_75 (rfl (Rw.rd (hs.at hi).1 (i := k) (by omega)))) rfl ?_
      first | refine o_p (p_len_slice rfl rfl Try.underlying75) rfl ?_ | refine o_q (q_len_own rfl rfl Try.underlying75 (by repeat (first | exact .here | apply Pick.there))) rfl ?_
      refine o_p (p_pure rfl) rfl ?_
      refine o_nil ?_
      refine s_block ?_
      refine s_loopI (α := Nat × List Int) [9, 49, 50, 51, 52, 53, 54, 55, 56, 57, 58, 59] (fun y => [(49, .int .i64 (y.1 : Int))]) (fun y => HS w (fps [.mp r KI ks]) [.mp r KI y.2, .blk b1 77 4 [.int .i64 (nth L i).rc, .int .i64 (nth L i).sq, .bool (nth L i).pd, .slice (nth L i).oa (nth L i).op.length (nth L i).oc]]) (fun y => y.1 ≤ (nth L i).op.length ∧ ∀ x, x ∈ y.2 ↔ x ∈ ks ∨ x ∈ ((nth L i).op.take y.1).map LOpn.hd) (fun y => (nth L i).op.length - y.1) (0, ks) ⟨by simp, by simp⟩ (by repeat (first | exact sl_n | refine sl_c rfl ?_)) (fun w h => h.ent (by repeat (first | exact .nil | refine .cons (by repeat (first | exact .here | apply Pick.there)) ?_))) (fun ⟨k, kk⟩ hy => ?_)
      dsimp only
      simp only [] at hy
      obtain ⟨hk1, hk2⟩ := hy
      refine s_seq ?_
      refine s_region ?_
      refine o_p (p_pure rfl) rfl ?_
      refine o_nil ?_
      refine s_seq ?_
      refine s_cond rfl (fun h9 => ?_) (fun h9 => ?_)
      · try simp only [decide_eq_true_eq, decide_eq_false_iff_not, Bool.not_eq_true', Bool.not_eq_false', Bool.and_eq_true, Bool.or_eq_true, Bool.and_eq_false_iff, Bool.or_eq_false_iff, Bool.not_true, Bool.not_false] at h9
        refine s_skip ?_
        refine s_seq ?_
        refine s_block ?_
        refine s_seq ?_
        refine s_region ?_
        first | refine o_p (p_indexAddr rfl rfl rfl sl_75 (k) (by omega) (by omega) rfl) rfl ?_ | refine o_p (p_indexAddr rfl rfl rfl sl_75 (k) (by omega) (by omega) (Rw.some hs.1 (by omega))) rfl ?_ | refine o_p (p_indexAddr rfl rfl rfl sl_75 (k) (by omega) (by omega) (Rw.some (hs.at hi).1 (by omega))) rfl ?_
        first | refine o_q (q_loadn rfl rfl sz_48 (by repeat (first | exact .here | apply Pick.there)) rfl) rfl ?_ | refine o_q (q_load_oldn _ rfl rfl sz_48 ht1) rfl ?_ | refine o_q (q_load_oldn _ rfl rfl sz_48 hv0) rfl ?_ | refine o_q (q_load_oldn _ rfl rfl sz_48 hb0) rfl ?_ | refine o_q (q_load_oldn _ rfl rfl sz_48 hb1) rfl ?_ | refine o_q (q_load_oldn _ rfl rfl sz_48 rfl (Rw.rd (hs.at hi).1 (i := k) (by omega))) rfl ?_
        refine o_h (h_alloc rfl zr_48) rfl (fun b10 _ => ?_)
        refine o_h0 (h_store rfl rfl rfl sz_48 rfl (by repeat (first | exact .here | apply Put.there)) (by simp only [setMany_length, List.length_set, List.length_cons, List.length_nil, List.length_map]; omega) rfl) (fun _ _ => ?_)
        refine o_nil ?_
        refine s_draw [6] mixed ?_
        first | refine d_q 0 [[]] rfl (q_load rfl rfl sz_111 (by repeat (first | exact .here | apply Pick.there)) rfl) (by kernel_rfl) (by kernel_rfl) (by kernel_rfl) rfl ?_ | refine d_q 0 [[]] rfl (q_load_old rfl rfl sz_111 (ht1)) (by kernel_rfl) (by kernel_rfl) (by kernel_rfl) rfl ?_ | refine d_q 0 [[]] rfl (q_load_old rfl rfl sz_111 (hv0)) (by kernel_rfl) (by kernel_rfl) (by kernel_rfl) rfl ?_ | refine d_q 0 [[]] rfl (q_load_old rfl rfl sz_111 (hb0)) (by kernel_rfl) (by kernel_rfl) (by kernel_rfl) rfl ?_ | refine d_q 0 [[]] rfl (q_load_old rfl rfl sz_111 (hb1)) (by kernel_rfl) (by kernel_rfl) (by kernel_rfl) rfl ?_ | refine d_q 0 [[]] rfl (q_load_old rfl rfl sz_111 (rfl (Rw.rd (hs.at hi).1 (i := k) (by omega)))) (by kernel_rfl) (by kernel_rfl) (by kernel_rfl) rfl ?_
        refine d_p 1 rfl (p_pure rfl) (by kernel_rfl) rfl rfl ?_
        refine d_p 2 rfl (p_fieldAddr rfl rfl fd_114_1 sz_112 rfl) (by kernel_rfl) rfl rfl ?_
        first | refine d_q 3 [[]] rfl (q_load rfl rfl sz_112 (by repeat (first | exact .here | apply Pick.there)) rfl) (by kernel_rfl) (by kernel_rfl) (by kernel_rfl) rfl ?_ | refine d_q 3 [[]] rfl (q_load_old rfl rfl sz_112 (ht1)) (by kernel_rfl) (by kernel_rfl) (by kernel_rfl) rfl ?_ | refine d_q 3 [[]] rfl (q_load_old rfl rfl sz_112 (hv0)) (by kernel_rfl) (by kernel_rfl) (by kernel_rfl) rfl ?_ | refine d_q 3 [[]] rfl (q_load_old rfl rfl sz_112 (hb0)) (by kernel_rfl) (by kernel_rfl) (by kernel_rfl) rfl ?_ | refine d_q 3 [[]] rfl (q_load_old rfl rfl sz_112 (hb1)) (by kernel_rfl) (by kernel_rfl) (by kernel_rfl) rfl ?_ | refine d_q 3 [[]] rfl (q_load_old rfl rfl sz_112 (rfl (Rw.rd (hs.at hi).1 (i := k) (by omega)))) (by kernel_rfl) (by kernel_rfl) (by kernel_rfl) rfl ?_
        refine d_p 4 rfl (p_fieldAddr rfl rfl fd_48_0 sz_3 rfl) (by kernel_rfl) rfl rfl ?_
        first | refine d_q 5 [[]] rfl (q_load rfl rfl sz_3 (by repeat (first | exact .here | apply Pick.there)) rfl) (by kernel_rfl) (by kernel_rfl) (by kernel_rfl) rfl ?_ | refine d_q 5 [[]] rfl (q_load_old rfl rfl sz_3 (ht1)) (by kernel_rfl) (by kernel_rfl) (by kernel_rfl) rfl ?_ | refine d_q 5 [[]] rfl (q_load_old rfl rfl sz_3 (hv0)) (by kernel_rfl) (by kernel_rfl) (by kernel_rfl) rfl ?_ | refine d_q 5 [[]] rfl (q_load_old rfl rfl sz_3 (hb0)) (by kernel_rfl) (by kernel_rfl) (by kernel_rfl) rfl ?_ | refine d_q 5 [[]] rfl (q_load_old rfl rfl sz_3 (hb1)) (by kernel_rfl) (by kernel_rfl) (by kernel_rfl) rfl ?_ | refine d_q 5 [[]] rfl (q_load_old rfl rfl sz_3 (rfl (Rw.rd (hs.at hi).1 (i := k) (by omega)))) (by kernel_rfl) (by kernel_rfl) (by kernel_rfl) rfl ?_
        refine d_h0 6 rfl (h_mapUpdate (.inl rfl) rfl rfl rfl Try.underlying112 (key_int ki_3) (by repeat (first | exact .here | apply Put.there))) (by kernel_rfl) (fun w h => h.ent (by repeat (first | exact .nil | refine .cons (by repeat (first | exact .here | apply Pick.there)) ?_))) (fun _ _ => ?_)
        refine d_turn [] (by kernel_rfl) ?_
        refine d_nil (by kernel_rfl) (fun w h => h.ent (by repeat (first | exact .nil | refine .cons (by repeat (first | exact .here | apply Pick.there)) ?_))) ?_
        refine s_blk ?_
        refine s_region ?_
        refine o_p (p_pure rfl) rfl ?_
        try (refine o_slot (i64w (by omega) (by omega)) ?_)
        refine o_p (p_pure rfl) rfl ?_
        refine o_nil ?_
        exact s_backI (k + 1, _) (by (try simp only []); omega) ⟨by (try simp only []); omega, fun x => by rw [mem_insK', hk2, plo_take_hd (by omega), or_assoc]⟩ (by repeat (first | exact sl_n | refine sl_c rfl ?_)) (fun w h => h.ent (by repeat (first | exact .nil | refine .cons (by repeat (first | exact .here | apply Pick.there)) ?_)))
      · try simp only [decide_eq_true_eq, decide_eq_false_iff_not, Bool.not_eq_true', Bool.not_eq_false', Bool.and_eq_true, Bool.or_eq_true, Bool.and_eq_false_iff, Bool.or_eq_false_iff, Bool.not_true, Bool.not_false] at h9
        refine s_exit_to rfl ?_
        refine s_seq ?_
        refine s_region ?_
        refine o_p (p_pure rfl) rfl ?_
        refine o_p (p_pure rfl) rfl ?_
        refine o_nil ?_
        exact s_retv (rs := [.tmp 6]) rfl (.tmp rfl (.nil)) (fun w' h' => ⟨kk, rfl, fun x => by rw [hk2, hds_take hpl, hk, ep]; simp only [LFil.pl, List.map_map]; obtain rfl : k = (nth L i).op.length := (by omega); rw [List.take_length]; rfl, h'.ent (by repeat (first | exact .nil | refine .cons (by repeat (first | exact .here | apply Pick.there)) ?_))⟩)

set_option maxRecDepth 20000 in
theorem d53 (w : World) (bt bv bc r : Nat) (next : Int) (ks0 : List Int) (a : Option Addr) (cap : Nat) (L : List LFil) (hw : HS w (fps [.mp r KI ks0]) [.mp r KI ks0] w) (ht1 : Rd w (fps [.mp r KI ks0]) bt 1 (.slice a L.length cap)) (hv0 : Rd w (fps [.mp r KI ks0]) bv 0 (.pointer (some ⟨bc, 0, none⟩))) (hb0 : Rd w (fps [.mp r KI ks0]) bc 0 (.int .i64 next)) (hb1 : Rd w (fps [.mp r KI ks0]) bc 1 (.map (some r))) (hs : Ft w (fps [.mp r KI ks0]) a L) (hm : L.length ≤ 500) (hmo : ∀ f ∈ L, f.op.length ≤ 500) (hn : 1 ≤ next ∧ next ≤ 2147483647) (hk0 : ks0 = []) : Calls Try.prog 53 #[.slice a L.length cap, .func (.func 54) #[] #[.pointer (some ⟨bt, 0, none⟩), .pointer (some ⟨bv, 0, none⟩)]] w fun en w' => ∃ g : List Int, en = .returned (.tuple #[.int .i64 (eachF (filEs next (pls L)) 0).1, .int .i64 (eachF (filEs next (pls L)) 0).2]) ∧ True ∧ HS w (fps [.mp r KI ks0]) [.mp r KI g] w' := by
  have hlen : (filEs next (pls L)).length = L.length := by simp [filEs]
  refine enter (args := [_, _]) Try.func53 Try.ntmps53 rfl rfl hw ?_
  refine s_seq ?_
  refine s_region ?_
  refine o_p (p_pure rfl) rfl ?_
  refine o_p (p_pure rfl) rfl ?_
  refine o_nil ?_
  refine s_seq ?_
  refine s_seq ?_
  refine s_region ?_
  refine o_p (p_pure rfl) rfl ?_
  first | refine o_p (p_len_slice rfl rfl Try.underlying24) rfl ?_ | refine o_q (q_len_own rfl rfl Try.underlying24 (by repeat (first | exact .here | apply Pick.there))) rfl ?_
  refine o_p (p_pure rfl) rfl ?_
  refine o_nil ?_
  refine s_block ?_
  refine s_loopI (α := Nat × List Int) [4, 5, 6, 7, 8, 11, 12, 13, 14, 15, 16, 17, 18, 19, 20, 21, 22, 23, 24] (fun y => [(11, .int .i64 (y.1 : Int))]) (fun y => HS w (fps [.mp r KI ks0]) [.mp r KI y.2]) (fun y => y.1 ≤ L.length ∧ eachF (filEs next (pls L)) 0 = eachF ((filEs next (pls L)).drop y.1) y.1 ∧ ∀ x, x ∈ y.2 ↔ x ∈ hds ((pls L).take y.1)) (fun y => L.length - y.1) (0, ks0) ⟨by simp, rfl, by simp [hk0, hds]⟩ (by repeat (first | exact sl_n | refine sl_c rfl ?_)) (fun w h => h.ent (by repeat (first | exact .nil | refine .cons (by repeat (first | exact .here | apply Pick.there)) ?_))) (fun ⟨k, ks⟩ hy => ?_)
  dsimp only
  simp only [] at hy
  obtain ⟨hk1, hk2, hk3⟩ := hy
  refine s_seq ?_
  refine s_region ?_
  refine o_p (p_pure rfl) rfl ?_
  refine o_nil ?_
  refine s_seq ?_
  refine s_cond rfl (fun h1 => ?_) (fun h1 => ?_)
  · try simp only [decide_eq_true_eq, decide_eq_false_iff_not, Bool.not_eq_true', Bool.not_eq_false', Bool.and_eq_true, Bool.or_eq_true, Bool.and_eq_false_iff, Bool.or_eq_false_iff, Bool.not_true, Bool.not_false] at h1
    refine s_skip ?_
    refine s_seq ?_
    refine s_block ?_
    refine s_seq ?_
    refine s_region ?_
    refine o_p (p_pure rfl) rfl ?_
    first | refine o_p (p_indexAddr rfl rfl rfl sl_24 (k) (by omega) (by omega) rfl) rfl ?_ | refine o_p (p_indexAddr rfl rfl rfl sl_24 (k) (by omega) (by omega) (Rw.some hs.1 (by omega))) rfl ?_
    first | refine o_q (q_loadn rfl rfl sz_77 (by repeat (first | exact .here | apply Pick.there)) rfl) rfl ?_ | refine o_q (q_load_oldn _ rfl rfl sz_77 rfl (Rw.rd hs.1 (i := k) (by omega))) rfl ?_
    refine o_h (h_alloc rfl zr_77) rfl (fun b2 _ => ?_)
    refine o_p (p_pure rfl) rfl ?_
    refine o_h0 (h_store rfl rfl rfl sz_77 rfl (by repeat (first | exact .here | apply Put.there)) (by simp only [setMany_length, List.length_set, List.length_cons, List.length_nil, List.length_map]; omega) rfl) (fun _ _ => ?_)
    refine o_nil ?_
    refine s_seq ?_
    refine s_region ?_
    refine o_p (p_pure rfl) rfl ?_
    refine o_p (p_pure rfl) rfl ?_
    first | refine o_q (q_loadn rfl rfl sz_77 (by repeat (first | exact .here | apply Pick.there)) rfl) rfl ?_ | refine o_q (q_load_oldn _ rfl rfl sz_77 rfl (Rw.rd hs.1 (i := k) (by omega))) rfl ?_
    refine o_h (h_callvF (Cs := [.mp r KI ks]) rfl rfl fn_54 rfl (by repeat (first | exact Picks.nil | (apply Picks.cons; · (repeat (first | exact .here | apply Pick.there))))) (fun w1 h1 hf => c54 w1 bt bv bc r next ks a cap L k hf ((h1.ent (Bs := [.mp r KI ks]) (by repeat (first | exact .nil | refine .cons (by repeat (first | exact .here | apply Pick.there)) ?_))).keep ht1) ((h1.ent (Bs := [.mp r KI ks]) (by repeat (first | exact .nil | refine .cons (by repeat (first | exact .here | apply Pick.there)) ?_))).keep hv0) ((h1.ent (Bs := [.mp r KI ks]) (by repeat (first | exact .nil | refine .cons (by repeat (first | exact .here | apply Pick.there)) ?_))).keep hb0) ((h1.ent (Bs := [.mp r KI ks]) (by repeat (first | exact .nil | refine .cons (by repeat (first | exact .here | apply Pick.there)) ?_))).keep hb1) (hs.keep (h1.ent (Bs := [.mp r KI ks]) (by repeat (first | exact .nil | refine .cons (by repeat (first | exact .here | apply Pick.there)) ?_)))) (by omega) hm hmo hn hk3)) rfl (fun b3 hg => ?_)
    refine o_p (p_pure rfl) rfl ?_
    refine o_nil ?_
    refine s_seq ?_
    refine s_region ?_
    refine o_p (p_pure rfl) rfl ?_
    refine o_p (p_pure rfl) rfl ?_
    refine o_nil ?_
    refine s_cond rfl (fun h4 => ?_) (fun h4 => ?_)
    · try simp only [decide_eq_true_eq, decide_eq_false_iff_not, Bool.not_eq_true', Bool.not_eq_false', Bool.and_eq_true, Bool.or_eq_true, Bool.and_eq_false_iff, Bool.or_eq_false_iff, Bool.not_true, Bool.not_false] at h4
      refine s_seq ?_
      refine s_region ?_
      refine o_p (p_pure rfl) rfl ?_
      refine o_p (p_pure rfl) rfl ?_
      refine o_p (p_pure rfl) rfl ?_
      refine o_p (p_pure rfl) rfl ?_
      refine o_nil ?_
      exact s_retv (rs := [.tmp 4, .tmp 5]) rfl (.tmp rfl (.tmp rfl (.nil))) (fun w' h' => ⟨b3, by rw [hk2, eachF_drop (by omega), if_neg (by rw [filEs_get (by simp; omega)]; exact h4), filEs_get (by simp; omega)]; rfl, trivial, h'.ent (by repeat (first | exact .nil | refine .cons (by repeat (first | exact .here | apply Pick.there)) ?_))⟩)
    · try simp only [decide_eq_true_eq, decide_eq_false_iff_not, Bool.not_eq_true', Bool.not_eq_false', Bool.and_eq_true, Bool.or_eq_true, Bool.and_eq_false_iff, Bool.or_eq_false_iff, Bool.not_true, Bool.not_false] at h4
      refine s_skip ?_
      refine s_blk ?_
      refine s_region ?_
      refine o_p (p_pure rfl) rfl ?_
      try (refine o_slot (i64w (by omega) (by omega)) ?_)
      refine o_p (p_pure rfl) rfl ?_
      refine o_nil ?_
      exact s_backI (k + 1, b3) (by (try simp only []); omega) ⟨by (try simp only []); omega, by rw [hk2, eachF_drop (by omega), if_pos (by rw [filEs_get (by simp; omega)]; exact h4)], hg⟩ (by repeat (first | exact sl_n | refine sl_c rfl ?_)) (fun w h => h.ent (by repeat (first | exact .nil | refine .cons (by repeat (first | exact .here | apply Pick.there)) ?_)))
  · try simp only [decide_eq_true_eq, decide_eq_false_iff_not, Bool.not_eq_true', Bool.not_eq_false', Bool.and_eq_true, Bool.or_eq_true, Bool.and_eq_false_iff, Bool.or_eq_false_iff, Bool.not_true, Bool.not_false] at h1
    refine s_exit_to rfl ?_
    refine s_seq ?_
    refine s_region ?_
    refine o_p (p_pure rfl) rfl ?_
    refine o_p (p_pure rfl) rfl ?_
    refine o_nil ?_
    exact s_retv (rs := [.tmp 4, .tmp 5]) rfl (.tmp rfl (.tmp rfl (.nil))) (fun w' h' => ⟨ks, by rw [hk2, eachF_end (by omega)]; rfl, trivial, h'.ent (by repeat (first | exact .nil | refine .cons (by repeat (first | exact .here | apply Pick.there)) ?_))⟩)

set_option maxRecDepth 20000 in
theorem c18 (w : World) (next : Int) (a : Option Addr) (cap : Nat) (L : List LFil) (hs : Ft w [] a L) (hm : L.length ≤ 1000) (hmo : ∀ f ∈ L, f.op.length ≤ 1000) : Calls Try.prog 18 #[.agg #[.int .i64 next, .slice a L.length cap]] w fun en w' => en = .returned (.tuple #[.int .i64 (chkT next (pls L)).1, .int .i64 (chkT next (pls L)).2]) ∧ Below w.heap.size w w' := by
  have hcl := cntT_le hmo L.length (Nat.le_refl _)
  have hpl : (pls L).length = L.length := by simp
  refine enter (args := [_]) Try.func18 Try.ntmps18 rfl rfl (HS.refl w []) ?_
  refine s_seq ?_
  refine s_region ?_
  refine o_h (h_box rfl rfl) rfl (fun b1 _ => ?_)
  refine o_p (p_pure rfl) rfl ?_
  refine o_p (p_pure rfl) rfl ?_
  refine o_nil ?_
  refine s_seq ?_
  refine s_region ?_
  refine o_p (p_pure rfl) rfl ?_
  refine o_nil ?_
  refine s_seq ?_
  refine s_seq ?_
  refine s_region ?_
  refine o_p (p_fieldAddr rfl rfl fd_26_1 sz_24 rfl) rfl ?_
  first | refine o_q (q_load rfl rfl sz_24 (by repeat (first | exact .here | apply Pick.there)) rfl) rfl ?_ | refine o_q (q_load_old rfl rfl sz_24 (rfl (Rw.rd hs.1 (i := k) (by omega)))) rfl ?_
  first | refine o_p (p_len_slice rfl rfl Try.underlying24) rfl ?_ | refine o_q (q_len_own rfl rfl Try.underlying24 (by repeat (first | exact .here | apply Pick.there))) rfl ?_
  refine o_p (p_pure rfl) rfl ?_
  refine o_nil ?_
  refine s_block ?_
  refine s_loopI (α := Nat) [4, 6, 12, 13, 14, 15, 16, 17, 18, 19, 20, 21] (fun k => [(12, .int .i64 (k : Int)), (4, .int .i64 (cntT (pls (L.take k)) : Int))]) (fun _ => HS w [] [.blk b1 26 2 [.int .i64 next, .slice a L.length cap]]) (fun k => k ≤ L.length) (fun k => L.length - k) 0 (by simp) (sl_c rfl (sl_c (congrArg (fun e => some (Value.int .i64 e)) (by simp [cntT, pls])) (by repeat (first | exact sl_n | refine sl_c rfl ?_)))) (fun w h => h.ent (by repeat (first | exact .nil | refine .cons (by repeat (first | exact .here | apply Pick.there)) ?_))) (fun k hk => ?_)
  have hck := cntT_le hmo k hk
  refine s_seq ?_
  refine s_region ?_
  refine o_p (p_pure rfl) rfl ?_
  refine o_nil ?_
  refine s_seq ?_
  refine s_cond rfl (fun h2 => ?_) (fun h2 => ?_)
  · try simp only [decide_eq_true_eq, decide_eq_false_iff_not, Bool.not_eq_true', Bool.not_eq_false', Bool.and_eq_true, Bool.or_eq_true, Bool.and_eq_false_iff, Bool.or_eq_false_iff, Bool.not_true, Bool.not_false] at h2
    have hmk := hmo _ (mem_nth (show k < L.length by omega))
    refine s_skip ?_
    refine s_seq ?_
    refine s_block ?_
    refine s_seq ?_
    refine s_region ?_
    first | refine o_p (p_indexAddr rfl rfl rfl sl_24 (k) (by omega) (by omega) rfl) rfl ?_ | refine o_p (p_indexAddr rfl rfl rfl sl_24 (k) (by omega) (by omega) (Rw.some hs.1 (by omega))) rfl ?_
    first | refine o_q (q_loadn rfl rfl sz_77 (by repeat (first | exact .here | apply Pick.there)) rfl) rfl ?_ | refine o_q (q_load_oldn _ rfl rfl sz_77 rfl (Rw.rd hs.1 (i := k) (by omega))) rfl ?_
    refine o_h (h_alloc rfl zr_77) rfl (fun b3 _ => ?_)
    refine o_h0 (h_store rfl rfl rfl sz_77 rfl (by repeat (first | exact .here | apply Put.there)) (by simp only [setMany_length, List.length_set, List.length_cons, List.length_nil, List.length_map]; omega) rfl) (fun _ _ => ?_)
    refine o_nil ?_
    refine s_region ?_
    refine o_p (p_pure rfl) rfl ?_
    refine o_p (p_fieldAddr rfl rfl fd_77_2 sz_75 rfl) rfl ?_
    first | refine o_q (q_load rfl rfl sz_75 (by repeat (first | exact .here | apply Pick.there)) rfl) rfl ?_ | refine o_q (q_load_old rfl rfl sz_75 (rfl (Rw.rd hs.1 (i := k) (by omega)))) rfl ?_
    first | refine o_p (p_len_slice rfl rfl Try.underlying75) rfl ?_ | refine o_q (q_len_own rfl rfl Try.underlying75 (by repeat (first | exact .here | apply Pick.there))) rfl ?_
    refine o_p (p_pure rfl) rfl ?_
    try (refine o_slot (i64w (by omega) (by omega)) ?_)
    refine o_p (p_pure rfl) rfl ?_
    refine o_nil ?_
    refine s_blk ?_
    refine s_region ?_
    refine o_p (p_pure rfl) rfl ?_
    try (refine o_slot (i64w (by omega) (by omega)) ?_)
    refine o_p (p_pure rfl) rfl ?_
    refine o_nil ?_
    exact s_backI (k + 1) (by omega) (by omega) (sl_c rfl (sl_c (congrArg (fun e => some (Value.int .i64 e)) (by rw [cntT_succ (by omega)]; omega)) (by repeat (first | exact sl_n | refine sl_c rfl ?_)))) (fun w h => h.ent (by repeat (first | exact .nil | refine .cons (by repeat (first | exact .here | apply Pick.there)) ?_)))
  · try simp only [decide_eq_true_eq, decide_eq_false_iff_not, Bool.not_eq_true', Bool.not_eq_false', Bool.and_eq_true, Bool.or_eq_true, Bool.and_eq_false_iff, Bool.or_eq_false_iff, Bool.not_true, Bool.not_false] at h2
    obtain rfl : k = L.length := by omega
    rw [List.take_length] at *
    refine s_exit_to rfl ?_
    refine s_seq ?_
    refine s_seq ?_
    refine s_draw [] mixed ?_
    refine d_p 0 rfl (p_fieldAddr rfl rfl fd_26_0 sz_3 rfl) (by kernel_rfl) rfl rfl ?_
    first | refine d_q 1 [] rfl (q_load rfl rfl sz_3 (by repeat (first | exact .here | apply Pick.there)) rfl) (by kernel_rfl) (by kernel_rfl) (by kernel_rfl) rfl ?_ | refine d_q 1 [] rfl (q_load_old rfl rfl sz_3 (rfl (Rw.rd hs.1 (i := k) (by omega)))) (by kernel_rfl) (by kernel_rfl) (by kernel_rfl) rfl ?_
    refine d_q 2 [] rfl (q_call rfl fn_49 rfl (fun w1 h1 => c49 w1 _ _ _)) (by kernel_rfl) (by kernel_rfl) (by kernel_rfl) rfl ?_
    refine d_q 3 [] rfl (q_call rfl fn_48 rfl (fun w1 h1 => c48 w1 _ _)) (by kernel_rfl) (by kernel_rfl) (by kernel_rfl) rfl ?_
    refine d_p 4 rfl (p_pure rfl) (by kernel_rfl) rfl rfl ?_
    refine d_p 5 rfl (p_fieldAddr rfl rfl fd_26_1 sz_24 rfl) (by kernel_rfl) rfl rfl ?_
    first | refine d_q 6 [] rfl (q_load rfl rfl sz_24 (by repeat (first | exact .here | apply Pick.there)) rfl) (by kernel_rfl) (by kernel_rfl) (by kernel_rfl) rfl ?_ | refine d_q 6 [] rfl (q_load_old rfl rfl sz_24 (rfl (Rw.rd hs.1 (i := k) (by omega)))) (by kernel_rfl) (by kernel_rfl) (by kernel_rfl) rfl ?_
    first | refine d_p 7 rfl (p_len_slice rfl rfl Try.underlying24) (by kernel_rfl) rfl rfl ?_ | refine d_q 7 [] rfl (q_len_own rfl rfl Try.underlying24 (by repeat (first | exact .here | apply Pick.there))) (by kernel_rfl) (by kernel_rfl) (by kernel_rfl) rfl ?_
    refine d_p 8 rfl (p_max2 rfl rfl rfl ) (by kernel_rfl) rfl rfl ?_
    refine d_p 9 rfl (p_pure rfl) (by kernel_rfl) rfl rfl ?_
    refine d_q 10 [] rfl (q_call rfl fn_48 rfl (fun w1 h1 => c48 w1 _ _)) (by kernel_rfl) (by kernel_rfl) (by kernel_rfl) rfl ?_
    refine d_h 11 rfl (h_buildSlice (cs := [_, _]) rfl rfl sl_146 zr_28 rfl rfl rfl) (by kernel_rfl) (fun w h => h.ent (by repeat (first | exact .nil | refine .cons (by repeat (first | exact .here | apply Pick.there)) ?_))) rfl (fun b4 _ => ?_)
    refine d_base (fun w h => h.ent (by repeat (first | exact .nil | refine .cons (by repeat (first | exact .here | apply Pick.there)) ?_))) ?_
    refine d_q 12 [] rfl (q_call rfl fn_52 rfl (fun w1 h1 => f52 h1 (by repeat (first | exact .here | apply Pick.there)) (by rfl) (by rfl) (by decide))) (by kernel_rfl) (by kernel_rfl) (by kernel_rfl) rfl ?_
    refine d_p 13 rfl (p_pure rfl) (by kernel_rfl) rfl rfl ?_
    refine d_nil (by kernel_rfl) (fun w h => h.ent (by repeat (first | exact .nil | refine .cons (by repeat (first | exact .here | apply Pick.there)) ?_))) ?_
    refine s_seq ?_
    refine s_region ?_
    refine o_p (p_pure rfl) rfl ?_
    refine o_p (p_pure rfl) rfl ?_
    refine o_nil ?_
    refine s_cond rfl (fun h5 => ?_) (fun h5 => ?_)
    · try simp only [decide_eq_true_eq, decide_eq_false_iff_not, Bool.not_eq_true', Bool.not_eq_false', Bool.and_eq_true, Bool.or_eq_true, Bool.and_eq_false_iff, Bool.or_eq_false_iff, Bool.not_true, Bool.not_false] at h5
      refine s_seq ?_
      refine s_region ?_
      refine o_p (p_pure rfl) rfl ?_
      refine o_p (p_pure rfl) rfl ?_
      refine o_p (p_pure rfl) rfl ?_
      refine o_nil ?_
      exact s_retv (rs := [.tmp 2, .tmp 3]) rfl (.tmp rfl (.tmp rfl (.nil))) (fun w' h' => ⟨by unfold chkT; have hq := h5; have hf9 := chk_first (next := next) (L := pls L); rw [hpl] at hf9 ⊢; rw [hf9] at hq ⊢; simp only [retV]; grind, h'.below⟩)
    · try simp only [decide_eq_true_eq, decide_eq_false_iff_not, Bool.not_eq_true', Bool.not_eq_false', Bool.and_eq_true, Bool.or_eq_true, Bool.and_eq_false_iff, Bool.or_eq_false_iff, Bool.not_true, Bool.not_false] at h5
      have hc2 : (1 ≤ next ∧ next ≤ 2147483647) ∧ L.length ≤ 32 ∧ cntT (pls L) ≤ 32 := by have hq := h5; have hf9 := chk_first (next := next) (L := pls L); rw [hpl] at hf9; rw [hf9] at hq; grind
      have hm3 : ∀ f ∈ L, f.op.length ≤ 500 := fun f hf => by have h9 := cntT_mem (List.mem_map.2 ⟨f, hf, rfl⟩ : f.pl ∈ pls L); simp only [LFil.pl, List.length_map] at h9; have h8 : cntT (L.map LFil.pl) ≤ 32 := hc2.2.2; omega
      refine s_skip ?_
      refine s_seq ?_
      refine s_region ?_
      refine o_p (p_fieldAddr rfl rfl fd_26_0 sz_3 rfl) rfl ?_
      first | refine o_q (q_load rfl rfl sz_3 (by repeat (first | exact .here | apply Pick.there)) rfl) rfl ?_ | refine o_q (q_load_old rfl rfl sz_3 (rfl (Rw.rd hs.1 (i := k) (by omega)))) rfl ?_
      refine o_h (h_makeMap rfl KI) rfl (fun b6 _ => ?_)
      refine o_p (p_build (cs := [_, _]) rfl rfl pl_114 zr_114 rfl) rfl ?_
      refine o_h (h_box rfl rfl) rfl (fun b7 _ => ?_)
      refine o_h (h_alloc rfl zr_111) rfl (fun b8 _ => ?_)
      refine o_h0 (h_store rfl rfl rfl sz_111 rfl (by repeat (first | exact .here | apply Put.there)) (by simp only [setMany_length, List.length_set, List.length_cons, List.length_nil, List.length_map]; omega) rfl) (fun _ _ => ?_)
      refine o_nil ?_
      refine s_seq ?_
      refine s_weaken (L' := [(0, _), (1, _), (2, _), (3, _), (4, _), (8, _), (9, _), (10, _), (11, _), (12, _)]) (by repeat (first | exact sl_n | refine sl_c rfl ?_)) (fun _ h => h) ?_
      refine s_region ?_
      refine o_p (p_fieldAddr rfl rfl fd_26_1 sz_24 rfl) rfl ?_
      first | refine o_q (q_load rfl rfl sz_24 (by repeat (first | exact .here | apply Pick.there)) rfl) rfl ?_ | refine o_q (q_load_old rfl rfl sz_24 (rfl (Rw.rd hs.1 (i := k) (by omega)))) rfl ?_
      refine o_p (p_pure rfl) rfl ?_
      refine o_h (h_callF (Cs := [.mp b6 KI []]) rfl fn_53 rfl (by repeat (first | exact Picks.nil | (apply Picks.cons; · (repeat (first | exact .here | apply Pick.there))))) (fun w1 h1 hf => d53 w1 b1 b8 b7 b6 next [] a cap L hf ((h1.ent (Bs := [.blk b1 26 2 [.int .i64 next, .slice a L.length cap], .mp b6 KI []]) (by repeat (first | exact .nil | refine .cons (by repeat (first | exact .here | apply Pick.there)) ?_))).rd_beside rfl) ((h1.ent (Bs := [.blk b8 111 1 [.pointer (some ⟨b7, 0, none⟩)], .mp b6 KI []]) (by repeat (first | exact .nil | refine .cons (by repeat (first | exact .here | apply Pick.there)) ?_))).rd_beside rfl) ((h1.ent (Bs := [.blk b7 114 2 [.int .i64 next, .map (some b6)], .mp b6 KI []]) (by repeat (first | exact .nil | refine .cons (by repeat (first | exact .here | apply Pick.there)) ?_))).rd_beside rfl) ((h1.ent (Bs := [.blk b7 114 2 [.int .i64 next, .map (some b6)], .mp b6 KI []]) (by repeat (first | exact .nil | refine .cons (by repeat (first | exact .here | apply Pick.there)) ?_))).rd_beside rfl) (hs.keep (h1.ent (Bs := [.mp b6 KI []]) (by repeat (first | exact .nil | refine .cons (by repeat (first | exact .here | apply Pick.there)) ?_)))) (by omega) hm3 hc2.1 rfl)) rfl (fun gk _ => ?_)
      refine o_p (p_pure rfl) rfl ?_
      refine o_p (p_pure rfl) rfl ?_
      refine o_p (p_pure rfl) rfl ?_
      refine o_p (p_pure rfl) rfl ?_
      refine o_nil ?_
      exact s_retv (rs := [.tmp 2, .tmp 3]) rfl (.tmp rfl (.tmp rfl (.nil))) (fun w' h' => ⟨by unfold chkT; rw [hpl, if_pos hc2.1, if_pos hc2.2]; unfold filEs; rw [hpl]; rfl, h'.below⟩)

end Go.Proofs

