/- Contracts of the program's functions, proved by walking them with the rules of the Gx texts; without conditions beyond those that each contract names. -/
import Derived.WalkKit
import Derived.Deep.Draws
import Derived.TacticsIn
import Derived.OrdersIn
import Derived.RangeFuncLeaves
import Derived.Lib.Strings
import Derived.Laws.BytesArg
import Derived.Laws.IdiomStrings
import Derived.Deep.Quiet
import Derived.ProofKit
import Derived.OpenShut
import Derived.Laws.StructEq
import Derived.ChangeKeysEq
import Derived.Laws.Externs
import Derived.Lib.Overlaps
import Derived.Carry
import Derived.Laws.Small
import Derived.Lib.Bytealg
import Derived.Test.YtfappgmkbnddiaaGreatProg
import Derived.KernelRfl
import Derived.Lib.Builder
import Derived.Laws.Pointers
import Derived.RangeFuncRecord
import Derived.Test.YtfappgmkbnddiaaGreatP3
namespace Go.Proofs
open Go Go.RowKit Gx
set_option linter.unusedVariables false
set_option linter.unusedSimpArgs false
attribute [local irreducible] Go.Calls Gx.S Gx.O Gx.D Gx.OpP Gx.OpQ Gx.OpH
set_option maxRecDepth 20000
theorem fn_86 : isFn Tryz.prog 86 = true := by kernel_rfl
def MkC (j : Nat) (mo rm : Int) (a : Option Addr) (cap : Nat) (L : List LNd) (sb scap tot : Nat) (f : Nat) : Prop := ∀ (w : World) (S : List Int) (v : Vis) (P : List Nat), (HS w (fps [.blk sb 4 tot (seenV L.length S)]) [.blk sb 4 tot (seenV L.length S)] w) → (Nt w (fps [.blk sb 4 tot (seenV L.length S)]) a L) → (TOk (j : Int) (pln L)) → (Bd (pln L)) → (0 < L.length) → (Gx.Way (pln L) (v.i :: P)) → P.length + f = L.length → Calls Tryz.prog 86 #[.agg #[.int .i64 (j : Int), .int .i64 mo, .int .i64 rm, .slice a L.length cap], .int .i64 (v.i : Int), .slice (some ⟨sb, 0, none⟩) L.length scap] w fun en w' => ∃ g : Unit, en = .returned (.tuple #[]) ∧ True ∧ HS w (fps [.blk sb 4 tot (seenV L.length S)]) [.blk sb 4 tot (seenV L.length (mkS (vis (pln L) f v) S))] w'
theorem c86s (w : World) (j : Nat) (mo rm : Int) (a : Option Addr) (cap : Nat) (L : List LNd) (sb scap tot : Nat) (S : List Int) (v : Vis) (P : List Nat) (f : Nat) (hw : HS w (fps [.blk sb 4 tot (seenV L.length S)]) [.blk sb 4 tot (seenV L.length S)] w) (hs : Nt w (fps [.blk sb 4 tot (seenV L.length S)]) a L) (hT : TOk (j : Int) (pln L)) (hB : Bd (pln L)) (h0 : 0 < L.length) (hway : Gx.Way (pln L) (v.i :: P)) (hf : P.length + (f + 1) = L.length) (ih : MkC j mo rm a cap L sb scap tot f) : Calls Tryz.prog 86 #[.agg #[.int .i64 (j : Int), .int .i64 mo, .int .i64 rm, .slice a L.length cap], .int .i64 (v.i : Int), .slice (some ⟨sb, 0, none⟩) L.length scap] w fun en w' => ∃ g : Unit, en = .returned (.tuple #[]) ∧ True ∧ HS w (fps [.blk sb 4 tot (seenV L.length S)]) [.blk sb 4 tot (seenV L.length (mkS (vis (pln L) (f + 1) v) S))] w' := by
 have hi0 := way_lt hT (by rw [pln_len]; exact h0) hway v.i (List.mem_cons_self ..)
 have hi : v.i < L.length := by rw [pln_len] at hi0; exact hi0
 have hn := pln_nth hi
 have hle := hB.len
 rw [pln_len] at hle
 have hcl := hB.cs v.i hi0
 rw [hn] at hcl
 simp only [LNd.pl] at hcl
 refine enter (args := [_, _, _]) Tryz.func86 Tryz.ntmps86 rfl rfl hw ?_
 iterate 2 refine aS ?_
 refine oBx fun b1 _ => ?_
 iterate 5 refine aS ?_
 refine o_p (p_indexAddr rfl rfl rfl sl_140 (v.i) (by omega) (by omega) rfl) rfl ?_
 refine o_slot (show _ = Value.pointer (some ⟨sb, v.i, none⟩) from by rw [Nat.zero_add, Nat.mul_one]) ?_
 refine o_h0 (h_store rfl rfl rfl sz_4 rfl aPt (by rw [seen_len]; show _ + 1 ≤ _; omega) rfl) (fun _ _ => ?_)
 iterate 6 refine aS ?_
 refine s_loopI (α := Nat) [6, 10, 11, 12, 13, 14, 15, 16, 17, 18, 19, 20, 21, 22, 23, 24, 25, 26, 27, 28, 29, 30, 31, 32] (fun k => [(6, .int .i64 (k : Int))]) (fun k => HS w (fps [.blk sb 4 tot (seenV L.length S)]) [.blk sb 4 tot (seenV L.length (mkS (visK (pln L) f v k) S)), .blk b1 24 4 [.int .i64 (j : Int), .int .i64 mo, .int .i64 rm, .slice a L.length cap]]) (fun k => k ≤ (nth L v.i).cs.length) (fun k => (nth L v.i).cs.length - k) 0 (Nat.zero_le _) aSx (fun w h => by have h2 := h; rw [show setMany (seenV L.length S) v.i (Value.cells (.bool true)).toList = seenV L.length (((v.i : Nat) : Int) :: S) from seen_set hi] at h2; exact h2.ent aEt) (fun k hk1 => ?_)
 iterate 7 refine aS ?_
 refine o_p (p_indexAddr rfl rfl rfl sl_22 (v.i) (by omega) (by omega) (Rw.some hs.1 (by omega))) rfl ?_
 refine aS ?_
 refine o_q (q_load_old rfl rfl sz_30 ((hs.1.rdj 2 hi rfl))) rfl ?_
 iterate 3 refine aS ?_
 refine s_cond rfl (fun h2 => ?_) fun h2 => ?_
 ·try simp only [decide_eq_true_eq] at h2
  have hkl : k < (nth L v.i).cs.length := by omega
  have hkid := kid_in hT hi0 (k := k) (by rw [hn]; exact hkl)
  rw [hn, pln_len] at hkid
  simp only [LNd.pl] at hkid
  have hway2 := way_kid hway hi0 (k := k) (by rw [hn]; exact hkl) (by rw [hn]; simp only [LNd.pl]; omega)
  iterate 3 refine aS ?_
  refine s_draw [11] mixed ?_
  refine dLn 0 [[]] ?_
  refine dFa 1 ?_
  refine dLd 2 [[9, 8, 6, 5, 4]] ?_
  refine dP 3 ?_
  refine d_p 4 rfl (p_indexAddr rfl rfl rfl sl_22 (v.i) (by omega) (by omega) (Rw.some hs.1 (by omega))) (by kernel_rfl) rfl rfl ?_
  refine dFa 5 ?_
  refine d_q 6 [[9, 8]] rfl (q_load_old rfl rfl sz_30 ((hs.1.rdj 2 hi rfl))) (by kernel_rfl) (by kernel_rfl) (by kernel_rfl) rfl ?_
  refine dP 7 ?_
  refine d_p 8 rfl (p_indexAddr rfl rfl rfl sl_30 (k) (by omega) (by omega) (Rw.some (hs.cs hi) (by omega))) (by kernel_rfl) rfl rfl ?_
  refine d_q 9 [[]] rfl (q_load_old rfl rfl sz_3 (((hs.cs hi).rdj 0 (i := k) hkl rfl))) (by kernel_rfl) (by kernel_rfl) (by kernel_rfl) rfl ?_
  refine d_slot (show _ = Value.int .i64 ((kidV (pln L) v k).i : Int) from by rw [kidV, hn]; exact congrArg (Value.int .i64) (Int.toNat_of_nonneg (show 0 ≤ (nth L v.i).cs.getD k 0 by omega)).symm) ?_
  refine dP 10 ?_
  refine d_h 11 rfl (h_callF (Cs := [.blk sb 4 tot (seenV L.length (mkS (visK (pln L) f v k) S))]) rfl fn_86 rfl aPs (fun w1 h1 hf9 => ih w1 (mkS (visK (pln L) f v k) S) (kidV (pln L) v k) (v.i :: P) hf9 ((hs.keep h1).mono (fps_pick aPs)) hT hB h0 hway2 (by simp only [List.length_cons]; omega))) (by kernel_rfl) (fun w h => h.ent aEt) rfl (fun _ _ => ?_)
  refine dTu [] ?_
  refine dNi ?_
  iterate 4 refine aS ?_
  try refine oWr ?_
  iterate 2 refine aS ?_
  exact s_backI (k + 1) (by omega) (by omega) aSx (fun w h => by rw [visK_succ, mkS_app]; exact h.ent aEt)
 try simp only [decide_eq_false_iff_not] at h2
 obtain rfl : k = (nth L v.i).cs.length := by omega
 refine s_exit_to rfl ?_
 exact s_end0 rfl (fun w' h' => ⟨(), rfl, trivial, by rw [visK_all, hn]; exact h'.ent aEt⟩)
theorem c86 (j : Nat) (mo rm : Int) (a : Option Addr) (cap : Nat) (L : List LNd) (sb scap tot : Nat) : ∀ f, MkC j mo rm a cap L sb scap tot f
  | 0 => fun w S v P hw hs hT hB h0 hway hf => by
    have h1 := way_len hT (by rw [pln_len]; exact h0) hway
    rw [pln_len, List.length_cons] at h1
    omega
  | f + 1 => fun w S v P hw hs hT hB h0 hway hf => c86s w j mo rm a cap L sb scap tot S v P f hw hs hT hB h0 hway hf (c86 j mo rm a cap L sb scap tot f)
end Go.Proofs
namespace Gx
set_option linter.unusedSimpArgs false
set_option linter.unusedVariables false
set_option linter.unusedSectionVars false
open Go Go.RowKit
def StK (w : World) (p : Option Addr) (n : Nat) (o : Option (List UInt8)) : Prop := match o with
  | none => n = 0
  | some k => n = 1 ∧ ∃ b off, p = some ⟨b, off, none⟩ ∧ Rd w [] b off (.string (bs k))
theorem StK.later {w w' : World} {As : List HA} {p : Option Addr} {n : Nat} {o : Option (List UInt8)} (h : StK w p n o) (hs : HS w [] As w') : StK w' p n o := by
  cases o with
  | none => exact h
  | some k =>
    obtain ⟨h1, b, off, h2, h3⟩ := h
    exact ⟨h1, b, off, h2, h3.next hs⟩
theorem StK.of_pos {w : World} {p : Option Addr} {n : Nat} {o : Option (List UInt8)} (h : StK w p n o) (hn : 0 < n) : ∃ k b off, o = some k ∧ n = 1 ∧ p = some ⟨b, off, none⟩ ∧ Rd w [] b off (.string (bs k)) := by
  cases o with
  | none =>
    have : n = 0 := h
    omega
  | some k =>
    obtain ⟨h1, b, off, h2, h3⟩ := h
    exact ⟨k, b, off, rfl, h1, h2, h3⟩
theorem StK.of_no {w : World} {p : Option Addr} {n : Nat} {o : Option (List UInt8)} (h : StK w p n o) (hn : ¬ 0 < n) : o = none := by
  cases o with
  | none => rfl
  | some k =>
    obtain ⟨h1, _⟩ := h
    omega
theorem StK.new {w : World} {b : Nat} {k : List UInt8} (h : Rd w [] b 0 (.string (bs k))) : StK w (some ⟨b, 0, none⟩) 1 (some k) := ⟨rfl, b, 0, rfl, h⟩
theorem loK_pos {es : List TEnt} {k : Nat} {lo : Option (List UInt8)} (h : 0 < k) : loK es k lo = some (nth es (k - 1)).key := if_pos h
theorem loK_no {es : List TEnt} {k : Nat} {lo : Option (List UInt8)} (h : ¬ 0 < k) : loK es k lo = lo := if_neg h
theorem hiK_pos {es : List TEnt} {k : Nat} {hi : Option (List UInt8)} (h : k < es.length) : hiK es k hi = some (nth es k).key := if_pos h
theorem hiK_no {es : List TEnt} {k : Nat} {hi : Option (List UInt8)} (h : ¬ k < es.length) : hiK es k hi = hi := if_neg h
theorem shpF_app {t : Tre} {deep : Int} : ∀ (A B : List Vis), shpF t deep (A ++ B) = if (shpF t deep A).2 = 0 then shpF t deep B else shpF t deep A
  | [], B => rfl
  | v :: A, B => by
    rw [List.cons_append, shpF, shpF]
    by_cases h : visE t deep v = 0
    · rw [if_pos h, if_pos h]
      exact shpF_app A B
    · rw [if_neg h, if_neg h, if_neg h]
theorem gap_iff {t : Tre} {v : Vis} {N R : Nd} (hN : nth t.ns v.i = N) (hR : nth t.ns 0 = R) (h1 : R.cs.length = 0 ∨ R.cs.length = R.es.length + 1) (h2 : ∀ c ∈ R.cs, 1 ≤ c) : gapB t v = true ↔ (v.i ≠ 0 ∧ (N.es.length : Int) < t.mo / 2) ∨ (((R.es.length = 0 ∧ R.cs.length = 1) ∧ R.cs.getD 0 0 = (v.i : Int)) ∧ (N.es.length : Int) ≤ t.rm) := by
  subst hN hR
  unfold gapB
  simp only [Bool.and_eq_true, Bool.or_eq_true, decide_eq_true_eq]
  constructor
  · rintro ⟨h3, h4 | ⟨⟨h4, h5⟩, h6⟩⟩
    · exact .inl ⟨by omega, h4⟩
    · refine .inr ⟨⟨⟨h4, ?_⟩, ?_⟩, h6⟩
      · rcases h1 with h1 | h1
        · rw [List.eq_nil_of_length_eq_zero h1] at h5
          cases h5
        · omega
      · have hl : (nth t.ns 0).cs.length = 1 := by
          rcases h1 with h1 | h1
          · rw [List.eq_nil_of_length_eq_zero h1] at h5
            cases h5
          · omega
        obtain ⟨c, hc⟩ := List.length_eq_one_iff.1 hl
        rw [hc] at h5 ⊢
        exact (List.mem_singleton.1 h5).symm
  · rintro (⟨h3, h4⟩ | ⟨⟨⟨h4, h5⟩, h6⟩, h7⟩)
    · exact ⟨by omega, .inl h4⟩
    · obtain ⟨c, hc⟩ := List.length_eq_one_iff.1 h5
      have h8 := h2 c (by rw [hc]; exact List.mem_singleton.2 rfl)
      rw [hc] at h6 ⊢
      have h9 : c = (v.i : Int) := h6
      exact ⟨by omega, .inr ⟨⟨h4, List.mem_singleton.2 h9.symm⟩, h7⟩⟩
theorem visE_gap {t : Tre} {deep : Int} {v : Vis} (h : gapB t v = true) : visE t deep v = 14 := by rw [visE_eq, if_pos h]
theorem visE_out {t : Tre} {deep : Int} {v : Vis} (h : ¬ gapB t v = true) (h2 : outsB t v = true) : visE t deep v = 9 := by rw [visE_eq, if_neg h, if_pos h2]
theorem visE_22 {t : Tre} {deep : Int} {v : Vis} (h : ¬ gapB t v = true) (h2 : ¬ outsB t v = true) (h3 : (nth t.ns v.i).cs.length = 0 ∧ v.d ≠ deep + 1) : visE t deep v = 22 := by rw [visE_eq, if_neg h, if_neg h2, if_pos h3]
theorem visE_ok {t : Tre} {deep : Int} {v : Vis} (h : ¬ gapB t v = true) (h2 : ¬ outsB t v = true) (h3 : ¬ ((nth t.ns v.i).cs.length = 0 ∧ v.d ≠ deep + 1)) : visE t deep v = 0 := by rw [visE_eq, if_neg h, if_neg h2, if_neg h3]
theorem outs_hit {t : Tre} {v : Vis} {N : Nd} {k : Nat} (hN : nth t.ns v.i = N) (hk : k < N.es.length) (h : outB t v (nth N.es k) = true) : outsB t v = true := by
  subst hN
  exact List.any_eq_true.2 ⟨_, mem_nth hk, h⟩
theorem outs_no {t : Tre} {v : Vis} {N : Nd} (hN : nth t.ns v.i = N) (h : ∀ q, q < N.es.length → ¬ outB t v (nth N.es q) = true) : ¬ outsB t v = true := fun h2 => by
  subst hN
  obtain ⟨x, hx, h3⟩ := List.any_eq_true.1 h2
  obtain ⟨q, hq, e⟩ := List.getElem_of_mem hx
  have e2 : nth (nth t.ns v.i).es q = x := nth_eq (by rw [List.getElem?_eq_getElem hq, e])
  exact h q hq (by rw [e2]; exact h3)
theorem out_iff {t : Tre} {v : Vis} {x : TEnt} : outB t v x = true ↔ (∃ b, v.lo = some b ∧ 0 ≤ cmpK t.co b x.key) ∨ (∃ b, v.hi = some b ∧ 0 ≤ cmpK t.co x.key b) := by
  unfold outB
  cases v.lo <;> cases v.hi <;> simp
section
variable {t : Tre} {v : Vis} {x : TEnt} {kl kh : List UInt8}
theorem out_a (h1 : v.lo = some kl) (h : 0 ≤ cmpK t.co kl x.key) : (true = true ↔ outB t v x = true) := ⟨fun _ => out_iff.2 (.inl ⟨kl, h1, h⟩), fun _ => rfl⟩
theorem out_b (h1 : v.lo = some kl) (h : ¬ 0 ≤ cmpK t.co kl x.key) (h2 : v.hi = some kh) : (decide (cmpK t.co x.key kh ≥ 0) = true ↔ outB t v x = true) := by
  rw [decide_eq_true_eq, out_iff, h1, h2]
  constructor
  · exact fun h9 => .inr ⟨kh, rfl, h9⟩
  · rintro (⟨b, hb, h9⟩ | ⟨b, hb, h9⟩)
    · cases hb
      exact absurd h9 h
    · cases hb
      exact h9
theorem out_c (h1 : v.lo = some kl) (h : ¬ 0 ≤ cmpK t.co kl x.key) (h2 : v.hi = none) : (false = true ↔ outB t v x = true) := by
  rw [out_iff, h1, h2]
  constructor
  · exact fun h9 => (nomatch h9)
  · rintro (⟨b, hb, h9⟩ | ⟨b, hb, h9⟩)
    · cases hb
      exact absurd h9 h
    · cases hb
theorem out_d (h1 : v.lo = none) (h2 : v.hi = some kh) : (decide (cmpK t.co x.key kh ≥ 0) = true ↔ outB t v x = true) := by
  rw [decide_eq_true_eq, out_iff, h1, h2]
  constructor
  · exact fun h9 => .inr ⟨kh, rfl, h9⟩
  · rintro (⟨b, hb, h9⟩ | ⟨b, hb, h9⟩)
    · cases hb
    · cases hb
      exact h9
theorem out_e (h1 : v.lo = none) (h2 : v.hi = none) : (false = true ↔ outB t v x = true) := by
  rw [out_iff, h1, h2]
  constructor
  · exact fun h9 => (nomatch h9)
  · rintro (⟨b, hb, h9⟩ | ⟨b, hb, h9⟩) <;> cases hb
end
theorem shp_head {t : Tre} {deep : Int} {f : Nat} {v : Vis} (h : ¬ visE t deep v = 0) : shpF t deep (vis t.ns (f + 1) v) = ((v.i : Int), visE t deep v) := by
  rw [vis, shpF, if_neg h]
theorem shp_K0 {t : Tre} {deep : Int} {f : Nat} {v : Vis} (h : visE t deep v = 0) : (shpF t deep (visK t.ns f v 0)).2 = 0 := by
  rw [visK_0, shpF, if_pos h]
  rfl
end Gx
namespace Go.Proofs
open Go Go.RowKit Gx
set_option linter.unusedVariables false
set_option linter.unusedSimpArgs false
attribute [local irreducible] Go.Calls Gx.S Gx.O Gx.D Gx.OpP Gx.OpQ Gx.OpH
set_option maxRecDepth 20000
theorem sl_174 : tsl Tryz.prog 174 = some (9, 1, 16) := by kernel_rfl
theorem zr_9 : tzero Tryz.prog 9 = some [.string (bs [])] := by kernel_rfl
theorem fn_87 : isFn Tryz.prog 87 = true := by kernel_rfl
def PlC (j : Nat) (mo rm : Int) (a : Option Addr) (cap : Nat) (L : List LNd) (deep : Int) (f : Nat) : Prop := ∀ (w : World) (v : Vis) (P : List Nat) (lv : Int) (pa qa : Option Addr) (pn pc qn qc : Nat), (Nt w [] a L) → (j ≤ 3) → ((0 ≤ mo ∧ mo ≤ 1000) ∧ (0 ≤ deep ∧ deep ≤ 1000)) → (TOk (j : Int) (pln L)) → (Bd (pln L)) → (0 < L.length) → (Gx.Way (pln L) (v.i :: P)) → (v.d = (P.length : Int) + 1) → (lv = deep + 1 - v.d) → (KOk (j : Int) v.lo) → (KOk (j : Int) v.hi) → (StK w pa pn v.lo) → (StK w qa qn v.hi) → P.length + f = L.length → Calls Tryz.prog 87 #[.agg #[.int .i64 (j : Int), .int .i64 mo, .int .i64 rm, .slice a L.length cap], .int .i64 (v.i : Int), .int .i64 lv, .slice pa pn pc, .slice qa qn qc] w fun en w' => en = .returned (.tuple #[.int .i64 (shpF (⟨(j : Int), mo, rm, pln L⟩ : Tre) deep (vis (pln L) f v)).1, .int .i64 (shpF (⟨(j : Int), mo, rm, pln L⟩ : Tre) deep (vis (pln L) f v)).2]) ∧ Below w.heap.size w w'
set_option maxHeartbeats 400000 in
theorem c87s (w : World) (j : Nat) (mo rm : Int) (a : Option Addr) (cap : Nat) (L : List LNd) (deep : Int) (v : Vis) (P : List Nat) (lv : Int) (pa qa : Option Addr) (pn pc qn qc : Nat) (f : Nat) (hs : Nt w [] a L) (hj : j ≤ 3) (hmo : (0 ≤ mo ∧ mo ≤ 1000) ∧ (0 ≤ deep ∧ deep ≤ 1000)) (hT : TOk (j : Int) (pln L)) (hB : Bd (pln L)) (h0 : 0 < L.length) (hway : Gx.Way (pln L) (v.i :: P)) (hd : v.d = (P.length : Int) + 1) (hlv : lv = deep + 1 - v.d) (hko : KOk (j : Int) v.lo) (hkp : KOk (j : Int) v.hi) (hlo : StK w pa pn v.lo) (hhi : StK w qa qn v.hi) (hf : P.length + (f + 1) = L.length) (ih : PlC j mo rm a cap L deep f) : Calls Tryz.prog 87 #[.agg #[.int .i64 (j : Int), .int .i64 mo, .int .i64 rm, .slice a L.length cap], .int .i64 (v.i : Int), .int .i64 lv, .slice pa pn pc, .slice qa qn qc] w fun en w' => en = .returned (.tuple #[.int .i64 (shpF (⟨(j : Int), mo, rm, pln L⟩ : Tre) deep (vis (pln L) (f + 1) v)).1, .int .i64 (shpF (⟨(j : Int), mo, rm, pln L⟩ : Tre) deep (vis (pln L) (f + 1) v)).2]) ∧ Below w.heap.size w w' := by
 have hi0 := way_lt hT (by rw [pln_len]; exact h0) hway v.i (List.mem_cons_self ..)
 have hi : v.i < L.length := by rw [pln_len] at hi0; exact hi0
 have hn := pln_nth hi
 have hn0 := pln_nth h0
 have hle := hB.len
 rw [pln_len] at hle
 have hwl := way_len hT (by rw [pln_len]; exact h0) hway
 rw [pln_len, List.length_cons] at hwl
 have hcl := hB.cs v.i hi0
 have hel := hB.es v.i hi0
 rw [hn] at hcl hel
 simp only [LNd.pl] at hcl hel
 have hsh := hT.shape v.i hi0
 rw [hn] at hsh
 simp only [LNd.pl] at hsh
 have hgi := gap_iff (t := (⟨(j : Int), mo, rm, pln L⟩ : Tre)) (v := v) hn hn0 (hn0 ▸ hT.shape 0 (by rw [pln_len]; exact h0)) (fun c hc => (hT.kid 0 (by rw [pln_len]; exact h0) c (by rw [hn0]; exact hc)).1.1)
 simp only [LNd.pl] at hgi
 have hE9 := ents_kok hT hi0
 rw [hn] at hE9
 simp only [LNd.pl] at hE9
 refine enter (args := [_, _, _, _, _]) Tryz.func87 Tryz.ntmps87 rfl rfl (HS.refl w []) ?_
 iterate 2 refine aS ?_
 refine oBx fun b1 _ => ?_
 iterate 8 refine aS ?_
 refine o_p (p_indexAddr rfl rfl rfl sl_22 (v.i) (by omega) (by omega) (Rw.some hs.1 (by omega))) rfl ?_
 refine o_q (q_load_oldn _ rfl rfl sz_102 rfl (Rw.rd hs.1 hi)) rfl ?_
 refine oAl (fun b2 _ => ?_) zr_102
 refine oSt ?_
 iterate 7 refine aS ?_
 refine o_and 8 27 35 _ _ rfl
  (by
   intro hg3
   have hs4 := hg3; try simp only [Bool.not_eq_true', decide_eq_false_iff_not] at hs4
   refine oOn 27 hg3 ?_
   refine aS ?_
   refine oOn 27 hg3 ?_
   refine aS ?_
   refine oOn 27 hg3 ?_
   refine aS ?_
   refine oOn 27 hg3 ?_
   refine aS ?_
   refine oOn 27 hg3 ?_
   refine aS ?_
   refine oOn 27 hg3 ?_
   refine o_p (p_quo_nn rfl rfl rfl (by omega) (by omega) (by omega)) rfl ?_
   refine oOn 27 hg3 ?_
   refine aS ?_
   refine o_p (p_pickt rfl rfl hg3 rfl) rfl ?_
   refine aS ?_
   exact oJn 8 35)
  (by
   intro hg5
   have hs6 := hg5; try simp only [Bool.not_eq_false', decide_eq_true_eq] at hs6
   refine oOf 27 hg5 ?_
   refine oOf 27 hg5 ?_
   refine oOf 27 hg5 ?_
   refine oOf 27 hg5 ?_
   refine oOf 27 hg5 ?_
   refine oOf 27 hg5 ?_
   refine oOf 27 hg5 ?_
   refine o_p (p_pickf rfl rfl hg5 rfl) rfl ?_
   refine aS ?_
   exact oJn 8 35) ?_
 refine aS ?_
 refine s_cond rfl (fun h7 => ?_) fun h7 => ?_
 ·try simp only [Bool.and_eq_true, Bool.not_eq_true', decide_eq_false_iff_not, decide_eq_true_eq] at h7
  have hgp : gapB (⟨(j : Int), mo, rm, pln L⟩ : Tre) v = true := hgi.2 (.inl (by have hq := h7; omega))
  have hV := visE_gap (deep := deep) hgp
  iterate 6 refine aS ?_
  exact s_retv (rs := [.tmp 10, .tmp 11]) rfl (.tmp rfl (.tmp rfl (.nil))) (fun w' h' => ⟨by rw [shp_head (by rw [hV]; decide), hV]; rfl, h'.below⟩)
 try simp only [Bool.and_eq_false_iff, Bool.not_eq_false', decide_eq_true_eq, decide_eq_false_iff_not] at h7
 have hng1 : ¬ (v.i ≠ 0 ∧ ((nth L v.i).es.length : Int) < mo / 2) := by have hq := h7; omega
 iterate 6 refine aS ?_
 refine o_p (p_indexAddr rfl rfl rfl sl_22 (0) (by omega) (by omega) (Rw.some hs.1 (by omega))) rfl ?_
 refine aS ?_
 refine o_q (q_load_old rfl rfl sz_77 ((hs.1.rdj 1 h0 rfl))) rfl ?_
 iterate 3 refine aS ?_
 refine o_and 8 44 52 _ _ rfl
  (by
   intro hg8
   have hs9 := hg8; try simp only [decide_eq_true_eq] at hs9
   refine oOn 44 hg8 ?_
   refine aS ?_
   refine oOn 44 hg8 ?_
   refine aS ?_
   refine oOn 44 hg8 ?_
   refine o_p (p_indexAddr rfl rfl rfl sl_22 (0) (by omega) (by omega) (Rw.some hs.1 (by omega))) rfl ?_
   refine oOn 44 hg8 ?_
   refine aS ?_
   refine oOn 44 hg8 ?_
   refine o_q (q_load_old rfl rfl sz_30 ((hs.1.rdj 2 h0 rfl))) rfl ?_
   refine oOn 44 hg8 ?_
   refine aS ?_
   refine oOn 44 hg8 ?_
   refine aS ?_
   refine o_p (p_pickt rfl rfl hg8 rfl) rfl ?_
   refine aS ?_
   exact oJn 8 52)
  (by
   intro hg10
   have hs11 := hg10; try simp only [decide_eq_false_iff_not] at hs11
   refine oOf 44 hg10 ?_
   refine oOf 44 hg10 ?_
   refine oOf 44 hg10 ?_
   refine oOf 44 hg10 ?_
   refine oOf 44 hg10 ?_
   refine oOf 44 hg10 ?_
   refine oOf 44 hg10 ?_
   refine o_p (p_pickf rfl rfl hg10 rfl) rfl ?_
   refine aS ?_
   exact oJn 8 52) ?_
 refine aS ?_
 refine o_and 10 53 63 _ _ rfl
  (by
   intro hg12
   have hs13 := hg12; try simp only [Bool.and_eq_true, decide_eq_true_eq] at hs13
   refine oOn 53 hg12 ?_
   refine aS ?_
   refine oOn 53 hg12 ?_
   refine aS ?_
   refine oOn 53 hg12 ?_
   refine o_p (p_indexAddr rfl rfl rfl sl_22 (0) (by omega) (by omega) (Rw.some hs.1 (by omega))) rfl ?_
   refine oOn 53 hg12 ?_
   refine aS ?_
   refine oOn 53 hg12 ?_
   refine o_q (q_load_old rfl rfl sz_30 ((hs.1.rdj 2 h0 rfl))) rfl ?_
   refine oOn 53 hg12 ?_
   refine o_p (p_indexAddr rfl rfl rfl sl_30 (0) (by omega) (by omega) (Rw.some (hs.cs h0) (by omega))) rfl ?_
   refine oOn 53 hg12 ?_
   refine o_q (q_load_old rfl rfl sz_3 (((hs.cs h0).rdj 0 (i := 0) (by omega) rfl))) rfl ?_
   refine oOn 53 hg12 ?_
   refine aS ?_
   refine oOn 53 hg12 ?_
   refine aS ?_
   refine o_p (p_pickt rfl rfl hg12 rfl) rfl ?_
   refine aS ?_
   exact oJn 10 63)
  (by
   intro hg14
   have hs15 := hg14; try simp only [Bool.and_eq_false_iff, decide_eq_false_iff_not] at hs15
   refine oOf 53 hg14 ?_
   refine oOf 53 hg14 ?_
   refine oOf 53 hg14 ?_
   refine oOf 53 hg14 ?_
   refine oOf 53 hg14 ?_
   refine oOf 53 hg14 ?_
   refine oOf 53 hg14 ?_
   refine oOf 53 hg14 ?_
   refine oOf 53 hg14 ?_
   refine o_p (p_pickf rfl rfl hg14 rfl) rfl ?_
   refine aS ?_
   exact oJn 10 63) ?_
 refine aS ?_
 refine o_and 7 64 71 _ _ rfl
  (by
   intro hg16
   have hs17 := hg16; try simp only [Bool.and_eq_true, decide_eq_true_eq] at hs17
   refine oOn 64 hg16 ?_
   refine aS ?_
   refine oOn 64 hg16 ?_
   refine aS ?_
   refine oOn 64 hg16 ?_
   refine aS ?_
   refine oOn 64 hg16 ?_
   refine aS ?_
   refine oOn 64 hg16 ?_
   refine aS ?_
   refine oOn 64 hg16 ?_
   refine aS ?_
   refine o_p (p_pickt rfl rfl hg16 rfl) rfl ?_
   refine aS ?_
   exact oJn 7 71)
  (by
   intro hg18
   have hs19 := hg18; try simp only [Bool.and_eq_false_iff, decide_eq_false_iff_not] at hs19
   refine oOf 64 hg18 ?_
   refine oOf 64 hg18 ?_
   refine oOf 64 hg18 ?_
   refine oOf 64 hg18 ?_
   refine oOf 64 hg18 ?_
   refine oOf 64 hg18 ?_
   refine o_p (p_pickf rfl rfl hg18 rfl) rfl ?_
   refine aS ?_
   exact oJn 7 71) ?_
 refine aS ?_
 refine s_cond rfl (fun h20 => ?_) fun h20 => ?_
 ·try simp only [Bool.and_eq_true, decide_eq_true_eq] at h20
  have hgp : gapB (⟨(j : Int), mo, rm, pln L⟩ : Tre) v = true := hgi.2 (.inr (by have hq := h20; exact ⟨⟨⟨by omega, by omega⟩, hq.1.2⟩, by omega⟩))
  have hV := visE_gap (deep := deep) hgp
  refine aS ?_
  refine s_weaken (L' := [(1, _), (2, _), (3, _), (4, _), (5, _), (10, _), (11, _), (12, _)]) aSx (fun _ h => h) ?_
  iterate 5 refine aS ?_
  exact s_retv (rs := [.tmp 10, .tmp 11]) rfl (.tmp rfl (.tmp rfl (.nil))) (fun w' h' => ⟨by rw [shp_head (by rw [hV]; decide), hV]; rfl, h'.below⟩)
 try simp only [Bool.and_eq_false_iff, decide_eq_false_iff_not] at h20
 have hgn : ¬ gapB (⟨(j : Int), mo, rm, pln L⟩ : Tre) v = true := fun h9 => (hgi.1 h9).elim hng1 (fun h8 => by have hq := h20; rcases hq with ((hq | hq) | hq) | hq <;> first | omega | exact hq h8.1.2)
 iterate 3 refine aS ?_
 refine s_weaken (L' := [(1, _), (2, _), (3, _), (4, _), (5, _), (10, _), (11, _), (12, _)]) aSx (fun _ h => h) ?_
 iterate 4 refine aS ?_
 refine s_loopI (α := Nat) [10, 11, 13, 14, 73, 74, 75, 76, 77, 78, 79, 80, 81, 82, 83, 84, 85, 86, 87, 88, 89, 90, 91, 92, 93, 94, 95, 96, 97, 98, 99, 100, 101, 102, 103, 104, 105, 106, 107, 108, 109, 110, 111, 112, 113, 114] (fun k => [(13, .int .i64 (k : Int))]) (fun _ => HS w [] [.blk b1 24 4 [.int .i64 (j : Int), .int .i64 mo, .int .i64 rm, .slice a L.length cap], .blk b2 102 3 (LNd.vals (nth L v.i))]) (fun k => k ≤ (nth L v.i).es.length ∧ ∀ q, q < k → ¬ outB (⟨(j : Int), mo, rm, pln L⟩ : Tre) v (nth (nth L v.i).es q) = true) (fun k => (nth L v.i).es.length - k) 0 ⟨Nat.zero_le _, fun q h => absurd h (Nat.not_lt_zero q)⟩ aSx (fun w h => h.ent aEt) (fun k hx9 => ?_)
 obtain ⟨hk1, hk3⟩ := hx9
 iterate 9 refine aS ?_
 refine s_cond rfl (fun h21 => ?_) fun h21 => ?_
 ·try simp only [decide_eq_true_eq] at h21
  have hk5 : k < (nth L v.i).es.length := by omega
  iterate 8 refine aS ?_
  refine o_p (p_indexAddr rfl rfl rfl sl_77 (k) (by omega) (by omega) (Rw.some (hs.es hi) (by omega))) rfl ?_
  refine aS ?_
  refine o_q (q_load_old rfl rfl sz_9 (((hs.es hi).rdj 0 hk5 rfl))) rfl ?_
  iterate 3 refine aS ?_
  refine s_weaken (L' := [(1, _), (2, _), (3, _), (4, _), (5, _), (12, _), (13, _), (14, _)]) aSx (fun _ h => h) ?_
  refine s_cutS (α := Bool) [86, 87, 88, 89, 90, 91, 92, 93, 94, 95, 96, 97, 98, 99, 100, 101, 102, 103, 104, 105, 106, 107, 108, 109, 110, 111, 112, 113] (fun x => [(113, .bool x)]) (fun x => x = true ↔ (outB (⟨(j : Int), mo, rm, pln L⟩ : Tre) v (nth (nth L v.i).es k)) = true) ?_ ?_
  ·skip
   refine s_draw [] mixed ?_
   refine dP 0 ?_
   refine d_p 1 rfl (p_len_slice rfl rfl Tryz.underlying174) (by kernel_rfl) rfl rfl ?_
   refine dP 2 ?_
   refine dP 3 ?_
   apply d_split 89
   ·exact rfl
   ·intro hg22
    have hs23 := hg22; try simp only [decide_eq_true_eq] at hs23
    refine dFo 4 89 hg22 ?_
    obtain ⟨kl, bl, ol, hlo1, hlo2, hlo3, hlo4⟩ := hlo.of_pos (by omega)
    refine d_qon 5 89 [] rfl rfl rfl hg22 (q_load rfl rfl sz_3 aPk rfl) (by kernel_rfl) (by kernel_rfl) (by kernel_rfl) rfl ?_
    refine dPo 6 89 hg22 ?_
    refine d_pon 7 89 rfl rfl rfl hg22 (p_indexAddr rfl rfl rfl sl_174 (0) (by omega) (by omega) hlo3) (by kernel_rfl) rfl rfl ?_
    refine d_qon 8 89 [] rfl rfl rfl hg22 (q_load_old rfl rfl sz_9 (hlo4)) (by kernel_rfl) (by kernel_rfl) (by kernel_rfl) rfl ?_
    refine dPo 9 89 hg22 ?_
    refine d_qon 10 89 [] rfl rfl rfl hg22 (q_call rfl fn_33 rfl (fun w1 h1 => c33 w1 j kl (nth (nth L v.i).es k).key hj (hko _ hlo1).1 (hE9 _ (mem_nth hk5)).1 (hko _ hlo1).2 (hE9 _ (mem_nth hk5)).2)) (by kernel_rfl) (by kernel_rfl) (by kernel_rfl) rfl ?_
    refine dPo 11 89 hg22 ?_
    refine d_p 12 rfl (p_pickt rfl rfl hg22 rfl) (by kernel_rfl) rfl rfl ?_
    refine dP 13 ?_
    apply d_split 99
    ·exact rfl
    ·intro hg24
     have hs25 := hg24; try simp only [decide_eq_true_eq] at hs25
     refine dOf 14 99 hg24 ?_
     refine dOf 15 99 hg24 ?_
     refine dOf 16 99 hg24 ?_
     refine dOf 17 99 hg24 ?_
     refine dOu 18 103 ?_
     refine dOu 19 103 ?_
     refine dOu 20 103 ?_
     refine dOu 21 103 ?_
     refine dOu 22 103 ?_
     refine dOu 23 103 ?_
     refine dOu 24 103 ?_
     refine dOu 25 103 ?_
     refine dOf 26 99 hg24 ?_
     refine d_p 27 rfl (p_pickt rfl rfl hg24 rfl) (by kernel_rfl) rfl rfl ?_
     refine dNi ?_
     exact s_joinI true (out_a hlo1 (by show 0 ≤ cmpK (j : Int) kl _; omega)) aSx (fun w h => h.ent aEt)
    intro hg26
    have hs27 := hg26; try simp only [decide_eq_false_iff_not] at hs27
    refine dPo 14 99 hg26 ?_
    refine d_pon 15 99 rfl rfl rfl hg26 (p_len_slice rfl rfl Tryz.underlying174) (by kernel_rfl) rfl rfl ?_
    refine dPo 16 99 hg26 ?_
    refine dPo 17 99 hg26 ?_
    apply d_split 103
    ·exact rfl
    ·intro hg28
     have hs29 := hg28; try simp only [decide_eq_true_eq] at hs29
     refine dFo 18 103 hg28 ?_
     obtain ⟨kh, bh, oh, hhi1, hhi2, hhi3, hhi4⟩ := hhi.of_pos (by omega)
     refine d_qon 19 103 [] rfl rfl rfl hg28 (q_load rfl rfl sz_3 aPk rfl) (by kernel_rfl) (by kernel_rfl) (by kernel_rfl) rfl ?_
     refine dPo 20 103 hg28 ?_
     refine dPo 21 103 hg28 ?_
     refine d_pon 22 103 rfl rfl rfl hg28 (p_indexAddr rfl rfl rfl sl_174 (0) (by omega) (by omega) hhi3) (by kernel_rfl) rfl rfl ?_
     refine d_qon 23 103 [] rfl rfl rfl hg28 (q_load_old rfl rfl sz_9 (hhi4)) (by kernel_rfl) (by kernel_rfl) (by kernel_rfl) rfl ?_
     refine d_qon 24 103 [] rfl rfl rfl hg28 (q_call rfl fn_33 rfl (fun w1 h1 => c33 w1 j (nth (nth L v.i).es k).key kh hj (hE9 _ (mem_nth hk5)).1 (hkp _ hhi1).1 (hE9 _ (mem_nth hk5)).2 (hkp _ hhi1).2)) (by kernel_rfl) (by kernel_rfl) (by kernel_rfl) rfl ?_
     refine dPo 25 103 hg28 ?_
     refine d_pon 26 99 rfl rfl rfl hg26 (p_pickt rfl rfl hg28 rfl) (by kernel_rfl) rfl rfl ?_
     refine d_p 27 rfl (p_pickf rfl rfl hg26 rfl) (by kernel_rfl) rfl rfl ?_
     refine dNi ?_
     exact s_joinI (decide (cmpK (j : Int) (nth (nth L v.i).es k).key kh ≥ 0)) (out_b (t := (⟨(j : Int), mo, rm, pln L⟩ : Tre)) hlo1 (by show ¬ 0 ≤ cmpK (j : Int) kl _; omega) hhi1) aSx (fun w h => h.ent aEt)
    intro hg30
    have hs31 := hg30; try simp only [decide_eq_false_iff_not] at hs31
    refine dOf 18 103 hg30 ?_
    refine dOf 19 103 hg30 ?_
    refine dOf 20 103 hg30 ?_
    refine dOf 21 103 hg30 ?_
    refine dOf 22 103 hg30 ?_
    refine dOf 23 103 hg30 ?_
    refine dOf 24 103 hg30 ?_
    refine dOf 25 103 hg30 ?_
    refine d_pon 26 99 rfl rfl rfl hg26 (p_pickf rfl rfl hg30 rfl) (by kernel_rfl) rfl rfl ?_
    refine d_p 27 rfl (p_pickf rfl rfl hg26 rfl) (by kernel_rfl) rfl rfl ?_
    refine dNi ?_
    exact s_joinI false (out_c hlo1 (by show ¬ 0 ≤ cmpK (j : Int) kl _; omega) (hhi.of_no (by omega))) aSx (fun w h => h.ent aEt)
   intro hg32
   have hs33 := hg32; try simp only [decide_eq_false_iff_not] at hs33
   refine dOf 4 89 hg32 ?_
   refine dOf 5 89 hg32 ?_
   refine dOf 6 89 hg32 ?_
   refine dOf 7 89 hg32 ?_
   refine dOf 8 89 hg32 ?_
   refine dOf 9 89 hg32 ?_
   refine dOf 10 89 hg32 ?_
   refine dOf 11 89 hg32 ?_
   refine d_p 12 rfl (p_pickf rfl rfl hg32 rfl) (by kernel_rfl) rfl rfl ?_
   refine dP 13 ?_
   apply d_split 99
   ·exact rfl
   ·intro hg34
    have hs35 := hg34; skip
    refine dOf 14 99 hg34 ?_
    refine dOf 15 99 hg34 ?_
    refine dOf 16 99 hg34 ?_
    refine dOf 17 99 hg34 ?_
    refine dOu 18 103 ?_
    refine dOu 19 103 ?_
    refine dOu 20 103 ?_
    refine dOu 21 103 ?_
    refine dOu 22 103 ?_
    refine dOu 23 103 ?_
    refine dOu 24 103 ?_
    refine dOu 25 103 ?_
    refine dOf 26 99 hg34 ?_
    refine d_p 27 rfl (p_pickt rfl rfl hg34 rfl) (by kernel_rfl) rfl rfl ?_
    refine dNi ?_
    exact s_joinI true (by exfalso; simp_all; done) aSx (fun w h => h.ent aEt)
   intro hg36
   have hs37 := hg36; skip
   refine dPo 14 99 hg36 ?_
   refine d_pon 15 99 rfl rfl rfl hg36 (p_len_slice rfl rfl Tryz.underlying174) (by kernel_rfl) rfl rfl ?_
   refine dPo 16 99 hg36 ?_
   refine dPo 17 99 hg36 ?_
   apply d_split 103
   ·exact rfl
   ·intro hg38
    have hs39 := hg38; try simp only [decide_eq_true_eq] at hs39
    refine dFo 18 103 hg38 ?_
    obtain ⟨kh, bh, oh, hhi1, hhi2, hhi3, hhi4⟩ := hhi.of_pos (by omega)
    refine d_qon 19 103 [] rfl rfl rfl hg38 (q_load rfl rfl sz_3 aPk rfl) (by kernel_rfl) (by kernel_rfl) (by kernel_rfl) rfl ?_
    refine dPo 20 103 hg38 ?_
    refine dPo 21 103 hg38 ?_
    refine d_pon 22 103 rfl rfl rfl hg38 (p_indexAddr rfl rfl rfl sl_174 (0) (by omega) (by omega) hhi3) (by kernel_rfl) rfl rfl ?_
    refine d_qon 23 103 [] rfl rfl rfl hg38 (q_load_old rfl rfl sz_9 (hhi4)) (by kernel_rfl) (by kernel_rfl) (by kernel_rfl) rfl ?_
    refine d_qon 24 103 [] rfl rfl rfl hg38 (q_call rfl fn_33 rfl (fun w1 h1 => c33 w1 j (nth (nth L v.i).es k).key kh hj (hE9 _ (mem_nth hk5)).1 (hkp _ hhi1).1 (hE9 _ (mem_nth hk5)).2 (hkp _ hhi1).2)) (by kernel_rfl) (by kernel_rfl) (by kernel_rfl) rfl ?_
    refine dPo 25 103 hg38 ?_
    refine d_pon 26 99 rfl rfl rfl hg36 (p_pickt rfl rfl hg38 rfl) (by kernel_rfl) rfl rfl ?_
    refine d_p 27 rfl (p_pickf rfl rfl hg36 rfl) (by kernel_rfl) rfl rfl ?_
    refine dNi ?_
    exact s_joinI (decide (cmpK (j : Int) (nth (nth L v.i).es k).key kh ≥ 0)) (out_d (t := (⟨(j : Int), mo, rm, pln L⟩ : Tre)) (hlo.of_no (by omega)) hhi1) aSx (fun w h => h.ent aEt)
   intro hg40
   have hs41 := hg40; try simp only [decide_eq_false_iff_not] at hs41
   refine dOf 18 103 hg40 ?_
   refine dOf 19 103 hg40 ?_
   refine dOf 20 103 hg40 ?_
   refine dOf 21 103 hg40 ?_
   refine dOf 22 103 hg40 ?_
   refine dOf 23 103 hg40 ?_
   refine dOf 24 103 hg40 ?_
   refine dOf 25 103 hg40 ?_
   refine d_pon 26 99 rfl rfl rfl hg36 (p_pickf rfl rfl hg40 rfl) (by kernel_rfl) rfl rfl ?_
   refine d_p 27 rfl (p_pickf rfl rfl hg36 rfl) (by kernel_rfl) rfl rfl ?_
   refine dNi ?_
   exact s_joinI false (out_e (hlo.of_no (by omega)) (hhi.of_no (by omega))) aSx (fun w h => h.ent aEt)
  intro x hx
  refine s_cond rfl (fun h42 => ?_) fun h42 => ?_
  ·skip
   have hV := visE_out (deep := deep) hgn (outs_hit hn hk5 (hx.1 h42))
   iterate 6 refine aS ?_
   exact s_retv (rs := [.tmp 10, .tmp 11]) rfl (.tmp rfl (.tmp rfl (.nil))) (fun w' h' => ⟨by rw [shp_head (by rw [hV]; decide), hV]; rfl, h'.below⟩)
  skip
  have hz3 : ¬ (outB (⟨(j : Int), mo, rm, pln L⟩ : Tre) v (nth (nth L v.i).es k)) = true := fun h9 => by have h8 := hx.2 h9; simp_all
  iterate 5 refine aS ?_
  try refine oWr ?_
  iterate 2 refine aS ?_
  exact s_backI (k + 1) (by omega) ⟨by omega, fun q hq => (Nat.lt_or_ge q k).elim (hk3 q) (fun h9 => by obtain rfl : q = k := (by omega); exact hz3)⟩ aSx (fun w h => h.ent aEt)
 try simp only [decide_eq_false_iff_not] at h21
 have hon : ¬ outsB (⟨(j : Int), mo, rm, pln L⟩ : Tre) v = true := outs_no hn (fun q hq => hk3 q (by have hq9 := hq; simp only [LNd.pl] at hq9; omega))
 refine s_exit_to rfl ?_
 iterate 8 refine aS ?_
 refine o_and 3 119 122 _ _ rfl
  (by
   intro hg43
   have hs44 := hg43; try simp only [decide_eq_true_eq] at hs44
   refine oOn 119 hg43 ?_
   refine aS ?_
   refine oOn 119 hg43 ?_
   refine aS ?_
   refine o_p (p_pickt rfl rfl hg43 rfl) rfl ?_
   refine aS ?_
   exact oJn 3 122)
  (by
   intro hg45
   have hs46 := hg45; try simp only [decide_eq_false_iff_not] at hs46
   refine oOf 119 hg45 ?_
   refine oOf 119 hg45 ?_
   refine o_p (p_pickf rfl rfl hg45 rfl) rfl ?_
   refine aS ?_
   exact oJn 3 122) ?_
 refine aS ?_
 refine s_cond rfl (fun h47 => ?_) fun h47 => ?_
 ·try simp only [Bool.and_eq_true, decide_eq_true_eq, Bool.not_eq_true', decide_eq_false_iff_not] at h47
  have hV := visE_22 (deep := deep) hgn hon (by rw [show ((⟨(j : Int), mo, rm, pln L⟩ : Tre)).ns = pln L from rfl, hn]; have hq := h47; simp only [LNd.pl]; omega)
  iterate 6 refine aS ?_
  exact s_retv (rs := [.tmp 10, .tmp 11]) rfl (.tmp rfl (.tmp rfl (.nil))) (fun w' h' => ⟨by rw [shp_head (by rw [hV]; decide), hV]; rfl, h'.below⟩)
 try simp only [Bool.and_eq_false_iff, decide_eq_false_iff_not, Bool.not_eq_false', decide_eq_true_eq] at h47
 have hV0 := visE_ok (deep := deep) hgn hon (by rw [show ((⟨(j : Int), mo, rm, pln L⟩ : Tre)).ns = pln L from rfl, hn]; have hq := h47; simp only [LNd.pl]; omega)
 iterate 7 refine aS ?_
 refine s_weaken (L' := [(1, _), (2, _), (3, _), (4, _), (5, _), (12, _), (13, _), (15, _)]) aSx (fun _ h => h) ?_
 refine s_loopI (α := Nat) [10, 11, 15, 16, 17, 18, 19, 124, 125, 126, 127, 128, 129, 130, 131, 132, 133, 134, 135, 136, 137, 138, 139, 140, 141, 142, 143, 144, 145, 146, 147, 148, 149, 150, 151, 152, 153, 154, 155, 156, 157, 158, 159, 160, 161, 162, 163, 164, 165, 166, 167, 168, 169, 170, 171, 172] (fun k => [(15, .int .i64 (k : Int))]) (fun _ => HS w [] [.blk b1 24 4 [.int .i64 (j : Int), .int .i64 mo, .int .i64 rm, .slice a L.length cap], .blk b2 102 3 (LNd.vals (nth L v.i))]) (fun k => k ≤ (nth L v.i).cs.length ∧ (shpF (⟨(j : Int), mo, rm, pln L⟩ : Tre) deep (visK (pln L) f v k)).2 = 0) (fun k => (nth L v.i).cs.length - k) 0 ⟨Nat.zero_le _, shp_K0 hV0⟩ aSx (fun w h => h.ent aEt) (fun k hx9 => ?_)
 obtain ⟨hk1, hk3⟩ := hx9
 iterate 9 refine aS ?_
 refine s_cond rfl (fun h48 => ?_) fun h48 => ?_
 ·try simp only [decide_eq_true_eq] at h48
  have hkl : k < (nth L v.i).cs.length := by omega
  have hkid := kid_in hT hi0 (k := k) (by rw [hn]; exact hkl)
  rw [hn, pln_len] at hkid
  simp only [LNd.pl] at hkid
  have hway2 := way_kid hway hi0 (k := k) (by rw [hn]; exact hkl) (by rw [hn]; simp only [LNd.pl]; omega)
  iterate 16 refine aS ?_
  refine s_cond rfl (fun h49 => ?_) fun h49 => ?_
  ·try simp only [decide_eq_true_eq] at h49
   have hk0 : 0 < k := by have hq := h49; omega
   iterate 5 refine aS ?_
   try refine oWr ?_
   refine o_p (p_indexAddr rfl rfl rfl sl_77 (k - 1) (by omega) (by omega) (Rw.some (hs.es hi) (by omega))) rfl ?_
   refine aS ?_
   refine o_q (q_load_old rfl rfl sz_9 (((hs.es hi).rdj 0 (i := k - 1) (by omega) rfl))) rfl ?_
   refine o_h (h_buildSlice (cs := [_]) rfl rfl sl_174 zr_9 rfl rfl rfl) rfl (fun b50 _ => ?_)
   iterate 11 refine aS ?_
   refine s_cond rfl (fun h51 => ?_) fun h51 => ?_
   ·try simp only [decide_eq_true_eq] at h51
    have hk9 : k < (nth L v.i).es.length := by have hq := h51; omega
    refine s_weaken (L' := [(1, _), (2, _), (3, _), (4, _), (5, _), (12, _), (13, _), (15, _), (16, _), (17, _)]) aSx (fun _ h => h) ?_
    iterate 4 refine aS ?_
    refine o_p (p_indexAddr rfl rfl rfl sl_77 (k) (by omega) (by omega) (Rw.some (hs.es hi) (by omega))) rfl ?_
    refine aS ?_
    refine o_q (q_load_old rfl rfl sz_9 (((hs.es hi).rdj 0 (i := k) (by omega) rfl))) rfl ?_
    refine o_h (h_buildSlice (cs := [_]) rfl rfl sl_174 zr_9 rfl rfl rfl) rfl (fun b52 _ => ?_)
    iterate 3 refine aS ?_
    refine s_draw [] mixed ?_
    refine dLn 0 [] ?_
    refine dFa 1 ?_
    refine dLd 2 [] ?_
    refine dP 3 ?_
    refine d_p 4 rfl (p_indexAddr rfl rfl rfl sl_30 (k) (by omega) (by omega) (Rw.some (hs.cs hi) (by omega))) (by kernel_rfl) rfl rfl ?_
    refine d_q 5 [] rfl (q_load_old rfl rfl sz_3 (((hs.cs hi).rdj 0 (i := k) hkl rfl))) (by kernel_rfl) (by kernel_rfl) (by kernel_rfl) rfl ?_
    refine d_slot (show _ = Value.int .i64 ((kidV (pln L) v k).i : Int) from by rw [kidV, hn]; exact congrArg (Value.int .i64) (Int.toNat_of_nonneg (show 0 ≤ (nth L v.i).cs.getD k 0 by omega)).symm) ?_
    refine dP 6 ?_
    refine dP 7 ?_
    try refine dWr ?_
    refine dP 8 ?_
    refine dP 9 ?_
    refine d_q 10 [] rfl (q_call rfl fn_87 rfl (fun w1 h1 => ih w1 (kidV (pln L) v k) (v.i :: P) (lv - 1) _ _ _ _ _ _ (hs.later h1) hj hmo hT hB h0 hway2 (by simp only [kidV, List.length_cons]; omega) (by simp only [kidV]; omega) (kok_lo hT hi0 (by rw [hn]; show k ≤ (nth L v.i).es.length; omega) hko) (kok_hi hT hi0 hkp) (by show StK w1 _ _ (loK (nth (pln L) v.i).es k v.lo); rw [hn]; show StK w1 _ _ (loK (nth L v.i).es k v.lo); first | (rw [loK_pos hk0]; exact StK.new (h1.rd_blk (Mc := []) aPk rfl (by simp))) | (rw [loK_no hk0]; exact hlo.later h1)) (by show StK w1 _ _ (hiK (nth (pln L) v.i).es k v.hi); rw [hn]; show StK w1 _ _ (hiK (nth L v.i).es k v.hi); first | (rw [hiK_pos hk9]; exact StK.new (h1.rd_blk (Mc := []) aPk rfl (by simp))) | (rw [hiK_no hk9]; exact hhi.later h1)) (by simp only [List.length_cons]; omega))) (by kernel_rfl) (by kernel_rfl) (by kernel_rfl) rfl ?_
    refine dP 11 ?_
    refine dP 12 ?_
    refine dP 13 ?_
    refine dP 14 ?_
    refine dP 15 ?_
    refine dNi ?_
    refine aS ?_
    refine s_weaken (L' := [(1, _), (2, _), (3, _), (4, _), (5, _), (12, _), (13, _), (15, _), (18, _), (19, _)]) aSx (fun _ h => h) ?_
    iterate 4 refine aS ?_
    refine s_cond rfl (fun h53 => ?_) fun h53 => ?_
    ·try simp only [Bool.not_eq_true', decide_eq_false_iff_not] at h53
     have hbad : shpF (⟨(j : Int), mo, rm, pln L⟩ : Tre) deep (vis (pln L) (f + 1) v) = shpF (⟨(j : Int), mo, rm, pln L⟩ : Tre) deep (vis (pln L) f (kidV (pln L) v k)) := by rw [visK_all, hn]; obtain ⟨B9, hB9⟩ := visK_more (pln L) f v (show k + 1 ≤ (nth L v.i).pl.cs.length by show k + 1 ≤ (nth L v.i).cs.length; omega); rw [hB9, visK_succ, List.append_assoc, shpF_app, if_pos hk3, shpF_app, if_neg h53]
     iterate 7 refine aS ?_
     exact s_retv (rs := [.tmp 10, .tmp 11]) rfl (.tmp rfl (.tmp rfl (.nil))) (fun w' h' => ⟨by rw [hbad]; rfl, h'.below⟩)
    try simp only [Bool.not_eq_false', decide_eq_true_eq] at h53
    have hgood : (shpF (⟨(j : Int), mo, rm, pln L⟩ : Tre) deep (visK (pln L) f v (k + 1))).2 = 0 := by rw [visK_succ, shpF_app, if_pos hk3]; have hq := h53; omega
    iterate 5 refine aS ?_
    try refine oWr ?_
    iterate 2 refine aS ?_
    exact s_backI (k + 1) (by omega) ⟨by omega, hgood⟩ aSx (fun w h => h.ent aEt)
   try simp only [decide_eq_false_iff_not] at h51
   have hk9 : ¬ k < (nth L v.i).es.length := by have hq := h51; omega
   iterate 2 refine aS ?_
   refine s_weaken (L' := [(1, _), (2, _), (3, _), (4, _), (5, _), (12, _), (13, _), (15, _), (16, _), (17, _)]) aSx (fun _ h => h) ?_
   refine s_draw [] mixed ?_
   refine dLn 0 [] ?_
   refine dFa 1 ?_
   refine dLd 2 [] ?_
   refine dP 3 ?_
   refine d_p 4 rfl (p_indexAddr rfl rfl rfl sl_30 (k) (by omega) (by omega) (Rw.some (hs.cs hi) (by omega))) (by kernel_rfl) rfl rfl ?_
   refine d_q 5 [] rfl (q_load_old rfl rfl sz_3 (((hs.cs hi).rdj 0 (i := k) hkl rfl))) (by kernel_rfl) (by kernel_rfl) (by kernel_rfl) rfl ?_
   refine d_slot (show _ = Value.int .i64 ((kidV (pln L) v k).i : Int) from by rw [kidV, hn]; exact congrArg (Value.int .i64) (Int.toNat_of_nonneg (show 0 ≤ (nth L v.i).cs.getD k 0 by omega)).symm) ?_
   refine dP 6 ?_
   refine dP 7 ?_
   try refine dWr ?_
   refine dP 8 ?_
   refine dP 9 ?_
   refine d_q 10 [] rfl (q_call rfl fn_87 rfl (fun w1 h1 => ih w1 (kidV (pln L) v k) (v.i :: P) (lv - 1) _ _ _ _ _ _ (hs.later h1) hj hmo hT hB h0 hway2 (by simp only [kidV, List.length_cons]; omega) (by simp only [kidV]; omega) (kok_lo hT hi0 (by rw [hn]; show k ≤ (nth L v.i).es.length; omega) hko) (kok_hi hT hi0 hkp) (by show StK w1 _ _ (loK (nth (pln L) v.i).es k v.lo); rw [hn]; show StK w1 _ _ (loK (nth L v.i).es k v.lo); first | (rw [loK_pos hk0]; exact StK.new (h1.rd_blk (Mc := []) aPk rfl (by simp))) | (rw [loK_no hk0]; exact hlo.later h1)) (by show StK w1 _ _ (hiK (nth (pln L) v.i).es k v.hi); rw [hn]; show StK w1 _ _ (hiK (nth L v.i).es k v.hi); first | (rw [hiK_pos hk9]; exact StK.new (h1.rd_blk (Mc := []) aPk rfl (by simp))) | (rw [hiK_no hk9]; exact hhi.later h1)) (by simp only [List.length_cons]; omega))) (by kernel_rfl) (by kernel_rfl) (by kernel_rfl) rfl ?_
   refine dP 11 ?_
   refine dP 12 ?_
   refine dP 13 ?_
   refine dP 14 ?_
   refine dP 15 ?_
   refine dNi ?_
   iterate 5 refine aS ?_
   refine s_cond rfl (fun h54 => ?_) fun h54 => ?_
   ·try simp only [Bool.not_eq_true', decide_eq_false_iff_not] at h54
    have hbad : shpF (⟨(j : Int), mo, rm, pln L⟩ : Tre) deep (vis (pln L) (f + 1) v) = shpF (⟨(j : Int), mo, rm, pln L⟩ : Tre) deep (vis (pln L) f (kidV (pln L) v k)) := by rw [visK_all, hn]; obtain ⟨B9, hB9⟩ := visK_more (pln L) f v (show k + 1 ≤ (nth L v.i).pl.cs.length by show k + 1 ≤ (nth L v.i).cs.length; omega); rw [hB9, visK_succ, List.append_assoc, shpF_app, if_pos hk3, shpF_app, if_neg h54]
    iterate 7 refine aS ?_
    exact s_retv (rs := [.tmp 10, .tmp 11]) rfl (.tmp rfl (.tmp rfl (.nil))) (fun w' h' => ⟨by rw [hbad]; rfl, h'.below⟩)
   try simp only [Bool.not_eq_false', decide_eq_true_eq] at h54
   have hgood : (shpF (⟨(j : Int), mo, rm, pln L⟩ : Tre) deep (visK (pln L) f v (k + 1))).2 = 0 := by rw [visK_succ, shpF_app, if_pos hk3]; have hq := h54; omega
   iterate 5 refine aS ?_
   try refine oWr ?_
   iterate 2 refine aS ?_
   exact s_backI (k + 1) (by omega) ⟨by omega, hgood⟩ aSx (fun w h => h.ent aEt)
  try simp only [decide_eq_false_iff_not] at h49
  have hk0 : ¬ 0 < k := by have hq := h49; omega
  iterate 10 refine aS ?_
  refine s_cond rfl (fun h55 => ?_) fun h55 => ?_
  ·try simp only [decide_eq_true_eq] at h55
   have hk9 : k < (nth L v.i).es.length := by have hq := h55; omega
   iterate 4 refine aS ?_
   refine o_p (p_indexAddr rfl rfl rfl sl_77 (k) (by omega) (by omega) (Rw.some (hs.es hi) (by omega))) rfl ?_
   refine aS ?_
   refine o_q (q_load_old rfl rfl sz_9 (((hs.es hi).rdj 0 (i := k) (by omega) rfl))) rfl ?_
   refine o_h (h_buildSlice (cs := [_]) rfl rfl sl_174 zr_9 rfl rfl rfl) rfl (fun b56 _ => ?_)
   iterate 3 refine aS ?_
   refine s_weaken (L' := [(1, _), (2, _), (3, _), (4, _), (5, _), (12, _), (13, _), (15, _), (16, _), (17, _)]) aSx (fun _ h => h) ?_
   refine s_draw [] mixed ?_
   refine dLn 0 [] ?_
   refine dFa 1 ?_
   refine dLd 2 [] ?_
   refine dP 3 ?_
   refine d_p 4 rfl (p_indexAddr rfl rfl rfl sl_30 (k) (by omega) (by omega) (Rw.some (hs.cs hi) (by omega))) (by kernel_rfl) rfl rfl ?_
   refine d_q 5 [] rfl (q_load_old rfl rfl sz_3 (((hs.cs hi).rdj 0 (i := k) hkl rfl))) (by kernel_rfl) (by kernel_rfl) (by kernel_rfl) rfl ?_
   refine d_slot (show _ = Value.int .i64 ((kidV (pln L) v k).i : Int) from by rw [kidV, hn]; exact congrArg (Value.int .i64) (Int.toNat_of_nonneg (show 0 ≤ (nth L v.i).cs.getD k 0 by omega)).symm) ?_
   refine dP 6 ?_
   refine dP 7 ?_
   try refine dWr ?_
   refine dP 8 ?_
   refine dP 9 ?_
   refine d_q 10 [] rfl (q_call rfl fn_87 rfl (fun w1 h1 => ih w1 (kidV (pln L) v k) (v.i :: P) (lv - 1) _ _ _ _ _ _ (hs.later h1) hj hmo hT hB h0 hway2 (by simp only [kidV, List.length_cons]; omega) (by simp only [kidV]; omega) (kok_lo hT hi0 (by rw [hn]; show k ≤ (nth L v.i).es.length; omega) hko) (kok_hi hT hi0 hkp) (by show StK w1 _ _ (loK (nth (pln L) v.i).es k v.lo); rw [hn]; show StK w1 _ _ (loK (nth L v.i).es k v.lo); first | (rw [loK_pos hk0]; exact StK.new (h1.rd_blk (Mc := []) aPk rfl (by simp))) | (rw [loK_no hk0]; exact hlo.later h1)) (by show StK w1 _ _ (hiK (nth (pln L) v.i).es k v.hi); rw [hn]; show StK w1 _ _ (hiK (nth L v.i).es k v.hi); first | (rw [hiK_pos hk9]; exact StK.new (h1.rd_blk (Mc := []) aPk rfl (by simp))) | (rw [hiK_no hk9]; exact hhi.later h1)) (by simp only [List.length_cons]; omega))) (by kernel_rfl) (by kernel_rfl) (by kernel_rfl) rfl ?_
   refine dP 11 ?_
   refine dP 12 ?_
   refine dP 13 ?_
   refine dP 14 ?_
   refine dP 15 ?_
   refine dNi ?_
   iterate 5 refine aS ?_
   refine s_cond rfl (fun h57 => ?_) fun h57 => ?_
   ·try simp only [Bool.not_eq_true', decide_eq_false_iff_not] at h57
    have hbad : shpF (⟨(j : Int), mo, rm, pln L⟩ : Tre) deep (vis (pln L) (f + 1) v) = shpF (⟨(j : Int), mo, rm, pln L⟩ : Tre) deep (vis (pln L) f (kidV (pln L) v k)) := by rw [visK_all, hn]; obtain ⟨B9, hB9⟩ := visK_more (pln L) f v (show k + 1 ≤ (nth L v.i).pl.cs.length by show k + 1 ≤ (nth L v.i).cs.length; omega); rw [hB9, visK_succ, List.append_assoc, shpF_app, if_pos hk3, shpF_app, if_neg h57]
    iterate 7 refine aS ?_
    exact s_retv (rs := [.tmp 10, .tmp 11]) rfl (.tmp rfl (.tmp rfl (.nil))) (fun w' h' => ⟨by rw [hbad]; rfl, h'.below⟩)
   try simp only [Bool.not_eq_false', decide_eq_true_eq] at h57
   have hgood : (shpF (⟨(j : Int), mo, rm, pln L⟩ : Tre) deep (visK (pln L) f v (k + 1))).2 = 0 := by rw [visK_succ, shpF_app, if_pos hk3]; have hq := h57; omega
   iterate 5 refine aS ?_
   try refine oWr ?_
   iterate 2 refine aS ?_
   exact s_backI (k + 1) (by omega) ⟨by omega, hgood⟩ aSx (fun w h => h.ent aEt)
  try simp only [decide_eq_false_iff_not] at h55
  have hk9 : ¬ k < (nth L v.i).es.length := by have hq := h55; omega
  iterate 2 refine aS ?_
  refine s_draw [] mixed ?_
  refine dLn 0 [] ?_
  refine dFa 1 ?_
  refine dLd 2 [] ?_
  refine dP 3 ?_
  refine d_p 4 rfl (p_indexAddr rfl rfl rfl sl_30 (k) (by omega) (by omega) (Rw.some (hs.cs hi) (by omega))) (by kernel_rfl) rfl rfl ?_
  refine d_q 5 [] rfl (q_load_old rfl rfl sz_3 (((hs.cs hi).rdj 0 (i := k) hkl rfl))) (by kernel_rfl) (by kernel_rfl) (by kernel_rfl) rfl ?_
  refine d_slot (show _ = Value.int .i64 ((kidV (pln L) v k).i : Int) from by rw [kidV, hn]; exact congrArg (Value.int .i64) (Int.toNat_of_nonneg (show 0 ≤ (nth L v.i).cs.getD k 0 by omega)).symm) ?_
  refine dP 6 ?_
  refine dP 7 ?_
  try refine dWr ?_
  refine dP 8 ?_
  refine dP 9 ?_
  refine d_q 10 [] rfl (q_call rfl fn_87 rfl (fun w1 h1 => ih w1 (kidV (pln L) v k) (v.i :: P) (lv - 1) _ _ _ _ _ _ (hs.later h1) hj hmo hT hB h0 hway2 (by simp only [kidV, List.length_cons]; omega) (by simp only [kidV]; omega) (kok_lo hT hi0 (by rw [hn]; show k ≤ (nth L v.i).es.length; omega) hko) (kok_hi hT hi0 hkp) (by show StK w1 _ _ (loK (nth (pln L) v.i).es k v.lo); rw [hn]; show StK w1 _ _ (loK (nth L v.i).es k v.lo); first | (rw [loK_pos hk0]; exact StK.new (h1.rd_blk (Mc := []) aPk rfl (by simp))) | (rw [loK_no hk0]; exact hlo.later h1)) (by show StK w1 _ _ (hiK (nth (pln L) v.i).es k v.hi); rw [hn]; show StK w1 _ _ (hiK (nth L v.i).es k v.hi); first | (rw [hiK_pos hk9]; exact StK.new (h1.rd_blk (Mc := []) aPk rfl (by simp))) | (rw [hiK_no hk9]; exact hhi.later h1)) (by simp only [List.length_cons]; omega))) (by kernel_rfl) (by kernel_rfl) (by kernel_rfl) rfl ?_
  refine dP 11 ?_
  refine dP 12 ?_
  refine dP 13 ?_
  refine dP 14 ?_
  refine dP 15 ?_
  refine dNi ?_
  refine aS ?_
  refine s_weaken (L' := [(1, _), (2, _), (3, _), (4, _), (5, _), (12, _), (13, _), (15, _), (18, _), (19, _)]) aSx (fun _ h => h) ?_
  iterate 4 refine aS ?_
  refine s_cond rfl (fun h58 => ?_) fun h58 => ?_
  ·try simp only [Bool.not_eq_true', decide_eq_false_iff_not] at h58
   have hbad : shpF (⟨(j : Int), mo, rm, pln L⟩ : Tre) deep (vis (pln L) (f + 1) v) = shpF (⟨(j : Int), mo, rm, pln L⟩ : Tre) deep (vis (pln L) f (kidV (pln L) v k)) := by rw [visK_all, hn]; obtain ⟨B9, hB9⟩ := visK_more (pln L) f v (show k + 1 ≤ (nth L v.i).pl.cs.length by show k + 1 ≤ (nth L v.i).cs.length; omega); rw [hB9, visK_succ, List.append_assoc, shpF_app, if_pos hk3, shpF_app, if_neg h58]
   iterate 7 refine aS ?_
   exact s_retv (rs := [.tmp 10, .tmp 11]) rfl (.tmp rfl (.tmp rfl (.nil))) (fun w' h' => ⟨by rw [hbad]; rfl, h'.below⟩)
  try simp only [Bool.not_eq_false', decide_eq_true_eq] at h58
  have hgood : (shpF (⟨(j : Int), mo, rm, pln L⟩ : Tre) deep (visK (pln L) f v (k + 1))).2 = 0 := by rw [visK_succ, shpF_app, if_pos hk3]; have hq := h58; omega
  iterate 5 refine aS ?_
  try refine oWr ?_
  iterate 2 refine aS ?_
  exact s_backI (k + 1) (by omega) ⟨by omega, hgood⟩ aSx (fun w h => h.ent aEt)
 try simp only [decide_eq_false_iff_not] at h48
 obtain rfl : k = (nth L v.i).cs.length := by omega
 have hfin : shpF (⟨(j : Int), mo, rm, pln L⟩ : Tre) deep (vis (pln L) (f + 1) v) = (0, 0) := by rw [visK_all, hn]; exact shpF_0 hk3
 refine s_exit_to rfl ?_
 iterate 5 refine aS ?_
 exact s_retv (rs := [.tmp 10, .tmp 11]) rfl (.tmp rfl (.tmp rfl (.nil))) (fun w' h' => ⟨by rw [hfin]; rfl, h'.below⟩)
theorem c87 (j : Nat) (mo rm : Int) (a : Option Addr) (cap : Nat) (L : List LNd) (deep : Int) : ∀ f, PlC j mo rm a cap L deep f
  | 0 => fun w v P lv pa qa pn pc qn qc hs hj hmo hT hB h0 hway hd hlv hko hkp hlo hhi hf => by
    have h1 := way_len hT (by rw [pln_len]; exact h0) hway
    rw [pln_len, List.length_cons] at h1
    omega
  | f + 1 => fun w v P lv pa qa pn pc qn qc hs hj hmo hT hB h0 hway hd hlv hko hkp hlo hhi hf => c87s w j mo rm a cap L deep v P lv pa qa pn pc qn qc f hs hj hmo hT hB h0 hway hd hlv hko hkp hlo hhi hf (c87 j mo rm a cap L deep f)
end Go.Proofs
namespace Gx
set_option linter.unusedSimpArgs false
set_option linter.unusedVariables false
set_option linter.unusedSectionVars false
open Go Go.RowKit
theorem treE_c {t : Tre} (h : ¬ colE12 t.co = 0) : treE t = (0, colE12 t.co) := by rw [treE_size (by rw [if_neg h]; exact h), if_neg h]
theorem treE_s {t : Tre} (h : colE12 t.co = 0) (h2 : ¬ sizE t.mo t.rm = 0) : treE t = (0, sizE t.mo t.rm) := by rw [treE_size (by rw [if_pos h]; exact h2), if_pos h]
theorem treE_l {t : Tre} (h : colE12 t.co = 0) (h2 : sizE t.mo t.rm = 0) (h3 : ¬ 0 < t.ns.length) : treE t = (0, 10) := by
  have e : lenE12 t.ns.length = 10 := if_neg h3
  rw [treE_len (by rw [if_pos h]; exact h2) (by rw [e]; decide), e]
theorem treE_g {t : Tre} (h : colE12 t.co = 0) (h2 : sizE t.mo t.rm = 0) (h3 : 0 < t.ns.length) (h4 : ¬ t.ns.length ≤ 120) : treE t = (0, 8) := by
  have e : lenE12 t.ns.length = 8 := by rw [lenE12, if_pos h3, if_neg h4]
  rw [treE_len (by rw [if_pos h]; exact h2) (by rw [e]; decide), e]
theorem treE_n {t : Tre} (h : colE12 t.co = 0) (h2 : sizE t.mo t.rm = 0) (h3 : 0 < t.ns.length) (h4 : t.ns.length ≤ 120) : treE t = if (nodsE t t.ns.length 0 []).2 = 0 then shapE t else nodsE t t.ns.length 0 [] := treE_nods (by rw [if_pos h]; exact h2) (by rw [lenE12, if_pos h3, if_pos h4])
theorem seen_nil (n : Nat) : zrow [Value.bool false] n = seenV n [] := by
  rw [zrow_one]
  apply List.ext_getElem?
  intro i
  by_cases hi : i < n
  · rw [seen_get hi, List.getElem?_replicate, if_pos hi]
    rfl
  · rw [List.getElem?_eq_none (by rw [List.length_replicate]; omega), List.getElem?_eq_none (by rw [seen_len]; omega)]
theorem open_mem {vs : List Vis} {k : Nat} : ((k : Nat) : Int) ∈ mkS vs [] ↔ k ∈ vs.map Vis.i := by
  rw [mkS_mem, List.mem_map]
  constructor
  · rintro ⟨v, hv, h⟩
    exact ⟨v, hv, by omega⟩
  · rintro ⟨v, hv, h⟩
    exact ⟨v, hv, by omega⟩
theorem deepT_le (ns : List Nd) : ∀ (f i : Nat), 0 ≤ deepT ns f i ∧ deepT ns f i ≤ f
  | 0, i => by rw [deepT]; omega
  | f + 1, i => by
    rw [deepT]
    split
    · omega
    · have := deepT_le ns f ((nth ns i).cs.getD 0 0).toNat
      omega
theorem deep_end {ns : List Nd} {f i : Nat} (h : (nth ns i).cs.length = 0) : deepT ns f i = 0 := by
  cases f with
  | zero => rfl
  | succ f => rw [deepT, if_pos h]
theorem deep_more {ns : List Nd} {f i : Nat} (h0 : 0 < f) (h : ¬ (nth ns i).cs.length = 0) : deepT ns f i = deepT ns (f - 1) ((nth ns i).cs.getD 0 0).toNat + 1 := by
  obtain ⟨g, rfl⟩ : ∃ g, f = g + 1 := ⟨f - 1, by omega⟩
  rw [deepT, if_neg h]
  rfl
end Gx
namespace Go.Proofs
open Go Go.RowKit Gx
set_option linter.unusedVariables false
set_option linter.unusedSimpArgs false
attribute [local irreducible] Go.Calls Gx.S Gx.O Gx.D Gx.OpP Gx.OpQ Gx.OpH
set_option maxRecDepth 20000
theorem fn_85 : isFn Tryz.prog 85 = true := by kernel_rfl
theorem fn_41 : isFn Tryz.prog 41 = true := by kernel_rfl
set_option maxHeartbeats 400000 in
theorem c41 (w : World) (co mo rm : Int) (a : Option Addr) (cap : Nat) (L : List LNd) (hs : Nt w [] a L) (hB : Bd (pln L)) (hkl : ∀ i, i < L.length → ∀ x ∈ (nth L i).es, x.key.length ≤ 1000000) : Calls Tryz.prog 41 #[.agg #[.int .i64 co, .int .i64 mo, .int .i64 rm, .slice a L.length cap]] w fun en w' => en = .returned (.tuple #[.int .i64 (treE (⟨co, mo, rm, pln L⟩ : Tre)).1, .int .i64 (treE (⟨co, mo, rm, pln L⟩ : Tre)).2]) ∧ Below w.heap.size w w' := by
 have hle := hB.len
 rw [pln_len] at hle
 have hes9 : ∀ i, i < L.length → (nth L i).es.length ≤ 1000 := fun i hi => by have h9 := hB.es i (by rw [pln_len]; exact hi); rw [pln_nth hi] at h9; exact h9
 have hcs9 : ∀ i, i < L.length → (nth L i).cs.length ≤ 1000 := fun i hi => by have h9 := hB.cs i (by rw [pln_len]; exact hi); rw [pln_nth hi] at h9; exact h9
 refine enter (args := [_]) Tryz.func41 Tryz.ntmps41 rfl rfl (HS.refl w []) ?_
 iterate 2 refine aS ?_
 refine oBx fun b1 _ => ?_
 iterate 8 refine aS ?_
 refine o_q (q_call rfl fn_30 rfl (fun w1 h1 => c30 w1 _)) rfl ?_
 iterate 7 refine aS ?_
 refine s_cond rfl (fun h2 => ?_) fun h2 => ?_
 ·try simp only [Bool.not_eq_true', decide_eq_false_iff_not] at h2
  have hz := treE_c (t := (⟨co, mo, rm, pln L⟩ : Tre)) h2
  iterate 6 refine aS ?_
  exact s_retv (rs := [.tmp 2, .tmp 3]) rfl (.tmp rfl (.tmp rfl (.nil))) (fun w' h' => ⟨by rw [hz]; rfl, h'.below⟩)
 try simp only [Bool.not_eq_false', decide_eq_true_eq] at h2
 have hc0 : colE12 co = 0 := by have hq := h2; omega
 obtain ⟨j, rfl, hj⟩ := col_ok hc0
 iterate 8 refine aS ?_
 refine o_q (q_call rfl fn_31 rfl (fun w1 h1 => c31 w1 _ _)) rfl ?_
 iterate 7 refine aS ?_
 refine s_cond rfl (fun h3 => ?_) fun h3 => ?_
 ·try simp only [Bool.not_eq_true', decide_eq_false_iff_not] at h3
  have hz := treE_s (t := (⟨(j : Int), mo, rm, pln L⟩ : Tre)) hc0 h3
  iterate 6 refine aS ?_
  exact s_retv (rs := [.tmp 2, .tmp 3]) rfl (.tmp rfl (.tmp rfl (.nil))) (fun w' h' => ⟨by rw [hz]; rfl, h'.below⟩)
 try simp only [Bool.not_eq_false', decide_eq_true_eq] at h3
 have hc1 : sizE mo rm = 0 := by have hq := h3; omega
 have hsz2 : (3 ≤ mo ∧ mo ≤ 8) ∧ (mo / 2 ≤ rm ∧ rm ≤ mo) := sizE_0 hc1
 have hTL : ((⟨(j : Int), mo, rm, pln L⟩ : Tre)).ns.length = L.length := pln_len L
 iterate 9 refine aS ?_
 refine s_cond rfl (fun h4 => ?_) fun h4 => ?_
 ·try simp only [decide_eq_true_eq] at h4
  have hz := treE_l (t := (⟨(j : Int), mo, rm, pln L⟩ : Tre)) hc0 hc1 (by rw [hTL]; have hq := h4; omega)
  iterate 5 refine aS ?_
  exact s_retv (rs := [.tmp 2, .tmp 3]) rfl (.tmp rfl (.tmp rfl (.nil))) (fun w' h' => ⟨by rw [hz]; rfl, h'.below⟩)
 try simp only [decide_eq_false_iff_not] at h4
 have h00 : 0 < L.length := by have hq := h4; omega
 iterate 9 refine aS ?_
 refine s_cond rfl (fun h5 => ?_) fun h5 => ?_
 ·try simp only [decide_eq_true_eq] at h5
  have hz := treE_g (t := (⟨(j : Int), mo, rm, pln L⟩ : Tre)) hc0 hc1 (by rw [hTL]; exact h00) (by rw [hTL]; have hq := h5; omega)
  iterate 5 refine aS ?_
  exact s_retv (rs := [.tmp 2, .tmp 3]) rfl (.tmp rfl (.tmp rfl (.nil))) (fun w' h' => ⟨by rw [hz]; rfl, h'.below⟩)
 try simp only [decide_eq_false_iff_not] at h5
 have h120 : L.length ≤ 120 := by have hq := h5; omega
 have hz := treE_n (t := (⟨(j : Int), mo, rm, pln L⟩ : Tre)) hc0 hc1 (by rw [hTL]; exact h00) (by rw [hTL]; exact h120)
 rw [hTL] at hz
 iterate 6 refine aS ?_
 refine o_h (h_make (n := L.length) rfl rfl rfl sl_140 zr_4 (by omega) (by omega)) rfl (fun b6 _ => ?_)
 refine o_class (fun w h => (show HS _ _ [.blk b6 4 L.length (seenV L.length []), .blk b1 24 4 [.int .i64 (j : Int), .int .i64 mo, .int .i64 rm, .slice a L.length cap]] w from by have h9 := h; rw [Nat.mul_one, seen_nil] at h9; exact h9.ent aEt)) ?_
 iterate 4 refine aS ?_
 refine s_weaken (L' := [(1, _), (2, _), (3, _), (6, _)]) aSx (fun _ h => h) ?_
 iterate 4 refine aS ?_
 refine s_loopI (α := Nat × List Int) [2, 3, 7, 8, 39, 40, 41, 42, 43, 44, 45, 46, 47, 48, 49, 50, 51, 52, 53] (fun x => [(7, .int .i64 (x.1 : Int))]) (fun x => HS w [] [.blk b6 4 L.length (seenV L.length x.2), .blk b1 24 4 [.int .i64 (j : Int), .int .i64 mo, .int .i64 rm, .slice a L.length cap]]) (fun x => x.1 ≤ L.length ∧ (nodsE (⟨(j : Int), mo, rm, pln L⟩ : Tre) L.length 0 []) = nodsE (⟨(j : Int), mo, rm, pln L⟩ : Tre) (L.length - x.1) x.1 x.2) (fun x => L.length - x.1) (0, []) ⟨Nat.zero_le _, rfl⟩ aSx (fun w h => h.ent aEt) (fun ⟨k, S9⟩ hx => ?_)
 dsimp only
 obtain ⟨hk1, hk3⟩ := hx
 simp only [] at hk1 hk3
 iterate 9 refine aS ?_
 refine s_cond rfl (fun h7 => ?_) fun h7 => ?_
 ·try simp only [decide_eq_true_eq] at h7
  have hkl9 : k < L.length := by omega
  have hst := nodsE_step (t := (⟨(j : Int), mo, rm, pln L⟩ : Tre)) (k := k) (seen := S9) (by rw [hTL]; exact hkl9)
  rw [hTL] at hst
  iterate 8 refine aS ?_
  refine o_h (h_callF (Cs := [.blk b6 4 L.length (seenV L.length S9)]) rfl fn_85 rfl aPs (fun w1 h1 hf => c85 w1 j mo rm a cap L k b6 L.length L.length S9 hf ((hs.keep h1).mono (fps_pick aPs)) hj hkl9 (by omega) (hes9 _ hkl9) (hcs9 _ hkl9) (hkl _ hkl9))) rfl (fun _ _ => ?_)
  iterate 7 refine aS ?_
  refine s_cond rfl (fun h8 => ?_) fun h8 => ?_
  ·try simp only [Bool.not_eq_true', decide_eq_false_iff_not] at h8
   have hz3 : (nodsE (⟨(j : Int), mo, rm, pln L⟩ : Tre) L.length 0 []) = ((k : Int), (nodE (⟨(j : Int), mo, rm, pln L⟩ : Tre) k S9).1) := by rw [hk3, hst, if_neg h8]
   rw [hz3, if_neg (show ¬ (((k : Int), (nodE (⟨(j : Int), mo, rm, pln L⟩ : Tre) k S9).1) : Int × Int).2 = 0 from h8)] at hz
   iterate 7 refine aS ?_
   exact s_retv (rs := [.tmp 2, .tmp 3]) rfl (.tmp rfl (.tmp rfl (.nil))) (fun w' h' => ⟨by rw [hz]; rfl, h'.below⟩)
  try simp only [Bool.not_eq_false', decide_eq_true_eq] at h8
  have hz3 : nodsE (⟨(j : Int), mo, rm, pln L⟩ : Tre) (L.length - k) k S9 = nodsE (⟨(j : Int), mo, rm, pln L⟩ : Tre) (L.length - (k + 1)) (k + 1) (nodE (⟨(j : Int), mo, rm, pln L⟩ : Tre) k S9).2 := by rw [hst, if_pos (by have hq := h8; omega)]
  iterate 5 refine aS ?_
  try refine oWr ?_
  iterate 2 refine aS ?_
  exact s_backI (k + 1, (nodE (⟨(j : Int), mo, rm, pln L⟩ : Tre) k S9).2) (by (try simp only []); omega) ⟨by (try simp only []); omega, by simp only []; rw [hk3, hz3]⟩ aSx (fun w h => h.ent aEt)
 try simp only [decide_eq_false_iff_not] at h7
 have hnd : (nodsE (⟨(j : Int), mo, rm, pln L⟩ : Tre) L.length 0 []) = (0, 0) := by rw [hk3, show L.length - k = 0 by omega]; rfl
 rw [hnd, if_pos rfl] at hz
 have hT : TOk (j : Int) (pln L) := tok_of (t := (⟨(j : Int), mo, rm, pln L⟩ : Tre)) (by show (nodsE (⟨(j : Int), mo, rm, pln L⟩ : Tre) (pln L).length 0 []).2 = 0; rw [pln_len, hnd])
 have hvis : vis (pln L) L.length root0 = visT (pln L) := by unfold visT; rw [pln_len]
 refine s_exit_to rfl ?_
 iterate 5 refine aS ?_
 refine o_h (h_make (n := L.length) rfl rfl rfl sl_140 zr_4 (by omega) (by omega)) rfl (fun b9 _ => ?_)
 refine o_class (fun w h => (show HS _ _ [.blk b9 4 L.length (seenV L.length []), .blk b1 24 4 [.int .i64 (j : Int), .int .i64 mo, .int .i64 rm, .slice a L.length cap]] w from by have h9 := h; rw [Nat.mul_one, seen_nil] at h9; exact h9.ent aEt)) ?_
 iterate 6 refine aS ?_
 refine o_h (h_callF (Cs := [.blk b9 4 L.length (seenV L.length [])]) rfl fn_86 rfl aPs (fun w1 h1 hf => c86 j mo rm a cap L b9 L.length L.length L.length w1 [] root0 [] hf ((hs.keep h1).mono (fps_pick aPs)) hT hB h00 rfl (by simp))) rfl (fun _ _ => ?_)
 iterate 7 refine aS ?_
 refine s_weaken (L' := [(1, _), (6, _), (7, _), (9, _), (10, _)]) aSx (fun _ h => h) ?_
 refine s_loopI (α := Nat) [2, 3, 10, 61, 62, 63, 64, 65, 66, 67, 68, 69, 70, 71, 72, 73, 74, 75, 76, 77, 78, 79, 80, 81] (fun k => [(10, .int .i64 (k : Int))]) (fun _ => HS w [] [.blk b9 4 L.length (seenV L.length (mkS (vis (pln L) L.length root0) [])), .blk b1 24 4 [.int .i64 (j : Int), .int .i64 mo, .int .i64 rm, .slice a L.length cap]]) (fun k => k ≤ L.length ∧ opnF (pln L) ((visT (pln L)).map Vis.i) L.length 0 = opnF (pln L) ((visT (pln L)).map Vis.i) (L.length - k) k) (fun k => L.length - k) 0 ⟨Nat.zero_le _, rfl⟩ aSx (fun w h => h.ent aEt) (fun k hx => ?_)
 obtain ⟨hk1, hk2⟩ := hx
 iterate 9 refine aS ?_
 refine s_cond rfl (fun h10 => ?_) fun h10 => ?_
 ·try simp only [decide_eq_true_eq] at h10
  have hkl9 : k < L.length := by omega
  have hst := opnF_step (ns := pln L) (below := ((visT (pln L)).map Vis.i)) (k := k) (by rw [pln_len]; exact hkl9)
  rw [pln_len, pln_nth hkl9] at hst
  iterate 8 refine aS ?_
  refine o_p (p_indexAddr rfl rfl rfl sl_22 (k) (by omega) (by omega) (Rw.some hs.1 (by omega))) rfl ?_
  refine aS ?_
  refine o_q (q_load_old rfl rfl sz_4 ((hs.1.rdj 0 hkl9 rfl))) rfl ?_
  refine aS ?_
  refine o_and 6 74 80 _ _ rfl
   (by
    intro hg11
    have hs12 := hg11; skip
    refine oOn 74 hg11 ?_
    refine aS ?_
    refine oOn 74 hg11 ?_
    refine aS ?_
    refine oOn 74 hg11 ?_
    refine o_p (p_indexAddr rfl rfl rfl sl_140 (k) (by omega) (by omega) rfl) rfl ?_
    refine o_slot (show _ = Value.pointer (some ⟨b9, k, none⟩) from by rw [Nat.zero_add, Nat.mul_one]) ?_
    refine oOn 74 hg11 ?_
    refine o_q (q_load_at rfl rfl sz_4 (fun w h => h.rd_blk (Mc := []) aPk (seen_get hkl9) (by simp))) rfl ?_
    refine oOn 74 hg11 ?_
    refine aS ?_
    refine o_p (p_pickt rfl rfl hg11 rfl) rfl ?_
    refine aS ?_
    exact oJn 6 80)
   (by
    intro hg13
    have hs14 := hg13; skip
    refine oOf 74 hg13 ?_
    refine oOf 74 hg13 ?_
    refine oOf 74 hg13 ?_
    refine oOf 74 hg13 ?_
    refine oOf 74 hg13 ?_
    refine o_p (p_pickf rfl rfl hg13 rfl) rfl ?_
    refine aS ?_
    exact oJn 6 80) ?_
  refine aS ?_
  refine s_cond rfl (fun h15 => ?_) fun h15 => ?_
  ·try simp only [Bool.and_eq_true, Bool.not_eq_true', decide_eq_false_iff_not] at h15
   have hz7 : (nth L k).pl.us = true ∧ k ∉ ((visT (pln L)).map Vis.i) := by have hq := h15; rw [← open_mem, ← hvis]; simp only [LNd.pl]; simpa using hq
   have hz8 := hz.trans (shapE_some (t := (⟨(j : Int), mo, rm, pln L⟩ : Tre)) (i := k) (show opnF (pln L) _ (pln L).length 0 = some k from by rw [pln_len, hk2, hst, if_pos hz7]))
   iterate 6 refine aS ?_
   exact s_retv (rs := [.tmp 2, .tmp 3]) rfl (.tmp rfl (.tmp rfl (.nil))) (fun w' h' => ⟨by rw [hz8]; rfl, h'.below⟩)
  try simp only [Bool.and_eq_false_iff, Bool.not_eq_false', decide_eq_true_eq] at h15
  have hz7 : ¬ ((nth L k).pl.us = true ∧ k ∉ ((visT (pln L)).map Vis.i)) := by have hq := h15; rw [← open_mem, ← hvis]; simp only [LNd.pl]; intro h9; exact hq.elim (fun h8 => by rw [h8] at h9; cases h9.1) (fun h8 => h9.2 h8)
  iterate 5 refine aS ?_
  try refine oWr ?_
  iterate 2 refine aS ?_
  exact s_backI (k + 1) (by omega) ⟨by omega, by rw [hk2, hst, if_neg hz7]⟩ aSx (fun w h => h.ent aEt)
 try simp only [decide_eq_false_iff_not] at h10
 have hnone : opnF (pln L) ((visT (pln L)).map Vis.i) L.length 0 = none := by rw [hk2, show L.length - k = 0 by omega]; rfl
 have hz8 := hz.trans (shapE_none (t := (⟨(j : Int), mo, rm, pln L⟩ : Tre)) (show opnF (pln L) _ (pln L).length 0 = none from by rw [pln_len]; exact hnone))
 refine s_exit_to rfl ?_
 iterate 10 refine aS ?_
 refine s_loopI (α := Nat × Nat × List Nat) [11, 12, 82, 83, 84, 85, 86, 87, 88, 89, 90, 91, 92, 93, 94, 95, 96, 97, 98, 99] (fun y => [(11, .int .i64 (y.1 : Int)), (12, .int .i64 (y.2.1 : Int))]) (fun _ => HS w [] [.blk b1 24 4 [.int .i64 (j : Int), .int .i64 mo, .int .i64 rm, .slice a L.length cap]]) (fun y => Gx.Way (pln L) (y.2.1 :: y.2.2) ∧ y.2.2.length = y.1 ∧ deepT (pln L) L.length 0 = (y.1 : Int) + deepT (pln L) (L.length - y.1) y.2.1) (fun y => L.length - y.1) (0, 0, []) ⟨rfl, rfl, by simp⟩ aSx (fun w h => h.ent aEt) (fun ⟨d, i, P⟩ hx => ?_)
 dsimp only
 obtain ⟨hway, hpl, hdp⟩ := hx
 simp only [] at hway hpl hdp
 have hil0 := way_lt hT (by rw [pln_len]; exact h00) hway i (List.mem_cons_self ..)
 have hil : i < L.length := by rw [pln_len] at hil0; exact hil0
 have hnI := pln_nth hil
 have hwl := way_len hT (by rw [pln_len]; exact h00) hway
 rw [pln_len, List.length_cons] at hwl
 have hcl := hcs9 i hil
 iterate 6 refine aS ?_
 refine o_p (p_indexAddr rfl rfl rfl sl_22 (i) (by omega) (by omega) (Rw.some hs.1 (by omega))) rfl ?_
 refine aS ?_
 refine o_q (q_load_old rfl rfl sz_30 ((hs.1.rdj 2 hil rfl))) rfl ?_
 iterate 3 refine aS ?_
 refine s_cond rfl (fun h16 => ?_) fun h16 => ?_
 ·try simp only [decide_eq_true_eq] at h16
  have hcl0 : 0 < (nth L i).cs.length := by have hq := h16; omega
  have hkid := kid_in hT (by rw [pln_len]; exact hil) (i := i) (k := 0) (by rw [hnI]; exact hcl0)
  rw [hnI, pln_len] at hkid
  simp only [LNd.pl] at hkid
  have hway2 := way_kid hway (by rw [pln_len]; exact hil) (k := 0) (by rw [hnI]; exact hcl0) (by rw [hnI]; simp only [LNd.pl]; omega)
  rw [hnI] at hway2
  have hwl2 := way_len hT (by rw [pln_len]; exact h00) hway2
  rw [pln_len, List.length_cons, List.length_cons] at hwl2
  have hdm := deep_more (ns := pln L) (f := L.length - d) (i := i) (by omega) (by rw [hnI]; show ¬ (nth L i).cs.length = 0; omega)
  rw [hnI] at hdm
  iterate 7 refine aS ?_
  refine o_p (p_indexAddr rfl rfl rfl sl_22 (i) (by omega) (by omega) (Rw.some hs.1 (by omega))) rfl ?_
  refine aS ?_
  refine o_q (q_load_old rfl rfl sz_30 ((hs.1.rdj 2 hil rfl))) rfl ?_
  refine o_p (p_indexAddr rfl rfl rfl sl_30 (0) (by omega) (by omega) (Rw.some (hs.cs hil) (by omega))) rfl ?_
  refine o_q (q_load_old rfl rfl sz_3 (((hs.cs hil).rdj 0 (i := 0) (by omega) rfl))) rfl ?_
  refine o_slot (show _ = Value.int .i64 (((nth L i).cs.getD 0 0).toNat : Int) from congrArg (Value.int .i64) (Int.toNat_of_nonneg (show 0 ≤ (nth L i).cs.getD 0 0 by omega)).symm) ?_
  iterate 6 refine aS ?_
  try refine oWr ?_
  iterate 2 refine aS ?_
  exact s_backI (d + 1, ((nth L i).cs.getD 0 0).toNat, i :: P) (by (try simp only []); omega) ⟨hway2, by simp [hpl], by simp only [] at *; rw [show L.length - (d + 1) = L.length - d - 1 by omega]; have h9 : (nth L i).pl.cs = (nth L i).cs := rfl; rw [h9] at hdm; omega⟩ aSx (fun w h => h.ent aEt)
 try simp only [decide_eq_false_iff_not] at h16
 have hde := deep_end (ns := pln L) (f := L.length - d) (i := i) (by rw [hnI]; show (nth L i).cs.length = 0; have hq := h16; omega)
 rw [hde, Int.add_zero] at hdp
 have hdl := deepT_le (pln L) L.length 0
 refine s_exit_to rfl ?_
 iterate 4 refine aS ?_
 refine o_q (q_call rfl fn_87 rfl (fun w1 h1 => c87 j mo rm a cap L (d : Int) L.length w1 root0 [] (d : Int) none none 0 0 0 0 (hs.later h1) hj (by omega) hT hB h00 rfl rfl (by show (d : Int) = d + 1 - 1; omega) (fun _ h => by cases h) (fun _ h => by cases h) rfl rfl (by simp))) rfl ?_
 iterate 5 refine aS ?_
 exact s_retv (rs := [.tmp 2, .tmp 3]) rfl (.tmp rfl (.tmp rfl (.nil))) (fun w' h' => ⟨by rw [hz8, show deepT ((⟨(j : Int), mo, rm, pln L⟩ : Tre)).ns ((⟨(j : Int), mo, rm, pln L⟩ : Tre)).ns.length 0 = (d : Int) from by rw [hTL]; exact hdp, show visT ((⟨(j : Int), mo, rm, pln L⟩ : Tre)).ns = vis (pln L) L.length root0 from hvis.symm]; rfl, h'.below⟩)
theorem c18 (w : World) (co mo rm : Int) (a : Option Addr) (cap : Nat) (L : List LNd) (hs : Nt w [] a L) (hB : Bd (pln L)) (hkl : ∀ i, i < L.length → ∀ x ∈ (nth L i).es, x.key.length ≤ 1000000) : Calls Tryz.prog 18 #[.agg #[.int .i64 co, .int .i64 mo, .int .i64 rm, .slice a L.length cap]] w fun en w' => en = .returned (.int .i64 (treE (⟨co, mo, rm, pln L⟩ : Tre)).2) ∧ Below w.heap.size w w' := by
 refine enter (args := [_]) Tryz.func18 Tryz.ntmps18 rfl rfl (HS.refl w []) ?_
 iterate 2 refine aS ?_
 refine oBx fun b1 _ => ?_
 iterate 5 refine aS ?_
 refine o_q (q_call rfl fn_41 rfl (fun w1 h1 => c41 w1 co mo rm a cap L (hs.later h1) hB hkl)) rfl ?_
 iterate 11 refine aS ?_
 exact s_retv (rs := [.tmp 2]) rfl (.tmp rfl (.nil)) (fun w' h' => ⟨by rfl, h'.below⟩)
end Go.Proofs
namespace Gx
set_option linter.unusedSimpArgs false
set_option linter.unusedVariables false
set_option linter.unusedSectionVars false
open Go Go.RowKit
def tslimB (x : TEnt) : Bool := decide (x.key.length ≤ 44 ∧ x.val.length ≤ 70)
def tshortB (es : List TEnt) : Bool := es.all tslimB
def tfewN (n : Nd) : Bool := decide (n.es.length ≤ 10 ∧ n.cs.length ≤ 11) && tshortB n.es
def tfewB (ns : List Nd) : Bool := decide (ns.length ≤ 122 ∧ ¬ (60 < ns.length ∧ ns.length ≤ 120)) && ns.all tfewN
theorem tfewN_t {n : Nd} (h1 : n.es.length ≤ 10) (h2 : n.cs.length ≤ 11) (h3 : tshortB n.es = true) : tfewN n = true := by
  rw [tfewN, decide_eq_true (And.intro h1 h2), h3]
  rfl
theorem tfewN_f {n : Nd} (h : (10 < n.es.length ∨ 11 < n.cs.length) ∨ tshortB n.es = false) : ¬ tfewN n = true := fun h9 => by
  rw [tfewN, Bool.and_eq_true, decide_eq_true_eq] at h9
  rcases h with h | h
  · omega
  · rw [h] at h9
    cases h9.2
theorem tshortB_t {es : List TEnt} (h : ∀ q, q < es.length → tslimB (nth es q) = true) : tshortB es = true := by
  refine List.all_eq_true.2 fun x hx => ?_
  obtain ⟨q, hq, e⟩ := List.getElem_of_mem hx
  have e2 : nth es q = x := nth_eq (by rw [List.getElem?_eq_getElem hq, e])
  rw [← e2]
  exact h q hq
theorem tshortB_f {es : List TEnt} {k : Nat} (hk : k < es.length) (h : ¬ tslimB (nth es k) = true) : tshortB es = false := by
  cases e : tshortB es
  · rfl
  · exact absurd (List.all_eq_true.1 e _ (mem_nth hk)) h
theorem tfewB_t {ns : List Nd} (h0 : ns.length ≤ 122 ∧ ¬ (60 < ns.length ∧ ns.length ≤ 120)) (h : ∀ q, q < ns.length → tfewN (nth ns q) = true) : tfewB ns = true := by
  rw [tfewB, decide_eq_true h0, Bool.true_and]
  refine List.all_eq_true.2 fun x hx => ?_
  obtain ⟨q, hq, e⟩ := List.getElem_of_mem hx
  have e2 : nth ns q = x := nth_eq (by rw [List.getElem?_eq_getElem hq, e])
  rw [← e2]
  exact h q hq
theorem tfewB_f {ns : List Nd} {k : Nat} (hk : k < ns.length) (h : ¬ tfewN (nth ns k) = true) : tfewB ns = false := by
  cases e : tfewB ns
  · rfl
  · rw [tfewB, Bool.and_eq_true] at e
    exact absurd (List.all_eq_true.1 e.2 _ (mem_nth hk)) h
theorem tfewB_n {ns : List Nd} (h : ¬ (ns.length ≤ 122 ∧ ¬ (60 < ns.length ∧ ns.length ≤ 120))) : tfewB ns = false := by
  rw [tfewB, decide_eq_false h, Bool.false_and]
theorem tfew_len {ns : List Nd} (h : tfewB ns = true) : ns.length ≤ 122 := by
  rw [tfewB, Bool.and_eq_true, decide_eq_true_eq] at h
  exact h.1.1
theorem tfew_nd {ns : List Nd} (h : tfewB ns = true) {k : Nat} (hk : k < ns.length) : (nth ns k).es.length ≤ 10 ∧ (nth ns k).cs.length ≤ 11 ∧ ∀ x ∈ (nth ns k).es, x.key.length ≤ 44 ∧ x.val.length ≤ 70 := by
  rw [tfewB, Bool.and_eq_true] at h
  have h2 := List.all_eq_true.1 h.2 _ (mem_nth hk)
  rw [tfewN, Bool.and_eq_true, decide_eq_true_eq] at h2
  refine ⟨h2.1.1, h2.1.2, fun x hx => ?_⟩
  have h3 := List.all_eq_true.1 h2.2 _ hx
  rw [tslimB, decide_eq_true_eq] at h3
  exact h3
theorem tfew_bd {ns : List Nd} (h : tfewB ns = true) : Bd ns where
  len := Nat.le_trans (tfew_len h) (by decide)
  es i hi := Nat.le_trans (tfew_nd h hi).1 (by decide)
  cs i hi := Nat.le_trans (tfew_nd h hi).2.1 (by decide)
theorem tfew_sm {ns : List Nd} (h : tfewB ns = true) : Sm 1000 ns := fun k => by
  rcases Nat.lt_or_ge k ns.length with hk | hk
  · exact ⟨Nat.le_trans (tfew_nd h hk).1 (by decide), Nat.le_trans (tfew_nd h hk).2.1 (by decide)⟩
  · rw [nth_out hk]
    exact ⟨Nat.zero_le _, Nat.zero_le _⟩
theorem tfew_keys {L : List LNd} (h : tfewB (pln L) = true) : ∀ i, i < L.length → ∀ x ∈ (nth L i).es, x.key.length ≤ 1000000 := fun i hi x hx => by
  have h2 := (tfew_nd h (k := i) (by rw [pln_len]; exact hi)).2.2 x (by rw [pln_nth hi]; exact hx)
  omega
def entN (co : Int) (ns : List Nd) (key : List UInt8) : TEnt := nth (nth ns (lastN (pathN co ns key).1)).es (pathN co ns key).2.1
end Gx
namespace Go.Proofs
open Go Go.RowKit Gx
set_option linter.unusedVariables false
set_option linter.unusedSimpArgs false
attribute [local irreducible] Go.Calls Gx.S Gx.O Gx.D Gx.OpP Gx.OpQ Gx.OpH
set_option maxRecDepth 20000
theorem fn_15 : isFn Tryz.prog 15 = true := by kernel_rfl
theorem fn_43 : isFn Tryz.prog 43 = true := by kernel_rfl
theorem c15 (w : World) (x : TEnt) : Calls Tryz.prog 15 #[.agg #[.string (bs x.key), .string (bs x.val)]] w fun en w' => en = .returned (.bool (tslimB x)) ∧ Below w.heap.size w w' := by
 refine enter (args := [_]) Tryz.func15 Tryz.ntmps15 rfl rfl (HS.refl w []) ?_
 iterate 2 refine aS ?_
 refine oBx fun b1 _ => ?_
 iterate 6 refine aS ?_
 refine o_p (p_len_str rfl rfl Tryz.underlying9) rfl ?_
 iterate 2 refine aS ?_
 refine o_and 5 7 12 _ _ rfl
  (by
   intro hg2
   have hs3 := hg2; try simp only [decide_eq_true_eq] at hs3
   refine oOn 7 hg2 ?_
   refine aS ?_
   refine oOn 7 hg2 ?_
   refine aS ?_
   refine oOn 7 hg2 ?_
   refine o_p (p_len_str rfl rfl Tryz.underlying9) rfl ?_
   refine oOn 7 hg2 ?_
   refine aS ?_
   refine o_p (p_pickt rfl rfl hg2 rfl) rfl ?_
   refine aS ?_
   exact oJn 5 12)
  (by
   intro hg4
   have hs5 := hg4; try simp only [decide_eq_false_iff_not] at hs5
   refine oOf 7 hg4 ?_
   refine oOf 7 hg4 ?_
   refine oOf 7 hg4 ?_
   refine oOf 7 hg4 ?_
   refine o_p (p_pickf rfl rfl hg4 rfl) rfl ?_
   refine aS ?_
   exact oJn 5 12) ?_
 iterate 2 refine aS ?_
 exact s_retv (rs := [.tmp 2]) rfl (.tmp rfl (.nil)) (fun w' h' => ⟨by simp only [retV, tslimB, Bool.decide_and]; congr 3 <;> exact decide_eq_decide.2 (by omega), h'.below⟩)
theorem c43 (w : World) (a : Option Addr) (cap : Nat) (l : List TEnt) (hs : Rw TEnt.vals 2 w [] a l) (hl : l.length ≤ 1000) : Calls Tryz.prog 43 #[.slice a l.length cap] w fun en w' => en = .returned (.bool (tshortB l)) ∧ Below w.heap.size w w' := by
 refine enter (args := [_]) Tryz.func43 Tryz.ntmps43 rfl rfl (HS.refl w []) ?_
 iterate 10 refine aS ?_
 refine s_loopI (α := Nat) [2, 3, 4, 5, 6, 7, 8, 9, 10, 11, 12, 13, 14, 15] (fun k => [(3, .int .i64 (k : Int))]) (fun _ => HS w [] []) (fun k => k ≤ l.length ∧ ∀ q, q < k → tslimB (nth l q) = true) (fun k => l.length - k) 0 ⟨Nat.zero_le _, fun q h => absurd h (Nat.not_lt_zero q)⟩ aSx (fun w h => h.ent aEt) (fun k hx => ?_)
 obtain ⟨hk1, hk3⟩ := hx
 iterate 8 refine aS ?_
 refine s_cond rfl (fun h1 => ?_) fun h1 => ?_
 ·try simp only [decide_eq_true_eq] at h1
  have hk5 : k < l.length := by omega
  iterate 7 refine aS ?_
  refine o_p (p_indexAddr rfl rfl rfl sl_77 (k) (by omega) (by omega) (Rw.some hs (by omega))) rfl ?_
  refine o_q (q_load_oldn _ rfl rfl sz_26 rfl (Rw.rd hs hk5)) rfl ?_
  refine o_q (q_call rfl fn_15 rfl (fun w1 h1 => c15 w1 (nth l k))) rfl ?_
  iterate 2 refine aS ?_
  refine s_cond rfl (fun h2 => ?_) fun h2 => ?_
  ·try simp only [Bool.not_eq_true'] at h2
   have hz1 : ¬ tslimB (nth l k) = true := by have hq := h2; simp [hq]
   have hbad := tshortB_f hk5 hz1
   iterate 4 refine aS ?_
   exact s_retv (rs := [.tmp 2]) rfl (.tmp rfl (.nil)) (fun w' h' => ⟨by rw [hbad]; rfl, h'.below⟩)
  try simp only [Bool.not_eq_false'] at h2
  have hz1 : tslimB (nth l k) = true := by have hq := h2; simpa using hq
  iterate 5 refine aS ?_
  try refine oWr ?_
  iterate 2 refine aS ?_
  exact s_backI (k + 1) (by omega) ⟨by omega, fun q hq => (Nat.lt_or_ge q k).elim (hk3 q) (fun h9 => by obtain rfl : q = k := (by omega); exact hz1)⟩ aSx (fun w h => h.ent aEt)
 try simp only [decide_eq_false_iff_not] at h1
 have hall := tshortB_t (es := l) (fun q hq => hk3 q (by omega))
 refine s_exit_to rfl ?_
 iterate 4 refine aS ?_
 exact s_retv (rs := [.tmp 2]) rfl (.tmp rfl (.nil)) (fun w' h' => ⟨by rw [hall]; rfl, h'.below⟩)
theorem c14 (w : World) (co mo rm : Int) (a : Option Addr) (cap : Nat) (L : List LNd) (hs : Nt w [] a L) : Calls Tryz.prog 14 #[.agg #[.int .i64 co, .int .i64 mo, .int .i64 rm, .slice a L.length cap]] w fun en w' => en = .returned (.bool (tfewB (pln L))) ∧ Below w.heap.size w w' := by
 have hnl : (pln L).length = L.length := pln_len L
 refine enter (args := [_]) Tryz.func14 Tryz.ntmps14 rfl rfl (HS.refl w []) ?_
 iterate 2 refine aS ?_
 refine oBx fun b1 _ => ?_
 iterate 10 refine aS ?_
 refine o_and 5 8 13 _ _ rfl
  (by
   intro hg2
   have hs3 := hg2; try simp only [decide_eq_true_eq] at hs3
   refine oOn 8 hg2 ?_
   refine aS ?_
   refine oOn 8 hg2 ?_
   refine aS ?_
   refine oOn 8 hg2 ?_
   refine aS ?_
   refine oOn 8 hg2 ?_
   refine aS ?_
   refine o_p (p_pickt rfl rfl hg2 rfl) rfl ?_
   refine aS ?_
   exact oJn 5 13)
  (by
   intro hg4
   have hs5 := hg4; try simp only [decide_eq_false_iff_not] at hs5
   refine oOf 8 hg4 ?_
   refine oOf 8 hg4 ?_
   refine oOf 8 hg4 ?_
   refine oOf 8 hg4 ?_
   refine o_p (p_pickf rfl rfl hg4 rfl) rfl ?_
   refine aS ?_
   exact oJn 5 13) ?_
 refine aS ?_
 refine o_or 5 14 19 _ _ rfl
  (by
   intro hg6
   have hs7 := hg6; try simp only [Bool.and_eq_false_iff, decide_eq_false_iff_not] at hs7
   refine oOn 14 hg6 ?_
   refine aS ?_
   refine oOn 14 hg6 ?_
   refine aS ?_
   refine oOn 14 hg6 ?_
   refine aS ?_
   refine oOn 14 hg6 ?_
   refine aS ?_
   refine o_p (p_pickf rfl rfl hg6 rfl) rfl ?_
   refine aS ?_
   exact oJn 5 19)
  (by
   intro hg8
   have hs9 := hg8; try simp only [Bool.and_eq_true, decide_eq_true_eq] at hs9
   refine oOf 14 hg8 ?_
   refine oOf 14 hg8 ?_
   refine oOf 14 hg8 ?_
   refine oOf 14 hg8 ?_
   refine o_p (p_pickt rfl rfl hg8 rfl) rfl ?_
   refine aS ?_
   exact oJn 5 19) ?_
 refine aS ?_
 refine s_cond rfl (fun h10 => ?_) fun h10 => ?_
 ·try simp only [Bool.or_eq_true, Bool.and_eq_true, decide_eq_true_eq] at h10
  have hbad := tfewB_n (ns := pln L) (by rw [hnl]; have hq := h10; omega)
  iterate 4 refine aS ?_
  exact s_retv (rs := [.tmp 2]) rfl (.tmp rfl (.nil)) (fun w' h' => ⟨by rw [hbad]; rfl, h'.below⟩)
 try simp only [Bool.or_eq_false_iff, Bool.and_eq_false_iff, decide_eq_false_iff_not] at h10
 have hlen : L.length ≤ 122 ∧ ¬ (60 < L.length ∧ L.length ≤ 120) := by have hq := h10; omega
 iterate 7 refine aS ?_
 refine s_loopI (α := Nat) [2, 3, 20, 21, 22, 23, 24, 25, 26, 27, 28, 29, 30, 31, 32, 33, 34, 35, 36, 37, 38, 39, 40, 41, 42, 43, 44, 45, 46, 47, 48, 49, 50, 51, 52, 53, 54] (fun k => [(3, .int .i64 (k : Int))]) (fun _ => HS w [] [.blk b1 24 4 [.int .i64 co, .int .i64 mo, .int .i64 rm, .slice a L.length cap]]) (fun k => k ≤ L.length ∧ ∀ q, q < k → tfewN (nth (pln L) q) = true) (fun k => L.length - k) 0 ⟨Nat.zero_le _, fun q h => absurd h (Nat.not_lt_zero q)⟩ aSx (fun w h => h.ent aEt) (fun k hx => ?_)
 obtain ⟨hk1, hk3⟩ := hx
 iterate 9 refine aS ?_
 refine s_cond rfl (fun h11 => ?_) fun h11 => ?_
 ·try simp only [decide_eq_true_eq] at h11
  have hk5 : k < L.length := by omega
  have hnk := pln_nth hk5
  iterate 8 refine aS ?_
  refine o_p (p_indexAddr rfl rfl rfl sl_22 (k) (by omega) (by omega) (Rw.some hs.1 (by omega))) rfl ?_
  refine aS ?_
  refine o_q (q_load_old rfl rfl sz_77 ((hs.1.rdj 1 hk5 rfl))) rfl ?_
  iterate 3 refine aS ?_
  refine o_or 9 35 44 _ _ rfl
   (by
    intro hg12
    have hs13 := hg12; try simp only [decide_eq_false_iff_not] at hs13
    refine oOn 35 hg12 ?_
    refine aS ?_
    refine oOn 35 hg12 ?_
    refine aS ?_
    refine oOn 35 hg12 ?_
    refine aS ?_
    refine oOn 35 hg12 ?_
    refine o_p (p_indexAddr rfl rfl rfl sl_22 (k) (by omega) (by omega) (Rw.some hs.1 (by omega))) rfl ?_
    refine oOn 35 hg12 ?_
    refine aS ?_
    refine oOn 35 hg12 ?_
    refine o_q (q_load_old rfl rfl sz_30 ((hs.1.rdj 2 hk5 rfl))) rfl ?_
    refine oOn 35 hg12 ?_
    refine aS ?_
    refine oOn 35 hg12 ?_
    refine aS ?_
    refine o_p (p_pickf rfl rfl hg12 rfl) rfl ?_
    refine aS ?_
    exact oJn 9 44)
   (by
    intro hg14
    have hs15 := hg14; try simp only [decide_eq_true_eq] at hs15
    refine oOf 35 hg14 ?_
    refine oOf 35 hg14 ?_
    refine oOf 35 hg14 ?_
    refine oOf 35 hg14 ?_
    refine oOf 35 hg14 ?_
    refine oOf 35 hg14 ?_
    refine oOf 35 hg14 ?_
    refine oOf 35 hg14 ?_
    refine o_p (p_pickt rfl rfl hg14 rfl) rfl ?_
    refine aS ?_
    exact oJn 9 44) ?_
  refine aS ?_
  refine o_or 9 45 54 _ _ rfl
   (by
    intro hg16
    have hs17 := hg16; try simp only [Bool.or_eq_false_iff, decide_eq_false_iff_not] at hs17
    refine oOn 45 hg16 ?_
    refine aS ?_
    refine oOn 45 hg16 ?_
    refine aS ?_
    refine oOn 45 hg16 ?_
    refine aS ?_
    refine oOn 45 hg16 ?_
    refine o_p (p_indexAddr rfl rfl rfl sl_22 (k) (by omega) (by omega) (Rw.some hs.1 (by omega))) rfl ?_
    refine oOn 45 hg16 ?_
    refine aS ?_
    refine oOn 45 hg16 ?_
    refine o_q (q_load_old rfl rfl sz_77 ((hs.1.rdj 1 hk5 rfl))) rfl ?_
    refine oOn 45 hg16 ?_
    refine o_q (q_call rfl fn_43 rfl (fun w1 h1 => c43 w1 (nth L k).ea (nth L k).ec (nth L k).es ((hs.es hk5).later h1) (by have hq := hg16; omega))) rfl ?_
    refine oOn 45 hg16 ?_
    refine aS ?_
    refine o_p (p_pickf rfl rfl hg16 rfl) rfl ?_
    refine aS ?_
    exact oJn 9 54)
   (by
    intro hg18
    have hs19 := hg18; try simp only [Bool.or_eq_true, decide_eq_true_eq] at hs19
    refine oOf 45 hg18 ?_
    refine oOf 45 hg18 ?_
    refine oOf 45 hg18 ?_
    refine oOf 45 hg18 ?_
    refine oOf 45 hg18 ?_
    refine oOf 45 hg18 ?_
    refine oOf 45 hg18 ?_
    refine oOf 45 hg18 ?_
    refine o_p (p_pickt rfl rfl hg18 rfl) rfl ?_
    refine aS ?_
    exact oJn 9 54) ?_
  refine aS ?_
  refine s_cond rfl (fun h20 => ?_) fun h20 => ?_
  ·try simp only [Bool.or_eq_true, decide_eq_true_eq, Bool.not_eq_true'] at h20
   have hz1 : ¬ tfewN (nth (pln L) k) = true := by rw [hnk]; have hq := h20; exact tfewN_f (hq.imp (fun h9 => by show 10 < (nth L k).es.length ∨ 11 < (nth L k).cs.length; omega) id)
   have hbad := tfewB_f (by rw [hnl]; exact hk5) hz1
   iterate 4 refine aS ?_
   exact s_retv (rs := [.tmp 2]) rfl (.tmp rfl (.nil)) (fun w' h' => ⟨by rw [hbad]; rfl, h'.below⟩)
  try simp only [Bool.or_eq_false_iff, decide_eq_false_iff_not, Bool.not_eq_false'] at h20
  have hz1 : tfewN (nth (pln L) k) = true := by rw [hnk]; have hq := h20; exact tfewN_t (by show (nth L k).es.length ≤ 10; omega) (by show (nth L k).cs.length ≤ 11; omega) hq.2
  iterate 5 refine aS ?_
  try refine oWr ?_
  iterate 2 refine aS ?_
  exact s_backI (k + 1) (by omega) ⟨by omega, fun q hq => (Nat.lt_or_ge q k).elim (hk3 q) (fun h9 => by obtain rfl : q = k := (by omega); exact hz1)⟩ aSx (fun w h => h.ent aEt)
 try simp only [decide_eq_false_iff_not] at h11
 have hall := tfewB_t (ns := pln L) (by rw [hnl]; exact hlen) (fun q hq => hk3 q (by rw [hnl] at hq; omega))
 refine s_exit_to rfl ?_
 iterate 4 refine aS ?_
 exact s_retv (rs := [.tmp 2]) rfl (.tmp rfl (.nil)) (fun w' h' => ⟨by rw [hall]; rfl, h'.below⟩)
theorem fn_14 : isFn Tryz.prog 14 = true := by kernel_rfl
theorem fn_18 : isFn Tryz.prog 18 = true := by kernel_rfl
end Go.Proofs
namespace Gx
set_option linter.unusedSimpArgs false
set_option linter.unusedVariables false
set_option linter.unusedSectionVars false
open Go Go.RowKit
def shA (ns : List Nd) : Nat → Int × Int × Int
  | 0 => (0, 0, 0)
  | k + 1 => if (nth ns k).us = true then ((shA ns k).1 + 1, (shA ns k).2.1 + ((nth ns k).es.length : Int), (shA ns k).2.2) else ((shA ns k).1, (shA ns k).2.1, (shA ns k).2.2 + 1)
def shpV (ns : List Nd) : List Value := [.int .i64 (deepT ns ns.length 0 + 1), .int .i64 (shA ns ns.length).1, .int .i64 (shA ns ns.length).2.1, .int .i64 (shA ns ns.length).2.2]
end Gx
namespace Go.Proofs
open Go Go.RowKit Gx
set_option linter.unusedVariables false
set_option linter.unusedSimpArgs false
attribute [local irreducible] Go.Calls Gx.S Gx.O Gx.D Gx.OpP Gx.OpQ Gx.OpH
set_option maxRecDepth 20000
end Go.Proofs
namespace Gx
open Go Go.RowKit
end Gx
namespace Go.Proofs
open Go Go.RowKit Gx
set_option linter.unusedVariables false
set_option linter.unusedSimpArgs false
attribute [local irreducible] Go.Calls Gx.S Gx.O Gx.D Gx.OpP Gx.OpQ Gx.OpH
set_option maxRecDepth 20000
end Go.Proofs
namespace Gx
set_option linter.unusedSimpArgs false
set_option linter.unusedVariables false
set_option linter.unusedSectionVars false
open Go Go.RowKit
def repN (co : Int) (ns : List Nd) (x : TEnt) : List Nd := esN ns (lastN (pathN co ns x.key).1) ((nth ns (lastN (pathN co ns x.key).1)).es.set (pathN co ns x.key).2.1 x)
end Gx
namespace Go.Proofs
open Go Go.RowKit Gx
set_option linter.unusedVariables false
set_option linter.unusedSimpArgs false
attribute [local irreducible] Go.Calls Gx.S Gx.O Gx.D Gx.OpP Gx.OpQ Gx.OpH
set_option maxRecDepth 20000
end Go.Proofs
namespace Gx
set_option linter.unusedSimpArgs false
set_option linter.unusedVariables false
set_option linter.unusedSectionVars false
open Go Go.RowKit
inductive BT where
  | nd (i : Nat) (es : List TEnt) (ks : List BT)
namespace BT
def idx : BT → Nat | nd i _ _ => i
def es : BT → List TEnt | nd _ es _ => es
def ks : BT → List BT | nd _ _ ks => ks
end BT
instance : Inhabited BT := ⟨.nd 0 [] []⟩
def idxs (ks : List BT) : List Int := ks.map fun k => (k.idx : Int)
theorem idxs_app (a b : List BT) : idxs (a ++ b) = idxs a ++ idxs b := by simp [idxs]
theorem idxs_cons (a : BT) (b : List BT) : idxs (a :: b) = (a.idx : Int) :: idxs b := rfl
theorem idxs_len (a : List BT) : (idxs a).length = a.length := by simp [idxs]
theorem idxs_take (a : List BT) (n : Nat) : idxs (a.take n) = (idxs a).take n := by simp [idxs, List.map_take]
theorem idxs_drop (a : List BT) (n : Nat) : idxs (a.drop n) = (idxs a).drop n := by simp [idxs, List.map_drop]
mutual
def BT.nodes : BT → List (Nat × Nd)
  | .nd i es ks => (i, ⟨true, es, idxs ks⟩) :: nodesL ks
def nodesL : List BT → List (Nat × Nd)
  | [] => []
  | k :: ks => k.nodes ++ nodesL ks
end
mutual
def BT.flat : BT → List TEnt
  | .nd _ es ks => flatL es ks
def flatL : List TEnt → List BT → List TEnt
  | es, [] => es
  | [], k :: ks => k.flat ++ flatL [] ks
  | e :: es, k :: ks => k.flat ++ e :: flatL es ks
end
theorem nodesL_app (a b : List BT) : nodesL (a ++ b) = nodesL a ++ nodesL b := by
  induction a with
  | nil => rfl
  | cons x a ih => rw [List.cons_append, nodesL, nodesL, ih, List.append_assoc]
structure RepN (ns : List Nd) (N : List (Nat × Nd)) : Prop where
  get : ∀ p ∈ N, ns[p.1]? = some p.2
  nd : (N.map Prod.fst).Nodup
  rest : ∀ i, i < ns.length → i ∉ N.map Prod.fst → nth ns i = ⟨false, [], []⟩
section
variable {ns : List Nd} {N N' : List (Nat × Nd)} {i : Nat} {x y : Nd}
theorem RepN.perm (h : RepN ns N) (hp : N.Perm N') : RepN ns N' :=
  ⟨fun p hp' => h.get p (hp.mem_iff.2 hp'), (hp.map _).nodup_iff.1 h.nd, fun i hi hn => h.rest i hi fun hm => hn ((hp.map _).mem_iff.1 hm)⟩
theorem RepN.lt (h : RepN ns N) {p : Nat × Nd} (hp : p ∈ N) : p.1 < ns.length := (List.getElem?_eq_some_iff.1 (h.get p hp)).1
theorem RepN.head (h : RepN ns ((i, x) :: N)) : i < ns.length ∧ nth ns i = x := ⟨h.lt (List.mem_cons_self ..), nth_eq (h.get _ (List.mem_cons_self ..))⟩
theorem RepN.at_ (h : RepN ns N) (hp : (i, x) ∈ N) : i < ns.length ∧ nth ns i = x := ⟨h.lt hp, nth_eq (h.get _ hp)⟩
theorem RepN.set (h : RepN ns ((i, x) :: N)) (y : Nd) : RepN (ns.set i y) ((i, y) :: N) := by
  have hn := List.nodup_cons.1 h.nd
  refine ⟨fun p hp => ?_, h.nd, fun j hj hm => ?_⟩
  · rcases List.mem_cons.1 hp with rfl | hp
    · exact List.getElem?_set_self h.head.1
    · have hne : i ≠ p.1 := fun e => hn.1 (e ▸ List.mem_map.2 ⟨p, hp, rfl⟩)
      rw [List.getElem?_set_ne hne]
      exact h.get p (List.mem_cons_of_mem _ hp)
  · have hne : i ≠ j := fun e => hm (e ▸ List.mem_cons_self ..)
    rw [List.length_set] at hj
    rw [← h.rest j hj hm]
    exact nth_eq (by rw [List.getElem?_set_ne hne]; exact nth_get hj)
theorem RepN.es (h : RepN ns ((i, x) :: N)) (es : List TEnt) : RepN (esN ns i es) ((i, { x with es := es }) :: N) := by
  have := h.set { x with es := es }
  unfold esN
  rw [h.head.2]
  exact this
theorem RepN.cs (h : RepN ns ((i, x) :: N)) (cs : List Int) : RepN (csN ns i cs) ((i, { x with cs := cs }) :: N) := by
  have := h.set { x with cs := cs }
  unfold csN
  rw [h.head.2]
  exact this
theorem RepN.gone (h : RepN ns ((i, x) :: N)) : RepN (ns.set i ⟨false, [], []⟩) N := by
  have h1 := h.set ⟨false, [], []⟩
  have hn := List.nodup_cons.1 h.nd
  refine ⟨fun p hp => h1.get p (List.mem_cons_of_mem _ hp), hn.2, fun j hj hm => ?_⟩
  by_cases e : j = i
  · subst e
    exact h1.head.2
  · exact h1.rest j hj fun hm2 => by
      rcases List.mem_cons.1 hm2 with e2 | hm2
      · exact e e2
      · exact hm hm2
theorem RepN.free (h : RepN ns N) (hu : ∀ p ∈ N, p.2.us = true) : (freN ns).1 ∉ N.map Prod.fst ∧ RepN (freN ns).2 (((freN ns).1, ⟨true, [], []⟩) :: N) := by
  have hnu : (freN ns).1 ∉ N.map Prod.fst := fun hm => by
    obtain ⟨p, hp, e⟩ := List.mem_map.1 hm
    have h1 := h.at_ (i := p.1) (x := p.2) hp
    exact freN_ne h1.1 (by rw [h1.2]; exact hu p hp) e.symm
  refine ⟨hnu, ?_⟩
  have hnd : ((((freN ns).1, (⟨true, [], []⟩ : Nd)) :: N).map Prod.fst).Nodup := List.nodup_cons.2 ⟨hnu, h.nd⟩
  have hget : ∀ p ∈ N, (freN ns).2[p.1]? = some p.2 := fun p hp => by
    have h1 := h.at_ (i := p.1) (x := p.2) hp
    have h2 := freN_nth h1.1 (by rw [h1.2]; exact hu p hp)
    rw [nth_get (Nat.lt_of_lt_of_le h1.1 (freN_len ns).1), h2, h1.2]
  have hown : nth (freN ns).2 (freN ns).1 = ⟨true, [], []⟩ := by
    unfold freN at hnu ⊢
    split
    · rename_i hlt
      rw [if_pos hlt] at hnu
      simp only [] at hnu ⊢
      unfold usN
      rw [h.rest _ hlt hnu]
      exact nth_eq (List.getElem?_set_self hlt)
    · exact nth_eq (by simp)
  refine ⟨fun p hp => ?_, hnd, fun j hj hm => ?_⟩
  · rcases List.mem_cons.1 hp with rfl | hp
    · rw [nth_get (freN_lt ns), hown]
    · exact hget p hp
  · have hne : (freN ns).1 ≠ j := fun e => hm (e ▸ List.mem_cons_self ..)
    have hm2 : j ∉ N.map Prod.fst := fun h9 => hm (List.mem_cons_of_mem _ h9)
    unfold freN at hj hne ⊢
    split
    · rename_i hlt
      rw [if_pos hlt] at hj hne
      simp only [usN_len] at hj hne ⊢
      rw [← h.rest j hj hm2]
      exact nth_eq (by unfold usN; rw [List.getElem?_set_ne hne]; exact nth_get hj)
    · rename_i hlt
      rw [if_neg hlt] at hj hne
      simp only [List.length_append, List.length_singleton] at hj hne ⊢
      have hj2 : j < ns.length := by omega
      rw [← h.rest j hj2 hm2]
      exact nth_eq (by rw [List.getElem?_append_left hj2]; exact nth_get hj2)
end
def kidsOf (N : List (Nat × Nd)) : List Int := N.flatMap fun p => p.2.cs
theorem kidsOf_app (A B : List (Nat × Nd)) : kidsOf (A ++ B) = kidsOf A ++ kidsOf B := List.flatMap_append
theorem kidsOf_cons (p : Nat × Nd) (B : List (Nat × Nd)) : kidsOf (p :: B) = p.2.cs ++ kidsOf B := List.flatMap_cons
theorem ixB_none {cs : List Int} {n : Int} (h : n ∉ cs) : ¬ ixB (hasC cs n) < cs.length := fun hl => by
  have h1 : (hasC cs n).getD (ixB (hasC cs n)) false = true := ixB_true (by rw [hasC_len]; exact hl)
  rw [hasC_get hl] at h1
  refine h (of_decide_eq_true h1 ▸ ?_)
  rw [List.getD_eq_getElem?_getD, List.getElem?_eq_getElem hl]
  exact List.getElem_mem hl
theorem ixB_app {A B : List Int} {n : Int} (h : n ∉ A) : ixB (hasC (A ++ n :: B) n) = A.length := by
  induction A with
  | nil =>
    show ixB (decide (n = n) :: _) = 0
    simp [ixB]
  | cons a A ih =>
    have h1 : n ≠ a := fun e => h (e ▸ List.mem_cons_self ..)
    show ixB (decide (n = a) :: hasC (A ++ n :: B) n) = _
    rw [decide_eq_false h1]
    simp only [ixB, List.length_cons]
    rw [ih fun hm => h (List.mem_cons_of_mem _ hm)]
    first | rfl | simp
theorem parN_at {i : Nat} : ∀ {l : List Nd} {s p : Nat} {A B : List Int}, p < l.length → (nth l p).cs = A ++ (i : Int) :: B → (i : Int) ∉ A → (∀ j, j < p → (i : Int) ∉ (nth l j).cs) → parN i l s = (s + p, A.length)
  | [], s, p, A, B, hp, _, _, _ => absurd hp (Nat.not_lt_zero _)
  | n :: l, s, 0, A, B, hp, he, hA, _ => by
    have e : n.cs = A ++ (i : Int) :: B := he
    rw [parN, e, ixB_app hA, if_pos (by simp)]
    rfl
  | n :: l, s, p + 1, A, B, hp, he, hA, hn => by
    have hn0 : (i : Int) ∉ n.cs := hn 0 (Nat.succ_pos _)
    rw [parN, if_neg (ixB_none hn0), parN_at (l := l) (s := s + 1) (p := p) (by simpa using hp) he hA fun j hj => hn (j + 1) (by omega)]
    congr 1
    omega
theorem RepN.par {ns : List Nd} {N : List (Nat × Nd)} {p i : Nat} {x : Nd} {A B : List Int} (h : RepN ns ((p, x) :: N)) (hk : (kidsOf ((p, x) :: N)).Nodup) (he : x.cs = A ++ (i : Int) :: B) : parN i ns 0 = (p, A.length) := by
  rw [kidsOf_cons, he] at hk
  have h1 := List.nodup_append.1 hk
  have hA : (i : Int) ∉ A := fun hm => (List.nodup_append.1 h1.1).2.2 _ hm _ (List.mem_cons_self ..) rfl
  have h2 := h.head
  have := parN_at (i := i) (l := ns) (s := 0) (p := p) h2.1 (by rw [h2.2]; exact he) hA fun j hj hm => by
    by_cases hjm : j ∈ N.map Prod.fst
    · obtain ⟨q, hq, e⟩ := List.mem_map.1 hjm
      have h3 := h.at_ (i := q.1) (x := q.2) (List.mem_cons_of_mem _ hq)
      rw [e] at h3
      rw [h3.2] at hm
      exact h1.2.2 (i : Int) (by simp) (i : Int) (List.mem_flatMap.2 ⟨q, hq, hm⟩) rfl
    · have h3 := h.rest j (by omega) (fun h9 => by
        rcases List.mem_cons.1 h9 with e | h9
        · have : j = p := e
          omega
        · exact hjm h9)
      rw [h3] at hm
      cases hm
  rw [this, Nat.zero_add]
mutual
theorem kids_nodes : ∀ T : BT, (((T.idx : Nat) : Int) :: kidsOf T.nodes).Perm (T.nodes.map fun p => ((p.1 : Nat) : Int))
  | .nd i es ks => by
    rw [BT.nodes, kidsOf_cons, List.map_cons]
    exact List.Perm.cons _ (kids_nodesL ks)
theorem kids_nodesL : ∀ ks : List BT, (idxs ks ++ kidsOf (nodesL ks)).Perm ((nodesL ks).map fun p => ((p.1 : Nat) : Int))
  | [] => .refl _
  | k :: ks => by
    rw [nodesL, kidsOf_app, List.map_append, idxs_cons, List.cons_append]
    have h1 := kids_nodes k
    have h2 := kids_nodesL ks
    have h3 : ((k.idx : Int) :: (idxs ks ++ (kidsOf k.nodes ++ kidsOf (nodesL ks)))).Perm (((k.idx : Int) :: kidsOf k.nodes) ++ (idxs ks ++ kidsOf (nodesL ks))) := by
      rw [List.cons_append]
      refine List.Perm.cons _ ?_
      rw [← List.append_assoc, ← List.append_assoc]
      exact List.perm_append_comm.append_right _
    exact h3.trans (h1.append h2)
end
theorem nd_int {l : List (Nat × Nd)} (h : (l.map Prod.fst).Nodup) : (l.map fun p => ((p.1 : Nat) : Int)).Nodup := by
  have e : (l.map fun p => ((p.1 : Nat) : Int)) = (l.map Prod.fst).map fun n : Nat => (n : Int) := by simp
  rw [e]
  exact List.Pairwise.map _ (fun a b hab e => hab (by omega)) h
theorem kids_nodup {T : BT} (h : (T.nodes.map Prod.fst).Nodup) : (kidsOf T.nodes).Nodup := (List.nodup_cons.1 ((kids_nodes T).nodup_iff.2 (nd_int h))).2
mutual
theorem nodes_us : ∀ T : BT, ∀ p ∈ T.nodes, p.2.us = true
  | .nd i es ks => fun p hp => by
    rw [BT.nodes] at hp
    rcases List.mem_cons.1 hp with rfl | hp
    · rfl
    · exact nodesL_us ks p hp
theorem nodesL_us : ∀ ks : List BT, ∀ p ∈ nodesL ks, p.2.us = true
  | [] => fun p hp => (nomatch hp)
  | k :: ks => fun p hp => by
    rw [nodesL] at hp
    rcases List.mem_append.1 hp with hp | hp
    · exact nodes_us k p hp
    · exact nodesL_us ks p hp
end
structure Fr where
  i : Nat
  es : List TEnt
  l : List BT
  r : List BT
instance : Inhabited Fr := ⟨⟨0, [], [], []⟩⟩
def Fr.fill (f : Fr) (T : BT) : BT := .nd f.i f.es (f.l ++ T :: f.r)
def plug : List Fr → BT → BT
  | [], T => T
  | f :: C, T => plug C (f.fill T)
def Fr.nodes (f : Fr) (h : Nat) : List (Nat × Nd) := (f.i, ⟨true, f.es, idxs f.l ++ (h : Int) :: idxs f.r⟩) :: (nodesL f.l ++ nodesL f.r)
def ctxNodes : List Fr → Nat → List (Nat × Nd)
  | [], _ => []
  | f :: C, h => f.nodes h ++ ctxNodes C f.i
theorem fill_nodes (f : Fr) (T : BT) : (f.fill T).nodes.Perm (f.nodes T.idx ++ T.nodes) := by
  unfold Fr.fill Fr.nodes
  rw [BT.nodes, nodesL_app, nodesL, idxs_app, idxs_cons, List.cons_append]
  refine List.Perm.cons _ ?_
  rw [List.append_assoc]
  exact List.Perm.append_left _ List.perm_append_comm
theorem plug_nodes : ∀ (C : List Fr) (T : BT), (plug C T).nodes.Perm (ctxNodes C T.idx ++ T.nodes)
  | [], T => .refl _
  | f :: C, T => by
    refine (plug_nodes C (f.fill T)).trans ?_
    show (ctxNodes C f.i ++ (f.fill T).nodes).Perm (f.nodes T.idx ++ ctxNodes C f.i ++ T.nodes)
    refine ((fill_nodes f T).append_left _).trans ?_
    rw [← List.append_assoc]
    exact List.perm_append_comm.append_right _
theorem plug_app (C D : List Fr) (T : BT) : plug (C ++ D) T = plug D (plug C T) := by
  induction C generalizing T with
  | nil => rfl
  | cons f C ih => exact ih _
def RepT (ns : List Nd) (T : BT) : Prop := RepN ns T.nodes
theorem RepT.plug {ns : List Nd} {C : List Fr} {T : BT} (h : RepT ns (plug C T)) : RepN ns (ctxNodes C T.idx ++ T.nodes) := RepN.perm h (plug_nodes C T)
theorem RepT.of_plug {ns : List Nd} {C : List Fr} {T : BT} (h : RepN ns (ctxNodes C T.idx ++ T.nodes)) : RepT ns (Gx.plug C T) := RepN.perm h (plug_nodes C T).symm
theorem RepT.us {ns : List Nd} {T : BT} (h : RepT ns T) : ∀ p ∈ T.nodes, p.2.us = true := nodes_us T
theorem RepT.at_ {ns : List Nd} {C : List Fr} {T : BT} (h : RepT ns (Gx.plug C T)) : T.idx < ns.length ∧ nth ns T.idx = ⟨true, T.es, idxs T.ks⟩ := by
  cases T with
  | nd i es ks => exact RepN.at_ h.plug (List.mem_append_right _ (by rw [BT.nodes]; exact List.mem_cons_self ..))
theorem RepT.par {ns : List Nd} {f : Fr} {C : List Fr} {T : BT} (h : RepT ns (Gx.plug (f :: C) T)) : parN (T.idx : Int) ns 0 = (f.i, f.l.length) := by
  have hk : (kidsOf (ctxNodes (f :: C) T.idx ++ T.nodes)).Nodup := by
    have h1 := kids_nodup (T := Gx.plug (f :: C) T) h.nd
    exact ((plug_nodes (f :: C) T).flatMap_right _).nodup_iff.1 h1
  have h2 := RepN.par (A := idxs f.l) (i := T.idx) (B := idxs f.r) h.plug hk rfl
  rw [h2, idxs_len]
theorem perm_ct {α : Type} [BEq α] [LawfulBEq α] {a b : List α} (h : ∀ x, a.count x = b.count x) : a.Perm b := List.perm_iff_count.2 h
theorem ct_split {α : Type} [BEq α] (l : List α) (n : Nat) (x : α) : l.count x = (l.take n).count x + (l.drop n).count x := by
  rw [← List.count_append, List.take_append_drop]
theorem nodesL_split (ks : List BT) (n : Nat) : nodesL ks = nodesL (ks.take n) ++ nodesL (ks.drop n) := by
  rw [← nodesL_app, List.take_append_drop]
theorem insAt_idxs (l r : List BT) (i own : Nat) : insAt (idxs l ++ (i : Int) :: idxs r) (l.length + 1) (own : Int) = idxs l ++ (i : Int) :: (own : Int) :: idxs r := by
  unfold insAt
  rw [List.take_append, List.drop_append, idxs_len, List.take_of_length_le (by rw [idxs_len]; omega), List.drop_of_length_le (by rw [idxs_len]; omega), show l.length + 1 - l.length = 1 by omega]
  simp
section
variable {ns : List Nd} {mo rm : Int} {f : Fr} {C : List Fr} {i : Nat} {es : List TEnt} {ks : List BT}
theorem rep_kids {T : BT} (h : RepT ns T) : (kidsOf T.nodes).Nodup := kids_nodup h.nd
theorem rep_splA (h : RepT ns (plug C (.nd i es ks))) : (freN ns).1 ∉ (plug C (.nd i es ks)).nodes.map Prod.fst ∧
    RepN (splA mo ns i) ((i, ⟨true, es.take (splM mo), (idxs ks).take (splM mo + 1)⟩) :: ((freN ns).1, ⟨true, es.drop (splM mo + 1), (idxs ks).drop (splM mo + 1)⟩) :: (ctxNodes C i ++ nodesL ks)) := by
  have hf := RepN.free h (nodes_us _)
  refine ⟨hf.1, ?_⟩
  have h1 := hf.2.perm (N' := ((freN ns).1, ⟨true, [], []⟩) :: (i, ⟨true, es, idxs ks⟩) :: (ctxNodes C i ++ nodesL ks)) (List.Perm.cons _ ((plug_nodes C (.nd i es ks)).trans (by
    show (ctxNodes C i ++ (BT.nd i es ks).nodes).Perm _
    rw [BT.nodes]
    exact List.perm_middle)))
  have h2 := h1.perm (List.Perm.swap ..)
  have hi := h2.head
  have h3 := ((h1.es (es.drop (splM mo + 1))).perm (List.Perm.swap ..)).es (es.take (splM mo))
  unfold splA
  rw [hi.2]
  simp only []
  split
  · rename_i h0
    have h0' : idxs ks = [] := List.eq_nil_of_length_eq_zero h0
    rw [h0'] at h3
    rw [h0', List.take_nil, List.drop_nil]
    exact h3
  · have h4 := (h3.perm (List.Perm.swap ..)).cs ((idxs ks).drop (splM mo + 1))
    exact (h4.perm (List.Perm.swap ..)).cs ((idxs ks).take (splM mo + 1))
theorem splA_kids (h : RepT ns (plug C (.nd i es ks))) : (kidsOf ((i, (⟨true, es.take (splM mo), (idxs ks).take (splM mo + 1)⟩ : Nd)) :: ((freN ns).1, ⟨true, es.drop (splM mo + 1), (idxs ks).drop (splM mo + 1)⟩) :: (ctxNodes C i ++ nodesL ks))).Nodup := by
  have h1 := ((plug_nodes C (.nd i es ks)).flatMap_right (fun p : Nat × Nd => p.2.cs)).nodup_iff.1 (rep_kids h)
  refine (List.Perm.nodup_iff ?_).1 h1
  rw [BT.nodes]
  show (kidsOf (ctxNodes C i ++ (i, ⟨true, es, idxs ks⟩) :: nodesL ks)).Perm _
  refine perm_ct fun x => ?_
  simp only [kidsOf_cons, kidsOf_app, List.count_append, ct_split (idxs ks) (splM mo + 1) x]
  omega
theorem rep_split (h : RepT ns (plug (f :: C) (.nd i es ks))) :
    (freN ns).1 ∉ (plug (f :: C) (.nd i es ks)).nodes.map Prod.fst ∧ parN (i : Int) (splA mo ns i) 0 = (f.i, f.l.length) ∧
    RepT (splN mo ns i) (plug C (.nd f.i (insAt f.es f.l.length (nth es (splM mo))) (f.l ++ .nd i (es.take (splM mo)) (ks.take (splM mo + 1)) :: .nd (freN ns).1 (es.drop (splM mo + 1)) (ks.drop (splM mo + 1)) :: f.r))) := by
  obtain ⟨h0, h1⟩ := rep_splA (mo := mo) h
  have hk := splA_kids (mo := mo) h
  have hp : (((i, (⟨true, es.take (splM mo), (idxs ks).take (splM mo + 1)⟩ : Nd)) :: ((freN ns).1, ⟨true, es.drop (splM mo + 1), (idxs ks).drop (splM mo + 1)⟩) :: (ctxNodes (f :: C) i ++ nodesL ks))).Perm
      ((f.i, ⟨true, f.es, idxs f.l ++ (i : Int) :: idxs f.r⟩) :: (i, (⟨true, es.take (splM mo), (idxs ks).take (splM mo + 1)⟩ : Nd)) :: ((freN ns).1, ⟨true, es.drop (splM mo + 1), (idxs ks).drop (splM mo + 1)⟩) :: (nodesL f.l ++ nodesL f.r ++ ctxNodes C f.i ++ nodesL ks)) := by
    refine perm_ct fun x => ?_
    simp only [ctxNodes, Fr.nodes, List.count_append, List.count_cons, List.cons_append]
    omega
  have h2 := h1.perm hp
  have hpar := h2.par ((hp.flatMap_right (fun p : Nat × Nd => p.2.cs)).nodup_iff.1 hk) rfl
  rw [idxs_len] at hpar
  refine ⟨h0, hpar, ?_⟩
  unfold splN
  rw [hpar]
  have hi : nth (nth (freN ns).2 i).es (splM mo) = nth es (splM mo) := by
    have h4 : i < ns.length ∧ nth ns i = ⟨true, es, idxs ks⟩ := RepT.at_ (T := .nd i es ks) h
    rw [freN_nth h4.1 (by rw [h4.2]), h4.2]
  rw [hi]
  unfold addP
  simp only []
  have h5 := h2.head
  have h6 := (h2.es (insAt f.es f.l.length (nth es (splM mo)))).cs (insAt (idxs f.l ++ (i : Int) :: idxs f.r) (f.l.length + 1) ((freN ns).1 : Int))
  rw [insAt_idxs] at h6
  rw [h5.2]
  simp only []
  rw [insAt_idxs]
  refine RepT.of_plug (h6.perm ?_)
  show List.Perm _ (ctxNodes C f.i ++ BT.nodes _)
  rw [BT.nodes, nodesL_app, nodesL, nodesL, BT.nodes, BT.nodes, idxs_app, idxs_cons, idxs_cons, idxs_take, idxs_drop]
  refine perm_ct fun x => ?_
  simp only [List.count_append, List.count_cons, List.cons_append, nodesL_split ks (splM mo + 1), BT.idx]
  omega
end
theorem rep_low {ns : List Nd} {es : List TEnt} {ks : List BT} (h : RepT ns (.nd 0 es ks)) : (freN ns).1 ∉ (BT.nd 0 es ks).nodes.map Prod.fst ∧ RepT (lowN ns).2 (.nd 0 [] [.nd (freN ns).1 es ks]) := by
  have hf := RepN.free h (nodes_us _)
  refine ⟨hf.1, ?_⟩
  have h0 := RepT.at_ (C := []) h
  unfold lowN
  rw [show nth ns 0 = nth ns (BT.nd 0 es ks).idx from rfl, h0.2]
  simp only [BT.es, BT.ks]
  have h1 : RepN (freN ns).2 (((freN ns).1, ⟨true, [], []⟩) :: (0, ⟨true, es, idxs ks⟩) :: nodesL ks) := by
    have := hf.2
    rw [BT.nodes] at this
    exact this
  have h2 := (((h1.es es).cs (idxs ks)).perm (List.Perm.swap ..)).es []
  have h3 := h2.cs [((freN ns).1 : Int)]
  refine RepN.perm h3 ?_
  rw [BT.nodes, nodesL, BT.nodes, nodesL, List.append_nil]
  exact .refl _
def Bal (lo hi : Nat) : Nat → BT → Prop
  | 0, T => T.ks = [] ∧ lo ≤ T.es.length ∧ T.es.length ≤ hi
  | d + 1, T => (T.ks.length = T.es.length + 1 ∧ ∀ k ∈ T.ks, Bal lo hi d k) ∧ lo ≤ T.es.length ∧ T.es.length ≤ hi
def Bel (lo hi : Nat) : Nat → BT → Prop
  | 0, T => T.ks = []
  | d + 1, T => T.ks.length = T.es.length + 1 ∧ ∀ k ∈ T.ks, Bal lo hi d k
theorem bal_iff {lo hi d : Nat} {T : BT} : Bal lo hi d T ↔ Bel lo hi d T ∧ lo ≤ T.es.length ∧ T.es.length ≤ hi := by
  cases d <;> simp only [Bal, Bel]
theorem Bel.cs {lo hi d : Nat} {T : BT} (h : Bel lo hi d T) : T.ks = [] ∨ T.ks.length = T.es.length + 1 := by
  cases d with
  | zero => exact .inl h
  | succ d => exact .inr h.1
theorem Bel.leaf {lo hi d : Nat} {T : BT} (h : Bel lo hi d T) (hk : T.ks = []) : d = 0 := by
  cases d with
  | zero => rfl
  | succ d =>
    have := h.1
    rw [hk] at this
    simp at this
def CtxOk (lo hi rt : Nat) : Nat → List Fr → Prop
  | _, [] => True
  | d, f :: C => ((∀ k ∈ f.l, Bal lo hi d k) ∧ (∀ k ∈ f.r, Bal lo hi d k)) ∧ f.l.length + f.r.length = f.es.length ∧ ((C = [] → f.es.length ≤ rt) ∧ (C ≠ [] → lo ≤ f.es.length ∧ f.es.length ≤ hi)) ∧ CtxOk lo hi rt (d + 1) C
theorem bel_fill {lo hi rt d : Nat} {f : Fr} {C : List Fr} {T : BT} (hC : CtxOk lo hi rt d (f :: C)) (h : Bal lo hi d T) : Bel lo hi (d + 1) (f.fill T) := by
  refine ⟨?_, fun k hk => ?_⟩
  · show (f.l ++ T :: f.r).length = f.es.length + 1
    have := hC.2.1
    simp only [List.length_append, List.length_cons]
    omega
  · rcases List.mem_append.1 hk with hk | hk
    · exact hC.1.1 k hk
    · rcases List.mem_cons.1 hk with rfl | hk
      · exact h
      · exact hC.1.2 k hk
theorem flatL_nil (es : List TEnt) : flatL es [] = es := by cases es <;> rfl
theorem flat_leaf (i : Nat) (es : List TEnt) : (BT.nd i es []).flat = es := by rw [BT.flat, flatL_nil]
def flatA : List TEnt → List BT → List TEnt
  | e :: es, k :: ks => k.flat ++ e :: flatA es ks
  | _, _ => []
def flatZ : List TEnt → List BT → List TEnt
  | e :: es, k :: ks => e :: (k.flat ++ flatZ es ks)
  | _, _ => []
theorem flatL_first : ∀ (es : List TEnt) (T : BT) (r : List BT), r.length = es.length → flatL es (T :: r) = T.flat ++ flatZ es r
  | [], T, [], _ => by
    rw [flatL, flatL_nil]
    rfl
  | [], T, k :: r, h => absurd h (by simp)
  | e :: es, T, [], h => absurd h (by simp)
  | e :: es, T, k :: r, h => by
    rw [flatL, flatL_first es k r (by simpa using h)]
    rfl
theorem flatL_mid : ∀ (l : List BT) (es : List TEnt) (T : BT) (r : List BT), l.length + r.length = es.length → flatL es (l ++ T :: r) = flatA es l ++ (T.flat ++ flatZ (es.drop l.length) r)
  | [], es, T, r, h => by
    have e : flatA es [] = [] := by cases es <;> rfl
    rw [e]
    exact flatL_first es T r (by simpa using h)
  | k :: l, [], T, r, h => absurd h (by simp only [List.length_cons, List.length_nil]; omega)
  | k :: l, e :: es, T, r, h => by
    rw [List.cons_append, flatL, flatL_mid l es T r (by simp only [List.length_cons] at h; omega), flatA, List.length_cons, List.drop_succ_cons]
    simp only [List.append_assoc, List.cons_append]
theorem flatA_app : ∀ (a b : List TEnt) (l : List BT), l.length ≤ a.length → flatA (a ++ b) l = flatA a l
  | a, b, [], _ => by
    have e : ∀ c : List TEnt, flatA c [] = [] := fun c => by cases c <;> rfl
    rw [e, e]
  | [], b, k :: l, h => absurd h (by simp)
  | x :: a, b, k :: l, h => by
    rw [List.cons_append, flatA, flatA, flatA_app a b l (by simpa using h)]
theorem flatA_take {es : List TEnt} {l : List BT} (h : l.length ≤ es.length) : flatA (es.take l.length) l = flatA es l := by
  have := flatA_app (es.take l.length) (es.drop l.length) l (by rw [List.length_take]; omega)
  rw [List.take_append_drop] at this
  exact this.symm
theorem flatL_ins {l r : List BT} {es : List TEnt} {A B : BT} {up : TEnt} (h : l.length + r.length = es.length) : flatL (insAt es l.length up) (l ++ A :: B :: r) = flatA es l ++ ((A.flat ++ up :: B.flat) ++ flatZ (es.drop l.length) r) := by
  have hl : (es.take l.length).length = l.length := by rw [List.length_take]; omega
  rw [flatL_mid l _ A (B :: r) (by rw [ins_len (by omega), List.length_cons]; omega)]
  unfold insAt
  rw [flatA_app _ _ _ (by omega), flatA_take (by omega), List.drop_append, List.drop_of_length_le (by omega : (es.take l.length).length ≤ l.length), hl, Nat.sub_self, List.nil_append, List.drop_zero]
  show flatA es l ++ (A.flat ++ (up :: (B.flat ++ flatZ (es.drop l.length) r))) = _
  simp only [List.append_assoc, List.cons_append]
theorem flatL_split : ∀ (m : Nat) (es : List TEnt) (ks : List BT), m < es.length → (ks = [] ∨ ks.length = es.length + 1) → flatL (es.take m) (ks.take (m + 1)) ++ nth es m :: flatL (es.drop (m + 1)) (ks.drop (m + 1)) = flatL es ks
  | m, es, [], h, _ => by
    rw [List.take_nil, List.drop_nil, flatL_nil, flatL_nil, flatL_nil]
    have e : nth es m = es[m] := nth_eq (List.getElem?_eq_getElem h)
    rw [e, ← List.drop_eq_getElem_cons h, List.take_append_drop]
  | m, [], k :: ks, h, _ => absurd h (by simp)
  | 0, e :: es, k :: ks, h, h2 => by
    rw [List.take_zero, List.take_succ_cons, List.take_zero, flatL, flatL_nil, List.drop_succ_cons, List.drop_zero, List.drop_succ_cons, List.drop_zero, flatL, List.append_nil]
    rfl
  | m + 1, e :: es, k :: ks, h, h2 => by
    have hk : ks.length = es.length + 1 := by
      rcases h2 with h2 | h2
      · cases h2
      · simpa using h2
    rw [List.take_succ_cons, List.take_succ_cons, flatL, List.drop_succ_cons, List.drop_succ_cons, flatL]
    have := flatL_split m es ks (by simpa using h) (.inr hk)
    show k.flat ++ e :: flatL (es.take m) (ks.take (m + 1)) ++ nth es m :: flatL (es.drop (m + 1)) (ks.drop (m + 1)) = _
    rw [← this]
    simp only [List.append_assoc, List.cons_append]
def preC : List Fr → List TEnt
  | [] => []
  | f :: C => preC C ++ flatA f.es f.l
def sufC : List Fr → List TEnt
  | [] => []
  | f :: C => flatZ (f.es.drop f.l.length) f.r ++ sufC C
theorem plug_flat {lo hi rt : Nat} : ∀ {C : List Fr} {d : Nat} {T : BT}, CtxOk lo hi rt d C → (plug C T).flat = preC C ++ (T.flat ++ sufC C)
  | [], d, T, _ => by
    show T.flat = [] ++ (T.flat ++ [])
    simp
  | f :: C, d, T, hC => by
    show (plug C (f.fill T)).flat = _
    rw [plug_flat (C := C) hC.2.2.2]
    show preC C ++ ((BT.nd f.i f.es (f.l ++ T :: f.r)).flat ++ sufC C) = _
    rw [BT.flat, flatL_mid f.l f.es T f.r hC.2.1]
    simp only [preC, sufC, List.append_assoc]
theorem plug_idx : ∀ (C : List Fr) (T T' : BT), T.idx = T'.idx → (plug C T).idx = (plug C T').idx
  | [], T, T', h => h
  | f :: C, T, T', _ => plug_idx C (f.fill T) (f.fill T') rfl
theorem root_in : ∀ (C : List Fr) (T : BT) (h : Nat), C ≠ [] → (plug C T).idx ∈ (ctxNodes C h).map Prod.fst
  | [], T, h, hne => absurd rfl hne
  | [f], T, h, _ => by
    show f.i ∈ _
    simp [ctxNodes, Fr.nodes]
  | f :: g :: C, T, h, _ => by
    have := root_in (g :: C) (f.fill T) f.i (by simp)
    show (plug (g :: C) (f.fill T)).idx ∈ _
    rw [ctxNodes, List.map_append]
    exact List.mem_append_right _ this
theorem BT.idx_mem (T : BT) : T.idx ∈ T.nodes.map Prod.fst := by
  cases T with
  | nd i es ks =>
    rw [BT.nodes]
    exact List.mem_cons_self ..
theorem plug_ne {ns : List Nd} {C : List Fr} {T : BT} (h : RepT ns (plug C T)) (hC : C ≠ []) : T.idx ≠ (plug C T).idx := fun e => by
  have h1 := h.plug.nd
  rw [List.map_append] at h1
  exact (List.nodup_append.1 h1).2.2 _ (e ▸ root_in C T T.idx hC) _ T.idx_mem rfl
theorem rep_es {ns : List Nd} {C : List Fr} {i : Nat} {es : List TEnt} {ks : List BT} (h : RepT ns (plug C (.nd i es ks))) (es' : List TEnt) : RepT (esN ns i es') (plug C (.nd i es' ks)) := by
  refine RepT.of_plug ?_
  have h1 := h.plug
  rw [BT.nodes] at h1 ⊢
  have h2 := (h1.perm List.perm_middle).es es'
  exact h2.perm List.perm_middle.symm
theorem frsI_bel (ns : List Nd) : ∀ f i j, i ≤ j → j < frsI ns f i → (nth ns j).us = true
  | 0, i, j, h, h2 => by
    rw [frsI] at h2
    omega
  | f + 1, i, j, h, h2 => by
    rw [frsI] at h2
    split at h2
    · split at h2
      · rcases Nat.eq_or_lt_of_le h with rfl | h3
        · assumption
        · exact frsI_bel ns f (i + 1) j h3 h2
      · omega
    · omega
theorem ixFree_bel {ns : List Nd} {j : Nat} (h : j < ixFree ns) (hl : j < ns.length) : (nth ns j).us = true := by
  have h1 := ixB_false (l := ns.map fun n => !n.us) h
  rw [getD_map (d := default) hl] at h1
  show (ns.getD j default).us = true
  simpa using h1
theorem frs_fre {ns : List Nd} (h0 : 0 < ns.length) (hu : (nth ns 0).us = true) (hb : ∀ i, i < ns.length → (nth ns i).us = false → nth ns i = ⟨false, [], []⟩) : frsN ns = freN ns := by
  have hle : ixFree ns ≤ ns.length := by
    have := ixB_le (ns.map fun n => !n.us)
    rw [List.length_map] at this
    exact this
  have hfl : frsX ns ≤ ns.length := frsI_le ns _ 1 h0
  have hge : 1 ≤ frsX ns := frsI_ge ns _ 1
  have e : frsX ns = ixFree ns := by
    rcases Nat.lt_trichotomy (frsX ns) (ixFree ns) with h | h | h
    · have h1 := frsI_us ns ns.length 1 (by show frsX ns < _; omega) (by omega)
      have h2 := ixFree_bel (ns := ns) h (by omega)
      rw [show frsI ns ns.length 1 = frsX ns from rfl, h2] at h1
      cases h1
    · exact h
    · have h1 := ixFree_us (ns := ns) (by omega)
      have h2 : 1 ≤ ixFree ns := by
        rcases Nat.eq_zero_or_pos (ixFree ns) with h3 | h3
        · rw [h3, hu] at h1
          cases h1
        · exact h3
      have h3 := frsI_bel ns ns.length 1 (ixFree ns) h2 h
      rw [h3] at h1
      cases h1
  unfold frsN freN
  rw [e]
  split
  · rename_i h
    unfold usN
    rw [hb _ h (ixFree_us h)]
  · rfl
theorem RepT.blank {ns : List Nd} {T : BT} (h : RepT ns T) {i : Nat} (hi : i < ns.length) (hu : (nth ns i).us = false) : nth ns i = ⟨false, [], []⟩ := by
  by_cases hm : i ∈ T.nodes.map Prod.fst
  · obtain ⟨p, hp, rfl⟩ := List.mem_map.1 hm
    have h1 := RepN.at_ (i := p.1) (x := p.2) h hp
    rw [h1.2, nodes_us T p hp] at hu
    cases hu
  · exact h.rest i hi hm
theorem RepT.root {ns : List Nd} {T : BT} (h : RepT ns T) : T.idx < ns.length ∧ nth ns T.idx = ⟨true, T.es, idxs T.ks⟩ := RepT.at_ (C := []) h
theorem RepT.frs {ns : List Nd} {T : BT} (h : RepT ns T) (h0 : T.idx = 0) : frsN ns = freN ns := by
  have h1 := h.root
  rw [h0] at h1
  exact frs_fre h1.1 (by rw [h1.2]) fun i hi hu => h.blank hi hu
def Leads (co : Int) (key : List UInt8) (C : List Fr) : Prop := ∀ f ∈ C, f.l.length = plc co f.es key ∧ ¬ fnd co f.es key = true
theorem nth_mid' {α : Type} [Inhabited α] (l : List α) (x : α) (r : List α) : nth (l ++ x :: r) l.length = x := nth_eq (by simp)
theorem getD_mid {α : Type} (l : List α) (x d : α) (r : List α) : (l ++ x :: r).getD l.length d = x := by simp
theorem BT.eta (T : BT) : T = .nd T.idx T.es T.ks := by cases T; rfl
theorem split_at {α : Type} [Inhabited α] {ks : List α} {p : Nat} (h : p < ks.length) : ks = ks.take p ++ nth ks p :: ks.drop (p + 1) := by
  have e : nth ks p = ks[p] := nth_eq (List.getElem?_eq_getElem h)
  rw [e, ← List.drop_eq_getElem_cons h, List.take_append_drop]
theorem desc {co : Int} {ns : List Nd} {key : List UInt8} {lo hi rt : Nat} : ∀ (f d : Nat) (C : List Fr) (T : BT), RepT ns (plug C T) → CtxOk lo hi rt d C → Bel lo hi d T → ((C = [] → T.es.length ≤ rt) ∧ (C ≠ [] → lo ≤ T.es.length ∧ T.es.length ≤ hi)) → d < f →
    ∃ D T' d', plug D T' = T ∧ CtxOk lo hi rt d' (D ++ C) ∧ Bel lo hi d' T' ∧ ((D ++ C = [] → T'.es.length ≤ rt) ∧ (D ++ C ≠ [] → lo ≤ T'.es.length ∧ T'.es.length ≤ hi)) ∧ d' + D.length = d ∧
      (pthN co ns key f T.idx).1 = (D.map Fr.i).reverse ++ [T'.idx] ∧ (pthN co ns key f T.idx).2 = (plc co T'.es key, fnd co T'.es key) ∧ (fnd co T'.es key = true ∨ T'.ks = []) ∧ Leads co key D
  | 0, d, C, T, _, _, _, _, h => absurd h (Nat.not_lt_zero _)
  | f + 1, d, C, T, hR, hC, hB, hb, hd => by
    have hat := hR.at_
    have hes : (nth ns T.idx).es = T.es := by rw [hat.2]
    have hcs : (nth ns T.idx).cs = idxs T.ks := by rw [hat.2]
    rw [pthN, hes, hcs, idxs_len]
    by_cases h1 : fnd co T.es key = true ∨ T.ks.length = 0
    · rw [if_pos h1]
      exact ⟨[], T, d, rfl, hC, hB, hb, by simp, rfl, rfl, h1.imp id fun h => List.eq_nil_of_length_eq_zero h, fun f hf => (nomatch hf)⟩
    · rw [if_neg h1]
      have hk : ¬ T.ks.length = 0 := fun h => h1 (.inr h)
      obtain ⟨d', rfl⟩ : ∃ d', d = d' + 1 := by
        cases d with
        | zero => exact absurd (show T.ks.length = 0 by rw [show T.ks = [] from hB]; rfl) hk
        | succ d' => exact ⟨d', rfl⟩
      have hp : plc co T.es key < T.ks.length := by
        have := plc_le co key T.es
        have := hB.1
        omega
      have hsp := split_at hp
      generalize hl : T.ks.take (plc co T.es key) = l at hsp
      generalize hr : T.ks.drop (plc co T.es key + 1) = r at hsp
      generalize hK : nth T.ks (plc co T.es key) = K at hsp
      have hll : l.length = plc co T.es key := by rw [← hl, List.length_take]; omega
      have hT : T = Fr.fill ⟨T.idx, T.es, l, r⟩ K := by
        have := T.eta
        rw [hsp] at this
        exact this
      have hbal : ∀ k ∈ T.ks, Bal lo hi d' k := hB.2
      have hBK : Bal lo hi d' K := hbal K (by rw [hsp]; simp)
      have hci : ((idxs T.ks).getD (plc co T.es key) 0).toNat = K.idx := by
        rw [hsp, idxs_app, idxs_cons, ← hll, ← idxs_len l, getD_mid]
        rfl
      rw [hci]
      have hctx : CtxOk lo hi rt d' (⟨T.idx, T.es, l, r⟩ :: C) := ⟨⟨fun k hk => hbal k (by rw [hsp]; simp [hk]), fun k hk => hbal k (by rw [hsp]; simp [hk])⟩, by
        show l.length + r.length = T.es.length
        have h9 := hB.1
        rw [hsp] at h9
        simp only [List.length_append, List.length_cons] at h9
        omega, hb, hC⟩
      have hb2 := bal_iff.1 hBK
      obtain ⟨D, T', d9, e1, e2, e3, e4, e5, e6, e7, e8, e9⟩ := desc f d' (⟨T.idx, T.es, l, r⟩ :: C) K (by
        show RepT ns (plug C (Fr.fill _ K))
        rw [← hT]
        exact hR) hctx hb2.1 ⟨fun h => (nomatch h), fun _ => hb2.2⟩ (by omega)
      refine ⟨D ++ [⟨T.idx, T.es, l, r⟩], T', d9, ?_, ?_, e3, ?_, ?_, ?_, e7, e8, fun g hg => ?_⟩
      · rw [plug_app, e1]
        exact hT.symm
      · rw [List.append_assoc]
        exact e2
      · rw [List.append_assoc]
        exact e4
      · simp only [List.length_append, List.length_singleton]
        omega
      · rw [e6]
        simp
      · rcases List.mem_append.1 hg with hg | hg
        · exact e9 g hg
        · rcases List.mem_singleton.1 hg
          exact ⟨hll, fun h => h1 (.inl h)⟩
theorem nodesL_mem {k : BT} : ∀ {ks : List BT}, k ∈ ks → k.nodes.length ≤ (nodesL ks).length
  | [], h => (nomatch h)
  | x :: ks, h => by
    rw [nodesL, List.length_append]
    rcases List.mem_cons.1 h with rfl | h
    · omega
    · have := nodesL_mem (ks := ks) h
      omega
theorem nodes_len (T : BT) : T.nodes.length = (nodesL T.ks).length + 1 := by
  cases T with
  | nd i es ks => rw [BT.nodes, List.length_cons]; rfl
theorem bel_deep {lo hi : Nat} : ∀ {d : Nat} {T : BT}, Bel lo hi d T → d + 1 ≤ T.nodes.length
  | 0, T, _ => by
    rw [nodes_len]
    omega
  | d + 1, T, h => by
    obtain ⟨k, ks, e⟩ : ∃ k ks, T.ks = k :: ks := by
      cases hk : T.ks with
      | nil =>
        have := h.1
        rw [hk] at this
        simp at this
      | cons k ks => exact ⟨k, ks, rfl⟩
    have hm : k ∈ T.ks := by rw [e]; exact List.mem_cons_self ..
    have h1 := bel_deep (bal_iff.1 (h.2 k hm)).1
    have h2 := nodesL_mem hm
    rw [nodes_len]
    omega
theorem RepT.nlen {ns : List Nd} {T : BT} (h : RepT ns T) : T.nodes.length ≤ ns.length := by
  have := nodup_le ns.length (T.nodes.map Prod.fst) h.nd fun x hx => by
    obtain ⟨p, hp, rfl⟩ := List.mem_map.1 hx
    exact RepN.lt h hp
  rwa [List.length_map] at this
section
variable {ns : List Nd} {mo : Int} {f : Fr} {C : List Fr} {i : Nat} {es : List TEnt} {ks : List BT}
theorem spl_at (h : RepT ns (plug (f :: C) (.nd i es ks))) : f.i < (splA mo ns i).length ∧ nth (splA mo ns i) f.i = ⟨true, f.es, idxs f.l ++ (i : Int) :: idxs f.r⟩ ∧ (i : Int) ∉ idxs f.l := by
  have h1 := (rep_splA (mo := mo) h).2
  have hk := splA_kids (mo := mo) h
  have hm : (f.i, (⟨true, f.es, idxs f.l ++ (i : Int) :: idxs f.r⟩ : Nd)) ∈ ((i, (⟨true, es.take (splM mo), (idxs ks).take (splM mo + 1)⟩ : Nd)) :: ((freN ns).1, ⟨true, es.drop (splM mo + 1), (idxs ks).drop (splM mo + 1)⟩) :: (ctxNodes (f :: C) i ++ nodesL ks)) := by
    refine List.mem_cons_of_mem _ (List.mem_cons_of_mem _ (List.mem_append_left _ ?_))
    rw [ctxNodes, Fr.nodes]
    exact List.mem_cons_self ..
  have h2 := h1.at_ hm
  refine ⟨h2.1, h2.2, fun hi => ?_⟩
  have h3 := (List.pairwise_flatMap.1 hk).1 _ hm
  exact (List.nodup_append.1 h3).2.2 _ hi _ (List.mem_cons_self ..) rfl
theorem splR_eq (h : RepT ns (plug (f :: C) (.nd i es ks))) (h0 : (plug (f :: C) (.nd i es ks)).idx = 0) : splR mo ns f.i i = splN mo ns i := by
  have hA : splRA mo ns i = splA mo ns i := by
    unfold splRA splA
    rw [h.frs h0]
  have h1 := spl_at (mo := mo) h
  have h2 := (rep_split (mo := mo) h).2.1
  unfold splR splN
  rw [hA, h2, h1.2.1, h.frs h0]
  simp only []
  have h3 := ixB_app (B := idxs f.r) h1.2.2
  unfold ixR
  rw [h3, if_pos (by simp), idxs_len]
theorem spl_ok {lo hi rt d : Nat} (h : RepT ns (plug (f :: C) (.nd i es ks))) (hC : CtxOk lo hi rt d (f :: C)) (hB : Bel lo hi d (.nd i es ks)) (hmo : 0 ≤ mo ∧ mo ≤ 1000) (hlen : ns.length ≤ 900) (hsm : Sm 900 ns) (hes : splM mo < es.length) : SpOk mo ns i := by
  have hat : i < ns.length ∧ nth ns i = ⟨true, es, idxs ks⟩ := RepT.at_ (T := .nd i es ks) h
  have h1 := spl_at (mo := mo) h
  have h2 := (rep_split (mo := mo) h).2.1
  have h3 := hC.2.1
  refine ⟨hmo, hlen, hsm, hat.1, by rw [hat.2], by rw [hat.2]; exact hes, ?_, ?_, ?_, ?_⟩
  · rw [hat.2]
    rcases hB.cs with hk | hk
    · left
      show (idxs ks).length = 0
      rw [show ks = [] from hk]
      rfl
    · right
      have : ks.length = es.length + 1 := hk
      show _ ≤ (idxs ks).length
      rw [idxs_len]
      omega
  · rw [h2]
    exact h1.1
  · rw [h2]
    simp only []
    rw [h1.2.1]
    show f.l.length ≤ f.es.length
    omega
  · rw [h2]
    simp only []
    rw [h1.2.1]
    simp only [List.length_append, List.length_cons, idxs_len]
    omega
theorem spr_ok (h : RepT ns (plug (f :: C) (.nd i es ks))) (h0 : (plug (f :: C) (.nd i es ks)).idx = 0) (hs : SpOk mo ns i) : SpROk mo ns f.i i := by
  have hA : splRA mo ns i = splA mo ns i := by
    unfold splRA splA
    rw [h.frs h0]
  have h1 := spl_at (mo := mo) h
  have h2 := (rep_split (mo := mo) h).2.1
  have h3 := ixB_app (B := idxs f.r) h1.2.2
  have hx : ixR (nth (splRA mo ns i) f.i).cs (i : Int) = f.l.length := by
    rw [hA, h1.2.1]
    unfold ixR
    simp only []
    rw [h3, if_pos (by simp), idxs_len]
  have hp : f.i < ns.length := by
    have := h.plug
    exact this.lt (p := (f.i, ⟨true, f.es, idxs f.l ++ (i : Int) :: idxs f.r⟩)) (List.mem_append_left _ (by rw [ctxNodes, Fr.nodes]; exact List.mem_cons_self ..))
  refine ⟨hs.mo0, hs.len, hs.sm, hs.lt, hs.us, hs.es, hs.cs, hp, ?_, ?_⟩
  · rw [hx, hA, h1.2.1]
    have := hs.parE
    rw [h2] at this
    simp only [] at this
    rw [h1.2.1] at this
    exact this
  · rw [hx, hA, h1.2.1]
    simp only [List.length_append, List.length_cons, idxs_len]
    omega
end
def NoGap (rt : Nat) (T : BT) : Prop := T.es = [] → ∀ k, T.ks = [k] → rt < k.es.length
def GapC (rt : Nat) : List Fr → Nat → Prop
  | [], _ => True
  | [f], n => f.es = [] → rt < n
  | f :: g :: C, _ => GapC rt (g :: C) f.es.length
theorem GapC.mono {rt : Nat} : ∀ {C : List Fr} {n m : Nat}, GapC rt C n → n ≤ m → GapC rt C m
  | [], _, _, _, _ => trivial
  | [f], n, m, h, hm => fun e => Nat.lt_of_lt_of_le (h e) hm
  | f :: g :: C, _, _, h, _ => h
theorem gapC_of {lo hi rt : Nat} : ∀ {D : List Fr} {d : Nat} {T : BT}, CtxOk lo hi rt d D → NoGap rt (plug D T) → GapC rt D T.es.length
  | [], _, T, _, _ => trivial
  | [f], _, T, hC, h => fun e => by
    have h1 := hC.2.1
    rw [e] at h1
    have hl : f.l = [] := List.eq_nil_of_length_eq_zero (by simp only [List.length_nil] at h1; omega)
    have hr : f.r = [] := List.eq_nil_of_length_eq_zero (by simp only [List.length_nil] at h1; omega)
    refine h e T ?_
    show f.l ++ T :: f.r = [T]
    rw [hl, hr]
    rfl
  | f :: g :: C, d, T, hC, h => gapC_of (D := g :: C) (T := f.fill T) hC.2.2.2 h
theorem take_rev {P A : List Nat} {x : Nat} (h : P.take (A.length + 1) = (x :: A).reverse) : nth P A.length = x ∧ P.take A.length = A.reverse := by
  rw [List.reverse_cons] at h
  constructor
  · apply nth_eq
    have h1 : (P.take (A.length + 1))[A.length]? = some x := by
      rw [h, List.getElem?_append_right (by simp)]
      simp
    rw [List.getElem?_take] at h1
    simpa using h1
  · have h1 : (P.take (A.length + 1)).take A.length = A.reverse := by
      rw [h, List.take_append_of_le_length (by simp), List.take_of_length_le (by simp)]
    rw [List.take_take] at h1
    rw [← h1]
    congr 1
    omega
theorem half_bal {mo : Int} {lo hi d i o : Nat} {es : List TEnt} {ks : List BT} (hmo : mo = (hi : Int)) (hlo : lo = hi / 2) (hB : Bel lo hi d (.nd i es ks)) (hl : es.length = hi + 1) :
    Bal lo hi d (.nd i (es.take (splM mo)) (ks.take (splM mo + 1))) ∧ Bal lo hi d (.nd o (es.drop (splM mo + 1)) (ks.drop (splM mo + 1))) := by
  have hm : splM mo = (hi + 1) / 2 := by unfold splM; omega
  rw [bal_iff, bal_iff]
  have e1 : lo ≤ (es.take (splM mo)).length ∧ (es.take (splM mo)).length ≤ hi := by rw [List.length_take]; omega
  have e2 : lo ≤ (es.drop (splM mo + 1)).length ∧ (es.drop (splM mo + 1)).length ≤ hi := by rw [List.length_drop]; omega
  refine ⟨⟨?_, e1⟩, ⟨?_, e2⟩⟩
  · cases d with
    | zero =>
      show ks.take _ = []
      rw [show ks = [] from hB, List.take_nil]
    | succ d =>
      have h1 : ks.length = es.length + 1 := hB.1
      refine ⟨?_, fun k hk => hB.2 k (List.mem_of_mem_take hk)⟩
      show (ks.take (splM mo + 1)).length = (es.take (splM mo)).length + 1
      rw [List.length_take, List.length_take]
      omega
  · cases d with
    | zero =>
      show ks.drop _ = []
      rw [show ks = [] from hB, List.drop_nil]
    | succ d =>
      have h1 : ks.length = es.length + 1 := hB.1
      refine ⟨?_, fun k hk => hB.2 k (List.mem_of_mem_drop hk)⟩
      show (ks.drop (splM mo + 1)).length = (es.drop (splM mo + 1)).length + 1
      rw [List.length_drop, List.length_drop]
      omega
theorem bel_split {mo : Int} {lo hi rt d i o : Nat} {f : Fr} {C : List Fr} {es : List TEnt} {ks : List BT} {up : TEnt} (hmo : mo = (hi : Int)) (hlo : lo = hi / 2) (hC : CtxOk lo hi rt d (f :: C)) (hB : Bel lo hi d (.nd i es ks)) (hl : es.length = hi + 1) :
    Bel lo hi (d + 1) (.nd f.i (insAt f.es f.l.length up) (f.l ++ .nd i (es.take (splM mo)) (ks.take (splM mo + 1)) :: .nd o (es.drop (splM mo + 1)) (ks.drop (splM mo + 1)) :: f.r)) := by
  have h1 := half_bal (o := o) hmo hlo hB hl
  have h2 := hC.2.1
  refine ⟨?_, fun k hk => ?_⟩
  · show (f.l ++ _ :: _ :: f.r).length = (insAt f.es f.l.length up).length + 1
    rw [ins_len (by omega)]
    simp only [List.length_append, List.length_cons]
    omega
  · rcases List.mem_append.1 hk with hk | hk
    · exact hC.1.1 k hk
    · rcases List.mem_cons.1 hk with rfl | hk
      · exact h1.1
      · rcases List.mem_cons.1 hk with rfl | hk
        · exact h1.2
        · exact hC.1.2 k hk
theorem flat_split {mo : Int} {lo hi rt d i o : Nat} {f : Fr} {C : List Fr} {es : List TEnt} {ks : List BT} (hC : CtxOk lo hi rt d (f :: C)) (hB : Bel lo hi d (.nd i es ks)) (hl : splM mo < es.length) :
    (BT.nd f.i (insAt f.es f.l.length (nth es (splM mo))) (f.l ++ .nd i (es.take (splM mo)) (ks.take (splM mo + 1)) :: .nd o (es.drop (splM mo + 1)) (ks.drop (splM mo + 1)) :: f.r)).flat = (f.fill (.nd i es ks)).flat := by
  rw [BT.flat, flatL_ins hC.2.1, BT.flat, BT.flat, flatL_split (splM mo) es ks hl hB.cs]
  show _ = (BT.nd f.i f.es (f.l ++ BT.nd i es ks :: f.r)).flat
  rw [BT.flat, flatL_mid _ _ _ _ hC.2.1, BT.flat]
def LastU (ns : List Nd) : Prop := (nth ns (ns.length - 1)).us = true
theorem us_set {ns : List Nd} {i : Nat} {x : Nd} (hx : x.us = (nth ns i).us) (k : Nat) : (nth (ns.set i x) k).us = (nth ns k).us := by
  rw [nth_set_nd]
  split
  · rename_i h
    rw [hx, h.1]
  · rfl
theorem us_es (ns : List Nd) (i : Nat) (es : List TEnt) (k : Nat) : (nth (esN ns i es) k).us = (nth ns k).us := us_set (x := { nth ns i with es := es }) rfl k
theorem us_cs (ns : List Nd) (i : Nat) (cs : List Int) (k : Nat) : (nth (csN ns i cs) k).us = (nth ns k).us := us_set (x := { nth ns i with cs := cs }) rfl k
theorem LastU.es {ns : List Nd} (h : LastU ns) (i : Nat) (es : List TEnt) : LastU (esN ns i es) := by
  unfold LastU
  rw [esN_len, us_es]
  exact h
theorem LastU.cs {ns : List Nd} (h : LastU ns) (i : Nat) (cs : List Int) : LastU (csN ns i cs) := by
  unfold LastU
  rw [csN_len, us_cs]
  exact h
theorem LastU.fre {ns : List Nd} (h : LastU ns) : LastU (freN ns).2 := by
  unfold freN
  split
  · unfold LastU usN
    simp only [List.length_set]
    rw [nth_set_nd]
    split
    · rfl
    · exact h
  · unfold LastU
    simp only [List.length_append, List.length_singleton, Nat.add_sub_cancel]
    rw [nth_mid']
theorem LastU.spl {ns : List Nd} (h : LastU ns) (mo : Int) (i : Nat) : LastU (splN mo ns i) := by
  unfold splN addP
  refine LastU.cs (LastU.es ?_ _ _) _ _
  unfold splA
  split
  · exact (h.fre.es _ _).es _ _
  · exact (((h.fre.es _ _).es _ _).cs _ _).cs _ _
theorem LastU.low {ns : List Nd} (h : LastU ns) : LastU (lowN ns).2 := by
  unfold lowN
  exact (((h.fre.es _ _).cs _ _).es _ _).cs _ _
structure Grown (mo : Int) (lo hi rt : Nat) (P : List Nat) (m k : Nat) (ns : List Nd) (W : List Nat) (fl : List TEnt) : Prop where
  ok : GrwOk mo ns W
  okR : GrwROk mo P k ns
  same : grwRW mo P k ns = grwW mo ns W
  tree : ∃ T d, RepT (grwW mo ns W) T ∧ T.idx = 0 ∧ Bel lo hi d T ∧ T.es.length ≤ rt + 1 ∧ NoGap rt T ∧ T.flat = fl
  sm : Sm (m + k) (grwW mo ns W)
  len : ns.length ≤ (grwW mo ns W).length ∧ (grwW mo ns W).length ≤ ns.length + k
  last : LastU (grwW mo ns W)
theorem grow_up {mo : Int} {lo hi rt : Nat} (hmo : mo = (hi : Int)) (hlo : lo = hi / 2) (hhi : hi ≤ 900) (hrt : rt ≤ hi) (P : List Nat) : ∀ (C : List Fr) (d m : Nat) (ns : List Nd) (T : BT), RepT ns (plug C T) → (plug C T).idx = 0 → CtxOk lo hi rt d C → Bel lo hi d T →
    ((C = [] → T.es.length ≤ rt + 1) ∧ (C ≠ [] → lo ≤ T.es.length ∧ T.es.length ≤ hi + 1)) → GapC rt C T.es.length → (C = [] → NoGap rt T) → Sm m ns → m + C.length ≤ 899 → ns.length + C.length ≤ 899 → LastU ns → P.take (C.length + 1) = (T.idx :: C.map Fr.i).reverse →
    Grown mo lo hi rt P m C.length ns (T.idx :: C.map Fr.i) (plug C T).flat
  | [], d, m, ns, T, hR, h0, hC, hB, hb, hg, hn, hs, hm, hl, hu, hP => by
    have h1 : T.idx = 0 := h0
    have hat := RepT.at_ (C := []) hR
    have e : grwW mo ns [T.idx] = ns := by
      show grw1 mo ns T.idx = ns
      unfold grw1
      rw [if_neg (fun h => by omega)]
    have hroot : RepT ns T := hR
    refine ⟨⟨⟨hat.1, fun h => by omega⟩, trivial⟩, trivial, e.symm, ?_, ?_, ?_, ?_⟩
    · show ∃ T' d', RepT (grwW mo ns [T.idx]) T' ∧ _
      rw [e]
      exact ⟨T, d, hroot, h1, hB, hb.1 rfl, hn rfl, rfl⟩
    · show Sm m (grwW mo ns [T.idx])
      rw [e]
      exact hs
    · show _ ≤ (grwW mo ns [T.idx]).length ∧ (grwW mo ns [T.idx]).length ≤ _
      rw [e]
      exact ⟨Nat.le_refl _, Nat.le_refl _⟩
    · show LastU (grwW mo ns [T.idx])
      rw [e]
      exact hu
  | f :: C, d, m, ns, .nd i es ks, hR, h0, hC, hB, hb, hg, hn, hs, hm, hl, hu, hP => by
    have hne : i ≠ 0 := by
      have := plug_ne hR (by simp)
      rw [h0] at this
      exact this
    have hat : i < ns.length ∧ nth ns i = ⟨true, es, idxs ks⟩ := RepT.at_ (T := .nd i es ks) hR
    have hb1 : lo ≤ es.length ∧ es.length ≤ hi + 1 := hb.2 (by simp)
    have hlen2 : (C.map Fr.i).length = C.length := by simp
    have hP1 := take_rev (A := f.i :: C.map Fr.i) (x := i) (by
      rw [List.length_cons, hlen2]
      exact hP)
    rw [List.length_cons, hlen2] at hP1
    have hP2 := take_rev (A := C.map Fr.i) (x := f.i) (by
      rw [hlen2]
      exact hP1.2)
    rw [hlen2] at hP2
    have hCl : (f :: C).length = C.length + 1 := rfl
    have hf := hC.2.2.1
    have hgC : ∀ n, f.es.length ≤ n → GapC rt C n := fun n hle => by
      cases C with
      | nil => trivial
      | cons g C' => exact GapC.mono (show GapC rt (g :: C') f.es.length from hg) hle
    have hlt9 : (nth ns (nth P (C.length + 1))).es.length = es.length := by rw [hP1.1, hat.2]
    by_cases hbig : es.length ≤ hi
    · -- it stays as it is
      have e1 : grw1 mo ns i = ns := by
        unfold grw1
        rw [if_neg (fun h => by rw [hat.2] at h; have := h.2; simp only [] at this; omega)]
      have hno : ¬ mo < ((nth ns (nth P (C.length + 1))).es.length : Int) := by rw [hlt9]; omega
      have ih := grow_up hmo hlo hhi hrt P C (d + 1) m ns (f.fill (.nd i es ks)) hR h0 hC.2.2.2 (bel_fill hC (bal_iff.2 ⟨hB, hb1.1, hbig⟩)) ⟨fun h => Nat.le_succ_of_le (hf.1 h), fun h => ⟨(hf.2 h).1, Nat.le_succ_of_le (hf.2 h).2⟩⟩ (hgC _ (Nat.le_refl _)) (fun h => by
        subst h
        intro e k hk
        have h9 : f.l ++ BT.nd i es ks :: f.r = [k] := hk
        cases hfl : f.l with
        | nil =>
          rw [hfl] at h9
          have : BT.nd i es ks = k := (List.cons.inj h9).1
          rw [← this]
          exact hg e
        | cons a b =>
          rw [hfl] at h9
          simp at h9) hs (by rw [hCl] at hm; omega) (by rw [hCl] at hl; omega) hu hP1.2
      have eW : grwW mo ns (i :: (f :: C).map Fr.i) = grwW mo ns ((f.fill (.nd i es ks)).idx :: C.map Fr.i) := by
        show grwW mo (grw1 mo ns i) _ = _
        rw [e1]
        rfl
      refine ⟨⟨⟨hat.1, fun _ (h : mo < ((nth ns i).es.length : Int)) => by rw [hat.2] at h; simp only [] at h; omega⟩, ?_⟩, ⟨⟨by rw [hP1.1]; exact hat.1, fun h => absurd h hno⟩, ?_⟩, ?_, ?_, ?_, ?_, ?_⟩
      · rw [show grw1 mo ns (BT.nd i es ks).idx = ns from e1]
        exact ih.ok
      · rw [if_neg hno]
        exact ih.okR
      · show grwRW mo P C.length (if _ then _ else _) = grwW mo ns (i :: (f :: C).map Fr.i)
        rw [if_neg hno, eW]
        exact ih.same
      · show ∃ T d, RepT (grwW mo ns (i :: (f :: C).map Fr.i)) T ∧ _
        rw [eW]
        exact ih.tree
      · show Sm _ (grwW mo ns (i :: (f :: C).map Fr.i))
        rw [eW]
        exact ih.sm.mono (by rw [hCl]; omega)
      · show _ ≤ (grwW mo ns (i :: (f :: C).map Fr.i)).length ∧ (grwW mo ns (i :: (f :: C).map Fr.i)).length ≤ _
        rw [eW]
        have := ih.len
        rw [hCl]
        omega
      · show LastU (grwW mo ns (i :: (f :: C).map Fr.i))
        rw [eW]
        exact ih.last
    · -- it is split
      have hle : es.length = hi + 1 := by omega
      have hmE : splM mo < es.length := by unfold splM; omega
      have hyes : mo < ((nth ns (nth P (C.length + 1))).es.length : Int) := by rw [hlt9]; omega
      have e1 : grw1 mo ns i = splN mo ns i := by
        unfold grw1
        rw [if_pos ⟨by omega, by rw [hat.2]; simp only []; omega⟩]
      have hok := spl_ok hR hC hB (by omega) (by omega) (hs.mono (by omega)) hmE
      have hokR := spr_ok hR h0 hok
      have hsR := splR_eq (mo := mo) hR h0
      have hsp := (rep_split (mo := mo) hR).2.2
      have hsl := splN_len mo ns i
      generalize hup : nth es (splM mo) = up at hsp
      have hflat := flat_split (mo := mo) (o := (freN ns).1) hC hB hmE
      rw [hup] at hflat
      have hbl := bel_split (o := (freN ns).1) (up := up) hmo hlo hC hB hle
      have hil : (insAt f.es f.l.length up).length = f.es.length + 1 := ins_len (by have := hC.2.1; omega)
      generalize hT2 : BT.nd f.i (insAt f.es f.l.length up) (f.l ++ BT.nd i (es.take (splM mo)) (ks.take (splM mo + 1)) :: BT.nd (freN ns).1 (es.drop (splM mo + 1)) (ks.drop (splM mo + 1)) :: f.r) = T2 at hsp hflat hbl
      have hT2i : T2.idx = f.i := by rw [← hT2]; rfl
      have hT2e : T2.es.length = f.es.length + 1 := by rw [← hT2]; exact hil
      have ih := grow_up hmo hlo hhi hrt P C (d + 1) (m + 1) (splN mo ns i) T2 hsp (by
        rw [plug_idx C T2 (f.fill (.nd i es ks)) hT2i]
        exact h0) hC.2.2.2 hbl ⟨fun h => by rw [hT2e]; have := hf.1 h; omega, fun h => by rw [hT2e]; have := hf.2 h; omega⟩ (hgC _ (by omega)) (fun h e => by rw [e] at hT2e; simp at hT2e) (hs.spl mo i) (by rw [hCl] at hm; omega) (by rw [hCl] at hl; omega) (hu.spl mo i) (by rw [hT2i]; exact hP1.2)
      have eW : grwW mo ns (i :: (f :: C).map Fr.i) = grwW mo (splN mo ns i) (T2.idx :: C.map Fr.i) := by
        show grwW mo (grw1 mo ns i) _ = _
        rw [e1, hT2i]
        rfl
      have hpf : (plug C T2).flat = (plug (f :: C) (.nd i es ks)).flat := by
        show _ = (plug C (f.fill (.nd i es ks))).flat
        rw [plug_flat hC.2.2.2, plug_flat hC.2.2.2, hflat]
      refine ⟨⟨⟨hat.1, fun _ _ => hok⟩, ?_⟩, ⟨⟨by rw [hP1.1]; exact hat.1, fun _ => by rw [hP1.1, hP2.1]; exact hokR⟩, ?_⟩, ?_, ?_, ?_, ?_, ?_⟩
      · rw [show grw1 mo ns (BT.nd i es ks).idx = splN mo ns i from e1]
        have := ih.ok
        rw [hT2i] at this
        exact this
      · rw [if_pos hyes, hP1.1, hP2.1, hsR]
        exact ih.okR
      · show grwRW mo P C.length (if _ then _ else _) = grwW mo ns (i :: (f :: C).map Fr.i)
        rw [if_pos hyes, hP1.1, hP2.1, hsR, eW]
        exact ih.same
      · show ∃ T d, RepT (grwW mo ns (i :: (f :: C).map Fr.i)) T ∧ _
        rw [eW, ← hpf]
        exact ih.tree
      · show Sm _ (grwW mo ns (i :: (f :: C).map Fr.i))
        rw [eW]
        exact ih.sm.mono (by rw [hCl]; omega)
      · show _ ≤ (grwW mo ns (i :: (f :: C).map Fr.i)).length ∧ (grwW mo ns (i :: (f :: C).map Fr.i)).length ≤ _
        rw [eW]
        have := ih.len
        rw [hCl]
        omega
      · show LastU (grwW mo ns (i :: (f :: C).map Fr.i))
        rw [eW]
        exact ih.last
def Srt (co : Int) (l : List TEnt) : Prop := l.Pairwise fun a b => cmpK co a.key b.key < 0
theorem cmpK_anti {co : Int} {a b : List UInt8} (h : ¬ cmpK co a b < 0) (h2 : cmpK co a b ≠ 0) : cmpK co b a < 0 := by
  have := cmpK_swap co a b
  omega
theorem Srt.asc {co : Int} {l : List TEnt} (h : Srt co l) : Asc co l := fun k hk => by
  have := List.pairwise_iff_getElem.1 h k (k + 1) (by omega) hk (by omega)
  rw [show nth l k = l[k] from nth_eq (List.getElem?_eq_getElem (by omega)), show nth l (k + 1) = l[k + 1] from nth_eq (List.getElem?_eq_getElem hk)]
  exact this
theorem Srt.of_asc {co : Int} {l : List TEnt} (h : Asc co l) : Srt co l := List.pairwise_iff_getElem.2 fun i j hi hj hij => by
  have := h.lt hij hj
  rw [show nth l i = l[i] from nth_eq (List.getElem?_eq_getElem hi), show nth l j = l[j] from nth_eq (List.getElem?_eq_getElem hj)] at this
  exact this
theorem plc_app1 {co : Int} {key : List UInt8} : ∀ {A l : List TEnt}, (∀ x ∈ A, cmpK co x.key key < 0) → plc co (A ++ l) key = A.length + plc co l key
  | [], l, _ => by simp
  | a :: A, l, h => by
    rw [List.cons_append, plc, if_pos (h a (List.mem_cons_self ..)), plc_app1 fun x hx => h x (List.mem_cons_of_mem _ hx), List.length_cons]
    omega
theorem plc_app2 {co : Int} {key : List UInt8} : ∀ {l B : List TEnt}, (∀ x ∈ B, cmpK co key x.key < 0) → plc co (l ++ B) key = plc co l key
  | [], [], _ => rfl
  | [], b :: B, h => by
    have h1 := h b (List.mem_cons_self ..)
    have h2 := cmpK_swap co b.key key
    show plc co (b :: B) key = 0
    rw [plc, if_neg (by omega)]
  | a :: l, B, h => by
    rw [List.cons_append, plc, plc, plc_app2 h]
theorem insAt_app {α : Type} {A l B : List α} {p : Nat} {x : α} (hp : p ≤ l.length) : insAt (A ++ (l ++ B)) (A.length + p) x = A ++ (insAt l p x ++ B) := by
  unfold insAt
  rw [List.take_length_add_append, List.drop_length_add_append, List.take_append_of_le_length hp, List.drop_append_of_le_length hp]
  simp only [List.append_assoc, List.cons_append]
def HasK (co : Int) (l : List TEnt) (key : List UInt8) : Prop := ∃ y ∈ l, cmpK co y.key key = 0
theorem hasK_fnd {co : Int} {key : List UInt8} : ∀ {l : List TEnt}, Srt co l → (HasK co l key ↔ fnd co l key = true)
  | [], _ => by simp [HasK, fnd]
  | y :: l, h => by
    have hp := List.pairwise_cons.1 h
    have ih := hasK_fnd (key := key) hp.2
    unfold fnd at ih ⊢
    rw [plc]
    by_cases h1 : cmpK co y.key key < 0
    · rw [if_pos h1]
      have e : nth (y :: l) (plc co l key + 1) = nth l (plc co l key) := rfl
      rw [e, List.length_cons]
      have hh : HasK co (y :: l) key ↔ HasK co l key := by
        constructor
        · rintro ⟨z, hz, h2⟩
          rcases List.mem_cons.1 hz with rfl | hz
          · omega
          · exact ⟨z, hz, h2⟩
        · rintro ⟨z, hz, h2⟩
          exact ⟨z, List.mem_cons_of_mem _ hz, h2⟩
      rw [hh, ih]
      simp
    · rw [if_neg h1]
      have e : nth (y :: l) 0 = y := rfl
      rw [e]
      simp only [List.length_cons, Nat.zero_lt_succ, decide_true, Bool.true_and, decide_eq_true_eq]
      constructor
      · rintro ⟨z, hz, h2⟩
        rcases List.mem_cons.1 hz with rfl | hz
        · exact h2
        · exfalso
          have h3 := hp.1 z hz
          by_cases h4 : cmpK co y.key key = 0
          · have h5 := cmpK_eq.1 h4
            have h6 := cmpK_eq.1 h2
            have h7 := cmpK_eq.2 (h5.trans h6.symm)
            omega
          · have h5 := cmpK_anti h1 h4
            have h6 := cmpK_trans h5 h3
            have h7 := cmpK_swap co z.key key
            omega
      · intro h2
        exact ⟨y, List.mem_cons_self .., h2⟩
theorem srt_ins {co : Int} {x : TEnt} : ∀ {l : List TEnt}, Srt co l → ¬ HasK co l x.key → Srt co (insAt l (plc co l x.key) x)
  | [], _, _ => by
    show Srt co [x]
    simp [Srt]
  | y :: l, h, hn => by
    have hp := List.pairwise_cons.1 h
    have ih := srt_ins (x := x) hp.2 fun ⟨z, hz, h2⟩ => hn ⟨z, List.mem_cons_of_mem _ hz, h2⟩
    rw [plc]
    by_cases h1 : cmpK co y.key x.key < 0
    · rw [if_pos h1]
      show Srt co (y :: insAt l (plc co l x.key) x)
      refine List.pairwise_cons.2 ⟨fun z hz => ?_, ih⟩
      unfold insAt at hz
      rcases List.mem_append.1 hz with hz | hz
      · exact hp.1 z (List.mem_of_mem_take hz)
      · rcases List.mem_cons.1 hz with rfl | hz
        · exact h1
        · exact hp.1 z (List.mem_of_mem_drop hz)
    · rw [if_neg h1]
      show Srt co (x :: y :: l)
      have h2 := cmpK_anti h1 fun h2 => hn ⟨y, List.mem_cons_self .., h2⟩
      refine List.pairwise_cons.2 ⟨fun z hz => ?_, h⟩
      rcases List.mem_cons.1 hz with rfl | hz
      · exact h2
      · exact cmpK_trans h2 (hp.1 z hz)
theorem flatA_lt {co : Int} {key : List UInt8} : ∀ {es : List TEnt} {l : List BT}, Srt co (flatA es l) → l.length ≤ es.length → (∀ j, j < l.length → cmpK co (nth es j).key key < 0) → ∀ x ∈ flatA es l, cmpK co x.key key < 0
  | es, [], _, _, _, x, hx => by
    have e : flatA es [] = [] := by cases es <;> rfl
    rw [e] at hx
    cases hx
  | [], k :: l, _, h, _, x, hx => absurd h (by simp)
  | e :: es, k :: l, hs, hl, h, x, hx => by
    rw [flatA] at hs hx
    have h1 := List.pairwise_append.1 hs
    have he : cmpK co e.key key < 0 := h 0 (by simp)
    rcases List.mem_append.1 hx with hx | hx
    · exact cmpK_trans (h1.2.2 x hx e (List.mem_cons_self ..)) he
    · rcases List.mem_cons.1 hx with rfl | hx
      · exact he
      · exact flatA_lt (List.pairwise_cons.1 h1.2.1).2 (by simpa using hl) (fun j hj => h (j + 1) (by simpa using hj)) x hx
theorem pre_lt {co : Int} {key : List UInt8} {lo hi rt : Nat} : ∀ {D : List Fr} {d : Nat}, CtxOk lo hi rt d D → Leads co key D → Srt co (preC D) → ∀ x ∈ preC D, cmpK co x.key key < 0
  | [], _, _, _, _, x, hx => (nomatch hx)
  | f :: D, d, hC, hL, hs, x, hx => by
    rw [preC] at hs hx
    have h1 := List.pairwise_append.1 hs
    have hf := hL f (List.mem_cons_self ..)
    have hlen := hC.2.1
    rcases List.mem_append.1 hx with hx | hx
    · exact pre_lt hC.2.2.2 (fun g hg => hL g (List.mem_cons_of_mem _ hg)) h1.1 x hx
    · exact flatA_lt h1.2.1 (by omega) (fun j hj => plc_before co key f.es j (by omega)) x hx
theorem suf_gt {co : Int} {key : List UInt8} {lo hi rt : Nat} : ∀ {D : List Fr} {d : Nat}, CtxOk lo hi rt d D → Leads co key D → Srt co (sufC D) → ∀ x ∈ sufC D, cmpK co key x.key < 0
  | [], _, _, _, _, x, hx => (nomatch hx)
  | f :: D, d, hC, hL, hs, x, hx => by
    rw [sufC] at hs hx
    have h1 := List.pairwise_append.1 hs
    have hf := hL f (List.mem_cons_self ..)
    rcases List.mem_append.1 hx with hx | hx
    · rcases Nat.lt_or_ge f.l.length f.es.length with h2 | h2
      · have e : f.es.drop f.l.length = nth f.es f.l.length :: f.es.drop (f.l.length + 1) := by
          rw [List.drop_eq_getElem_cons h2, show nth f.es f.l.length = f.es[f.l.length] from nth_eq (List.getElem?_eq_getElem h2)]
        have hgt : cmpK co key (nth f.es f.l.length).key < 0 := by
          refine cmpK_anti ?_ fun h3 => ?_
          · rw [hf.1] at h2 ⊢
            exact plc_at co key f.es h2
          · refine hf.2 ?_
            unfold fnd
            rw [← hf.1, decide_eq_true h2, decide_eq_true h3]
            rfl
        rw [e] at hx h1
        cases hr : f.r with
        | nil =>
          rw [hr] at hx
          cases hx
        | cons k r =>
          rw [hr] at hx h1
          rw [flatZ] at hx h1
          rcases List.mem_cons.1 hx with rfl | hx
          · exact hgt
          · exact cmpK_trans hgt ((List.pairwise_cons.1 h1.1).1 x hx)
      · rw [List.drop_of_length_le h2] at hx
        cases hx
    · exact suf_gt hC.2.2.2 (fun g hg => hL g (List.mem_cons_of_mem _ hg)) h1.2.1 x hx
structure Sz (mo rm : Int) (lo hi rt : Nat) : Prop where
  emo : mo = (hi : Int)
  erm : rm = (rt : Int)
  elo : lo = hi / 2
  hi3 : 3 ≤ hi
  hi8 : hi ≤ 8
  lr : lo ≤ rt
  rh : rt ≤ hi
theorem sz_of {mo rm : Int} (h : sizE mo rm = 0) : Sz mo rm (mo.toNat / 2) mo.toNat rm.toNat := by
  have h1 := sizE_0 h
  constructor <;> omega
structure VT (co : Int) (lo hi rt d : Nat) (T : BT) : Prop where
  idx : T.idx = 0
  bel : Bel lo hi d T
  root : T.es.length ≤ rt
  gap : NoGap rt T
  srt : Srt co T.flat
  ents : ∀ x ∈ T.flat, entE co x = 0
theorem nodesL_in {k : BT} {p : Nat × Nd} : ∀ {ks : List BT}, p ∈ nodesL ks → ∃ k ∈ ks, p ∈ k.nodes
  | [], h => by
    rw [nodesL] at h
    cases h
  | x :: ks, h => by
    rw [nodesL] at h
    rcases List.mem_append.1 h with h | h
    · exact ⟨x, List.mem_cons_self .., h⟩
    · obtain ⟨k, hk, h2⟩ := nodesL_in (k := k) h
      exact ⟨k, List.mem_cons_of_mem _ hk, h2⟩
theorem nodes_sm {lo hi : Nat} : ∀ {d : Nat} {T : BT}, Bel lo hi d T → ∀ {n : Nat}, hi ≤ n → T.es.length ≤ n → ∀ p ∈ T.nodes, p.2.es.length ≤ n + 1 ∧ p.2.cs.length ≤ n + 1
  | 0, .nd i es ks, h, n, hn, hl, p, hp => by
    have e : ks = [] := h
    rw [e, BT.nodes, nodesL] at hp
    rcases List.mem_cons.1 hp with rfl | hp
    · exact ⟨Nat.le_succ_of_le hl, by show 0 ≤ _; omega⟩
    · cases hp
  | d + 1, .nd i es ks, h, n, hn, hl, p, hp => by
    rw [BT.nodes] at hp
    have hl' : es.length ≤ n := hl
    have h1 : ks.length = es.length + 1 := h.1
    rcases List.mem_cons.1 hp with rfl | hp
    · refine ⟨Nat.le_succ_of_le hl, ?_⟩
      show (idxs ks).length ≤ _
      rw [idxs_len]
      omega
    · obtain ⟨k, hk, hp⟩ := nodesL_in (k := default) hp
      have h2 := bal_iff.1 (h.2 k hk)
      exact nodes_sm h2.1 hn (by omega) p hp
theorem RepT.sm {ns : List Nd} {T : BT} {lo hi d n : Nat} (h : RepT ns T) (hB : Bel lo hi d T) (hn : hi ≤ n) (hl : T.es.length ≤ n) : Sm (n + 1) ns := fun k => by
  rcases Nat.lt_or_ge k ns.length with hk | hk
  · by_cases hm : k ∈ T.nodes.map Prod.fst
    · obtain ⟨p, hp, rfl⟩ := List.mem_map.1 hm
      have h1 := RepN.at_ (i := p.1) (x := p.2) h hp
      rw [h1.2]
      exact nodes_sm hB hn hl p hp
    · rw [h.rest k hk hm]
      exact ⟨Nat.zero_le _, Nat.zero_le _⟩
  · rw [nth_out hk]
    exact ⟨Nat.zero_le _, Nat.zero_le _⟩
theorem lowR_low {ns : List Nd} {T : BT} (h : RepT ns T) (h0 : T.idx = 0) : lowR ns = lowN ns := by
  have hr := h.root
  rw [h0] at hr
  unfold lowR lowN
  rw [h.frs h0, freN_nth hr.1 (by rw [hr.2])]
structure RootGrown (mo rm : Int) (lo hi rt m : Nat) (ns : List Nd) (fl : List TEnt) : Prop where
  ok : RootOk mo rm ns
  okR : RootROk mo rm ns
  same : grwRR mo rm ns = grwR mo rm ns
  tree : ∃ T d, RepT (grwR mo rm ns) T ∧ T.idx = 0 ∧ Bel lo hi d T ∧ T.es.length ≤ rt ∧ NoGap rt T ∧ T.flat = fl
  len : ns.length ≤ (grwR mo rm ns).length ∧ (grwR mo rm ns).length ≤ ns.length + 2
  last : LastU (grwR mo rm ns)
theorem grow_root {mo rm : Int} {lo hi rt d m : Nat} {ns : List Nd} {T : BT} (hz : Sz mo rm lo hi rt) (hR : RepT ns T) (h0 : T.idx = 0) (hB : Bel lo hi d T) (hb : T.es.length ≤ rt + 1) (hg : NoGap rt T) (hs : Sm m ns) (hm : 1 ≤ m ∧ m ≤ 880) (hl : ns.length ≤ 880) (hu : LastU ns) : RootGrown mo rm lo hi rt m ns T.flat := by
  cases T with
  | nd i es ks =>
  have hi0 : i = 0 := h0
  subst hi0
  have hmo := hz.emo; have hrm := hz.erm; have hlo := hz.elo; have hi3 := hz.hi3; have hi8 := hz.hi8; have hlr := hz.lr; have hrh := hz.rh
  have hat : 0 < ns.length ∧ nth ns 0 = ⟨true, es, idxs ks⟩ := RepT.root hR
  have hb' : es.length ≤ rt + 1 := hb
  have hlow := lowR_low hR h0
  have hrl := (rep_low hR).2
  have hrl2 : RepT (lowN ns).2 (plug [⟨0, [], [], []⟩] (.nd (freN ns).1 es ks)) := hrl
  have hown : (lowN ns).1 < (lowN ns).2.length ∧ nth (lowN ns).2 (lowN ns).1 = ⟨true, es, idxs ks⟩ := RepT.at_ hrl2
  have hC : CtxOk lo hi rt d [⟨0, [], [], []⟩] := ⟨⟨fun k hk => (nomatch hk), fun k hk => (nomatch hk)⟩, rfl, ⟨fun _ => Nat.zero_le _, fun h => absurd rfl h⟩, trivial⟩
  have hll := lowN_len ns
  have hsl : Sm 900 (lowN ns).2 := (hs.low hm.1).mono (by omega)
  have hspl : splM mo < es.length → SpOk mo (lowN ns).2 (lowN ns).1 := fun h => spl_ok hrl2 hC (show Bel lo hi d (.nd (freN ns).1 es ks) by cases d <;> exact hB) (by omega) (by omega) hsl h
  have hsplR : SpOk mo (lowN ns).2 (lowN ns).1 → SpROk mo (lowN ns).2 0 (lowN ns).1 := fun h => spr_ok hrl2 rfl h
  have hspE : splR mo (lowN ns).2 0 (lowN ns).1 = splN mo (lowN ns).2 (lowN ns).1 := splR_eq (mo := mo) hrl2 rfl
  have hbig : mo < ((nth (lowN ns).2 (lowN ns).1).es.length : Int) → splM mo < es.length := fun h => by
    rw [hown.2] at h
    simp only [] at h
    unfold splM
    omega
  have hnB : Bel lo hi d (.nd (freN ns).1 es ks) := by cases d <;> exact hB
  refine ⟨⟨hat.1, by omega, by rw [hat.2], fun _ h => hspl (hbig h)⟩, ⟨hat.1, by omega, by rw [hat.2], fun _ h => by rw [hlow] at h ⊢; exact hsplR (hspl (hbig h))⟩, ?_, ?_, ?_, ?_⟩
  · unfold grwRR grwR
    rw [hlow, hspE]
  · unfold grwR
    rw [hat.2, hown.2]
    simp only []
    by_cases h1 : rm < (es.length : Int)
    · rw [if_pos h1]
      by_cases h2 : mo < (es.length : Int)
      · rw [if_pos h2]
        have hsp := (rep_split (mo := mo) hrl2).2.2
        have hE : splM mo < es.length := by unfold splM; omega
        have hle : es.length = hi + 1 := by omega
        refine ⟨_, d + 1, hsp, rfl, bel_split hmo hlo hC hnB hle, ?_, fun e => ?_, ?_⟩
        · show (insAt ([] : List TEnt) 0 _).length ≤ rt
          rw [ins_len (Nat.zero_le _)]
          simp only [List.length_nil]
          omega
        · exfalso
          have e2 : (insAt ([] : List TEnt) 0 (nth es (splM mo))).length = 0 := congrArg List.length e
          rw [ins_len (Nat.zero_le _)] at e2
          simp at e2
        · have hf := flat_split (mo := mo) (o := (freN (lowN ns).2).1) hC hnB hE
          refine hf.trans ?_
          show (BT.nd 0 [] [BT.nd (freN ns).1 es ks]).flat = _
          rw [BT.flat, flatL, flatL, List.append_nil, BT.flat, BT.flat]
      · rw [if_neg h2]
        refine ⟨_, d + 1, hrl, rfl, ⟨rfl, fun k hk => ?_⟩, Nat.zero_le _, fun _ k hk => ?_, ?_⟩
        · rcases List.mem_singleton.1 hk
          exact bal_iff.2 ⟨hnB, by show lo ≤ es.length ∧ es.length ≤ hi; omega⟩
        · have : BT.nd (freN ns).1 es ks = k := (List.cons.inj hk).1
          rw [← this]
          show rt < es.length
          omega
        · rw [BT.flat, flatL, flatL, List.append_nil, BT.flat, BT.flat]
    · rw [if_neg h1]
      exact ⟨_, d, hR, rfl, hB, by show es.length ≤ rt; omega, hg, rfl⟩
  · unfold grwR
    split
    · split
      · have := splN_len mo (lowN ns).2 (lowN ns).1
        omega
      · omega
    · omega
  · unfold grwR
    split
    · split
      · exact hu.low.spl _ _
      · exact hu.low
    · exact hu
theorem vt_desc {co : Int} {lo hi rt d : Nat} {ns : List Nd} {T : BT} (hR : RepT ns T) (hV : VT co lo hi rt d T) (key : List UInt8) : ∃ D T' d', plug D T' = T ∧ CtxOk lo hi rt d' D ∧ Bel lo hi d' T' ∧ ((D = [] → T'.es.length ≤ rt) ∧ (D ≠ [] → lo ≤ T'.es.length ∧ T'.es.length ≤ hi)) ∧ d' + D.length = d ∧ d < ns.length ∧
    (pathN co ns key).1 = (D.map Fr.i).reverse ++ [T'.idx] ∧ (pathN co ns key).2 = (plc co T'.es key, fnd co T'.es key) ∧ (fnd co T'.es key = true ∨ T'.ks = []) ∧ Leads co key D := by
  have h1 := bel_deep hV.bel
  have h2 := hR.nlen
  obtain ⟨D, T', d', e1, e2, e3, e4, e5, e6, e7, e8, e9⟩ := desc (key := key) (rt := rt) (co := co) ns.length d [] T hR trivial hV.bel ⟨fun _ => hV.root, fun h => absurd rfl h⟩ (by omega)
  rw [hV.idx] at e6 e7
  simp only [List.append_nil] at e2 e4
  exact ⟨D, T', d', e1, e2, e3, e4, e5, by omega, e6, e7, e8, e9⟩
theorem last_app (A : List Nat) (i : Nat) : lastN (A ++ [i]) = i := by
  unfold lastN
  rw [List.length_append, List.length_singleton, Nat.add_sub_cancel]
  exact nth_mid' A i []
structure Inserted (co mo rm : Int) (lo hi rt : Nat) (ns : List Nd) (x : TEnt) (fl : List TEnt) : Prop where
  ok : InsOk co mo rm ns x
  okR : InsROk co mo rm ns x
  same : insR co mo rm ns x = insT co mo rm ns x
  tree : ∃ T d, RepT (insT co mo rm ns x) T ∧ VT co lo hi rt d T ∧ T.flat = insAt fl (plc co fl x.key) x
  len : ns.length ≤ (insT co mo rm ns x).length ∧ (insT co mo rm ns x).length ≤ 2 * ns.length + 2
  last : LastU (insT co mo rm ns x)
theorem es_sub : ∀ (es : List TEnt) (ks : List BT), es.Sublist (flatL es ks)
  | es, [] => by rw [flatL_nil]; exact List.Sublist.refl _
  | [], k :: ks => List.nil_sublist _
  | e :: es, k :: ks => by
    rw [flatL]
    exact ((es_sub es ks).cons_cons e).trans (List.sublist_append_right _ _)
theorem path_has {co : Int} {lo hi rt d : Nat} {ns : List Nd} {T : BT} (hR : RepT ns T) (hV : VT co lo hi rt d T) (key : List UInt8) : (pathN co ns key).2.2 = true ↔ HasK co T.flat key := by
  obtain ⟨D, T', d', e1, e2, e3, e4, e5, e6, e7, e8, e9, e10⟩ := vt_desc hR hV key
  have hfl : T.flat = preC D ++ (T'.flat ++ sufC D) := by rw [← e1]; exact plug_flat e2
  have hs := hV.srt
  rw [hfl] at hs
  have h1 := List.pairwise_append.1 hs
  have h2 := List.pairwise_append.1 h1.2.1
  rw [e8, hfl]
  simp only []
  cases T' with
  | nd i es ks =>
  constructor
  · intro h
    have hsub := es_sub es ks
    have hses : Srt co es := h2.1.sublist (by rw [BT.flat]; exact hsub)
    obtain ⟨y, hy, hc⟩ := (hasK_fnd hses).2 h
    exact ⟨y, List.mem_append_right _ (List.mem_append_left _ (by rw [BT.flat]; exact hsub.subset hy)), hc⟩
  · intro h
    rcases e9 with h9 | h9
    · exact h9
    · have hk : ks = [] := h9
      subst hk
      obtain ⟨y, hy, hc⟩ := h
      rw [flat_leaf] at hy h2
      refine (hasK_fnd (show Srt co es from h2.1)).1 ?_
      rcases List.mem_append.1 hy with hy | hy
      · have := pre_lt e2 e10 h1.1 y hy
        omega
      · rcases List.mem_append.1 hy with hy | hy
        · exact ⟨y, hy, hc⟩
        · have := suf_gt e2 e10 h2.2.1 y hy
          have := cmpK_swap co y.key key
          omega
theorem ins_all {co mo rm : Int} {lo hi rt d : Nat} {ns : List Nd} {T : BT} {x : TEnt} (hz : Sz mo rm lo hi rt) (hR : RepT ns T) (hV : VT co lo hi rt d T) (hl : ns.length ≤ 400) (hu : LastU ns) (hx : entE co x = 0) (hnf : ¬ (pathN co ns x.key).2.2 = true) : Inserted co mo rm lo hi rt ns x T.flat := by
  have hnk : ¬ HasK co T.flat x.key := fun h => hnf ((path_has hR hV x.key).2 h)
  have hsmT := hR.sm hV.bel (Nat.le_refl hi) (Nat.le_trans hV.root hz.rh)
  obtain ⟨D, T', d', e1, e2, e3, e4, e5, e6, e7, e8, e9, e10⟩ := vt_desc hR hV x.key
  rw [e8] at hnf
  have hks : T'.ks = [] := e9.resolve_left hnf
  cases T' with
  | nd i es ks =>
  have hk0 : ks = [] := hks
  subst hk0
  have hi8 := hz.hi8; have hi3 := hz.hi3; have hrh := hz.rh
  have hR1 : RepT ns (plug D (.nd i es [])) := by rw [e1]; exact hR
  have hat : i < ns.length ∧ nth ns i = ⟨true, es, []⟩ := RepT.at_ hR1
  have hfl : T.flat = preC D ++ (es ++ sufC D) := by rw [← e1, plug_flat e2, flat_leaf]
  have hsr := hV.srt
  rw [hfl] at hsr
  have hs1 := List.pairwise_append.1 hsr
  have hs2 := List.pairwise_append.1 hs1.2.1
  have hple := plc_le co x.key es
  have hb4 : es.length ≤ hi := by
    by_cases hD : D = []
    · have : es.length ≤ rt := e4.1 hD
      omega
    · exact (e4.2 hD).2
  have hlf : lastN (pathN co ns x.key).1 = i := by rw [e7]; exact last_app _ _
  have hlf2 : leafN co ns x.key = i := hlf
  have hpl : (pathN co ns x.key).2.1 = plc co es x.key := by rw [e8]; rfl
  have hinsB : insB co ns x = esN ns i (insAt es (plc co es x.key) x) := by
    unfold insB
    rw [hlf2, hpl, hat.2]
  have hPl : (pathN co ns x.key).1.length = D.length + 1 := by rw [e7]; simp
  have hPr : (pathN co ns x.key).1.reverse = i :: D.map Fr.i := by
    rw [e7]
    simp
    rfl
  have hidx : (plug D (.nd i (insAt es (plc co es x.key) x) [])).idx = 0 := by
    rw [plug_idx D (.nd i (insAt es (plc co es x.key) x) []) (.nd i es []) rfl, e1]
    exact hV.idx
  have hgc : GapC rt D es.length := gapC_of (T := .nd i es []) e2 (by rw [e1]; exact hV.gap)
  have hil : (insAt es (plc co es x.key) x).length = es.length + 1 := ins_len hple
  have hG := grow_up (lo := lo) (hi := hi) (rt := rt) hz.emo hz.elo (by omega) hz.rh (pathN co ns x.key).1 D d' (hi + 2) (esN ns i (insAt es (plc co es x.key) x)) (.nd i (insAt es (plc co es x.key) x) []) (rep_es hR1 _) hidx e2 (show Bel lo hi d' (.nd i _ []) by
      have := e3.leaf rfl
      subst this
      rfl) ⟨fun h => by show (insAt es _ x).length ≤ _; rw [hil]; have := e4.1 h; exact Nat.succ_le_succ this, fun h => by show lo ≤ (insAt es _ x).length ∧ (insAt es _ x).length ≤ _; rw [hil]; have h9 := e4.2 h; exact ⟨Nat.le_succ_of_le h9.1, Nat.succ_le_succ h9.2⟩⟩ (hgc.mono (by show es.length ≤ (insAt es _ x).length; omega)) (fun _ e => by
        intro k hk
        cases hk) ((hsmT.mono (by omega)).es i (by rw [hil]; omega)) (by omega) (by rw [esN_len]; omega) (hu.es _ _) (by
        show (pathN co ns x.key).1.take (D.length + 1) = (i :: D.map Fr.i).reverse
        rw [← hPl, List.take_length, ← hPr, List.reverse_reverse])
  have hfl2 : (plug D (.nd i (insAt es (plc co es x.key) x) [])).flat = insAt T.flat (plc co T.flat x.key) x := by
    rw [plug_flat e2, flat_leaf, hfl, plc_app1 (pre_lt e2 e10 hs1.1), plc_app2 (suf_gt e2 e10 hs2.2.1), insAt_app hple]
  rw [hfl2] at hG
  have hsrt := srt_ins (x := x) hV.srt hnk
  obtain ⟨T1, d1, g1, g2, g3, g4, g5, g6⟩ := hG.tree
  have hglen := hG.len
  rw [esN_len] at hglen
  have hRt := grow_root hz g1 g2 g3 g4 g5 hG.sm (by omega) (by omega) hG.last
  rw [g6] at hRt
  have hiT : insT co mo rm ns x = grwR mo rm (grwW mo (esN ns i (insAt es (plc co es x.key) x)) (i :: D.map Fr.i)) := by
    unfold insT
    rw [if_neg (by rw [e8]; exact hnf), hinsB, hPr]
    rfl
  have hesR : esN ns (lastN (pathN co ns x.key).1) (insAt (nth ns (lastN (pathN co ns x.key).1)).es (plc co (nth ns (lastN (pathN co ns x.key).1)).es x.key) x) = esN ns i (insAt es (plc co es x.key) x) := by
    rw [hlf, hat.2]
  have hsub : (pathN co ns x.key).1.length - 1 = D.length := by omega
  refine ⟨⟨by omega, by omega, by rw [hlf2]; exact hat.1, by rw [hlf2, hat.2]; show es.length ≤ 900; omega, by rw [hlf2, hat.2, hpl]; exact hple, by rw [hinsB, hPr]; exact hG.ok, by rw [hinsB, hPr]; exact hRt.ok⟩, ⟨by omega, by omega, by rw [hlf]; exact hat.1, by rw [hesR, hsub]; exact hG.okR, by rw [hesR, hsub, hG.same]; exact hRt.okR⟩, ?_, ?_, ?_, ?_⟩
  · unfold insR
    simp only []
    rw [hesR, hsub, hG.same, hiT]
    exact hRt.same
  · rw [hiT]
    obtain ⟨T2, d2, t1, t2, t3, t4, t5, t6⟩ := hRt.tree
    refine ⟨T2, d2, t1, ⟨t2, t3, t4, t5, by rw [t6]; exact hsrt, fun y hy => ?_⟩, t6⟩
    rw [t6] at hy
    unfold insAt at hy
    rcases List.mem_append.1 hy with hy | hy
    · exact hV.ents y (List.mem_of_mem_take hy)
    · rcases List.mem_cons.1 hy with rfl | hy
      · exact hx
      · exact hV.ents y (List.mem_of_mem_drop hy)
  · rw [hiT]
    have h9 : ns.length ≤ (grwW mo (esN ns i (insAt es (plc co es x.key) x)) (i :: D.map Fr.i)).length ∧ (grwW mo (esN ns i (insAt es (plc co es x.key) x)) (i :: D.map Fr.i)).length ≤ ns.length + D.length := hglen
    have h8 := hRt.len
    simp only [BT.idx] at h8
    omega
  · rw [hiT]
    exact hRt.last
def btN (ns : List Nd) : Nat → Nat → BT
  | 0, i => .nd i [] []
  | f + 1, i => .nd i (nth ns i).es ((nth ns i).cs.map fun c => btN ns f c.toNat)
theorem btN_idx (ns : List Nd) (f i : Nat) : (btN ns f i).idx = i := by cases f <;> rfl
theorem idxs_map {ns : List Nd} {f : Nat} : ∀ {cs : List Int}, (∀ c ∈ cs, 0 ≤ c) → idxs (cs.map fun c => btN ns f c.toNat) = cs
  | [], _ => rfl
  | c :: cs, h => by
    rw [List.map_cons, idxs_cons, idxs_map fun x hx => h x (List.mem_cons_of_mem _ hx), btN_idx, Int.toNat_of_nonneg (h c (List.mem_cons_self ..))]
theorem nodesL_map {α : Type} (g : α → BT) : ∀ (cs : List α), nodesL (cs.map g) = cs.flatMap fun c => (g c).nodes
  | [] => rfl
  | c :: cs => by rw [List.map_cons, nodesL, nodesL_map g cs, List.flatMap_cons]
theorem flat_congr {α β : Type} {f g : α → List β} : ∀ {l : List α}, (∀ x ∈ l, f x = g x) → l.flatMap f = l.flatMap g
  | [], _ => rfl
  | a :: l, h => by rw [List.flatMap_cons, List.flatMap_cons, h a (List.mem_cons_self ..), flat_congr fun x hx => h x (List.mem_cons_of_mem _ hx)]
theorem range_flat {α : Type} (F : Int → List α) : ∀ (cs : List Int), ((List.range cs.length).flatMap fun k => F (cs.getD k 0)) = cs.flatMap F
  | [] => rfl
  | c :: cs => by
    rw [List.length_cons, List.range_succ_eq_map, List.flatMap_cons, List.flatMap_map, List.flatMap_cons, ← range_flat F cs]
    rfl
theorem way_uniq {co : Int} {ns : List Nd} (hT : TOk co ns) : ∀ {A B : List Nat} {c : Nat}, Gx.Way ns (c :: A) → Gx.Way ns (c :: B) → A = B
  | [], [], _, _, _ => rfl
  | [], q :: B, c, h, h2 => by
    have h0 : c = 0 := h
    have := (hT.kid q h2.1.2 _ h2.1.1).1.1
    omega
  | p :: A, [], c, h, h2 => by
    have h0 : c = 0 := h2
    have := (hT.kid p h.1.2 _ h.1.1).1.1
    omega
  | p :: A, q :: B, c, h, h2 => by
    have e : p = q := flat_parent (f := Nd.cs) hT.once h.1.2 h2.1.2 h.1.1 h2.1.1
    subst e
    rw [way_uniq hT h.2 h2.2]
section
variable {co : Int} {ns : List Nd}
theorem way_c (hT : TOk co ns) {i : Nat} {P : List Nat} {c : Int} (hw : Gx.Way ns (i :: P)) (hi : i < ns.length) (hc : c ∈ (nth ns i).cs) : Gx.Way ns (c.toNat :: i :: P) := by
  refine ⟨⟨?_, hi⟩, hw⟩
  rw [Int.toNat_of_nonneg (by have := (hT.kid i hi c hc).1.1; omega)]
  exact hc
theorem way_hd (hT : TOk co ns) (h0 : 0 < ns.length) {i : Nat} {P : List Nat} (hw : Gx.Way ns (i :: P)) : i < ns.length := way_lt hT h0 hw i (List.mem_cons_self ..)
theorem way_us (hT : TOk co ns) (h0 : 0 < ns.length) : ∀ {i : Nat} {P : List Nat}, Gx.Way ns (i :: P) → (nth ns i).us = true
  | i, [], h => by
    have e : i = 0 := h
    subst e
    cases hu : (nth ns 0).us with
    | true => rfl
    | false =>
      have := (hT.free 0 h0 hu).1.1
      omega
  | i, p :: P, h => by
    have := (hT.kid p h.1.2 _ h.1.1).2
    exact this
theorem btN_get (hT : TOk co ns) (h0 : 0 < ns.length) : ∀ (f i : Nat) (P : List Nat), Gx.Way ns (i :: P) → P.length + f = ns.length → ∀ p ∈ (btN ns f i).nodes, ns[p.1]? = some p.2 ∧ ∃ Q R, Gx.Way ns (Q ++ i :: P) ∧ Q ++ i :: P = p.1 :: R
  | 0, i, P, hw, hf, p, hp => by
    have := way_len hT h0 hw
    simp only [List.length_cons] at this
    omega
  | f + 1, i, P, hw, hf, p, hp => by
    have hi := way_hd hT h0 hw
    have hk : ∀ c ∈ (nth ns i).cs, 0 ≤ c := fun c hc => by
      have := (hT.kid i hi c hc).1.1
      omega
    rw [btN, BT.nodes, idxs_map hk, nodesL_map] at hp
    rcases List.mem_cons.1 hp with rfl | hp
    · refine ⟨?_, [], P, hw, rfl⟩
      have hu := way_us hT h0 hw
      rw [nth_get hi]
      show some (nth ns i) = some ⟨true, (nth ns i).es, (nth ns i).cs⟩
      rw [← hu]
    · obtain ⟨c, hc, hp⟩ := List.mem_flatMap.1 hp
      obtain ⟨h1, Q, R, h2, h3⟩ := btN_get hT h0 f c.toNat (i :: P) (way_c hT hw hi hc) (by simp only [List.length_cons]; omega) p hp
      refine ⟨h1, Q ++ [c.toNat], R, ?_, ?_⟩
      · rw [List.append_assoc]
        exact h2
      · rw [List.append_assoc]
        exact h3
theorem btN_nd (hT : TOk co ns) (h0 : 0 < ns.length) : ∀ (f i : Nat) (P : List Nat), Gx.Way ns (i :: P) → P.length + f = ns.length → ((btN ns f i).nodes.map Prod.fst).Nodup
  | 0, i, P, hw, hf => by
    have := way_len hT h0 hw
    simp only [List.length_cons] at this
    omega
  | f + 1, i, P, hw, hf => by
    have hi := way_hd hT h0 hw
    have hlen : (i :: P).length + f = ns.length := by simp only [List.length_cons]; omega
    rw [btN, BT.nodes, nodesL_map, List.map_cons, List.map_flatMap]
    refine List.nodup_cons.2 ⟨fun hm => ?_, ?_⟩
    · obtain ⟨c, hc, hm⟩ := List.mem_flatMap.1 hm
      obtain ⟨p, hp, e⟩ := List.mem_map.1 hm
      obtain ⟨_, Q, R, h2, h3⟩ := btN_get hT h0 f c.toNat (i :: P) (way_c hT hw hi hc) hlen p hp
      rw [h3, e] at h2
      have h4 := way_uniq hT h2 hw
      have h5 := congrArg List.length h3
      rw [h4] at h5
      simp only [List.length_append, List.length_cons] at h5
      omega
    · refine List.pairwise_flatMap.2 ⟨fun c hc => btN_nd hT h0 f c.toNat (i :: P) (way_c hT hw hi hc) hlen, ?_⟩
      refine (flat_nodup (f := Nd.cs) hT.once hi).imp_of_mem fun {c c'} hc hc' hne x hx y hy exy => ?_
      subst exy
      obtain ⟨p, hp, e⟩ := List.mem_map.1 hx
      obtain ⟨q, hq, e'⟩ := List.mem_map.1 hy
      obtain ⟨_, Q, R, h2, h3⟩ := btN_get hT h0 f c.toNat (i :: P) (way_c hT hw hi hc) hlen p hp
      obtain ⟨_, Q', R', h2', h3'⟩ := btN_get hT h0 f c'.toNat (i :: P) (way_c hT hw hi hc') hlen q hq
      rw [e] at h3
      rw [e'] at h3'
      have h4 := way_uniq hT (h3 ▸ h2) (h3' ▸ h2')
      have h5 : Q ++ c.toNat :: i :: P = Q' ++ c'.toNat :: i :: P := by rw [h3, h3', h4]
      have h6 : Q.length = Q'.length := by
        have := congrArg List.length h5
        simp only [List.length_append, List.length_cons] at this
        omega
      have h7 := (List.append_inj h5 h6).2
      have h8 : c.toNat = c'.toNat := (List.cons.inj h7).1
      have k1 := (hT.kid i hi c hc).1.1
      have k2 := (hT.kid i hi c' hc').1.1
      exact hne (by omega)
theorem vis_bt (hT : TOk co ns) (h0 : 0 < ns.length) : ∀ (f : Nat) (v : Vis) (P : List Nat), Gx.Way ns (v.i :: P) → P.length + f = ns.length → (vis ns f v).map Vis.i = (btN ns f v.i).nodes.map Prod.fst
  | 0, v, P, hw, hf => by
    have := way_len hT h0 hw
    simp only [List.length_cons] at this
    omega
  | f + 1, v, P, hw, hf => by
    have hi := way_hd hT h0 hw
    rw [vis, btN, BT.nodes, nodesL_map, List.map_cons, List.map_cons, List.map_flatMap, List.map_flatMap]
    congr 1
    rw [← range_flat]
    refine flat_congr fun k hk => ?_
    have hkl := List.mem_range.1 hk
    have hc : (nth ns v.i).cs.getD k 0 ∈ (nth ns v.i).cs := by
      rw [List.getD_eq_getElem?_getD, List.getElem?_eq_getElem hkl]
      exact List.getElem_mem hkl
    exact vis_bt hT h0 f ⟨((nth ns v.i).cs.getD k 0).toNat, v.d + 1, loK (nth ns v.i).es k v.lo, hiK (nth ns v.i).es k v.hi⟩ (v.i :: P) (way_c hT hw hi hc) (by simp only [List.length_cons]; omega)
end
def InB (co : Int) (lo hi : Option (List UInt8)) (x : TEnt) : Prop := (∀ b, lo = some b → cmpK co b x.key < 0) ∧ (∀ b, hi = some b → cmpK co x.key b < 0)
theorem out_iff' {t : Tre} {v : Vis} {x : TEnt} : outB t v x = true ↔ (∃ b, v.lo = some b ∧ 0 ≤ cmpK t.co b x.key) ∨ (∃ b, v.hi = some b ∧ 0 ≤ cmpK t.co x.key b) := by
  unfold outB
  cases v.lo <;> cases v.hi <;> simp
theorem out_in {t : Tre} {v : Vis} {x : TEnt} (h : ¬ outB t v x = true) : InB t.co v.lo v.hi x := by
  rw [out_iff'] at h
  refine ⟨fun b hb => ?_, fun b hb => ?_⟩
  · rcases Int.lt_or_le (cmpK t.co b x.key) 0 with h1 | h1
    · exact h1
    · exact absurd (.inl ⟨b, hb, h1⟩) h
  · rcases Int.lt_or_le (cmpK t.co x.key b) 0 with h1 | h1
    · exact h1
    · exact absurd (.inr ⟨b, hb, h1⟩) h
theorem srt_flatL {co : Int} {hi : Option (List UInt8)} : ∀ {es : List TEnt} {ks : List BT} {lo : Option (List UInt8)}, ks.length = es.length + 1 → Srt co es → (∀ x ∈ es, InB co lo hi x) →
    (∀ k, k < ks.length → Srt co (nth ks k).flat ∧ ∀ x ∈ (nth ks k).flat, InB co (loK es k lo) (hiK es k hi) x) → Srt co (flatL es ks) ∧ ∀ x ∈ flatL es ks, InB co lo hi x
  | [], [], _, h, _, _, _ => absurd h (by simp)
  | [], k :: k' :: ks, _, h, _, _, _ => absurd h (by simp)
  | [], [k], lo, _, _, _, hk => by
    rw [flatL, flatL, List.append_nil]
    exact hk 0 (by simp)
  | e :: es, [], _, h, _, _, _ => absurd h (by simp)
  | e :: es, k :: ks, lo, hl, hs, hb, hk => by
    have hp := List.pairwise_cons.1 hs
    have he := hb e (List.mem_cons_self ..)
    have h0 := hk 0 (by simp)
    have e0 : nth (k :: ks) 0 = k := rfl
    have e1 : loK (e :: es) 0 lo = lo := if_neg (Nat.lt_irrefl 0)
    have e2 : hiK (e :: es) 0 hi = some e.key := if_pos (by simp)
    rw [e0, e1, e2] at h0
    have ih := srt_flatL (co := co) (hi := hi) (es := es) (ks := ks) (lo := some e.key) (by simpa using hl) hp.2 (fun x hx => ⟨fun b hb' => by injection hb' with hb'; subst hb'; exact hp.1 x hx, (hb x (List.mem_cons_of_mem _ hx)).2⟩) (fun q hq => by
      have h1 := hk (q + 1) (by simpa using hq)
      have e3 : nth (k :: ks) (q + 1) = nth ks q := rfl
      have e4 : loK (e :: es) (q + 1) lo = loK es q (some e.key) := by
        unfold loK
        rw [if_pos (by omega)]
        rcases Nat.eq_zero_or_pos q with h9 | h9
        · subst h9
          rfl
        · rw [if_pos h9]
          obtain ⟨r, rfl⟩ : ∃ r, q = r + 1 := ⟨q - 1, by omega⟩
          rfl
      have e5 : hiK (e :: es) (q + 1) hi = hiK es q hi := by
        unfold hiK
        by_cases h9 : q < es.length
        · rw [if_pos h9, if_pos (by simpa using h9)]
          rfl
        · rw [if_neg h9, if_neg (by simpa using h9)]
      rw [e3, e4, e5] at h1
      exact h1)
    rw [flatL]
    have hge : ∀ x ∈ flatL es ks, cmpK co e.key x.key < 0 := fun x hx => (ih.2 x hx).1 _ rfl
    have hle : ∀ x ∈ k.flat, cmpK co x.key e.key < 0 := fun x hx => (h0.2 x hx).2 _ rfl
    refine ⟨List.pairwise_append.2 ⟨h0.1, List.pairwise_cons.2 ⟨hge, ih.1⟩, fun x hx y hy => ?_⟩, fun x hx => ?_⟩
    · rcases List.mem_cons.1 hy with rfl | hy
      · exact hle x hx
      · exact cmpK_trans (hle x hx) (hge y hy)
    · rcases List.mem_append.1 hx with hx | hx
      · exact ⟨(h0.2 x hx).1, fun b hb' => cmpK_trans (hle x hx) (he.2 b hb')⟩
      · rcases List.mem_cons.1 hx with rfl | hx
        · exact he
        · exact ⟨fun b hb' => cmpK_trans (he.1 b hb') (hge x hx), (ih.2 x hx).2⟩
theorem shp_all {t : Tre} {deep : Int} : ∀ {vs : List Vis}, (shpF t deep vs).2 = 0 → ∀ v ∈ vs, visE t deep v = 0
  | [], _, v, hv => (nomatch hv)
  | u :: vs, h, v, hv => by
    rw [shpF] at h
    by_cases h1 : visE t deep u = 0
    · rw [if_pos h1] at h
      rcases List.mem_cons.1 hv with rfl | hv
      · exact h1
      · exact shp_all h v hv
    · rw [if_neg h1] at h
      exact absurd h h1
theorem visE_0 {t : Tre} {deep : Int} {v : Vis} (h : visE t deep v = 0) : ¬ gapB t v = true ∧ (∀ x ∈ (nth t.ns v.i).es, InB t.co v.lo v.hi x) ∧ ((nth t.ns v.i).cs.length = 0 → v.d = deep + 1) := by
  rw [visE_eq] at h
  split at h
  · exact absurd h (by decide)
  · rename_i h1
    split at h
    · exact absurd h (by decide)
    · rename_i h2
      split at h
      · exact absurd h (by decide)
      · rename_i h3
        refine ⟨h1, fun x hx => out_in fun h4 => h2 ?_, fun h4 => ?_⟩
        · unfold outsB
          exact List.any_eq_true.2 ⟨x, hx, h4⟩
        · rcases Int.lt_trichotomy v.d (deep + 1) with h5 | h5 | h5
          · exact absurd ⟨h4, by omega⟩ h3
          · exact h5
          · exact absurd ⟨h4, by omega⟩ h3
theorem nods_most {t : Tre} (h : (nodsE t t.ns.length 0 []).2 = 0) {i : Nat} (hi : i < t.ns.length) (hu : (nth t.ns i).us = true) : ((nth t.ns i).es.length : Int) ≤ mostN t.mo t.rm i := by
  obtain ⟨s, hs⟩ := (nodsE_ok (f := t.ns.length) (i := 0) (by omega) h List.nodup_nil).1 i (Nat.zero_le _) hi
  rw [nodE_used t i hu] at hs
  have h4 : nE4 t i s = 0 := hs
  unfold nE4 at h4
  split at h4
  · rename_i h3
    have h2 := nE3_0 t i h3
    unfold nE2 at h2
    split at h2
    · rename_i h1
      unfold nE1 at h1
      split at h1
      · assumption
      · exact absurd h1 (by decide)
    · rename_i h1
      exact absurd h2 h1
  · rename_i h3
    exact absurd h4 h3
theorem chk_bal {t : Tre} {deep : Int} {lo hi rt : Nat} (hz : Sz t.mo t.rm lo hi rt) (hT : TOk t.co t.ns) (h0 : 0 < t.ns.length) (hmost : ∀ i, i < t.ns.length → (nth t.ns i).us = true → ((nth t.ns i).es.length : Int) ≤ mostN t.mo t.rm i) : ∀ (f : Nat) (v : Vis) (P : List Nat), Gx.Way t.ns (v.i :: P) → P.length + f = t.ns.length → (∀ u ∈ vis t.ns f v, visE t deep u = 0) →
    ∃ d : Nat, v.d + (d : Int) = deep + 1 ∧ Bel lo hi d (btN t.ns f v.i) ∧ Srt t.co (btN t.ns f v.i).flat ∧ ∀ x ∈ (btN t.ns f v.i).flat, InB t.co v.lo v.hi x
  | 0, v, P, hw, hf, _ => by
    have := way_len hT h0 hw
    simp only [List.length_cons] at this
    omega
  | f + 1, v, P, hw, hf, hE => by
    have hi' := way_hd hT h0 hw
    have hv := visE_0 (hE v (by rw [vis]; exact List.mem_cons_self ..))
    have hasc := Srt.of_asc (hT.asc v.i hi')
    rw [btN, BT.flat]
    rcases hT.shape v.i hi' with hs | hs
    · have hcs : (nth t.ns v.i).cs = [] := List.eq_nil_of_length_eq_zero hs
      rw [hcs, List.map_nil, flatL_nil]
      exact ⟨0, by have := hv.2.2 hs; simpa using this, rfl, hasc, hv.2.1⟩
    · have key : ∀ k, k < (nth t.ns v.i).cs.length → ∃ d : Nat, v.d + 1 + (d : Int) = deep + 1 ∧ Bal lo hi d (btN t.ns f ((nth t.ns v.i).cs.getD k 0).toNat) ∧ Srt t.co (btN t.ns f ((nth t.ns v.i).cs.getD k 0).toNat).flat ∧ ∀ x ∈ (btN t.ns f ((nth t.ns v.i).cs.getD k 0).toNat).flat, InB t.co (loK (nth t.ns v.i).es k v.lo) (hiK (nth t.ns v.i).es k v.hi) x := fun k hk => by
        have hc : (nth t.ns v.i).cs.getD k 0 ∈ (nth t.ns v.i).cs := by
          rw [List.getD_eq_getElem?_getD, List.getElem?_eq_getElem hk]
          exact List.getElem_mem hk
        have hwk := way_c hT hw hi' hc
        have hmem : ∀ u ∈ vis t.ns f (kidV t.ns v k), u ∈ vis t.ns (f + 1) v := fun u hu => by
          rw [vis]
          exact List.mem_cons_of_mem _ (List.mem_flatMap.2 ⟨k, List.mem_range.2 hk, hu⟩)
        obtain ⟨d, h1, h2, h3, h4⟩ := chk_bal hz hT h0 hmost f (kidV t.ns v k) (v.i :: P) hwk (by simp only [List.length_cons]; omega) fun u hu => hE u (hmem u hu)
        have hki := way_hd hT h0 hwk
        have hku := way_us hT h0 hwk
        have hk1 := (hT.kid v.i hi' _ hc).1.1
        obtain ⟨f', rfl⟩ : ∃ f', f = f' + 1 := by
          cases f with
          | zero =>
            have := way_len hT h0 hwk
            simp only [List.length_cons] at this
            omega
          | succ f' => exact ⟨f', rfl⟩
        have hkv := visE_0 (hE (kidV t.ns v k) (hmem _ (by rw [vis]; exact List.mem_cons_self ..)))
        refine ⟨d, h1, bal_iff.2 ⟨h2, ?_, ?_⟩, h3, h4⟩
        · have hg := hkv.1
          unfold gapB at hg
          simp only [Bool.and_eq_true, Bool.or_eq_true, decide_eq_true_eq, not_and, not_or] at hg
          have h5 := (hg (show 0 < (kidV t.ns v k).i by show 0 < ((nth t.ns v.i).cs.getD k 0).toNat; omega)).1
          have e1 := hz.emo; have e2 := hz.elo
          show lo ≤ (nth t.ns ((nth t.ns v.i).cs.getD k 0).toNat).es.length
          have h6 : ¬ ((nth t.ns ((nth t.ns v.i).cs.getD k 0).toNat).es.length : Int) < t.mo / 2 := h5
          omega
        · have h5 := hmost _ hki hku
          unfold mostN at h5
          rw [if_neg (by omega)] at h5
          have e1 := hz.emo
          show (nth t.ns ((nth t.ns v.i).cs.getD k 0).toNat).es.length ≤ hi
          omega
      obtain ⟨d, hd, _⟩ := key 0 (by omega)
      have hnk : ∀ k, k < (nth t.ns v.i).cs.length → nth ((nth t.ns v.i).cs.map fun c => btN t.ns f c.toNat) k = btN t.ns f ((nth t.ns v.i).cs.getD k 0).toNat := fun k hk => nth_eq (by
        rw [List.getElem?_map, List.getElem?_eq_getElem hk, List.getD_eq_getElem?_getD, List.getElem?_eq_getElem hk]
        rfl)
      have hfl := srt_flatL (co := t.co) (hi := v.hi) (es := (nth t.ns v.i).es) (ks := (nth t.ns v.i).cs.map fun c => btN t.ns f c.toNat) (lo := v.lo) (by rw [List.length_map]; exact hs) hasc hv.2.1 fun k hk => by
        rw [List.length_map] at hk
        rw [hnk k hk]
        obtain ⟨_, _, _, h3, h4⟩ := key k hk
        exact ⟨h3, h4⟩
      refine ⟨d + 1, by simp only [Int.natCast_add, Int.natCast_one]; omega, ⟨by show (List.map _ _).length = _; rw [List.length_map]; exact hs, fun k hk => ?_⟩, hfl.1, hfl.2⟩
      obtain ⟨c, hc, rfl⟩ := List.mem_map.1 hk
      obtain ⟨q, hq, rfl⟩ := List.getElem_of_mem hc
      obtain ⟨d2, hd2, h2, _⟩ := key q hq
      have e : d2 = d := by omega
      subst e
      rw [List.getD_eq_getElem?_getD, List.getElem?_eq_getElem hq] at h2
      exact h2
mutual
theorem flat_nodes : ∀ (T : BT) (x : TEnt), x ∈ T.flat → ∃ p ∈ T.nodes, x ∈ p.2.es
  | .nd i es ks, x, h => by
    rw [BT.flat] at h
    rw [BT.nodes]
    rcases flat_nodesL es ks x h with h | ⟨p, hp, hx⟩
    · exact ⟨_, List.mem_cons_self .., h⟩
    · exact ⟨p, List.mem_cons_of_mem _ hp, hx⟩
theorem flat_nodesL : ∀ (es : List TEnt) (ks : List BT) (x : TEnt), x ∈ flatL es ks → x ∈ es ∨ ∃ p ∈ nodesL ks, x ∈ p.2.es
  | es, [], x, h => by
    rw [flatL_nil] at h
    exact .inl h
  | [], k :: ks, x, h => by
    rw [flatL] at h
    rw [nodesL]
    rcases List.mem_append.1 h with h | h
    · obtain ⟨p, hp, hx⟩ := flat_nodes k x h
      exact .inr ⟨p, List.mem_append_left _ hp, hx⟩
    · rcases flat_nodesL [] ks x h with h | ⟨p, hp, hx⟩
      · exact .inl h
      · exact .inr ⟨p, List.mem_append_right _ hp, hx⟩
  | e :: es, k :: ks, x, h => by
    rw [flatL] at h
    rw [nodesL]
    rcases List.mem_append.1 h with h | h
    · obtain ⟨p, hp, hx⟩ := flat_nodes k x h
      exact .inr ⟨p, List.mem_append_left _ hp, hx⟩
    · rcases List.mem_cons.1 h with rfl | h
      · exact .inl (List.mem_cons_self ..)
      · rcases flat_nodesL es ks x h with h | ⟨p, hp, hx⟩
        · exact .inl (List.mem_cons_of_mem _ h)
        · exact .inr ⟨p, List.mem_append_right _ hp, hx⟩
end
theorem opn_none {ns : List Nd} {below : List Nat} : ∀ {f i : Nat}, opnF ns below f i = none → ∀ j, i ≤ j → j < i + f → (nth ns j).us = true → j ∈ below
  | 0, i, _, j, h1, h2, _ => by omega
  | f + 1, i, h, j, h1, h2, hu => by
    rw [opnF] at h
    split at h
    · cases h
    · rename_i h3
      rcases Nat.eq_or_lt_of_le h1 with rfl | h4
      · by_cases hm : i ∈ below
        · exact hm
        · exact absurd ⟨hu, hm⟩ h3
      · exact opn_none h j h4 (by omega) hu
theorem tre_vt {t : Tre} (h : (treE t).2 = 0) : ∃ T d, RepT t.ns T ∧ VT t.co (t.mo.toNat / 2) t.mo.toNat t.rm.toNat d T ∧ Sz t.mo t.rm (t.mo.toNat / 2) t.mo.toNat t.rm.toNat ∧ LastU t.ns := by
  obtain ⟨hc, hs, h0, hl, hn, hsh, _⟩ := treE_0 h
  have hT := tok_of hn
  have hz := sz_of hs
  have hop : opnF t.ns ((visT t.ns).map Vis.i) t.ns.length 0 = none := by
    cases e : opnF t.ns ((visT t.ns).map Vis.i) t.ns.length 0 with
    | none => rfl
    | some i =>
      rw [shapE_some e] at hsh
      have h21 : (21 : Int) = 0 := hsh
      exact absurd h21 (by decide)
  rw [shapE_none hop] at hsh
  have hall := shp_all hsh
  have hmost := fun i hi hu => nods_most (t := t) hn (i := i) hi hu
  have hw : Gx.Way t.ns [0] := rfl
  obtain ⟨d, hd, hB, hS, _⟩ := chk_bal hz hT h0 hmost t.ns.length root0 [] hw (by simp) hall
  have hvb := vis_bt hT h0 t.ns.length root0 [] hw (by simp)
  have hget := btN_get hT h0 t.ns.length 0 [] hw (by simp)
  have hR : RepT t.ns (btN t.ns t.ns.length 0) := by
    refine ⟨fun p hp => (hget p hp).1, btN_nd hT h0 t.ns.length 0 [] hw (by simp), fun i hi hm => ?_⟩
    cases hu : (nth t.ns i).us with
    | true =>
      have := opn_none hop i (Nat.zero_le _) (by omega) hu
      exact absurd (hvb ▸ this) hm
    | false =>
      have h1 := hT.free i hi hu
      have h2 := h1.2
      cases hnd : nth t.ns i with
      | mk us es cs =>
        rw [hnd] at h2 hu
        simp only at h2 hu
        rw [hu, h2.1, h2.2]
  have hroot := hR.root
  rw [btN_idx] at hroot
  have hes : (btN t.ns t.ns.length 0).es = (nth t.ns 0).es := by rw [hroot.2]
  have hu0 : (nth t.ns 0).us = true := by rw [hroot.2]
  refine ⟨_, d, hR, ⟨btN_idx _ _ _, hB, ?_, fun e k hk => ?_, hS, fun x hx => ?_⟩, hz, ?_⟩
  · have h1 := hmost 0 h0 hu0
    unfold mostN at h1
    rw [if_pos rfl] at h1
    rw [hes]
    have := hz.erm
    omega
  · obtain ⟨f, hf⟩ : ∃ f, t.ns.length = f + 1 := ⟨t.ns.length - 1, by omega⟩
    have hkm : k ∈ (btN t.ns t.ns.length 0).ks := by rw [hk]; exact List.mem_cons_self ..
    have hk' := hkm
    rw [hf] at hk'
    obtain ⟨c, hcm, rfl⟩ := List.mem_map.1 (show k ∈ (nth t.ns 0).cs.map fun c => btN t.ns f c.toNat from hk')
    have hwk := way_c hT hw h0 hcm
    have hki := way_hd hT h0 hwk
    obtain ⟨f', rfl⟩ : ∃ f', f = f' + 1 := by
      cases f with
      | zero =>
        have := way_len hT h0 hwk
        simp only [List.length_cons, List.length_nil] at this
        omega
      | succ f' => exact ⟨f', rfl⟩
    have hk1 := (hT.kid 0 h0 c hcm).1.1
    have hgv : ∃ v ∈ visT t.ns, v.i = c.toNat := by
      have : c.toNat ∈ (visT t.ns).map Vis.i := by
        show c.toNat ∈ (vis t.ns t.ns.length root0).map Vis.i
        rw [hvb, hf]
        rw [show root0.i = 0 from rfl, btN, BT.nodes, nodesL_map, List.map_cons]
        refine List.mem_cons_of_mem _ (List.mem_map.2 ?_)
        have hid := (btN t.ns (f' + 1) c.toNat).idx_mem
        rw [btN_idx] at hid
        obtain ⟨p, hp, ep⟩ := List.mem_map.1 hid
        exact ⟨p, List.mem_flatMap.2 ⟨c, hcm, hp⟩, ep⟩
      obtain ⟨v, hv, e⟩ := List.mem_map.1 this
      exact ⟨v, hv, e⟩
    obtain ⟨v, hv, hvi⟩ := hgv
    have hg := (visE_0 (hall v hv)).1
    unfold gapB at hg
    simp only [Bool.and_eq_true, Bool.or_eq_true, decide_eq_true_eq, not_and, not_or] at hg
    have h5 := (hg (by omega)).2 ⟨by rw [← hes, e]; rfl, by rw [hvi, Int.toNat_of_nonneg (by omega)]; exact hcm⟩
    rw [hvi] at h5
    show t.rm.toNat < (nth t.ns c.toNat).es.length
    have := hz.erm
    omega
  · obtain ⟨p, hp, hx⟩ := flat_nodes _ x hx
    have h1 := RepN.at_ (i := p.1) (x := p.2) hR hp
    exact hT.ents p.1 h1.1 x (by rw [h1.2]; exact hx)
  · unfold LastU
    cases hu : (nth t.ns (t.ns.length - 1)).us with
    | true => rfl
    | false =>
      have := (hT.free (t.ns.length - 1) (by omega) hu).1.2
      omega
end Gx
namespace Go.Proofs
open Go Go.RowKit Gx
set_option linter.unusedVariables false
set_option linter.unusedSimpArgs false
attribute [local irreducible] Go.Calls Gx.S Gx.O Gx.D Gx.OpP Gx.OpQ Gx.OpH
set_option maxRecDepth 20000
end Go.Proofs
namespace Gx
set_option linter.unusedSimpArgs false
set_option linter.unusedVariables false
set_option linter.unusedSectionVars false
open Go Go.RowKit
section
variable {ns : List Nd} {N : List (Nat × Nd)} {a b c : Nat × Nd} {i : Nat} {x : Nd}
theorem perm3 {a b c : Nat × Nd} {N : List (Nat × Nd)} : (a :: b :: c :: N).Perm (c :: a :: b :: N) := (List.Perm.cons a (List.Perm.swap ..)).trans (List.Perm.swap ..)
theorem RepN.cs3 (h : RepN ns (a :: b :: (i, x) :: N)) (cs : List Int) : RepN (csN ns i cs) (a :: b :: (i, { x with cs := cs }) :: N) := ((h.perm perm3).cs cs).perm perm3.symm
theorem RepN.at1 (h : RepN ns ((i, x) :: N)) : nth ns i = x := h.head.2
theorem RepN.at2 (h : RepN ns (a :: (i, x) :: N)) : nth ns i = x := (h.at_ (List.mem_cons_of_mem _ (List.mem_cons_self ..))).2
end
section
variable {ns : List Nd} {C : List Fr} {p a b : Nat} {es Ae Be : List TEnt} {l r Ak Bk : List BT}
end
def Fit (es : List TEnt) (ks : List BT) : Prop := ks = [] ∨ ks.length = es.length + 1
theorem Bal.mono {lo lo' hi : Nat} (hl : lo' ≤ lo) : ∀ {d : Nat} {T : BT}, Bal lo hi d T → Bal lo' hi d T
  | 0, T, h => ⟨h.1, Nat.le_trans hl h.2.1, h.2.2⟩
  | d + 1, T, h => ⟨⟨h.1.1, fun k hk => (h.1.2 k hk).mono hl⟩, Nat.le_trans hl h.2.1, h.2.2⟩
theorem Bel.mono {lo lo' hi : Nat} (hl : lo' ≤ lo) : ∀ {d : Nat} {T : BT}, Bel lo hi d T → Bel lo' hi d T
  | 0, T, h => h
  | d + 1, T, h => ⟨h.1, fun k hk => (h.2 k hk).mono hl⟩
theorem CtxOk.mono {lo lo' hi rt : Nat} (hl : lo' ≤ lo) : ∀ {C : List Fr} {d : Nat}, CtxOk lo hi rt d C → CtxOk lo' hi rt d C
  | [], _, _ => trivial
  | f :: C, d, h => ⟨⟨fun k hk => (h.1.1 k hk).mono hl, fun k hk => (h.1.2 k hk).mono hl⟩, h.2.1, ⟨h.2.2.1.1, fun hne => ⟨Nat.le_trans hl (h.2.2.1.2 hne).1, (h.2.2.1.2 hne).2⟩⟩, CtxOk.mono hl h.2.2.2⟩
theorem Bel.kid {lo hi d d' i : Nat} {es : List TEnt} {ks : List BT} (h : Bel lo hi d (.nd i es ks)) (e : d = d' + 1) : ∀ k ∈ ks, Bal lo hi d' k := by
  subst e
  exact h.2
def filRW (mo : Int) (P : List Nat) : Nat → List Nd → List Nd
  | 0, ns => ns
  | k + 1, ns => filRW mo P k (if ((nth ns (nth P (k + 1))).es.length : Int) < mo / 2 then filP mo ns (nth P k) (ixR (nth ns (nth P k)).cs ((nth P (k + 1) : Nat) : Int)) else ns)
structure FilR1 (mo : Int) (ns : List Nd) (p i : Nat) : Prop where
  ok : FilOk mo ns p (ixR (nth ns p).cs (i : Int))
  kd : kdN ns p (ixR (nth ns p).cs (i : Int)) = i
def FilROk (mo : Int) (P : List Nat) : Nat → List Nd → Prop
  | 0, _ => True
  | k + 1, ns => (nth P (k + 1) < ns.length ∧ (((nth ns (nth P (k + 1))).es.length : Int) < mo / 2 → FilR1 mo ns (nth P k) (nth P (k + 1)))) ∧
      FilROk mo P k (if ((nth ns (nth P (k + 1))).es.length : Int) < mo / 2 then filP mo ns (nth P k) (ixR (nth ns (nth P k)).cs ((nth P (k + 1) : Nat) : Int)) else ns)
section
variable {ns : List Nd} {C : List Fr} {p : Nat} {es : List TEnt} {ks : List BT} {mo : Int}
end
section
variable {ns : List Nd} {f : Fr} {C : List Fr} {T : BT}
end
def GapS (rt : Nat) : List Fr → Prop
  | f :: g :: C => GapC rt (g :: C) f.es.length
  | _ => True
theorem GapC.s {rt n : Nat} : ∀ {C : List Fr}, GapC rt C n → GapS rt C
  | [], _ => trivial
  | [f], _ => trivial
  | f :: g :: C, h => h
structure Filled (mo : Int) (lo hi rt : Nat) (P : List Nat) (k : Nat) (ns : List Nd) (W : List Nat) (fl : List TEnt) : Prop where
  ok : FilsOk mo ns W
  okR : FilROk mo P k ns
  same : filRW mo P k ns = filW mo ns W
  tree : ∃ T d, RepT (filW mo ns W) T ∧ T.idx = 0 ∧ Bel lo hi d T ∧ T.es.length ≤ rt ∧ T.flat = fl
  len : (filW mo ns W).length = ns.length
def remRN (mo rm : Int) (ns : List Nd) (P : List Nat) (k : Nat) : List Nd := trmN (rotN rm (filRW mo (remQ ns P k) ((remQ ns P k).length - 1) (rem2 ns P k)))
structure RemFin (mo rm : Int) (lo hi rt : Nat) (ns : List Nd) (Q : List Nat) (fl : List TEnt) : Prop where
  fil : FilsOk mo ns Q.reverse
  rot : RotOk rm (filW mo ns Q.reverse)
  filR : FilROk mo Q (Q.length - 1) ns
  same : filRW mo Q (Q.length - 1) ns = filW mo ns Q.reverse
  tree : ∃ T d, RepT (trmN (rotN rm (filW mo ns Q.reverse))) T ∧ T.idx = 0 ∧ Bel lo hi d T ∧ T.es.length ≤ rt ∧ NoGap rt T ∧ T.flat = fl
  last : LastU (trmN (rotN rm (filW mo ns Q.reverse)))
  len : (trmN (rotN rm (filW mo ns Q.reverse))).length ≤ ns.length
structure Removed (co mo rm : Int) (lo hi rt : Nat) (ns : List Nd) (key : List UInt8) (fl : List TEnt) : Prop where
  ok : RemOk mo rm ns (pathN co ns key).1 (pathN co ns key).2.1
  filR : FilROk mo (remQ ns (pathN co ns key).1 (pathN co ns key).2.1) ((remQ ns (pathN co ns key).1 (pathN co ns key).2.1).length - 1) (rem2 ns (pathN co ns key).1 (pathN co ns key).2.1)
  same : remRN mo rm ns (pathN co ns key).1 (pathN co ns key).2.1 = remN mo rm ns (pathN co ns key).1 (pathN co ns key).2.1
  filS : filRW mo (remQ ns (pathN co ns key).1 (pathN co ns key).2.1) ((remQ ns (pathN co ns key).1 (pathN co ns key).2.1).length - 1) (rem2 ns (pathN co ns key).1 (pathN co ns key).2.1) = filW mo (rem2 ns (pathN co ns key).1 (pathN co ns key).2.1) (remQ ns (pathN co ns key).1 (pathN co ns key).2.1).reverse
  tree : ∃ T d, RepT (remN mo rm ns (pathN co ns key).1 (pathN co ns key).2.1) T ∧ VT co lo hi rt d T ∧ T.flat = others fl (plc co fl key)
  len : (remN mo rm ns (pathN co ns key).1 (pathN co ns key).2.1).length ≤ ns.length
  last : LastU (remN mo rm ns (pathN co ns key).1 (pathN co ns key).2.1)
end Gx
namespace Go.Proofs
open Go Go.RowKit Gx
set_option linter.unusedVariables false
set_option linter.unusedSimpArgs false
attribute [local irreducible] Go.Calls Gx.S Gx.O Gx.D Gx.OpP Gx.OpQ Gx.OpH
set_option maxRecDepth 20000
end Go.Proofs
namespace Gx
set_option linter.unusedSimpArgs false
set_option linter.unusedVariables false
set_option linter.unusedSectionVars false
open Go Go.RowKit
def AllU (ns : List Nd) : Prop := ∀ i, i < ns.length → (nth ns i).us = true
section
variable {ns : List Nd}
theorem AllU.es (h : AllU ns) (i : Nat) (es : List TEnt) : AllU (esN ns i es) := fun k hk => by
  rw [us_es]
  exact h k (by rwa [esN_len] at hk)
theorem AllU.cs (h : AllU ns) (i : Nat) (cs : List Int) : AllU (csN ns i cs) := fun k hk => by
  rw [us_cs]
  exact h k (by rwa [csN_len] at hk)
theorem AllU.fre (h : AllU ns) : AllU (freN ns).2 := by
  unfold freN
  split
  · intro k hk
    unfold usN at hk ⊢
    simp only [List.length_set] at hk
    rw [nth_set_nd]
    split
    · rfl
    · exact h k hk
  · intro k hk
    simp only [List.length_append, List.length_singleton] at hk
    rcases Nat.lt_or_ge k ns.length with h1 | h1
    · rw [nth_eq (show (ns ++ [(⟨true, [], []⟩ : Nd)])[k]? = some (nth ns k) from by rw [List.getElem?_append_left h1]; exact nth_get h1)]
      exact h k h1
    · have e : k = ns.length := by omega
      subst e
      rw [nth_eq (show (ns ++ [(⟨true, [], []⟩ : Nd)])[ns.length]? = some ⟨true, [], []⟩ from by simp)]
theorem AllU.spl (h : AllU ns) (mo : Int) (i : Nat) : AllU (splN mo ns i) := by
  unfold splN addP
  refine AllU.cs (AllU.es ?_ _ _) _ _
  unfold splA
  split
  · exact (h.fre.es _ _).es _ _
  · exact (((h.fre.es _ _).es _ _).cs _ _).cs _ _
theorem AllU.low (h : AllU ns) : AllU (lowN ns).2 := by
  unfold lowN
  exact (((h.fre.es _ _).cs _ _).es _ _).cs _ _
theorem AllU.grw (h : AllU ns) (mo : Int) (P : List Nat) : AllU (grwW mo ns P) := by
  unfold grwW
  induction P generalizing ns with
  | nil => exact h
  | cons i P ih =>
    rw [List.foldl_cons]
    refine ih ?_
    unfold grw1
    split
    · exact h.spl _ _
    · exact h
theorem AllU.ins (h : AllU ns) (co mo rm : Int) (x : TEnt) : AllU (insT co mo rm ns x) := by
  unfold insT
  split
  · exact h
  · unfold grwN
    have h1 := (h.es (leafN co ns x.key) (insAt (nth ns (leafN co ns x.key)).es (pathN co ns x.key).2.1 x)).grw mo (pathN co ns x.key).1.reverse
    unfold grwR
    split
    · split
      · exact h1.low.spl _ _
      · exact h1.low
    · exact h1
end
theorem nodup_sub {α : Type} [DecidableEq α] : ∀ {l m : List α}, l.Nodup → (∀ x ∈ l, x ∈ m) → l.length ≤ m.length
  | [], _, _, _ => Nat.zero_le _
  | a :: l, m, hd, hs => by
    have h1 := List.nodup_cons.1 hd
    have ha := hs a (List.mem_cons_self ..)
    have h2 := nodup_sub (l := l) (m := m.erase a) h1.2 fun x hx => (List.mem_erase_of_ne (fun e => h1.1 (by rw [← e]; exact hx))).2 (hs x (List.mem_cons_of_mem _ hx))
    rw [List.length_erase_of_mem ha] at h2
    have h3 := List.length_pos_of_mem ha
    simp only [List.length_cons]
    omega
theorem AllU.len {ns : List Nd} {T : BT} (h : AllU ns) (hR : RepT ns T) : ns.length ≤ T.nodes.length := by
  have := nodup_sub (l := List.range ns.length) (m := T.nodes.map Prod.fst) List.nodup_range fun x hx => by
    by_cases hm : x ∈ T.nodes.map Prod.fst
    · exact hm
    · have hx := List.mem_range.1 hx
      have h1 := h x hx
      rw [RepN.rest hR x hx hm] at h1
      cases h1
  simpa using this
theorem nodesL_flat : ∀ {es : List TEnt} {ks : List BT}, (∀ k ∈ ks, k.nodes.length ≤ k.flat.length) → (nodesL ks).length + es.length ≤ (flatL es ks).length
  | es, [], _ => by
    rw [flatL_nil, nodesL]
    simp
  | [], k :: ks, h => by
    have h1 := h k (List.mem_cons_self ..)
    have h2 := nodesL_flat (es := []) (ks := ks) fun q hq => h q (List.mem_cons_of_mem _ hq)
    rw [flatL, nodesL]
    simp only [List.length_append, List.length_nil] at h2 ⊢
    omega
  | e :: es, k :: ks, h => by
    have h1 := h k (List.mem_cons_self ..)
    have h2 := nodesL_flat (es := es) (ks := ks) fun q hq => h q (List.mem_cons_of_mem _ hq)
    rw [flatL, nodesL]
    simp only [List.length_append, List.length_cons] at h2 ⊢
    omega
theorem bal_nodes {lo hi : Nat} (h0 : 1 ≤ lo) : ∀ {d : Nat} {T : BT}, Bal lo hi d T → T.nodes.length ≤ T.flat.length
  | 0, .nd i es ks, h => by
    have h1 := nodesL_flat (es := es) (ks := ks) fun k hk => by
      have e : ks = [] := h.1
      rw [e] at hk
      cases hk
    have h2 : lo ≤ es.length := h.2.1
    rw [BT.nodes, BT.flat, List.length_cons]
    omega
  | d + 1, .nd i es ks, h => by
    have h1 := nodesL_flat (es := es) (ks := ks) fun k hk => bal_nodes h0 (h.1.2 k hk)
    have h2 : lo ≤ es.length := h.2.1
    rw [BT.nodes, BT.flat, List.length_cons]
    omega
theorem bel_nodes {lo hi d : Nat} (h0 : 1 ≤ lo) {T : BT} (h : Bel lo hi d T) : T.nodes.length ≤ T.flat.length + 1 := by
  cases T with
  | nd i es ks =>
    have h1 := nodesL_flat (es := es) (ks := ks) fun k hk => by
      cases d with
      | zero =>
        have e : ks = [] := h
        rw [e] at hk
        cases hk
      | succ d => exact bal_nodes h0 (h.2 k hk)
    rw [BT.nodes, BT.flat, List.length_cons]
    omega
mutual
theorem nodes_es : ∀ (T : BT) (p : Nat × Nd), p ∈ T.nodes → p.2.es.Sublist T.flat
  | .nd i es ks, p, h => by
    rw [BT.nodes] at h
    rw [BT.flat]
    rcases List.mem_cons.1 h with rfl | h
    · exact es_sub es ks
    · exact nodesL_es es ks p h
theorem nodesL_es : ∀ (es : List TEnt) (ks : List BT) (p : Nat × Nd), p ∈ nodesL ks → p.2.es.Sublist (flatL es ks)
  | es, [], p, h => by
    rw [nodesL] at h
    cases h
  | [], k :: ks, p, h => by
    rw [nodesL] at h
    rw [flatL]
    rcases List.mem_append.1 h with h | h
    · exact (nodes_es k p h).trans (List.sublist_append_left ..)
    · exact (nodesL_es [] ks p h).trans (List.sublist_append_right ..)
  | e :: es, k :: ks, p, h => by
    rw [nodesL] at h
    rw [flatL]
    rcases List.mem_append.1 h with h | h
    · exact (nodes_es k p h).trans (List.sublist_append_left ..)
    · exact ((nodesL_es es ks p h).cons e).trans (List.sublist_append_right ..)
end
theorem nodes_sh {lo hi : Nat} : ∀ {d : Nat} {T : BT}, Bel lo hi d T → ∀ p ∈ T.nodes, p.2.cs.length = 0 ∨ p.2.cs.length = p.2.es.length + 1
  | 0, .nd i es ks, h, p, hp => by
    have e : ks = [] := h
    rw [e, BT.nodes, nodesL] at hp
    rcases List.mem_cons.1 hp with rfl | hp
    · exact .inl rfl
    · cases hp
  | d + 1, .nd i es ks, h, p, hp => by
    rw [BT.nodes] at hp
    rcases List.mem_cons.1 hp with rfl | hp
    · exact .inr (by show (idxs ks).length = _; rw [idxs_len]; exact h.1)
    · obtain ⟨k, hk, hp⟩ := nodesL_in (k := default) hp
      exact nodes_sh (bal_iff.1 (h.2 k hk)).1 p hp
theorem rep_tok {co : Int} {lo hi rt d : Nat} {ns : List Nd} {T : BT} (hR : RepT ns T) (hV : VT co lo hi rt d T) (hu : LastU ns) : TOk co ns := by
  have hat : ∀ p ∈ T.nodes, p.1 < ns.length ∧ nth ns p.1 = p.2 := fun p hp => RepN.at_ (i := p.1) (x := p.2) hR hp
  have hcs : ∀ i, i < ns.length → (i ∈ T.nodes.map Prod.fst ∧ (i, nth ns i) ∈ T.nodes) ∨ nth ns i = ⟨false, [], []⟩ := fun i hi => by
    by_cases hm : i ∈ T.nodes.map Prod.fst
    · refine .inl ⟨hm, ?_⟩
      obtain ⟨p, hp, rfl⟩ := List.mem_map.1 hm
      rw [(hat p hp).2]
      exact hp
    · exact .inr (RepN.rest hR i hi hm)
  have hkp := kids_nodes T
  have hnd : ((((T.idx : Nat) : Int) :: kidsOf T.nodes)).Nodup := hkp.nodup_iff.2 (by
    have h1 := RepN.nd hR
    unfold List.Nodup at h1 ⊢
    rw [List.pairwise_map] at h1 ⊢
    exact h1.imp fun h e => h (by omega))
  refine ⟨fun i hi c hc => ?_, ?_, fun i hi => ?_, fun i hi hus => ?_, fun i hi => ?_, fun i hi x hx => ?_⟩
  · rcases hcs i hi with ⟨_, hm⟩ | he
    · have hck : c ∈ kidsOf T.nodes := List.mem_flatMap.2 ⟨_, hm, hc⟩
      obtain ⟨q, hq, rfl⟩ := List.mem_map.1 (hkp.mem_iff.1 (List.mem_cons_of_mem _ hck))
      have h1 := hat q hq
      have h2 : q.1 ≠ 0 := fun e => by
        have h3 := (List.nodup_cons.1 hnd).1
        rw [hV.idx] at h3
        rw [e] at hck
        exact h3 hck
      refine ⟨by omega, ?_⟩
      rw [Int.toNat_natCast, h1.2]
      exact nodes_us T q hq
    · rw [he] at hc
      cases hc
  · have hk2 := (List.nodup_cons.1 hnd).2
    unfold kidsOf List.Nodup at hk2
    rw [List.pairwise_flatMap] at hk2
    unfold List.Nodup
    rw [List.pairwise_flatMap]
    refine ⟨fun x hx => ?_, List.pairwise_iff_getElem.2 fun i j hi hj hij => ?_⟩
    · obtain ⟨i, hi, rfl⟩ := List.getElem_of_mem hx
      rw [← nth_eq (List.getElem?_eq_getElem hi)]
      rcases hcs i hi with ⟨_, hm⟩ | he
      · exact hk2.1 _ hm
      · rw [he]
        exact List.Pairwise.nil
    · rw [← nth_eq (List.getElem?_eq_getElem hi), ← nth_eq (List.getElem?_eq_getElem hj)]
      intro x hx y hy e
      rcases hcs i hi with ⟨_, hm⟩ | he
      · rcases hcs j hj with ⟨_, hm2⟩ | he
        · obtain ⟨a, ha, ea⟩ := List.getElem_of_mem hm
          obtain ⟨b, hb, eb⟩ := List.getElem_of_mem hm2
          have hp := List.pairwise_iff_getElem.1 hk2.2
          rcases Nat.lt_trichotomy a b with h | h | h
          · exact hp a b ha hb h x (by rw [ea]; exact hx) y (by rw [eb]; exact hy) e
          · subst h
            rw [ea] at eb
            have := congrArg Prod.fst eb
            simp only at this
            omega
          · exact hp b a hb ha h y (by rw [eb]; exact hy) x (by rw [ea]; exact hx) e.symm
        · rw [he] at hy
          cases hy
      · rw [he] at hx
        cases hx
  · rcases hcs i hi with ⟨_, hm⟩ | he
    · exact nodes_sh hV.bel _ hm
    · rw [he]
      exact .inl rfl
  · rcases hcs i hi with ⟨_, hm⟩ | he
    · have := nodes_us T _ hm
      simp only at this
      rw [hus] at this
      cases this
    · refine ⟨⟨?_, ?_⟩, by rw [he], by rw [he]⟩
      · have h1 := (RepT.root hR).2
        rw [hV.idx] at h1
        rcases Nat.eq_zero_or_pos i with e | h
        · rw [e, h1] at hus
          cases hus
        · exact h
      · unfold LastU at hu
        by_cases e : i = ns.length - 1
        · rw [e, hu] at hus
          cases hus
        · omega
  · rcases hcs i hi with ⟨_, hm⟩ | he
    · exact Srt.asc (List.Pairwise.sublist (nodes_es T _ hm) hV.srt)
    · rw [he]
      intro k hk
      exact absurd hk (by simp)
  · rcases hcs i hi with ⟨_, hm⟩ | he
    · exact hV.ents x ((nodes_es T _ hm).subset hx)
    · rw [he] at hx
      cases hx
theorem rep_bd {co mo rm : Int} {lo hi rt d : Nat} {ns : List Nd} {T : BT} (hz : Sz mo rm lo hi rt) (hR : RepT ns T) (hV : VT co lo hi rt d T) (hl : ns.length ≤ 1000) : Bd ns := by
  have h1 := hR.sm hV.bel (Nat.le_refl _) (Nat.le_trans hV.root hz.rh)
  have := hz.hi8
  exact ⟨hl, fun i hi => Nat.le_trans (h1 i).1 (by omega), fun i hi => Nat.le_trans (h1 i).2 (by omega)⟩
section
variable (co mo rm : Int) (l : List TEnt)
def bldN : Nat → List Nd
  | 0 => [⟨true, [], []⟩]
  | k + 1 => insT co mo rm (bldN k) (nth l k)
def bldE (k : Nat) : Int := if entE co (nth l k) = 0 then insE co mo rm (bldN co mo rm l k) (nth l k) else entE co (nth l k)
def bldEs : List Int := (List.range l.length).map (bldE co mo rm l)
end
structure BldOk (co mo rm : Int) (lo hi rt k : Nat) (ns : List Nd) : Prop where
  tree : ∃ T d, RepT ns T ∧ VT co lo hi rt d T ∧ T.flat.length = k
  all : AllU ns
  len : ns.length ≤ k + 1
  pos : 0 < ns.length
section
variable {co mo rm : Int} {lo hi rt k : Nat} {l : List TEnt} {ns : List Nd} {x : TEnt}
theorem BldOk.last (h : BldOk co mo rm lo hi rt k ns) : LastU ns := h.all _ (by have := h.pos; omega)
theorem BldOk.tok (h : BldOk co mo rm lo hi rt k ns) : TOk co ns := by
  obtain ⟨T, d, hR, hV, _⟩ := h.tree
  exact rep_tok hR hV h.last
theorem BldOk.bd (hz : Sz mo rm lo hi rt) (h : BldOk co mo rm lo hi rt k ns) (hk : k ≤ 999) : Bd ns := by
  obtain ⟨T, d, hR, hV, _⟩ := h.tree
  exact rep_bd hz hR hV (by have := h.len; omega)
theorem BldOk.sm (hz : Sz mo rm lo hi rt) (h : BldOk co mo rm lo hi rt k ns) : Sm 900 ns := by
  obtain ⟨T, d, hR, hV, _⟩ := h.tree
  exact (hR.sm hV.bel (Nat.le_refl _) (Nat.le_trans hV.root hz.rh)).mono (by have := hz.hi8; omega)
theorem BldOk.ins (hz : Sz mo rm lo hi rt) (h : BldOk co mo rm lo hi rt k ns) (hk : k ≤ 399) (hx : entE co x = 0) (hnf : ¬ (pathN co ns x.key).2.2 = true) : InsOk co mo rm ns x ∧ InsROk co mo rm ns x ∧ insR co mo rm ns x = insT co mo rm ns x ∧ BldOk co mo rm lo hi rt (k + 1) (insT co mo rm ns x) := by
  obtain ⟨T, d, hR, hV, hfl⟩ := h.tree
  have hI := ins_all hz hR hV (by have := h.len; omega) h.last hx hnf
  obtain ⟨T2, d2, hR2, hV2, hf2⟩ := hI.tree
  have hall := h.all.ins co mo rm x
  have hlo : 1 ≤ lo := by have := hz.elo; have := hz.hi3; omega
  have hfl2 : T2.flat.length = k + 1 := by rw [hf2, ins_len (plc_le _ _ _), hfl]
  refine ⟨hI.ok, hI.okR, hI.same, ⟨T2, d2, hR2, hV2, hfl2⟩, hall, ?_, by have := hI.len.1; have := h.pos; omega⟩
  have h1 := hall.len hR2
  have h2 := bel_nodes hlo hV2.bel
  omega
end
end Gx
namespace Go.Proofs
open Go Go.RowKit Gx
set_option linter.unusedVariables false
set_option linter.unusedSimpArgs false
attribute [local irreducible] Go.Calls Gx.S Gx.O Gx.D Gx.OpP Gx.OpQ Gx.OpH
set_option maxRecDepth 20000
theorem zr_103 : tzero Tryz.prog 103 = some [.pointer none] := by kernel_rfl
end Go.Proofs
namespace Gx
open Go Go.RowKit
set_option linter.unusedVariables false
set_option linter.unusedSectionVars false
section
variable {P : Program} {o : Oper} {L : Slots} {w0 : World} {M : List Nat} {As : List HA}
theorem h_yieldF {G : Type} {V : G → Value} {F : G → Prop} {Bs : G → List HA} {Cs Ds : List HA} {x : Operand} {args : Array Operand} {vs : List Value} {ts : Array TypeId} {l : Nat} (ho : o.op = .call { callee := .value x, args := args, argTypes := ts }) (hx : ev L x = some (.func (.yield l) #[] #[]))
    (ha : evs L args.toList = some vs) (hp : Picks As Cs Ds) (hy : ∀ w, HS w0 M As w → HS w (fps Cs) Cs w → YieldTo P l vs.toArray w fun e w' => ∃ g, e = .returned (V g) ∧ F g ∧ HS w (fps Cs) (Bs g) w') : OpH P o L (HS w0 M As) V F (fun g => HS w0 M (Bs g ++ Ds)) :=
  h_yield (C := HS w0 M As) ho hx ha fun w hw => by
    obtain ⟨f, tmps, assign, body, hr, hR⟩ := hy w hw (HS.focus (hw.perm hp))
    refine ⟨f, tmps, assign, body, hr, RoundIn.mono hR fun e w' ⟨g, he, hf, hc⟩ => ⟨g, he, hf, ?_⟩⟩
    exact HS.callM (hw.perm hp) (fun b hb => by obtain ⟨A, hA, hb⟩ := List.mem_flatMap.1 hb; exact ⟨A, hA, hb⟩) hc
end
section
variable {X : Ctx} {ops : Array Oper} {k : List KI} {L : Slots} {C : World → Prop}
theorem o_grpI {α : Type} (m dj dp : Nat) (b : Bool) (v : α → Bool) (CJ : α → World → Prop) (I : α → Prop) {l : List Oper} (hb : Slots.get L dj = some (.bool b))
    (h1 : b = true → O X ops (l.take m) (.join (AtI X.n X.df (fun x : α => (dp, .bool (v x)) :: L) CJ I) :: k) L C)
    (h0 : b = false → O X ops (l.take m) (.join (AtI X.n X.df (fun x : α => (dp, .bool (v x)) :: L) CJ I) :: k) L C)
    (h2 : ∀ x, I x → O X ops (l.drop m) k ((dp, .bool (v x)) :: L) (CJ x)) : O X ops l k L C := by
  intro a w ha hw
  have hh : O X ops (l.take m) (.join (AtI X.n X.df (fun x : α => (dp, .bool (v x)) :: L) CJ I) :: k) L C := by
    cases b with
    | true => exact h1 rfl
    | false => exact h0 rfl
  have := wpList_append (Q := post X k) _ (l.drop m) a w (hh a w ha hw) (fun a w ⟨x, hI, hx, hc⟩ => h2 x hI a w hx hc) (fun e a w he h => post_join_past e a w he h)
  rwa [List.take_append_drop] at this
theorem se_out {id : Nat} : ∀ {k : List KI}, popTo id k = none → SE X (.exit id) [] L C → SE X (.exit id) k L C
  | [], _, h => h
  | Sum.inl c :: k, h, hs => se_exit_c (se_out (k := k) h hs)
  | Sum.inr (Sum.inr J) :: k, h, hs => se_exit_join (se_out (k := k) h hs)
  | Sum.inr (Sum.inl id') :: k, h, hs => by
    simp only [popTo] at h
    cases hb : Nat.beq id id' with
    | true => rw [hb] at h; cases h
    | false =>
      rw [hb] at h
      exact se_exit_past hb (se_out (k := k) h hs)
end
def endsL (fid : FuncId) (tmps : Array Value) (ps : Array Tmp) (assign body : Code) (D : Nat) : Option Nat → Obj
  | none => .loop (rdy fid tmps ps assign body D)
  | some id => .loop { rdy fid tmps ps assign body D with state := .done, pending := some (.exit id) }
section
variable {X : Ctx} {k : List KI} {L : Slots} {w0 : World} {M : List Nat} {As As' : List HA}
theorem s_exit_rd {id l D : Nat} {fid : FuncId} {tmps : Array Value} {ps : Array Tmp} {assign body : Code} (hk : popTo id k = none) (hrd : X.rd = some l) (hp : Pick As (.obj l (.loop { rdy fid tmps ps assign body D with state := .busy })) As') (h : ∀ w, HS w0 M (.obj l (endsL fid tmps ps assign body D (some id)) :: As') w → X.R (.returned (.bool false)) w) : S X (.c (.exit id) :: k) L (HS w0 M As) := by
  refine s_exit (se_out hk fun a w ha hw => ?_)
  show (match X.rd with | none => bodyPostM X.F 0 X.P X.fn X.R (.exit id) a w | some l => roundPost X.P l X.R (.exit id) a w)
  rw [hrd]
  exact ⟨_, _, run_endRound (some (.exit id)) (hw.obj_get hp), h _ (hw.putObj hp _)⟩
def rngK (k : List KI) : Option Nat → List KI
  | none => k
  | some id => .c (.exit id) :: k
theorem s_rng_out {id : Nat} {j : Option Nat} (hj : j = none ∨ j = some id) (h : S X k L (HS w0 M As)) : S X (rngK (.blk id :: k) j) L (HS w0 M As) := by
  rcases hj with rfl | rfl
  · exact s_blk h
  · exact s_exit_to (show (bif Nat.beq id id then some k else popTo id k) = some k from by rw [Nat.beq_refl]; rfl) h
theorem s_rangeL {g : Operand} {ps : Array Tmp} {assign body : Code} {gf : FuncId} {fa lb : Array Value} {G : Type} {Bs : G → List HA} {jmp : G → Option Nat} (hrd : X.rd = none) (hdf : X.df = []) (hg : ev L g = some (.func (.func gf) fa lb)) (hfn : isFn X.P gf = true)
    (hit : ∀ (fid : FuncId) (D l : Nat) (a : Act) (w1 : World) (ob : Obj), ob = .loop (rdy fid a.tmps ps assign body D) → FR X.n [] L a → HS w0 M (.obj l ob :: .obj D (.deferred (some [])) :: As) w1 →
      Calls X.P gf (fa ++ #[.func (.yield l) #[] #[]] ++ lb) w1 fun e w2 => (∃ v, e = .returned v) ∧ ∃ x, HS w0 M (.obj l (endsL fid a.tmps ps assign body D (jmp x)) :: .obj D (.deferred (some [])) :: Bs x) w2)
    (next : ∀ D x, S { X with df := [D] } (rngK k (jmp x)) L (HS w0 M (.obj D (.deferred (some [])) :: Bs x))) : S X (.c (.rangeFunc g ps assign body) :: k) L (HS w0 M As) := by
  intro a w ha hw
  have ha0 : FR X.n [] L a := by rw [← hdf]; exact ha
  refine wpIn_rangeFunc (F := X.F) (n := 0) fun fid _ => ?_
  have hro : X.F.round = none := hrd
  rw [hro]
  have hw1 := (hw.allocObj (.deferred (some []))).allocObj (.loop (rdy fid a.tmps ps assign body w.heap.size))
  rw [World.size_alloc] at hw1
  have hen := run_enterLoop_outer (P := X.P) (w := w) fid a.tmps ps assign body
  obtain ⟨W1, hW1⟩ : ∃ W1, (w.alloc (.deferred (some []))).alloc (.loop (rdy fid a.tmps ps assign body w.heap.size)) = W1 := ⟨_, rfl⟩
  rw [hW1] at hw1
  rw [show (Loop.mk .ready none fid a.tmps ps assign body w.heap.size) = rdy fid a.tmps ps assign body w.heap.size from rfl, hW1] at hen
  refine ⟨w.heap.size + 1, [{ target := .collected w.heap.size, args := #[] }], W1, { target := .fn (.func gf) lb, args := fa ++ #[.func (.yield (w.heap.size + 1)) #[] #[]] }, W1, gf,
    fa ++ #[.func (.yield (w.heap.size + 1)) #[] #[]] ++ lb, W1, hen, ?_, fun _ _ => trivial, ?_, fun h => (by cases h), ?_⟩
  · simp only [resolve, ha.evl hg]
    simp [go_sem]
  · simp [invoke, go_sem, callFunc_run hfn]
  · refine CallsIn.mono (X.callsIn (hit fid _ _ a _ _ rfl ha0 hw1)) fun e w2 he => ?_
    obtain ⟨⟨v, rfl⟩, x, hx⟩ := he
    have h3 := next w.heap.size x { a with defers := [{ target := .collected w.heap.size, args := #[] }] ++ a.defers }
    have hfr : FR X.n [w.heap.size] L { a with defers := [{ target := .collected w.heap.size, args := #[] }] ++ a.defers } := ⟨by show _ ++ a.defers = _; rw [ha0.defers]; rfl, ha0.size, ha0.slot⟩
    cases hj : jmp x with
    | none =>
      rw [hj] at hx h3
      refine ⟨none, _, run_endLoop (hx.obj_get .here) (by simp [rdy]), ?_⟩
      have h4 := h3 _ hfr (hx.putObj .here (.loop { rdy fid a.tmps ps assign body w.heap.size with state := .exhausted })).tail
      rw [post_df] at h4
      exact h4
    | some id =>
      rw [hj] at hx h3
      refine ⟨some (.exit id), _, run_endLoop (hx.obj_get .here) (by simp), ?_⟩
      have h4 := h3 _ hfr (hx.putObj .here (.loop { rdy fid a.tmps ps assign body w.heap.size with state := .exhausted, pending := some (.exit id) })).tail
      rw [post_df] at h4
      exact h4
end
theorem HS.callA {w0 w1 w2 : World} {M : List Nat} {A : HA} {Ds Bs : List HA} (h : HS w0 M (A :: Ds) w1) (hc : HS w1 (fps [A]) Bs w2) : HS w0 M (Bs ++ Ds) w2 :=
  HS.callM (Cs := [A]) (As := Ds) h (fun b hb => by obtain ⟨A, hA, hb⟩ := List.mem_flatMap.1 hb; exact ⟨A, hA, hb⟩) hc
theorem picks1 {A : HA} {Ds : List HA} : Picks (A :: Ds) [A] Ds := List.Perm.refl _
theorem y_roundA {α : Type} {P : Program} {fn : Func} {n l D : Nat} {fid : FuncId} {tmps : Array Value} {ps : Array Tmp} {assign body : Code} {args : Array Value} {L0 : Slots} {L1 : α → Slots} {w0 W : World} {M : List Nat} {As : List HA} {As1 : α → List HA} {Rr : Ending → World → Prop}
    (hC : HS w0 M (.obj l (.loop (rdy fid tmps ps assign body D)) :: As) W) (hps : args.size = ps.size) (hf : FR n [] L0 { tmps := (ps.zip args).foldl (fun t (p, v) => t.setIfInBounds p v) tmps, defers := [] })
    (h1 : S { P := P, fn := fn, n := n, R := fun _ _ => False, rd := some l } [.c assign, .join (At n [] L1 (fun x => HS w0 M (.obj l (.loop (rdy fid tmps ps assign body D)) :: As1 x)))] L0 (HS w0 M (.obj l (.loop (rdy fid tmps ps assign body D)) :: As)))
    (h2 : ∀ x, S { P := P, fn := fn, n := n, R := Rr, rd := some l } [.c body] (L1 x) (HS w0 M (.obj l (.loop { rdy fid tmps ps assign body D with state := .busy }) :: As1 x))) : YieldTo P l args W Rr := by
  refine ⟨fid, _, assign, body, run_yield (hC.obj_get .here) hps, roundIn_of_wpIn trivial ?_⟩
  refine wpIn_mono (h1 _ W hf hC) fun e a w he => ?_
  cases e with
  | normal =>
    obtain ⟨x, hfr, hc⟩ := he
    exact ⟨_, run_beginRound (hc.obj_get .here) rfl, h2 x _ _ hfr (hc.putObj .here _)⟩
  | ret => obtain ⟨v, w', _, hx⟩ := he; exact hx
  | exit id => obtain ⟨v, w', _, hx⟩ := he; exact hx
  | goto t => obtain ⟨v, w', _, hx⟩ := he; exact hx
  | panic ch => exact he
  | outgrown => exact he
def doneO (id : Nat) : Obj → Obj
  | .loop r => .loop { r with state := .done, pending := some (.exit id) }
  | o => o
inductive RunY {S α : Type} (st : S → α → S → Prop) (co : S → Bool) : S → List α → S → Bool → Prop
  | nil (s : S) : RunY st co s [] s true
  | go {s s' s'' : S} {x : α} {l : List α} {b : Bool} (h : st s x s') (hc : co s' = true) (hr : RunY st co s' l s'' b) : RunY st co s (x :: l) s'' b
  | stop {s s' : S} {x : α} {l : List α} (h : st s x s') (hc : co s' = false) : RunY st co s (x :: l) s' false
section
variable {S α : Type} {st : S → α → S → Prop} {co : S → Bool} {s s1 s2 : S} {A B : List α} {b : Bool}
theorem RunY.app (h : RunY st co s A s1 true) (h2 : RunY st co s1 B s2 b) : RunY st co s (A ++ B) s2 b := by
  generalize hb : true = c at h
  induction h with
  | nil s => exact h2
  | go h hc _ ih => exact .go h hc (ih h2 hb)
  | stop h hc => cases hb
theorem RunY.off (h : RunY st co s A s1 false) (B : List α) : RunY st co s (A ++ B) s1 false := by
  generalize hb : false = c at h
  induction h with
  | nil s => cases hb
  | go h hc _ ih => exact .go h hc (ih hb)
  | stop h hc => exact .stop h hc
theorem RunY.one {x : α} (h : st s x s1) : RunY st co s [x] s1 (co s1) := by
  cases hc : co s1 with
  | true => exact .go h hc (.nil s1)
  | false => exact .stop h hc
end
end Gx
namespace Gx
set_option linter.unusedSimpArgs false
set_option linter.unusedVariables false
set_option linter.unusedSectionVars false
open Go Go.RowKit
section
variable {es : List TEnt} {ks : List BT} {k : Nat}
def preK (es : List TEnt) (ks : List BT) : Nat → List TEnt
  | 0 => []
  | k + 1 => (preK es ks k ++ if 0 < ks.length then (nth ks k).flat else []) ++ if k < es.length then [nth es k] else []
def midK (es : List TEnt) (ks : List BT) (k : Nat) : List TEnt := preK es ks k ++ if 0 < ks.length then (nth ks k).flat else []
theorem preK_succ : preK es ks (k + 1) = midK es ks k ++ if k < es.length then [nth es k] else [] := rfl
theorem preK_one (h : k < es.length) : preK es ks (k + 1) = midK es ks k ++ [nth es k] := by rw [preK_succ, if_pos h]
theorem preK_no (h : ¬ k < es.length) : preK es ks (k + 1) = midK es ks k := by rw [preK_succ, if_neg h, List.append_nil]
theorem midK_one (h : 0 < ks.length) : midK es ks k = preK es ks k ++ (nth ks k).flat := by rw [midK, if_pos h]
theorem midK_no (h : ¬ 0 < ks.length) : midK es ks k = preK es ks k := by rw [midK, if_neg h, List.append_nil]
theorem drop_nth {α : Type} [Inhabited α] {l : List α} {i : Nat} (h : i < l.length) : l.drop i = nth l i :: l.drop (i + 1) := by
  rw [List.drop_eq_getElem_cons h, show nth l i = l[i] from nth_eq (List.getElem?_eq_getElem h)]
theorem preK_leaf : ∀ {k : Nat}, k ≤ es.length → preK es [] k = es.take k
  | 0, _ => by rw [preK, List.take_zero]
  | k + 1, h => by
    rw [preK_one (by omega), midK_no (by simp), preK_leaf (by omega), List.take_add_one, nth_get (by omega)]
    rfl
theorem preK_rest (h : ks.length = es.length + 1) : ∀ {k : Nat}, k ≤ es.length → preK es ks k ++ flatL (es.drop k) (ks.drop k) = flatL es ks
  | 0, _ => by rw [preK, List.drop_zero, List.drop_zero, List.nil_append]
  | k + 1, hk => by
    have h1 := preK_rest (k := k) h (by omega)
    rw [drop_nth (l := es) (i := k) (by omega), drop_nth (l := ks) (i := k) (by omega), flatL] at h1
    rw [preK_one (by omega), midK_one (by omega), ← h1]
    simp
theorem preK_all (h : ks = [] ∨ ks.length = es.length + 1) : preK es ks (es.length + 1) = flatL es ks := by
  rcases h with h | h
  · subst h
    rw [preK_no (by omega), midK_no (by simp), preK_leaf (Nat.le_refl _), List.take_length, flatL_nil]
  · have h1 := preK_rest (k := es.length) h (Nat.le_refl _)
    rw [drop_nth (l := ks) (i := es.length) (by omega), List.drop_length, flatL, List.drop_of_length_le (by omega), flatL] at h1
    rw [preK_no (by omega), midK_one (by omega), ← h1, List.append_nil]
theorem preK_mid : (preK es ks k).length ≤ (midK es ks k).length := by
  unfold midK
  rw [List.length_append]
  omega
theorem midK_pre : (midK es ks k).length ≤ (preK es ks (k + 1)).length := by
  rw [preK_succ, List.length_append]
  omega
theorem preK_le {m : Nat} (h : k ≤ m) : (preK es ks k).length ≤ (preK es ks m).length := by
  obtain ⟨d, rfl⟩ := Nat.exists_eq_add_of_le h
  clear h
  induction d with
  | zero => exact Nat.le_refl _
  | succ d ih => exact Nat.le_trans ih (Nat.le_trans preK_mid midK_pre)
theorem preK_len (h : ks = [] ∨ ks.length = es.length + 1) (hk : k ≤ es.length + 1) : (preK es ks k).length ≤ (flatL es ks).length := by
  rw [← preK_all h]
  exact preK_le hk
theorem midK_len (h : ks = [] ∨ ks.length = es.length + 1) (hk : k ≤ es.length) : (midK es ks k).length ≤ (flatL es ks).length := Nat.le_trans midK_pre (preK_len h (by omega))
theorem preK_ex (h : ks = [] ∨ ks.length = es.length + 1) {k : Nat} (hk : k ≤ es.length + 1) : ∃ B, flatL es ks = preK es ks k ++ B := by
  rw [← preK_all h]
  obtain ⟨d, hd⟩ := Nat.exists_eq_add_of_le hk
  rw [hd]
  clear hd hk h
  induction d with
  | zero => exact ⟨[], by rw [List.append_nil]; rfl⟩
  | succ d ih =>
    obtain ⟨B, hB⟩ := ih
    rw [show k + (d + 1) = (k + d) + 1 from rfl, preK_succ, midK, hB, List.append_assoc, List.append_assoc]
    exact ⟨_, rfl⟩
theorem midK_ex (h : ks = [] ∨ ks.length = es.length + 1) {k : Nat} (hk : k ≤ es.length) : ∃ B, flatL es ks = midK es ks k ++ B := by
  obtain ⟨B, hB⟩ := preK_ex h (k := k + 1) (by omega)
  rw [hB, preK_succ, List.append_assoc]
  exact ⟨_, rfl⟩
theorem es_mem (h : ks = [] ∨ ks.length = es.length + 1) {k : Nat} (hk : k < es.length) : nth es k ∈ flatL es ks := (es_sub es ks).subset (mem_nth hk)
theorem kid_mem (h : ks.length = es.length + 1) {k : Nat} (hk : k < ks.length) {x : TEnt} (hx : x ∈ (nth ks k).flat) : x ∈ flatL es ks := by
  obtain ⟨B, hB⟩ := midK_ex (.inr h) (k := k) (by omega)
  rw [hB, midK_one (by omega)]
  exact List.mem_append_left _ (List.mem_append_right _ hx)
def NIn (ns : List Nd) (T : BT) : Prop := ∀ p ∈ T.nodes, p.1 < ns.length ∧ nth ns p.1 = p.2
theorem RepT.nin {ns : List Nd} {T : BT} (h : RepT ns T) : NIn ns T := fun p hp => RepN.at_ (i := p.1) (x := p.2) h hp
theorem NIn.root {ns : List Nd} {i : Nat} (h : NIn ns (.nd i es ks)) : i < ns.length ∧ nth ns i = ⟨true, es, idxs ks⟩ := by
  refine h (i, ⟨true, es, idxs ks⟩) ?_
  rw [BT.nodes]
  exact List.mem_cons_self ..
theorem mem_nodesL {k : BT} {p : Nat × Nd} : ∀ {ks : List BT}, k ∈ ks → p ∈ k.nodes → p ∈ nodesL ks
  | [], h, _ => (nomatch h)
  | x :: ks, h, hp => by
    rw [nodesL]
    rcases List.mem_cons.1 h with rfl | h
    · exact List.mem_append_left _ hp
    · exact List.mem_append_right _ (mem_nodesL h hp)
theorem nth_bt {ks : List BT} {k : Nat} (h : k < ks.length) : nth ks k ∈ ks := mem_nth h
theorem NIn.kid {ns : List Nd} {i : Nat} (h : NIn ns (.nd i es ks)) (hk : k < ks.length) : NIn ns (nth ks k) := fun p hp => h p (by
  rw [BT.nodes]
  exact List.mem_cons_of_mem _ (mem_nodesL (nth_bt hk) hp))
theorem idxs_gd (hk : k < ks.length) : (idxs ks).getD k 0 = ((nth ks k).idx : Int) := by
  unfold idxs
  rw [List.getD_eq_getElem?_getD, List.getElem?_map, nth_get hk]
  rfl
theorem bel_kid {lo hi d i : Nat} (h : Bel lo hi (d + 1) (.nd i es ks)) (hk : k < ks.length) : Bel lo hi d (nth ks k) := (bal_iff.1 (h.2 _ (nth_bt hk))).1
theorem bel_0 {lo hi i : Nat} (h : Bel lo hi 0 (.nd i es ks)) : ks = [] := h
end
mutual
theorem flat_bound (m : Nat) : ∀ T : BT, (∀ p ∈ T.nodes, p.2.es.length ≤ m) → T.flat.length ≤ T.nodes.length * m
  | .nd i es ks, h => by
    rw [BT.nodes] at h ⊢
    have h1 := flatL_bound m es ks fun p hp => h p (List.mem_cons_of_mem _ hp)
    have h2 := h (i, ⟨true, es, idxs ks⟩) (List.mem_cons_self ..)
    simp only at h2
    rw [BT.flat, List.length_cons, Nat.succ_mul]
    omega
theorem flatL_bound (m : Nat) : ∀ (es : List TEnt) (ks : List BT), (∀ p ∈ nodesL ks, p.2.es.length ≤ m) → (flatL es ks).length ≤ (nodesL ks).length * m + es.length
  | es, [], _ => by
    rw [flatL_nil]
    omega
  | [], k :: ks, h => by
    rw [nodesL] at h ⊢
    have h1 := flat_bound m k fun p hp => h p (List.mem_append_left _ hp)
    have h2 := flatL_bound m [] ks fun p hp => h p (List.mem_append_right _ hp)
    rw [flatL, List.length_append, List.length_append, Nat.add_mul]
    omega
  | e :: es, k :: ks, h => by
    rw [nodesL] at h ⊢
    have h1 := flat_bound m k fun p hp => h p (List.mem_append_left _ hp)
    have h2 := flatL_bound m es ks fun p hp => h p (List.mem_append_right _ hp)
    rw [flatL, List.length_append, List.length_append, Nat.add_mul, List.length_cons, List.length_cons]
    omega
end
theorem RepT.flat_len {ns : List Nd} {T : BT} {m : Nat} (h : RepT ns T) (hm : ∀ i, i < ns.length → (nth ns i).es.length ≤ m) : T.flat.length ≤ ns.length * m := by
  refine Nat.le_trans (flat_bound m T fun p hp => ?_) (Nat.mul_le_mul_right m h.nlen)
  have h1 := h.nin p hp
  rw [← h1.2]
  exact hm _ h1.1
theorem kid_len {es : List TEnt} {ks : List BT} {k : Nat} (h : ks.length = es.length + 1) (hk : k < ks.length) : (nth ks k).flat.length ≤ (flatL es ks).length := by
  have h1 := congrArg List.length (midK_one (es := es) (ks := ks) (k := k) (by omega))
  rw [List.length_append] at h1
  have h2 := midK_len (es := es) (ks := ks) (k := k) (.inr h) (by omega)
  omega
def lstN (p : TEnt → Bool) (most : Nat) (l : List TEnt) : List TEnt := (l.filter p).take most
section
variable {p : TEnt → Bool} {l : List TEnt} {k m : Nat}
def outN (p : TEnt → Bool) (l : List TEnt) (k : Nat) : List TEnt := (l.take k).filter p
theorem outN_succ (h : k < l.length) : outN p l (k + 1) = outN p l k ++ if p (nth l k) = true then [nth l k] else [] := by
  unfold outN
  rw [List.take_add_one, nth_get h, List.filter_append]
  cases hp : p (nth l k) <;> simp [hp]
theorem outN_one (h : k < l.length) (hp : p (nth l k) = true) : outN p l (k + 1) = outN p l k ++ [nth l k] := by rw [outN_succ h, if_pos hp]
theorem outN_no (h : k < l.length) (hp : ¬ p (nth l k) = true) : outN p l (k + 1) = outN p l k := by rw [outN_succ h, if_neg hp, List.append_nil]
theorem lst_end (hk : k ≤ l.length) (hm : (outN p l k).length ≤ m) (h : ¬ (k < l.length ∧ (outN p l k).length < m)) : outN p l k = lstN p m l := by
  unfold lstN
  have e : l.filter p = outN p l k ++ (l.drop k).filter p := by
    unfold outN
    rw [← List.filter_append, List.take_append_drop]
  by_cases h1 : k < l.length
  · have h2 : (outN p l k).length = m := by omega
    rw [e, ← h2, List.take_left]
  · have h2 : l.drop k = [] := List.drop_of_length_le (by omega)
    rw [e, h2, List.filter_nil, List.append_nil, List.take_of_length_le hm]
end
def lstB (co : Int) (key : List UInt8) (x : TEnt) : Bool := decide (key = []) || decide (0 < cmpK co x.key key)
def lstSt (p : TEnt → Bool) (m : Nat) (s : ((Option Addr × Nat) × List TEnt) × Bool) (x : TEnt) (s1 : ((Option Addr × Nat) × List TEnt) × Bool) : Prop :=
  if s.1.2.length = m then s1.1.2 = s.1.2 ∧ s1.2 = false else s1.1.2 = s.1.2 ++ (if p x = true then [x] else []) ∧ s1.2 = true
theorem run_lst {p : TEnt → Bool} {m : Nat} {l : List TEnt} {s s1 : ((Option Addr × Nat) × List TEnt) × Bool} {b : Bool} (h : RunY (lstSt p m) (fun s => s.2) s l s1 b) : s.1.2.length ≤ m → s1.1.2 = (s.1.2 ++ l.filter p).take m := by
  induction h with
  | nil s =>
    intro hl
    rw [List.filter_nil, List.append_nil, List.take_of_length_le hl]
  | @go s s' s'' x l b h hc _ ih =>
    intro hl
    unfold lstSt at h
    by_cases h1 : s.1.2.length = m
    · rw [if_pos h1] at h
      rw [h.2] at hc
      cases hc
    · rw [if_neg h1] at h
      rw [ih (by rw [h.1]; split <;> simp <;> omega), h.1, List.append_assoc]
      congr 2
      cases hp : p x <;> simp [hp]
  | @stop s s' x l h hc =>
    intro hl
    unfold lstSt at h
    by_cases h1 : s.1.2.length = m
    · rw [if_pos h1] at h
      rw [h.1, ← h1, List.take_left]
    · rw [if_neg h1] at h
      rw [h.2] at hc
      cases hc
end Gx
namespace Go.Proofs
open Go Go.RowKit Gx
set_option linter.unusedVariables false
set_option linter.unusedSimpArgs false
attribute [local irreducible] Go.Calls Gx.S Gx.O Gx.D Gx.OpP Gx.OpQ Gx.OpH
set_option maxRecDepth 20000
theorem fn_92 : isFn Tryz.prog 92 = true := by kernel_rfl
theorem fn_47 : isFn Tryz.prog 47 = true := by kernel_rfl
theorem c92s (w : World) (co mo rm : Int) (a : Option Addr) (cap : Nat) (L : List LNd) (i : Nat) (es : List TEnt) (ks : List BT) (hs : Nt w [] a L) (hl : L.length ≤ 1000) (hi : i < L.length) (hn : nth (pln L) i = ⟨true, es, idxs ks⟩) (hsh : ks = [] ∨ ks.length = es.length + 1) (hfl : (flatL es ks).length ≤ 10000) (ih : ∀ (w1 : World) (k : Nat), k < ks.length → Nt w1 [] a L → Calls Tryz.prog 92 #[.agg #[.int .i64 co, .int .i64 mo, .int .i64 rm, .slice a L.length cap], .int .i64 ((nth ks k).idx : Int)] w1 fun en w' => ∃ g : Option Addr × Nat, en = .returned (.slice g.1 ((nth ks k).flat).length g.2) ∧ True ∧ HS w1 [] [.own (.slice g.1 ((nth ks k).flat).length g.2) 26 2 ((nth ks k).flat).length (((nth ks k).flat).flatMap TEnt.vals)] w') : Calls Tryz.prog 92 #[.agg #[.int .i64 co, .int .i64 mo, .int .i64 rm, .slice a L.length cap], .int .i64 (i : Int)] w fun en w' => ∃ g : Option Addr × Nat, en = .returned (.slice g.1 ((flatL es ks)).length g.2) ∧ True ∧ HS w [] [.own (.slice g.1 ((flatL es ks)).length g.2) 26 2 ((flatL es ks)).length (((flatL es ks)).flatMap TEnt.vals)] w' := by
 rw [pln_nth hi] at hn
 have hes : (nth L i).es = es := congrArg Nd.es hn
 have hcs : (nth L i).cs = idxs ks := congrArg Nd.cs hn
 have hesl : (nth L i).es.length = es.length := by rw [hes]
 have hcsl : (nth L i).cs.length = ks.length := by rw [hcs, idxs_len]
 have hel : es.length ≤ 10000 := Nat.le_trans (es_sub es ks).length_le hfl
 have hkl : ks.length ≤ 10001 := by rcases hsh with h | h; rw [h]; exact Nat.zero_le _; omega
 refine enter (args := [_, _]) Tryz.func92 Tryz.ntmps92 rfl rfl (HS.refl w []) ?_
 iterate 2 refine aS ?_
 refine oBx fun b1 _ => ?_
 iterate 7 refine aS ?_
 refine o_p (p_indexAddr rfl rfl rfl sl_22 (i) (by omega) (by omega) (Rw.some hs.1 (by omega))) rfl ?_
 refine o_q (q_load_oldn _ rfl rfl sz_102 rfl (Rw.rd hs.1 hi)) rfl ?_
 refine oAl (fun b2 _ => ?_) zr_102
 refine oSt ?_
 iterate 11 refine aS ?_
 refine s_loopI (α := Nat × (Option Addr × Nat)) [6, 7, 13, 14, 15, 16, 17, 18, 19, 20, 21, 22, 23, 24, 25, 26, 27, 28, 29, 30, 31, 32, 33, 34, 35, 36, 37, 38, 39, 40, 41, 42, 43, 44, 45] (fun x => [(7, .int .i64 (x.1 : Int)), (6, .slice x.2.1 (preK es ks x.1).length x.2.2)]) (fun x => HS w [] [.blk b1 24 4 [.int .i64 co, .int .i64 mo, .int .i64 rm, .slice a L.length cap], .blk b2 102 3 (nth L i).vals, .own (.slice x.2.1 (preK es ks x.1).length x.2.2) 26 2 (preK es ks x.1).length ((preK es ks x.1).flatMap TEnt.vals)]) (fun x => x.1 ≤ es.length + 1) (fun x => es.length + 1 - x.1) (0, (none, 0)) (Nat.zero_le _) aSx (fun w h => (h.own_nil 26 2).ent aEt) (fun ⟨k, ga, gc⟩ hk1 => ?_)
 dsimp only
 simp only [] at hk1
 have hm1 := preK_len (k := k) hsh hk1
 iterate 9 refine aS ?_
 refine s_cond rfl (fun h3 => ?_) fun h3 => ?_
 ·try simp only [decide_eq_true_eq] at h3
  have hke : k ≤ es.length := by have hq := h3; omega
  have hm2 := midK_len hsh hke
  have hm3 := preK_len (k := k + 1) hsh (by omega)
  iterate 11 refine aS ?_
  refine s_cutI (α := Option Addr × Nat) [6, 24, 25, 26, 27, 28, 29, 30, 31, 32] (fun x => [(6, .slice x.1 (midK es ks k).length x.2)]) (fun x => HS w [] [.blk b1 24 4 [.int .i64 co, .int .i64 mo, .int .i64 rm, .slice a L.length cap], .blk b2 102 3 (nth L i).vals, .own (.slice x.1 (midK es ks k).length x.2) 26 2 (midK es ks k).length ((midK es ks k).flatMap TEnt.vals)]) (fun _ => True) ?_ ?_
  ·skip
   refine s_cond rfl (fun h4 => ?_) fun h4 => ?_
   ·try simp only [decide_eq_true_eq] at h4
    have hk0 : 0 < ks.length := by have hq := h4; omega
    have hkk : k < ks.length := by rcases hsh with h | h; rw [h] at hk0; exact absurd hk0 (by decide); omega
    have hm4 := congrArg List.length (midK_one (es := es) (k := k) hk0)
    rw [List.length_append] at hm4
    refine s_draw [8] mixed ?_
    refine dP 0 ?_
    refine dLn 1 [[7]] ?_
    refine dFa 2 ?_
    refine dLd 3 [[7, 6, 5]] ?_
    refine dP 4 ?_
    refine d_p 5 rfl (p_indexAddr rfl rfl rfl sl_30 (k) (by omega) (by omega) (Rw.some (hs.cs hi) (by omega))) (by kernel_rfl) rfl rfl ?_
    refine d_q 6 [[7]] rfl (q_load_old rfl rfl sz_3 (((hs.cs hi).rdj 0 (i := k) (by omega) rfl))) (by kernel_rfl) (by kernel_rfl) (by kernel_rfl) rfl ?_
    refine d_slot (show _ = Value.int .i64 ((nth ks k).idx : Int) from congrArg (Value.int .i64) (by rw [hcs]; exact idxs_gd hkk)) ?_
    refine d_h 7 rfl (h_call rfl fn_92 rfl (fun w1 h1 => ih w1 k hkk (hs.later h1.nil))) (by kernel_rfl) (fun w h => h.ent aEt) rfl (fun ⟨gu, gv⟩ _ => ?_)
    refine dBa ?_
    refine d_h 8 rfl (h_appendS ((nth ks k).flat.flatMap TEnt.vals) rfl rfl rfl sl_77 Tryz.underlying77 zr_26 rfl aPk (fun w h => Rw.src ev2 (HS.rw_own ev2 h aPk rfl) (HS.refl w [])) (flat_length ev2 _) (flat_one ev1 _) (by omega) (by simp only [maxLen]; omega)) (by kernel_rfl) (fun w h => h.ent aEt) rfl (fun b5 _ => ?_)
    refine dTu [] ?_
    refine dP 9 ?_
    refine dNi ?_
    exact s_joinI b5 trivial (by rw [midK_one hk0, List.length_append]; exact aSx) (fun w h => by rw [midK_one hk0, List.length_append, List.flatMap_append]; exact h.ent aEt)
   try simp only [decide_eq_false_iff_not] at h4
   have hk0 : ¬ 0 < ks.length := by have hq := h4; omega
   refine aS ?_
   exact s_joinI (ga, gc) trivial (by rw [midK_no hk0]; exact aSx) (fun w h => by rw [midK_no hk0]; exact h.ent aEt)
  intro ⟨gb, gf⟩ _
  iterate 8 refine aS ?_
  refine s_weaken (L' := [(0, _), (1, _), (2, _), (4, _), (5, _), (6, _), (7, _), (8, _), (9, _), (10, _), (11, _), (12, _), (37, _)]) aSx (fun _ h => h) ?_
  refine s_cutI (α := Option Addr × Nat) [6, 38, 39, 40, 41, 42, 43, 44, 45] (fun x => [(6, .slice x.1 (preK es ks (k + 1)).length x.2)]) (fun x => HS w [] [.blk b1 24 4 [.int .i64 co, .int .i64 mo, .int .i64 rm, .slice a L.length cap], .blk b2 102 3 (nth L i).vals, .own (.slice x.1 (preK es ks (k + 1)).length x.2) 26 2 (preK es ks (k + 1)).length ((preK es ks (k + 1)).flatMap TEnt.vals)]) (fun _ => True) ?_ ?_
  ·skip
   refine s_cond rfl (fun h6 => ?_) fun h6 => ?_
   ·try simp only [decide_eq_true_eq] at h6
    have hke2 : k < es.length := by have hq := h6; omega
    have hm5 := congrArg List.length (preK_one (es := es) (ks := ks) hke2)
    rw [List.length_append] at hm5
    iterate 5 refine aS ?_
    refine o_p (p_indexAddr rfl rfl rfl sl_77 (k) (by omega) (by omega) (Rw.some (hs.es hi) (by omega))) rfl ?_
    refine o_q (q_load_oldn _ rfl rfl sz_26 rfl (Rw.rd (hs.es hi) (by omega))) rfl ?_
    refine o_slot (show _ = Value.agg (TEnt.vals (nth es k)).toArray from by rw [hes]) ?_
    refine o_h (h_buildSlice (cs := [_, _]) rfl rfl sl_77 zr_26 rfl rfl rfl) rfl (fun b7 _ => ?_)
    refine o_h (h_appendS (TEnt.vals (nth es k)) rfl rfl rfl sl_77 Tryz.underlying77 zr_26 rfl aPk (src_blk aPk) rfl (ev1 _) (by simp only [List.length_singleton] at hm5; omega) (by simp only [maxLen]; omega)) rfl (fun b8 _ => ?_)
    iterate 2 refine aS ?_
    exact s_joinI b8 trivial (by rw [preK_one hke2, List.length_append]; exact aSx) (fun w h => by rw [preK_one hke2, List.length_append, List.flatMap_append]; simp only [List.flatMap_cons, List.flatMap_nil, List.append_nil]; exact h.ent aEt)
   try simp only [decide_eq_false_iff_not] at h6
   have hke2 : ¬ k < es.length := by have hq := h6; omega
   refine aS ?_
   exact s_joinI (gb, gf) trivial (by rw [preK_no hke2]; exact aSx) (fun w h => by rw [preK_no hke2]; exact h.ent aEt)
  intro ⟨gd, ge⟩ _
  iterate 4 refine aS ?_
  try refine oWr ?_
  iterate 2 refine aS ?_
  exact s_backI (k + 1, (gd, ge)) (by (try simp only []); omega) (by (try simp only []); omega) aSx (fun w h => h.ent aEt)
 try simp only [decide_eq_false_iff_not] at h3
 refine s_exit_to rfl ?_
 iterate 5 refine aS ?_
 exact s_retv (rs := [.tmp 4]) rfl (.tmp rfl (.nil)) (fun w' h' => ⟨(ga, gc), by have hke : k = es.length + 1 := (by omega); simp only [retV]; rw [← preK_all hsh, ← hke], trivial, by have hke : k = es.length + 1 := (by omega); rw [← preK_all hsh, ← hke]; exact h'.ent aEt⟩)
theorem c92 : ∀ (d : Nat) (w : World) (co mo rm : Int) (a : Option Addr) (cap : Nat) (L : List LNd) (T : BT) (lo hi : Nat), Nt w [] a L → L.length ≤ 1000 → Bel lo hi d T → NIn (pln L) T → T.flat.length ≤ 10000 → Calls Tryz.prog 92 #[.agg #[.int .i64 co, .int .i64 mo, .int .i64 rm, .slice a L.length cap], .int .i64 (T.idx : Int)] w fun en w' => ∃ g : Option Addr × Nat, en = .returned (.slice g.1 (T.flat).length g.2) ∧ True ∧ HS w [] [.own (.slice g.1 (T.flat).length g.2) 26 2 (T.flat).length ((T.flat).flatMap TEnt.vals)] w'
  | 0, w, co, mo, rm, a, cap, L, .nd i es ks, lo, hi, hs, hl, hB, hN, hf => by
    rw [BT.flat] at hf ⊢
    have hk := bel_0 hB
    exact c92s w co mo rm a cap L i es ks hs hl (by have h9 := hN.root.1; rwa [pln_len] at h9) hN.root.2 (.inl hk) hf (fun w1 k h => by rw [hk] at h; exact absurd h (Nat.not_lt_zero _))
  | d + 1, w, co, mo, rm, a, cap, L, .nd i es ks, lo, hi, hs, hl, hB, hN, hf => by
    have hf2 := hf
    rw [BT.flat] at hf ⊢
    exact c92s w co mo rm a cap L i es ks hs hl (by have h9 := hN.root.1; rwa [pln_len] at h9) hN.root.2 (.inr hB.1) hf (fun w1 k h h1 => c92 d w1 co mo rm a cap L (nth ks k) lo hi h1 hl (bel_kid hB h) (hN.kid h) (Nat.le_trans (kid_len hB.1 h) hf))
theorem c92z (w : World) (co mo rm : Int) (a : Option Addr) (cap : Nat) (L : List LNd) (T : BT) (d lo hi : Nat) (hs : Nt w [] a L) (hl : L.length ≤ 1000) (hB : Bel lo hi d T) (hN : NIn (pln L) T) (h0 : T.idx = 0) (hf : T.flat.length ≤ 10000) : Calls Tryz.prog 92 #[.agg #[.int .i64 co, .int .i64 mo, .int .i64 rm, .slice a L.length cap], .int .i64 0] w fun en w' => ∃ g : Option Addr × Nat, en = .returned (.slice g.1 (T.flat).length g.2) ∧ True ∧ HS w [] [.own (.slice g.1 (T.flat).length g.2) 26 2 (T.flat).length ((T.flat).flatMap TEnt.vals)] w' := by
  have h9 := c92 d w co mo rm a cap L T lo hi hs hl hB hN hf
  rw [h0] at h9
  exact h9
theorem own_ent {w0 w : World} {M : List Nat} {As As' : List HA} {a : Option Addr} {cap t k g : Nat} {l : List TEnt} (hk : k < l.length) (hg : a = some ⟨g, 0, none⟩) (h : HS w0 M As w) (hp : Pick As (.own (.slice a l.length cap) t 2 l.length (l.flatMap TEnt.vals)) As') (q : Nat) (v : Value) (hv : (TEnt.vals (nth l k))[q]? = some v) : Rd w [] g (0 + k * 2 + q) v := by
  have h1 := Rw.rd (h.rw_own ev2 hp rfl) (i := k) hk q v hv
  rw [hg] at h1
  exact h1
theorem c47 (w : World) (co mo rm : Int) (a : Option Addr) (cap : Nat) (L : List LNd) (T : BT) (d lo hi : Nat) (hs : Nt w [] a L) (hl : L.length ≤ 1000) (hB : Bel lo hi d T) (hN : NIn (pln L) T) (h0 : T.idx = 0) (hf : T.flat.length ≤ 10000) : Calls Tryz.prog 47 #[.agg #[.int .i64 co, .int .i64 mo, .int .i64 rm, .slice a L.length cap]] w fun en w' => ∃ g : Option Addr × Nat, en = .returned (.slice g.1 (T.flat).length g.2) ∧ True ∧ HS w [] [.own (.slice g.1 (T.flat).length g.2) 26 2 (T.flat).length ((T.flat).flatMap TEnt.vals)] w' := by
 refine enter (args := [_]) Tryz.func47 Tryz.ntmps47 rfl rfl (HS.refl w []) ?_
 iterate 2 refine aS ?_
 refine oBx fun b1 _ => ?_
 iterate 5 refine aS ?_
 refine o_h (h_call rfl fn_92 rfl (fun w1 h1 => c92z w1 co mo rm a cap L T d lo hi (hs.later h1.nil) hl hB hN h0 hf)) rfl (fun ⟨gu, gv⟩ _ => ?_)
 iterate 2 refine aS ?_
 exact s_retv (rs := [.tmp 2]) rfl (.tmp rfl (.nil)) (fun w' h' => ⟨(gu, gv), rfl, trivial, h'.ent aEt⟩)
theorem c53 (w : World) (j : Nat) (mo rm : Int) (a : Option Addr) (cap : Nat) (L : List LNd) (T : BT) (d lo hi : Nat) (key : List UInt8) (m : Nat) (hs : Nt w [] a L) (hl : L.length ≤ 1000) (hB : Bel lo hi d T) (hN : NIn (pln L) T) (h0 : T.idx = 0) (hf : T.flat.length ≤ 10000) (hj : j ≤ 3) (hK : ∀ x ∈ T.flat, keyOk (j : Int) x.key = true ∧ x.key.length ≤ 1000000) (hkey : key = [] ∨ (keyOk (j : Int) key = true ∧ key.length ≤ 1000000)) (hm : m ≤ 200) : Calls Tryz.prog 53 #[.agg #[.int .i64 (j : Int), .int .i64 mo, .int .i64 rm, .slice a L.length cap], .string (bs key), .int .i64 (m : Int)] w fun en w' => ∃ g : Option Addr × Nat, en = .returned (.slice g.1 (lstN (lstB (j : Int) key) m T.flat).length g.2) ∧ True ∧ HS w [] [.own (.slice g.1 (lstN (lstB (j : Int) key) m T.flat).length g.2) 26 2 (lstN (lstB (j : Int) key) m T.flat).length ((lstN (lstB (j : Int) key) m T.flat).flatMap TEnt.vals)] w' := by
 refine enter (args := [_, _, _]) Tryz.func53 Tryz.ntmps53 rfl rfl (HS.refl w []) ?_
 iterate 2 refine aS ?_
 refine oBx fun b1 _ => ?_
 iterate 9 refine aS ?_
 refine o_h (h_call rfl fn_47 rfl (fun w1 h1 => c47 w1 (j : Int) mo rm a cap L T d lo hi (hs.later h1.nil) hl hB hN h0 hf)) rfl (fun ⟨gl, gv⟩ _ => ?_)
 iterate 8 refine aS ?_
 refine s_loopI (α := Nat × (Option Addr × Nat)) [7, 9, 12, 13, 14, 15, 16, 17, 18, 19, 20, 21, 22, 23, 24, 25, 26, 27, 28, 29, 30, 31, 32, 33, 34, 35, 36, 37, 38, 39, 40, 41, 42, 43, 44] (fun x => [(9, .int .i64 (x.1 : Int)), (7, .slice x.2.1 (outN (lstB (j : Int) key) T.flat x.1).length x.2.2)]) (fun x => HS w [] [.blk b1 24 4 [.int .i64 (j : Int), .int .i64 mo, .int .i64 rm, .slice a L.length cap], .own (.slice gl (T.flat).length gv) 26 2 (T.flat).length ((T.flat).flatMap TEnt.vals), .own (.slice x.2.1 ((outN (lstB (j : Int) key) T.flat x.1)).length x.2.2) 26 2 ((outN (lstB (j : Int) key) T.flat x.1)).length (((outN (lstB (j : Int) key) T.flat x.1)).flatMap TEnt.vals)]) (fun x => x.1 ≤ T.flat.length ∧ (outN (lstB (j : Int) key) T.flat x.1).length ≤ m) (fun x => T.flat.length - x.1) (0, (none, 0)) ⟨Nat.zero_le _, Nat.zero_le _⟩ aSx (fun w h => (h.own_nil 26 2).ent aEt) (fun ⟨k, ga, gc⟩ hx => ?_)
 dsimp only
 obtain ⟨hk1, hk2⟩ := hx
 simp only [] at hk1 hk2
 iterate 8 refine aS ?_
 refine o_and 5 16 21 _ _ rfl
  (by
   intro hg2
   have hs3 := hg2; try simp only [decide_eq_true_eq] at hs3
   refine oOn 16 hg2 ?_
   refine aS ?_
   refine oOn 16 hg2 ?_
   refine aS ?_
   refine oOn 16 hg2 ?_
   refine aS ?_
   refine oOn 16 hg2 ?_
   refine aS ?_
   refine o_p (p_pickt rfl rfl hg2 rfl) rfl ?_
   refine aS ?_
   exact oJn 5 21)
  (by
   intro hg4
   have hs5 := hg4; try simp only [decide_eq_false_iff_not] at hs5
   refine oOf 16 hg4 ?_
   refine oOf 16 hg4 ?_
   refine oOf 16 hg4 ?_
   refine oOf 16 hg4 ?_
   refine o_p (p_pickf rfl rfl hg4 rfl) rfl ?_
   refine aS ?_
   exact oJn 5 21) ?_
 refine aS ?_
 refine s_cond rfl (fun h6 => ?_) fun h6 => ?_
 ·try simp only [Bool.and_eq_true, decide_eq_true_eq] at h6
  have hka : k < T.flat.length ∧ (outN (lstB (j : Int) key) T.flat k).length < m := by have hq := h6; constructor <;> omega
  refine s_fact (fun w h => own_addr (n := T.flat.length) (by omega) h aPk) fun hgx => ?_
  obtain ⟨g9, hgl, _⟩ := hgx
  iterate 4 refine aS ?_
  refine s_cutI (α := Bool) [24, 25, 26, 27, 28, 29, 30, 31, 32, 33, 34, 35, 36, 37] (fun x => [(37, .bool x)]) (fun _ => HS w [] [.blk b1 24 4 [.int .i64 (j : Int), .int .i64 mo, .int .i64 rm, .slice a L.length cap], .own (.slice gl (T.flat).length gv) 26 2 (T.flat).length ((T.flat).flatMap TEnt.vals), .own (.slice ga ((outN (lstB (j : Int) key) T.flat k)).length gc) 26 2 ((outN (lstB (j : Int) key) T.flat k)).length (((outN (lstB (j : Int) key) T.flat k)).flatMap TEnt.vals)]) (fun x => x = (lstB (j : Int) key) (nth T.flat k)) ?_ ?_
  ·skip
   refine s_draw [] mixed ?_
   refine dP 0 ?_
   refine dP 1 ?_
   refine dP 2 ?_
   apply d_split 26
   ·exact rfl
   ·intro hg7
    have hs8 := hg7; try simp only [decide_eq_true_eq] at hs8
    refine dOf 3 26 hg7 ?_
    refine dOf 4 26 hg7 ?_
    refine dOf 5 26 hg7 ?_
    refine dOf 6 26 hg7 ?_
    refine dOf 7 26 hg7 ?_
    refine dOf 8 26 hg7 ?_
    refine dOf 9 26 hg7 ?_
    refine dOf 10 26 hg7 ?_
    refine dOf 11 26 hg7 ?_
    refine dOf 12 26 hg7 ?_
    refine d_p 13 rfl (p_pickt rfl rfl hg7 rfl) (by kernel_rfl) rfl rfl ?_
    refine dNi ?_
    exact s_joinI true (by unfold lstB; simp_all) aSx (fun w h => h.ent aEt)
   intro hg9
   have hs10 := hg9; try simp only [decide_eq_false_iff_not] at hs10
   refine dFo 3 26 hg9 ?_
   refine d_qon 4 26 [] rfl rfl rfl hg9 (q_load rfl rfl sz_3 aPk rfl) (by kernel_rfl) (by kernel_rfl) (by kernel_rfl) rfl ?_
   refine dPo 5 26 hg9 ?_
   refine dPo 6 26 hg9 ?_
   refine d_pon 7 26 rfl rfl rfl hg9 (p_indexAddr rfl rfl rfl sl_77 _ rfl (by omega) hgl) (by kernel_rfl) rfl rfl ?_
   refine dFo 8 26 hg9 ?_
   refine d_qon 9 26 [] rfl rfl rfl hg9 (q_load_at rfl rfl sz_9 (fun w h => own_ent hka.1 hgl h aPk 0 _ rfl)) (by kernel_rfl) (by kernel_rfl) (by kernel_rfl) rfl ?_
   refine dPo 10 26 hg9 ?_
   refine d_qon 11 26 [] rfl rfl rfl hg9 (q_call rfl fn_33 rfl (fun w1 h1 => by have hkey2 := hkey.resolve_left (by simpa using hg9); exact c33 w1 j (nth T.flat k).key key hj (hK _ (mem_nth hka.1)).1 hkey2.1 (hK _ (mem_nth hka.1)).2 hkey2.2)) (by kernel_rfl) (by kernel_rfl) (by kernel_rfl) rfl ?_
   refine dPo 12 26 hg9 ?_
   refine d_p 13 rfl (p_pickf rfl rfl hg9 rfl) (by kernel_rfl) rfl rfl ?_
   refine dNi ?_
   exact s_joinI (decide (0 < cmpK (j : Int) (nth T.flat k).key key)) (by unfold lstB; simp_all) aSx (fun w h => h.ent aEt)
  intro x9 hx9
  refine s_cutI (α := Option Addr × Nat) [7, 38, 39, 40, 41, 42, 43, 44] (fun x => [(7, .slice x.1 (outN (lstB (j : Int) key) T.flat (k + 1)).length x.2)]) (fun x => HS w [] [.blk b1 24 4 [.int .i64 (j : Int), .int .i64 mo, .int .i64 rm, .slice a L.length cap], .own (.slice gl (T.flat).length gv) 26 2 (T.flat).length ((T.flat).flatMap TEnt.vals), .own (.slice x.1 ((outN (lstB (j : Int) key) T.flat (k + 1))).length x.2) 26 2 ((outN (lstB (j : Int) key) T.flat (k + 1))).length (((outN (lstB (j : Int) key) T.flat (k + 1))).flatMap TEnt.vals)]) (fun _ => (outN (lstB (j : Int) key) T.flat (k + 1)).length ≤ m) ?_ ?_
  ·skip
   refine s_cond rfl (fun h11 => ?_) fun h11 => ?_
   ·skip
    have hp0 : (lstB (j : Int) key) (nth T.flat k) = true := by rw [← hx9]; exact h11
    have hm5 := congrArg List.length (outN_one hka.1 hp0)
    rw [List.length_append, List.length_singleton] at hm5
    iterate 4 refine aS ?_
    refine o_p (p_indexAddr rfl rfl rfl sl_77 _ rfl (by omega) hgl) rfl ?_
    refine o_q (q_load_atn _ rfl rfl sz_26 rfl (fun w h => own_ent hka.1 hgl h aPk)) rfl ?_
    refine o_slot (show _ = Value.agg (TEnt.vals (nth T.flat k)).toArray from rfl) ?_
    refine o_h (h_buildSlice (cs := [_, _]) rfl rfl sl_77 zr_26 rfl rfl rfl) rfl (fun b12 _ => ?_)
    refine o_h (h_appendS (TEnt.vals (nth T.flat k)) rfl rfl rfl sl_77 Tryz.underlying77 zr_26 rfl aPk (src_blk aPk) rfl (ev1 _) (by omega) (by simp only [maxLen]; omega)) rfl (fun b13 _ => ?_)
    iterate 2 refine aS ?_
    exact s_joinI b13 (by rw [outN_one hka.1 hp0, List.length_append, List.length_singleton]; omega) (by rw [outN_one hka.1 hp0, List.length_append]; exact aSx) (fun w h => by rw [outN_one hka.1 hp0, List.length_append, List.flatMap_append]; simp only [List.flatMap_cons, List.flatMap_nil, List.append_nil]; exact h.ent aEt)
   skip
   have hp0 : ¬ (lstB (j : Int) key) (nth T.flat k) = true := by rw [← hx9]; have hq := h11; simp [hq]
   refine aS ?_
   exact s_joinI (ga, gc) (by rw [outN_no hka.1 hp0]; exact hk2) (by rw [outN_no hka.1 hp0]; exact aSx) (fun w h => by rw [outN_no hka.1 hp0]; exact h.ent aEt)
  intro ⟨gd, ge⟩ hk3
  iterate 4 refine aS ?_
  try refine oWr ?_
  iterate 2 refine aS ?_
  exact s_backI (k + 1, (gd, ge)) (by (try simp only []); omega) ⟨by (try simp only []); omega, hk3⟩ aSx (fun w h => h.ent aEt)
 try simp only [Bool.and_eq_false_iff, decide_eq_false_iff_not] at h6
 refine s_exit_to rfl ?_
 iterate 5 refine aS ?_
 exact s_retv (rs := [.tmp 6]) rfl (.tmp rfl (.nil)) (fun w' h' => ⟨(ga, gc), by simp only [retV]; rw [lst_end hk1 hk2 (by omega)], trivial, by rw [← lst_end hk1 hk2 (by omega)]; exact h'.ent aEt⟩)
end Go.Proofs
