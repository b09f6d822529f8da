/- Contracts of the program's functions, proved by walking them with the rules of the Gx texts; without conditions beyond those that each contract names. -/
import Derived.WalkKit
import Derived.Deep.Draws
import Derived.TacticsIn
import Derived.OrdersIn
import Derived.RangeFuncLeaves
import Derived.Lib.Strings
import Derived.Laws.BytesArg
import Derived.Laws.IdiomStrings
import Derived.Deep.Quiet
import Derived.ProofKit
import Derived.OpenShut
import Derived.Laws.StructEq
import Derived.ChangeKeysEq
import Derived.Laws.Externs
import Derived.Lib.Overlaps
import Derived.Carry
import Derived.Laws.Small
import Derived.Lib.Bytealg
import Derived.Test.YtfappgmkbnddiaaGreatProg
import Derived.KernelRfl
import Derived.Lib.Builder
import Derived.Laws.Pointers
import Derived.RangeFuncRecord
import Derived.Test.YtfappgmkbnddiaaGreatP2
namespace Go.Proofs
open Go Go.RowKit Gx
set_option linter.unusedVariables false
set_option linter.unusedSimpArgs false
attribute [local irreducible] Go.Calls Gx.S Gx.O Gx.D Gx.OpP Gx.OpQ Gx.OpH
set_option maxRecDepth 20000
theorem fn_148 : isFn Tryz.prog 148 = true := by kernel_rfl
theorem fn_123 : isFn Tryz.prog 123 = true := by kernel_rfl
theorem sz_140 : tsz Tryz.prog 140 = some (1, false) := by kernel_rfl
instance : TSz Tryz.prog 140 1 false := ⟨sz_140⟩
theorem sl_140 : tsl Tryz.prog 140 = some (4, 1, 1) := by kernel_rfl
theorem c148 (w : World) (ua : Option Addr) (uc : Nat) (u : List Int) (n : Int) (hu : Rw inV 1 w [] ua u) (hum : u.length ≤ 100000) : Calls Tryz.prog 148 #[.slice ua u.length uc, .int .i64 n] w fun en w' => en = .returned (.int .i64 (ixI (hasC u n))) ∧ Below w.heap.size w w' := by
 refine enter (args := [_, _]) Tryz.func148 Tryz.ntmps148 rfl rfl (HS.refl w []) ?_
 iterate 12 refine aS ?_
 refine s_loopI (α := Nat) [4, 5, 8, 9, 10, 11, 12, 13, 14, 15, 16, 17, 18] (fun k => [(8, .int .i64 (k : Int))]) (fun _ => _) (fun k => k ≤ u.length ∧ ∀ i, i < k → (hasC u n).getD i false = false) (fun k => u.length - k) 0 ⟨Nat.zero_le _, fun i h => absurd h (Nat.not_lt_zero i)⟩ aSx (fun w h => h) (fun k hkk => ?_)
 obtain ⟨hk1, hk2⟩ := hkk
 iterate 5 refine aS ?_
 refine s_cond rfl (fun h1 => ?_) fun h1 => ?_
 ·try simp only [decide_eq_true_eq] at h1
  have hk : k < u.length := by omega
  iterate 13 refine aS ?_
  refine o_p (p_indexAddr rfl rfl rfl sl_30 (k) (by omega) (by omega) (Rw.some hu (by omega))) rfl ?_
  refine o_q (q_load_old rfl rfl sz_3 ((hu.rdj 0 hk rfl))) rfl ?_
  iterate 2 refine aS ?_
  refine s_cond rfl (fun h2 => ?_) fun h2 => ?_
  ·try simp only [decide_eq_true_eq] at h2
   have hq9 : n = u.getD k 0 := h2
   have e := ixB_eq (l := hasC u n) (k := k) (by rw [hasC_len]; omega) hk2 (fun _ => by rw [hasC_get hk]; exact decide_eq_true hq9)
   iterate 5 refine aS ?_
   exact s_retv (rs := [.tmp 4]) rfl (.tmp rfl (.nil)) (fun w' h' => ⟨by simp only [retV, ixI, e, hasC_len]; rw [if_pos hk], h'.below⟩)
  try simp only [decide_eq_false_iff_not] at h2
  have hq9 : ¬ n = u.getD k 0 := h2
  iterate 4 refine aS ?_
  try refine oWr ?_
  iterate 2 refine aS ?_
  exact s_backI (k + 1) (by omega) ⟨by omega, fun i hi => (Nat.lt_or_ge i k).elim (hk2 i) (fun h => by obtain rfl : i = k := (by omega); rw [hasC_get hk]; exact decide_eq_false hq9)⟩ aSx (fun w h => h)
 try simp only [decide_eq_false_iff_not] at h1
 obtain rfl : k = u.length := by omega
 refine s_exit_to rfl ?_
 iterate 4 refine aS ?_
 exact s_retv (rs := [.tmp 4]) rfl (.tmp rfl (.nil)) (fun w' h' => ⟨by have e := ixB_eq (l := hasC u n) (k := u.length) (by rw [hasC_len]; omega) hk2 (fun h => by rw [hasC_len] at h; omega); simp only [retV, ixI, e, hasC_len]; rw [if_neg (by omega)], h'.below⟩)
theorem c126 (w : World) (ua : Option Addr) (uc : Nat) (u : List Int) (n : Int) (hu : Rw inV 1 w [] ua u) (hum : u.length ≤ 100000) : Calls Tryz.prog 126 #[.slice ua u.length uc, .int .i64 n] w fun en w' => en = .returned (.bool (decide (n ∈ u))) ∧ Below w.heap.size w w' := by
 refine enter (args := [_, _]) Tryz.func126 Tryz.ntmps126 rfl rfl (HS.refl w []) ?_
 iterate 8 refine aS ?_
 refine o_q (q_call rfl fn_148 rfl (fun w1 h1 => c148 w1 ua uc u n (hu.later h1) hum)) rfl ?_
 iterate 3 refine aS ?_
 exact s_retv (rs := [.tmp 4]) rfl (.tmp rfl (.nil)) (fun w' h' => ⟨by rw [← hasC_any, ← ixI_any]; rfl, h'.below⟩)
def WkC (S : Type) (I : S → Prop) (C : S → HA) (st : S → Vis → S) (er : S → Vis → Int × Int) (q : Nat) (cv : Array Value) (bt : Nat) (j : Nat) (mo rm : Int) (a : Option Addr) (cap : Nat) (L : List LNd) (f : Nat) : Prop := ∀ (w : World) (s : S) (v : Vis) (pl ph : Option Addr) (P : List Nat), (HS w (fps [C s]) [C s] w) → (isFn Tryz.prog q = true) → (∀ s1 s2 : S, (C s1).fp = (C s2).fp) → (∀ s2 v2, I s2 → I (st s2 v2)) → (I s) → (∀ (s2 : S) (v2 : Vis) (p2 p3 : Option Addr) (w1 : World), HS w (fps [C s]) [C s2] w1 → I s2 → v2.i < L.length → KOk (j : Int) v2.lo → KOk (j : Int) v2.hi → PtrK w1 (fps [C s2]) p2 v2.lo → PtrK w1 (fps [C s2]) p3 v2.hi → Calls Tryz.prog q (#[] ++ [.int .i64 (v2.i : Int), .int .i64 v2.d, .pointer p2, .pointer p3].toArray ++ cv) w1 fun en w2 => ∃ g : Unit, en = .returned (.tuple #[.int .i64 (er s2 v2).1, .int .i64 (er s2 v2).2]) ∧ True ∧ HS w1 (fps [C s2]) [C (st s2 v2)] w2) → (TbR w (fps [C s]) bt (j : Int) mo rm a L.length cap) → (Nt w (fps [C s]) a L) → (TOk (j : Int) (pln L)) → (Bd (pln L)) → (PtrK w (fps [C s]) pl v.lo) → (PtrK w (fps [C s]) ph v.hi) → (0 < L.length) → (Gx.Way (pln L) (v.i :: P)) → (P.length + f = L.length) → (v.d = (P.length : Int) + 1) → (KOk (j : Int) v.lo) → (KOk (j : Int) v.hi) → Calls Tryz.prog 123 #[.pointer (some ⟨bt, 0, none⟩), .int .i64 (v.i : Int), .int .i64 v.d, .pointer pl, .pointer ph, .func (.func q) #[] cv] w fun en w' => ∃ g : Unit, en = .returned (.tuple #[.int .i64 (runV st er s (vis (pln L) f v)).1.1, .int .i64 (runV st er s (vis (pln L) f v)).1.2]) ∧ True ∧ HS w (fps [C s]) [C (runV st er s (vis (pln L) f v)).2] w'
theorem c123s (w : World) (S : Type) (I : S → Prop) (C : S → HA) (st : S → Vis → S) (er : S → Vis → Int × Int) (q : Nat) (cv : Array Value) (bt : Nat) (j : Nat) (mo rm : Int) (a : Option Addr) (cap : Nat) (L : List LNd) (s : S) (v : Vis) (pl ph : Option Addr) (P : List Nat) (f : Nat) (hw : HS w (fps [C s]) [C s] w) (hq : isFn Tryz.prog q = true) (hfp : ∀ s1 s2 : S, (C s1).fp = (C s2).fp) (hI : ∀ s2 v2, I s2 → I (st s2 v2)) (hIs : I s) (hv : ∀ (s2 : S) (v2 : Vis) (p2 p3 : Option Addr) (w1 : World), HS w (fps [C s]) [C s2] w1 → I s2 → v2.i < L.length → KOk (j : Int) v2.lo → KOk (j : Int) v2.hi → PtrK w1 (fps [C s2]) p2 v2.lo → PtrK w1 (fps [C s2]) p3 v2.hi → Calls Tryz.prog q (#[] ++ [.int .i64 (v2.i : Int), .int .i64 v2.d, .pointer p2, .pointer p3].toArray ++ cv) w1 fun en w2 => ∃ g : Unit, en = .returned (.tuple #[.int .i64 (er s2 v2).1, .int .i64 (er s2 v2).2]) ∧ True ∧ HS w1 (fps [C s2]) [C (st s2 v2)] w2) (ht : TbR w (fps [C s]) bt (j : Int) mo rm a L.length cap) (hs : Nt w (fps [C s]) a L) (hT : TOk (j : Int) (pln L)) (hB : Bd (pln L)) (hpl : PtrK w (fps [C s]) pl v.lo) (hph : PtrK w (fps [C s]) ph v.hi) (h0 : 0 < L.length) (hway : Gx.Way (pln L) (v.i :: P)) (hf : P.length + (f + 1) = L.length) (hd : v.d = (P.length : Int) + 1) (hko : KOk (j : Int) v.lo) (hkp : KOk (j : Int) v.hi) (ih : WkC S I C st er q cv bt j mo rm a cap L f) : Calls Tryz.prog 123 #[.pointer (some ⟨bt, 0, none⟩), .int .i64 (v.i : Int), .int .i64 v.d, .pointer pl, .pointer ph, .func (.func q) #[] cv] w fun en w' => ∃ g : Unit, en = .returned (.tuple #[.int .i64 (runV st er s (vis (pln L) (f + 1) v)).1.1, .int .i64 (runV st er s (vis (pln L) (f + 1) v)).1.2]) ∧ True ∧ HS w (fps [C s]) [C (runV st er s (vis (pln L) (f + 1) v)).2] w' := by
 have hi0 := way_lt hT (by rw [pln_len]; exact h0) hway v.i (List.mem_cons_self ..)
 have hi : v.i < L.length := by rw [pln_len] at hi0; exact hi0
 have hn := pln_nth hi
 have hle := hB.len
 rw [pln_len] at hle
 have hel := hB.es v.i hi0
 have hcl := hB.cs v.i hi0
 rw [hn] at hel hcl
 simp only [LNd.pl] at hel hcl
 have hsh := hT.shape v.i hi0
 rw [hn] at hsh
 simp only [LNd.pl] at hsh
 refine enter (args := [_, _, _, _, _, _]) Tryz.func123 Tryz.ntmps123 rfl rfl hw ?_
 iterate 13 refine aS ?_
 refine o_h (h_callvF (Cs := [C s]) rfl rfl hq rfl aPs (fun w1 h1 hf9 => hv s v pl ph w1 (h1.ent aEt) hIs hi hko hkp ((hpl.keep h1).mono (fps_pick aPs)) ((hph.keep h1).mono (fps_pick aPs)))) rfl (fun _ _ => ?_)
 iterate 11 refine aS ?_
 refine s_cond rfl (fun h1 => ?_) fun h1 => ?_
 ·try simp only [Bool.not_eq_true', decide_eq_false_iff_not] at h1
  have hz : runV st er s (vis (pln L) (f + 1) v) = (er s v, st s v) := by rw [vis, runV, if_neg h1]
  iterate 7 refine aS ?_
  exact s_retv (rs := [.tmp 12, .tmp 13]) rfl (.tmp rfl (.tmp rfl (.nil))) (fun w' h' => ⟨(), by rw [hz]; rfl, trivial, by rw [hz]; exact h'.ent aEt⟩)
 try simp only [Bool.not_eq_false', decide_eq_true_eq] at h1
 have hz0 : runV st er s [v] = ((0, 0), st s v) := by rw [runV, if_pos h1, runV]
 iterate 7 refine aS ?_
 refine o_q (q_load_old rfl rfl sz_22 (ht 3 _ rfl)) rfl ?_
 refine aS ?_
 refine o_p (p_indexAddr rfl rfl rfl sl_22 (v.i) (by omega) (by omega) (Rw.some hs.1 (by omega))) rfl ?_
 refine o_q (q_load_oldn _ rfl rfl sz_102 rfl (Rw.rd hs.1 hi)) rfl ?_
 refine oAl (fun b2 _ => ?_) zr_102
 refine oSt ?_
 iterate 3 refine aS ?_
 refine s_weaken (L' := [(0, _), (2, _), (3, _), (4, _), (5, _), (12, _), (13, _), (16, _)]) aSx (fun _ h => h) ?_
 iterate 7 refine aS ?_
 refine s_loopI (α := Nat × S) [12, 13, 17, 18, 19, 20, 21, 22, 47, 48, 49, 50, 51, 52, 53, 54, 55, 56, 57, 58, 59, 60, 61, 62, 63, 64, 65, 66, 67, 68, 69, 70, 71, 72, 73, 74, 75, 76, 77, 78, 79, 80, 81, 82, 83, 84, 85, 86, 87] (fun x => [(47, .int .i64 (x.1 : Int))]) (fun x => HS w (fps [C s]) [.blk b2 102 3 (nth L v.i).vals, C x.2]) (fun x => x.1 ≤ (nth L v.i).cs.length ∧ (runV st er s (visK (pln L) f v x.1)).1.2 = 0 ∧ (runV st er s (visK (pln L) f v x.1)).2 = x.2) (fun x => (nth L v.i).cs.length - x.1) (0, st s v) ⟨Nat.zero_le _, by rw [visK_0, hz0], by rw [visK_0, hz0]⟩ aSx (fun w h => h.ent aEt) (fun ⟨k, sk⟩ hx => ?_)
 dsimp only
 obtain ⟨hk1, hk2, hk3⟩ := hx
 simp only [] at hk1 hk2 hk3
 iterate 5 refine aS ?_
 refine s_cond rfl (fun h3 => ?_) fun h3 => ?_
 ·try simp only [decide_eq_true_eq] at h3
  have hkl : k < (nth L v.i).cs.length := by omega
  have hkid := kid_in hT hi0 (k := k) (by rw [hn]; exact hkl)
  have hwk := way_kid hway hi0 (k := k) (by rw [hn]; exact hkl) (by omega)
  have hki : ((kidV (pln L) v k).i : Int) = (nth L v.i).cs.getD k 0 := by unfold kidV; rw [hn] at hkid ⊢; simp only [LNd.pl] at hkid ⊢; rw [Int.toNat_of_nonneg (by omega)]
  rw [pln_len] at hkid
  iterate 6 refine aS ?_
  refine o_p (p_indexAddr rfl rfl rfl sl_30 (k) (by omega) (by omega) (Rw.some (hs.cs hi) (by omega))) rfl ?_
  refine o_q (q_load_old rfl rfl sz_3 (((hs.cs hi).rdj 0 (i := k) hkl rfl))) rfl ?_
  iterate 2 refine aS ?_
  refine o_slot (show _ = Value.int .i64 ((kidV (pln L) v k).i : Int) from by rw [hki]; rfl) ?_
  iterate 14 refine aS ?_
  refine s_cutI (α := Option Addr) [19, 56, 57, 58, 59, 60, 61] (fun p => [(19, .pointer p)]) (fun _ => HS w (fps [C s]) [.blk b2 102 3 (nth L v.i).vals, C sk]) (fun p => PtrK w (fps [C s]) p (loK (nth L v.i).es k v.lo)) ?_ ?_
  ·skip
   refine s_cond rfl (fun h4 => ?_) fun h4 => ?_
   ·try simp only [decide_eq_true_eq] at h4
    iterate 5 refine aS ?_
    try refine oWr ?_
    refine o_p (p_indexAddr rfl rfl rfl sl_77 (k - 1) (by omega) (by omega) (Rw.some (hs.es hi) (by omega))) rfl ?_
    iterate 3 refine aS ?_
    exact s_joinI (some ⟨ab (nth L v.i).ea, ao (nth L v.i).ea + (k - 1) * 2, none⟩) (by rw [show loK (nth L v.i).es k v.lo = some (nth (nth L v.i).es (k - 1)).key from if_pos (by omega)]; exact ⟨_, _, rfl, ((hs.es hi).rdj 0 (by omega) rfl)⟩) aSx (fun w h => h.ent aEt)
   try simp only [decide_eq_false_iff_not] at h4
   refine aS ?_
   exact s_joinI pl (by rw [show loK (nth L v.i).es k v.lo = v.lo from if_neg (by omega)]; exact hpl) aSx (fun w h => h.ent aEt)
  intro p1 hp1
  iterate 9 refine aS ?_
  refine s_weaken (L' := [(0, _), (2, _), (3, _), (4, _), (5, _), (16, _), (17, _), (18, _), (19, _), (20, _), (44, _), (45, _), (46, _), (47, _), (66, _)]) aSx (fun _ h => h) ?_
  refine s_cutI (α := Option Addr) [20, 67, 68, 69, 70, 71] (fun p => [(20, .pointer p)]) (fun _ => HS w (fps [C s]) [.blk b2 102 3 (nth L v.i).vals, C sk]) (fun p => PtrK w (fps [C s]) p (hiK (nth L v.i).es k v.hi)) ?_ ?_
  ·skip
   refine s_cond rfl (fun h5 => ?_) fun h5 => ?_
   ·try simp only [decide_eq_true_eq] at h5
    iterate 4 refine aS ?_
    refine o_p (p_indexAddr rfl rfl rfl sl_77 (k) (by omega) (by omega) (Rw.some (hs.es hi) (by omega))) rfl ?_
    iterate 3 refine aS ?_
    exact s_joinI (some ⟨ab (nth L v.i).ea, ao (nth L v.i).ea + k * 2, none⟩) (by rw [show hiK (nth L v.i).es k v.hi = some (nth (nth L v.i).es k).key from if_pos (by omega)]; exact ⟨_, _, rfl, ((hs.es hi).rdj 0 (by omega) rfl)⟩) aSx (fun w h => h.ent aEt)
   try simp only [decide_eq_false_iff_not] at h5
   refine aS ?_
   exact s_joinI ph (by rw [show hiK (nth L v.i).es k v.hi = v.hi from if_neg (by omega)]; exact hph) aSx (fun w h => h.ent aEt)
  intro p2 hp2
  iterate 6 refine aS ?_
  try refine oWr ?_
  iterate 3 refine aS ?_
  refine o_h (h_callF (Cs := [C sk]) rfl fn_123 rfl aPs (fun w1 h1 hf9 => ih w1 sk (kidV (pln L) v k) p1 p2 (v.i :: P) hf9 hq hfp hI (hk3 ▸ runV_inv hI _ _ hIs) (fun s2 v2 p3 p4 w2 h2 hs2 hi2 ha2 hb2 hp3 hp4 => hv s2 v2 p3 p4 w2 (HS.thenF (h1.ent (Bs := [C sk]) aEt) h2) hs2 hi2 ha2 hb2 hp3 hp4) ((ht.keep h1).mono (fps_pick aPs)) ((hs.keep h1).mono (fps_pick aPs)) hT hB (by unfold kidV; rw [hn]; exact (hp1.keep h1).mono (fps_pick aPs)) (by unfold kidV; rw [hn]; exact (hp2.keep h1).mono (fps_pick aPs)) h0 hwk (by simp only [List.length_cons]; omega) (by show v.d + 1 = _; simp only [List.length_cons]; omega) (kok_lo hT hi0 (by rw [hn]; simp only [LNd.pl]; omega) hko) (kok_hi hT hi0 hkp))) rfl (fun _ _ => ?_)
  iterate 11 refine aS ?_
  refine s_cond rfl (fun h6 => ?_) fun h6 => ?_
  ·try simp only [Bool.not_eq_true', decide_eq_false_iff_not] at h6
   have e9 : runV st er s (visK (pln L) f v k ++ vis (pln L) f (kidV (pln L) v k)) = runV st er sk (vis (pln L) f (kidV (pln L) v k)) := by rw [runV_ok _ _ hk2, hk3]
   have hz : runV st er s (vis (pln L) (f + 1) v) = runV st er sk (vis (pln L) f (kidV (pln L) v k)) := by rw [visK_all, hn]; simp only [LNd.pl]; obtain ⟨B, eB⟩ := visK_more (pln L) f v (show k + 1 ≤ (nth L v.i).cs.length by omega); rw [eB, visK_succ, runV_err _ _ (by rw [e9]; exact h6), e9]
   refine aS ?_
   refine s_weaken (L' := [(0, _), (2, _), (3, _), (4, _), (5, _), (16, _), (21, _), (22, _), (44, _), (45, _), (46, _), (47, _)]) aSx (fun _ h => h) ?_
   iterate 6 refine aS ?_
   exact s_retv (rs := [.tmp 12, .tmp 13]) rfl (.tmp rfl (.tmp rfl (.nil))) (fun w' h' => ⟨(), by rw [hz]; rfl, trivial, by rw [hz]; exact h'.ent aEt⟩)
  try simp only [Bool.not_eq_false', decide_eq_true_eq] at h6
  have hz : runV st er s (visK (pln L) f v (k + 1)) = runV st er sk (vis (pln L) f (kidV (pln L) v k)) := by rw [visK_succ, runV_ok _ _ hk2, hk3]
  iterate 2 refine aS ?_
  refine s_weaken (L' := [(0, _), (2, _), (3, _), (4, _), (5, _), (16, _), (44, _), (45, _), (46, _), (47, _)]) aSx (fun _ h => h) ?_
  iterate 2 refine aS ?_
  try refine oWr ?_
  iterate 2 refine aS ?_
  exact s_backI (k + 1, (runV st er sk (vis (pln L) f (kidV (pln L) v k))).2) (by (try simp only []); omega) ⟨by (try simp only []); omega, by simp only []; rw [hz]; exact h6, by simp only []; rw [hz]⟩ aSx (fun w h => h.ent aEt)
 try simp only [decide_eq_false_iff_not] at h3
 refine s_exit_to rfl ?_
 iterate 5 refine aS ?_
 exact s_retv (rs := [.tmp 12, .tmp 13]) rfl (.tmp rfl (.tmp rfl (.nil))) (fun w' h' => ⟨(), by have hke : k = (nth L v.i).cs.length := (by omega); rw [visK_all, hn]; simp only [LNd.pl]; rw [← hke, runV_0 _ _ hk2]; rfl, trivial, by have hke : k = (nth L v.i).cs.length := (by omega); rw [visK_all, hn]; simp only [LNd.pl]; rw [← hke, hk3]; exact h'.ent aEt⟩)
theorem walk_c (S : Type) (I : S → Prop) (C : S → HA) (st : S → Vis → S) (er : S → Vis → Int × Int) (q : Nat) (cv : Array Value) (bt : Nat) (j : Nat) (mo rm : Int) (a : Option Addr) (cap : Nat) (L : List LNd) : ∀ f, WkC S I C st er q cv bt j mo rm a cap L f
  | 0 => fun w s v pl ph P hw hq hfp hI hIs hv ht hs hT hB hpl hph h0 hway hf hd hko hkp => by
    have hl := way_len hT (by rw [pln_len]; exact h0) hway
    rw [pln_len] at hl
    simp only [List.length_cons] at hl
    omega
  | f + 1 => fun w s v pl ph P hw hq hfp hI hIs hv ht hs hT hB hpl hph h0 hway hf hd hko hkp => c123s w S I C st er q cv bt j mo rm a cap L s v pl ph P f hw hq hfp hI hIs hv ht hs hT hB hpl hph h0 hway hf hd hko hkp (walk_c S I C st er q cv bt j mo rm a cap L f)
theorem c124 (w : World) (i : Nat) (d : Int) (pl ph : Option Addr) (c4 bb n : Nat) (s : List Bool) (hw : HS w (fps [.blk bb 4 n (s.map Value.bool)]) [.blk bb 4 n (s.map Value.bool)] w) (hc4 : Rd w (fps [.blk bb 4 n (s.map Value.bool)]) c4 0 (.slice (some ⟨bb, 0, none⟩) n n)) (hi : i < n) (hn : s.length = n) : Calls Tryz.prog 124 #[.int .i64 (i : Int), .int .i64 d, .pointer pl, .pointer ph, .pointer (some ⟨c4, 0, none⟩)] w fun en w' => ∃ g : Unit, en = .returned (.tuple #[.int .i64 0, .int .i64 0]) ∧ True ∧ HS w (fps [.blk bb 4 n (s.map Value.bool)]) [.blk bb 4 n ((s.set i true).map Value.bool)] w' := by
 refine enter (args := [_, _, _, _, _]) Tryz.func124 Tryz.ntmps124 rfl rfl hw ?_
 iterate 7 refine aS ?_
 refine o_q (q_load_old rfl rfl sz_140 (hc4)) rfl ?_
 refine aS ?_
 refine o_p (p_indexAddr rfl rfl rfl sl_140 (i) (by omega) (by omega) rfl) rfl ?_
 refine o_h0 (h_store rfl rfl rfl sz_4 rfl aPt (by first | (simp only [List.length_map, List.length_singleton, List.length_cons, List.length_nil]; omega) | (simp; omega)) rfl) (fun _ _ => ?_)
 iterate 6 refine aS ?_
 exact s_retv (rs := [.tmp 9, .tmp 10]) rfl (.tmp rfl (.tmp rfl (.nil))) (fun w' h' => ⟨(), rfl, trivial, by have h2 := h'; rw [List.map_set]; simp only [setMany, Nat.zero_add, Nat.mul_one] at h2; exact h2.ent aEt⟩)
theorem fn_126 : isFn Tryz.prog 126 = true := by kernel_rfl
theorem fn_105 : isFn Tryz.prog 105 = true := by kernel_rfl
theorem ipt_171 : isPt Tryz.prog 171 9 := isPt_of Tryz.underlying171 sz_9 (by decide)
set_option maxHeartbeats 1000000 in
theorem c125 (w : World) (v : Vis) (pl ph : Option Addr) (c1 c7 : Nat) (s : Int) (bt : Nat) (j : Nat) (mo rm : Int) (a : Option Addr) (cap : Nat) (L : List LNd) (hw : HS w (fps [.blk c7 3 1 [.int .i64 s]]) [.blk c7 3 1 [.int .i64 s]] w) (hc1 : Rd w (fps [.blk c7 3 1 [.int .i64 s]]) c1 0 (.pointer (some ⟨bt, 0, none⟩))) (ht : TbR w (fps [.blk c7 3 1 [.int .i64 s]]) bt (j : Int) mo rm a L.length cap) (hs : Nt w (fps [.blk c7 3 1 [.int .i64 s]]) a L) (hj : j ≤ 3) (hmo : 0 ≤ mo ∧ mo ≤ 1000) (hi : v.i < L.length) (hl : L.length ≤ 1000) (hel : (nth L v.i).es.length ≤ 1000) (hcl : (nth L v.i).cs.length ≤ 1000) (hc0 : (nth L 0).cs.length ≤ 1000) (he0 : (nth L 0).es.length ≤ 1000) (hpl : PtrK w (fps [.blk c7 3 1 [.int .i64 s]]) pl v.lo) (hph : PtrK w (fps [.blk c7 3 1 [.int .i64 s]]) ph v.hi) (hlo : ∀ k, v.lo = some k → (keyOk (j : Int) k = true ∧ k.length ≤ 1000000)) (hhi : ∀ k, v.hi = some k → (keyOk (j : Int) k = true ∧ k.length ≤ 1000000)) (hok : ∀ x ∈ (nth L v.i).es, keyOk (j : Int) x.key = true ∧ x.key.length ≤ 1000000) : Calls Tryz.prog 125 #[.int .i64 (v.i : Int), .int .i64 v.d, .pointer pl, .pointer ph, .pointer (some ⟨c1, 0, none⟩), .pointer (some ⟨c7, 0, none⟩)] w fun en w' => ∃ g : Unit, en = .returned (.tuple #[.int .i64 (erV (⟨(j : Int), mo, rm, pln L⟩ : Tre) s v).1, .int .i64 (erV (⟨(j : Int), mo, rm, pln L⟩ : Tre) s v).2]) ∧ True ∧ HS w (fps [.blk c7 3 1 [.int .i64 s]]) [.blk c7 3 1 [.int .i64 (stV (⟨(j : Int), mo, rm, pln L⟩ : Tre) s v)]] w' := by
 have h00 : 0 < L.length := by omega
 have hn : nth (pln L) v.i = (nth L v.i).pl := pln_nth hi
 have hn0 : nth (pln L) 0 = (nth L 0).pl := pln_nth h00
 have hG : gapB (⟨(j : Int), mo, rm, pln L⟩ : Tre) v = (decide (0 < v.i) && (decide (((nth L v.i).es.length : Int) < mo / 2) || ((decide (((nth L 0).es.length : Int) = 0) && decide ((v.i : Int) ∈ (nth L 0).cs)) && decide (((nth L v.i).es.length : Int) ≤ rm)))) := by unfold gapB; rw [hn, hn0]; simp only [LNd.pl]; congr 3; congr 1; apply decide_eq_decide.2; omega
 have hO : outsB (⟨(j : Int), mo, rm, pln L⟩ : Tre) v = (nth L v.i).es.any (outB (⟨(j : Int), mo, rm, pln L⟩ : Tre) v) := by unfold outsB; rw [hn]; rfl
 have hE : erV (⟨(j : Int), mo, rm, pln L⟩ : Tre) s v = ((v.i : Int), if gapB (⟨(j : Int), mo, rm, pln L⟩ : Tre) v = true then 14 else if outsB (⟨(j : Int), mo, rm, pln L⟩ : Tre) v = true then 9 else if (nth L v.i).cs.length = 0 then (if (if s = 0 then v.d else s) = v.d then 0 else 22) else 0) := by unfold erV; rw [hn]; rfl
 have hS : stV (⟨(j : Int), mo, rm, pln L⟩ : Tre) s v = if gapB (⟨(j : Int), mo, rm, pln L⟩ : Tre) v = true then s else if outsB (⟨(j : Int), mo, rm, pln L⟩ : Tre) v = true then s else if (nth L v.i).cs.length = 0 then (if s = 0 then v.d else s) else s := by unfold stV; rw [hn]; rfl
 refine enter (args := [_, _, _, _, _, _]) Tryz.func125 Tryz.ntmps125 rfl rfl hw ?_
 iterate 7 refine aS ?_
 refine o_q (q_load_old rfl rfl sz_103 (hc1)) rfl ?_
 iterate 3 refine aS ?_
 refine o_q (q_load_old rfl rfl sz_22 (ht 3 _ rfl)) rfl ?_
 refine aS ?_
 refine o_p (p_indexAddr rfl rfl rfl sl_22 (v.i) (by omega) (by omega) (Rw.some hs.1 (by omega))) rfl ?_
 refine o_q (q_load_oldn _ rfl rfl sz_102 rfl (Rw.rd hs.1 hi)) rfl ?_
 refine oAl (fun b1 _ => ?_) zr_102
 refine oSt ?_
 iterate 4 refine aS ?_
 refine o_q (q_load_old rfl rfl sz_103 (hc1)) rfl ?_
 iterate 3 refine aS ?_
 refine o_q (q_load_old rfl rfl sz_22 (ht 3 _ rfl)) rfl ?_
 refine o_p (p_indexAddr rfl rfl rfl sl_22 (0) (by omega) (by omega) (Rw.some hs.1 (by omega))) rfl ?_
 refine o_q (q_load_oldn _ rfl rfl sz_102 rfl (Rw.rd hs.1 (i := 0) h00)) rfl ?_
 refine oAl (fun b2 _ => ?_) zr_102
 refine oSt ?_
 iterate 6 refine aS ?_
 refine s_weaken (L' := [(0, _), (1, _), (2, _), (3, _), (4, _), (5, _), (10, _), (11, _), (12, _), (13, _), (33, _)]) aSx (fun _ h => h) ?_
 refine s_cutI (α := Unit) [10, 11, 14, 34, 35, 36, 37, 38, 39, 40, 41, 42, 43, 44, 45, 46, 47, 48, 49, 50, 51, 52, 53, 54, 55, 56, 57, 58, 59, 60, 61, 62, 63, 64] (fun _ => []) (fun _ => HS w (fps [.blk c7 3 1 [.int .i64 s]]) [.blk b2 102 3 (nth L 0).vals, .blk b1 102 3 (nth L v.i).vals, .blk c7 3 1 [.int .i64 s]]) (fun _ => gapB (⟨(j : Int), mo, rm, pln L⟩ : Tre) v = false) ?_ ?_
 ·skip
  refine s_cond rfl (fun h3 => ?_) fun h3 => ?_
  ·try simp only [decide_eq_true_eq] at h3
   iterate 7 refine aS ?_
   refine o_and 5 38 43 _ _ rfl
    (by
     intro hg4
     have hs5 := hg4; try simp only [decide_eq_true_eq] at hs5
     refine oOn 38 hg4 ?_
     refine aS ?_
     refine oOn 38 hg4 ?_
     refine aS ?_
     refine oOn 38 hg4 ?_
     refine aS ?_
     refine oOn 38 hg4 ?_
     refine o_q (q_call rfl fn_126 rfl (fun w1 h1 => c126 w1 (nth L 0).ca (nth L 0).cc (nth L 0).cs (v.i : Int) ((hs.cs h00).later h1) (by omega))) rfl ?_
     refine o_p (p_pickt rfl rfl hg4 rfl) rfl ?_
     refine aS ?_
     exact oJn 5 43)
    (by
     intro hg6
     have hs7 := hg6; try simp only [decide_eq_false_iff_not] at hs7
     refine oOf 38 hg6 ?_
     refine oOf 38 hg6 ?_
     refine oOf 38 hg6 ?_
     refine oOf 38 hg6 ?_
     refine o_p (p_pickf rfl rfl hg6 rfl) rfl ?_
     refine aS ?_
     exact oJn 5 43) ?_
   iterate 3 refine aS ?_
   refine s_cutI (α := Unit) [44, 45, 46, 47, 48, 49, 50, 51, 52, 53, 54, 55, 56, 57, 58, 59, 60, 61, 62, 63] (fun _ => [(63, .bool (decide (((nth L v.i).es.length : Int) < mo / 2) || ((decide (((nth L 0).es.length : Int) = 0) && decide ((v.i : Int) ∈ (nth L 0).cs)) && decide (((nth L v.i).es.length : Int) ≤ rm))))]) (fun _ => HS w (fps [.blk c7 3 1 [.int .i64 s]]) [.blk b2 102 3 (nth L 0).vals, .blk b1 102 3 (nth L v.i).vals, .blk c7 3 1 [.int .i64 s]]) (fun _ => True) ?_ ?_
   ·skip
    refine s_draw [] mixed ?_
    refine dFa 0 ?_
    refine dLd 1 [] ?_
    refine d_p 2 rfl (p_len_slice rfl rfl Tryz.underlying77) (by kernel_rfl) rfl rfl ?_
    refine d_q 3 [] rfl (q_load_old rfl rfl sz_103 (hc1)) (by kernel_rfl) (by kernel_rfl) (by kernel_rfl) rfl ?_
    refine d_q 4 [] rfl (q_call rfl fn_105 rfl (fun w1 h1 => c105 w1 bt j mo rm a L.length cap hmo (ht.next h1))) (by kernel_rfl) (by kernel_rfl) (by kernel_rfl) rfl ?_
    refine dP 5 ?_
    refine dP 6 ?_
    apply d_split 50
    ·exact rfl
    ·intro hg8
     have hs9 := hg8; try simp only [decide_eq_true_eq] at hs9
     refine dOf 7 50 hg8 ?_
     refine dOf 8 50 hg8 ?_
     refine dOu 9 52 ?_
     refine dOu 10 52 ?_
     refine dOu 11 52 ?_
     refine dOu 12 52 ?_
     refine dOu 13 52 ?_
     refine dOu 14 52 ?_
     refine dOu 15 52 ?_
     refine dOu 16 52 ?_
     refine dOu 17 52 ?_
     refine dOf 18 50 hg8 ?_
     refine d_p 19 rfl (p_pickt rfl rfl hg8 rfl) (by kernel_rfl) rfl rfl ?_
     refine d_slot (show _ = Value.bool (decide (((nth L v.i).es.length : Int) < mo / 2) || ((decide (((nth L 0).es.length : Int) = 0) && decide ((v.i : Int) ∈ (nth L 0).cs)) && decide (((nth L v.i).es.length : Int) ≤ rm))) from by congr 1; first | (simp_all; done) | (simp_all; omega)) ?_
     refine dNi ?_
     exact s_joinI () trivial aSx (fun w h => h.ent aEt)
    intro hg10
    have hs11 := hg10; try simp only [decide_eq_false_iff_not] at hs11
    refine dPo 7 50 hg10 ?_
    refine dPo 8 50 hg10 ?_
    apply d_split 52
    ·exact rfl
    ·intro hg12
     have hs13 := hg12; try simp only [Bool.and_eq_true, decide_eq_true_eq] at hs13
     refine dFo 9 52 hg12 ?_
     refine d_qon 10 52 [] rfl rfl rfl hg12 (q_load rfl rfl sz_77 aPk rfl) (by kernel_rfl) (by kernel_rfl) (by kernel_rfl) rfl ?_
     refine d_pon 11 52 rfl rfl rfl hg12 (p_len_slice rfl rfl Tryz.underlying77) (by kernel_rfl) rfl rfl ?_
     refine d_qon 12 52 [] rfl rfl rfl hg12 (q_load_old rfl rfl sz_103 (hc1)) (by kernel_rfl) (by kernel_rfl) (by kernel_rfl) rfl ?_
     refine dPo 13 52 hg12 ?_
     refine dFo 14 52 hg12 ?_
     refine dFo 15 52 hg12 ?_
     refine d_qon 16 52 [] rfl rfl rfl hg12 (q_load_old rfl rfl sz_3 (ht 2 _ rfl)) (by kernel_rfl) (by kernel_rfl) (by kernel_rfl) rfl ?_
     refine dPo 17 52 hg12 ?_
     refine d_pon 18 50 rfl rfl rfl hg10 (p_pickt rfl rfl hg12 rfl) (by kernel_rfl) rfl rfl ?_
     refine d_p 19 rfl (p_pickf rfl rfl hg10 rfl) (by kernel_rfl) rfl rfl ?_
     refine d_slot (show _ = Value.bool (decide (((nth L v.i).es.length : Int) < mo / 2) || ((decide (((nth L 0).es.length : Int) = 0) && decide ((v.i : Int) ∈ (nth L 0).cs)) && decide (((nth L v.i).es.length : Int) ≤ rm))) from by congr 1; first | (simp_all; done) | (simp_all; omega)) ?_
     refine dNi ?_
     exact s_joinI () trivial aSx (fun w h => h.ent aEt)
    intro hg14
    have hs15 := hg14; try simp only [Bool.and_eq_false_iff, decide_eq_false_iff_not] at hs15
    refine dOf 9 52 hg14 ?_
    refine dOf 10 52 hg14 ?_
    refine dOf 11 52 hg14 ?_
    refine dOf 12 52 hg14 ?_
    refine dOf 13 52 hg14 ?_
    refine dOf 14 52 hg14 ?_
    refine dOf 15 52 hg14 ?_
    refine dOf 16 52 hg14 ?_
    refine dOf 17 52 hg14 ?_
    refine d_pon 18 50 rfl rfl rfl hg10 (p_pickf rfl rfl hg14 rfl) (by kernel_rfl) rfl rfl ?_
    refine d_p 19 rfl (p_pickf rfl rfl hg10 rfl) (by kernel_rfl) rfl rfl ?_
    refine d_slot (show _ = Value.bool (decide (((nth L v.i).es.length : Int) < mo / 2) || ((decide (((nth L 0).es.length : Int) = 0) && decide ((v.i : Int) ∈ (nth L 0).cs)) && decide (((nth L v.i).es.length : Int) ≤ rm))) from by congr 1; first | (simp_all; done) | (simp_all; omega)) ?_
    refine dNi ?_
    exact s_joinI () trivial aSx (fun w h => h.ent aEt)
   intro _ _
   refine s_cond rfl (fun h16 => ?_) fun h16 => ?_
   ·try simp only [Bool.or_eq_true, decide_eq_true_eq, Bool.and_eq_true] at h16
    have hz : gapB (⟨(j : Int), mo, rm, pln L⟩ : Tre) v = true := by rw [hG]; have hq := h16; simp only [Bool.and_eq_true, Bool.or_eq_true, decide_eq_true_eq]; exact ⟨by omega, hq⟩
    iterate 6 refine aS ?_
    exact s_retv (rs := [.tmp 10, .tmp 11]) rfl (.tmp rfl (.tmp rfl (.nil))) (fun w' h' => ⟨(), by rw [hE]; simp only []; rw [if_pos hz]; rfl, trivial, by rw [hS, if_pos hz]; exact h'.ent aEt⟩)
   try simp only [Bool.or_eq_false_iff, decide_eq_false_iff_not, Bool.and_eq_false_iff] at h16
   refine aS ?_
   exact s_joinI () (by rw [hG, decide_eq_true (by omega), Bool.true_and]; apply Bool.eq_false_iff.2; intro h9; simp only [Bool.and_eq_true, Bool.or_eq_true, decide_eq_true_eq] at h9; have hq := h16; simp at hq h9; grind) aSx (fun w h => h.ent aEt)
  try simp only [decide_eq_false_iff_not] at h3
  refine aS ?_
  exact s_joinI () (by rw [hG, decide_eq_false (by omega)]; rfl) aSx (fun w h => h.ent aEt)
 intro _ hz1
 iterate 9 refine aS ?_
 refine s_loopI (α := Nat) [10, 11, 16, 68, 69, 70, 71, 72, 73, 74, 75, 76, 77, 78, 79, 80, 81, 82, 83, 84, 85, 86, 87, 88, 89, 90, 91, 92, 93, 94, 95, 96, 97, 98, 99, 100, 101, 102, 103, 104, 105, 106, 107] (fun k => [(68, .int .i64 (k : Int))]) (fun _ => HS w (fps [.blk c7 3 1 [.int .i64 s]]) [.blk b2 102 3 (nth L 0).vals, .blk b1 102 3 (nth L v.i).vals, .blk c7 3 1 [.int .i64 s]]) (fun k => k ≤ (nth L v.i).es.length ∧ ∀ i, i < k → outB (⟨(j : Int), mo, rm, pln L⟩ : Tre) v (nth (nth L v.i).es i) = false) (fun k => (nth L v.i).es.length - k) 0 ⟨Nat.zero_le _, fun i h => absurd h (Nat.not_lt_zero i)⟩ aSx (fun w h => h.ent aEt) (fun k hx => ?_)
 obtain ⟨hk1, hk2⟩ := hx
 iterate 5 refine aS ?_
 refine s_cond rfl (fun h17 => ?_) fun h17 => ?_
 ·try simp only [decide_eq_true_eq] at h17
  have hkl : k < (nth L v.i).es.length := by omega
  iterate 5 refine aS ?_
  refine o_p (p_indexAddr rfl rfl rfl sl_77 (k) (by omega) (by omega) (Rw.some (hs.es hi) (by omega))) rfl ?_
  refine o_q (q_load_oldn _ rfl rfl sz_26 rfl (Rw.rd (hs.es hi) (i := k) hkl)) rfl ?_
  refine oAl (fun b18 _ => ?_) zr_26
  refine oSt ?_
  iterate 2 refine aS ?_
  refine s_cutI (α := Unit) [72, 73, 74, 75, 76, 77, 78, 79, 80, 81, 82, 83, 84, 85, 86, 87, 88, 89, 90, 91, 92, 93, 94, 95, 96, 97, 98, 99, 100, 101, 102, 103, 104, 105] (fun _ => [(105, .bool (outB (⟨(j : Int), mo, rm, pln L⟩ : Tre) v (nth (nth L v.i).es k)))]) (fun _ => HS w (fps [.blk c7 3 1 [.int .i64 s]]) [.blk b2 102 3 (nth L 0).vals, .blk b1 102 3 (nth L v.i).vals, .blk c7 3 1 [.int .i64 s]]) (fun _ => True) ?_ ?_
  ·skip
   refine s_draw [] mixed ?_
   refine dP 0 ?_
   refine d_p 1 rfl (p_ptr_nn rfl rfl rfl ipt_171) (by kernel_rfl) rfl rfl ?_
   refine dP 2 ?_
   apply d_split 74
   ·exact rfl
   ·intro hg19
    have hs20 := hg19; skip
    refine d_qon 3 74 [] rfl rfl rfl hg19 (q_load_old rfl rfl sz_103 (hc1)) (by kernel_rfl) (by kernel_rfl) (by kernel_rfl) rfl ?_
    obtain ⟨k9, b9, o9, hlo9, rfl, hr9⟩ := hpl.of_some hg19
    refine dPo 4 74 hg19 ?_
    refine dFo 5 74 hg19 ?_
    refine dFo 6 74 hg19 ?_
    refine d_qon 7 74 [] rfl rfl rfl hg19 (q_load_old rfl rfl sz_108 (ht 5 _ rfl)) (by kernel_rfl) (by kernel_rfl) (by kernel_rfl) rfl ?_
    refine dPo 8 74 hg19 ?_
    refine dPo 9 74 hg19 ?_
    refine d_qon 10 74 [] rfl rfl rfl hg19 (q_load_old rfl rfl sz_9 (hr9)) (by kernel_rfl) (by kernel_rfl) (by kernel_rfl) rfl ?_
    refine dFo 11 74 hg19 ?_
    refine d_qon 12 74 [] rfl rfl rfl hg19 (q_load rfl rfl sz_9 aPk rfl) (by kernel_rfl) (by kernel_rfl) (by kernel_rfl) rfl ?_
    refine d_qon 13 74 [] rfl rfl rfl hg19 (q_callv rfl rfl (cmp_fn _) rfl (fun w1 h1 => cmp_calls w1 j k9 (nth (nth L v.i).es k).key hj (hlo _ hlo9).1 (hok _ (mem_nth hkl)).1 (hlo _ hlo9).2 (hok _ (mem_nth hkl)).2)) (by kernel_rfl) (by kernel_rfl) (by kernel_rfl) rfl ?_
    refine dPo 14 74 hg19 ?_
    refine d_p 15 rfl (p_pickt rfl rfl hg19 rfl) (by kernel_rfl) rfl rfl ?_
    refine d_slot (show _ = Value.bool (v.lo.any fun b => decide (0 ≤ cmpK (j : Int) b (nth (nth L v.i).es k).key)) from by congr 1; first | (rw [hlo9]; rfl) | (rw [hpl.of_none hg19]; rfl)) ?_
    refine dP 16 ?_
    apply d_split 88
    ·exact rfl
    ·intro hg21
     have hs22 := hg21; skip
     refine dOf 17 88 hg21 ?_
     refine dOf 18 88 hg21 ?_
     refine dOf 19 88 hg21 ?_
     refine dOu 20 91 ?_
     refine dOu 21 91 ?_
     refine dOu 22 91 ?_
     refine dOu 23 91 ?_
     refine dOu 24 91 ?_
     refine dOu 25 91 ?_
     refine dOu 26 91 ?_
     refine dOu 27 91 ?_
     refine dOu 28 91 ?_
     refine dOu 29 91 ?_
     refine dOu 30 91 ?_
     refine dOu 31 91 ?_
     refine dOf 32 88 hg21 ?_
     refine d_p 33 rfl (p_pickt rfl rfl hg21 rfl) (by kernel_rfl) rfl rfl ?_
     refine d_slot (show _ = Value.bool (outB (⟨(j : Int), mo, rm, pln L⟩ : Tre) v (nth (nth L v.i).es k)) from by congr 1; show _ = ((v.lo.any fun b => decide (0 ≤ cmpK (j : Int) b (nth (nth L v.i).es k).key)) || (v.hi.any fun b => decide (0 ≤ cmpK (j : Int) (nth (nth L v.i).es k).key b))); first | (rw [show (v.lo.any fun b => decide (0 ≤ cmpK (j : Int) b (nth (nth L v.i).es k).key)) = true by assumption]; rfl) | (rw [show (v.lo.any fun b => decide (0 ≤ cmpK (j : Int) b (nth (nth L v.i).es k).key)) = false by assumption]; rfl)) ?_
     refine dNi ?_
     exact s_joinI () trivial aSx (fun w h => h.ent aEt)
    intro hg23
    have hs24 := hg23; skip
    refine dPo 17 88 hg23 ?_
    refine d_pon 18 88 rfl rfl rfl hg23 (p_ptr_nn rfl rfl rfl ipt_171) (by kernel_rfl) rfl rfl ?_
    refine dPo 19 88 hg23 ?_
    apply d_split 91
    ·exact rfl
    ·intro hg25
     have hs26 := hg25; skip
     refine d_qon 20 91 [] rfl rfl rfl hg25 (q_load_old rfl rfl sz_103 (hc1)) (by kernel_rfl) (by kernel_rfl) (by kernel_rfl) rfl ?_
     obtain ⟨k8, b8, o8, hhi8, rfl, hr8⟩ := hph.of_some hg25
     refine dPo 21 91 hg25 ?_
     refine dFo 22 91 hg25 ?_
     refine dFo 23 91 hg25 ?_
     refine d_qon 24 91 [] rfl rfl rfl hg25 (q_load_old rfl rfl sz_108 (ht 5 _ rfl)) (by kernel_rfl) (by kernel_rfl) (by kernel_rfl) rfl ?_
     refine dFo 25 91 hg25 ?_
     refine d_qon 26 91 [] rfl rfl rfl hg25 (q_load rfl rfl sz_9 aPk rfl) (by kernel_rfl) (by kernel_rfl) (by kernel_rfl) rfl ?_
     refine dPo 27 91 hg25 ?_
     refine dPo 28 91 hg25 ?_
     refine d_qon 29 91 [] rfl rfl rfl hg25 (q_load_old rfl rfl sz_9 (hr8)) (by kernel_rfl) (by kernel_rfl) (by kernel_rfl) rfl ?_
     refine d_qon 30 91 [] rfl rfl rfl hg25 (q_callv rfl rfl (cmp_fn _) rfl (fun w1 h1 => cmp_calls w1 j (nth (nth L v.i).es k).key k8 hj (hok _ (mem_nth hkl)).1 (hhi _ hhi8).1 (hok _ (mem_nth hkl)).2 (hhi _ hhi8).2)) (by kernel_rfl) (by kernel_rfl) (by kernel_rfl) rfl ?_
     refine dPo 31 91 hg25 ?_
     refine d_pon 32 88 rfl rfl rfl hg23 (p_pickt rfl rfl hg25 rfl) (by kernel_rfl) rfl rfl ?_
     refine d_slot (show _ = Value.bool (v.hi.any fun b => decide (0 ≤ cmpK (j : Int) (nth (nth L v.i).es k).key b)) from by congr 1; first | (rw [hhi8]; rfl) | (rw [hph.of_none hg25]; rfl)) ?_
     refine d_p 33 rfl (p_pickf rfl rfl hg23 rfl) (by kernel_rfl) rfl rfl ?_
     refine d_slot (show _ = Value.bool (outB (⟨(j : Int), mo, rm, pln L⟩ : Tre) v (nth (nth L v.i).es k)) from by congr 1; show _ = ((v.lo.any fun b => decide (0 ≤ cmpK (j : Int) b (nth (nth L v.i).es k).key)) || (v.hi.any fun b => decide (0 ≤ cmpK (j : Int) (nth (nth L v.i).es k).key b))); first | (rw [show (v.lo.any fun b => decide (0 ≤ cmpK (j : Int) b (nth (nth L v.i).es k).key)) = true by assumption]; rfl) | (rw [show (v.lo.any fun b => decide (0 ≤ cmpK (j : Int) b (nth (nth L v.i).es k).key)) = false by assumption]; rfl)) ?_
     refine dNi ?_
     exact s_joinI () trivial aSx (fun w h => h.ent aEt)
    intro hg27
    have hs28 := hg27; skip
    refine dOf 20 91 hg27 ?_
    refine dOf 21 91 hg27 ?_
    refine dOf 22 91 hg27 ?_
    refine dOf 23 91 hg27 ?_
    refine dOf 24 91 hg27 ?_
    refine dOf 25 91 hg27 ?_
    refine dOf 26 91 hg27 ?_
    refine dOf 27 91 hg27 ?_
    refine dOf 28 91 hg27 ?_
    refine dOf 29 91 hg27 ?_
    refine dOf 30 91 hg27 ?_
    refine dOf 31 91 hg27 ?_
    refine d_pon 32 88 rfl rfl rfl hg23 (p_pickf rfl rfl hg27 rfl) (by kernel_rfl) rfl rfl ?_
    refine d_slot (show _ = Value.bool (v.hi.any fun b => decide (0 ≤ cmpK (j : Int) (nth (nth L v.i).es k).key b)) from by congr 1; first | (rw [hhi8]; rfl) | (rw [hph.of_none hg27]; rfl)) ?_
    refine d_p 33 rfl (p_pickf rfl rfl hg23 rfl) (by kernel_rfl) rfl rfl ?_
    refine d_slot (show _ = Value.bool (outB (⟨(j : Int), mo, rm, pln L⟩ : Tre) v (nth (nth L v.i).es k)) from by congr 1; show _ = ((v.lo.any fun b => decide (0 ≤ cmpK (j : Int) b (nth (nth L v.i).es k).key)) || (v.hi.any fun b => decide (0 ≤ cmpK (j : Int) (nth (nth L v.i).es k).key b))); first | (rw [show (v.lo.any fun b => decide (0 ≤ cmpK (j : Int) b (nth (nth L v.i).es k).key)) = true by assumption]; rfl) | (rw [show (v.lo.any fun b => decide (0 ≤ cmpK (j : Int) b (nth (nth L v.i).es k).key)) = false by assumption]; rfl)) ?_
    refine dNi ?_
    exact s_joinI () trivial aSx (fun w h => h.ent aEt)
   intro hg29
   have hs30 := hg29; skip
   refine dOf 3 74 hg29 ?_
   refine dOf 4 74 hg29 ?_
   refine dOf 5 74 hg29 ?_
   refine dOf 6 74 hg29 ?_
   refine dOf 7 74 hg29 ?_
   refine dOf 8 74 hg29 ?_
   refine dOf 9 74 hg29 ?_
   refine dOf 10 74 hg29 ?_
   refine dOf 11 74 hg29 ?_
   refine dOf 12 74 hg29 ?_
   refine dOf 13 74 hg29 ?_
   refine dOf 14 74 hg29 ?_
   refine d_p 15 rfl (p_pickf rfl rfl hg29 rfl) (by kernel_rfl) rfl rfl ?_
   refine d_slot (show _ = Value.bool (v.lo.any fun b => decide (0 ≤ cmpK (j : Int) b (nth (nth L v.i).es k).key)) from by congr 1; first | (rw [hlo9]; rfl) | (rw [hpl.of_none hg29]; rfl)) ?_
   refine dP 16 ?_
   apply d_split 88
   ·exact rfl
   ·intro hg31
    have hs32 := hg31; skip
    refine dOf 17 88 hg31 ?_
    refine dOf 18 88 hg31 ?_
    refine dOf 19 88 hg31 ?_
    refine dOu 20 91 ?_
    refine dOu 21 91 ?_
    refine dOu 22 91 ?_
    refine dOu 23 91 ?_
    refine dOu 24 91 ?_
    refine dOu 25 91 ?_
    refine dOu 26 91 ?_
    refine dOu 27 91 ?_
    refine dOu 28 91 ?_
    refine dOu 29 91 ?_
    refine dOu 30 91 ?_
    refine dOu 31 91 ?_
    refine dOf 32 88 hg31 ?_
    refine d_p 33 rfl (p_pickt rfl rfl hg31 rfl) (by kernel_rfl) rfl rfl ?_
    refine d_slot (show _ = Value.bool (outB (⟨(j : Int), mo, rm, pln L⟩ : Tre) v (nth (nth L v.i).es k)) from by congr 1; show _ = ((v.lo.any fun b => decide (0 ≤ cmpK (j : Int) b (nth (nth L v.i).es k).key)) || (v.hi.any fun b => decide (0 ≤ cmpK (j : Int) (nth (nth L v.i).es k).key b))); first | (rw [show (v.lo.any fun b => decide (0 ≤ cmpK (j : Int) b (nth (nth L v.i).es k).key)) = true by assumption]; rfl) | (rw [show (v.lo.any fun b => decide (0 ≤ cmpK (j : Int) b (nth (nth L v.i).es k).key)) = false by assumption]; rfl)) ?_
    refine dNi ?_
    exact s_joinI () trivial aSx (fun w h => h.ent aEt)
   intro hg33
   have hs34 := hg33; skip
   refine dPo 17 88 hg33 ?_
   refine d_pon 18 88 rfl rfl rfl hg33 (p_ptr_nn rfl rfl rfl ipt_171) (by kernel_rfl) rfl rfl ?_
   refine dPo 19 88 hg33 ?_
   apply d_split 91
   ·exact rfl
   ·intro hg35
    have hs36 := hg35; skip
    refine d_qon 20 91 [] rfl rfl rfl hg35 (q_load_old rfl rfl sz_103 (hc1)) (by kernel_rfl) (by kernel_rfl) (by kernel_rfl) rfl ?_
    obtain ⟨k8, b8, o8, hhi8, rfl, hr8⟩ := hph.of_some hg35
    refine dPo 21 91 hg35 ?_
    refine dFo 22 91 hg35 ?_
    refine dFo 23 91 hg35 ?_
    refine d_qon 24 91 [] rfl rfl rfl hg35 (q_load_old rfl rfl sz_108 (ht 5 _ rfl)) (by kernel_rfl) (by kernel_rfl) (by kernel_rfl) rfl ?_
    refine dFo 25 91 hg35 ?_
    refine d_qon 26 91 [] rfl rfl rfl hg35 (q_load rfl rfl sz_9 aPk rfl) (by kernel_rfl) (by kernel_rfl) (by kernel_rfl) rfl ?_
    refine dPo 27 91 hg35 ?_
    refine dPo 28 91 hg35 ?_
    refine d_qon 29 91 [] rfl rfl rfl hg35 (q_load_old rfl rfl sz_9 (hr8)) (by kernel_rfl) (by kernel_rfl) (by kernel_rfl) rfl ?_
    refine d_qon 30 91 [] rfl rfl rfl hg35 (q_callv rfl rfl (cmp_fn _) rfl (fun w1 h1 => cmp_calls w1 j (nth (nth L v.i).es k).key k8 hj (hok _ (mem_nth hkl)).1 (hhi _ hhi8).1 (hok _ (mem_nth hkl)).2 (hhi _ hhi8).2)) (by kernel_rfl) (by kernel_rfl) (by kernel_rfl) rfl ?_
    refine dPo 31 91 hg35 ?_
    refine d_pon 32 88 rfl rfl rfl hg33 (p_pickt rfl rfl hg35 rfl) (by kernel_rfl) rfl rfl ?_
    refine d_slot (show _ = Value.bool (v.hi.any fun b => decide (0 ≤ cmpK (j : Int) (nth (nth L v.i).es k).key b)) from by congr 1; first | (rw [hhi8]; rfl) | (rw [hph.of_none hg35]; rfl)) ?_
    refine d_p 33 rfl (p_pickf rfl rfl hg33 rfl) (by kernel_rfl) rfl rfl ?_
    refine d_slot (show _ = Value.bool (outB (⟨(j : Int), mo, rm, pln L⟩ : Tre) v (nth (nth L v.i).es k)) from by congr 1; show _ = ((v.lo.any fun b => decide (0 ≤ cmpK (j : Int) b (nth (nth L v.i).es k).key)) || (v.hi.any fun b => decide (0 ≤ cmpK (j : Int) (nth (nth L v.i).es k).key b))); first | (rw [show (v.lo.any fun b => decide (0 ≤ cmpK (j : Int) b (nth (nth L v.i).es k).key)) = true by assumption]; rfl) | (rw [show (v.lo.any fun b => decide (0 ≤ cmpK (j : Int) b (nth (nth L v.i).es k).key)) = false by assumption]; rfl)) ?_
    refine dNi ?_
    exact s_joinI () trivial aSx (fun w h => h.ent aEt)
   intro hg37
   have hs38 := hg37; skip
   refine dOf 20 91 hg37 ?_
   refine dOf 21 91 hg37 ?_
   refine dOf 22 91 hg37 ?_
   refine dOf 23 91 hg37 ?_
   refine dOf 24 91 hg37 ?_
   refine dOf 25 91 hg37 ?_
   refine dOf 26 91 hg37 ?_
   refine dOf 27 91 hg37 ?_
   refine dOf 28 91 hg37 ?_
   refine dOf 29 91 hg37 ?_
   refine dOf 30 91 hg37 ?_
   refine dOf 31 91 hg37 ?_
   refine d_pon 32 88 rfl rfl rfl hg33 (p_pickf rfl rfl hg37 rfl) (by kernel_rfl) rfl rfl ?_
   refine d_slot (show _ = Value.bool (v.hi.any fun b => decide (0 ≤ cmpK (j : Int) (nth (nth L v.i).es k).key b)) from by congr 1; first | (rw [hhi8]; rfl) | (rw [hph.of_none hg37]; rfl)) ?_
   refine d_p 33 rfl (p_pickf rfl rfl hg33 rfl) (by kernel_rfl) rfl rfl ?_
   refine d_slot (show _ = Value.bool (outB (⟨(j : Int), mo, rm, pln L⟩ : Tre) v (nth (nth L v.i).es k)) from by congr 1; show _ = ((v.lo.any fun b => decide (0 ≤ cmpK (j : Int) b (nth (nth L v.i).es k).key)) || (v.hi.any fun b => decide (0 ≤ cmpK (j : Int) (nth (nth L v.i).es k).key b))); first | (rw [show (v.lo.any fun b => decide (0 ≤ cmpK (j : Int) b (nth (nth L v.i).es k).key)) = true by assumption]; rfl) | (rw [show (v.lo.any fun b => decide (0 ≤ cmpK (j : Int) b (nth (nth L v.i).es k).key)) = false by assumption]; rfl)) ?_
   refine dNi ?_
   exact s_joinI () trivial aSx (fun w h => h.ent aEt)
  intro _ _
  refine s_cond rfl (fun h39 => ?_) fun h39 => ?_
  ·skip
   have hz2 : outsB (⟨(j : Int), mo, rm, pln L⟩ : Tre) v = true := by rw [hO, List.any_eq_true]; exact ⟨_, mem_nth hkl, h39⟩
   iterate 6 refine aS ?_
   exact s_retv (rs := [.tmp 10, .tmp 11]) rfl (.tmp rfl (.tmp rfl (.nil))) (fun w' h' => ⟨(), by rw [hE]; simp only []; rw [if_neg (by rw [hz1]; decide), if_pos hz2]; rfl, trivial, by rw [hS, if_neg (by rw [hz1]; decide), if_pos hz2]; exact h'.ent aEt⟩)
  skip
  iterate 4 refine aS ?_
  try refine oWr ?_
  iterate 2 refine aS ?_
  exact s_backI (k + 1) (by omega) ⟨by omega, fun i hi9 => (Nat.lt_or_ge i k).elim (hk2 i) (fun h => by obtain rfl : i = k := (by omega); have hq := h39; simpa using hq)⟩ aSx (fun w h => h.ent aEt)
 try simp only [decide_eq_false_iff_not] at h17
 obtain rfl : k = (nth L v.i).es.length := by omega
 have hz2 : outsB (⟨(j : Int), mo, rm, pln L⟩ : Tre) v = false := by rw [hO, List.any_eq_false]; intro x hx; obtain ⟨i9, hi9, e9⟩ := List.getElem_of_mem hx; have e8 : nth (nth L v.i).es i9 = x := nth_eq (by rw [List.getElem?_eq_getElem hi9, e9]); rw [← e8, hk2 i9 hi9]; decide
 refine s_exit_to rfl ?_
 iterate 8 refine aS ?_
 refine s_cond rfl (fun h40 => ?_) fun h40 => ?_
 ·try simp only [decide_eq_true_eq] at h40
  have hc9 : (nth L v.i).cs.length = 0 := by have hq := h40; omega
  have hEv : erV (⟨(j : Int), mo, rm, pln L⟩ : Tre) s v = ((v.i : Int), if (if s = 0 then v.d else s) = v.d then 0 else 22) := by rw [hE, if_neg (by rw [hz1]; decide), if_neg (by rw [hz2]; decide), if_pos hc9]
  iterate 6 refine aS ?_
  refine s_cutI (α := Unit) [114] (fun _ => []) (fun _ => HS w (fps [.blk c7 3 1 [.int .i64 s]]) [.blk b2 102 3 (nth L 0).vals, .blk b1 102 3 (nth L v.i).vals, .blk c7 3 1 [.int .i64 (if s = 0 then v.d else s)]]) (fun _ => True) ?_ ?_
  ·skip
   refine s_cond rfl (fun h41 => ?_) fun h41 => ?_
   ·try simp only [decide_eq_true_eq] at h41
    iterate 2 refine aS ?_
    refine oSt ?_
    refine aS ?_
    exact s_joinI () trivial aSx (fun w h => by rw [if_pos h41]; exact h.ent aEt)
   try simp only [decide_eq_false_iff_not] at h41
   refine aS ?_
   exact s_joinI () trivial aSx (fun w h => by rw [if_neg h41]; exact h.ent aEt)
  intro _ _
  iterate 6 refine aS ?_
  refine o_q (q_call rfl fn_81 rfl (fun w1 h1 => c81 w1 _ _)) rfl ?_
  iterate 3 refine aS ?_
  exact s_retv (rs := [.tmp 10, .tmp 11]) rfl (.tmp rfl (.tmp rfl (.nil))) (fun w' h' => ⟨(), by rw [hEv]; simp only [retV, cond_eq_ite, decide_eq_true_eq], trivial, by rw [hS, if_neg (by rw [hz1]; decide), if_neg (by rw [hz2]; decide), if_pos hc9]; exact h'.ent aEt⟩)
 try simp only [decide_eq_false_iff_not] at h40
 have hc9 : ¬ (nth L v.i).cs.length = 0 := by have hq := h40; omega
 iterate 7 refine aS ?_
 exact s_retv (rs := [.tmp 10, .tmp 11]) rfl (.tmp rfl (.tmp rfl (.nil))) (fun w' h' => ⟨(), by rw [hE]; simp only []; rw [if_neg (by rw [hz1]; decide), if_neg (by rw [hz2]; decide), if_neg hc9]; rfl, trivial, by rw [hS, if_neg (by rw [hz1]; decide), if_neg (by rw [hz2]; decide), if_neg hc9]; exact h'.ent aEt⟩)
theorem zr_4 : tzero Tryz.prog 4 = some [.bool false] := by kernel_rfl
theorem zr_140 : tzero Tryz.prog 140 = some [.slice none 0 0] := by kernel_rfl
theorem c83 (w : World) (bt : Nat) (j : Nat) (mo rm : Int) (a : Option Addr) (cap : Nat) (L : List LNd) (ht : TbR w [] bt (j : Int) mo rm a L.length cap) (hs : Nt w [] a L) (hj : j ≤ 3) (hmo : 0 ≤ mo ∧ mo ≤ 1000) (h0 : 0 < L.length) (hB : Bd (pln L)) (hT : TOk (j : Int) (pln L)) : Calls Tryz.prog 83 #[.pointer (some ⟨bt, 0, none⟩)] w fun en w' => en = .returned (.tuple #[.int .i64 (shapE (⟨(j : Int), mo, rm, pln L⟩ : Tre)).1, .int .i64 (shapE (⟨(j : Int), mo, rm, pln L⟩ : Tre)).2]) ∧ Below w.heap.size w w' := by
 have hle := hB.len
 rw [pln_len] at hle
 have hvis : vis (pln L) L.length root0 = visT (pln L) := by unfold visT; rw [pln_len]
 have hmar := mar_run (visT (pln L)) (List.replicate L.length false)
 rw [List.length_replicate] at hmar
 have hbel : ∀ i, i < L.length → (runV marV (fun _ _ => (0, 0)) (List.replicate L.length false) (visT (pln L))).2.getD i false = decide (i ∈ (visT (pln L)).map Vis.i) := fun i hi => by rw [hmar.2.2 i hi, show (List.replicate L.length false).getD i false = false from by rw [List.getD_eq_getElem?_getD, List.getElem?_replicate]; split <;> rfl, Bool.false_or]
 have hes9 : ∀ i, i < L.length → (nth L i).es.length ≤ 1000 := fun i hi => by have h9 := hB.es i (by rw [pln_len]; exact hi); rw [pln_nth hi] at h9; exact h9
 have hcs9 : ∀ i, i < L.length → (nth L i).cs.length ≤ 1000 := fun i hi => by have h9 := hB.cs i (by rw [pln_len]; exact hi); rw [pln_nth hi] at h9; exact h9
 have hok9 : ∀ i, i < L.length → ∀ x ∈ (nth L i).es, keyOk (j : Int) x.key = true ∧ x.key.length ≤ 1000000 := fun i hi => by have h9 := ents_kok hT (i := i) (by rw [pln_len]; exact hi); rw [pln_nth hi] at h9; exact h9
 refine enter (args := [_]) Tryz.func83 Tryz.ntmps83 rfl rfl (HS.refl w []) ?_
 iterate 2 refine aS ?_
 refine oBx fun b1 _ => ?_
 iterate 9 refine aS ?_
 refine o_q (q_load_old rfl rfl sz_22 (ht 3 _ rfl)) rfl ?_
 refine aS ?_
 refine o_h (h_make (n := L.length) rfl rfl rfl sl_140 zr_4 (by omega) (by omega)) rfl (fun b2 _ => ?_)
 refine o_class (fun w h => (show HS _ _ [.blk b2 4 L.length ((List.replicate L.length false).map Value.bool), .blk b1 103 1 [.pointer (some ⟨bt, 0, none⟩)]] w from by have h9 := h; rw [Nat.mul_one, zrow_one, ← List.map_replicate] at h9; exact h9.ent aEt)) ?_
 refine oAl (fun b3 _ => ?_) zr_140
 refine oSt ?_
 iterate 5 refine aS ?_
 refine o_h (h_callF (Cs := [.blk b2 4 L.length ((List.replicate L.length false).map Value.bool)]) rfl fn_123 rfl aPs (fun w1 h1 hf => by have h9 := walk_c (List Bool) (fun s => s.length = L.length) (fun s => .blk b2 4 L.length (s.map Value.bool)) marV (fun _ _ => (0, 0)) 124 #[.pointer (some ⟨b3, 0, none⟩)] bt j mo rm a cap L L.length w1 (List.replicate L.length false) root0 none none [] hf (by kernel_rfl) (fun _ _ => rfl) (fun s v h => by simpa [marV] using h) (by simp) (fun s2 v2 p2 p3 w2 h2 hs2 hi2 _ _ _ _ => c124 w2 v2.i v2.d p2 p3 b3 b2 L.length s2 (HS.focus (Cs := [_]) (Ds := []) h2) (h2.keep (h1.rd_blkF aPs (b := b3) aPk rfl)) hi2 hs2) ((ht.keep h1).mono (fps_pick aPs)) ((hs.keep h1).mono (fps_pick aPs)) hT hB rfl rfl h0 rfl (by simp) rfl (fun _ h => by cases h) (fun _ h => by cases h); rw [hvis] at h9; exact h9)) rfl (fun _ _ => ?_)
 iterate 3 refine aS ?_
 refine o_class (fun w h => (show HS _ _ [.blk b2 4 L.length ((runV marV (fun _ _ => (0, 0)) (List.replicate L.length false) (visT (pln L))).2.map Value.bool), .blk b3 140 1 [.slice (some ⟨b2, 0, none⟩) L.length L.length], .blk b1 103 1 [.pointer (some ⟨bt, 0, none⟩)]] w from h.ent aEt)) ?_
 iterate 8 refine aS ?_
 refine o_q (q_load_old rfl rfl sz_22 (ht 3 _ rfl)) rfl ?_
 iterate 4 refine aS ?_
 refine s_weaken (L' := [(1, _), (2, _), (3, _), (4, _), (25, _), (26, _), (27, _)]) aSx (fun _ h => h) ?_
 refine s_loopI (α := Nat) [2, 3, 5, 6, 27, 28, 29, 30, 31, 32, 33, 34, 35, 36, 37, 38, 39, 40, 41, 42] (fun k => [(27, .int .i64 (k : Int))]) (fun _ => HS w [] [.blk b2 4 L.length ((runV marV (fun _ _ => (0, 0)) (List.replicate L.length false) (visT (pln L))).2.map Value.bool), .blk b3 140 1 [.slice (some ⟨b2, 0, none⟩) L.length L.length], .blk b1 103 1 [.pointer (some ⟨bt, 0, none⟩)]]) (fun k => k ≤ L.length ∧ opnF (pln L) ((visT (pln L)).map Vis.i) L.length 0 = opnF (pln L) ((visT (pln L)).map Vis.i) (L.length - k) k) (fun k => L.length - k) 0 ⟨Nat.zero_le _, rfl⟩ aSx (fun w h => h.ent aEt) (fun k hx => ?_)
 obtain ⟨hk1, hk2⟩ := hx
 iterate 5 refine aS ?_
 refine s_cond rfl (fun h4 => ?_) fun h4 => ?_
 ·try simp only [decide_eq_true_eq] at h4
  have hkl : k < L.length := by omega
  have hst := opnF_step (ns := pln L) (below := (visT (pln L)).map Vis.i) (k := k) (by rw [pln_len]; exact hkl)
  rw [pln_len, pln_nth hkl] at hst
  iterate 6 refine aS ?_
  refine o_p (p_indexAddr rfl rfl rfl sl_22 (k) (by omega) (by omega) (Rw.some hs.1 (by omega))) rfl ?_
  refine o_q (q_load_oldn _ rfl rfl sz_102 rfl (Rw.rd hs.1 hkl)) rfl ?_
  refine oAl (fun b5 _ => ?_) zr_102
  refine aS ?_
  refine oSt ?_
  iterate 6 refine aS ?_
  refine o_and 6 34 40 _ _ rfl
   (by
    intro hg6
    have hs7 := hg6; skip
    refine oOn 34 hg6 ?_
    refine aS ?_
    refine oOn 34 hg6 ?_
    refine aS ?_
    refine oOn 34 hg6 ?_
    refine o_p (p_indexAddr rfl rfl rfl sl_140 (k) (by omega) (by omega) rfl) rfl ?_
    refine oOn 34 hg6 ?_
    refine o_q (q_load_at rfl rfl sz_4 (fun w h => by rw [Nat.zero_add, Nat.mul_one]; exact h.rd_blk (Mc := []) (b := b2) aPk (bool_get (by rw [hmar.2.1]; exact hkl)) (by simp))) rfl ?_
    refine oOn 34 hg6 ?_
    refine aS ?_
    refine o_p (p_pickt rfl rfl hg6 rfl) rfl ?_
    refine aS ?_
    exact oJn 6 40)
   (by
    intro hg8
    have hs9 := hg8; skip
    refine oOf 34 hg8 ?_
    refine oOf 34 hg8 ?_
    refine oOf 34 hg8 ?_
    refine oOf 34 hg8 ?_
    refine oOf 34 hg8 ?_
    refine o_p (p_pickf rfl rfl hg8 rfl) rfl ?_
    refine aS ?_
    exact oJn 6 40) ?_
  refine aS ?_
  refine s_cond rfl (fun h10 => ?_) fun h10 => ?_
  ·try simp only [Bool.and_eq_true, Bool.not_eq_true'] at h10
   have hz : (nth L k).pl.us = true ∧ k ∉ (visT (pln L)).map Vis.i := by have hq := h10; rw [hbel k hkl] at hq; simp only [LNd.pl]; simpa using hq
   iterate 6 refine aS ?_
   exact s_retv (rs := [.tmp 2, .tmp 3]) rfl (.tmp rfl (.tmp rfl (.nil))) (fun w' h' => ⟨by rw [shapE_some (t := (⟨(j : Int), mo, rm, pln L⟩ : Tre)) (i := k) (show opnF (pln L) _ (pln L).length 0 = some k from by rw [pln_len, hk2, hst, if_pos hz])]; rfl, h'.below⟩)
  try simp only [Bool.and_eq_false_iff, Bool.not_eq_false'] at h10
  have hz : ¬ ((nth L k).pl.us = true ∧ k ∉ (visT (pln L)).map Vis.i) := by have hq := h10; rw [hbel k hkl] at hq; simp only [LNd.pl]; intro h9; simp at hq h9; grind
  iterate 4 refine aS ?_
  try refine oWr ?_
  iterate 2 refine aS ?_
  exact s_backI (k + 1) (by omega) ⟨by omega, by rw [hk2, hst, if_neg hz]⟩ aSx (fun w h => h.ent aEt)
 try simp only [decide_eq_false_iff_not] at h4
 have hnone : opnF (pln L) ((visT (pln L)).map Vis.i) L.length 0 = none := by rw [hk2, show L.length - k = 0 by omega]; rfl
 refine s_exit_to rfl ?_
 iterate 2 refine aS ?_
 refine oAl (fun b11 _ => ?_) zr_3
 refine oSt ?_
 iterate 5 refine aS ?_
 refine o_h (h_callF (Cs := [.blk b11 3 1 [.int .i64 0]]) rfl fn_123 rfl aPs (fun w1 h1 hf => by have h9 := walk_c Int (fun _ => True) (fun s => .blk b11 3 1 [.int .i64 s]) (stV (⟨(j : Int), mo, rm, pln L⟩ : Tre)) (erV (⟨(j : Int), mo, rm, pln L⟩ : Tre)) 125 #[.pointer (some ⟨b1, 0, none⟩), .pointer (some ⟨b11, 0, none⟩)] bt j mo rm a cap L L.length w1 0 root0 none none [] hf (by kernel_rfl) (fun _ _ => rfl) (fun _ _ _ => trivial) trivial (fun s2 v2 p2 p3 w2 h2 _ hi2 ha2 hb2 hp2 hp3 => c125 w2 v2 p2 p3 b1 b11 s2 bt j mo rm a cap L (HS.focus (Cs := [_]) (Ds := []) h2) (h2.keep (h1.rd_blkF aPs (b := b1) aPk rfl)) (((ht.keep h1).mono (fps_pick aPs)).keep h2) (((hs.keep h1).mono (fps_pick aPs)).keep h2) hj hmo hi2 hle (hes9 _ hi2) (hcs9 _ hi2) (hcs9 _ h0) (hes9 _ h0) hp2 hp3 ha2 hb2 (hok9 _ hi2)) ((ht.keep h1).mono (fps_pick aPs)) ((hs.keep h1).mono (fps_pick aPs)) hT hB rfl rfl h0 rfl (by simp) rfl (fun _ h => by cases h) (fun _ h => by cases h); rw [hvis, Gx.run_shape (t := (⟨(j : Int), mo, rm, pln L⟩ : Tre)) hT (by show 0 < (pln L).length; rw [pln_len]; exact h0)] at h9; exact h9)) rfl (fun _ _ => ?_)
 iterate 5 refine aS ?_
 exact s_retv (rs := [.tmp 2, .tmp 3]) rfl (.tmp rfl (.tmp rfl (.nil))) (fun w' h' => ⟨by rw [shapE_none (t := (⟨(j : Int), mo, rm, pln L⟩ : Tre)) (show opnF (pln L) _ (pln L).length 0 = none from by rw [pln_len]; exact hnone)]; rfl, h'.below⟩)
theorem pl_112 : tplaces Tryz.prog 112 = some [(0, 4), (4, 2)] := by kernel_rfl
theorem zr_112 : tzero Tryz.prog 112 = some [.int .i64 0, .int .i64 0, .int .i64 0, .slice none 0 0, .nilFunc, .nilFunc] := by kernel_rfl
theorem fn_82 : isFn Tryz.prog 82 = true := by kernel_rfl
theorem fn_83 : isFn Tryz.prog 83 = true := by kernel_rfl
theorem fn_127 : isFn Tryz.prog 127 = true := by kernel_rfl
theorem fn_128 : isFn Tryz.prog 128 = true := by kernel_rfl
theorem fn_129 : isFn Tryz.prog 129 = true := by kernel_rfl
theorem c39 (w : World) (co mo rm : Int) (a : Option Addr) (cap : Nat) (L : List LNd) (hs : Nt w [] a L) (hB : Bd (pln L)) (hkl : ∀ i, i < L.length → ∀ x ∈ (nth L i).es, x.key.length ≤ 1000000) : Calls Tryz.prog 39 #[.agg #[.int .i64 co, .int .i64 mo, .int .i64 rm, .slice a L.length cap]] w fun en w' => en = .returned (.tuple #[.int .i64 (treE (⟨co, mo, rm, pln L⟩ : Tre)).1, .int .i64 (treE (⟨co, mo, rm, pln L⟩ : Tre)).2]) ∧ Below w.heap.size w w' := by
 have hle := hB.len
 rw [pln_len] at hle
 have hes9 : ∀ i, i < L.length → (nth L i).es.length ≤ 1000 := fun i hi => by have h9 := hB.es i (by rw [pln_len]; exact hi); rw [pln_nth hi] at h9; exact h9
 have hcs9 : ∀ i, i < L.length → (nth L i).cs.length ≤ 1000 := fun i hi => by have h9 := hB.cs i (by rw [pln_len]; exact hi); rw [pln_nth hi] at h9; exact h9
 refine enter (args := [_]) Tryz.func39 Tryz.ntmps39 rfl rfl (HS.refl w []) ?_
 iterate 2 refine aS ?_
 refine oBx fun b1 _ => ?_
 iterate 12 refine aS ?_
 refine o_q (q_call rfl fn_78 rfl (fun w1 h1 => c78 w1 _ _ _)) rfl ?_
 iterate 7 refine aS ?_
 refine s_cond rfl (fun h2 => ?_) fun h2 => ?_
 ·try simp only [Bool.not_eq_true', decide_eq_false_iff_not] at h2
  have hz := treE_size (t := (⟨co, mo, rm, pln L⟩ : Tre)) h2
  iterate 6 refine aS ?_
  exact s_retv (rs := [.tmp 2, .tmp 3]) rfl (.tmp rfl (.tmp rfl (.nil))) (fun w' h' => ⟨by rw [hz]; rfl, h'.below⟩)
 try simp only [Bool.not_eq_false', decide_eq_true_eq] at h2
 have hc0 : (if colE12 co = 0 then sizE mo rm else colE12 co) = 0 := h2
 obtain ⟨hco, hsz⟩ := size_0 (t := (⟨co, mo, rm, pln L⟩ : Tre)) hc0
 obtain ⟨j, rfl, hj⟩ := col_ok hco
 have hsz2 : (3 ≤ mo ∧ mo ≤ 8) ∧ (mo / 2 ≤ rm ∧ rm ≤ mo) := sizE_0 hsz
 iterate 3 refine aS ?_
 refine s_draw [] mixed ?_
 refine dFa 0 ?_
 refine dLd 1 [] ?_
 refine d_p 2 rfl (p_len_slice rfl rfl Tryz.underlying22) (by kernel_rfl) rfl rfl ?_
 refine dP 3 ?_
 refine d_q 4 [] rfl (q_call rfl fn_81 rfl (fun w1 h1 => c81 w1 _ _)) (by kernel_rfl) (by kernel_rfl) (by kernel_rfl) rfl ?_
 refine dFa 5 ?_
 refine dLd 6 [] ?_
 refine d_p 7 rfl (p_len_slice rfl rfl Tryz.underlying22) (by kernel_rfl) rfl rfl ?_
 refine dP 8 ?_
 refine d_q 9 [] rfl (q_call rfl fn_81 rfl (fun w1 h1 => c81 w1 _ _)) (by kernel_rfl) (by kernel_rfl) (by kernel_rfl) rfl ?_
 refine d_h 10 rfl (h_buildSlice (cs := [_, _]) rfl rfl sl_165 zr_31 rfl rfl rfl) (by kernel_rfl) (fun w h => h.ent aEt) rfl (fun b3 _ => ?_)
 refine dBa ?_
 refine d_q 11 [] rfl (q_call rfl fn_75 rfl (fun w1 h1 => f75 h1 aPk (by rfl) (by rfl) (by decide))) (by kernel_rfl) (by kernel_rfl) (by kernel_rfl) rfl ?_
 refine d_slot (show _ = Value.int .i64 (lenE12 L.length) from by congr 1; rw [firstW2]; unfold lenE12; simp only [cond_eq_ite, decide_eq_true_eq]; first | (split <;> (try split) <;> (try split) <;> (try split) <;> first | rfl | omega)) ?_
 refine dP 12 ?_
 refine dNi ?_
 iterate 5 refine aS ?_
 refine s_cond rfl (fun h4 => ?_) fun h4 => ?_
 ·try simp only [Bool.not_eq_true', decide_eq_false_iff_not] at h4
  have hz := treE_len (t := (⟨(j : Int), mo, rm, pln L⟩ : Tre)) hc0 (by rw [show ((⟨(j : Int), mo, rm, pln L⟩ : Tre)).ns.length = L.length from pln_len L]; exact h4)
  rw [show ((⟨(j : Int), mo, rm, pln L⟩ : Tre)).ns.length = L.length from pln_len L] at hz
  iterate 6 refine aS ?_
  exact s_retv (rs := [.tmp 2, .tmp 3]) rfl (.tmp rfl (.tmp rfl (.nil))) (fun w' h' => ⟨by rw [hz]; rfl, h'.below⟩)
 try simp only [Bool.not_eq_false', decide_eq_true_eq] at h4
 have hc1 : lenE12 L.length = 0 := h4
 have hz := treE_nods (t := (⟨(j : Int), mo, rm, pln L⟩ : Tre)) hc0 (by rw [show ((⟨(j : Int), mo, rm, pln L⟩ : Tre)).ns.length = L.length from pln_len L]; exact hc1)
 rw [show ((⟨(j : Int), mo, rm, pln L⟩ : Tre)).ns.length = L.length from pln_len L] at hz
 obtain ⟨h00, h120⟩ := lenE_0 hc1
 iterate 2 refine aS ?_
 refine s_weaken (L' := [(1, _), (2, _), (3, _)]) aSx (fun _ h => h) ?_
 refine s_cutI (α := Nat × Nat) [6, 7, 37, 38, 39, 40, 41, 42, 43, 44] (fun x => [(6, .pointer (some ⟨x.1, 0, none⟩)), (7, .map (some x.2))]) (fun x => HS w [] [.blk b1 24 4 [.int .i64 (j : Int), .int .i64 mo, .int .i64 rm, .slice a L.length cap], .blk x.1 112 6 (tbV (j : Int) mo rm a L.length cap), .mp x.2 KI []]) (fun _ => True) ?_ ?_
 ·skip
  refine s_draw [] mixed ?_
  refine dLn 0 [] ?_
  refine d_q 1 [] rfl (q_call rfl fn_77 rfl (fun w1 h1 => c77 w1)) (by kernel_rfl) (by kernel_rfl) (by kernel_rfl) rfl ?_
  refine dFa 2 ?_
  refine dLd 3 [] ?_
  refine d_p 4 rfl (p_indexn rfl rfl rfl ar_132 sz_110 j rfl (by omega)) (by kernel_rfl) rfl rfl ?_
  refine d_slot (ord_slot j hj) ?_
  refine d_p 5 rfl (p_build (cs := [_, _, _, _, _, _]) rfl rfl pl_112 zr_112 rfl) (by kernel_rfl) rfl rfl ?_
  refine d_two 6 7 rfl rfl  (h_box rfl rfl) (h_makeMap rfl KI) (by kernel_rfl) (fun w h => h.ent aEt) rfl rfl  (fun b5 _ => ?_) (fun b6 _ => ?_)
  ·skip
   refine dBa ?_
   refine dP 8 ?_
   refine d_h 7 rfl (h_makeMap rfl KI) (by kernel_rfl) (fun w h => h.ent aEt) rfl (fun b7 _ => ?_)
   refine dBa ?_
   refine dP 9 ?_
   refine dNi ?_
   exact s_joinI (b5, b7) trivial aSx (fun w h => h.ent aEt)
  skip
  refine dBa ?_
  refine d_h 6 rfl (h_box rfl rfl) (by kernel_rfl) (fun w h => h.ent aEt) rfl (fun b8 _ => ?_)
  refine dBa ?_
  refine dP 8 ?_
  refine dP 9 ?_
  refine dNi ?_
  exact s_joinI (b8, b6) trivial aSx (fun w h => h.ent aEt)
 intro ⟨bt, r⟩ _
 iterate 9 refine aS ?_
 refine s_loopI (α := Nat × List Int × List Int) [2, 3, 8, 9, 48, 49, 50, 51, 52, 53, 54, 55, 56, 57, 58, 59] (fun x => [(48, .int .i64 (x.1 : Int))]) (fun x => HS w [] [.blk b1 24 4 [.int .i64 (j : Int), .int .i64 mo, .int .i64 rm, .slice a L.length cap], .blk bt 112 6 (tbV (j : Int) mo rm a L.length cap), .mp r KI x.2.1]) (fun x => x.1 ≤ L.length ∧ (∀ y, y ∈ x.2.1 ↔ y ∈ x.2.2) ∧ (nodsE (⟨(j : Int), mo, rm, pln L⟩ : Tre) L.length 0 []) = nodsE (⟨(j : Int), mo, rm, pln L⟩ : Tre) (L.length - x.1) x.1 x.2.2) (fun x => L.length - x.1) (0, [], []) ⟨Nat.zero_le _, fun _ => Iff.rfl, rfl⟩ aSx (fun w h => h.ent aEt) (fun ⟨k, K, S9⟩ hx => ?_)
 dsimp only
 obtain ⟨hk1, hk2, hk3⟩ := hx
 simp only [] at hk1 hk2 hk3
 iterate 5 refine aS ?_
 refine s_cond rfl (fun h9 => ?_) fun h9 => ?_
 ·try simp only [decide_eq_true_eq] at h9
  have hkl9 : k < L.length := by omega
  have hst := nodsE_step (t := (⟨(j : Int), mo, rm, pln L⟩ : Tre)) (k := k) (seen := S9) (by rw [show ((⟨(j : Int), mo, rm, pln L⟩ : Tre)).ns.length = L.length from pln_len L]; exact hkl9)
  rw [show ((⟨(j : Int), mo, rm, pln L⟩ : Tre)).ns.length = L.length from pln_len L] at hst
  iterate 13 refine aS ?_
  refine o_h (h_callF (Cs := [.mp r KI K]) rfl fn_82 rfl aPs (fun w1 h1 hf => c82 w1 k r K S9 bt j mo rm a cap L hf hk2 (fun k9 v9 hv9 => h1.rd_blkF aPs (b := bt) aPk hv9) ((hs.keep h1).mono (fps_pick aPs)) hle hj hkl9 (hes9 _ hkl9) (hcs9 _ hkl9) (hkl _ hkl9))) rfl (fun b10 hkG => ?_)
  iterate 7 refine aS ?_
  refine s_cond rfl (fun h11 => ?_) fun h11 => ?_
  ·try simp only [Bool.not_eq_true', decide_eq_false_iff_not] at h11
   have hz3 : (nodsE (⟨(j : Int), mo, rm, pln L⟩ : Tre) L.length 0 []) = ((k : Int), (nodE (⟨(j : Int), mo, rm, pln L⟩ : Tre) k S9).1) := by rw [hk3, hst, if_neg h11]
   rw [hz3, if_neg (show ¬ (((k : Int), (nodE (⟨(j : Int), mo, rm, pln L⟩ : Tre) k S9).1) : Int × Int).2 = 0 from h11)] at hz
   iterate 7 refine aS ?_
   exact s_retv (rs := [.tmp 2, .tmp 3]) rfl (.tmp rfl (.tmp rfl (.nil))) (fun w' h' => ⟨by rw [hz]; rfl, h'.below⟩)
  try simp only [Bool.not_eq_false', decide_eq_true_eq] at h11
  have hz3 : nodsE (⟨(j : Int), mo, rm, pln L⟩ : Tre) (L.length - k) k S9 = nodsE (⟨(j : Int), mo, rm, pln L⟩ : Tre) (L.length - (k + 1)) (k + 1) (nodE (⟨(j : Int), mo, rm, pln L⟩ : Tre) k S9).2 := by rw [hst, if_pos h11]
  iterate 4 refine aS ?_
  try refine oWr ?_
  iterate 2 refine aS ?_
  exact s_backI (k + 1, b10, (nodE (⟨(j : Int), mo, rm, pln L⟩ : Tre) k S9).2) (by (try simp only []); omega) ⟨by (try simp only []); omega, hkG, by simp only []; rw [hk3, hz3]⟩ aSx (fun w h => h.ent aEt)
 try simp only [decide_eq_false_iff_not] at h9
 have hnd : (nodsE (⟨(j : Int), mo, rm, pln L⟩ : Tre) L.length 0 []) = (0, 0) := by rw [hk3, show L.length - k = 0 by omega]; rfl
 rw [hnd, if_pos rfl] at hz
 have hT : TOk (j : Int) (pln L) := tok_of (t := (⟨(j : Int), mo, rm, pln L⟩ : Tre)) (by show (nodsE (⟨(j : Int), mo, rm, pln L⟩ : Tre) (pln L).length 0 []).2 = 0; rw [pln_len, hnd])
 refine s_exit_to rfl ?_
 iterate 3 refine aS ?_
 refine o_q (q_call rfl fn_83 rfl (fun w1 h1 => c83 w1 bt j mo rm a cap L (HS.tbr h1 aPk) (hs.later h1) hj (by omega) h00 hB hT)) rfl ?_
 iterate 12 refine aS ?_
 refine s_cutI (α := Unit) [10] (fun _ => [(10, .int .i64 (treE (⟨(j : Int), mo, rm, pln L⟩ : Tre)).1)]) (fun _ => HS w [] []) (fun _ => True) ?_ ?_
 ·skip
  refine s_cond rfl (fun h12 => ?_) fun h12 => ?_
  ·try simp only [decide_eq_true_eq] at h12
   iterate 3 refine aS ?_
   exact s_joinI () trivial (by rw [hz, shapE_0 h12]; exact aSx) (fun w h => h.ent aEt)
  try simp only [decide_eq_false_iff_not] at h12
  refine aS ?_
  exact s_joinI () trivial (by rw [hz]; exact aSx) (fun w h => h.ent aEt)
 intro _ _
 iterate 7 refine aS ?_
 exact s_retv (rs := [.tmp 2, .tmp 3]) rfl (.tmp rfl (.tmp rfl (.nil))) (fun w' h' => ⟨by simp only [retV]; rw [hz], h'.below⟩)
theorem c127 (w : World) (a : Option Addr) (cap : Nat) (l : List LNd) (hs : Rw LNd.vals 3 w [] a l) (hm : l.length ≤ 1000000) : Calls Tryz.prog 127 #[.slice a l.length cap] w fun en w' => ∃ g : Option Addr × Nat, en = .returned (.slice g.1 l.length g.2) ∧ True ∧ HS w [] [.own (.slice g.1 l.length g.2) 102 3 l.length (l.flatMap LNd.vals)] w' := by
 refine enter (args := [_]) Tryz.func127 Tryz.ntmps127 rfl rfl (HS.refl w []) ?_
 iterate 8 refine aS ?_
 refine o_p (p_slice_nil_eql rfl rfl rfl Tryz.underlying22) rfl ?_
 refine aS ?_
 refine s_cond rfl (fun h1 => ?_) fun h1 => ?_
 ·skip
  have ha0 : a = none := by cases a with | none => rfl | some b => simp at h1
  subst ha0
  have hl0 : l = [] := Rw.none hs
  iterate 4 refine aS ?_
  exact s_retv (rs := [.tmp 2]) rfl (.tmp rfl (.nil)) (fun w' h' => ⟨(none, 0), by rw [hl0]; rfl, trivial, by rw [hl0]; exact (h'.own_nil 102 3).ent aEt⟩)
 skip
 iterate 3 refine aS ?_
 refine o_h (h_buildSlice0 rfl sl_22) rfl (fun b2 _ => ?_)
 refine aS ?_
 refine o_h (h_appendS (l.flatMap LNd.vals) rfl rfl rfl sl_22 Tryz.underlying22 zr_102 rfl aPk (fun w h => Rw.src nv3 hs h) (flat_length nv3 l) (flat_one nv1 l) (by omega) (by simp only [maxLen]; omega)) rfl (fun b3 _ => ?_)
 iterate 2 refine aS ?_
 exact s_retv (rs := [.tmp 2]) rfl (.tmp rfl (.nil)) (fun w' h' => ⟨b3, by simp only [retV, Nat.zero_add], trivial, by have h2 := h'; simp only [Nat.zero_add, List.nil_append] at h2; exact h2.ent aEt⟩)
theorem c128 (w : World) (a : Option Addr) (cap : Nat) (l : List TEnt) (hs : Rw TEnt.vals 2 w [] a l) (hm : l.length ≤ 1000000) : Calls Tryz.prog 128 #[.slice a l.length cap] w fun en w' => ∃ g : Option Addr × Nat, en = .returned (.slice g.1 l.length g.2) ∧ True ∧ HS w [] [.own (.slice g.1 l.length g.2) 26 2 l.length (l.flatMap TEnt.vals)] w' := by
 refine enter (args := [_]) Tryz.func128 Tryz.ntmps128 rfl rfl (HS.refl w []) ?_
 iterate 8 refine aS ?_
 refine o_p (p_slice_nil_eql rfl rfl rfl Tryz.underlying77) rfl ?_
 refine aS ?_
 refine s_cond rfl (fun h1 => ?_) fun h1 => ?_
 ·skip
  have ha0 : a = none := by cases a with | none => rfl | some b => simp at h1
  subst ha0
  have hl0 : l = [] := Rw.none hs
  iterate 4 refine aS ?_
  exact s_retv (rs := [.tmp 2]) rfl (.tmp rfl (.nil)) (fun w' h' => ⟨(none, 0), by rw [hl0]; rfl, trivial, by rw [hl0]; exact (h'.own_nil 26 2).ent aEt⟩)
 skip
 iterate 3 refine aS ?_
 refine o_h (h_buildSlice0 rfl sl_77) rfl (fun b2 _ => ?_)
 refine aS ?_
 refine o_h (h_appendS (l.flatMap TEnt.vals) rfl rfl rfl sl_77 Tryz.underlying77 zr_26 rfl aPk (fun w h => Rw.src ev2 hs h) (flat_length ev2 l) (flat_one ev1 l) (by omega) (by simp only [maxLen]; omega)) rfl (fun b3 _ => ?_)
 iterate 2 refine aS ?_
 exact s_retv (rs := [.tmp 2]) rfl (.tmp rfl (.nil)) (fun w' h' => ⟨b3, by simp only [retV, Nat.zero_add], trivial, by have h2 := h'; simp only [Nat.zero_add, List.nil_append] at h2; exact h2.ent aEt⟩)
theorem c129 (w : World) (a : Option Addr) (cap : Nat) (l : List Int) (hs : Rw inV 1 w [] a l) (hm : l.length ≤ 1000000) : Calls Tryz.prog 129 #[.slice a l.length cap] w fun en w' => ∃ g : Option Addr × Nat, en = .returned (.slice g.1 l.length g.2) ∧ True ∧ HS w [] [.own (.slice g.1 l.length g.2) 3 1 l.length (l.flatMap inV)] w' := by
 refine enter (args := [_]) Tryz.func129 Tryz.ntmps129 rfl rfl (HS.refl w []) ?_
 iterate 8 refine aS ?_
 refine o_p (p_slice_nil_eql rfl rfl rfl Tryz.underlying30) rfl ?_
 refine aS ?_
 refine s_cond rfl (fun h1 => ?_) fun h1 => ?_
 ·skip
  have ha0 : a = none := by cases a with | none => rfl | some b => simp at h1
  subst ha0
  have hl0 : l = [] := Rw.none hs
  iterate 4 refine aS ?_
  exact s_retv (rs := [.tmp 2]) rfl (.tmp rfl (.nil)) (fun w' h' => ⟨(none, 0), by rw [hl0]; rfl, trivial, by rw [hl0]; exact (h'.own_nil 3 1).ent aEt⟩)
 skip
 iterate 3 refine aS ?_
 refine o_h (h_buildSlice0 rfl sl_30) rfl (fun b2 _ => ?_)
 refine aS ?_
 refine o_h (h_appendS (l.flatMap inV) rfl rfl rfl sl_30 Tryz.underlying30 zr_3 rfl aPk (fun w h => Rw.src iv1 hs h) (flat_length iv1 l) (flat_one iv1c l) (by omega) (by simp only [maxLen]; omega)) rfl (fun b3 _ => ?_)
 iterate 2 refine aS ?_
 exact s_retv (rs := [.tmp 2]) rfl (.tmp rfl (.nil)) (fun w' h' => ⟨b3, by simp only [retV, Nat.zero_add], trivial, by have h2 := h'; simp only [Nat.zero_add, List.nil_append] at h2; exact h2.ent aEt⟩)
theorem c88 (w : World) (j : Nat) (mo rm : Int) (a : Option Addr) (cap : Nat) (L : List LNd) (hs : Nt w [] a L) (hB : Bd (pln L)) (hj : j ≤ 3) (h0 : 0 < L.length) : Calls Tryz.prog 88 #[.agg #[.int .i64 (j : Int), .int .i64 mo, .int .i64 rm, .slice a L.length cap]] w fun en w' => ∃ g : Nat × (Option Addr × Nat) × List LNd, en = .returned (.pointer (some ⟨g.1, 0, none⟩)) ∧ pln g.2.2 = pln L ∧ HS w [] [.blk g.1 112 6 (tbV (j : Int) mo rm g.2.1.1 g.2.2.length g.2.1.2), .nodes 26 102 g.2.1.1 g.2.1.2 g.2.2] w' := by
 have hle := hB.len
 rw [pln_len] at hle
 have hes9 : ∀ i, i < L.length → (nth L i).es.length ≤ 1000 := fun i hi => by have h9 := hB.es i (by rw [pln_len]; exact hi); rw [pln_nth hi] at h9; exact h9
 have hcs9 : ∀ i, i < L.length → (nth L i).cs.length ≤ 1000 := fun i hi => by have h9 := hB.cs i (by rw [pln_len]; exact hi); rw [pln_nth hi] at h9; exact h9
 refine enter (args := [_]) Tryz.func88 Tryz.ntmps88 rfl rfl (HS.refl w []) ?_
 iterate 2 refine aS ?_
 refine oBx fun b1 _ => ?_
 iterate 3 refine aS ?_
 refine s_draw [] mixed ?_
 refine dLn 0 [] ?_
 refine d_q 1 [] rfl (q_call rfl fn_77 rfl (fun w1 h1 => c77 w1)) (by kernel_rfl) (by kernel_rfl) (by kernel_rfl) rfl ?_
 refine dFa 2 ?_
 refine dLd 3 [] ?_
 refine d_p 4 rfl (p_indexn rfl rfl rfl ar_132 sz_110 j rfl (by omega)) (by kernel_rfl) rfl rfl ?_
 refine d_slot (ord_slot j hj) ?_
 refine d_p 5 rfl (p_build (cs := [_, _, _, _, _, _]) rfl rfl pl_112 zr_112 rfl) (by kernel_rfl) rfl rfl ?_
 refine d_h 6 rfl (h_box rfl rfl) (by kernel_rfl) (fun w h => h.ent aEt) rfl (fun b2 _ => ?_)
 refine dBa ?_
 refine dP 7 ?_
 refine dNi ?_
 iterate 5 refine aS ?_
 refine o_h (h_call rfl fn_127 rfl (fun w1 h1 => c127 w1 a cap L (hs.1.later h1) (by omega))) rfl (fun ⟨b3, c4⟩ _ => ?_)
 refine o_fact (fun w h => own_addr h0 h aPk) (fun hgn => ?_)
 obtain ⟨gn, rfl, hcap, hcm⟩ := hgn
 refine o_class (fun w h => HS.own_at h aPk) ?_
 iterate 3 refine aS ?_
 refine o_h0 (h_store rfl rfl rfl sz_22 rfl aPt (by show 4 ≤ 6; omega) rfl) (fun _ _ => ?_)
 iterate 13 refine aS ?_
 refine s_weaken (L' := [(2, _), (3, _), (24, _), (25, _), (26, _)]) aSx (fun _ h => h) ?_
 refine s_loopI (α := Nat × List LNd) [4, 5, 26, 27, 28, 29, 30, 31, 32, 33, 34, 35, 36, 37, 38, 39, 40, 41, 42, 43, 44, 45, 46, 47, 48, 49, 50, 51, 52, 53] (fun x => [(26, .int .i64 (x.1 : Int))]) (fun x => HS w [] [.blk gn 102 (c4 * 3) ((x.2 ++ L.drop x.1).flatMap LNd.vals), .star (x.2.map (subN 26)), .blk b2 112 6 (tbV (j : Int) mo rm (some ⟨gn, 0, none⟩) L.length c4)]) (fun x => x.1 ≤ L.length ∧ x.2.length = x.1 ∧ pln x.2 = (pln L).take x.1) (fun x => L.length - x.1) (0, []) ⟨Nat.zero_le _, rfl, rfl⟩ aSx (fun w h => (h.star_nil).ent aEt) (fun ⟨k, D⟩ hx => ?_)
 dsimp only
 obtain ⟨hk1, hk2, hk3⟩ := hx
 simp only [] at hk1 hk2 hk3
 iterate 5 refine aS ?_
 refine s_cond rfl (fun h5 => ?_) fun h5 => ?_
 ·try simp only [decide_eq_true_eq] at h5
  have hkl : k < L.length := by omega
  iterate 6 refine aS ?_
  refine o_p (p_indexAddr rfl rfl rfl sl_22 (k) (by omega) (by omega) rfl) rfl ?_
  refine o_q (q_load_atn (LNd.vals (nth L k)) rfl rfl sz_102 rfl (fun w h => by have h9 := Rw.rd (h.rw_blk nv3 aPk) (i := k) (by simp only [List.length_append, List.length_drop]; omega); rw [nth_mid hk2 hkl] at h9; exact h9)) rfl ?_
  refine oAl (fun b6 _ => ?_) zr_102
  refine aS ?_
  refine oSt ?_
  refine aS ?_
  refine s_draw [20, 23] mixed ?_
  refine dP 0 ?_
  refine dP 1 ?_
  refine dFa 2 ?_
  refine dFa 3 ?_
  refine dLd 4 [[], []] ?_
  refine dP 5 ?_
  refine dP 6 ?_
  refine dP 7 ?_
  refine dFa 8 ?_
  refine dFa 9 ?_
  refine dLd 10 [[], []] ?_
  refine dP 11 ?_
  refine dFa 12 ?_
  refine dLd 13 [[], []] ?_
  refine dFa 15 ?_
  refine dLd 16 [[17], []] ?_
  refine d_h 14 rfl (h_call rfl fn_128 rfl (fun w1 h1 => c128 w1 (nth L k).ea (nth L k).ec (nth L k).es ((hs.es hkl).later h1) (by have := hes9 k hkl; omega))) (by kernel_rfl) (fun w h => h.ent aEt) rfl (fun b7 _ => ?_)
  refine dBa ?_
  refine d_h 17 rfl (h_call rfl fn_129 rfl (fun w1 h1 => c129 w1 (nth L k).ca (nth L k).cc (nth L k).cs ((hs.cs hkl).later h1) (by have := hcs9 k hkl; omega))) (by kernel_rfl) (fun w h => h.ent aEt) rfl (fun b8 _ => ?_)
  refine dBa ?_
  refine d_p 18 rfl (p_indexAddr rfl rfl rfl sl_22 (k) (by omega) (by omega) rfl) (by kernel_rfl) rfl rfl ?_
  refine dFa 19 ?_
  refine d_h0 20 rfl (h_store rfl rfl rfl sz_77 rfl aPt (by simp only [setMany_length, flat_length nv3, List.length_append, List.length_drop, Nat.zero_add]; show _ + 1 ≤ _; omega) rfl) (by kernel_rfl) (fun w h => h.ent aEt) (fun _ _ => ?_)
  refine dTu [23] ?_
  refine d_p 21 rfl (p_indexAddr rfl rfl rfl sl_22 (k) (by omega) (by omega) rfl) (by kernel_rfl) rfl rfl ?_
  refine dFa 22 ?_
  refine d_h0 23 rfl (h_store rfl rfl rfl sz_30 rfl aPt (by simp only [setMany_length, flat_length nv3, List.length_append, List.length_drop, Nat.zero_add]; show _ + 1 ≤ _; omega) rfl) (by kernel_rfl) (fun w h => h.ent aEt) (fun _ _ => ?_)
  refine dTu [] ?_
  refine dNi ?_
  refine aS ?_
  refine s_weaken (L' := [(2, _), (3, _), (24, _), (25, _), (26, _)]) aSx (fun _ h => h) ?_
  iterate 2 refine aS ?_
  try refine oWr ?_
  iterate 2 refine aS ?_
  exact s_backI (k + 1, D ++ [⟨(nth L k).us, b7.1, b7.2, (nth L k).es, b8.1, b8.2, (nth L k).cs⟩]) (by (try simp only []); omega) ⟨by (try simp only []); omega, by simp [hk2], pln_take hkl hk3 rfl⟩ aSx (fun w h => by have e9 := node_both (l := D ++ L.drop k) (k := k) (by simp only [List.length_append, List.length_drop]; omega) b7.1 b7.2 (nth L k).es b8.1 b8.2 (nth L k).cs; rw [nth_mid hk2 hkl, set_mid hk2 hkl] at e9; have h2 := h.ent (Bs := [.own (.slice b7.1 (nth L k).es.length b7.2) 26 2 (nth L k).es.length ((nth L k).es.flatMap TEnt.vals), .own (.slice b8.1 (nth L k).cs.length b8.2) 3 1 (nth L k).cs.length ((nth L k).cs.flatMap inV), .star (D.map (subN 26)), .blk gn 102 (c4 * 3) (setMany (setMany ((D ++ L.drop k).flatMap LNd.vals) (0 + k * 3 + 1) [.slice b7.1 (nth L k).es.length b7.2]) (0 + k * 3 + 2) [.slice b8.1 (nth L k).cs.length b8.2]), .blk b2 112 6 (tbV (j : Int) mo rm (some ⟨gn, 0, none⟩) L.length c4)]) aEt; rw [Nat.zero_add, e9] at h2; exact (HS.sub_app (sub := subN 26) (l := D) (x := (⟨(nth L k).us, b7.1, b7.2, (nth L k).es, b8.1, b8.2, (nth L k).cs⟩ : LNd)) (HS.star_close (Bs := [_, _]) h2)).ent aEt)
 try simp only [decide_eq_false_iff_not] at h5
 obtain rfl : k = L.length := by omega
 have hD : pln D = pln L := by rw [hk3, ← pln_len L, List.take_length]
 refine s_exit_to rfl ?_
 iterate 5 refine aS ?_
 exact s_retv (rs := [.tmp 2]) rfl (.tmp rfl (.nil)) (fun w' h' => ⟨(b2, (some ⟨gn, 0, none⟩, c4), D), rfl, hD, by have h2 := h'; rw [List.drop_length, List.append_nil] at h2; have h3 := HS.own_shut (n := D.length) (h2.ent (Bs := [.blk gn 102 (c4 * 3) (D.flatMap LNd.vals), .star (D.map (subN 26)), .blk b2 112 6 (tbV (j : Int) mo rm (some ⟨gn, 0, none⟩) L.length c4)]) aEt) (flat_length nv3 D) (by omega) hcm; have h4 := HS.row_shut (l := D) (sub := subN 26) h3 rfl rfl; have h5 : HS w [] [.nodes 26 102 (some ⟨gn, 0, none⟩) c4 D, .blk b2 112 6 (tbV (j : Int) mo rm (some ⟨gn, 0, none⟩) L.length c4)] w' := h4; rw [hk2]; exact h5.ent aEt⟩)
theorem fn_159 : isFn Tryz.prog 159 = true := by kernel_rfl
theorem ov_132 : isOv Tryz.prog 132 77 4 := ⟨_, Tryz.func132, rfl, rfl, by kernel_rfl, by kernel_rfl⟩
theorem ov_161 : isOv Tryz.prog 161 30 4 := ⟨_, Tryz.func161, rfl, rfl, by kernel_rfl, by kernel_rfl⟩
theorem c159 (w : World) (a : Option Addr) (cap : Nat) (l : List LNd) (q : Nat) (cv : Array Value) (bt : List Bool) (hs : Rw LNd.vals 3 w [] a l) (hm : l.length ≤ 1000000) (hq : isFn Tryz.prog q = true) (hb : bt.length = l.length) (hc : ∀ k w1, k < l.length → HS w [] [] w1 → Calls Tryz.prog q (#[] ++ [.agg (LNd.vals (nth l k)).toArray].toArray ++ cv) w1 fun en w2 => en = .returned (.bool (bt.getD k false)) ∧ Below w1.heap.size w1 w2) : Calls Tryz.prog 159 #[.slice a l.length cap, .func (.func q) #[] cv] w fun en w' => en = .returned (.int .i64 (ixI bt)) ∧ Below w.heap.size w w' := by
 refine enter (args := [_, _]) Tryz.func159 Tryz.ntmps159 rfl rfl (HS.refl w []) ?_
 iterate 12 refine aS ?_
 refine s_loopI (α := Nat) [4, 5, 8, 9, 10, 11, 12, 13, 14, 15, 16, 17, 18] (fun k => [(8, .int .i64 (k : Int))]) (fun _ => _) (fun k => k ≤ l.length ∧ ∀ i, i < k → bt.getD i false = false) (fun k => l.length - k) 0 ⟨by omega, fun i h => absurd h (Nat.not_lt_zero i)⟩ aSx (fun w h => h) (fun k hk => ?_)
 obtain ⟨hk1, hk2⟩ := hk
 iterate 5 refine aS ?_
 refine s_cond rfl (fun h1 => ?_) fun h1 => ?_
 ·try simp only [decide_eq_true_eq] at h1
  iterate 13 refine aS ?_
  refine o_p (p_indexAddr rfl rfl rfl sl_22 (k) (by omega) (by omega) (Rw.some hs (by omega))) rfl ?_
  refine o_q (q_load_oldn _ rfl rfl sz_102 rfl (Rw.rd hs (by omega))) rfl ?_
  refine o_q (q_callv rfl rfl hq rfl (fun w1 h1 => hc k w1 (by omega) (h1.ent aEt))) rfl ?_
  refine aS ?_
  refine s_cond rfl (fun h2 => ?_) fun h2 => ?_
  ·skip
   iterate 5 refine aS ?_
   exact s_retv (rs := [.tmp 4]) rfl (.tmp rfl (.nil)) (fun w' h' => ⟨by have e := ixB_eq (l := bt) (k := k) (by omega) hk2 (fun _ => by assumption); simp only [retV, ixI, e]; rw [if_pos (by omega)], h'.below⟩)
  skip
  iterate 4 refine aS ?_
  try refine oWr ?_
  iterate 2 refine aS ?_
  exact s_backI (k+1) (by omega) ⟨by omega, fun i hi => (Nat.lt_or_ge i k).elim (hk2 i) (fun h => by obtain rfl : i = k := (by omega); assumption)⟩ aSx (fun w h => h)
 try simp only [decide_eq_false_iff_not] at h1
 refine s_exit_to rfl ?_
 iterate 4 refine aS ?_
 exact s_retv (rs := [.tmp 4]) rfl (.tmp rfl (.nil)) (fun w' h' => ⟨by have e := ixB_eq (l := bt) (k := k) (by omega) hk2 (fun h => by omega); simp only [retV, ixI, e]; rw [if_neg (by omega)], h'.below⟩)
theorem c160 (w : World) (n : LNd) : Calls Tryz.prog 160 #[.agg #[.bool n.us, .slice n.ea n.es.length n.ec, .slice n.ca n.cs.length n.cc]] w fun en w' => en = .returned (.bool (!n.us)) ∧ Below w.heap.size w w' := by
 refine enter (args := [_]) Tryz.func160 Tryz.ntmps160 rfl rfl (HS.refl w []) ?_
 iterate 2 refine aS ?_
 refine oBx fun b1 _ => ?_
 iterate 9 refine aS ?_
 exact s_retv (rs := [.tmp 2]) rfl (.tmp rfl (.nil)) (fun w' h' => ⟨rfl, h'.below⟩)
theorem c150 (w : World) (bt : Nat) (j : Nat) (mo rm : Int) (gn cap : Nat) (L : List LNd) (hw : HS w (fps [.blk bt 112 6 (tbV (j : Int) mo rm (some ⟨gn, 0, none⟩) (L).length cap), .blk gn 102 (cap * 3) ((L).flatMap LNd.vals), .star ((L).map (subN 26))]) [.blk bt 112 6 (tbV (j : Int) mo rm (some ⟨gn, 0, none⟩) (L).length cap), .blk gn 102 (cap * 3) ((L).flatMap LNd.vals), .star ((L).map (subN 26))] w) (hnc : L.length ≤ cap) (hcm : cap ≤ maxLen) (h0 : 0 < L.length) (hl : L.length ≤ 1000) : Calls Tryz.prog 150 #[.pointer (some ⟨bt, 0, none⟩)] w fun en w' => ∃ g : (Nat × Nat) × List LNd, en = .returned (.int .i64 ((freN (pln L)).1 : Int)) ∧ (pln g.2 = (freN (pln L)).2 ∧ g.2.length ≤ g.1.2 ∧ g.1.2 ≤ maxLen) ∧ HS w (fps [.blk bt 112 6 (tbV (j : Int) mo rm (some ⟨gn, 0, none⟩) (L).length cap), .blk gn 102 (cap * 3) ((L).flatMap LNd.vals), .star ((L).map (subN 26))]) [.blk bt 112 6 (tbV (j : Int) mo rm (some ⟨g.1.1, 0, none⟩) (g.2).length g.1.2), .blk g.1.1 102 (g.1.2 * 3) ((g.2).flatMap LNd.vals), .star ((g.2).map (subN 26))] w' := by
 have hixe : ixB (L.map fun n => !n.us) = ixFree (pln L) := by unfold ixFree; rw [List.map_map]; rfl
 have hnl : (pln L).length = L.length := pln_len L
 refine enter (args := [_]) Tryz.func150 Tryz.ntmps150 rfl rfl hw ?_
 iterate 11 refine aS ?_
 refine o_q (q_call rfl fn_159 rfl (fun w1 h1 => c159 w1 (some ⟨gn, 0, none⟩) cap L 160 #[] (L.map fun n => !n.us) (h1.rw_blk nv3 aPk) (by omega) (by kernel_rfl) (by simp) (fun k w2 hk h2 => by rw [getD_map (d := default) hk]; exact c160 w2 (nth L k)))) rfl ?_
 iterate 8 refine aS ?_
 refine s_cutI (α := (Nat × Nat) × List LNd) [3, 12, 13, 14, 15, 16, 17, 18, 19, 20, 21, 22, 23, 24, 25, 26, 27, 28, 29] (fun x => [(3, .int .i64 ((ixFree (pln L)) : Int))]) (fun x => HS w (fps [.blk bt 112 6 (tbV (j : Int) mo rm (some ⟨gn, 0, none⟩) (L).length cap), .blk gn 102 (cap * 3) ((L).flatMap LNd.vals), .star ((L).map (subN 26))]) [.blk bt 112 6 (tbV (j : Int) mo rm (some ⟨x.1.1, 0, none⟩) (x.2).length x.1.2), .blk x.1.1 102 (x.1.2 * 3) ((x.2).flatMap LNd.vals), .star ((x.2).map (subN 26))]) (fun x => (ixFree (pln L)) < x.2.length ∧ x.2.length ≤ x.1.2 ∧ x.1.2 ≤ maxLen ∧ usN (pln x.2) (ixFree (pln L)) true = (freN (pln L)).2 ∧ x.2.length ≤ 1001) ?_ ?_
 ·skip
  refine s_cond rfl (fun h1 => ?_) fun h1 => ?_
  ·try simp only [decide_eq_true_eq] at h1
   have hz : ¬ ixFree (pln L) < L.length := by have hq := h1; unfold ixI at hq; rw [hixe, List.length_map] at hq; intro h9; rw [if_pos h9] at hq; omega
   have hz1 : ixFree (pln L) = L.length := by have h9 := ixB_le (L.map fun n => !n.us); rw [hixe, List.length_map] at h9; omega
   refine s_class (fun w h => (HS.own_shut (n := L.length) (h.ent (Bs := [.blk gn 102 (cap * 3) (L.flatMap LNd.vals), .star (L.map (subN 26)), .blk bt 112 6 (tbV (j : Int) mo rm (some ⟨gn, 0, none⟩) L.length cap)]) aEt) (flat_length nv3 L) hnc hcm)) ?_
   iterate 17 refine aS ?_
   refine o_p (p_build (cs := [_, _, _]) rfl rfl pl_102 zr_102 rfl) rfl ?_
   refine o_h (h_buildSlice (cs := [_, _, _]) rfl rfl sl_22 zr_102 rfl rfl rfl) rfl (fun b2 _ => ?_)
   refine o_h (h_appendS [_, _, _] rfl rfl rfl sl_22 Tryz.underlying22 zr_102 rfl aPk (src_blk aPk) rfl (by intro u hu; simp only [List.mem_cons, List.mem_nil_iff, or_false] at hu; rcases hu with rfl | rfl | rfl <;> rfl) (by omega) (by simp only [maxLen]; omega)) rfl (fun b3 _ => ?_)
   refine o_fact (fun w h => own_addr (n := L.length + 1) (by omega) h aPk) (fun hgn => ?_)
   obtain ⟨⟨ga, gc⟩, hga⟩ : ∃ q : Option Addr × Nat, b3 = q := ⟨_, rfl⟩
   subst hga
   obtain ⟨g9, e9, hn9, hm9⟩ := hgn
   simp only [] at e9 hn9 hm9
   subst e9
   refine o_class (fun w h => HS.own_at h aPk) ?_
   iterate 3 refine aS ?_
   refine o_h0 (h_store rfl rfl rfl sz_22 rfl aPt (by show 4 ≤ 6; omega) rfl) (fun _ _ => ?_)
   refine aS ?_
   exact s_joinI ((g9, gc), L ++ [⟨false, none, 0, [], none, 0, []⟩]) ⟨by simp only [List.length_append, List.length_singleton]; omega, by simp only [List.length_append, List.length_singleton]; exact hn9, hm9, by unfold freN usN; rw [if_neg (by rw [hnl]; exact hz), hz1, pln_app, List.set_append_right _ _ (by rw [pln_len]; omega), pln_len, Nat.sub_self]; simp only []; congr 1; show [_] = [_]; congr 1; rw [show nth (pln L ++ pln [(⟨false, none, 0, [], none, 0, []⟩ : LNd)]) L.length = ⟨false, [], []⟩ from nth_eq (by rw [List.getElem?_append_right (by rw [pln_len]; omega), pln_len, Nat.sub_self]; rfl)], by simp only [List.length_append, List.length_singleton]; omega⟩ (by rw [hz1]; exact aSx) (fun w h => by have h2 := HS.sub_app (sub := subN 26) (l := L) (x := (⟨false, none, 0, [], none, 0, []⟩ : LNd)) (HS.star_close (Bs := [_, _]) (((h.ent (Bs := [.star (L.map (subN 26)), .blk bt 112 6 (tbV (j : Int) mo rm (some ⟨g9, 0, none⟩) (L.length + 1) gc), .blk g9 102 (gc * 3) (L.flatMap LNd.vals ++ [.bool false, .slice none 0 0, .slice none 0 0])]) aEt).own_nil 3 1).own_nil 26 2)); have e8 : (L ++ [(⟨false, none, 0, [], none, 0, []⟩ : LNd)]).flatMap LNd.vals = L.flatMap LNd.vals ++ [.bool false, .slice none 0 0, .slice none 0 0] := (by rw [List.flatMap_append]; rfl); have e7 : (L ++ [(⟨false, none, 0, [], none, 0, []⟩ : LNd)]).length = L.length + 1 := (by simp); dsimp only; rw [e8, e7]; exact h2.ent aEt)
  try simp only [decide_eq_false_iff_not] at h1
  have hz : ixFree (pln L) < L.length := by have hq := h1; unfold ixI at hq; rw [hixe, List.length_map] at hq; split at hq <;> first | assumption | omega
  have hz2 : ixI (L.map fun n => !n.us) = (ixFree (pln L) : Int) := by unfold ixI; rw [hixe, List.length_map, if_pos hz]
  refine aS ?_
  exact s_joinI ((gn, cap), L) ⟨hz, hnc, hcm, by unfold freN; rw [if_pos (by rw [hnl]; exact hz)], by show L.length ≤ 1001; omega⟩ (by rw [hz2]; exact aSx) (fun w h => h.ent aEt)
 intro ⟨⟨gn1, cap1⟩, L1⟩ hx
 dsimp only
 obtain ⟨hx1, hx2, hx3, hx4, hx5⟩ := hx
 simp only [] at hx1 hx2 hx3 hx4 hx5
 iterate 8 refine aS ?_
 refine o_p (p_indexAddr rfl rfl rfl sl_22 ((ixFree (pln L))) (by omega) (by omega) rfl) rfl ?_
 refine aS ?_
 refine o_h0 (h_store rfl rfl rfl sz_4 rfl aPt (by rw [flat_length nv3]; show _ + 1 ≤ _; omega) rfl) (fun _ _ => ?_)
 iterate 6 refine aS ?_
 exact s_retv (rs := [.tmp 2]) rfl (.tmp rfl (.nil)) (fun w' h' => ⟨((gn1, cap1), L1.set (ixFree (pln L)) { nth L1 (ixFree (pln L)) with us := true }), by unfold freN; split <;> first | rfl | (have hq9 := ixB_le (L.map fun n => !n.us); rw [hixe, List.length_map] at hq9; simp only [retV]; congr 2; rw [hnl] at *; congr 1; omega), ⟨by rw [pln_us hx1]; exact hx4, by simp only [List.length_set]; exact hx2, hx3⟩, by have h2 := h'.ent (Bs := [.blk bt 112 6 (tbV (j : Int) mo rm (some ⟨gn1, 0, none⟩) L1.length cap1), .blk gn1 102 (cap1 * 3) (setMany (L1.flatMap LNd.vals) (0 + (ixFree (pln L)) * 3 + 0) [.bool true]), .star (L1.map (subN 26))]) aEt; rw [node_us0 hx1] at h2; simp only [List.length_set]; rw [star_us hx1]; exact h2.ent aEt⟩)
theorem c141 (w : World) (bt : Nat) (j : Nat) (mo rm : Int) (a : Option Addr) (cap : Nat) (L : List LNd) (i : Int) (ht : TbR w [] bt (j : Int) mo rm a L.length cap) (hs : Nt w [] a L) (hl : L.length ≤ 100000) (hcl : ∀ k, k < L.length → (nth L k).cs.length ≤ 100000) : Calls Tryz.prog 141 #[.pointer (some ⟨bt, 0, none⟩), .int .i64 i] w fun en w' => en = .returned (.tuple #[.int .i64 ((parN i (pln L) 0).1 : Int), .int .i64 ((parN i (pln L) 0).2 : Int)]) ∧ Below w.heap.size w w' := by
 refine enter (args := [_, _]) Tryz.func141 Tryz.ntmps141 rfl rfl (HS.refl w []) ?_
 iterate 12 refine aS ?_
 refine o_q (q_load_old rfl rfl sz_22 (ht 3 _ rfl)) rfl ?_
 iterate 4 refine aS ?_
 refine s_loopI (α := Nat) [4, 5, 6, 7, 8, 15, 16, 17, 18, 19, 20, 21, 22, 23, 24, 25, 26, 27, 28] (fun k => [(15, .int .i64 (k : Int))]) (fun _ => HS w [] []) (fun k => k ≤ L.length ∧ (parN i (pln L) 0) = parN i ((pln L).drop k) k) (fun k => L.length - k) 0 ⟨Nat.zero_le _, rfl⟩ aSx (fun w h => h.ent aEt) (fun k hx => ?_)
 obtain ⟨hk1, hk2⟩ := hx
 iterate 5 refine aS ?_
 refine s_cond rfl (fun h1 => ?_) fun h1 => ?_
 ·try simp only [decide_eq_true_eq] at h1
  have hkl : k < L.length := by omega
  have hst := parN_drop (i := i) (ns := pln L) (k := k) (by rw [pln_len]; exact hkl)
  rw [pln_nth hkl] at hst
  simp only [LNd.pl] at hst
  iterate 6 refine aS ?_
  refine o_p (p_indexAddr rfl rfl rfl sl_22 (k) (by omega) (by omega) (Rw.some hs.1 (by omega))) rfl ?_
  refine o_q (q_load_oldn _ rfl rfl sz_102 rfl (Rw.rd hs.1 hkl)) rfl ?_
  refine oAl (fun b2 _ => ?_) zr_102
  refine aS ?_
  refine oSt ?_
  iterate 6 refine aS ?_
  refine o_q (q_call rfl fn_148 rfl (fun w1 h1 => c148 w1 (nth L k).ca (nth L k).cc (nth L k).cs i ((hs.cs hkl).later h1) (hcl k hkl))) rfl ?_
  iterate 7 refine aS ?_
  refine s_cond rfl (fun h3 => ?_) fun h3 => ?_
  ·try simp only [decide_eq_true_eq] at h3
   have hz : ixB (hasC (nth L k).cs i) < (nth L k).cs.length := by have hq := h3; unfold ixI at hq; rw [hasC_len] at hq; split at hq <;> first | assumption | omega
   have hz3 : (parN i (pln L) 0) = (k, ixB (hasC (nth L k).cs i)) := (hk2.trans hst).trans (if_pos hz)
   have hz2 : ixI (hasC (nth L k).cs i) = (ixB (hasC (nth L k).cs i) : Int) := by unfold ixI; rw [hasC_len, if_pos hz]
   iterate 7 refine aS ?_
   exact s_retv (rs := [.tmp 4, .tmp 5]) rfl (.tmp rfl (.tmp rfl (.nil))) (fun w' h' => ⟨by rw [hz3, hz2]; rfl, h'.below⟩)
  try simp only [decide_eq_false_iff_not] at h3
  have hz : ¬ ixB (hasC (nth L k).cs i) < (nth L k).cs.length := by have hq := h3; unfold ixI at hq; rw [hasC_len] at hq; intro h9; rw [if_pos h9] at hq; omega
  iterate 4 refine aS ?_
  try refine oWr ?_
  iterate 2 refine aS ?_
  exact s_backI (k + 1) (by omega) ⟨by omega, (hk2.trans hst).trans (if_neg hz)⟩ aSx (fun w h => h.ent aEt)
 try simp only [decide_eq_false_iff_not] at h1
 have hz : (parN i (pln L) 0) = (0, 0) := by rw [hk2, List.drop_of_length_le (by rw [pln_len]; omega)]; rfl
 refine s_exit_to rfl ?_
 iterate 5 refine aS ?_
 exact s_retv (rs := [.tmp 4, .tmp 5]) rfl (.tmp rfl (.tmp rfl (.nil))) (fun w' h' => ⟨by rw [hz]; rfl, h'.below⟩)
theorem c96a (w : World) (a : Option Addr) (i n m cap : Nat) (xs news : List Value) (b0 c0 tot2 : Nat) (hw : HS w (fps [.own (.slice a n cap) 26 2 n xs, .blk b0 26 tot2 news]) [.own (.slice a n cap) 26 2 n xs, .blk b0 26 tot2 news] w) (hm0 : 0 < m) (hl : news.length = m * 2) (hn1 : ∀ u ∈ news, u.oneCell' = true) (hx1 : ∀ u ∈ xs, u.oneCell' = true) (hmax : (n + m) * 32 ≤ 140737488355328) (hi : i = n) : Calls Tryz.prog 96 #[.slice a n cap, .int .i64 i, .slice (some ⟨b0, 0, none⟩) m c0] w fun en w' => ∃ g : Option Addr × Nat, en = .returned (.slice g.1 (n + m) g.2) ∧ True ∧ HS w (fps [.own (.slice a n cap) 26 2 n xs, .blk b0 26 tot2 news]) [.own (.slice g.1 (n + m) g.2) 26 2 (n + m) (xs.take (i * 2) ++ news ++ xs.drop (i * 2)), .blk b0 26 tot2 news] w' := by
 obtain ⟨_, hnc, hcm, hxl⟩ := hw.own_facts .here
 refine enter (args := [_, _, _]) Tryz.func96 Tryz.ntmps96 rfl rfl hw ?_
 iterate 8 refine aS ?_
 refine o_p (p_slice _ _ i n rfl rfl sl_77 ⟨_, _, rfl, rfl⟩ rfl (by omega) (by omega)) rfl ?_
 iterate 13 refine aS ?_
 refine s_cond rfl (fun h1 => ?_) fun h1 => ?_
 ·try simp only [decide_eq_true_eq] at h1
  exfalso; first | omega | (simp at h1; done) | (simp_all; done)
 try simp only [decide_eq_false_iff_not] at h1
 iterate 14 refine aS ?_
 refine s_cond rfl (fun h2 => ?_) fun h2 => ?_
 ·try simp only [decide_eq_true_eq] at h2
  iterate 4 refine aS ?_
  refine o_h (h_appendS news rfl rfl rfl sl_77 Tryz.underlying77 zr_26 rfl aPk (src_blk aPk) hl hn1 (by omega) (by simp only [maxLen]; omega)) rfl (fun b3 _ => ?_)
  iterate 2 refine aS ?_
  exact s_retv (rs := [.tmp 6]) rfl (.tmp rfl (.nil)) (fun w' h' => ⟨(_, _), rfl, trivial, by subst hi; rw [List.take_of_length_le (by omega), List.drop_eq_nil_of_le (by omega), List.append_nil]; exact h'.ent aEt⟩)
 try simp only [decide_eq_false_iff_not] at h2
 exfalso; first | omega | (simp at h2; done) | (simp_all; done)
theorem c96b (w : World) (gg i n m cap : Nat) (xs news : List Value) (b0 c0 tot2 : Nat) (M : List Nat) (hw : HS w M [.blk gg 26 (cap * 2) xs, .blk b0 26 tot2 news] w) (hnc : n ≤ cap) (hcm : cap ≤ maxLen) (hxl : xs.length = n * 2) (hm0 : 0 < m) (hl : news.length = m * 2) (hn1 : ∀ u ∈ news, u.oneCell' = true) (hx1 : ∀ u ∈ xs, u.oneCell' = true) (hmax : (n + m) * 32 ≤ 140737488355328) (hi : i < n) : Calls Tryz.prog 96 #[.slice (some ⟨gg, 0, none⟩) n cap, .int .i64 i, .slice (some ⟨b0, 0, none⟩) m c0] w fun en w' => ∃ g : Option Addr × Nat, en = .returned (.slice g.1 (n + m) g.2) ∧ True ∧ HS w M [.own (.slice g.1 (n + m) g.2) 26 2 (n + m) (xs.take (i * 2) ++ news ++ xs.drop (i * 2)), .blk b0 26 tot2 news] w' := by
 have ht2 := (hw.blk_get (.there .here)).len_le
 have hcl : (cut xs 0 (i * 2)).length = i * 2 := cut_length _ _ _ (by omega)
 refine enter (args := [_, _, _]) Tryz.func96 Tryz.ntmps96 rfl rfl hw ?_
 iterate 8 refine aS ?_
 refine o_p (p_slice _ _ i n rfl rfl sl_77 ⟨_, _, rfl, rfl⟩ rfl (by omega) (by omega)) rfl ?_
 iterate 13 refine aS ?_
 refine s_cond rfl (fun h1 => ?_) fun h1 => ?_
 ·try simp only [decide_eq_true_eq] at h1
  exfalso; first | omega | (simp at h1; done) | (simp_all; done)
 try simp only [decide_eq_false_iff_not] at h1
 iterate 14 refine aS ?_
 refine s_cond rfl (fun h2 => ?_) fun h2 => ?_
 ·try simp only [decide_eq_true_eq] at h2
  exfalso; first | omega | (simp at h2; done) | (simp_all; done)
 try simp only [decide_eq_false_iff_not] at h2
 iterate 7 refine aS ?_
 try refine oWr ?_
 refine aS ?_
 refine o_p (p_cap rfl rfl Tryz.underlying77) rfl ?_
 iterate 2 refine aS ?_
 refine s_cond rfl (fun h3 => ?_) fun h3 => ?_
 ·try simp only [decide_eq_true_eq] at h3
  iterate 4 refine aS ?_
  refine o_p (p_slice _ _ 0 i rfl rfl sl_77 rfl ⟨_, _, rfl, rfl⟩ (by omega) (by omega)) rfl ?_
  refine o_slot (show _ = Value.slice (some ⟨gg, 0, none⟩) (i) (cap) from by rw [subA_zero] <;> (congr 1 <;> omega)) ?_
  iterate 3 refine aS ?_
  try refine oWr ?_
  iterate 2 refine aS ?_
  try refine oWr ?_
  refine o_slot (show _ = Value.int .i64 ((n + m - i : Nat) : Int) from by first | rfl | (congr 1 <;> first | rfl | omega)) ?_
  refine o_h (h_append_zeros (m := n + m - i) (olds := cut xs 0 (i * 2)) rfl rfl rfl sl_77 ki_3 zr_26 rfl (by decide) (by omega) (by omega) (src_cut 0 (i * 2) (fun _ => rfl) aPk) hcl (by omega) (by simp only [maxLen]; omega)) rfl (fun ⟨b4, c5⟩ ⟨h6, k7⟩ => ?_)
  refine o_slot (show _ = Value.slice (some ⟨b4, 0, none⟩) (n + m) c5 from by first | rfl | (congr 1 <;> first | rfl | omega)) ?_
  iterate 3 refine aS ?_
  refine s_weaken (L' := [(0, _), (1, _), (2, _), (6, _), (7, _), (8, _), (9, _)]) aSx (fun _ h => h) ?_
  iterate 3 refine aS ?_
  refine o_p (p_slice _ _ i (n + m) rfl rfl sl_77 ⟨_, _, rfl, rfl⟩ rfl (by omega) (by omega)) rfl ?_
  refine o_slot (show _ = Value.slice (some ⟨b4, i * 2, none⟩) (n + m - i) (c5 - i) from by rw [subA_lt (by omega)] <;> (congr 1 <;> omega)) ?_
  refine aS ?_
  refine o_h (h_copy m news rfl rfl rfl sl_77 aPt (by omega) hl (fun _ => rfl) (by simp only [zrow_length, List.length_append, setMany_length]; omega) (src_blk aPk) hn1) rfl (fun _ _ => ?_)
  iterate 2 refine aS ?_
  refine s_draw [8] mixed ?_
  refine dP 0 ?_
  refine dP 1 ?_
  refine dP 2 ?_
  refine dP 3 ?_
  try refine dWr ?_
  refine d_p 4 rfl (p_slice _ _ (i + m) (n + m) rfl rfl sl_77 ⟨_, _, rfl, (by omega)⟩ rfl (by omega) (by omega)) (by kernel_rfl) rfl rfl ?_
  refine d_slot (show _ = Value.slice (some ⟨b4, (i + m) * 2, none⟩) (n - i) (c5 - (i + m)) from by rw [subA_lt (by omega)] <;> (congr 1 <;> omega)) ?_
  refine dP 5 ?_
  refine dP 6 ?_
  refine d_p 7 rfl (p_slice _ _ i n rfl rfl sl_77 ⟨_, _, rfl, rfl⟩ rfl (by omega) (by omega)) (by kernel_rfl) rfl rfl ?_
  refine d_slot (show _ = Value.slice (some ⟨gg, i * 2, none⟩) (n - i) (cap - i) from by rw [subA_lt (by omega)] <;> (congr 1 <;> omega)) ?_
  refine d_h 8 rfl (h_copy (n - i) (cut xs (i * 2) ((n - i) * 2)) rfl rfl rfl sl_77 aPt (by omega) (cut_length _ _ _ (by omega)) (fun _ => rfl) (by rw [cut_length _ _ _ (by omega)]; simp only [zrow_length, List.length_append, setMany_length]; omega) (src_cut (i * 2) ((n - i) * 2) (fun _ => rfl) aPk) (cut_one hx1 _ _)) (by kernel_rfl) (fun w h => h.ent aEt) rfl (fun _ _ => ?_)
  refine dTu [] ?_
  refine dNi ?_
  iterate 5 refine aS ?_
  exact s_retv (rs := [.tmp 6]) rfl (.tmp rfl (.nil)) (fun w' h' => ⟨(some ⟨b4, 0, none⟩, c5), rfl, trivial, (HS.to_own (n := n + m) (xs := xs.take (i * 2) ++ news ++ xs.drop (i * 2)) (ds := []) aPk h' (by have hq := ins_grow (xs := xs) (news := news) (z := zrow [.string (bs []), .string (bs [])] ((n + m - i) * 2)) (p := i * 2) (q := m * 2) (N := n * 2) hxl (by omega) hl (by rw [zrow_length]; omega); rw [List.append_nil]; rw [show (i + m) * 2 = i * 2 + m * 2 from by omega, show (n - i) * 2 = n * 2 - i * 2 from by omega]; exact hq) (by simp only [List.length_append, List.length_take, List.length_drop]; omega) (by omega) (by omega)).ent aEt⟩)
 try simp only [decide_eq_false_iff_not] at h3
 iterate 7 refine aS ?_
 try refine oWr ?_
 refine o_p (p_slice _ _ 0 (n + m) rfl rfl sl_77 rfl ⟨_, _, rfl, (by omega)⟩ (by omega) (by omega)) rfl ?_
 refine o_slot (show _ = Value.slice (some ⟨gg, 0, none⟩) (n + m) cap from by rw [subA_zero] <;> (congr 1 <;> omega)) ?_
 refine o_ex (fun w h => HS.blk_full (b := gg) aPk h) fun ds => ?_
 refine o_fact (fun w h => h.1) fun hds => ?_
 refine o_class (fun w h => h.2) ?_
 iterate 10 refine aS ?_
 try refine oWr ?_
 refine o_p (p_slice _ _ (i + m) (n + m) rfl rfl sl_77 ⟨_, _, rfl, (by omega)⟩ rfl (by omega) (by omega)) rfl ?_
 refine o_slot (show _ = Value.slice (some ⟨gg, (i + m) * 2, none⟩) (n - i) (cap - (i + m)) from by rw [subA_lt (by omega)] <;> (congr 1 <;> omega)) ?_
 refine o_q (q_overlaps rfl ov_132 rfl rfl sl_77 (hp := aPk) (hp' := aPk) (by decide) (by omega) (by omega)) rfl ?_
 iterate 2 refine aS ?_
 refine s_cond rfl (fun h8 => ?_) fun h8 => ?_
 ·try simp only [Bool.not_false] at h8
  refine aS ?_
  refine s_weaken (L' := [(0, _), (1, _), (2, _), (6, _), (7, _), (8, _)]) aSx (fun _ h => h) ?_
  refine s_draw [8] mixed ?_
  refine dP 0 ?_
  refine dP 1 ?_
  refine dP 2 ?_
  refine dP 3 ?_
  try refine dWr ?_
  refine d_p 4 rfl (p_slice _ _ (i + m) (n + m) rfl rfl sl_77 ⟨_, _, rfl, (by omega)⟩ rfl (by omega) (by omega)) (by kernel_rfl) rfl rfl ?_
  refine d_slot (show _ = Value.slice (some ⟨gg, (i + m) * 2, none⟩) (n - i) (cap - (i + m)) from by rw [subA_lt (by omega)] <;> (congr 1 <;> omega)) ?_
  refine dP 5 ?_
  refine dP 6 ?_
  refine d_p 7 rfl (p_slice _ _ i (n + m) rfl rfl sl_77 ⟨_, _, rfl, rfl⟩ rfl (by omega) (by omega)) (by kernel_rfl) rfl rfl ?_
  refine d_slot (show _ = Value.slice (some ⟨gg, i * 2, none⟩) (n + m - i) (cap - i) from by rw [subA_lt (by omega)] <;> (congr 1 <;> omega)) ?_
  refine d_h 8 rfl (h_copy (n - i) (cut (xs ++ ds) (i * 2) ((n - i) * 2)) rfl rfl rfl sl_77 aPt (by omega) (cut_length _ _ _ (by simp only [zrow_length, List.length_append, setMany_length]; omega)) (fun _ => rfl) (by rw [cut_length _ _ _ (by simp only [zrow_length, List.length_append, setMany_length]; omega)]; simp only [zrow_length, List.length_append, setMany_length]; omega) (src_cut (i * 2) ((n - i) * 2) (fun _ => rfl) aPk) (ins_one hx1 (by omega))) (by kernel_rfl) (fun w h => h.ent aEt) rfl (fun _ _ => ?_)
  refine dTu [] ?_
  refine dNi ?_
  iterate 4 refine aS ?_
  refine o_p (p_slice _ _ i (n + m) rfl rfl sl_77 ⟨_, _, rfl, rfl⟩ rfl (by omega) (by omega)) rfl ?_
  refine o_slot (show _ = Value.slice (some ⟨gg, i * 2, none⟩) (n + m - i) (cap - i) from by rw [subA_lt (by omega)] <;> (congr 1 <;> omega)) ?_
  refine aS ?_
  refine o_h (h_copy m news rfl rfl rfl sl_77 aPt (by omega) hl (fun _ => rfl) (by simp only [zrow_length, List.length_append, setMany_length]; omega) (src_blk aPk) hn1) rfl (fun _ _ => ?_)
  iterate 6 refine aS ?_
  exact s_retv (rs := [.tmp 6]) rfl (.tmp rfl (.nil)) (fun w' h' => ⟨(some ⟨gg, 0, none⟩, cap), rfl, trivial, (HS.to_own (n := n + m) (xs := xs.take (i * 2) ++ news ++ xs.drop (i * 2)) (ds := ds.drop (m * 2)) aPk h' (by have hq := ins_in (xs := xs) (ds := ds) (news := news) (p := i * 2) (q := m * 2) (N := n * 2) hxl (by omega) hl (by omega); rw [show (i + m) * 2 = i * 2 + m * 2 from by omega, show (n - i) * 2 = n * 2 - i * 2 from by omega]; exact hq) (by simp only [List.length_append, List.length_take, List.length_drop]; omega) (by omega) (by omega)).ent aEt⟩)
 try simp only [Bool.not_false] at h8
 exfalso; first | omega | (simp at h8; done) | (simp_all; done)
theorem c96 (w : World) (a : Option Addr) (i n m cap : Nat) (xs news : List Value) (b0 c0 tot2 : Nat) (hw : HS w (fps [.own (.slice a n cap) 26 2 n xs, .blk b0 26 tot2 news]) [.own (.slice a n cap) 26 2 n xs, .blk b0 26 tot2 news] w) (hm0 : 0 < m) (hl : news.length = m * 2) (hn1 : ∀ u ∈ news, u.oneCell' = true) (hx1 : ∀ u ∈ xs, u.oneCell' = true) (hmax : (n + m) * 32 ≤ 140737488355328) (hi : i ≤ n) : Calls Tryz.prog 96 #[.slice a n cap, .int .i64 i, .slice (some ⟨b0, 0, none⟩) m c0] w fun en w' => ∃ g : Option Addr × Nat, en = .returned (.slice g.1 (n + m) g.2) ∧ True ∧ HS w (fps [.own (.slice a n cap) 26 2 n xs, .blk b0 26 tot2 news]) [.own (.slice g.1 (n + m) g.2) 26 2 (n + m) (xs.take (i * 2) ++ news ++ xs.drop (i * 2)), .blk b0 26 tot2 news] w' := by
  rcases Nat.lt_or_ge i n with h | h
  · obtain ⟨gg, rfl, _, hnc, hcm, hxl, hb⟩ := hw.own_blk (by omega) .here
    exact c96b w gg i n m cap xs news b0 c0 tot2 _ hb hnc hcm hxl hm0 hl hn1 hx1 hmax h
  · exact c96a w a i n m cap xs news b0 c0 tot2 hw hm0 hl hn1 hx1 hmax (by omega)
theorem c151a (w : World) (a : Option Addr) (i n m cap : Nat) (xs news : List Value) (b0 c0 tot2 : Nat) (hw : HS w (fps [.own (.slice a n cap) 3 1 n xs, .blk b0 3 tot2 news]) [.own (.slice a n cap) 3 1 n xs, .blk b0 3 tot2 news] w) (hm0 : 0 < m) (hl : news.length = m * 1) (hn1 : ∀ u ∈ news, u.oneCell' = true) (hx1 : ∀ u ∈ xs, u.oneCell' = true) (hmax : (n + m) * 8 ≤ 140737488355328) (hi : i = n) : Calls Tryz.prog 151 #[.slice a n cap, .int .i64 i, .slice (some ⟨b0, 0, none⟩) m c0] w fun en w' => ∃ g : Option Addr × Nat, en = .returned (.slice g.1 (n + m) g.2) ∧ True ∧ HS w (fps [.own (.slice a n cap) 3 1 n xs, .blk b0 3 tot2 news]) [.own (.slice g.1 (n + m) g.2) 3 1 (n + m) (xs.take (i * 1) ++ news ++ xs.drop (i * 1)), .blk b0 3 tot2 news] w' := by
 obtain ⟨_, hnc, hcm, hxl⟩ := hw.own_facts .here
 refine enter (args := [_, _, _]) Tryz.func151 Tryz.ntmps151 rfl rfl hw ?_
 iterate 8 refine aS ?_
 refine o_p (p_slice _ _ i n rfl rfl sl_30 ⟨_, _, rfl, rfl⟩ rfl (by omega) (by omega)) rfl ?_
 iterate 13 refine aS ?_
 refine s_cond rfl (fun h1 => ?_) fun h1 => ?_
 ·try simp only [decide_eq_true_eq] at h1
  exfalso; first | omega | (simp at h1; done) | (simp_all; done)
 try simp only [decide_eq_false_iff_not] at h1
 iterate 14 refine aS ?_
 refine s_cond rfl (fun h2 => ?_) fun h2 => ?_
 ·try simp only [decide_eq_true_eq] at h2
  iterate 4 refine aS ?_
  refine o_h (h_appendS news rfl rfl rfl sl_30 Tryz.underlying30 zr_3 rfl aPk (src_blk aPk) hl hn1 (by omega) (by simp only [maxLen]; omega)) rfl (fun b3 _ => ?_)
  iterate 2 refine aS ?_
  exact s_retv (rs := [.tmp 6]) rfl (.tmp rfl (.nil)) (fun w' h' => ⟨(_, _), rfl, trivial, by subst hi; rw [List.take_of_length_le (by omega), List.drop_eq_nil_of_le (by omega), List.append_nil]; exact h'.ent aEt⟩)
 try simp only [decide_eq_false_iff_not] at h2
 exfalso; first | omega | (simp at h2; done) | (simp_all; done)
theorem c151b (w : World) (gg i n m cap : Nat) (xs news : List Value) (b0 c0 tot2 : Nat) (M : List Nat) (hw : HS w M [.blk gg 3 (cap * 1) xs, .blk b0 3 tot2 news] w) (hnc : n ≤ cap) (hcm : cap ≤ maxLen) (hxl : xs.length = n * 1) (hm0 : 0 < m) (hl : news.length = m * 1) (hn1 : ∀ u ∈ news, u.oneCell' = true) (hx1 : ∀ u ∈ xs, u.oneCell' = true) (hmax : (n + m) * 8 ≤ 140737488355328) (hi : i < n) : Calls Tryz.prog 151 #[.slice (some ⟨gg, 0, none⟩) n cap, .int .i64 i, .slice (some ⟨b0, 0, none⟩) m c0] w fun en w' => ∃ g : Option Addr × Nat, en = .returned (.slice g.1 (n + m) g.2) ∧ True ∧ HS w M [.own (.slice g.1 (n + m) g.2) 3 1 (n + m) (xs.take (i * 1) ++ news ++ xs.drop (i * 1)), .blk b0 3 tot2 news] w' := by
 have ht2 := (hw.blk_get (.there .here)).len_le
 have hcl : (cut xs 0 (i * 1)).length = i * 1 := cut_length _ _ _ (by omega)
 refine enter (args := [_, _, _]) Tryz.func151 Tryz.ntmps151 rfl rfl hw ?_
 iterate 8 refine aS ?_
 refine o_p (p_slice _ _ i n rfl rfl sl_30 ⟨_, _, rfl, rfl⟩ rfl (by omega) (by omega)) rfl ?_
 iterate 13 refine aS ?_
 refine s_cond rfl (fun h1 => ?_) fun h1 => ?_
 ·try simp only [decide_eq_true_eq] at h1
  exfalso; first | omega | (simp at h1; done) | (simp_all; done)
 try simp only [decide_eq_false_iff_not] at h1
 iterate 14 refine aS ?_
 refine s_cond rfl (fun h2 => ?_) fun h2 => ?_
 ·try simp only [decide_eq_true_eq] at h2
  exfalso; first | omega | (simp at h2; done) | (simp_all; done)
 try simp only [decide_eq_false_iff_not] at h2
 iterate 7 refine aS ?_
 try refine oWr ?_
 refine aS ?_
 refine o_p (p_cap rfl rfl Tryz.underlying30) rfl ?_
 iterate 2 refine aS ?_
 refine s_cond rfl (fun h3 => ?_) fun h3 => ?_
 ·try simp only [decide_eq_true_eq] at h3
  iterate 4 refine aS ?_
  refine o_p (p_slice _ _ 0 i rfl rfl sl_30 rfl ⟨_, _, rfl, rfl⟩ (by omega) (by omega)) rfl ?_
  refine o_slot (show _ = Value.slice (some ⟨gg, 0, none⟩) (i) (cap) from by rw [subA_zero] <;> (congr 1 <;> omega)) ?_
  iterate 3 refine aS ?_
  try refine oWr ?_
  iterate 2 refine aS ?_
  try refine oWr ?_
  refine o_slot (show _ = Value.int .i64 ((n + m - i : Nat) : Int) from by first | rfl | (congr 1 <;> first | rfl | omega)) ?_
  refine o_h (h_append_zeros (m := n + m - i) (olds := cut xs 0 (i * 1)) rfl rfl rfl sl_30 ki_3 zr_3 rfl (by decide) (by omega) (by omega) (src_cut 0 (i * 1) (fun _ => rfl) aPk) hcl (by omega) (by simp only [maxLen]; omega)) rfl (fun ⟨b4, c5⟩ ⟨h6, k7⟩ => ?_)
  refine o_slot (show _ = Value.slice (some ⟨b4, 0, none⟩) (n + m) c5 from by first | rfl | (congr 1 <;> first | rfl | omega)) ?_
  iterate 3 refine aS ?_
  refine s_weaken (L' := [(0, _), (1, _), (2, _), (6, _), (7, _), (8, _), (9, _)]) aSx (fun _ h => h) ?_
  iterate 3 refine aS ?_
  refine o_p (p_slice _ _ i (n + m) rfl rfl sl_30 ⟨_, _, rfl, rfl⟩ rfl (by omega) (by omega)) rfl ?_
  refine o_slot (show _ = Value.slice (some ⟨b4, i * 1, none⟩) (n + m - i) (c5 - i) from by rw [subA_lt (by omega)] <;> (congr 1 <;> omega)) ?_
  refine aS ?_
  refine o_h (h_copy m news rfl rfl rfl sl_30 aPt (by omega) hl (fun _ => rfl) (by simp only [zrow_length, List.length_append, setMany_length]; omega) (src_blk aPk) hn1) rfl (fun _ _ => ?_)
  iterate 2 refine aS ?_
  refine s_draw [8] mixed ?_
  refine dP 0 ?_
  refine dP 1 ?_
  refine dP 2 ?_
  refine dP 3 ?_
  try refine dWr ?_
  refine d_p 4 rfl (p_slice _ _ (i + m) (n + m) rfl rfl sl_30 ⟨_, _, rfl, (by omega)⟩ rfl (by omega) (by omega)) (by kernel_rfl) rfl rfl ?_
  refine d_slot (show _ = Value.slice (some ⟨b4, (i + m) * 1, none⟩) (n - i) (c5 - (i + m)) from by rw [subA_lt (by omega)] <;> (congr 1 <;> omega)) ?_
  refine dP 5 ?_
  refine dP 6 ?_
  refine d_p 7 rfl (p_slice _ _ i n rfl rfl sl_30 ⟨_, _, rfl, rfl⟩ rfl (by omega) (by omega)) (by kernel_rfl) rfl rfl ?_
  refine d_slot (show _ = Value.slice (some ⟨gg, i * 1, none⟩) (n - i) (cap - i) from by rw [subA_lt (by omega)] <;> (congr 1 <;> omega)) ?_
  refine d_h 8 rfl (h_copy (n - i) (cut xs (i * 1) ((n - i) * 1)) rfl rfl rfl sl_30 aPt (by omega) (cut_length _ _ _ (by omega)) (fun _ => rfl) (by rw [cut_length _ _ _ (by omega)]; simp only [zrow_length, List.length_append, setMany_length]; omega) (src_cut (i * 1) ((n - i) * 1) (fun _ => rfl) aPk) (cut_one hx1 _ _)) (by kernel_rfl) (fun w h => h.ent aEt) rfl (fun _ _ => ?_)
  refine dTu [] ?_
  refine dNi ?_
  iterate 5 refine aS ?_
  exact s_retv (rs := [.tmp 6]) rfl (.tmp rfl (.nil)) (fun w' h' => ⟨(some ⟨b4, 0, none⟩, c5), rfl, trivial, (HS.to_own (n := n + m) (xs := xs.take (i * 1) ++ news ++ xs.drop (i * 1)) (ds := []) aPk h' (by have hq := ins_grow (xs := xs) (news := news) (z := zrow [.int .i64 0] ((n + m - i) * 1)) (p := i * 1) (q := m * 1) (N := n * 1) hxl (by omega) hl (by rw [zrow_length]; omega); rw [List.append_nil]; rw [show (i + m) * 1 = i * 1 + m * 1 from by omega, show (n - i) * 1 = n * 1 - i * 1 from by omega]; exact hq) (by simp only [List.length_append, List.length_take, List.length_drop]; omega) (by omega) (by omega)).ent aEt⟩)
 try simp only [decide_eq_false_iff_not] at h3
 iterate 7 refine aS ?_
 try refine oWr ?_
 refine o_p (p_slice _ _ 0 (n + m) rfl rfl sl_30 rfl ⟨_, _, rfl, (by omega)⟩ (by omega) (by omega)) rfl ?_
 refine o_slot (show _ = Value.slice (some ⟨gg, 0, none⟩) (n + m) cap from by rw [subA_zero] <;> (congr 1 <;> omega)) ?_
 refine o_ex (fun w h => HS.blk_full (b := gg) aPk h) fun ds => ?_
 refine o_fact (fun w h => h.1) fun hds => ?_
 refine o_class (fun w h => h.2) ?_
 iterate 10 refine aS ?_
 try refine oWr ?_
 refine o_p (p_slice _ _ (i + m) (n + m) rfl rfl sl_30 ⟨_, _, rfl, (by omega)⟩ rfl (by omega) (by omega)) rfl ?_
 refine o_slot (show _ = Value.slice (some ⟨gg, (i + m) * 1, none⟩) (n - i) (cap - (i + m)) from by rw [subA_lt (by omega)] <;> (congr 1 <;> omega)) ?_
 refine o_q (q_overlaps rfl ov_161 rfl rfl sl_30 (hp := aPk) (hp' := aPk) (by decide) (by omega) (by omega)) rfl ?_
 iterate 2 refine aS ?_
 refine s_cond rfl (fun h8 => ?_) fun h8 => ?_
 ·try simp only [Bool.not_false] at h8
  refine aS ?_
  refine s_weaken (L' := [(0, _), (1, _), (2, _), (6, _), (7, _), (8, _)]) aSx (fun _ h => h) ?_
  refine s_draw [8] mixed ?_
  refine dP 0 ?_
  refine dP 1 ?_
  refine dP 2 ?_
  refine dP 3 ?_
  try refine dWr ?_
  refine d_p 4 rfl (p_slice _ _ (i + m) (n + m) rfl rfl sl_30 ⟨_, _, rfl, (by omega)⟩ rfl (by omega) (by omega)) (by kernel_rfl) rfl rfl ?_
  refine d_slot (show _ = Value.slice (some ⟨gg, (i + m) * 1, none⟩) (n - i) (cap - (i + m)) from by rw [subA_lt (by omega)] <;> (congr 1 <;> omega)) ?_
  refine dP 5 ?_
  refine dP 6 ?_
  refine d_p 7 rfl (p_slice _ _ i (n + m) rfl rfl sl_30 ⟨_, _, rfl, rfl⟩ rfl (by omega) (by omega)) (by kernel_rfl) rfl rfl ?_
  refine d_slot (show _ = Value.slice (some ⟨gg, i * 1, none⟩) (n + m - i) (cap - i) from by rw [subA_lt (by omega)] <;> (congr 1 <;> omega)) ?_
  refine d_h 8 rfl (h_copy (n - i) (cut (xs ++ ds) (i * 1) ((n - i) * 1)) rfl rfl rfl sl_30 aPt (by omega) (cut_length _ _ _ (by simp only [zrow_length, List.length_append, setMany_length]; omega)) (fun _ => rfl) (by rw [cut_length _ _ _ (by simp only [zrow_length, List.length_append, setMany_length]; omega)]; simp only [zrow_length, List.length_append, setMany_length]; omega) (src_cut (i * 1) ((n - i) * 1) (fun _ => rfl) aPk) (ins_one hx1 (by omega))) (by kernel_rfl) (fun w h => h.ent aEt) rfl (fun _ _ => ?_)
  refine dTu [] ?_
  refine dNi ?_
  iterate 4 refine aS ?_
  refine o_p (p_slice _ _ i (n + m) rfl rfl sl_30 ⟨_, _, rfl, rfl⟩ rfl (by omega) (by omega)) rfl ?_
  refine o_slot (show _ = Value.slice (some ⟨gg, i * 1, none⟩) (n + m - i) (cap - i) from by rw [subA_lt (by omega)] <;> (congr 1 <;> omega)) ?_
  refine aS ?_
  refine o_h (h_copy m news rfl rfl rfl sl_30 aPt (by omega) hl (fun _ => rfl) (by simp only [zrow_length, List.length_append, setMany_length]; omega) (src_blk aPk) hn1) rfl (fun _ _ => ?_)
  iterate 6 refine aS ?_
  exact s_retv (rs := [.tmp 6]) rfl (.tmp rfl (.nil)) (fun w' h' => ⟨(some ⟨gg, 0, none⟩, cap), rfl, trivial, (HS.to_own (n := n + m) (xs := xs.take (i * 1) ++ news ++ xs.drop (i * 1)) (ds := ds.drop (m * 1)) aPk h' (by have hq := ins_in (xs := xs) (ds := ds) (news := news) (p := i * 1) (q := m * 1) (N := n * 1) hxl (by omega) hl (by omega); rw [show (i + m) * 1 = i * 1 + m * 1 from by omega, show (n - i) * 1 = n * 1 - i * 1 from by omega]; exact hq) (by simp only [List.length_append, List.length_take, List.length_drop]; omega) (by omega) (by omega)).ent aEt⟩)
 try simp only [Bool.not_false] at h8
 exfalso; first | omega | (simp at h8; done) | (simp_all; done)
theorem c151 (w : World) (a : Option Addr) (i n m cap : Nat) (xs news : List Value) (b0 c0 tot2 : Nat) (hw : HS w (fps [.own (.slice a n cap) 3 1 n xs, .blk b0 3 tot2 news]) [.own (.slice a n cap) 3 1 n xs, .blk b0 3 tot2 news] w) (hm0 : 0 < m) (hl : news.length = m * 1) (hn1 : ∀ u ∈ news, u.oneCell' = true) (hx1 : ∀ u ∈ xs, u.oneCell' = true) (hmax : (n + m) * 8 ≤ 140737488355328) (hi : i ≤ n) : Calls Tryz.prog 151 #[.slice a n cap, .int .i64 i, .slice (some ⟨b0, 0, none⟩) m c0] w fun en w' => ∃ g : Option Addr × Nat, en = .returned (.slice g.1 (n + m) g.2) ∧ True ∧ HS w (fps [.own (.slice a n cap) 3 1 n xs, .blk b0 3 tot2 news]) [.own (.slice g.1 (n + m) g.2) 3 1 (n + m) (xs.take (i * 1) ++ news ++ xs.drop (i * 1)), .blk b0 3 tot2 news] w' := by
  rcases Nat.lt_or_ge i n with h | h
  · obtain ⟨gg, rfl, _, hnc, hcm, hxl, hb⟩ := hw.own_blk (by omega) .here
    exact c151b w gg i n m cap xs news b0 c0 tot2 _ hb hnc hcm hxl hm0 hl hn1 hx1 hmax h
  · exact c151a w a i n m cap xs news b0 c0 tot2 hw hm0 hl hn1 hx1 hmax (by omega)
theorem fn_150 : isFn Tryz.prog 150 = true := by kernel_rfl
theorem fn_141 : isFn Tryz.prog 141 = true := by kernel_rfl
theorem fn_96 : isFn Tryz.prog 96 = true := by kernel_rfl
theorem fn_151 : isFn Tryz.prog 151 = true := by kernel_rfl
theorem c96e (w : World) (a : Option Addr) (i cap : Nat) (l : List TEnt) (x : TEnt) (b0 c0 tot2 : Nat) (hw : HS w (fps [.own (.slice a l.length cap) 26 2 l.length (l.flatMap TEnt.vals), .blk b0 26 tot2 (TEnt.vals x)]) [.own (.slice a l.length cap) 26 2 l.length (l.flatMap TEnt.vals), .blk b0 26 tot2 (TEnt.vals x)] w) (hmax : l.length ≤ 100000) (hi : i ≤ l.length) : Calls Tryz.prog 96 #[.slice a l.length cap, .int .i64 (i : Int), .slice (some ⟨b0, 0, none⟩) 1 c0] w fun en w' => ∃ g : Option Addr × Nat, en = .returned (.slice g.1 (insAt l i x).length g.2) ∧ True ∧ HS w (fps [.own (.slice a l.length cap) 26 2 l.length (l.flatMap TEnt.vals), .blk b0 26 tot2 (TEnt.vals x)]) [.own (.slice g.1 (insAt l i x).length g.2) 26 2 (insAt l i x).length ((insAt l i x).flatMap TEnt.vals), .blk b0 26 tot2 (TEnt.vals x)] w' := by
  have h := c96 w a i l.length 1 cap (l.flatMap TEnt.vals) (TEnt.vals x) b0 c0 tot2 hw (by decide) (ev2 x) (fun u hu => ev1 x u hu) (flat_one ev1 l) (by omega) hi
  rw [ins_flat ev2] at h
  rw [ins_len hi]
  exact h
theorem c151e (w : World) (a : Option Addr) (i cap : Nat) (l : List Int) (x : Int) (b0 c0 tot2 : Nat) (hw : HS w (fps [.own (.slice a l.length cap) 3 1 l.length (l.flatMap inV), .blk b0 3 tot2 (inV x)]) [.own (.slice a l.length cap) 3 1 l.length (l.flatMap inV), .blk b0 3 tot2 (inV x)] w) (hmax : l.length ≤ 100000) (hi : i ≤ l.length) : Calls Tryz.prog 151 #[.slice a l.length cap, .int .i64 (i : Int), .slice (some ⟨b0, 0, none⟩) 1 c0] w fun en w' => ∃ g : Option Addr × Nat, en = .returned (.slice g.1 (insAt l i x).length g.2) ∧ True ∧ HS w (fps [.own (.slice a l.length cap) 3 1 l.length (l.flatMap inV), .blk b0 3 tot2 (inV x)]) [.own (.slice g.1 (insAt l i x).length g.2) 3 1 (insAt l i x).length ((insAt l i x).flatMap inV), .blk b0 3 tot2 (inV x)] w' := by
  have h := c151 w a i l.length 1 cap (l.flatMap inV) (inV x) b0 c0 tot2 hw (by decide) (iv1 x) (fun u hu => iv1c x u hu) (flat_one iv1c l) (by omega) hi
  rw [ins_flat iv1] at h
  rw [ins_len hi]
  exact h
set_option maxHeartbeats 4000000 in
theorem c134 (w : World) (bt : Nat) (j : Nat) (mo rm : Int) (gn cap : Nat) (L : List LNd) (i : Nat) (hw : HS w (fps [.blk bt 112 6 (tbV (j : Int) mo rm (some ⟨gn, 0, none⟩) (L).length cap), .blk gn 102 (cap * 3) ((L).flatMap LNd.vals), .star ((L).map (subN 26))]) [.blk bt 112 6 (tbV (j : Int) mo rm (some ⟨gn, 0, none⟩) (L).length cap), .blk gn 102 (cap * 3) ((L).flatMap LNd.vals), .star ((L).map (subN 26))] w) (hnc : L.length ≤ cap) (hcm : cap ≤ maxLen) (hok : SpOk mo (pln L) i) : Calls Tryz.prog 134 #[.pointer (some ⟨bt, 0, none⟩), .int .i64 (i : Int)] w fun en w' => ∃ g : (Nat × Nat) × List LNd, en = .returned (.tuple #[]) ∧ (pln g.2 = splN mo (pln L) i ∧ g.2.length ≤ g.1.2 ∧ g.1.2 ≤ maxLen) ∧ HS w (fps [.blk bt 112 6 (tbV (j : Int) mo rm (some ⟨gn, 0, none⟩) (L).length cap), .blk gn 102 (cap * 3) ((L).flatMap LNd.vals), .star ((L).map (subN 26))]) [.blk bt 112 6 (tbV (j : Int) mo rm (some ⟨g.1.1, 0, none⟩) (g.2).length g.1.2), .blk g.1.1 102 (g.1.2 * 3) ((g.2).flatMap LNd.vals), .star ((g.2).map (subN 26))] w' := by
 have hlt0 := hok.lt
 have hln0 := hok.len
 rw [pln_len] at hlt0 hln0
 have hmo := hok.mo0
 have hes0 := hok.es
 have hcs0 := hok.cs
 have hne := freN_ne hok.lt hok.us
 have hfn := freN_nth hok.lt hok.us
 have hfl := freN_lt (pln L)
 have hfl2 := freN_len (pln L)
 rw [pln_len] at hfl2
 have hpar := hok.par
 have hparE := hok.parE
 have hparC := hok.parC
 rw [splA_len] at hpar
 have hsA := hok.sm.splA mo i
 have hsF := hok.sm.fre
 refine enter (args := [_, _]) Tryz.func134 Tryz.ntmps134 rfl rfl hw ?_
 iterate 3 refine aS ?_
 refine o_h (h_callF (Cs := [.blk bt 112 6 (tbV (j : Int) mo rm (some ⟨gn, 0, none⟩) (L).length cap), .blk gn 102 (cap * 3) ((L).flatMap LNd.vals), .star ((L).map (subN 26))]) rfl fn_150 rfl aPs (fun w1 h1 hf => c150 w1 bt j mo rm gn cap L hf hnc hcm (by omega) (by omega))) rfl (fun ⟨⟨gn1, cap1⟩, L1⟩ hF1 => ?_)
 dsimp only
 obtain ⟨hL1, hn1, hm1⟩ := hF1
 simp only [] at hL1 hn1 hm1
 have hl1 : L1.length = (freN (pln L)).2.length := by rw [← hL1, pln_len]
 have hi1 : i < L1.length := by omega
 have ho1 : (freN (pln L)).1 < L1.length := by omega
 have hN1 : (nth L1 i).pl = nth (pln L) i := by rw [← pln_nth hi1, hL1, hfn]
 have hE1 : (nth L1 i).es = (nth (pln L) i).es := congrArg Nd.es hN1
 have hC1 : (nth L1 i).cs = (nth (pln L) i).cs := congrArg Nd.cs hN1
 have hN1e : (nth (freN (pln L)).2 i).es = (nth L1 i).es := by rw [← hL1, pln_nth hi1]; rfl
 have hN1c : (nth (freN (pln L)).2 i).cs = (nth L1 i).cs := by rw [← hL1, pln_nth hi1]; rfl
 have hsm1 : (splM mo) < (nth L1 i).es.length := by rw [hE1]; exact hes0
 have hsE1 := (hok.sm i).1
 rw [← hE1] at hsE1
 have hsC1 := (hok.sm i).2
 rw [← hC1] at hsC1
 rw [← hC1] at hcs0
 iterate 10 refine aS ?_
 refine o_p (p_indexAddr rfl rfl rfl sl_22 (i) (by omega) (by omega) rfl) rfl ?_
 refine o_slot (show _ = Value.pointer (some ⟨gn1, i * 3, none⟩) from by rw [Nat.zero_add]) ?_
 iterate 10 refine aS ?_
 try refine oWr ?_
 refine o_p (p_quo_nn rfl rfl rfl (by omega) (by omega) (by omega)) rfl ?_
 refine o_slot (show _ = Value.int .i64 ((splM mo) : Int) from by unfold splM; congr 1; omega) ?_
 iterate 7 refine aS ?_
 refine o_q (q_load_at rfl rfl sz_77 (fun w h => HS.nd_cell hi1 h aPk 1 rfl (by decide))) rfl ?_
 refine o_fact (fun w h => HS.es_some hi1 (by omega) h aPk) fun hge => ?_
 obtain ⟨ge, hge⟩ := hge
 refine o_fact (fun w h => HS.es_room hi1 h aPk) fun hrE => ?_
 refine aS ?_
 refine o_p (p_indexAddr rfl rfl rfl sl_77 _ rfl (by omega) hge) rfl ?_
 refine o_q (q_load_atn _ rfl rfl sz_26 rfl (fun w h => HS.es_rd hi1 hsm1 hge h aPk)) rfl ?_
 refine oAl (fun b1 _ => ?_) zr_26
 refine oSt ?_
 iterate 2 refine aS ?_
 refine s_draw [16] mixed ?_
 refine dP 0 ?_
 refine dP 1 ?_
 refine dFa 2 ?_
 refine dFa 3 ?_
 refine dLd 4 [[]] ?_
 refine dP 5 ?_
 refine dP 6 ?_
 refine dP 7 ?_
 refine dFa 8 ?_
 refine d_q 9 [[]] rfl (q_load_at rfl rfl sz_77 (fun w h => HS.nd_cell hi1 h aPk 1 rfl (by decide))) (by kernel_rfl) (by kernel_rfl) (by kernel_rfl) rfl ?_
 refine dP 10 ?_
 refine dP 11 ?_
 try refine dWr ?_
 refine d_p 12 rfl (p_slice _ _ ((splM mo) + 1) ((nth L1 i).es.length) rfl rfl sl_77 ⟨_, _, rfl, (by omega)⟩ rfl (by omega) (by omega)) (by kernel_rfl) rfl rfl ?_
 refine d_slot (show _ = Value.slice (subA (nth L1 i).ea (nth L1 i).ec ((splM mo) + 1) 2) ((nth L1 i).es.drop ((splM mo) + 1)).length ((nth L1 i).ec - ((splM mo) + 1)) from by rw [List.length_drop]) ?_
 refine d_h 13 rfl (h_call rfl fn_128 rfl (fun w1 h1 => c128 w1 (subA (nth L1 i).ea (nth L1 i).ec ((splM mo) + 1) 2) ((nth L1 i).ec - ((splM mo) + 1)) ((nth L1 i).es.drop ((splM mo) + 1)) ((HS.es_row hi1 h1 aPk).cut (by omega)) (by rw [List.length_drop]; omega))) (by kernel_rfl) (fun w h => h.ent aEt) rfl (fun ⟨b2, c3⟩ _ => ?_)
 refine dBa ?_
 refine d_p 14 rfl (p_indexAddr rfl rfl rfl sl_22 _ rfl (by omega) rfl) (by kernel_rfl) rfl rfl ?_
 refine d_slot (show _ = Value.pointer (some ⟨gn1, (freN (pln L)).1 * 3, none⟩) from by rw [Nat.zero_add]) ?_
 refine dFa 15 ?_
 refine dSt 16 ?_ (hl := (by rw [flat_length nv3]; show _ + 1 ≤ _; omega))
 refine dTu [] ?_
 refine dNi ?_
 refine aS ?_
 refine s_weaken (L' := [(0, _), (1, _), (4, _), (5, _), (6, _), (7, _)]) aSx (fun _ h => h) ?_
 iterate 2 refine aS ?_
 refine o_ex (fun w h => HS.es_set (gn := gn1) (cap := cap1) (ea := b2) (ec := c3) (es := (nth L1 i).es.drop ((splM mo) + 1)) ho1 h aPk aPk aPk) fun L2 => ?_
 refine o_fact (fun w h => h.1) fun hS2 => ?_
 refine o_class (fun w h => h.2) ?_
 have hi2 : i < L2.length := by rw [hS2.len]; exact hi1
 have hN2 : nth L2 i = nth L1 i := hS2.other hi1 hne
 have hsm2 : (splM mo) < (nth L2 i).es.length := by rw [hN2]; exact hsm1
 iterate 3 refine aS ?_
 refine o_q (q_load_at rfl rfl sz_77 (fun w h => HS.nd_cell hi2 h aPk 1 rfl (by decide))) rfl ?_
 refine o_fact (fun w h => HS.es_room hi2 h aPk) fun hrE2 => ?_
 refine o_fact (fun w h => HS.es_form hi2 h aPk) fun hfE2 => ?_
 iterate 2 refine aS ?_
 refine o_p (p_slice30 (splM mo) (splM mo) rfl rfl rfl rfl sl_77 rfl rfl (by omega) (by omega)) rfl ?_
 refine o_slot (show _ = Value.slice (nth L2 i).ea ((splM mo)) ((splM mo)) from by rw [subA_0 _ _ _ hfE2]) ?_
 iterate 2 refine aS ?_
 refine o_h0 (h_store rfl rfl rfl sz_77 rfl aPt (by rw [flat_length nv3]; show _ + 1 ≤ _; omega) rfl) (fun _ _ => ?_)
 iterate 5 refine aS ?_
 refine o_ex (fun w h => HS.es_setC (gn := gn1) (cap := cap1) (m := (splM mo)) (c := (splM mo)) hi2 (Nat.le_refl _) (by omega) (by omega) (fun h9 _ => h9) h aPk aPk) fun L3 => ?_
 refine o_fact (fun w h => h.1) fun hS3 => ?_
 refine o_class (fun w h => h.2) ?_
 have hi3 : i < L3.length := by rw [hS3.len]; exact hi2
 have ho3 : (freN (pln L)).1 < L3.length := by rw [hS3.len, hS2.len]; exact ho1
 have hC3 : (nth L3 i).cs = (nth L1 i).cs := by rw [hS3.at_, hN2]
 iterate 2 refine aS ?_
 refine o_q (q_load_at rfl rfl sz_30 (fun w h => HS.nd_cell hi3 h aPk 2 rfl (by decide))) rfl ?_
 iterate 3 refine aS ?_
 refine s_weaken (L' := [(0, _), (1, _), (4, _), (5, _), (6, _), (7, _), (65, _)]) aSx (fun _ h => h) ?_
 refine s_cutI (α := List LNd) [66, 67, 68, 69, 70, 71, 72, 73, 74, 75, 76, 77, 78, 79, 80, 81, 82, 83, 84, 85, 86, 87, 88, 89, 90, 91, 92, 93] (fun _ => []) (fun x => HS w (fps [.blk bt 112 6 (tbV (j : Int) mo rm (some ⟨gn, 0, none⟩) (L).length cap), .blk gn 102 (cap * 3) ((L).flatMap LNd.vals), .star ((L).map (subN 26))]) [.blk bt 112 6 (tbV (j : Int) mo rm (some ⟨gn1, 0, none⟩) (x).length cap1), .blk gn1 102 (cap1 * 3) ((x).flatMap LNd.vals), .star ((x).map (subN 26)), .blk b1 26 2 (TEnt.vals (nth (nth L1 i).es ((splM mo))))]) (fun x => pln x = splA mo (pln L) i ∧ x.length = L1.length) ?_ ?_
 ·skip
  refine s_cond rfl (fun h4 => ?_) fun h4 => ?_
  ·try simp only [decide_eq_true_eq] at h4
   have hcs3 : (splM mo) + 1 ≤ (nth L3 i).cs.length := by have hq := h4; rw [hC3] at hq ⊢; omega
   refine s_fact (fun w h => HS.cs_room hi3 h aPk) fun hrC3 => ?_
   have hsC3 : (nth L3 i).cs.length ≤ 900 := by rw [hC3]; exact hsC1
   refine aS ?_
   refine s_draw [16] mixed ?_
   refine dP 0 ?_
   refine dP 1 ?_
   refine dFa 2 ?_
   refine dFa 3 ?_
   refine dLd 4 [[]] ?_
   refine dP 5 ?_
   refine dP 6 ?_
   refine dP 7 ?_
   refine dFa 8 ?_
   refine d_q 9 [[]] rfl (q_load_at rfl rfl sz_30 (fun w h => HS.nd_cell hi3 h aPk 2 rfl (by decide))) (by kernel_rfl) (by kernel_rfl) (by kernel_rfl) rfl ?_
   refine dP 10 ?_
   refine dP 11 ?_
   try refine dWr ?_
   refine d_p 12 rfl (p_slice _ _ ((splM mo) + 1) ((nth L3 i).cs.length) rfl rfl sl_30 ⟨_, _, rfl, (by omega)⟩ rfl (by omega) (by omega)) (by kernel_rfl) rfl rfl ?_
   refine d_slot (show _ = Value.slice (subA (nth L3 i).ca (nth L3 i).cc ((splM mo) + 1) 1) ((nth L3 i).cs.drop ((splM mo) + 1)).length ((nth L3 i).cc - ((splM mo) + 1)) from by rw [List.length_drop]) ?_
   refine d_h 13 rfl (h_call rfl fn_129 rfl (fun w1 h1 => c129 w1 (subA (nth L3 i).ca (nth L3 i).cc ((splM mo) + 1) 1) ((nth L3 i).cc - ((splM mo) + 1)) ((nth L3 i).cs.drop ((splM mo) + 1)) ((HS.cs_row hi3 h1 aPk).cut (by omega)) (by rw [List.length_drop]; omega))) (by kernel_rfl) (fun w h => h.ent aEt) rfl (fun ⟨b5, c6⟩ _ => ?_)
   refine dBa ?_
   refine d_p 14 rfl (p_indexAddr rfl rfl rfl sl_22 _ rfl (by omega) rfl) (by kernel_rfl) rfl rfl ?_
   refine d_slot (show _ = Value.pointer (some ⟨gn1, (freN (pln L)).1 * 3, none⟩) from by rw [Nat.zero_add]) ?_
   refine dFa 15 ?_
   refine dSt 16 ?_ (hl := (by rw [flat_length nv3]; show _ + 1 ≤ _; omega))
   refine dTu [] ?_
   refine dNi ?_
   iterate 2 refine aS ?_
   refine o_ex (fun w h => HS.cs_set (gn := gn1) (cap := cap1) (ca := b5) (cc := c6) (cs := (nth L3 i).cs.drop ((splM mo) + 1)) ho3 h aPk aPk aPk) fun L4 => ?_
   refine o_fact (fun w h => h.1) fun hS4 => ?_
   refine o_class (fun w h => h.2) ?_
   have hi4 : i < L4.length := by rw [hS4.len]; exact hi3
   have hN4 : nth L4 i = nth L3 i := hS4.other hi3 hne
   have hcs4 : (splM mo) + 1 ≤ (nth L4 i).cs.length := by rw [hN4]; exact hcs3
   iterate 3 refine aS ?_
   refine o_q (q_load_at rfl rfl sz_30 (fun w h => HS.nd_cell hi4 h aPk 2 rfl (by decide))) rfl ?_
   refine o_fact (fun w h => HS.cs_room hi4 h aPk) fun hrC4 => ?_
   refine o_fact (fun w h => HS.cs_form hi4 h aPk) fun hfC4 => ?_
   iterate 2 refine aS ?_
   try refine oWr ?_
   iterate 2 refine aS ?_
   try refine oWr ?_
   refine o_p (p_slice30 ((splM mo) + 1) ((splM mo) + 1) rfl rfl rfl rfl sl_30 (by omega) (by omega) (by omega) (by omega)) rfl ?_
   refine o_slot (show _ = Value.slice (nth L4 i).ca ((splM mo) + 1) ((splM mo) + 1) from by rw [subA_0 _ _ _ hfC4]) ?_
   iterate 2 refine aS ?_
   refine o_h0 (h_store rfl rfl rfl sz_30 rfl aPt (by rw [flat_length nv3]; show _ + 1 ≤ _; omega) rfl) (fun _ _ => ?_)
   refine aS ?_
   refine s_ex (fun w h => HS.cs_setC (gn := gn1) (cap := cap1) (m := (splM mo) + 1) (c := (splM mo) + 1) hi4 (Nat.le_refl _) (by omega) (by omega) (fun h9 _ => h9) h aPk aPk) fun L5 => ?_
   refine s_fact (fun w h => h.1) fun hS5 => ?_
   refine s_class (fun w h => h.2) ?_
   exact s_joinI L5 ⟨by rw [hS5.cs, hS4.cs, hS3.es, hS2.es, hN4, hC3, hN2, ← hN1c, ← hN1e, hL1, splA, if_neg (by rw [hN1c, ← hC3]; omega)], by rw [hS5.len, hS4.len, hS3.len, hS2.len]⟩ aSx (fun w h => by rw [hS5.len, hS4.len, hS3.len, hS2.len]; exact h.ent aEt)
  try simp only [decide_eq_false_iff_not] at h4
  have hz : (nth L1 i).cs.length = 0 := by rw [← hC3]; omega
  refine aS ?_
  exact s_joinI L3 ⟨by rw [hS3.es, hS2.es, hN2, ← hN1e, hL1, splA, if_pos (by rw [hN1c]; exact hz)], by rw [hS3.len, hS2.len]⟩ aSx (fun w h => by rw [hS3.len, hS2.len]; exact h.ent aEt)
 intro LA hx
 obtain ⟨hA, hlA⟩ := hx
 have hpA : (parN (i : Int) (splA mo (pln L) i) 0).1 < LA.length := by omega
 have hNA : (nth LA (parN (i : Int) (splA mo (pln L) i) 0).1).pl = nth (splA mo (pln L) i) (parN (i : Int) (splA mo (pln L) i) 0).1 := by rw [← pln_nth hpA, hA]
 have hEA : (nth LA (parN (i : Int) (splA mo (pln L) i) 0).1).es = (nth (splA mo (pln L) i) (parN (i : Int) (splA mo (pln L) i) 0).1).es := congrArg Nd.es hNA
 have hCA : (nth LA (parN (i : Int) (splA mo (pln L) i) 0).1).cs = (nth (splA mo (pln L) i) (parN (i : Int) (splA mo (pln L) i) 0).1).cs := congrArg Nd.cs hNA
 rw [← hEA] at hparE
 rw [← hCA] at hparC
 have hsAE := (hsA (parN (i : Int) (splA mo (pln L) i) 0).1).1
 have hsAC := (hsA (parN (i : Int) (splA mo (pln L) i) 0).1).2
 rw [← hEA] at hsAE
 rw [← hCA] at hsAC
 iterate 4 refine aS ?_
 refine o_q (q_call rfl fn_141 rfl (fun w1 h1 => by have h9 := c141 w1 bt j mo rm (some ⟨gn1, 0, none⟩) cap1 LA i (HS.tbr h1 aPk) (HS.nt_at h1 aPk aPk) (by omega) (fun k hk => by have := (hsA k).2; rw [← hA, pln_nth hk] at this; exact Nat.le_trans this (by decide)); rw [hA] at h9; exact h9)) rfl ?_
 iterate 14 refine aS ?_
 refine o_p (p_indexAddr rfl rfl rfl sl_22 _ rfl (by omega) rfl) rfl ?_
 refine o_slot (show _ = Value.pointer (some ⟨gn1, (parN (i : Int) (splA mo (pln L) i) 0).1 * 3, none⟩) from by rw [Nat.zero_add]) ?_
 refine aS ?_
 refine o_class (fun w h => HS.es_take hpA h aPk) ?_
 iterate 2 refine aS ?_
 refine s_draw [8, 11] mixed ?_
 refine dP 0 ?_
 refine dP 1 ?_
 refine dP 2 ?_
 refine dFa 3 ?_
 refine d_q 4 [[], []] rfl (q_load_at rfl rfl sz_77 (fun w h => HS.nd_cell hpA h aPk 1 rfl (by decide))) (by kernel_rfl) (by kernel_rfl) (by kernel_rfl) rfl ?_
 refine dP 5 ?_
 refine dLn 6 [[7], []] ?_
 refine d_h 7 rfl (h_buildSlice (cs := [_, _]) rfl rfl sl_77 zr_26 rfl rfl rfl) (by kernel_rfl) (fun w h => h.ent aEt) rfl (fun b7 _ => ?_)
 refine dBa ?_
 refine d_h 8 rfl (h_callF (Cs := [.own (.slice ((nth LA (parN (i : Int) (splA mo (pln L) i) 0).1)).ea ((nth LA (parN (i : Int) (splA mo (pln L) i) 0).1)).es.length ((nth LA (parN (i : Int) (splA mo (pln L) i) 0).1)).ec) 26 2 ((nth LA (parN (i : Int) (splA mo (pln L) i) 0).1)).es.length (((nth LA (parN (i : Int) (splA mo (pln L) i) 0).1)).es.flatMap TEnt.vals), .blk b7 26 2 (TEnt.vals (nth (nth L1 i).es ((splM mo))))]) rfl fn_96 rfl aPs (fun w1 h1 hf => c96e w1 (nth LA (parN (i : Int) (splA mo (pln L) i) 0).1).ea (parN (i : Int) (splA mo (pln L) i) 0).2 (nth LA (parN (i : Int) (splA mo (pln L) i) 0).1).ec (nth LA (parN (i : Int) (splA mo (pln L) i) 0).1).es (nth (nth L1 i).es ((splM mo))) b7 1 2 hf (by omega) (by omega))) (by kernel_rfl) (fun w h => h.ent aEt) rfl (fun b8 _ => ?_)
 refine dTu [11] ?_
 refine dP 9 ?_
 refine dFa 10 ?_
 refine dSt 11 ?_ (hl := (by rw [flat_length nv3]; show _ + 1 ≤ _; omega))
 refine dTu [] ?_
 refine dNi ?_
 refine s_weaken (L' := [(4, _), (9, _), (10, _)]) aSx (fun _ h => h) ?_
 iterate 2 refine aS ?_
 refine o_ex (fun w h => HS.es_setB (gn := gn1) (cap := cap1) (ea := b8.1) (ec := b8.2) (es := insAt (nth LA (parN (i : Int) (splA mo (pln L) i) 0).1).es (parN (i : Int) (splA mo (pln L) i) 0).2 (nth (nth L1 i).es ((splM mo)))) hpA h aPk aPk aPk) fun LB => ?_
 refine o_fact (fun w h => h.1) fun hSB => ?_
 refine o_class (fun w h => h.2) ?_
 have hpB : (parN (i : Int) (splA mo (pln L) i) 0).1 < LB.length := by rw [hSB.len]; exact hpA
 refine o_class (fun w h => HS.cs_take hpB h aPk) ?_
 have hBC : (nth LB (parN (i : Int) (splA mo (pln L) i) 0).1).cs = (nth LA (parN (i : Int) (splA mo (pln L) i) 0).1).cs := by rw [hSB.at_]
 have hBCl : (nth LB (parN (i : Int) (splA mo (pln L) i) 0).1).cs.length = (nth LA (parN (i : Int) (splA mo (pln L) i) 0).1).cs.length := by rw [hBC]
 iterate 3 refine aS ?_
 refine o_q (q_load_at rfl rfl sz_30 (fun w h => HS.nd_cell hpB h aPk 2 rfl (by decide))) rfl ?_
 iterate 2 refine aS ?_
 try refine oWr ?_
 refine aS ?_
 refine o_h (h_buildSlice (cs := [_]) rfl rfl sl_30 zr_3 rfl rfl rfl) rfl (fun b9 _ => ?_)
 refine o_h (h_callF (Cs := [.own (.slice ((nth LB (parN (i : Int) (splA mo (pln L) i) 0).1)).ca ((nth LB (parN (i : Int) (splA mo (pln L) i) 0).1)).cs.length ((nth LB (parN (i : Int) (splA mo (pln L) i) 0).1)).cc) 3 1 ((nth LB (parN (i : Int) (splA mo (pln L) i) 0).1)).cs.length (((nth LB (parN (i : Int) (splA mo (pln L) i) 0).1)).cs.flatMap inV), .blk b9 3 1 (inV ((freN (pln L)).1 : Int))]) rfl fn_151 rfl aPs (fun w1 h1 hf => c151e w1 (nth LB (parN (i : Int) (splA mo (pln L) i) 0).1).ca ((parN (i : Int) (splA mo (pln L) i) 0).2 + 1) (nth LB (parN (i : Int) (splA mo (pln L) i) 0).1).cc (nth LB (parN (i : Int) (splA mo (pln L) i) 0).1).cs ((freN (pln L)).1 : Int) b9 1 1 hf (by omega) (by omega))) rfl (fun b10 _ => ?_)
 iterate 2 refine aS ?_
 refine o_h0 (h_store rfl rfl rfl sz_30 rfl aPt (by rw [flat_length nv3]; show _ + 1 ≤ _; omega) rfl) (fun _ _ => ?_)
 refine aS ?_
 exact s_end0 rfl (fun w' h' => by obtain ⟨LC, hSC, hC⟩ := HS.cs_setB (gn := gn1) (cap := cap1) (ca := b10.1) (cc := b10.2) (cs := insAt (nth LB (parN (i : Int) (splA mo (pln L) i) 0).1).cs ((parN (i : Int) (splA mo (pln L) i) 0).2 + 1) ((freN (pln L)).1 : Int)) hpB h' aPk aPk aPk; exact ⟨((gn1, cap1), LC), rfl, ⟨by rw [hSC.cs, hBC, hSB.es, hA, hEA, hCA]; unfold splN addP; rw [hN1e], by simp only []; rw [hSC.len, hSB.len, hlA]; exact hn1, hm1⟩, by simp only []; rw [hSC.len, hSB.len]; exact hC.ent aEt⟩)
theorem c135 (w : World) (bt : Nat) (j : Nat) (mo rm : Int) (gn cap : Nat) (L : List LNd) (hw : HS w (fps [.blk bt 112 6 (tbV (j : Int) mo rm (some ⟨gn, 0, none⟩) (L).length cap), .blk gn 102 (cap * 3) ((L).flatMap LNd.vals), .star ((L).map (subN 26))]) [.blk bt 112 6 (tbV (j : Int) mo rm (some ⟨gn, 0, none⟩) (L).length cap), .blk gn 102 (cap * 3) ((L).flatMap LNd.vals), .star ((L).map (subN 26))] w) (hnc : L.length ≤ cap) (hcm : cap ≤ maxLen) (h0 : 0 < L.length) (hl : L.length ≤ 1000) (hu : (nth (pln L) 0).us = true) : Calls Tryz.prog 135 #[.pointer (some ⟨bt, 0, none⟩)] w fun en w' => ∃ g : (Nat × Nat) × List LNd, en = .returned (.int .i64 ((freN (pln L)).1 : Int)) ∧ (pln g.2 = (lowN (pln L)).2 ∧ g.2.length ≤ g.1.2 ∧ g.1.2 ≤ maxLen) ∧ HS w (fps [.blk bt 112 6 (tbV (j : Int) mo rm (some ⟨gn, 0, none⟩) (L).length cap), .blk gn 102 (cap * 3) ((L).flatMap LNd.vals), .star ((L).map (subN 26))]) [.blk bt 112 6 (tbV (j : Int) mo rm (some ⟨g.1.1, 0, none⟩) (g.2).length g.1.2), .blk g.1.1 102 (g.1.2 * 3) ((g.2).flatMap LNd.vals), .star ((g.2).map (subN 26))] w' := by
 have hfl2 := freN_len (pln L)
 rw [pln_len] at hfl2
 obtain ⟨hne, hfl, hfn⟩ := lowN_eq (by rw [pln_len]; exact h0) hu
 refine enter (args := [_]) Tryz.func135 Tryz.ntmps135 rfl rfl hw ?_
 iterate 7 refine aS ?_
 refine o_h (h_callF (Cs := [.blk bt 112 6 (tbV (j : Int) mo rm (some ⟨gn, 0, none⟩) (L).length cap), .blk gn 102 (cap * 3) ((L).flatMap LNd.vals), .star ((L).map (subN 26))]) rfl fn_150 rfl aPs (fun w1 h1 hf => c150 w1 bt j mo rm gn cap L hf hnc hcm h0 hl)) rfl (fun ⟨⟨gn1, cap1⟩, L1⟩ hF1 => ?_)
 dsimp only
 obtain ⟨hL1, hn1, hm1⟩ := hF1
 simp only [] at hL1 hn1 hm1
 have hl1 : L1.length = (freN (pln L)).2.length := by rw [← hL1, pln_len]
 have hi1 : 0 < L1.length := by omega
 have ho1 : (freN (pln L)).1 < L1.length := by omega
 have hN1 : (nth L1 0).pl = nth (pln L) 0 := by rw [← pln_nth hi1, hL1, hfn]
 iterate 9 refine aS ?_
 refine o_p (p_indexAddr rfl rfl rfl sl_22 (0) (by omega) (by omega) rfl) rfl ?_
 refine o_slot (show _ = Value.pointer (some ⟨gn1, 0 * 3, none⟩) from by rw [Nat.zero_add]) ?_
 iterate 3 refine aS ?_
 refine s_draw [22, 25] mixed ?_
 refine dP 0 ?_
 refine dP 1 ?_
 refine dFa 2 ?_
 refine dFa 3 ?_
 refine dLd 4 [[], []] ?_
 refine dP 5 ?_
 refine dP 6 ?_
 refine dP 7 ?_
 refine dFa 8 ?_
 refine dFa 9 ?_
 refine dLd 10 [[], []] ?_
 refine dP 11 ?_
 refine dP 12 ?_
 refine dP 13 ?_
 refine dFa 14 ?_
 refine d_q 15 [[], []] rfl (q_load_at rfl rfl sz_77 (fun w h => HS.nd_cell hi1 h aPk 1 rfl (by decide))) (by kernel_rfl) (by kernel_rfl) (by kernel_rfl) rfl ?_
 refine dP 16 ?_
 refine dP 17 ?_
 refine dFa 18 ?_
 refine d_q 19 [[], []] rfl (q_load_at rfl rfl sz_30 (fun w h => HS.nd_cell hi1 h aPk 2 rfl (by decide))) (by kernel_rfl) (by kernel_rfl) (by kernel_rfl) rfl ?_
 refine d_p 20 rfl (p_indexAddr rfl rfl rfl sl_22 _ rfl (by omega) rfl) (by kernel_rfl) rfl rfl ?_
 refine d_slot (show _ = Value.pointer (some ⟨gn1, (freN (pln L)).1 * 3, none⟩) from by rw [Nat.zero_add]) ?_
 refine dFa 21 ?_
 refine dSt 22 ?_ (hl := (by rw [flat_length nv3]; show _ + 1 ≤ _; omega))
 refine dTu [25] ?_
 refine d_p 23 rfl (p_indexAddr rfl rfl rfl sl_22 _ rfl (by omega) rfl) (by kernel_rfl) rfl rfl ?_
 refine d_slot (show _ = Value.pointer (some ⟨gn1, (freN (pln L)).1 * 3, none⟩) from by rw [Nat.zero_add]) ?_
 refine dFa 24 ?_
 refine d_h0 25 rfl (h_store rfl rfl rfl sz_30 rfl aPt (by rw [setMany_length, flat_length nv3]; show _ + 1 ≤ _; omega) rfl) (by kernel_rfl) (fun w h => h.ent aEt) (fun _ _ => ?_)
 refine dTu [] ?_
 refine dNi ?_
 refine aS ?_
 refine s_weaken (L' := [(2, _), (3, _), (4, _)]) aSx (fun _ h => h) ?_
 iterate 2 refine aS ?_
 refine o_ex (fun w h => HS.node_move (i := 0) (gn := gn1) (cap := cap1) hi1 ho1 (fun e => hne e.symm) h aPk aPk) fun L2 => ?_
 refine o_fact (fun w h => h.1) fun hS2 => ?_
 refine o_class (fun w h => h.2) ?_
 have hi2 : 0 < L2.length := by rw [hS2.len]; exact hi1
 have hN2 : nth L2 0 = nth L1 0 := hS2.other hi1 hne
 rw [← hN2]
 iterate 2 refine aS ?_
 refine o_h (h_buildSlice (cs := [_]) rfl rfl sl_30 zr_3 rfl rfl rfl) rfl (fun b1 _ => ?_)
 iterate 2 refine aS ?_
 refine o_h0 (h_store rfl rfl rfl sz_77 rfl aPt (by rw [flat_length nv3]; show _ + 1 ≤ _; omega) rfl) (fun _ _ => ?_)
 iterate 2 refine aS ?_
 refine o_h0 (h_store rfl rfl rfl sz_30 rfl aPt (by rw [setMany_length, flat_length nv3]; show _ + 1 ≤ _; omega) rfl) (fun _ _ => ?_)
 iterate 6 refine aS ?_
 exact s_retv (rs := [.tmp 2]) rfl (.tmp rfl (.nil)) (fun w' h' => by obtain ⟨LC, hSC, hC⟩ := HS.node_low (i := 0) (gn := gn1) (cap := cap1) (ca := some ⟨b1, 0, none⟩) (cc := 1) (cs := [((freN (pln L)).1 : Int)]) hi2 (HS.own_shut (t := 3) (sz := 1) (n := 1) (cap := 1) (h'.pick (A := .blk b1 3 (1 * 1) (inV ((freN (pln L)).1 : Int))) aPk) rfl (by decide) (by decide)) (.there aPk) .here aPk; exact ⟨((gn1, cap1), LC), rfl, ⟨by have e2 : pln L2 = csN (esN (pln L1) (freN (pln L)).1 (nth (pln L) 0).es) (freN (pln L)).1 (nth (pln L) 0).cs := (by rw [csN_esN (by rw [pln_len]; exact ho1), hS2.pl, pln_nth ho1, ← hN1]; rfl); rw [hSC.pl, lowN, ← hL1, ← e2, csN_esN (by rw [pln_len]; exact hi2), pln_nth hi2]; rfl, by simp only []; rw [hSC.len, hS2.len]; exact hn1, hm1⟩, by simp only []; rw [hSC.len, hS2.len]; exact hC.ent aEt⟩)
theorem c104 (w : World) (a : Option Addr) (n cap : Nat) : Calls Tryz.prog 104 #[.slice a n cap] w fun en w' => ∃ g : Nat, en = .returned (.func (.func 140) #[] #[.pointer (some ⟨g, 0, none⟩)]) ∧ True ∧ HS w [] [.blk g 30 1 [.slice a n cap]] w' := by
 refine enter (args := [_]) Tryz.func104 Tryz.ntmps104 rfl rfl (HS.refl w []) ?_
 iterate 2 refine aS ?_
 refine oBx fun b1 _ => ?_
 iterate 7 refine aS ?_
 exact s_retv (rs := [.tmp 2]) rfl (.tmp rfl (.nil)) (fun w' h' => ⟨b1, rfl, trivial, h'.ent aEt⟩)
theorem c140 (w : World) {G : Type} (w0 : World) (M : List Nat) (Cs : Nat → G → List HA) (g0 : G) (l b1 : Nat) (P : List Nat) (a : Option Addr) (cap : Nat) (hl : P.length ≤ 100000) (hw : HS w0 M (Cs 0 g0) w) (hr : ∀ k g w, HS w0 M (Cs k g) w → Rd w [] b1 0 (.slice a P.length cap) ∧ Rw inV 1 w [] a (iN P)) (hy : ∀ k g w, k < P.length → HS w0 M (Cs k g) w → YieldTo Tryz.prog l #[.int .i64 ((P.length - 1 - k : Nat) : Int), .int .i64 (((nth P (P.length - 1 - k)) : Nat) : Int)] w fun e w' => ∃ g', e = .returned (.bool true) ∧ True ∧ HS w0 M (Cs (k + 1) g') w') : Calls Tryz.prog 140 #[.func (.yield l) #[] #[], .pointer (some ⟨b1, 0, none⟩)] w fun en w' => (∃ v, en = .returned v) ∧ ∃ x : G, HS w0 M (Cs P.length x) w' := by
 refine enter (args := [_, _]) Tryz.func140 Tryz.ntmps140 rfl rfl hw ?_
 iterate 2 refine aS ?_
 refine o_q (q_load_at rfl rfl sz_30 (fun w h => (hr _ _ w h).1)) rfl ?_
 iterate 2 refine aS ?_
 try refine oWr ?_
 iterate 3 refine aS ?_
 refine s_loopI (α := Nat × G) [3, 7, 8, 9, 10, 11, 12, 13, 14, 15, 16, 17, 18] (fun x => [(3, .int .i64 ((P.length : Int) - 1 - (x.1 : Int)))]) (fun x => HS w0 M (Cs x.1 x.2)) (fun x => x.1 ≤ P.length) (fun x => P.length - x.1) (0, g0) (Nat.zero_le _) (by refine sl_c (congrArg (fun e => some (Value.int .i64 e)) (show _ = _ from by simp only []; omega)) ?_; repeat (first | exact sl_n | refine sl_c rfl ?_)) (fun w h => h) (fun ⟨k, gg⟩ hk1 => ?_)
 dsimp only
 simp only [] at hk1
 iterate 4 refine aS ?_
 refine o_slot (show _ = Value.int .i64 (((P.length : Int) - 1 - (k : Int))) from rfl) ?_
 iterate 2 refine aS ?_
 refine s_cond rfl (fun h1 => ?_) fun h1 => ?_
 ·try simp only [decide_eq_true_eq] at h1
  have hk : k < P.length := by omega
  refine s_fact (fun w h => Rw.some (hr _ _ w h).2 (by rw [iN_len]; omega)) fun has => ?_
  iterate 7 refine aS ?_
  refine o_slot (show _ = Value.int .i64 ((P.length - 1 - k : Nat) : Int) from by congr 1; omega) ?_
  refine o_q (q_load_at rfl rfl sz_30 (fun w h => (hr _ _ w h).1)) rfl ?_
  refine aS ?_
  refine o_slot (show _ = Value.int .i64 ((P.length - 1 - k : Nat) : Int) from by congr 1; omega) ?_
  refine o_p (p_indexAddr rfl rfl rfl sl_30 (P.length - 1 - k) (by omega) (by omega) has) rfl ?_
  refine o_q (q_load_at rfl rfl sz_3 (fun w h => by have h9 := (hr _ _ w h).2.rdj 0 (i := P.length - 1 - k) (by rw [iN_len]; omega) rfl; rw [iN_nth (by omega)] at h9; exact h9)) rfl ?_
  refine o_h (h_yield rfl rfl rfl (fun w1 h1 => hy k gg w1 hk h1)) rfl (fun gy _ => ?_)
  iterate 2 refine aS ?_
  refine s_cond rfl (fun h2 => ?_) fun h2 => ?_
  ·try simp only [Bool.not_true] at h2
   exfalso; first | omega | (simp at h2; done) | (simp_all; done)
  try simp only [Bool.not_true] at h2
  iterate 5 refine aS ?_
  try refine oWr ?_
  iterate 2 refine aS ?_
  exact s_backI (k + 1, gy) (by (try simp only []); omega) (by (try simp only []); omega) (by refine sl_c (congrArg (fun e => some (Value.int .i64 e)) (show _ = _ from by simp only []; omega)) ?_; repeat (first | exact sl_n | refine sl_c rfl ?_)) (fun w h => h)
 try simp only [decide_eq_false_iff_not] at h1
 obtain rfl : k = P.length := by omega
 refine s_exit_to rfl ?_
 exact s_end0 rfl (fun w' h' => ⟨⟨_, rfl⟩, gg, h'⟩)
theorem fn_104 : isFn Tryz.prog 104 = true := by kernel_rfl
theorem fn_140 : isFn Tryz.prog 140 = true := by kernel_rfl
theorem fn_134 : isFn Tryz.prog 134 = true := by kernel_rfl
theorem fn_135 : isFn Tryz.prog 135 = true := by kernel_rfl
set_option maxHeartbeats 4000000 in
theorem c97 (w : World) (bt : Nat) (j : Nat) (mo rm : Int) (gn cap : Nat) (L : List LNd) (P : List Nat) (pa : Option Addr) (pc : Nat) (hw : HS w (fps [.blk bt 112 6 (tbV (j : Int) mo rm (some ⟨gn, 0, none⟩) (L).length cap), .blk gn 102 (cap * 3) ((L).flatMap LNd.vals), .star ((L).map (subN 26))]) [.blk bt 112 6 (tbV (j : Int) mo rm (some ⟨gn, 0, none⟩) (L).length cap), .blk gn 102 (cap * 3) ((L).flatMap LNd.vals), .star ((L).map (subN 26))] w) (hnc : L.length ≤ cap) (hcm : cap ≤ maxLen) (hP : Rw inV 1 w (fps [.blk bt 112 6 (tbV (j : Int) mo rm (some ⟨gn, 0, none⟩) (L).length cap), .blk gn 102 (cap * 3) ((L).flatMap LNd.vals), .star ((L).map (subN 26))]) pa (iN P)) (hpl : P.length ≤ 100000) (hok : GrwOk mo (pln L) P.reverse) (hroot : RootOk mo rm (grwW mo (pln L) P.reverse)) : Calls Tryz.prog 97 #[.pointer (some ⟨bt, 0, none⟩), .slice pa P.length pc] w fun en w' => ∃ g : (Nat × Nat) × List LNd, en = .returned (.tuple #[]) ∧ (pln g.2 = grwN mo rm (pln L) P.reverse ∧ g.2.length ≤ g.1.2 ∧ g.1.2 ≤ maxLen) ∧ HS w (fps [.blk bt 112 6 (tbV (j : Int) mo rm (some ⟨gn, 0, none⟩) (L).length cap), .blk gn 102 (cap * 3) ((L).flatMap LNd.vals), .star ((L).map (subN 26))]) [.blk bt 112 6 (tbV (j : Int) mo rm (some ⟨g.1.1, 0, none⟩) (g.2).length g.1.2), .blk g.1.1 102 (g.1.2 * 3) ((g.2).flatMap LNd.vals), .star ((g.2).map (subN 26))] w' := by
 refine enter (args := [_, _]) Tryz.func97 Tryz.ntmps97 rfl rfl hw ?_
 iterate 2 refine aS ?_
 refine oBx fun b1 _ => ?_
 iterate 5 refine aS ?_
 refine o_h (h_call rfl fn_104 rfl (fun w1 h1 => c104 w1 pa P.length pc)) rfl (fun b2 _ => ?_)
 iterate 2 refine aS ?_
 refine s_range (G := (Nat × Nat) × List LNd) (Bs := fun g => [.blk bt 112 6 (tbV (j : Int) mo rm (some ⟨g.1.1, 0, none⟩) (g.2).length g.1.2), .blk g.1.1 102 (g.1.2 * 3) ((g.2).flatMap LNd.vals), .star ((g.2).map (subN 26)), .blk b1 103 1 [.pointer (some ⟨bt, 0, none⟩)], .blk b2 30 1 [.slice pa P.length pc], .pure (pln (g.2) = grwW mo (pln L) (P.reverse.take P.length) ∧ GrwOk mo (pln (g.2)) (P.reverse.drop P.length) ∧ (g.2).length ≤ g.1.2 ∧ g.1.2 ≤ maxLen)]) rfl rfl rfl fn_140 (fun fid D l a9 w1 ob hob ha9 hw1 => ?_) (fun D x => ?_)
 ·skip
  refine (c140 w1 w (fps [.blk bt 112 6 (tbV (j : Int) mo rm (some ⟨gn, 0, none⟩) (L).length cap), .blk gn 102 (cap * 3) ((L).flatMap LNd.vals), .star ((L).map (subN 26))]) (fun k g => .obj l ob :: .obj D (.deferred (some [])) :: [.blk bt 112 6 (tbV (j : Int) mo rm (some ⟨g.1.1, 0, none⟩) (g.2).length g.1.2), .blk g.1.1 102 (g.1.2 * 3) ((g.2).flatMap LNd.vals), .star ((g.2).map (subN 26)), .blk b1 103 1 [.pointer (some ⟨bt, 0, none⟩)], .blk b2 30 1 [.slice pa P.length pc], .pure (pln (g.2) = grwW mo (pln L) (P.reverse.take k) ∧ GrwOk mo (pln (g.2)) (P.reverse.drop k) ∧ (g.2).length ≤ g.1.2 ∧ g.1.2 ≤ maxLen)]) ((gn, cap), L) l b2 P pa pc hpl ?_ ?_ (fun k g w2 hk h2 => ?_)).mono fun e w2 hx => ?_
  ·exact (HS.add_pure (p := pln L = grwW mo (pln L) (P.reverse.take 0) ∧ GrwOk mo (pln L) (P.reverse.drop 0) ∧ L.length ≤ cap ∧ cap ≤ maxLen) ⟨rfl, hok, hnc, hcm⟩ hw1).ent aEt
  ·exact fun k g w2 h2 => ⟨h2.rd_blk (i := 0) aPk rfl (by simp), hP.later h2⟩
  rotate_left
  ·exact hx
  subst hob
  obtain ⟨⟨ga, gc⟩, Lg⟩ := g
  dsimp only at h2
  obtain ⟨hg1, hg2, hg3, hg4⟩ := h2.get_pure aPk
  rw [rev_drop hk] at hg2
  obtain ⟨⟨hi, hsp⟩, hnx⟩ := hg2
  have hst : grwW mo (pln L) (P.reverse.take (k + 1)) = grw1 mo (pln Lg) (nth P (P.length - 1 - k)) := by rw [rev_take hk, grwW_snoc, ← hg1]
  rw [pln_len] at hi
  rw [pln_nth hi] at hsp
  simp only [LNd.pl] at hsp
  refine y_round (fn := Tryz.f97) (As1 := .obj D (.deferred (some [])) :: [.blk bt 112 6 (tbV (j : Int) mo rm (some ⟨ga, 0, none⟩) (Lg).length gc), .blk ga 102 (gc * 3) ((Lg).flatMap LNd.vals), .star ((Lg).map (subN 26)), .blk b1 103 1 [.pointer (some ⟨bt, 0, none⟩)], .blk b2 30 1 [.slice pa P.length pc], .pure (pln (Lg) = grwW mo (pln L) (P.reverse.take k) ∧ GrwOk mo (pln (Lg)) (P.reverse.drop k) ∧ (Lg).length ≤ gc ∧ gc ≤ maxLen)]) (L1 := [(5, .int .i64 (((nth P (P.length - 1 - k)) : Nat) : Int)), (2, .pointer (some ⟨b1, 0, none⟩))]) h2 rfl (FR.round2 ha9 9 10 _ _ rfl rfl) ?_ ?_
  ·skip
   iterate 3 refine aS ?_
   exact s_join () aSx (fun w h => h.ent aEt)
  skip
  iterate 2 refine aS ?_
  refine s_cutS (α := Bool) [11, 12, 13, 14, 15, 16, 17, 18, 19, 20, 21, 22, 23, 24, 25, 26, 27, 28, 29, 30] (fun x => [(30, .bool x)]) (fun x => x = true ↔ (0 < (nth P (P.length - 1 - k)) ∧ mo < ((nth Lg (nth P (P.length - 1 - k))).es.length : Int))) ?_ ?_
  ·skip
   refine s_draw [] mixed ?_
   refine dP 0 ?_
   refine dP 1 ?_
   refine dP 2 ?_
   apply d_split 13
   ·exact rfl
   ·intro hg3
    have hs4 := hg3; try simp only [decide_eq_true_eq] at hs4
    refine d_qon 3 13 [] rfl rfl rfl hg3 (q_load rfl rfl sz_103 aPk rfl) (by kernel_rfl) (by kernel_rfl) (by kernel_rfl) rfl ?_
    refine dPo 4 13 hg3 ?_
    refine dFo 5 13 hg3 ?_
    refine dFo 6 13 hg3 ?_
    refine d_qon 7 13 [] rfl rfl rfl hg3 (q_load rfl rfl sz_22 aPk rfl) (by kernel_rfl) (by kernel_rfl) (by kernel_rfl) rfl ?_
    refine dPo 8 13 hg3 ?_
    refine d_pon 9 13 rfl rfl rfl hg3 (p_indexAddr rfl rfl rfl sl_22 ((nth P (P.length - 1 - k))) (by omega) (by omega) rfl) (by kernel_rfl) rfl rfl ?_
    refine d_slot (show _ = Value.pointer (some ⟨ga, (nth P (P.length - 1 - k)) * 3, none⟩) from by rw [Nat.zero_add]) ?_
    refine dFo 10 13 hg3 ?_
    refine d_qon 11 13 [] rfl rfl rfl hg3 (q_load_at rfl rfl sz_77 (fun w h => HS.nd_cell hi h aPk 1 rfl (by decide))) (by kernel_rfl) (by kernel_rfl) (by kernel_rfl) rfl ?_
    refine d_pon 12 13 rfl rfl rfl hg3 (p_len_slice rfl rfl Tryz.underlying77) (by kernel_rfl) rfl rfl ?_
    refine d_qon 13 13 [] rfl rfl rfl hg3 (q_load rfl rfl sz_103 aPk rfl) (by kernel_rfl) (by kernel_rfl) (by kernel_rfl) rfl ?_
    refine dPo 14 13 hg3 ?_
    refine dFo 15 13 hg3 ?_
    refine dFo 16 13 hg3 ?_
    refine d_qon 17 13 [] rfl rfl rfl hg3 (q_load rfl rfl sz_3 aPk rfl) (by kernel_rfl) (by kernel_rfl) (by kernel_rfl) rfl ?_
    refine dPo 18 13 hg3 ?_
    refine d_p 19 rfl (p_pickt rfl rfl hg3 rfl) (by kernel_rfl) rfl rfl ?_
    refine dNi ?_
    exact s_joinI (decide (((nth Lg (nth P (P.length - 1 - k))).es.length : Int) > mo)) (by rw [decide_eq_true_eq]; omega) aSx (fun w h => h.ent aEt)
   intro hg5
   have hs6 := hg5; try simp only [decide_eq_false_iff_not] at hs6
   refine dOf 3 13 hg5 ?_
   refine dOf 4 13 hg5 ?_
   refine dOf 5 13 hg5 ?_
   refine dOf 6 13 hg5 ?_
   refine dOf 7 13 hg5 ?_
   refine dOf 8 13 hg5 ?_
   refine dOf 9 13 hg5 ?_
   refine dOf 10 13 hg5 ?_
   refine dOf 11 13 hg5 ?_
   refine dOf 12 13 hg5 ?_
   refine dOf 13 13 hg5 ?_
   refine dOf 14 13 hg5 ?_
   refine dOf 15 13 hg5 ?_
   refine dOf 16 13 hg5 ?_
   refine dOf 17 13 hg5 ?_
   refine dOf 18 13 hg5 ?_
   refine d_p 19 rfl (p_pickf rfl rfl hg5 rfl) (by kernel_rfl) rfl rfl ?_
   refine dNi ?_
   exact s_joinI false (by constructor <;> intro h9 <;> first | (cases h9; done) | omega) aSx (fun w h => h.ent aEt)
  intro x hx
  refine s_cond rfl (fun h7 => ?_) fun h7 => ?_
  ·skip
   obtain ⟨hpos, hbig⟩ := hx.1 (by assumption)
   iterate 3 refine aS ?_
   refine o_h (h_callF (Cs := [.blk bt 112 6 (tbV (j : Int) mo rm (some ⟨ga, 0, none⟩) (Lg).length gc), .blk ga 102 (gc * 3) ((Lg).flatMap LNd.vals), .star ((Lg).map (subN 26))]) rfl fn_134 rfl aPs (fun w1 h1 hf => c134 w1 bt j mo rm ga gc Lg (nth P (P.length - 1 - k)) hf hg3 hg4 (hsp hpos hbig))) rfl (fun ⟨⟨g5, c5⟩, L5⟩ hF5 => ?_)
   iterate 2 refine aS ?_
   exact s_end_rd rfl aPk (fun w h => ⟨((g5, c5), L5), rfl, trivial, by exact (HS.add_pure (p := pln L5 = grwW mo (pln L) (P.reverse.take (k + 1)) ∧ GrwOk mo (pln L5) (P.reverse.drop (k + 1)) ∧ L5.length ≤ c5 ∧ c5 ≤ maxLen) ⟨by rw [hst, grw1, if_pos ⟨hpos, by rw [pln_nth hi]; exact hbig⟩]; exact hF5.1, by have h9 := hnx; rw [grw1, if_pos ⟨hpos, by rw [pln_nth hi]; exact hbig⟩] at h9; rw [hF5.1]; exact h9, hF5.2.1, hF5.2.2⟩ h).ent aEt⟩)
  skip
  have hno : ¬ (0 < (nth P (P.length - 1 - k)) ∧ mo < ((nth Lg (nth P (P.length - 1 - k))).es.length : Int)) := fun h9 => by have h8 := hx.2 h9; simp_all
  iterate 2 refine aS ?_
  exact s_end_rd rfl aPk (fun w h => ⟨((ga, gc), Lg), rfl, trivial, by exact (HS.add_pure (p := pln Lg = grwW mo (pln L) (P.reverse.take (k + 1)) ∧ GrwOk mo (pln Lg) (P.reverse.drop (k + 1)) ∧ Lg.length ≤ gc ∧ gc ≤ maxLen) ⟨by rw [hst, grw1, if_neg (by rw [pln_nth hi]; exact hno)], by have h9 := hnx; rw [grw1, if_neg (by rw [pln_nth hi]; exact hno)] at h9; exact h9, hg3, hg4⟩ h).ent aEt⟩)
 skip
 obtain ⟨⟨ga, gc⟩, LG⟩ := x
 dsimp only
 refine s_fact (fun w h => h.get_pure aPk) fun hpu => ?_
 obtain ⟨hLG, _, hg3, hg4⟩ := hpu
 rw [show P.length = P.reverse.length from (List.length_reverse ..).symm, List.take_length] at hLG
 have hiG : 0 < LG.length := by rw [← pln_len, hLG]; exact hroot.lt
 have hlG := hroot.len
 rw [← hLG, pln_len] at hlG
 iterate 2 refine aS ?_
 refine s_draw [] mixed ?_
 refine dLd 0 [] ?_
 refine dP 1 ?_
 refine dFa 2 ?_
 refine dFa 3 ?_
 refine dLd 4 [] ?_
 refine d_p 5 rfl (p_indexAddr rfl rfl rfl sl_22 (0) (by omega) (by omega) rfl) (by kernel_rfl) rfl rfl ?_
 refine d_slot (show _ = Value.pointer (some ⟨ga, 0 * 3, none⟩) from by rw [Nat.zero_add]) ?_
 refine dFa 6 ?_
 refine d_q 7 [] rfl (q_load_at rfl rfl sz_77 (fun w h => HS.nd_cell hiG h aPk 1 rfl (by decide))) (by kernel_rfl) (by kernel_rfl) (by kernel_rfl) rfl ?_
 refine d_p 8 rfl (p_len_slice rfl rfl Tryz.underlying77) (by kernel_rfl) rfl rfl ?_
 refine dLd 9 [] ?_
 refine dP 10 ?_
 refine dFa 11 ?_
 refine dFa 12 ?_
 refine dLd 13 [] ?_
 refine dP 14 ?_
 refine dNi ?_
 refine s_cond rfl (fun h8 => ?_) fun h8 => ?_
 ·try simp only [decide_eq_true_eq] at h8
  have hbigR : rm < ((nth (pln LG) 0).es.length : Int) := by rw [pln_nth hiG]; exact h8
  iterate 3 refine aS ?_
  refine o_h (h_callF (Cs := [.blk bt 112 6 (tbV (j : Int) mo rm (some ⟨ga, 0, none⟩) (LG).length gc), .blk ga 102 (gc * 3) ((LG).flatMap LNd.vals), .star ((LG).map (subN 26))]) rfl fn_135 rfl aPs (fun w1 h1 hf => c135 w1 bt j mo rm ga gc LG hf hg3 hg4 hiG (by omega) (by rw [hLG]; exact hroot.us))) rfl (fun ⟨⟨g6, c6⟩, L6⟩ hF6 => ?_)
  dsimp only
  obtain ⟨hL6, hn6, hm6⟩ := hF6
  simp only [] at hL6 hn6 hm6
  have ho6 : (freN (pln LG)).1 < L6.length := by rw [← pln_len, hL6, hLG]; exact lowN_lt _
  iterate 3 refine aS ?_
  refine s_draw [] mixed ?_
  refine dLd 0 [] ?_
  refine dP 1 ?_
  refine dFa 2 ?_
  refine dFa 3 ?_
  refine dLd 4 [] ?_
  refine dP 5 ?_
  refine d_p 6 rfl (p_indexAddr rfl rfl rfl sl_22 ((freN (pln LG)).1) (by omega) (by omega) rfl) (by kernel_rfl) rfl rfl ?_
  refine d_slot (show _ = Value.pointer (some ⟨g6, (freN (pln LG)).1 * 3, none⟩) from by rw [Nat.zero_add]) ?_
  refine dFa 7 ?_
  refine d_q 8 [] rfl (q_load_at rfl rfl sz_77 (fun w h => HS.nd_cell ho6 h aPk 1 rfl (by decide))) (by kernel_rfl) (by kernel_rfl) (by kernel_rfl) rfl ?_
  refine d_p 9 rfl (p_len_slice rfl rfl Tryz.underlying77) (by kernel_rfl) rfl rfl ?_
  refine dLd 10 [] ?_
  refine dP 11 ?_
  refine dFa 12 ?_
  refine dFa 13 ?_
  refine dLd 14 [] ?_
  refine dP 15 ?_
  refine dNi ?_
  refine s_cond rfl (fun h9 => ?_) fun h9 => ?_
  ·try simp only [decide_eq_true_eq] at h9
   have hbig2 : mo < ((nth (pln L6) (freN (pln LG)).1).es.length : Int) := by rw [pln_nth ho6]; exact h9
   refine s_weaken (L' := [(2, _), (6, _)]) aSx (fun _ h => h) ?_
   iterate 3 refine aS ?_
   refine o_h (h_callF (Cs := [.blk bt 112 6 (tbV (j : Int) mo rm (some ⟨g6, 0, none⟩) (L6).length c6), .blk g6 102 (c6 * 3) ((L6).flatMap LNd.vals), .star ((L6).map (subN 26))]) rfl fn_134 rfl aPs (fun w1 h1 hf => c134 w1 bt j mo rm g6 c6 L6 (freN (pln LG)).1 hf hn6 hm6 (by rw [hL6, hLG]; exact hroot.spl (by rw [← hLG]; exact hbigR) (by rw [← hLG, ← hL6]; exact hbig2)))) rfl (fun ⟨⟨g7, c7⟩, L7⟩ hF7 => ?_)
   refine aS ?_
   exact s_endm rfl aPk (fun w' h' => by first | exact ⟨((g7, c7), L7), rfl, ⟨by rw [grwN, ← hLG, grwR, if_pos hbigR, if_pos (by rw [← hL6]; exact hbig2), ← hL6]; exact hF7.1, hF7.2.1, hF7.2.2⟩, h'.ent aEt⟩ | exact ⟨((g6, c6), L6), rfl, ⟨by rw [grwN, ← hLG, grwR, if_pos hbigR, if_neg (by rw [← hL6]; exact hbig2n), ← hL6], hn6, hm6⟩, h'.ent aEt⟩ | exact ⟨((ga, gc), LG), rfl, ⟨by rw [grwN, ← hLG, grwR, if_neg hsmR], hg3, hg4⟩, h'.ent aEt⟩)
  try simp only [decide_eq_false_iff_not] at h9
  have hbig2n : ¬ mo < ((nth (pln L6) (freN (pln LG)).1).es.length : Int) := by rw [pln_nth ho6]; have hq := h9; simp only [LNd.pl]; omega
  refine aS ?_
  exact s_endm rfl aPk (fun w' h' => by first | exact ⟨((g7, c7), L7), rfl, ⟨by rw [grwN, ← hLG, grwR, if_pos hbigR, if_pos (by rw [← hL6]; exact hbig2), ← hL6]; exact hF7.1, hF7.2.1, hF7.2.2⟩, h'.ent aEt⟩ | exact ⟨((g6, c6), L6), rfl, ⟨by rw [grwN, ← hLG, grwR, if_pos hbigR, if_neg (by rw [← hL6]; exact hbig2n), ← hL6], hn6, hm6⟩, h'.ent aEt⟩ | exact ⟨((ga, gc), LG), rfl, ⟨by rw [grwN, ← hLG, grwR, if_neg hsmR], hg3, hg4⟩, h'.ent aEt⟩)
 try simp only [decide_eq_false_iff_not] at h8
 have hsmR : ¬ rm < ((nth (pln LG) 0).es.length : Int) := by rw [pln_nth hiG]; have hq := h8; simp only [LNd.pl]; omega
 refine aS ?_
 exact s_endm rfl aPk (fun w' h' => by first | exact ⟨((g7, c7), L7), rfl, ⟨by rw [grwN, ← hLG, grwR, if_pos hbigR, if_pos (by rw [← hL6]; exact hbig2), ← hL6]; exact hF7.1, hF7.2.1, hF7.2.2⟩, h'.ent aEt⟩ | exact ⟨((g6, c6), L6), rfl, ⟨by rw [grwN, ← hLG, grwR, if_pos hbigR, if_neg (by rw [← hL6]; exact hbig2n), ← hL6], hn6, hm6⟩, h'.ent aEt⟩ | exact ⟨((ga, gc), LG), rfl, ⟨by rw [grwN, ← hLG, grwR, if_neg hsmR], hg3, hg4⟩, h'.ent aEt⟩)
theorem fn_68 : isFn Tryz.prog 68 = true := by kernel_rfl
theorem fn_97 : isFn Tryz.prog 97 = true := by kernel_rfl
set_option maxHeartbeats 4000000 in
theorem c58 (w : World) (bt : Nat) (j : Nat) (mo rm : Int) (gn cap : Nat) (L : List LNd) (x : TEnt) (hw : HS w (fps [.blk bt 112 6 (tbV (j : Int) mo rm (some ⟨gn, 0, none⟩) (L).length cap), .blk gn 102 (cap * 3) ((L).flatMap LNd.vals), .star ((L).map (subN 26))]) [.blk bt 112 6 (tbV (j : Int) mo rm (some ⟨gn, 0, none⟩) (L).length cap), .blk gn 102 (cap * 3) ((L).flatMap LNd.vals), .star ((L).map (subN 26))] w) (hnc : L.length ≤ cap) (hcm : cap ≤ maxLen) (hj : j ≤ 3) (h0 : 0 < L.length) (hB : Bd (pln L)) (hT : TOk (j : Int) (pln L)) (hk : keyOk (j : Int) x.key = true) (hok : ¬ (pathN (j : Int) (pln L) x.key).2.2 = true → InsOk (j : Int) mo rm (pln L) x) : Calls Tryz.prog 58 #[.pointer (some ⟨bt, 0, none⟩), .agg #[.string (bs x.key), .string (bs x.val)]] w fun en w' => ∃ g : (Nat × Nat) × List LNd, en = .returned (.int .i64 (insE (j : Int) mo rm (pln L) x)) ∧ (pln g.2 = insT (j : Int) mo rm (pln L) x ∧ g.2.length ≤ g.1.2 ∧ g.1.2 ≤ maxLen) ∧ HS w (fps [.blk bt 112 6 (tbV (j : Int) mo rm (some ⟨gn, 0, none⟩) (L).length cap), .blk gn 102 (cap * 3) ((L).flatMap LNd.vals), .star ((L).map (subN 26))]) [.blk bt 112 6 (tbV (j : Int) mo rm (some ⟨g.1.1, 0, none⟩) (g.2).length g.1.2), .blk g.1.1 102 (g.1.2 * 3) ((g.2).flatMap LNd.vals), .star ((g.2).map (subN 26))] w' := by
 have hK : ∀ i, i < L.length → ∀ y ∈ (nth L i).es, keyOk (j : Int) y.key = true ∧ y.key.length ≤ 1000000 := fun i hi y hy => tok_key hT i (by rw [pln_len]; exact hi) y (by rw [pln_nth hi]; exact hy)
 have hkl : x.key.length ≤ 1000000 := by have := keyOk_len hk; omega
 refine enter (args := [_, _]) Tryz.func58 Tryz.ntmps58 rfl rfl hw ?_
 iterate 2 refine aS ?_
 refine oBx fun b1 _ => ?_
 iterate 7 refine aS ?_
 refine o_h (h_call rfl fn_68 rfl (fun w1 h1 => c68 w1 bt j mo rm (some ⟨gn, 0, none⟩) cap L x.key hj h0 hB hT hK hk hkl (HS.nt_at h1 aPk aPk) (HS.tbr h1 aPk))) rfl (fun ⟨pa, pc⟩ _ => ?_)
 dsimp only
 iterate 13 refine aS ?_
 refine s_cond rfl (fun h2 => ?_) fun h2 => ?_
 ·skip
  have hfd : (pathN (j : Int) (pln L) x.key).2.2 = true := h2
  iterate 4 refine aS ?_
  exact s_retv (rs := [.tmp 4]) rfl (.tmp rfl (.nil)) (fun w' h' => ⟨((gn, cap), L), by simp only [retV]; rw [insE, if_pos hfd], ⟨by simp only []; rw [insT, if_pos hfd], hnc, hcm⟩, h'.ent aEt⟩)
 skip
 have hfd : ¬ (pathN (j : Int) (pln L) x.key).2.2 = true := by have hq := h2; simp [hq]
 have hk9 := hok hfd
 have hne := hk9.ne
 have hlen9 := hk9.len
 have hlf := hk9.lf
 rw [pln_len] at hlf
 have hpl := hk9.pl
 rw [pln_nth hlf] at hpl
 have hes9 := hk9.es
 rw [pln_nth hlf] at hes9
 simp only [LNd.pl] at hpl hes9
 have hpn : (pathN (j : Int) (pln L) x.key).1.length - 1 < (pathN (j : Int) (pln L) x.key).1.length := by omega
 refine s_fact (fun w h => HS.kids_some (by rw [iN_len]; omega) h aPk) fun hpa => ?_
 obtain ⟨gp, hpa⟩ := hpa
 iterate 2 refine aS ?_
 refine s_draw [] mixed ?_
 refine dP 0 ?_
 refine dP 1 ?_
 refine dFa 2 ?_
 refine dFa 3 ?_
 refine dLd 4 [] ?_
 refine dP 5 ?_
 refine dP 6 ?_
 refine d_p 7 rfl (p_len_slice rfl rfl Tryz.underlying30) (by kernel_rfl) rfl rfl ?_
 refine dP 8 ?_
 try refine dWr ?_
 refine d_p 9 rfl (p_indexAddr rfl rfl rfl sl_30 ((pathN (j : Int) (pln L) x.key).1.length - 1) (by omega) (by omega) hpa) (by kernel_rfl) rfl rfl ?_
 refine d_q 10 [] rfl (q_load_at rfl rfl sz_3 (fun w h => HS.path_rd hpn hpa h aPk)) (by kernel_rfl) (by kernel_rfl) (by kernel_rfl) rfl ?_
 refine d_slot (show _ = Value.int .i64 (((leafN (j : Int) (pln L) x.key) : Nat) : Int) from rfl) ?_
 refine d_p 11 rfl (p_indexAddr rfl rfl rfl sl_22 ((leafN (j : Int) (pln L) x.key)) (by omega) (by omega) rfl) (by kernel_rfl) rfl rfl ?_
 refine d_slot (show _ = Value.pointer (some ⟨gn, (leafN (j : Int) (pln L) x.key) * 3, none⟩) from by rw [Nat.zero_add]) ?_
 refine dP 12 ?_
 refine dNi ?_
 refine aS ?_
 refine s_class (fun w h => HS.es_take hlf h aPk) ?_
 refine s_draw [8, 11] mixed ?_
 refine dP 0 ?_
 refine dP 1 ?_
 refine dP 2 ?_
 refine dFa 3 ?_
 refine d_q 4 [[], []] rfl (q_load_at rfl rfl sz_77 (fun w h => HS.nd_cell hlf h aPk 1 rfl (by decide))) (by kernel_rfl) (by kernel_rfl) (by kernel_rfl) rfl ?_
 refine dP 5 ?_
 refine dLn 6 [[7], []] ?_
 refine d_h 7 rfl (h_buildSlice (cs := [_, _]) rfl rfl sl_77 zr_26 rfl rfl rfl) (by kernel_rfl) (fun w h => h.ent aEt) rfl (fun b3 _ => ?_)
 refine dBa ?_
 refine d_h 8 rfl (h_callF (Cs := [.own (.slice ((nth L (leafN (j : Int) (pln L) x.key))).ea ((nth L (leafN (j : Int) (pln L) x.key))).es.length ((nth L (leafN (j : Int) (pln L) x.key))).ec) 26 2 ((nth L (leafN (j : Int) (pln L) x.key))).es.length (((nth L (leafN (j : Int) (pln L) x.key))).es.flatMap TEnt.vals), .blk b3 26 2 (TEnt.vals x)]) rfl fn_96 rfl aPs (fun w1 h1 hf => c96e w1 (nth L (leafN (j : Int) (pln L) x.key)).ea (pathN (j : Int) (pln L) x.key).2.1 (nth L (leafN (j : Int) (pln L) x.key)).ec (nth L (leafN (j : Int) (pln L) x.key)).es x b3 1 2 hf (by omega) hpl)) (by kernel_rfl) (fun w h => h.ent aEt) rfl (fun b4 _ => ?_)
 refine dTu [11] ?_
 refine dP 9 ?_
 refine dFa 10 ?_
 refine dSt 11 ?_ (hl := (by rw [flat_length nv3]; show _ + 1 ≤ _; omega))
 refine dTu [] ?_
 refine dNi ?_
 refine aS ?_
 refine s_weaken (L' := [(0, _), (4, _), (5, _)]) aSx (fun _ h => h) ?_
 iterate 2 refine aS ?_
 refine o_ex (fun w h => HS.es_setB (gn := gn) (cap := cap) (ea := b4.1) (ec := b4.2) (es := insAt (nth L (leafN (j : Int) (pln L) x.key)).es (pathN (j : Int) (pln L) x.key).2.1 x) hlf h aPk aPk aPk) fun L2 => ?_
 refine o_fact (fun w h => h.1) fun hS2 => ?_
 refine o_class (fun w h => h.2) ?_
 have hL2 : pln L2 = insB (j : Int) (pln L) x := by rw [hS2.es, insB, pln_nth hlf]; rfl
 refine o_class (C' := HS w (fps [.blk bt 112 6 (tbV (j : Int) mo rm (some ⟨gn, 0, none⟩) (L).length cap), .blk gn 102 (cap * 3) ((L).flatMap LNd.vals), .star ((L).map (subN 26))]) [.blk bt 112 6 (tbV (j : Int) mo rm (some ⟨gn, 0, none⟩) (L2).length cap), .blk gn 102 (cap * 3) ((L2).flatMap LNd.vals), .star ((L2).map (subN 26)), .kids pa pc (iN (pathN (j : Int) (pln L) x.key).1)]) (fun w2 h => by rw [hS2.len]; exact h.ent aEt) ?_
 refine aS ?_
 refine o_h (h_callF (Cs := [.blk bt 112 6 (tbV (j : Int) mo rm (some ⟨gn, 0, none⟩) (L2).length cap), .blk gn 102 (cap * 3) ((L2).flatMap LNd.vals), .star ((L2).map (subN 26))]) rfl fn_97 rfl aPs (fun w1 h1 hf => c97 w1 bt j mo rm gn cap L2 (pathN (j : Int) (pln L) x.key).1 pa pc hf (by rw [hS2.len]; exact hnc) hcm (HS.rw_ownF (n := (iN (pathN (j : Int) (pln L) x.key).1).length) iv1 h1 aPs aPk rfl) (by omega) (by rw [hL2]; exact hk9.grw) (by rw [hL2]; exact hk9.root))) rfl (fun ⟨⟨g5, c5⟩, L5⟩ hF5 => ?_)
 dsimp only
 obtain ⟨hL5, hn5, hm5⟩ := hF5
 simp only [] at hL5 hn5 hm5
 have hI : insT (j : Int) mo rm (pln L) x = pln L5 := by rw [insT, if_neg hfd, hL5, hL2]
 have hIl : (insT (j : Int) mo rm (pln L) x).length = L5.length := by rw [hI, pln_len]
 iterate 10 refine aS ?_
 refine o_q (q_call rfl fn_81 rfl (fun w1 h1 => c81 w1 _ _)) rfl ?_
 iterate 2 refine aS ?_
 exact s_retv (rs := [.tmp 4]) rfl (.tmp rfl (.nil)) (fun w' h' => ⟨((g5, c5), L5), by simp only [retV]; congr 2; rw [insE, if_neg hfd, hIl]; exact (Nat.lt_or_ge 120 L5.length).elim (fun h120 => by rw [if_neg (by omega), decide_eq_false (by omega)]; rfl) (fun h120 => by rw [if_pos h120, decide_eq_true (by omega)]; rfl), ⟨hI.symm, hn5, hm5⟩, h'.ent aEt⟩)
theorem c103b (w : World) (gg i j n cap : Nat) (xs : List Value) (M : List Nat) (hw : HS w M [.blk gg 26 (cap * 2) xs] w) (hnc : n ≤ cap) (hcm : cap ≤ maxLen) (hxl : xs.length = n * 2) (hx1 : ∀ u ∈ xs, u.oneCell' = true) (hmx : n ≤ 9223372036854775807) (hij : i < j) (hjn : j ≤ n) : Calls Tryz.prog 103 #[.slice (some ⟨gg, 0, none⟩) n cap, .int .i64 i, .int .i64 j] w fun en w' => en = .returned (.slice (some ⟨gg, 0, none⟩) (n - (j - i)) cap) ∧ HS w M [.own (.slice (some ⟨gg, 0, none⟩) (n - (j - i)) cap) 26 2 (n - (j - i)) (xs.take (i * 2) ++ xs.drop (j * 2))] w' := by
 refine enter (args := [_, _, _]) Tryz.func103 Tryz.ntmps103 rfl rfl hw ?_
 iterate 11 refine aS ?_
 refine o_p (p_slice3 i j n rfl rfl rfl rfl rfl sl_77 rfl rfl rfl (by omega) (by omega) (by omega)) rfl ?_
 iterate 8 refine aS ?_
 refine s_cond rfl (fun h1 => ?_) fun h1 => ?_
 ·try simp only [decide_eq_true_eq] at h1
  exfalso; first | omega | (simp at h1; done) | (simp_all; done)
 try simp only [decide_eq_false_iff_not] at h1
 iterate 8 refine aS ?_
 refine s_draw [6] mixed ?_
 refine dP 0 ?_
 refine dP 1 ?_
 refine d_p 2 rfl (p_slice _ _ 0 i rfl rfl sl_77 rfl ⟨_, _, rfl, rfl⟩ (by omega) (by omega)) (by kernel_rfl) rfl rfl ?_
 refine d_slot (show _ = Value.slice (some ⟨gg, 0, none⟩) i cap from by rw [subA_zero] <;> (congr 1 <;> omega)) ?_
 refine dP 3 ?_
 refine dP 4 ?_
 refine d_p 5 rfl (p_slice _ _ j n rfl rfl sl_77 ⟨_, _, rfl, rfl⟩ rfl (by omega) (by omega)) (by kernel_rfl) rfl rfl ?_
 refine d_h 6 rfl (h_append_in (cut xs (j * 2) ((n - j) * 2)) rfl rfl rfl sl_77 Tryz.underlying77 aPt (by omega) (src_cut (j * 2) ((n - j) * 2) (fun hk => subA_lt (by omega)) aPk) (cut_length _ _ _ (by omega)) (by rw [cut_length _ _ _ (by omega)]; omega) (cut_one hx1 _ _)) (by kernel_rfl) (fun w h => h.ent aEt) rfl (fun _ _ => ?_)
 refine dTu [] ?_
 refine d_slot (show _ = Value.slice (some ⟨gg, 0, none⟩) (n - (j - i)) cap from by first | rfl | (congr 1 <;> first | rfl | omega)) ?_
 refine dP 7 ?_
 refine dNi ?_
 iterate 6 refine aS ?_
 refine o_p (p_slice _ _ (n - (j - i)) n rfl rfl sl_77 ⟨_, _, rfl, (by omega)⟩ ⟨_, _, rfl, rfl⟩ (by omega) (by omega)) rfl ?_
 refine o_slot (show _ = Value.slice (some ⟨gg, (n - (j - i)) * 2, none⟩) (j - i) (cap - (n - (j - i))) from by rw [subA_lt (by omega)] <;> (congr 1 <;> omega)) ?_
 refine o_h0 (h_clear rfl rfl sl_77 zr_26 rfl rfl (by simp) aPt (fun _ => rfl) (by simp only [setMany_length]; omega)) (fun _ _ => ?_)
 iterate 6 refine aS ?_
 exact s_retv (rs := [.tmp 6]) rfl (.tmp rfl (.nil)) (fun w' h' => ⟨rfl, (HS.to_own (n := n - (j - i)) (xs := xs.take (i * 2) ++ xs.drop (j * 2)) (ds := zrow [.string (bs []), .string (bs [])] ((j - i) * 2)) aPk h' (by have hq := del_in (xs := xs) (zs := zrow [.string (bs []), .string (bs [])] ((j - i) * 2)) (p := i * 2) (q := j * 2) (N := n * 2) hxl (by omega) (by omega) (by rw [zrow_length]; omega); rw [show (n - j) * 2 = n * 2 - j * 2 from by omega, show (n - (j - i)) * 2 = n * 2 - (j * 2 - i * 2) from by omega]; exact hq) (by simp only [List.length_append, List.length_take, List.length_drop]; omega) (by omega) (by omega)).ent aEt⟩)
theorem c103 (w : World) (a : Option Addr) (i j n cap : Nat) (xs : List Value) (hw : HS w (fps [.own (.slice a n cap) 26 2 n xs]) [.own (.slice a n cap) 26 2 n xs] w) (hx1 : ∀ u ∈ xs, u.oneCell' = true) (hmx : n ≤ 9223372036854775807) (hij : i < j) (hjn : j ≤ n) : Calls Tryz.prog 103 #[.slice a n cap, .int .i64 i, .int .i64 j] w fun en w' => ∃ g : Unit, en = .returned (.slice a (n - (j - i)) cap) ∧ True ∧ HS w (fps [.own (.slice a n cap) 26 2 n xs]) [.own (.slice a (n - (j - i)) cap) 26 2 (n - (j - i)) (xs.take (i * 2) ++ xs.drop (j * 2))] w' := by
  obtain ⟨gg, rfl, _, hnc, hcm, hxl, hb⟩ := hw.own_blk (by omega) .here
  exact (c103b w gg i j n cap xs _ hb hnc hcm hxl hx1 hmx hij hjn).mono fun en w' h => ⟨(), h.1, trivial, h.2⟩
theorem c152b (w : World) (gg i j n cap : Nat) (xs : List Value) (M : List Nat) (hw : HS w M [.blk gg 3 (cap * 1) xs] w) (hnc : n ≤ cap) (hcm : cap ≤ maxLen) (hxl : xs.length = n * 1) (hx1 : ∀ u ∈ xs, u.oneCell' = true) (hmx : n ≤ 9223372036854775807) (hij : i < j) (hjn : j ≤ n) : Calls Tryz.prog 152 #[.slice (some ⟨gg, 0, none⟩) n cap, .int .i64 i, .int .i64 j] w fun en w' => en = .returned (.slice (some ⟨gg, 0, none⟩) (n - (j - i)) cap) ∧ HS w M [.own (.slice (some ⟨gg, 0, none⟩) (n - (j - i)) cap) 3 1 (n - (j - i)) (xs.take (i * 1) ++ xs.drop (j * 1))] w' := by
 refine enter (args := [_, _, _]) Tryz.func152 Tryz.ntmps152 rfl rfl hw ?_
 iterate 11 refine aS ?_
 refine o_p (p_slice3 i j n rfl rfl rfl rfl rfl sl_30 rfl rfl rfl (by omega) (by omega) (by omega)) rfl ?_
 iterate 8 refine aS ?_
 refine s_cond rfl (fun h1 => ?_) fun h1 => ?_
 ·try simp only [decide_eq_true_eq] at h1
  exfalso; first | omega | (simp at h1; done) | (simp_all; done)
 try simp only [decide_eq_false_iff_not] at h1
 iterate 8 refine aS ?_
 refine s_draw [6] mixed ?_
 refine dP 0 ?_
 refine dP 1 ?_
 refine d_p 2 rfl (p_slice _ _ 0 i rfl rfl sl_30 rfl ⟨_, _, rfl, rfl⟩ (by omega) (by omega)) (by kernel_rfl) rfl rfl ?_
 refine d_slot (show _ = Value.slice (some ⟨gg, 0, none⟩) i cap from by rw [subA_zero] <;> (congr 1 <;> omega)) ?_
 refine dP 3 ?_
 refine dP 4 ?_
 refine d_p 5 rfl (p_slice _ _ j n rfl rfl sl_30 ⟨_, _, rfl, rfl⟩ rfl (by omega) (by omega)) (by kernel_rfl) rfl rfl ?_
 refine d_h 6 rfl (h_append_in (cut xs (j * 1) ((n - j) * 1)) rfl rfl rfl sl_30 Tryz.underlying30 aPt (by omega) (src_cut (j * 1) ((n - j) * 1) (fun hk => subA_lt (by omega)) aPk) (cut_length _ _ _ (by omega)) (by rw [cut_length _ _ _ (by omega)]; omega) (cut_one hx1 _ _)) (by kernel_rfl) (fun w h => h.ent aEt) rfl (fun _ _ => ?_)
 refine dTu [] ?_
 refine d_slot (show _ = Value.slice (some ⟨gg, 0, none⟩) (n - (j - i)) cap from by first | rfl | (congr 1 <;> first | rfl | omega)) ?_
 refine dP 7 ?_
 refine dNi ?_
 iterate 6 refine aS ?_
 refine o_p (p_slice _ _ (n - (j - i)) n rfl rfl sl_30 ⟨_, _, rfl, (by omega)⟩ ⟨_, _, rfl, rfl⟩ (by omega) (by omega)) rfl ?_
 refine o_slot (show _ = Value.slice (some ⟨gg, (n - (j - i)) * 1, none⟩) (j - i) (cap - (n - (j - i))) from by rw [subA_lt (by omega)] <;> (congr 1 <;> omega)) ?_
 refine o_h0 (h_clear rfl rfl sl_30 zr_3 rfl rfl (by simp) aPt (fun _ => rfl) (by simp only [setMany_length]; omega)) (fun _ _ => ?_)
 iterate 6 refine aS ?_
 exact s_retv (rs := [.tmp 6]) rfl (.tmp rfl (.nil)) (fun w' h' => ⟨rfl, (HS.to_own (n := n - (j - i)) (xs := xs.take (i * 1) ++ xs.drop (j * 1)) (ds := zrow [.int .i64 0] ((j - i) * 1)) aPk h' (by have hq := del_in (xs := xs) (zs := zrow [.int .i64 0] ((j - i) * 1)) (p := i * 1) (q := j * 1) (N := n * 1) hxl (by omega) (by omega) (by rw [zrow_length]; omega); rw [show (n - j) * 1 = n * 1 - j * 1 from by omega, show (n - (j - i)) * 1 = n * 1 - (j * 1 - i * 1) from by omega]; exact hq) (by simp only [List.length_append, List.length_take, List.length_drop]; omega) (by omega) (by omega)).ent aEt⟩)
theorem c152 (w : World) (a : Option Addr) (i j n cap : Nat) (xs : List Value) (hw : HS w (fps [.own (.slice a n cap) 3 1 n xs]) [.own (.slice a n cap) 3 1 n xs] w) (hx1 : ∀ u ∈ xs, u.oneCell' = true) (hmx : n ≤ 9223372036854775807) (hij : i < j) (hjn : j ≤ n) : Calls Tryz.prog 152 #[.slice a n cap, .int .i64 i, .int .i64 j] w fun en w' => ∃ g : Unit, en = .returned (.slice a (n - (j - i)) cap) ∧ True ∧ HS w (fps [.own (.slice a n cap) 3 1 n xs]) [.own (.slice a (n - (j - i)) cap) 3 1 (n - (j - i)) (xs.take (i * 1) ++ xs.drop (j * 1))] w' := by
  obtain ⟨gg, rfl, _, hnc, hcm, hxl, hb⟩ := hw.own_blk (by omega) .here
  exact (c152b w gg i j n cap xs _ hb hnc hcm hxl hx1 hmx hij hjn).mono fun en w' h => ⟨(), h.1, trivial, h.2⟩
theorem c103e (w : World) (a : Option Addr) (i cap : Nat) (l : List TEnt) (hw : HS w (fps [.own (.slice a l.length cap) 26 2 l.length (l.flatMap TEnt.vals)]) [.own (.slice a l.length cap) 26 2 l.length (l.flatMap TEnt.vals)] w) (hmax : l.length ≤ 100000) (hi : i < l.length) : Calls Tryz.prog 103 #[.slice a l.length cap, .int .i64 (i : Int), .int .i64 ((i : Int) + 1)] w fun en w' => ∃ g : Unit, en = .returned (.slice a (others l i).length cap) ∧ True ∧ HS w (fps [.own (.slice a l.length cap) 26 2 l.length (l.flatMap TEnt.vals)]) [.own (.slice a (others l i).length cap) 26 2 (others l i).length ((others l i).flatMap TEnt.vals)] w' := by
  have h := c103 w a i (i + 1) l.length cap (l.flatMap TEnt.vals) hw (flat_one ev1 l) (by omega) (by omega) (by omega)
  rw [oth_flat ev2, show l.length - (i + 1 - i) = (others l i).length by rw [oth_len hi]; omega] at h
  exact h
theorem c152e (w : World) (a : Option Addr) (i cap : Nat) (l : List Int) (hw : HS w (fps [.own (.slice a l.length cap) 3 1 l.length (l.flatMap inV)]) [.own (.slice a l.length cap) 3 1 l.length (l.flatMap inV)] w) (hmax : l.length ≤ 100000) (hi : i < l.length) : Calls Tryz.prog 152 #[.slice a l.length cap, .int .i64 (i : Int), .int .i64 ((i : Int) + 1)] w fun en w' => ∃ g : Unit, en = .returned (.slice a (others l i).length cap) ∧ True ∧ HS w (fps [.own (.slice a l.length cap) 3 1 l.length (l.flatMap inV)]) [.own (.slice a (others l i).length cap) 3 1 (others l i).length ((others l i).flatMap inV)] w' := by
  have h := c152 w a i (i + 1) l.length cap (l.flatMap inV) hw (flat_one iv1c l) (by omega) (by omega) (by omega)
  rw [oth_flat iv1, show l.length - (i + 1 - i) = (others l i).length by rw [oth_len hi]; omega] at h
  exact h
theorem fn_103 : isFn Tryz.prog 103 = true := by kernel_rfl
theorem fn_152 : isFn Tryz.prog 152 = true := by kernel_rfl
set_option maxHeartbeats 1000000 in
theorem c143a (w : World) (bt : Nat) (j : Nat) (mo rm : Int) (gn cap : Nat) (L : List LNd) (p k f t : Nat) (hw : HS w (fps [.blk bt 112 6 (tbV (j : Int) mo rm (some ⟨gn, 0, none⟩) (L).length cap), .blk gn 102 (cap * 3) ((L).flatMap LNd.vals), .star ((L).map (subN 26))]) [.blk bt 112 6 (tbV (j : Int) mo rm (some ⟨gn, 0, none⟩) (L).length cap), .blk gn 102 (cap * 3) ((L).flatMap LNd.vals), .star ((L).map (subN 26))] w) (hnc : L.length ≤ cap) (hcm : cap ≤ maxLen) (hok : GivOk (pln L) p k f t) (hcf : (nth (pln L) p).cs.getD k 0 = (f : Int)) (hct : (nth (pln L) p).cs.getD (k + 1) 0 = (t : Int)) : Calls Tryz.prog 143 #[.pointer (some ⟨bt, 0, none⟩), .int .i64 (p : Int), .int .i64 ((k + 1 : Nat) : Int), .bool true] w fun en w' => ∃ g : (Nat × Nat) × List LNd, en = .returned (.tuple #[]) ∧ (pln g.2 = givF (pln L) p k f t ∧ g.2.length ≤ g.1.2 ∧ g.1.2 ≤ maxLen) ∧ HS w (fps [.blk bt 112 6 (tbV (j : Int) mo rm (some ⟨gn, 0, none⟩) (L).length cap), .blk gn 102 (cap * 3) ((L).flatMap LNd.vals), .star ((L).map (subN 26))]) [.blk bt 112 6 (tbV (j : Int) mo rm (some ⟨g.1.1, 0, none⟩) (g.2).length g.1.2), .blk g.1.1 102 (g.1.2 * 3) ((g.2).flatMap LNd.vals), .star ((g.2).map (subN 26))] w' := by
 have hpl := hok.pl
 have hfl := hok.fl
 have htl := hok.tl
 have hln := hok.len
 rw [pln_len] at hpl hfl htl hln
 have hPN := pln_nth hpl
 have hFN := pln_nth hfl
 have hTN := pln_nth htl
 have hke := hok.ke
 have hkc := hok.kc
 have hfe := hok.fe
 have hpf := hok.pf
 have hpt := hok.pt
 have hft := hok.ft
 have hsp := hok.sm p
 have hsf := hok.sm f
 have hst := hok.sm t
 rw [hPN] at hke hkc hcf hct hsp
 rw [hFN] at hfe hsf
 rw [hTN] at hst
 simp only [LNd.pl] at hke hkc hfe hcf hct hsp hsf hst
 refine enter (args := [_, _, _, _]) Tryz.func143 Tryz.ntmps143 rfl rfl hw ?_
 iterate 8 refine aS ?_
 refine o_p (p_indexAddr rfl rfl rfl sl_22 (p) (by omega) (by omega) rfl) rfl ?_
 refine o_slot (show _ = Value.pointer (some ⟨gn, p * 3, none⟩) from by rw [Nat.zero_add]) ?_
 iterate 7 refine aS ?_
 refine s_cond rfl (fun h1 => ?_) fun h1 => ?_
 ·skip
  refine s_fact (fun w h => HS.cs_some hpl (by omega) h aPk) fun hgc => ?_
  obtain ⟨gc9, hgc⟩ := hgc
  refine s_fact (fun w h => HS.es_some hpl (by omega) h aPk) fun hge => ?_
  obtain ⟨gp9, hge⟩ := hge
  refine s_fact (fun w h => HS.es_some hfl (by omega) h aPk) fun hgf => ?_
  obtain ⟨gf9, hgf⟩ := hgf
  refine s_fact (fun w h => HS.es_room hpl h aPk) fun hrP => ?_
  refine s_fact (fun w h => HS.es_room hfl h aPk) fun hrF => ?_
  refine aS ?_
  refine s_draw [] mixed ?_
  refine dP 0 ?_
  refine dP 1 ?_
  refine dFa 2 ?_
  refine dFa 3 ?_
  refine dLd 4 [] ?_
  refine dP 5 ?_
  refine dP 6 ?_
  refine dFa 7 ?_
  refine d_q 8 [] rfl (q_load_at rfl rfl sz_30 (fun w h => HS.nd_cell hpl h aPk 2 rfl (by decide))) (by kernel_rfl) (by kernel_rfl) (by kernel_rfl) rfl ?_
  refine dP 9 ?_
  refine dP 10 ?_
  try refine dWr ?_
  refine d_p 11 rfl (p_indexAddr rfl rfl rfl sl_30 (k) (by omega) (by omega) hgc) (by kernel_rfl) rfl rfl ?_
  refine d_q 12 [] rfl (q_load_at rfl rfl sz_3 (fun w h => HS.cs_rd hpl (by omega) hgc h aPk)) (by kernel_rfl) (by kernel_rfl) (by kernel_rfl) rfl ?_
  refine d_slot (show _ = Value.int .i64 (f : Int) from by rw [hcf]) ?_
  refine d_p 13 rfl (p_indexAddr rfl rfl rfl sl_22 (f) (by omega) (by omega) rfl) (by kernel_rfl) rfl rfl ?_
  refine d_slot (show _ = Value.pointer (some ⟨gn, f * 3, none⟩) from by rw [Nat.zero_add]) ?_
  refine dP 14 ?_
  refine dP 15 ?_
  refine dFa 16 ?_
  refine dFa 17 ?_
  refine dLd 18 [] ?_
  refine dP 19 ?_
  refine dP 20 ?_
  refine dFa 21 ?_
  refine d_q 22 [] rfl (q_load_at rfl rfl sz_30 (fun w h => HS.nd_cell hpl h aPk 2 rfl (by decide))) (by kernel_rfl) (by kernel_rfl) (by kernel_rfl) rfl ?_
  refine dP 23 ?_
  refine d_p 24 rfl (p_indexAddr rfl rfl rfl sl_30 (k + 1) (by omega) (by omega) hgc) (by kernel_rfl) rfl rfl ?_
  refine d_q 25 [] rfl (q_load_at rfl rfl sz_3 (fun w h => HS.cs_rd hpl (by omega) hgc h aPk)) (by kernel_rfl) (by kernel_rfl) (by kernel_rfl) rfl ?_
  refine d_slot (show _ = Value.int .i64 (t : Int) from by rw [hct]) ?_
  refine d_p 26 rfl (p_indexAddr rfl rfl rfl sl_22 (t) (by omega) (by omega) rfl) (by kernel_rfl) rfl rfl ?_
  refine d_slot (show _ = Value.pointer (some ⟨gn, t * 3, none⟩) from by rw [Nat.zero_add]) ?_
  refine dP 27 ?_
  refine dP 28 ?_
  refine dNi ?_
  refine aS ?_
  refine s_weaken (L' := [(0, _), (2, _), (8, _), (9, _), (10, _)]) aSx (fun _ h => h) ?_
  iterate 4 refine aS ?_
  refine o_q (q_load_at rfl rfl sz_77 (fun w h => HS.nd_cell hfl h aPk 1 rfl (by decide))) rfl ?_
  iterate 2 refine aS ?_
  try refine oWr ?_
  iterate 3 refine aS ?_
  refine s_class (fun w h => HS.es_take htl h aPk) ?_
  refine s_draw [14, 17] mixed ?_
  refine dP 0 ?_
  refine dP 1 ?_
  refine dP 2 ?_
  refine dFa 3 ?_
  refine d_q 4 [[], []] rfl (q_load_at rfl rfl sz_77 (fun w h => HS.nd_cell htl h aPk 1 rfl (by decide))) (by kernel_rfl) (by kernel_rfl) (by kernel_rfl) rfl ?_
  refine dP 5 ?_
  refine dP 6 ?_
  refine dFa 7 ?_
  refine d_q 8 [[13, 12, 11], []] rfl (q_load_at rfl rfl sz_77 (fun w h => HS.nd_cell hpl h aPk 1 rfl (by decide))) (by kernel_rfl) (by kernel_rfl) (by kernel_rfl) rfl ?_
  refine dP 9 ?_
  refine dP 10 ?_
  try refine dWr ?_
  refine d_p 11 rfl (p_indexAddr rfl rfl rfl sl_77 (k) (by omega) (by omega) hge) (by kernel_rfl) rfl rfl ?_
  refine d_q 12 [[13], []] rfl (q_load_atn _ rfl rfl sz_26 rfl (fun w h => HS.es_rdB hpl (Ne.symm hpt) (by omega) hge h aPk)) (by kernel_rfl) (by kernel_rfl) (by kernel_rfl) rfl ?_
  refine d_h 13 rfl (h_buildSlice (cs := [_, _]) rfl rfl sl_77 zr_26 rfl rfl rfl) (by kernel_rfl) (fun w h => h.ent aEt) rfl (fun b2 _ => ?_)
  refine dBa ?_
  refine d_h 14 rfl (h_callF (Cs := [.own (.slice ((nth L t)).ea ((nth L t)).es.length ((nth L t)).ec) 26 2 ((nth L t)).es.length (((nth L t)).es.flatMap TEnt.vals), .blk b2 26 2 (TEnt.vals (nth (nth L p).es k))]) rfl fn_96 rfl aPs (fun w1 h1 hf9 => c96e w1 (nth L t).ea 0 (nth L t).ec (nth L t).es (nth (nth L p).es k) b2 1 2 hf9 (by omega) (by omega))) (by kernel_rfl) (fun w h => h.ent aEt) rfl (fun b3 _ => ?_)
  refine dTu [17] ?_
  refine dP 15 ?_
  refine dFa 16 ?_
  refine dSt 17 ?_ (hl := (by rw [flat_length nv3]; show _ + 1 ≤ _; omega))
  refine dTu [] ?_
  refine dNi ?_
  refine aS ?_
  refine s_ex (fun w h => HS.es_setB (gn := gn) (cap := cap) (ea := b3.1) (ec := b3.2) (es := insAt (nth L t).es 0 (nth (nth L p).es k)) htl h aPk aPk aPk) fun L1 => ?_
  refine s_fact (fun w h => h.1) fun hS1 => ?_
  refine s_class (fun w h => h.2) ?_
  have hp1 : p < L1.length := by rw [hS1.len]; exact hpl
  have hf1 : f < L1.length := by rw [hS1.len]; exact hfl
  have ht1 : t < L1.length := by rw [hS1.len]; exact htl
  have hP1 : nth L1 p = nth L p := hS1.other hpl (Ne.symm hpt)
  have hF1 : nth L1 f = nth L f := hS1.other hfl (Ne.symm hft)
  have hT1 := hS1.at_
  have hFl1 : (nth L1 f).es.length = (nth L f).es.length := by rw [hF1]
  have hPl1 : (nth L1 p).es.length = (nth L p).es.length := by rw [hP1]
  have hge1 : (nth L1 p).ea = some ⟨gp9, 0, none⟩ := by rw [hP1]; exact hge
  have hgf1 : (nth L1 f).ea = some ⟨gf9, 0, none⟩ := by rw [hF1]; exact hgf
  refine s_class (fun w h => HS.es_open hp1 (by rw [hP1]; omega) hge1 h aPk) ?_
  refine s_draw [14] mixed ?_
  refine dP 0 ?_
  refine dP 1 ?_
  refine dFa 2 ?_
  refine d_q 3 [[]] rfl (q_load_at rfl rfl sz_77 (fun w h => HS.nd_cell hp1 h aPk 1 rfl (by decide))) (by kernel_rfl) (by kernel_rfl) (by kernel_rfl) rfl ?_
  refine dP 4 ?_
  refine dP 5 ?_
  try refine dWr ?_
  refine dP 6 ?_
  refine dP 7 ?_
  refine dFa 8 ?_
  refine d_q 9 [[]] rfl (q_load_at rfl rfl sz_77 (fun w h => HS.nd_cell hf1 h aPk 1 rfl (by decide))) (by kernel_rfl) (by kernel_rfl) (by kernel_rfl) rfl ?_
  refine dP 10 ?_
  refine d_p 11 rfl (p_indexAddr rfl rfl rfl sl_77 (((nth L f).es.length - 1)) (by omega) (by omega) hgf1) (by kernel_rfl) rfl rfl ?_
  refine d_q 12 [[]] rfl (q_load_atn _ rfl rfl sz_26 rfl (fun w h => HS.es_rdB hf1 hpf (k := ((nth L f).es.length - 1)) (by rw [hF1]; omega) hgf1 h aPk)) (by kernel_rfl) (by kernel_rfl) (by kernel_rfl) rfl ?_
  refine d_p 13 rfl (p_indexAddr rfl rfl rfl sl_77 (k) (by omega) (by omega) hge1) (by kernel_rfl) rfl rfl ?_
  refine d_slot (show _ = Value.pointer (some ⟨gp9, k * 2, none⟩) from by rw [Nat.zero_add]) ?_
  refine dSt 14 ?_ (hl := (by rw [flat_length ev2]; show _ + 2 ≤ _; omega))
  refine dTu [] ?_
  refine dNi ?_
  refine aS ?_
  refine s_weaken (L' := [(0, _), (2, _), (8, _), (9, _), (10, _), (11, _)]) aSx (fun _ h => h) ?_
  iterate 2 refine aS ?_
  refine o_ex (fun w h => HS.es_upd (gn := gn) (cap := cap) (g := gp9) (k := k) (x := nth (nth L1 f).es ((nth L f).es.length - 1)) hp1 (by rw [hP1]; exact hke) hge1 h aPk aPk aPk (by rw [hP1]; exact hrP)) fun L2 => ?_
  refine o_fact (fun w h => h.1) fun hS2 => ?_
  refine o_class (fun w h => h.2) ?_
  have hf2 : f < L2.length := by rw [hS2.len]; exact hf1
  have ht2 : t < L2.length := by rw [hS2.len]; exact ht1
  have hF2 : nth L2 f = nth L f := by rw [hS2.other hf1 hpf, hF1]
  have hT2 := hS2.other ht1 hpt
  have hFl2 : (nth L2 f).es.length = (nth L f).es.length := by rw [hF2]
  have hFe2 : (nth L2 f).ec = (nth L f).ec := by rw [hF2]
  refine o_fact (fun w h => HS.es_form hf2 h aPk) fun hfF2 => ?_
  iterate 3 refine aS ?_
  refine o_q (q_load_at rfl rfl sz_77 (fun w h => HS.nd_cell hf2 h aPk 1 rfl (by decide))) rfl ?_
  refine aS ?_
  refine o_p (p_slice _ _ 0 ((nth L f).es.length - 1) rfl rfl sl_77 rfl ⟨_, _, rfl, (by omega)⟩ (by omega) (by omega)) rfl ?_
  refine o_slot (show _ = Value.slice (nth L2 f).ea ((nth L f).es.length - 1) (nth L2 f).ec from by rw [subA_0 _ _ _ hfF2]; first | rfl | (congr 1 <;> omega)) ?_
  iterate 2 refine aS ?_
  refine o_h0 (h_store rfl rfl rfl sz_77 rfl aPt (by rw [flat_length nv3]; show _ + 1 ≤ _; omega) rfl) (fun _ _ => ?_)
  iterate 5 refine aS ?_
  refine o_ex (fun w h => HS.es_setC (gn := gn) (cap := cap) (m := ((nth L f).es.length - 1)) (c := (nth L2 f).ec) hf2 (by rw [hF2]; omega) (Nat.le_refl _) (by rw [hF2]; omega) (fun _ h9 => by rw [hF2, hgf] at h9; cases h9) h aPk aPk) fun L3 => ?_
  refine o_fact (fun w h => h.1) fun hS3 => ?_
  refine o_class (fun w h => h.2) ?_
  have hf3 : f < L3.length := by rw [hS3.len]; exact hf2
  have ht3 : t < L3.length := by rw [hS3.len]; exact ht2
  have hT3 := (hS3.other ht2 hft).trans (hT2.trans hT1)
  have hF3 := hS3.at_
  have hFc3 : (nth L3 f).cs = (nth L f).cs := by rw [hF3, hF2]
  have hTc3 : (nth L3 t).cs = (nth L t).cs := by rw [hT3]
  have hln3 : L3.length = L.length := by rw [hS3.len, hS2.len, hS1.len]
  have hTl3 : (nth L3 t).cs.length = (nth L t).cs.length := by rw [hTc3]
  have hFl3 : (nth L3 f).cs.length = (nth L f).cs.length := by rw [hFc3]
  iterate 2 refine aS ?_
  refine o_q (q_load_at rfl rfl sz_30 (fun w h => HS.nd_cell hf3 h aPk 2 rfl (by decide))) rfl ?_
  iterate 8 refine aS ?_
  refine s_cond rfl (fun h4 => ?_) fun h4 => ?_
  ·try simp only [decide_eq_true_eq] at h4
   have hcz : 0 < (nth L3 f).cs.length := by have hq := h4; omega
   have hcz0 : 0 < (nth L f).cs.length := by omega
   refine s_fact (fun w h => HS.cs_some hf3 hcz h aPk) fun hgk => ?_
   obtain ⟨gk9, hgk⟩ := hgk
   refine s_fact (fun w h => HS.cs_room hf3 h aPk) fun hrK => ?_
   refine aS ?_
   refine s_class (fun w h => HS.cs_take ht3 h aPk) ?_
   refine s_draw [14, 17] mixed ?_
   refine dP 0 ?_
   refine dP 1 ?_
   refine dP 2 ?_
   refine dFa 3 ?_
   refine d_q 4 [[], []] rfl (q_load_at rfl rfl sz_30 (fun w h => HS.nd_cell ht3 h aPk 2 rfl (by decide))) (by kernel_rfl) (by kernel_rfl) (by kernel_rfl) rfl ?_
   refine dP 5 ?_
   refine dP 6 ?_
   refine dFa 7 ?_
   refine d_q 8 [[13, 12, 11], []] rfl (q_load_at rfl rfl sz_30 (fun w h => HS.nd_cell hf3 h aPk 2 rfl (by decide))) (by kernel_rfl) (by kernel_rfl) (by kernel_rfl) rfl ?_
   refine dP 9 ?_
   refine dP 10 ?_
   try refine dWr ?_
   refine d_p 11 rfl (p_indexAddr rfl rfl rfl sl_30 ((nth L3 f).cs.length - 1) (by omega) (by omega) hgk) (by kernel_rfl) rfl rfl ?_
   refine d_q 12 [[13], []] rfl (q_load_at rfl rfl sz_3 (fun w h => HS.cs_rdB hf3 (Ne.symm hft) (k := (nth L3 f).cs.length - 1) (by omega) hgk h aPk)) (by kernel_rfl) (by kernel_rfl) (by kernel_rfl) rfl ?_
   refine d_h 13 rfl (h_buildSlice (cs := [_]) rfl rfl sl_30 zr_3 rfl rfl rfl) (by kernel_rfl) (fun w h => h.ent aEt) rfl (fun b5 _ => ?_)
   refine dBa ?_
   refine d_h 14 rfl (h_callF (Cs := [.own (.slice ((nth L3 t)).ca ((nth L3 t)).cs.length ((nth L3 t)).cc) 3 1 ((nth L3 t)).cs.length (((nth L3 t)).cs.flatMap inV), .blk b5 3 1 (inV ((nth L3 f).cs.getD ((nth L3 f).cs.length - 1) 0))]) rfl fn_151 rfl aPs (fun w1 h1 hf9 => c151e w1 (nth L3 t).ca 0 (nth L3 t).cc (nth L3 t).cs ((nth L3 f).cs.getD ((nth L3 f).cs.length - 1) 0) b5 1 1 hf9 (by omega) (by omega))) (by kernel_rfl) (fun w h => h.ent aEt) rfl (fun b6 _ => ?_)
   refine dTu [17] ?_
   refine dP 15 ?_
   refine dFa 16 ?_
   refine dSt 17 ?_ (hl := (by rw [flat_length nv3]; show _ + 1 ≤ _; omega))
   refine dTu [] ?_
   refine dNi ?_
   refine s_weaken (L' := [(0, _), (2, _), (8, _), (9, _), (12, _)]) aSx (fun _ h => h) ?_
   iterate 2 refine aS ?_
   refine o_ex (fun w h => HS.cs_setB (gn := gn) (cap := cap) (ca := b6.1) (cc := b6.2) (cs := insAt (nth L3 t).cs 0 ((nth L3 f).cs.getD ((nth L3 f).cs.length - 1) 0)) ht3 h aPk aPk aPk) fun L4 => ?_
   refine o_fact (fun w h => h.1) fun hS4 => ?_
   refine o_class (fun w h => h.2) ?_
   have hf4 : f < L4.length := by rw [hS4.len]; exact hf3
   have hF4 : nth L4 f = nth L3 f := hS4.other hf3 (Ne.symm hft)
   have hFc4 : (nth L4 f).cs = (nth L f).cs := by rw [hF4, hFc3]
   have hFl4 : (nth L4 f).cs.length = (nth L f).cs.length := by rw [hFc4]
   refine o_fact (fun w h => HS.cs_form hf4 h aPk) fun hfK4 => ?_
   refine o_fact (fun w h => HS.cs_room hf4 h aPk) fun hrK4 => ?_
   iterate 3 refine aS ?_
   refine o_q (q_load_at rfl rfl sz_30 (fun w h => HS.nd_cell hf4 h aPk 2 rfl (by decide))) rfl ?_
   iterate 2 refine aS ?_
   try refine oWr ?_
   refine o_p (p_slice _ _ 0 ((nth L4 f).cs.length - 1) rfl rfl sl_30 rfl ⟨_, _, rfl, (by omega)⟩ (by omega) (by omega)) rfl ?_
   refine o_slot (show _ = Value.slice (nth L4 f).ca ((nth L4 f).cs.length - 1) (nth L4 f).cc from by rw [subA_0 _ _ _ hfK4]; first | rfl | (congr 1 <;> omega)) ?_
   iterate 2 refine aS ?_
   refine o_h0 (h_store rfl rfl rfl sz_30 rfl aPt (by rw [flat_length nv3]; show _ + 1 ≤ _; omega) rfl) (fun _ _ => ?_)
   refine aS ?_
   exact s_ret0 rfl (fun w' h' => by first | (obtain ⟨L5, hS5, hC⟩ := HS.cs_setC (gn := gn) (cap := cap) (m := (nth L4 f).cs.length - 1) (c := (nth L4 f).cc) hf4 (by omega) (Nat.le_refl _) (by omega) (fun _ h9 => by rw [hF4, hgk] at h9; cases h9) h' aPk aPk; have hz5 : L5.length = L.length := (by rw [hS5.len, hS4.len, hln3]); exact ⟨((gn, cap), L5), rfl, ⟨by rw [hS5.cs, hFc4, hS4.cs, hFc3, hTc3, hS3.es, hS2.es, hS1.es, hF2, hP1, hF1]; exact (givF_1 hPN hFN hTN hcz0).symm, by simp only []; omega, hcm⟩, by simp only []; rw [hz5]; exact hC.ent aEt⟩) | exact ⟨((gn, cap), L3), rfl, ⟨by rw [hS3.es, hS2.es, hS1.es, hF2, hP1, hF1]; exact (givF_0 hPN hFN hTN hcz).symm, by simp only []; omega, hcm⟩, by simp only []; rw [hln3]; exact h'.ent aEt⟩)
  try simp only [decide_eq_false_iff_not] at h4
  have hcz : (nth L f).cs.length = 0 := by have hq := h4; omega
  refine aS ?_
  exact s_ret0 rfl (fun w' h' => by first | (obtain ⟨L5, hS5, hC⟩ := HS.cs_setC (gn := gn) (cap := cap) (m := (nth L4 f).cs.length - 1) (c := (nth L4 f).cc) hf4 (by omega) (Nat.le_refl _) (by omega) (fun _ h9 => by rw [hF4, hgk] at h9; cases h9) h' aPk aPk; have hz5 : L5.length = L.length := (by rw [hS5.len, hS4.len, hln3]); exact ⟨((gn, cap), L5), rfl, ⟨by rw [hS5.cs, hFc4, hS4.cs, hFc3, hTc3, hS3.es, hS2.es, hS1.es, hF2, hP1, hF1]; exact (givF_1 hPN hFN hTN hcz0).symm, by simp only []; omega, hcm⟩, by simp only []; rw [hz5]; exact hC.ent aEt⟩) | exact ⟨((gn, cap), L3), rfl, ⟨by rw [hS3.es, hS2.es, hS1.es, hF2, hP1, hF1]; exact (givF_0 hPN hFN hTN hcz).symm, by simp only []; omega, hcm⟩, by simp only []; rw [hln3]; exact h'.ent aEt⟩)
 skip
 exfalso; first | omega | (simp at h1; done) | (simp_all; done)
set_option maxHeartbeats 1000000 in
theorem c143b (w : World) (bt : Nat) (j : Nat) (mo rm : Int) (gn cap : Nat) (L : List LNd) (p k f t : Nat) (hw : HS w (fps [.blk bt 112 6 (tbV (j : Int) mo rm (some ⟨gn, 0, none⟩) (L).length cap), .blk gn 102 (cap * 3) ((L).flatMap LNd.vals), .star ((L).map (subN 26))]) [.blk bt 112 6 (tbV (j : Int) mo rm (some ⟨gn, 0, none⟩) (L).length cap), .blk gn 102 (cap * 3) ((L).flatMap LNd.vals), .star ((L).map (subN 26))] w) (hnc : L.length ≤ cap) (hcm : cap ≤ maxLen) (hok : GivOk (pln L) p k f t) (hcf : (nth (pln L) p).cs.getD (k + 1) 0 = (f : Int)) (hct : (nth (pln L) p).cs.getD k 0 = (t : Int)) : Calls Tryz.prog 143 #[.pointer (some ⟨bt, 0, none⟩), .int .i64 (p : Int), .int .i64 (k : Int), .bool false] w fun en w' => ∃ g : (Nat × Nat) × List LNd, en = .returned (.tuple #[]) ∧ (pln g.2 = givB (pln L) p k f t ∧ g.2.length ≤ g.1.2 ∧ g.1.2 ≤ maxLen) ∧ HS w (fps [.blk bt 112 6 (tbV (j : Int) mo rm (some ⟨gn, 0, none⟩) (L).length cap), .blk gn 102 (cap * 3) ((L).flatMap LNd.vals), .star ((L).map (subN 26))]) [.blk bt 112 6 (tbV (j : Int) mo rm (some ⟨g.1.1, 0, none⟩) (g.2).length g.1.2), .blk g.1.1 102 (g.1.2 * 3) ((g.2).flatMap LNd.vals), .star ((g.2).map (subN 26))] w' := by
 have hpl := hok.pl
 have hfl := hok.fl
 have htl := hok.tl
 have hln := hok.len
 rw [pln_len] at hpl hfl htl hln
 have hPN := pln_nth hpl
 have hFN := pln_nth hfl
 have hTN := pln_nth htl
 have hke := hok.ke
 have hkc := hok.kc
 have hfe := hok.fe
 have hpf := hok.pf
 have hpt := hok.pt
 have hft := hok.ft
 have hsp := hok.sm p
 have hsf := hok.sm f
 have hst := hok.sm t
 rw [hPN] at hke hkc hcf hct hsp
 rw [hFN] at hfe hsf
 rw [hTN] at hst
 simp only [LNd.pl] at hke hkc hfe hcf hct hsp hsf hst
 refine enter (args := [_, _, _, _]) Tryz.func143 Tryz.ntmps143 rfl rfl hw ?_
 iterate 8 refine aS ?_
 refine o_p (p_indexAddr rfl rfl rfl sl_22 (p) (by omega) (by omega) rfl) rfl ?_
 refine o_slot (show _ = Value.pointer (some ⟨gn, p * 3, none⟩) from by rw [Nat.zero_add]) ?_
 iterate 7 refine aS ?_
 refine s_cond rfl (fun h1 => ?_) fun h1 => ?_
 ·skip
  exfalso; first | omega | (simp at h1; done) | (simp_all; done)
 skip
 refine s_fact (fun w h => HS.cs_some hpl (by omega) h aPk) fun hgc => ?_
 obtain ⟨gc9, hgc⟩ := hgc
 refine s_fact (fun w h => HS.es_some hpl (by omega) h aPk) fun hge => ?_
 obtain ⟨gp9, hge⟩ := hge
 refine s_fact (fun w h => HS.es_some hfl (by omega) h aPk) fun hgf => ?_
 obtain ⟨gf9, hgf⟩ := hgf
 refine s_fact (fun w h => HS.es_room hpl h aPk) fun hrP => ?_
 iterate 2 refine aS ?_
 refine s_draw [] mixed ?_
 refine dP 0 ?_
 refine dP 1 ?_
 refine dFa 2 ?_
 refine dFa 3 ?_
 refine dLd 4 [] ?_
 refine dP 5 ?_
 refine dP 6 ?_
 refine dFa 7 ?_
 refine d_q 8 [] rfl (q_load_at rfl rfl sz_30 (fun w h => HS.nd_cell hpl h aPk 2 rfl (by decide))) (by kernel_rfl) (by kernel_rfl) (by kernel_rfl) rfl ?_
 refine dP 9 ?_
 refine dP 10 ?_
 try refine dWr ?_
 refine d_p 11 rfl (p_indexAddr rfl rfl rfl sl_30 (k + 1) (by omega) (by omega) hgc) (by kernel_rfl) rfl rfl ?_
 refine d_q 12 [] rfl (q_load_at rfl rfl sz_3 (fun w h => HS.cs_rd hpl (by omega) hgc h aPk)) (by kernel_rfl) (by kernel_rfl) (by kernel_rfl) rfl ?_
 refine d_slot (show _ = Value.int .i64 (f : Int) from by rw [hcf]) ?_
 refine d_p 13 rfl (p_indexAddr rfl rfl rfl sl_22 (f) (by omega) (by omega) rfl) (by kernel_rfl) rfl rfl ?_
 refine d_slot (show _ = Value.pointer (some ⟨gn, f * 3, none⟩) from by rw [Nat.zero_add]) ?_
 refine dP 14 ?_
 refine dP 15 ?_
 refine dFa 16 ?_
 refine dFa 17 ?_
 refine dLd 18 [] ?_
 refine dP 19 ?_
 refine dP 20 ?_
 refine dFa 21 ?_
 refine d_q 22 [] rfl (q_load_at rfl rfl sz_30 (fun w h => HS.nd_cell hpl h aPk 2 rfl (by decide))) (by kernel_rfl) (by kernel_rfl) (by kernel_rfl) rfl ?_
 refine dP 23 ?_
 refine d_p 24 rfl (p_indexAddr rfl rfl rfl sl_30 (k) (by omega) (by omega) hgc) (by kernel_rfl) rfl rfl ?_
 refine d_q 25 [] rfl (q_load_at rfl rfl sz_3 (fun w h => HS.cs_rd hpl (by omega) hgc h aPk)) (by kernel_rfl) (by kernel_rfl) (by kernel_rfl) rfl ?_
 refine d_slot (show _ = Value.int .i64 (t : Int) from by rw [hct]) ?_
 refine d_p 26 rfl (p_indexAddr rfl rfl rfl sl_22 (t) (by omega) (by omega) rfl) (by kernel_rfl) rfl rfl ?_
 refine d_slot (show _ = Value.pointer (some ⟨gn, t * 3, none⟩) from by rw [Nat.zero_add]) ?_
 refine dP 27 ?_
 refine dP 28 ?_
 refine dNi ?_
 refine aS ?_
 refine s_weaken (L' := [(2, _), (8, _), (13, _), (14, _)]) aSx (fun _ h => h) ?_
 refine s_class (fun w h => HS.es_take htl h aPk) ?_
 refine s_draw [13, 16] mixed ?_
 refine dP 0 ?_
 refine dP 1 ?_
 refine dP 2 ?_
 refine dFa 3 ?_
 refine d_q 4 [[], []] rfl (q_load_at rfl rfl sz_77 (fun w h => HS.nd_cell htl h aPk 1 rfl (by decide))) (by kernel_rfl) (by kernel_rfl) (by kernel_rfl) rfl ?_
 refine dP 5 ?_
 refine dP 6 ?_
 refine dFa 7 ?_
 refine d_q 8 [[12, 11, 10], []] rfl (q_load_at rfl rfl sz_77 (fun w h => HS.nd_cell hpl h aPk 1 rfl (by decide))) (by kernel_rfl) (by kernel_rfl) (by kernel_rfl) rfl ?_
 refine dP 9 ?_
 refine d_p 10 rfl (p_indexAddr rfl rfl rfl sl_77 (k) (by omega) (by omega) hge) (by kernel_rfl) rfl rfl ?_
 refine d_q 11 [[12], []] rfl (q_load_atn _ rfl rfl sz_26 rfl (fun w h => HS.es_rdB hpl (Ne.symm hpt) (by omega) hge h aPk)) (by kernel_rfl) (by kernel_rfl) (by kernel_rfl) rfl ?_
 refine d_h 12 rfl (h_buildSlice (cs := [_, _]) rfl rfl sl_77 zr_26 rfl rfl rfl) (by kernel_rfl) (fun w h => h.ent aEt) rfl (fun b2 _ => ?_)
 refine dBa ?_
 refine d_h 13 rfl (h_appendS (TEnt.vals (nth (nth L p).es k)) rfl rfl rfl sl_77 Tryz.underlying77 zr_26 rfl aPk (src_blk aPk) rfl (ev1 _) (by omega) (by simp only [maxLen]; omega)) (by kernel_rfl) (fun w h => h.ent aEt) rfl (fun b3 _ => ?_)
 refine dTu [16] ?_
 refine dP 14 ?_
 refine dFa 15 ?_
 refine dSt 16 ?_ (hl := (by rw [flat_length nv3]; show _ + 1 ≤ _; omega))
 refine dTu [] ?_
 refine dNi ?_
 refine aS ?_
 refine s_ex (fun w h => HS.es_setA (gn := gn) (cap := cap) (ea := b3.1) (ec := b3.2) (x := (nth (nth L p).es k)) htl h aPk aPk aPk) fun L1 => ?_
 refine s_fact (fun w h => h.1) fun hS1 => ?_
 refine s_class (fun w h => h.2) ?_
 have hp1 : p < L1.length := by rw [hS1.len]; exact hpl
 have hf1 : f < L1.length := by rw [hS1.len]; exact hfl
 have ht1 : t < L1.length := by rw [hS1.len]; exact htl
 have hP1 : nth L1 p = nth L p := hS1.other hpl (Ne.symm hpt)
 have hF1 : nth L1 f = nth L f := hS1.other hfl (Ne.symm hft)
 have hT1 := hS1.at_
 have hFl1 : (nth L1 f).es.length = (nth L f).es.length := by rw [hF1]
 have hPl1 : (nth L1 p).es.length = (nth L p).es.length := by rw [hP1]
 have hge1 : (nth L1 p).ea = some ⟨gp9, 0, none⟩ := by rw [hP1]; exact hge
 have hgf1 : (nth L1 f).ea = some ⟨gf9, 0, none⟩ := by rw [hF1]; exact hgf
 refine s_class (fun w h => HS.es_open hp1 (by rw [hP1]; omega) hge1 h aPk) ?_
 refine s_draw [12] mixed ?_
 refine dP 0 ?_
 refine dP 1 ?_
 refine dFa 2 ?_
 refine d_q 3 [[]] rfl (q_load_at rfl rfl sz_77 (fun w h => HS.nd_cell hp1 h aPk 1 rfl (by decide))) (by kernel_rfl) (by kernel_rfl) (by kernel_rfl) rfl ?_
 refine dP 4 ?_
 refine dP 5 ?_
 refine dP 6 ?_
 refine dFa 7 ?_
 refine d_q 8 [[]] rfl (q_load_at rfl rfl sz_77 (fun w h => HS.nd_cell hf1 h aPk 1 rfl (by decide))) (by kernel_rfl) (by kernel_rfl) (by kernel_rfl) rfl ?_
 refine d_p 9 rfl (p_indexAddr rfl rfl rfl sl_77 (0) (by omega) (by omega) hgf1) (by kernel_rfl) rfl rfl ?_
 refine d_q 10 [[]] rfl (q_load_atn _ rfl rfl sz_26 rfl (fun w h => HS.es_rdB hf1 hpf (k := 0) (by rw [hF1]; omega) hgf1 h aPk)) (by kernel_rfl) (by kernel_rfl) (by kernel_rfl) rfl ?_
 refine d_p 11 rfl (p_indexAddr rfl rfl rfl sl_77 (k) (by omega) (by omega) hge1) (by kernel_rfl) rfl rfl ?_
 refine d_slot (show _ = Value.pointer (some ⟨gp9, k * 2, none⟩) from by rw [Nat.zero_add]) ?_
 refine dSt 12 ?_ (hl := (by rw [flat_length ev2]; show _ + 2 ≤ _; omega))
 refine dTu [] ?_
 refine dNi ?_
 refine aS ?_
 refine s_weaken (L' := [(13, _), (14, _)]) aSx (fun _ h => h) ?_
 iterate 2 refine aS ?_
 refine o_ex (fun w h => HS.es_upd (gn := gn) (cap := cap) (g := gp9) (k := k) (x := nth (nth L1 f).es 0) hp1 (by rw [hP1]; exact hke) hge1 h aPk aPk aPk (by rw [hP1]; exact hrP)) fun L2 => ?_
 refine o_fact (fun w h => h.1) fun hS2 => ?_
 refine o_class (fun w h => h.2) ?_
 have hf2 : f < L2.length := by rw [hS2.len]; exact hf1
 have ht2 : t < L2.length := by rw [hS2.len]; exact ht1
 have hF2 : nth L2 f = nth L f := by rw [hS2.other hf1 hpf, hF1]
 have hT2 := hS2.other ht1 hpt
 have hFl2 : (nth L2 f).es.length = (nth L f).es.length := by rw [hF2]
 have hFe2 : (nth L2 f).ec = (nth L f).ec := by rw [hF2]
 refine o_class (fun w h => HS.es_take hf2 h aPk) ?_
 iterate 3 refine aS ?_
 refine o_q (q_load_at rfl rfl sz_77 (fun w h => HS.nd_cell hf2 h aPk 1 rfl (by decide))) rfl ?_
 refine o_h (h_callF (Cs := [.own (.slice ((nth L2 f)).ea ((nth L2 f)).es.length ((nth L2 f)).ec) 26 2 ((nth L2 f)).es.length (((nth L2 f)).es.flatMap TEnt.vals)]) rfl fn_103 rfl aPs (fun w1 h1 hf9 => c103e w1 (nth L2 f).ea 0 (nth L2 f).ec (nth L2 f).es hf9 (by omega) (by omega))) rfl (fun _ _ => ?_)
 iterate 2 refine aS ?_
 refine o_h0 (h_store rfl rfl rfl sz_77 rfl aPt (by rw [flat_length nv3]; show _ + 1 ≤ _; omega) rfl) (fun _ _ => ?_)
 iterate 4 refine aS ?_
 refine o_ex (fun w h => HS.es_setB (gn := gn) (cap := cap) (ea := (nth L2 f).ea) (ec := (nth L2 f).ec) (es := others (nth L2 f).es 0) hf2 h aPk aPk aPk) fun L3 => ?_
 refine o_fact (fun w h => h.1) fun hS3 => ?_
 refine o_class (fun w h => h.2) ?_
 have hf3 : f < L3.length := by rw [hS3.len]; exact hf2
 have ht3 : t < L3.length := by rw [hS3.len]; exact ht2
 have hT3 := (hS3.other ht2 hft).trans (hT2.trans hT1)
 have hF3 := hS3.at_
 have hFc3 : (nth L3 f).cs = (nth L f).cs := by rw [hF3, hF2]
 have hTc3 : (nth L3 t).cs = (nth L t).cs := by rw [hT3]
 have hln3 : L3.length = L.length := by rw [hS3.len, hS2.len, hS1.len]
 have hTl3 : (nth L3 t).cs.length = (nth L t).cs.length := by rw [hTc3]
 have hFl3 : (nth L3 f).cs.length = (nth L f).cs.length := by rw [hFc3]
 iterate 2 refine aS ?_
 refine o_q (q_load_at rfl rfl sz_30 (fun w h => HS.nd_cell hf3 h aPk 2 rfl (by decide))) rfl ?_
 iterate 3 refine aS ?_
 refine s_cond rfl (fun h4 => ?_) fun h4 => ?_
 ·try simp only [decide_eq_true_eq] at h4
  have hcz : 0 < (nth L3 f).cs.length := by have hq := h4; omega
  have hcz0 : 0 < (nth L f).cs.length := by omega
  refine s_fact (fun w h => HS.cs_some hf3 hcz h aPk) fun hgk => ?_
  obtain ⟨gk9, hgk⟩ := hgk
  refine aS ?_
  refine s_class (fun w h => HS.cs_take ht3 h aPk) ?_
  refine s_draw [12, 15] mixed ?_
  refine dP 0 ?_
  refine dP 1 ?_
  refine dP 2 ?_
  refine dFa 3 ?_
  refine d_q 4 [[], []] rfl (q_load_at rfl rfl sz_30 (fun w h => HS.nd_cell ht3 h aPk 2 rfl (by decide))) (by kernel_rfl) (by kernel_rfl) (by kernel_rfl) rfl ?_
  refine dP 5 ?_
  refine dP 6 ?_
  refine dFa 7 ?_
  refine d_q 8 [[11, 10, 9], []] rfl (q_load_at rfl rfl sz_30 (fun w h => HS.nd_cell hf3 h aPk 2 rfl (by decide))) (by kernel_rfl) (by kernel_rfl) (by kernel_rfl) rfl ?_
  refine d_p 9 rfl (p_indexAddr rfl rfl rfl sl_30 (0) (by omega) (by omega) hgk) (by kernel_rfl) rfl rfl ?_
  refine d_q 10 [[11], []] rfl (q_load_at rfl rfl sz_3 (fun w h => HS.cs_rdB hf3 (Ne.symm hft) (k := 0) (by omega) hgk h aPk)) (by kernel_rfl) (by kernel_rfl) (by kernel_rfl) rfl ?_
  refine d_h 11 rfl (h_buildSlice (cs := [_]) rfl rfl sl_30 zr_3 rfl rfl rfl) (by kernel_rfl) (fun w h => h.ent aEt) rfl (fun b5 _ => ?_)
  refine dBa ?_
  refine d_h 12 rfl (h_appendS (inV ((nth L3 f).cs.getD 0 0)) rfl rfl rfl sl_30 Tryz.underlying30 zr_3 rfl aPk (src_blk aPk) rfl (iv1c _) (by omega) (by simp only [maxLen]; omega)) (by kernel_rfl) (fun w h => h.ent aEt) rfl (fun b6 _ => ?_)
  refine dTu [15] ?_
  refine dP 13 ?_
  refine dFa 14 ?_
  refine dSt 15 ?_ (hl := (by rw [flat_length nv3]; show _ + 1 ≤ _; omega))
  refine dTu [] ?_
  refine dNi ?_
  refine s_weaken (L' := [(13, _)]) aSx (fun _ h => h) ?_
  iterate 2 refine aS ?_
  refine o_ex (fun w h => HS.cs_setA (gn := gn) (cap := cap) (ca := b6.1) (cc := b6.2) (x := (nth L3 f).cs.getD 0 0) ht3 h aPk aPk aPk) fun L4 => ?_
  refine o_fact (fun w h => h.1) fun hS4 => ?_
  refine o_class (fun w h => h.2) ?_
  have hf4 : f < L4.length := by rw [hS4.len]; exact hf3
  have hF4 : nth L4 f = nth L3 f := hS4.other hf3 (Ne.symm hft)
  have hFc4 : (nth L4 f).cs = (nth L f).cs := by rw [hF4, hFc3]
  have hFl4 : (nth L4 f).cs.length = (nth L f).cs.length := by rw [hFc4]
  refine o_class (fun w h => HS.cs_take hf4 h aPk) ?_
  iterate 3 refine aS ?_
  refine o_q (q_load_at rfl rfl sz_30 (fun w h => HS.nd_cell hf4 h aPk 2 rfl (by decide))) rfl ?_
  refine o_h (h_callF (Cs := [.own (.slice ((nth L4 f)).ca ((nth L4 f)).cs.length ((nth L4 f)).cc) 3 1 ((nth L4 f)).cs.length (((nth L4 f)).cs.flatMap inV)]) rfl fn_152 rfl aPs (fun w1 h1 hf9 => c152e w1 (nth L4 f).ca 0 (nth L4 f).cc (nth L4 f).cs hf9 (by omega) (by omega))) rfl (fun _ _ => ?_)
  iterate 2 refine aS ?_
  refine o_h0 (h_store rfl rfl rfl sz_30 rfl aPt (by rw [flat_length nv3]; show _ + 1 ≤ _; omega) rfl) (fun _ _ => ?_)
  refine aS ?_
  exact s_end0 rfl (fun w' h' => by first | exact ⟨((gn, cap), L3), rfl, ⟨by rw [hS3.es, hS2.es, hS1.es, hF2, hP1, hF1]; exact (givB_0 hPN hFN hTN hcz).symm, by simp only []; omega, hcm⟩, by simp only []; rw [hln3]; exact h'.ent aEt⟩ | (obtain ⟨L5, hS5, hC⟩ := HS.cs_setB (gn := gn) (cap := cap) (ca := (nth L4 f).ca) (cc := (nth L4 f).cc) (cs := others (nth L4 f).cs 0) hf4 h' aPk aPk aPk; have hz5 : L5.length = L.length := (by rw [hS5.len, hS4.len, hln3]); exact ⟨((gn, cap), L5), rfl, ⟨by rw [hS5.cs, hFc4, hS4.cs, hFc3, hTc3, hS3.es, hS2.es, hS1.es, hF2, hP1, hF1]; exact (givB_1 hPN hFN hTN hcz0).symm, by simp only []; omega, hcm⟩, by simp only []; rw [hz5]; exact hC.ent aEt⟩))
 try simp only [decide_eq_false_iff_not] at h4
 have hcz : (nth L f).cs.length = 0 := by have hq := h4; omega
 refine aS ?_
 exact s_end0 rfl (fun w' h' => by first | exact ⟨((gn, cap), L3), rfl, ⟨by rw [hS3.es, hS2.es, hS1.es, hF2, hP1, hF1]; exact (givB_0 hPN hFN hTN hcz).symm, by simp only []; omega, hcm⟩, by simp only []; rw [hln3]; exact h'.ent aEt⟩ | (obtain ⟨L5, hS5, hC⟩ := HS.cs_setB (gn := gn) (cap := cap) (ca := (nth L4 f).ca) (cc := (nth L4 f).cc) (cs := others (nth L4 f).cs 0) hf4 h' aPk aPk aPk; have hz5 : L5.length = L.length := (by rw [hS5.len, hS4.len, hln3]); exact ⟨((gn, cap), L5), rfl, ⟨by rw [hS5.cs, hFc4, hS4.cs, hFc3, hTc3, hS3.es, hS2.es, hS1.es, hF2, hP1, hF1]; exact (givB_1 hPN hFN hTN hcz0).symm, by simp only []; omega, hcm⟩, by simp only []; rw [hz5]; exact hC.ent aEt⟩))
theorem sl_199 : tsl Tryz.prog 199 = some (77, 1, 24) := by kernel_rfl
theorem fn_163 : isFn Tryz.prog 163 = true := by kernel_rfl
theorem sl_200 : tsl Tryz.prog 200 = some (30, 1, 24) := by kernel_rfl
theorem fn_164 : isFn Tryz.prog 164 = true := by kernel_rfl
theorem c163 (w : World) (n : Nat) (hn : n ≤ 1000000) : Calls Tryz.prog 163 #[.slice none 0 0, .int .i64 (n : Int)] w fun en w' => ∃ g : Option Addr × Nat, en = .returned (.slice g.1 0 g.2) ∧ True ∧ HS w [] [.own (.slice g.1 0 g.2) 26 2 0 []] w' := by
 refine enter (args := [_, _]) Tryz.func163 Tryz.ntmps163 rfl rfl (HS.refl w []) ?_
 iterate 10 refine aS ?_
 refine s_cond rfl (fun h1 => ?_) fun h1 => ?_
 ·try simp only [decide_eq_true_eq] at h1
  exfalso; first | omega | (simp at h1; done) | (simp_all; done)
 try simp only [decide_eq_false_iff_not] at h1
 iterate 6 refine aS ?_
 refine o_p (p_cap rfl rfl Tryz.underlying77) rfl ?_
 iterate 3 refine aS ?_
 try refine oWr ?_
 refine aS ?_
 try refine oWr ?_
 refine o_slot (show _ = Value.int .i64 (n : Int) from by first | rfl | (congr 1; omega)) ?_
 iterate 7 refine aS ?_
 refine s_cond rfl (fun h2 => ?_) fun h2 => ?_
 ·try simp only [decide_eq_true_eq] at h2
  iterate 3 refine aS ?_
  refine o_p (p_cap rfl rfl Tryz.underlying77) rfl ?_
  refine o_p (p_slice _ _ 0 0 rfl rfl sl_77 rfl ⟨_, _, rfl, rfl⟩ (by omega) (by omega)) rfl ?_
  refine o_slot (show _ = Value.slice none 0 0 from rfl) ?_
  refine aS ?_
  refine o_h (h_append_zeros (m := n) (olds := []) rfl rfl rfl sl_77 ki_3 zr_26 rfl (by decide) (by omega) (by omega) (fun w h hne => absurd rfl hne) rfl (by omega) (by simp only [maxLen]; omega)) rfl (fun ⟨b3, c4⟩ ⟨h5, k6⟩ => ?_)
  iterate 2 refine aS ?_
  refine o_p (p_slice _ _ 0 0 rfl rfl sl_77 rfl ⟨_, _, rfl, rfl⟩ (by omega) (by omega)) rfl ?_
  refine o_slot (show _ = Value.slice (some ⟨b3, 0, none⟩) 0 c4 from by rw [subA_zero] <;> rfl) ?_
  iterate 7 refine aS ?_
  exact s_retv (rs := [.tmp 4]) rfl (.tmp rfl (.nil)) (fun w' h' => by first | exact ⟨(some ⟨b3, 0, none⟩, c4), rfl, trivial, (HS.to_own (n := 0) (xs := []) (ds := zrow [.string (bs []), .string (bs [])] (n * 2)) aPk h' rfl rfl (by omega) (by omega)).ent aEt⟩ | exact ⟨(none, 0), rfl, trivial, (h'.own_nil 26 2).ent aEt⟩)
 try simp only [decide_eq_false_iff_not] at h2
 iterate 6 refine aS ?_
 exact s_retv (rs := [.tmp 4]) rfl (.tmp rfl (.nil)) (fun w' h' => by first | exact ⟨(some ⟨b3, 0, none⟩, c4), rfl, trivial, (HS.to_own (n := 0) (xs := []) (ds := zrow [.string (bs []), .string (bs [])] (n * 2)) aPk h' rfl rfl (by omega) (by omega)).ent aEt⟩ | exact ⟨(none, 0), rfl, trivial, (h'.own_nil 26 2).ent aEt⟩)
theorem c153 (w : World) (a : Option Addr) (cap : Nat) (rs : List (RowV TEnt)) (hs : Vl w a (rs.map RowV.v)) (hr : ∀ r ∈ rs, Rw TEnt.vals 2 w [] r.a r.l) (hm : (rs.flatMap RowV.l).length ≤ 1000000) (hn : rs.length ≤ 1000) : Calls Tryz.prog 153 #[.slice a rs.length cap] w fun en w' => ∃ g : Option Addr × Nat, en = .returned (.slice g.1 (rs.flatMap RowV.l).length g.2) ∧ True ∧ HS w [] [.own (.slice g.1 (rs.flatMap RowV.l).length g.2) 26 2 (rs.flatMap RowV.l).length ((rs.flatMap RowV.l).flatMap TEnt.vals)] w' := by
 refine enter (args := [_]) Tryz.func153 Tryz.ntmps153 rfl rfl (HS.refl w []) ?_
 iterate 16 refine aS ?_
 refine s_loopI (α := Nat) [3, 5, 11, 12, 13, 14, 15, 16, 17, 18, 19, 20, 21, 22] (fun k => [(11, .int .i64 (k : Int)), (3, .int .i64 ((((rs.take k).flatMap RowV.l).length : Nat) : Int))]) (fun _ => HS w [] []) (fun k => k ≤ rs.length) (fun k => rs.length - k) 0 (Nat.zero_le _) aSx (fun w h => h.ent aEt) (fun k hk1 => ?_)
 iterate 5 refine aS ?_
 refine s_cond rfl (fun h1 => ?_) fun h1 => ?_
 ·try simp only [decide_eq_true_eq] at h1
  have hk : k < rs.length := by omega
  have hst := congrArg List.length (rv_succ hk)
  rw [List.length_append] at hst
  have hle := rv_le rs (k + 1)
  iterate 5 refine aS ?_
  refine o_p (p_indexAddr rfl rfl rfl sl_199 (k) (by omega) (by omega) (hs.some (by rw [List.length_map]; omega))) rfl ?_
  refine o_q (q_load_old rfl rfl sz_77 ((hs.rd (rv_get hk)))) rfl ?_
  iterate 8 refine aS ?_
  try refine oWr ?_
  refine o_slot (show _ = Value.int .i64 ((((rs.take k).flatMap RowV.l).length + (rs.getD k default).l.length : Nat) : Int) from by congr 1) ?_
  iterate 7 refine aS ?_
  refine s_cond rfl (fun h2 => ?_) fun h2 => ?_
  ·try simp only [decide_eq_true_eq] at h2
   exfalso; first | omega | (simp at h2; done) | (simp_all; done)
  try simp only [decide_eq_false_iff_not] at h2
  iterate 4 refine aS ?_
  try refine oWr ?_
  iterate 2 refine aS ?_
  exact s_backI (k + 1) (by omega) (by omega) (by rw [hst]; exact aSx) (fun w h => h.ent aEt)
 try simp only [decide_eq_false_iff_not] at h1
 obtain rfl : k = rs.length := by omega
 rw [List.take_length]
 refine s_exit_to rfl ?_
 iterate 3 refine aS ?_
 refine o_h (h_call rfl fn_163 rfl (fun w1 h1 => c163 w1 (rs.flatMap RowV.l).length hm)) rfl (fun gg _ => ?_)
 iterate 10 refine aS ?_
 refine s_loopI (α := Nat × Option Addr × Nat) [6, 8, 27, 28, 29, 30, 31, 32, 33, 34] (fun x => [(27, .int .i64 (x.1 : Int)), (6, .slice x.2.1 ((rs.take x.1).flatMap RowV.l).length x.2.2)]) (fun x => HS w [] [.own (.slice x.2.1 ((rs.take x.1).flatMap RowV.l).length x.2.2) 26 2 ((rs.take x.1).flatMap RowV.l).length (((rs.take x.1).flatMap RowV.l).flatMap TEnt.vals)]) (fun x => x.1 ≤ rs.length) (fun x => rs.length - x.1) (0, gg.1, gg.2) (Nat.zero_le _) aSx (fun w h => h.ent aEt) (fun ⟨k, ga, gc⟩ hk1 => ?_)
 dsimp only
 simp only [] at hk1
 iterate 5 refine aS ?_
 refine s_cond rfl (fun h3 => ?_) fun h3 => ?_
 ·try simp only [decide_eq_true_eq] at h3
  have hk : k < rs.length := by omega
  have hst := rv_succ hk
  have hle := rv_le rs (k + 1)
  rw [hst, List.length_append] at hle
  have hmem : rs.getD k default ∈ rs := getD_mem hk
  iterate 5 refine aS ?_
  refine o_p (p_indexAddr rfl rfl rfl sl_199 (k) (by omega) (by omega) (hs.some (by rw [List.length_map]; omega))) rfl ?_
  refine o_q (q_load_old rfl rfl sz_77 ((hs.rd (rv_get hk)))) rfl ?_
  iterate 5 refine aS ?_
  refine o_h (h_appendS ((rs.getD k default).l.flatMap TEnt.vals) rfl rfl rfl sl_77 Tryz.underlying77 zr_26 rfl aPk (fun w h => Rw.src ev2 (hr _ hmem) h) (flat_length ev2 _) (flat_one ev1 _) (by omega) (by simp only [maxLen]; omega)) rfl (fun b4 _ => ?_)
  iterate 5 refine aS ?_
  try refine oWr ?_
  iterate 2 refine aS ?_
  exact s_backI (k + 1, b4.1, b4.2) (by (try simp only []); omega) (by (try simp only []); omega) (by dsimp only; rw [hst, List.length_append]; exact aSx) (fun w h => by dsimp only; rw [hst, List.length_append, flat_append]; exact h.ent aEt)
 try simp only [decide_eq_false_iff_not] at h3
 obtain rfl : k = rs.length := by omega
 rw [List.take_length]
 refine s_exit_to rfl ?_
 iterate 5 refine aS ?_
 exact s_retv (rs := [.tmp 2]) rfl (.tmp rfl (.nil)) (fun w' h' => ⟨(ga, gc), rfl, trivial, h'.ent aEt⟩)
theorem c164 (w : World) (n : Nat) (hn : n ≤ 1000000) : Calls Tryz.prog 164 #[.slice none 0 0, .int .i64 (n : Int)] w fun en w' => ∃ g : Option Addr × Nat, en = .returned (.slice g.1 0 g.2) ∧ True ∧ HS w [] [.own (.slice g.1 0 g.2) 3 1 0 []] w' := by
 refine enter (args := [_, _]) Tryz.func164 Tryz.ntmps164 rfl rfl (HS.refl w []) ?_
 iterate 10 refine aS ?_
 refine s_cond rfl (fun h1 => ?_) fun h1 => ?_
 ·try simp only [decide_eq_true_eq] at h1
  exfalso; first | omega | (simp at h1; done) | (simp_all; done)
 try simp only [decide_eq_false_iff_not] at h1
 iterate 6 refine aS ?_
 refine o_p (p_cap rfl rfl Tryz.underlying30) rfl ?_
 iterate 3 refine aS ?_
 try refine oWr ?_
 refine aS ?_
 try refine oWr ?_
 refine o_slot (show _ = Value.int .i64 (n : Int) from by first | rfl | (congr 1; omega)) ?_
 iterate 7 refine aS ?_
 refine s_cond rfl (fun h2 => ?_) fun h2 => ?_
 ·try simp only [decide_eq_true_eq] at h2
  iterate 3 refine aS ?_
  refine o_p (p_cap rfl rfl Tryz.underlying30) rfl ?_
  refine o_p (p_slice _ _ 0 0 rfl rfl sl_30 rfl ⟨_, _, rfl, rfl⟩ (by omega) (by omega)) rfl ?_
  refine o_slot (show _ = Value.slice none 0 0 from rfl) ?_
  refine aS ?_
  refine o_h (h_append_zeros (m := n) (olds := []) rfl rfl rfl sl_30 ki_3 zr_3 rfl (by decide) (by omega) (by omega) (fun w h hne => absurd rfl hne) rfl (by omega) (by simp only [maxLen]; omega)) rfl (fun ⟨b3, c4⟩ ⟨h5, k6⟩ => ?_)
  iterate 2 refine aS ?_
  refine o_p (p_slice _ _ 0 0 rfl rfl sl_30 rfl ⟨_, _, rfl, rfl⟩ (by omega) (by omega)) rfl ?_
  refine o_slot (show _ = Value.slice (some ⟨b3, 0, none⟩) 0 c4 from by rw [subA_zero] <;> rfl) ?_
  iterate 7 refine aS ?_
  exact s_retv (rs := [.tmp 4]) rfl (.tmp rfl (.nil)) (fun w' h' => by first | exact ⟨(some ⟨b3, 0, none⟩, c4), rfl, trivial, (HS.to_own (n := 0) (xs := []) (ds := zrow [.int .i64 0] (n * 1)) aPk h' rfl rfl (by omega) (by omega)).ent aEt⟩ | exact ⟨(none, 0), rfl, trivial, (h'.own_nil 3 1).ent aEt⟩)
 try simp only [decide_eq_false_iff_not] at h2
 iterate 6 refine aS ?_
 exact s_retv (rs := [.tmp 4]) rfl (.tmp rfl (.nil)) (fun w' h' => by first | exact ⟨(some ⟨b3, 0, none⟩, c4), rfl, trivial, (HS.to_own (n := 0) (xs := []) (ds := zrow [.int .i64 0] (n * 1)) aPk h' rfl rfl (by omega) (by omega)).ent aEt⟩ | exact ⟨(none, 0), rfl, trivial, (h'.own_nil 3 1).ent aEt⟩)
theorem c154 (w : World) (a : Option Addr) (cap : Nat) (rs : List (RowV Int)) (hs : Vl w a (rs.map RowV.v)) (hr : ∀ r ∈ rs, Rw inV 1 w [] r.a r.l) (hm : (rs.flatMap RowV.l).length ≤ 1000000) (hn : rs.length ≤ 1000) : Calls Tryz.prog 154 #[.slice a rs.length cap] w fun en w' => ∃ g : Option Addr × Nat, en = .returned (.slice g.1 (rs.flatMap RowV.l).length g.2) ∧ True ∧ HS w [] [.own (.slice g.1 (rs.flatMap RowV.l).length g.2) 3 1 (rs.flatMap RowV.l).length ((rs.flatMap RowV.l).flatMap inV)] w' := by
 refine enter (args := [_]) Tryz.func154 Tryz.ntmps154 rfl rfl (HS.refl w []) ?_
 iterate 16 refine aS ?_
 refine s_loopI (α := Nat) [3, 5, 11, 12, 13, 14, 15, 16, 17, 18, 19, 20, 21, 22] (fun k => [(11, .int .i64 (k : Int)), (3, .int .i64 ((((rs.take k).flatMap RowV.l).length : Nat) : Int))]) (fun _ => HS w [] []) (fun k => k ≤ rs.length) (fun k => rs.length - k) 0 (Nat.zero_le _) aSx (fun w h => h.ent aEt) (fun k hk1 => ?_)
 iterate 5 refine aS ?_
 refine s_cond rfl (fun h1 => ?_) fun h1 => ?_
 ·try simp only [decide_eq_true_eq] at h1
  have hk : k < rs.length := by omega
  have hst := congrArg List.length (rv_succ hk)
  rw [List.length_append] at hst
  have hle := rv_le rs (k + 1)
  iterate 5 refine aS ?_
  refine o_p (p_indexAddr rfl rfl rfl sl_200 (k) (by omega) (by omega) (hs.some (by rw [List.length_map]; omega))) rfl ?_
  refine o_q (q_load_old rfl rfl sz_30 ((hs.rd (rv_get hk)))) rfl ?_
  iterate 8 refine aS ?_
  try refine oWr ?_
  refine o_slot (show _ = Value.int .i64 ((((rs.take k).flatMap RowV.l).length + (rs.getD k default).l.length : Nat) : Int) from by congr 1) ?_
  iterate 7 refine aS ?_
  refine s_cond rfl (fun h2 => ?_) fun h2 => ?_
  ·try simp only [decide_eq_true_eq] at h2
   exfalso; first | omega | (simp at h2; done) | (simp_all; done)
  try simp only [decide_eq_false_iff_not] at h2
  iterate 4 refine aS ?_
  try refine oWr ?_
  iterate 2 refine aS ?_
  exact s_backI (k + 1) (by omega) (by omega) (by rw [hst]; exact aSx) (fun w h => h.ent aEt)
 try simp only [decide_eq_false_iff_not] at h1
 obtain rfl : k = rs.length := by omega
 rw [List.take_length]
 refine s_exit_to rfl ?_
 iterate 3 refine aS ?_
 refine o_h (h_call rfl fn_164 rfl (fun w1 h1 => c164 w1 (rs.flatMap RowV.l).length hm)) rfl (fun gg _ => ?_)
 iterate 10 refine aS ?_
 refine s_loopI (α := Nat × Option Addr × Nat) [6, 8, 27, 28, 29, 30, 31, 32, 33, 34] (fun x => [(27, .int .i64 (x.1 : Int)), (6, .slice x.2.1 ((rs.take x.1).flatMap RowV.l).length x.2.2)]) (fun x => HS w [] [.own (.slice x.2.1 ((rs.take x.1).flatMap RowV.l).length x.2.2) 3 1 ((rs.take x.1).flatMap RowV.l).length (((rs.take x.1).flatMap RowV.l).flatMap inV)]) (fun x => x.1 ≤ rs.length) (fun x => rs.length - x.1) (0, gg.1, gg.2) (Nat.zero_le _) aSx (fun w h => h.ent aEt) (fun ⟨k, ga, gc⟩ hk1 => ?_)
 dsimp only
 simp only [] at hk1
 iterate 5 refine aS ?_
 refine s_cond rfl (fun h3 => ?_) fun h3 => ?_
 ·try simp only [decide_eq_true_eq] at h3
  have hk : k < rs.length := by omega
  have hst := rv_succ hk
  have hle := rv_le rs (k + 1)
  rw [hst, List.length_append] at hle
  have hmem : rs.getD k default ∈ rs := getD_mem hk
  iterate 5 refine aS ?_
  refine o_p (p_indexAddr rfl rfl rfl sl_200 (k) (by omega) (by omega) (hs.some (by rw [List.length_map]; omega))) rfl ?_
  refine o_q (q_load_old rfl rfl sz_30 ((hs.rd (rv_get hk)))) rfl ?_
  iterate 5 refine aS ?_
  refine o_h (h_appendS ((rs.getD k default).l.flatMap inV) rfl rfl rfl sl_30 Tryz.underlying30 zr_3 rfl aPk (fun w h => Rw.src iv1 (hr _ hmem) h) (flat_length iv1 _) (flat_one iv1c _) (by omega) (by simp only [maxLen]; omega)) rfl (fun b4 _ => ?_)
  iterate 5 refine aS ?_
  try refine oWr ?_
  iterate 2 refine aS ?_
  exact s_backI (k + 1, b4.1, b4.2) (by (try simp only []); omega) (by (try simp only []); omega) (by dsimp only; rw [hst, List.length_append]; exact aSx) (fun w h => by dsimp only; rw [hst, List.length_append, flat_append]; exact h.ent aEt)
 try simp only [decide_eq_false_iff_not] at h3
 obtain rfl : k = rs.length := by omega
 rw [List.take_length]
 refine s_exit_to rfl ?_
 iterate 5 refine aS ?_
 exact s_retv (rs := [.tmp 2]) rfl (.tmp rfl (.nil)) (fun w' h' => ⟨(ga, gc), rfl, trivial, h'.ent aEt⟩)
theorem fn_153 : isFn Tryz.prog 153 = true := by kernel_rfl
theorem zr_77 : tzero Tryz.prog 77 = some [.slice none 0 0] := by kernel_rfl
theorem fn_154 : isFn Tryz.prog 154 = true := by kernel_rfl
theorem zr_30 : tzero Tryz.prog 30 = some [.slice none 0 0] := by kernel_rfl
set_option maxHeartbeats 1000000 in
theorem c144 (w : World) (bt : Nat) (j : Nat) (mo rm : Int) (gn cap : Nat) (L : List LNd) (p k f t : Nat) (hw : HS w (fps [.blk bt 112 6 (tbV (j : Int) mo rm (some ⟨gn, 0, none⟩) (L).length cap), .blk gn 102 (cap * 3) ((L).flatMap LNd.vals), .star ((L).map (subN 26))]) [.blk bt 112 6 (tbV (j : Int) mo rm (some ⟨gn, 0, none⟩) (L).length cap), .blk gn 102 (cap * 3) ((L).flatMap LNd.vals), .star ((L).map (subN 26))] w) (hnc : L.length ≤ cap) (hcm : cap ≤ maxLen) (hok : MrgOk (pln L) p k f t) (hcf : (nth (pln L) p).cs.getD (k + 1) 0 = (f : Int)) (hct : (nth (pln L) p).cs.getD k 0 = (t : Int)) : Calls Tryz.prog 144 #[.pointer (some ⟨bt, 0, none⟩), .int .i64 (p : Int), .int .i64 (k : Int)] w fun en w' => ∃ g : (Nat × Nat) × List LNd, en = .returned (.tuple #[]) ∧ (pln g.2 = mrgN (pln L) p k t f ∧ g.2.length ≤ g.1.2 ∧ g.1.2 ≤ maxLen) ∧ HS w (fps [.blk bt 112 6 (tbV (j : Int) mo rm (some ⟨gn, 0, none⟩) (L).length cap), .blk gn 102 (cap * 3) ((L).flatMap LNd.vals), .star ((L).map (subN 26))]) [.blk bt 112 6 (tbV (j : Int) mo rm (some ⟨g.1.1, 0, none⟩) (g.2).length g.1.2), .blk g.1.1 102 (g.1.2 * 3) ((g.2).flatMap LNd.vals), .star ((g.2).map (subN 26))] w' := by
 have hpl := hok.pl
 have hfl := hok.fl
 have htl := hok.tl
 have hln := hok.len
 rw [pln_len] at hpl hfl htl hln
 have hPN := pln_nth hpl
 have hFN := pln_nth hfl
 have hTN := pln_nth htl
 have hke := hok.ke
 have hkc := hok.kc
 have hpf := hok.pf
 have hpt := hok.pt
 have hft := hok.ft
 have hsp := hok.sm p
 have hsf := hok.sm f
 have hst := hok.sm t
 rw [hPN] at hke hkc hcf hct hsp
 rw [hFN] at hsf
 rw [hTN] at hst
 simp only [LNd.pl] at hke hkc hcf hct hsp hsf hst
 refine enter (args := [_, _, _]) Tryz.func144 Tryz.ntmps144 rfl rfl hw ?_
 iterate 3 refine aS ?_
 refine o_fact (fun w h => HS.cs_some hpl (by omega) h aPk) fun hgc => ?_
 obtain ⟨gc9, hgc⟩ := hgc
 refine o_fact (fun w h => HS.es_some hpl (by omega) h aPk) fun hge => ?_
 obtain ⟨gp9, hge⟩ := hge
 iterate 5 refine aS ?_
 refine o_p (p_indexAddr rfl rfl rfl sl_22 (p) (by omega) (by omega) rfl) rfl ?_
 refine o_slot (show _ = Value.pointer (some ⟨gn, p * 3, none⟩) from by rw [Nat.zero_add]) ?_
 iterate 7 refine aS ?_
 refine o_q (q_load_at rfl rfl sz_30 (fun w h => HS.nd_cell hpl h aPk 2 rfl (by decide))) rfl ?_
 iterate 2 refine aS ?_
 try refine oWr ?_
 refine o_p (p_indexAddr rfl rfl rfl sl_30 (k + 1) (by omega) (by omega) hgc) rfl ?_
 refine o_q (q_load_at rfl rfl sz_3 (fun w h => HS.cs_rd hpl (by omega) hgc h aPk)) rfl ?_
 refine o_slot (show _ = Value.int .i64 (f : Int) from by rw [hcf]) ?_
 iterate 3 refine aS ?_
 refine s_draw [] mixed ?_
 refine dP 0 ?_
 refine dP 1 ?_
 refine dFa 2 ?_
 refine dFa 3 ?_
 refine dLd 4 [] ?_
 refine dP 5 ?_
 refine dP 6 ?_
 refine dFa 7 ?_
 refine d_q 8 [] rfl (q_load_at rfl rfl sz_30 (fun w h => HS.nd_cell hpl h aPk 2 rfl (by decide))) (by kernel_rfl) (by kernel_rfl) (by kernel_rfl) rfl ?_
 refine dP 9 ?_
 refine d_p 10 rfl (p_indexAddr rfl rfl rfl sl_30 (k) (by omega) (by omega) hgc) (by kernel_rfl) rfl rfl ?_
 refine d_q 11 [] rfl (q_load_at rfl rfl sz_3 (fun w h => HS.cs_rd hpl (by omega) hgc h aPk)) (by kernel_rfl) (by kernel_rfl) (by kernel_rfl) rfl ?_
 refine d_slot (show _ = Value.int .i64 (t : Int) from by rw [hct]) ?_
 refine d_p 12 rfl (p_indexAddr rfl rfl rfl sl_22 (t) (by omega) (by omega) rfl) (by kernel_rfl) rfl rfl ?_
 refine d_slot (show _ = Value.pointer (some ⟨gn, t * 3, none⟩) from by rw [Nat.zero_add]) ?_
 refine dP 13 ?_
 refine dP 14 ?_
 refine dFa 15 ?_
 refine dFa 16 ?_
 refine dLd 17 [] ?_
 refine dP 18 ?_
 refine d_p 19 rfl (p_indexAddr rfl rfl rfl sl_22 (f) (by omega) (by omega) rfl) (by kernel_rfl) rfl rfl ?_
 refine d_slot (show _ = Value.pointer (some ⟨gn, f * 3, none⟩) from by rw [Nat.zero_add]) ?_
 refine dP 20 ?_
 refine dP 21 ?_
 refine dNi ?_
 refine aS ?_
 refine s_weaken (L' := [(0, _), (2, _), (6, _), (7, _), (8, _), (9, _)]) aSx (fun _ h => h) ?_
 refine s_draw [21] mixed ?_
 refine dP 0 ?_
 refine dP 1 ?_
 refine dP 2 ?_
 refine dFa 3 ?_
 refine d_q 4 [[]] rfl (q_load_at rfl rfl sz_77 (fun w h => HS.nd_cell htl h aPk 1 rfl (by decide))) (by kernel_rfl) (by kernel_rfl) (by kernel_rfl) rfl ?_
 refine dP 5 ?_
 refine dP 6 ?_
 refine dFa 7 ?_
 refine d_q 8 [[]] rfl (q_load_at rfl rfl sz_77 (fun w h => HS.nd_cell hpl h aPk 1 rfl (by decide))) (by kernel_rfl) (by kernel_rfl) (by kernel_rfl) rfl ?_
 refine dP 9 ?_
 refine d_p 10 rfl (p_indexAddr rfl rfl rfl sl_77 (k) (by omega) (by omega) hge) (by kernel_rfl) rfl rfl ?_
 refine d_q 11 [[]] rfl (q_load_atn _ rfl rfl sz_26 rfl (fun w h => HS.es_rd hpl (by omega) hge h aPk)) (by kernel_rfl) (by kernel_rfl) (by kernel_rfl) rfl ?_
 refine dP 13 ?_
 refine dP 14 ?_
 refine dFa 15 ?_
 refine d_q 16 [[]] rfl (q_load_at rfl rfl sz_77 (fun w h => HS.nd_cell hfl h aPk 1 rfl (by decide))) (by kernel_rfl) (by kernel_rfl) (by kernel_rfl) rfl ?_
 refine d_h 12 rfl (h_buildSlice (cs := [_, _]) rfl rfl sl_77 zr_26 rfl rfl rfl) (by kernel_rfl) (fun w h => h.ent aEt) rfl (fun b1 _ => ?_)
 refine dBa ?_
 refine d_h 17 rfl (h_buildSlice (cs := [_, _, _]) rfl rfl sl_199 zr_77 rfl rfl rfl) (by kernel_rfl) (fun w h => h.ent aEt) rfl (fun b2 _ => ?_)
 refine dBa ?_
 refine d_h 18 rfl (h_call rfl fn_153 rfl (fun w1 h1 => c153 w1 (some ⟨b2, 0, none⟩) 3 [(⟨(nth L t).ea, (nth L t).ec, (nth L t).es⟩ : RowV TEnt), ⟨some ⟨b1, 0, none⟩, 1, [(nth (nth L p).es k)]⟩, ⟨(nth L f).ea, (nth L f).ec, (nth L f).es⟩] (h1.vl_blk aPk) (by intro r hr; simp only [List.mem_cons, List.mem_nil_iff, or_false] at hr; rcases hr with rfl | rfl | rfl; exact HS.es_row htl h1 aPk; exact h1.rw_blk (l := [(nth (nth L p).es k)]) ev2 (b := b1) (t := 26) (tot := 2) aPk; exact HS.es_row hfl h1 aPk) (by rw [cat3]; simp only [List.length_append, List.length_singleton]; omega) (by simp))) (by kernel_rfl) (fun w h => h.ent aEt) rfl (fun b3 _ => ?_)
 refine dBa ?_
 refine dP 19 ?_
 refine dFa 20 ?_
 refine dSt 21 ?_ (hl := (by rw [flat_length nv3]; show _ + 1 ≤ _; omega))
 refine dTu [] ?_
 refine dNi ?_
 refine aS ?_
 refine s_ex (fun w h => HS.es_set (gn := gn) (cap := cap) (ea := b3.1) (ec := b3.2) (es := ([(⟨(nth L t).ea, (nth L t).ec, (nth L t).es⟩ : RowV TEnt), ⟨some ⟨b1, 0, none⟩, 1, [(nth (nth L p).es k)]⟩, ⟨(nth L f).ea, (nth L f).ec, (nth L f).es⟩]).flatMap RowV.l) htl h aPk aPk aPk) fun L1 => ?_
 refine s_fact (fun w h => h.1) fun hS1 => ?_
 refine s_class (fun w h => h.2) ?_
 have hp1 : p < L1.length := by rw [hS1.len]; exact hpl
 have hf1 : f < L1.length := by rw [hS1.len]; exact hfl
 have ht1 : t < L1.length := by rw [hS1.len]; exact htl
 have hP1 : nth L1 p = nth L p := hS1.other hpl (Ne.symm hpt)
 have hF1 : nth L1 f = nth L f := hS1.other hfl (Ne.symm hft)
 have hT1 := hS1.at_
 have hTc1 : (nth L1 t).cs = (nth L t).cs := by rw [hT1]
 have hTl1 : (nth L1 t).cs.length = (nth L t).cs.length := by rw [hTc1]
 have hFl1 : (nth L1 f).cs.length = (nth L f).cs.length := by rw [hF1]
 refine s_draw [13] mixed ?_
 refine dP 0 ?_
 refine dP 1 ?_
 refine dP 2 ?_
 refine dFa 3 ?_
 refine d_q 4 [[]] rfl (q_load_at rfl rfl sz_30 (fun w h => HS.nd_cell ht1 h aPk 2 rfl (by decide))) (by kernel_rfl) (by kernel_rfl) (by kernel_rfl) rfl ?_
 refine dP 5 ?_
 refine dP 6 ?_
 refine dFa 7 ?_
 refine d_q 8 [[]] rfl (q_load_at rfl rfl sz_30 (fun w h => HS.nd_cell hf1 h aPk 2 rfl (by decide))) (by kernel_rfl) (by kernel_rfl) (by kernel_rfl) rfl ?_
 refine d_h 9 rfl (h_buildSlice (cs := [_, _]) rfl rfl sl_200 zr_30 rfl rfl rfl) (by kernel_rfl) (fun w h => h.ent aEt) rfl (fun b4 _ => ?_)
 refine dBa ?_
 refine d_h 10 rfl (h_call rfl fn_154 rfl (fun w1 h1 => c154 w1 (some ⟨b4, 0, none⟩) 2 [(⟨(nth L1 t).ca, (nth L1 t).cc, (nth L1 t).cs⟩ : RowV Int), ⟨(nth L1 f).ca, (nth L1 f).cc, (nth L1 f).cs⟩] (h1.vl_blk aPk) (by intro r hr; simp only [List.mem_cons, List.mem_nil_iff, or_false] at hr; rcases hr with rfl | rfl; exact HS.cs_row ht1 h1 aPk; exact HS.cs_row hf1 h1 aPk) (by rw [cat2]; simp only [List.length_append]; omega) (by simp))) (by kernel_rfl) (fun w h => h.ent aEt) rfl (fun b5 _ => ?_)
 refine dBa ?_
 refine dP 11 ?_
 refine dFa 12 ?_
 refine dSt 13 ?_ (hl := (by rw [flat_length nv3]; show _ + 1 ≤ _; omega))
 refine dTu [] ?_
 refine dNi ?_
 refine aS ?_
 refine s_weaken (L' := [(0, _), (2, _), (6, _), (7, _)]) aSx (fun _ h => h) ?_
 iterate 2 refine aS ?_
 refine o_ex (fun w h => HS.cs_set (gn := gn) (cap := cap) (ca := b5.1) (cc := b5.2) (cs := ([(⟨(nth L1 t).ca, (nth L1 t).cc, (nth L1 t).cs⟩ : RowV Int), ⟨(nth L1 f).ca, (nth L1 f).cc, (nth L1 f).cs⟩]).flatMap RowV.l) ht1 h aPk aPk aPk) fun L2 => ?_
 refine o_fact (fun w h => h.1) fun hS2 => ?_
 refine o_class (fun w h => h.2) ?_
 have hp2 : p < L2.length := by rw [hS2.len]; exact hp1
 have hf2 : f < L2.length := by rw [hS2.len]; exact hf1
 have hP2 : nth L2 p = nth L p := by rw [hS2.other hp1 (Ne.symm hpt), hP1]
 have hPl2 : (nth L2 p).es.length = (nth L p).es.length := by rw [hP2]
 refine o_class (fun w h => HS.es_take hp2 h aPk) ?_
 iterate 3 refine aS ?_
 refine o_q (q_load_at rfl rfl sz_77 (fun w h => HS.nd_cell hp2 h aPk 1 rfl (by decide))) rfl ?_
 iterate 3 refine aS ?_
 try refine oWr ?_
 refine o_h (h_callF (Cs := [.own (.slice ((nth L2 p)).ea ((nth L2 p)).es.length ((nth L2 p)).ec) 26 2 ((nth L2 p)).es.length (((nth L2 p)).es.flatMap TEnt.vals)]) rfl fn_103 rfl aPs (fun w1 h1 hf9 => c103e w1 (nth L2 p).ea k (nth L2 p).ec (nth L2 p).es hf9 (by omega) (by omega))) rfl (fun _ _ => ?_)
 iterate 2 refine aS ?_
 refine o_h0 (h_store rfl rfl rfl sz_77 rfl aPt (by rw [flat_length nv3]; show _ + 1 ≤ _; omega) rfl) (fun _ _ => ?_)
 iterate 4 refine aS ?_
 refine o_ex (fun w h => HS.es_setB (gn := gn) (cap := cap) (ea := (nth L2 p).ea) (ec := (nth L2 p).ec) (es := others (nth L2 p).es k) hp2 h aPk aPk aPk) fun L3 => ?_
 refine o_fact (fun w h => h.1) fun hS3 => ?_
 refine o_class (fun w h => h.2) ?_
 have hp3 : p < L3.length := by rw [hS3.len]; exact hp2
 have hf3 : f < L3.length := by rw [hS3.len]; exact hf2
 have hPc3 : (nth L3 p).cs = (nth L p).cs := by rw [hS3.at_, hP2]
 have hPl3 : (nth L3 p).cs.length = (nth L p).cs.length := by rw [hPc3]
 refine o_class (fun w h => HS.cs_take hp3 h aPk) ?_
 iterate 3 refine aS ?_
 refine o_q (q_load_at rfl rfl sz_30 (fun w h => HS.nd_cell hp3 h aPk 2 rfl (by decide))) rfl ?_
 iterate 2 refine aS ?_
 try refine oWr ?_
 iterate 2 refine aS ?_
 try refine oWr ?_
 refine o_slot (show _ = Value.int .i64 (((k + 1 : Nat) : Int) + 1) from by congr 1) ?_
 refine o_h (h_callF (Cs := [.own (.slice ((nth L3 p)).ca ((nth L3 p)).cs.length ((nth L3 p)).cc) 3 1 ((nth L3 p)).cs.length (((nth L3 p)).cs.flatMap inV)]) rfl fn_152 rfl aPs (fun w1 h1 hf9 => c152e w1 (nth L3 p).ca (k + 1) (nth L3 p).cc (nth L3 p).cs hf9 (by omega) (by omega))) rfl (fun _ _ => ?_)
 iterate 2 refine aS ?_
 refine o_h0 (h_store rfl rfl rfl sz_30 rfl aPt (by rw [flat_length nv3]; show _ + 1 ≤ _; omega) rfl) (fun _ _ => ?_)
 iterate 3 refine aS ?_
 refine o_ex (fun w h => HS.cs_setB (gn := gn) (cap := cap) (ca := (nth L3 p).ca) (cc := (nth L3 p).cc) (cs := others (nth L3 p).cs (k + 1)) hp3 h aPk aPk aPk) fun L4 => ?_
 refine o_fact (fun w h => h.1) fun hS4 => ?_
 refine o_class (fun w h => h.2) ?_
 have hf4 : f < L4.length := by rw [hS4.len]; exact hf3
 have hl4 : L4.length = L.length := by rw [hS4.len, hS3.len, hS2.len, hS1.len]
 iterate 5 refine aS ?_
 refine o_p (p_build (cs := [_, _, _]) rfl rfl pl_102 zr_102 rfl) rfl ?_
 refine o_p (p_indexAddr rfl rfl rfl sl_22 (f) (by omega) (by omega) rfl) rfl ?_
 refine o_slot (show _ = Value.pointer (some ⟨gn, f * 3, none⟩) from by rw [Nat.zero_add]) ?_
 refine o_h0 (h_store rfl rfl rfl sz_102 rfl aPt (by rw [flat_length nv3]; show _ + 3 ≤ _; omega) rfl) (fun _ _ => ?_)
 refine aS ?_
 exact s_end0 rfl (fun w' h' => by obtain ⟨L5, hS5, hC⟩ := HS.node_gone (i := f) (gn := gn) (cap := cap) hf4 h' aPk aPk; have hz5 : L5.length = L.length := (by rw [hS5.len, hl4]); exact ⟨((gn, cap), L5), rfl, ⟨by rw [hS5.pl, hS4.cs, hS3.es, hS2.cs, hS1.es, hPc3, hP2, cat3, cat2, hTc1, hF1]; unfold mrgN; rw [hPN, hFN, hTN]; rfl, by simp only []; omega, hcm⟩, by simp only []; rw [hz5]; exact hC.ent aEt⟩)
theorem fn_142 : isFn Tryz.prog 142 = true := by kernel_rfl
theorem fn_143 : isFn Tryz.prog 143 = true := by kernel_rfl
theorem fn_144 : isFn Tryz.prog 144 = true := by kernel_rfl
theorem c142 (w : World) (b6 b2 : Nat) (bt : Nat) (j : Nat) (mo rm : Int) (a : Option Addr) (cap : Nat) (L : List LNd) (p k : Nat) (x : Int) (h6 : Rd w [] b6 0 (.slice (nth L p).ca (nth L p).cs.length (nth L p).cc)) (h2 : Rd w [] b2 0 (.pointer (some ⟨bt, 0, none⟩))) (ht : TbR w [] bt (j : Int) mo rm a L.length cap) (hs : Nt w [] a L) (hok : FilOk mo (pln L) p k) : Calls Tryz.prog 142 #[.int .i64 x, .pointer (some ⟨b6, 0, none⟩), .pointer (some ⟨b2, 0, none⟩)] w fun en w' => en = .returned (.bool (richN mo (pln L) p x)) ∧ Below w.heap.size w w' := by
 have hpl := hok.pl
 rw [pln_len] at hpl
 have hPN := pln_nth hpl
 have hmo := hok.mo0
 have hsm := (hok.sm p).2
 rw [hPN] at hsm
 simp only [LNd.pl] at hsm
 refine enter (args := [_, _, _]) Tryz.func142 Tryz.ntmps142 rfl rfl (HS.refl w []) ?_
 iterate 5 refine aS ?_
 refine s_draw [] mixed ?_
 refine dP 0 ?_
 refine d_q 1 [] rfl (q_load_old rfl rfl sz_30 (h6)) (by kernel_rfl) (by kernel_rfl) (by kernel_rfl) rfl ?_
 refine d_p 2 rfl (p_len_slice rfl rfl Tryz.underlying30) (by kernel_rfl) rfl rfl ?_
 refine dP 3 ?_
 try refine dWr ?_
 refine d_q 4 [] rfl (q_call rfl fn_93 rfl (fun w1 h1 => c93 w1 _ _ _)) (by kernel_rfl) (by kernel_rfl) (by kernel_rfl) rfl ?_
 refine dP 5 ?_
 apply d_split 10
 ·exact rfl
 ·intro hg1
  have hs2 := hg1; try simp only [Bool.and_eq_true, decide_eq_true_eq] at hs2
  refine d_qon 6 10 [] rfl rfl rfl hg1 (q_load_old rfl rfl sz_103 (h2)) (by kernel_rfl) (by kernel_rfl) (by kernel_rfl) rfl ?_
  have hq := hg1
  simp only [Bool.and_eq_true, decide_eq_true_eq] at hq
  have hxl : x.toNat < (nth L p).cs.length := by omega
  have hkd := hok.kd (x := x.toNat) (by rw [hPN]; exact hxl)
  rw [hPN] at hkd
  simp only [LNd.pl] at hkd
  have hkl := (hok.kid x.toNat (by rw [hPN]; exact hxl)).2.1
  rw [pln_len] at hkl
  refine dPo 7 10 hg1 ?_
  refine dFo 8 10 hg1 ?_
  refine dFo 9 10 hg1 ?_
  refine d_qon 10 10 [] rfl rfl rfl hg1 (q_load_old rfl rfl sz_22 (ht 3 _ rfl)) (by kernel_rfl) (by kernel_rfl) (by kernel_rfl) rfl ?_
  refine d_qon 11 10 [] rfl rfl rfl hg1 (q_load_old rfl rfl sz_30 (h6)) (by kernel_rfl) (by kernel_rfl) (by kernel_rfl) rfl ?_
  refine dPo 12 10 hg1 ?_
  refine d_pon 13 10 rfl rfl rfl hg1 (p_indexAddr rfl rfl rfl sl_30 (x.toNat) (by omega) (by omega) (Rw.some (hs.cs hpl) (by omega))) (by kernel_rfl) rfl rfl ?_
  refine d_qon 14 10 [] rfl rfl rfl hg1 (q_load_old rfl rfl sz_3 (((hs.cs hpl).rdj 0 hxl rfl))) (by kernel_rfl) (by kernel_rfl) (by kernel_rfl) rfl ?_
  refine d_slot (show _ = Value.int .i64 ((kdN (pln L) p x.toNat) : Int) from congrArg (Value.int .i64) hkd) ?_
  refine d_pon 15 10 rfl rfl rfl hg1 (p_indexAddr rfl rfl rfl sl_22 ((kdN (pln L) p x.toNat)) (by omega) (by omega) (Rw.some hs.1 (by omega))) (by kernel_rfl) rfl rfl ?_
  refine dFo 16 10 hg1 ?_
  refine d_qon 17 10 [] rfl rfl rfl hg1 (q_load_old rfl rfl sz_77 ((hs.1.rdj 1 hkl rfl))) (by kernel_rfl) (by kernel_rfl) (by kernel_rfl) rfl ?_
  refine d_pon 18 10 rfl rfl rfl hg1 (p_len_slice rfl rfl Tryz.underlying77) (by kernel_rfl) rfl rfl ?_
  refine d_qon 19 10 [] rfl rfl rfl hg1 (q_load_old rfl rfl sz_103 (h2)) (by kernel_rfl) (by kernel_rfl) (by kernel_rfl) rfl ?_
  refine d_qon 20 10 [] rfl rfl rfl hg1 (q_call rfl fn_105 rfl (fun w1 h1 => c105 w1 bt j mo rm a L.length cap hmo (ht.next h1))) (by kernel_rfl) (by kernel_rfl) (by kernel_rfl) rfl ?_
  refine dPo 21 10 hg1 ?_
  refine d_p 22 rfl (p_pickt rfl rfl hg1 rfl) (by kernel_rfl) rfl rfl ?_
  refine d_slot (show _ = Value.bool (richN mo (pln L) p x) from by congr 1; first | (have h9 := rich_t (mo := mo) hPN hq; rw [pln_nth hkl] at h9; exact h9.symm) | exact (rich_f hPN hg1).symm) ?_
  refine dP 23 ?_
  refine dNi ?_
  exact s_retv (rs := [.tmp 4]) rfl (.tmp rfl (.nil)) (fun w' h' => ⟨rfl, h'.below⟩)
 intro hg3
 have hs4 := hg3; try simp only [Bool.and_eq_false_iff, decide_eq_false_iff_not] at hs4
 refine dOf 6 10 hg3 ?_
 refine dOf 7 10 hg3 ?_
 refine dOf 8 10 hg3 ?_
 refine dOf 9 10 hg3 ?_
 refine dOf 10 10 hg3 ?_
 refine dOf 11 10 hg3 ?_
 refine dOf 12 10 hg3 ?_
 refine dOf 13 10 hg3 ?_
 refine dOf 14 10 hg3 ?_
 refine dOf 15 10 hg3 ?_
 refine dOf 16 10 hg3 ?_
 refine dOf 17 10 hg3 ?_
 refine dOf 18 10 hg3 ?_
 refine dOf 19 10 hg3 ?_
 refine dOf 20 10 hg3 ?_
 refine dOf 21 10 hg3 ?_
 refine d_p 22 rfl (p_pickf rfl rfl hg3 rfl) (by kernel_rfl) rfl rfl ?_
 refine d_slot (show _ = Value.bool (richN mo (pln L) p x) from by congr 1; first | (have h9 := rich_t (mo := mo) hPN hq; rw [pln_nth hkl] at h9; exact h9.symm) | exact (rich_f hPN hg3).symm) ?_
 refine dP 23 ?_
 refine dNi ?_
 exact s_retv (rs := [.tmp 4]) rfl (.tmp rfl (.nil)) (fun w' h' => ⟨rfl, h'.below⟩)
set_option maxHeartbeats 1000000 in
theorem c106 (w : World) (bt : Nat) (j : Nat) (mo rm : Int) (gn cap : Nat) (L : List LNd) (i p k : Nat) (hw : HS w (fps [.blk bt 112 6 (tbV (j : Int) mo rm (some ⟨gn, 0, none⟩) (L).length cap), .blk gn 102 (cap * 3) ((L).flatMap LNd.vals), .star ((L).map (subN 26))]) [.blk bt 112 6 (tbV (j : Int) mo rm (some ⟨gn, 0, none⟩) (L).length cap), .blk gn 102 (cap * 3) ((L).flatMap LNd.vals), .star ((L).map (subN 26))] w) (hnc : L.length ≤ cap) (hcm : cap ≤ maxLen) (hpar : parN (i : Int) (pln L) 0 = (p, k)) (hok : FilOk mo (pln L) p k) : Calls Tryz.prog 106 #[.pointer (some ⟨bt, 0, none⟩), .int .i64 (i : Int)] w fun en w' => ∃ g : (Nat × Nat) × List LNd, en = .returned (.tuple #[]) ∧ (pln g.2 = filP mo (pln L) p k ∧ g.2.length ≤ g.1.2 ∧ g.1.2 ≤ maxLen) ∧ HS w (fps [.blk bt 112 6 (tbV (j : Int) mo rm (some ⟨gn, 0, none⟩) (L).length cap), .blk gn 102 (cap * 3) ((L).flatMap LNd.vals), .star ((L).map (subN 26))]) [.blk bt 112 6 (tbV (j : Int) mo rm (some ⟨g.1.1, 0, none⟩) (g.2).length g.1.2), .blk g.1.1 102 (g.1.2 * 3) ((g.2).flatMap LNd.vals), .star ((g.2).map (subN 26))] w' := by
 have hpl := hok.pl
 have hln := hok.len
 rw [pln_len] at hpl hln
 have hPN := pln_nth hpl
 have hmo := hok.mo0
 have hkl := hok.kl
 have hsh := hok.sh
 have hkl2 := hkl
 rw [hPN] at hkl2
 have hs9 := (hok.sm p).2
 rw [hPN] at hs9
 simp only [LNd.pl] at hkl2 hs9
 refine enter (args := [_, _]) Tryz.func106 Tryz.ntmps106 rfl rfl hw ?_
 iterate 2 refine aS ?_
 refine oBx fun b1 _ => ?_
 iterate 5 refine aS ?_
 refine o_q (q_call rfl fn_141 rfl (fun w1 h1 => by have h9 := c141 w1 bt j mo rm (some ⟨gn, 0, none⟩) cap L i (HS.tbr h1 aPk) (HS.nt_at h1 aPk aPk) (by omega) (fun k9 hk => by have := (hok.sm k9).2; rw [pln_nth hk] at this; exact Nat.le_trans this (by decide)); rw [hpar] at h9; exact h9)) rfl ?_
 dsimp only
 iterate 14 refine aS ?_
 refine o_p (p_indexAddr rfl rfl rfl sl_22 (p) (by omega) (by omega) rfl) rfl ?_
 refine o_slot (show _ = Value.pointer (some ⟨gn, p * 3, none⟩) from by rw [Nat.zero_add]) ?_
 refine aS ?_
 refine o_q (q_load_at rfl rfl sz_30 (fun w h => HS.nd_cell hpl h aPk 2 rfl (by decide))) rfl ?_
 refine oAl (fun b2 _ => ?_) zr_30
 refine oSt ?_
 iterate 12 refine aS ?_
 try refine oWr ?_
 refine o_q (q_callv rfl rfl fn_142 rfl (fun w1 h1 => c142 w1 b2 b1 bt j mo rm (some ⟨gn, 0, none⟩) cap L p k ((k : Int) - 1) (h1.rd_blk (Mc := []) aPk rfl (by simp)) (h1.rd_blk (Mc := []) aPk rfl (by simp)) (HS.tbr h1 aPk) (HS.nt_at h1 aPk aPk) hok)) rfl ?_
 iterate 2 refine aS ?_
 refine s_cond rfl (fun h3 => ?_) fun h3 => ?_
 ·skip
  have hr0 : (richN mo (pln L) p ((k : Int) - 1)) = true := h3
  obtain ⟨hr1, hr2, hr3⟩ := rich_in hr0
  obtain ⟨k1, rfl⟩ : ∃ k1, k = k1 + 1 := ⟨k - 1, by omega⟩
  rw [show (((k1 + 1 : Nat) : Int) - 1).toNat = k1 by omega] at hr3
  have hfe : 0 < (nth (pln L) (kdN (pln L) p k1)).es.length := by omega
  iterate 4 refine aS ?_
  refine o_h (h_callF (Cs := [.blk bt 112 6 (tbV (j : Int) mo rm (some ⟨gn, 0, none⟩) (L).length cap), .blk gn 102 (cap * 3) ((L).flatMap LNd.vals), .star ((L).map (subN 26))]) rfl fn_143 rfl aPs (fun w1 h1 hf => c143a w1 bt j mo rm gn cap L p (k1) (kdN (pln L) p (k1)) (kdN (pln L) p (k1 + 1)) hf hnc hcm (hok.giv (x := k1) (y := k1 + 1) (e := k1) (by omega) (by omega) (by omega) (by omega) hfe) (hok.kd (by omega)) (hok.kd (by omega)))) rfl (fun ⟨⟨g5, c5⟩, L5⟩ hF5 => ?_)
  iterate 2 refine aS ?_
  exact s_end0 rfl (fun w' h' => by first | exact ⟨((g5, c5), L5), rfl, ⟨by rw [filP, if_pos hr0]; exact hF5.1, hF5.2.1, hF5.2.2⟩, h'.ent aEt⟩ | exact ⟨((g6, c6), L6), rfl, ⟨by rw [filP, if_neg hr0, if_pos hs0]; exact hF6.1, hF6.2.1, hF6.2.2⟩, h'.ent aEt⟩ | exact ⟨((g7, c7), L7), rfl, ⟨by rw [filP, if_neg hr0, if_neg hs0, if_pos hk0]; exact hF7.1, hF7.2.1, hF7.2.2⟩, h'.ent aEt⟩ | exact ⟨((g8, c8), L8), rfl, ⟨by rw [filP, if_neg hr0, if_neg hs0, if_neg hk0, if_pos hk1]; exact hF8.1, hF8.2.1, hF8.2.2⟩, h'.ent aEt⟩ | exact ⟨((gn, cap), L), rfl, ⟨by rw [filP, if_neg hr0, if_neg hs0, if_neg hk0, if_neg hk1], hnc, hcm⟩, h'.ent aEt⟩)
 skip
 have hr0 : ¬ (richN mo (pln L) p ((k : Int) - 1)) = true := by have hq := h3; simp [hq]
 iterate 5 refine aS ?_
 try refine oWr ?_
 refine o_q (q_callv rfl rfl fn_142 rfl (fun w1 h1 => c142 w1 b2 b1 bt j mo rm (some ⟨gn, 0, none⟩) cap L p k ((k : Int) + 1) (h1.rd_blk (Mc := []) aPk rfl (by simp)) (h1.rd_blk (Mc := []) aPk rfl (by simp)) (HS.tbr h1 aPk) (HS.nt_at h1 aPk aPk) hok)) rfl ?_
 iterate 2 refine aS ?_
 refine s_cond rfl (fun h4 => ?_) fun h4 => ?_
 ·skip
  have hs0 : (richN mo (pln L) p ((k : Int) + 1)) = true := h4
  obtain ⟨hr1, hr2, hr3⟩ := rich_in hs0
  rw [show ((k : Int) + 1).toNat = k + 1 by omega] at hr3
  have hfe : 0 < (nth (pln L) (kdN (pln L) p (k + 1))).es.length := by omega
  refine s_weaken (L' := [(2, _), (4, _), (5, _)]) aSx (fun _ h => h) ?_
  iterate 4 refine aS ?_
  refine o_h (h_callF (Cs := [.blk bt 112 6 (tbV (j : Int) mo rm (some ⟨gn, 0, none⟩) (L).length cap), .blk gn 102 (cap * 3) ((L).flatMap LNd.vals), .star ((L).map (subN 26))]) rfl fn_143 rfl aPs (fun w1 h1 hf => c143b w1 bt j mo rm gn cap L p (k) (kdN (pln L) p (k + 1)) (kdN (pln L) p (k)) hf hnc hcm (hok.giv (x := k + 1) (y := k) (e := k) (by omega) (by omega) (by omega) (by omega) hfe) (hok.kd (by omega)) (hok.kd (by omega)))) rfl (fun ⟨⟨g6, c6⟩, L6⟩ hF6 => ?_)
  iterate 2 refine aS ?_
  exact s_end0 rfl (fun w' h' => by first | exact ⟨((g5, c5), L5), rfl, ⟨by rw [filP, if_pos hr0]; exact hF5.1, hF5.2.1, hF5.2.2⟩, h'.ent aEt⟩ | exact ⟨((g6, c6), L6), rfl, ⟨by rw [filP, if_neg hr0, if_pos hs0]; exact hF6.1, hF6.2.1, hF6.2.2⟩, h'.ent aEt⟩ | exact ⟨((g7, c7), L7), rfl, ⟨by rw [filP, if_neg hr0, if_neg hs0, if_pos hk0]; exact hF7.1, hF7.2.1, hF7.2.2⟩, h'.ent aEt⟩ | exact ⟨((g8, c8), L8), rfl, ⟨by rw [filP, if_neg hr0, if_neg hs0, if_neg hk0, if_pos hk1]; exact hF8.1, hF8.2.1, hF8.2.2⟩, h'.ent aEt⟩ | exact ⟨((gn, cap), L), rfl, ⟨by rw [filP, if_neg hr0, if_neg hs0, if_neg hk0, if_neg hk1], hnc, hcm⟩, h'.ent aEt⟩)
 skip
 have hs0 : ¬ (richN mo (pln L) p ((k : Int) + 1)) = true := by have hq := h4; simp [hq]
 refine aS ?_
 refine s_weaken (L' := [(2, _), (4, _), (5, _), (6, _)]) aSx (fun _ h => h) ?_
 iterate 5 refine aS ?_
 refine s_cond rfl (fun h5 => ?_) fun h5 => ?_
 ·try simp only [decide_eq_true_eq] at h5
  have hk0 : 0 < k := by have hq := h5; omega
  obtain ⟨k1, rfl⟩ : ∃ k1, k = k1 + 1 := ⟨k - 1, by omega⟩
  iterate 5 refine aS ?_
  try refine oWr ?_
  refine o_slot (show _ = Value.int .i64 (k1 : Int) from by congr 1; omega) ?_
  refine o_h (h_callF (Cs := [.blk bt 112 6 (tbV (j : Int) mo rm (some ⟨gn, 0, none⟩) (L).length cap), .blk gn 102 (cap * 3) ((L).flatMap LNd.vals), .star ((L).map (subN 26))]) rfl fn_144 rfl aPs (fun w1 h1 hf => c144 w1 bt j mo rm gn cap L p (k1) (kdN (pln L) p (k1 + 1)) (kdN (pln L) p (k1)) hf hnc hcm (hok.mrg (x := k1 + 1) (y := k1) (e := k1) (by omega) (by omega) (by omega) (by omega)) (hok.kd (by omega)) (hok.kd (by omega)))) rfl (fun ⟨⟨g7, c7⟩, L7⟩ hF7 => ?_)
  iterate 2 refine aS ?_
  exact s_end0 rfl (fun w' h' => by first | exact ⟨((g5, c5), L5), rfl, ⟨by rw [filP, if_pos hr0]; exact hF5.1, hF5.2.1, hF5.2.2⟩, h'.ent aEt⟩ | exact ⟨((g6, c6), L6), rfl, ⟨by rw [filP, if_neg hr0, if_pos hs0]; exact hF6.1, hF6.2.1, hF6.2.2⟩, h'.ent aEt⟩ | exact ⟨((g7, c7), L7), rfl, ⟨by rw [filP, if_neg hr0, if_neg hs0, if_pos hk0]; exact hF7.1, hF7.2.1, hF7.2.2⟩, h'.ent aEt⟩ | exact ⟨((g8, c8), L8), rfl, ⟨by rw [filP, if_neg hr0, if_neg hs0, if_neg hk0, if_pos hk1]; exact hF8.1, hF8.2.1, hF8.2.2⟩, h'.ent aEt⟩ | exact ⟨((gn, cap), L), rfl, ⟨by rw [filP, if_neg hr0, if_neg hs0, if_neg hk0, if_neg hk1], hnc, hcm⟩, h'.ent aEt⟩)
 try simp only [decide_eq_false_iff_not] at h5
 have hk0 : ¬ 0 < k := by have hq := h5; omega
 iterate 7 refine aS ?_
 refine s_cond rfl (fun h6 => ?_) fun h6 => ?_
 ·try simp only [decide_eq_true_eq] at h6
  have hk1 : 1 < (nth (pln L) p).cs.length := by rw [hPN]; have hq := h6; simp only [LNd.pl]; omega
  iterate 4 refine aS ?_
  refine o_h (h_callF (Cs := [.blk bt 112 6 (tbV (j : Int) mo rm (some ⟨gn, 0, none⟩) (L).length cap), .blk gn 102 (cap * 3) ((L).flatMap LNd.vals), .star ((L).map (subN 26))]) rfl fn_144 rfl aPs (fun w1 h1 hf => c144 w1 bt j mo rm gn cap L p (k) (kdN (pln L) p (k + 1)) (kdN (pln L) p (k)) hf hnc hcm (hok.mrg (x := k + 1) (y := k) (e := k) (by omega) (by omega) (by omega) (by omega)) (hok.kd (by omega)) (hok.kd (by omega)))) rfl (fun ⟨⟨g8, c8⟩, L8⟩ hF8 => ?_)
  iterate 2 refine aS ?_
  exact s_end0 rfl (fun w' h' => by first | exact ⟨((g5, c5), L5), rfl, ⟨by rw [filP, if_pos hr0]; exact hF5.1, hF5.2.1, hF5.2.2⟩, h'.ent aEt⟩ | exact ⟨((g6, c6), L6), rfl, ⟨by rw [filP, if_neg hr0, if_pos hs0]; exact hF6.1, hF6.2.1, hF6.2.2⟩, h'.ent aEt⟩ | exact ⟨((g7, c7), L7), rfl, ⟨by rw [filP, if_neg hr0, if_neg hs0, if_pos hk0]; exact hF7.1, hF7.2.1, hF7.2.2⟩, h'.ent aEt⟩ | exact ⟨((g8, c8), L8), rfl, ⟨by rw [filP, if_neg hr0, if_neg hs0, if_neg hk0, if_pos hk1]; exact hF8.1, hF8.2.1, hF8.2.2⟩, h'.ent aEt⟩ | exact ⟨((gn, cap), L), rfl, ⟨by rw [filP, if_neg hr0, if_neg hs0, if_neg hk0, if_neg hk1], hnc, hcm⟩, h'.ent aEt⟩)
 try simp only [decide_eq_false_iff_not] at h6
 have hk1 : ¬ 1 < (nth (pln L) p).cs.length := by rw [hPN]; have hq := h6; simp only [LNd.pl]; omega
 iterate 2 refine aS ?_
 exact s_end0 rfl (fun w' h' => by first | exact ⟨((g5, c5), L5), rfl, ⟨by rw [filP, if_pos hr0]; exact hF5.1, hF5.2.1, hF5.2.2⟩, h'.ent aEt⟩ | exact ⟨((g6, c6), L6), rfl, ⟨by rw [filP, if_neg hr0, if_pos hs0]; exact hF6.1, hF6.2.1, hF6.2.2⟩, h'.ent aEt⟩ | exact ⟨((g7, c7), L7), rfl, ⟨by rw [filP, if_neg hr0, if_neg hs0, if_pos hk0]; exact hF7.1, hF7.2.1, hF7.2.2⟩, h'.ent aEt⟩ | exact ⟨((g8, c8), L8), rfl, ⟨by rw [filP, if_neg hr0, if_neg hs0, if_neg hk0, if_pos hk1]; exact hF8.1, hF8.2.1, hF8.2.2⟩, h'.ent aEt⟩ | exact ⟨((gn, cap), L), rfl, ⟨by rw [filP, if_neg hr0, if_neg hs0, if_neg hk0, if_neg hk1], hnc, hcm⟩, h'.ent aEt⟩)
theorem c107 (w : World) (bt : Nat) (j : Nat) (mo rm : Int) (gn cap : Nat) (L : List LNd) (hw : HS w (fps [.blk bt 112 6 (tbV (j : Int) mo rm (some ⟨gn, 0, none⟩) (L).length cap), .blk gn 102 (cap * 3) ((L).flatMap LNd.vals), .star ((L).map (subN 26))]) [.blk bt 112 6 (tbV (j : Int) mo rm (some ⟨gn, 0, none⟩) (L).length cap), .blk gn 102 (cap * 3) ((L).flatMap LNd.vals), .star ((L).map (subN 26))] w) (hnc : L.length ≤ cap) (hcm : cap ≤ maxLen) (h0 : 0 < L.length) (hl : L.length ≤ 100000) (hu : (nth (pln L) 0).us = true) : Calls Tryz.prog 107 #[.pointer (some ⟨bt, 0, none⟩)] w fun en w' => ∃ g : (Nat × Nat) × List LNd, en = .returned (.tuple #[]) ∧ (pln g.2 = trmN (pln L) ∧ g.2.length ≤ g.1.2 ∧ g.1.2 ≤ maxLen) ∧ HS w (fps [.blk bt 112 6 (tbV (j : Int) mo rm (some ⟨gn, 0, none⟩) (L).length cap), .blk gn 102 (cap * 3) ((L).flatMap LNd.vals), .star ((L).map (subN 26))]) [.blk bt 112 6 (tbV (j : Int) mo rm (some ⟨g.1.1, 0, none⟩) (g.2).length g.1.2), .blk g.1.1 102 (g.1.2 * 3) ((g.2).flatMap LNd.vals), .star ((g.2).map (subN 26))] w' := by
 have hu0 : (nth L 0).us = true := by have h9 := hu; rw [pln_nth h0] at h9; exact h9
 refine enter (args := [_]) Tryz.func107 Tryz.ntmps107 rfl rfl hw ?_
 iterate 11 refine aS ?_
 refine s_loopI (α := Nat) [2, 9, 10, 11, 12, 13, 14, 15, 16, 17, 18, 19, 20, 21, 22, 23, 24, 25, 26, 27, 28, 29, 30, 31, 32, 33] (fun m => [(2, .int .i64 (m : Int))]) (fun m => HS w (fps [.blk bt 112 6 (tbV (j : Int) mo rm (some ⟨gn, 0, none⟩) (L).length cap), .blk gn 102 (cap * 3) ((L).flatMap LNd.vals), .star ((L).map (subN 26))]) [.blk bt 112 6 (tbV (j : Int) mo rm (some ⟨gn, 0, none⟩) (m) cap), .blk gn 102 (cap * 3) ((L.take (m)).flatMap LNd.vals), .star ((L.take (m)).map (subN 26))]) (fun m => (1 ≤ m ∧ m ≤ L.length) ∧ tln (pln L) L.length = tln (pln L) m) (fun m => m) L.length ⟨⟨h0, Nat.le_refl _⟩, rfl⟩ aSx (fun w h => by rw [List.take_length]; exact h.ent aEt) (fun m hm => ?_)
 obtain ⟨⟨hm1, hm2⟩, hm3⟩ := hm
 iterate 10 refine aS ?_
 try refine oWr ?_
 refine o_p (p_indexAddr rfl rfl rfl sl_22 (m - 1) (by omega) (by omega) rfl) rfl ?_
 refine o_slot (show _ = Value.pointer (some ⟨gn, (m - 1) * 3, none⟩) from by rw [Nat.zero_add]) ?_
 refine aS ?_
 refine o_q (q_load_at rfl rfl sz_4 (fun w h => HS.nd_cell (L := L.take m) (i := m - 1) (by rw [List.length_take]; omega) h aPk 0 (by rw [nth_take (by omega)]; rfl) (by decide))) rfl ?_
 iterate 2 refine aS ?_
 refine s_cond rfl (fun h1 => ?_) fun h1 => ?_
 ·try simp only [Bool.not_eq_true'] at h1
  have hm4 : ¬ (nth (pln L) (m - 1)).us = true := by rw [pln_nth (by omega)]; have hq := h1; simp only [LNd.pl]; first | exact hq | simp [hq]
  have hm5 : 1 ≤ m - 1 := (Nat.lt_or_ge 1 m).elim (fun h9 => by omega) (fun h9 => by exfalso; have h8 : m = 1 := (by omega); subst h8; exact hm4 hu)
  iterate 12 refine aS ?_
  try refine oWr ?_
  refine o_p (p_slice _ _ 0 (m - 1) rfl rfl sl_22 rfl ⟨_, _, rfl, (by omega)⟩ (by omega) (by omega)) rfl ?_
  refine o_slot (show _ = Value.slice (some ⟨gn, 0, none⟩) (m - 1) cap from by rw [subA_zero] <;> first | rfl | (congr 1 <;> omega)) ?_
  iterate 3 refine aS ?_
  refine o_h0 (h_store rfl rfl rfl sz_22 rfl aPt (by show 4 ≤ 6; omega) rfl) (fun _ _ => ?_)
  iterate 2 refine aS ?_
  refine s_weaken (L' := [(0, _), (2, _), (3, _), (4, _), (5, _), (6, _), (7, _), (8, _)]) aSx (fun _ h => h) ?_
  iterate 3 refine aS ?_
  try refine oWr ?_
  iterate 2 refine aS ?_
  exact s_backI (m - 1) (by omega) ⟨⟨hm5, by omega⟩, by rw [hm3, tln_step hm1 hm4]⟩ (by rw [show ((m - 1 : Nat) : Int) = (m : Int) - 1 by omega]; exact aSx) (fun w h => by have h2 := HS.star_take (m - 1) h aPk; rw [List.take_take, Nat.min_eq_left (Nat.sub_le m 1)] at h2; have h3 := h2; rw [take_flat (L := L.take m) (m := m - 1), List.take_take, Nat.min_eq_left (Nat.sub_le m 1)] at h3; exact (HS.blk_less (b := gn) aPk h3).ent aEt)
 try simp only [Bool.not_eq_false'] at h1
 have hm4 : (nth (pln L) (m - 1)).us = true := by rw [pln_nth (by omega)]; have hq := h1; simp only [LNd.pl]; first | exact hq | simpa using hq
 refine s_exit_to rfl ?_
 exact s_end0 rfl (fun w' h' => ⟨((gn, cap), L.take m), rfl, ⟨by rw [trmN, pln_len, hm3, tln_stop hm1 hm4]; exact List.map_take, by simp only [List.length_take]; omega, hcm⟩, by simp only [List.length_take]; rw [Nat.min_eq_left hm2]; exact h'.ent aEt⟩)
end Go.Proofs
