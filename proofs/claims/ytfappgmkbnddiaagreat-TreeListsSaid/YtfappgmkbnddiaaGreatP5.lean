/- Contracts of the program's functions, proved by walking them with the rules of the Gx texts; without conditions beyond those that each contract names. -/
import Derived.WalkKit
import Derived.Deep.Draws
import Derived.TacticsIn
import Derived.OrdersIn
import Derived.RangeFuncLeaves
import Derived.Lib.Strings
import Derived.Laws.BytesArg
import Derived.Laws.IdiomStrings
import Derived.Deep.Quiet
import Derived.ProofKit
import Derived.OpenShut
import Derived.Laws.StructEq
import Derived.ChangeKeysEq
import Derived.Laws.Externs
import Derived.Lib.Overlaps
import Derived.Carry
import Derived.Laws.Small
import Derived.Lib.Bytealg
import Derived.Test.YtfappgmkbnddiaaGreatProg
import Derived.KernelRfl
import Derived.Lib.Builder
import Derived.Laws.Pointers
import Derived.RangeFuncRecord
import Derived.Test.YtfappgmkbnddiaaGreatP4
namespace Go.Proofs
open Go Go.RowKit Gx
set_option linter.unusedVariables false
set_option linter.unusedSimpArgs false
attribute [local irreducible] Go.Calls Gx.S Gx.O Gx.D Gx.OpP Gx.OpQ Gx.OpH
set_option maxRecDepth 20000
theorem fn_130 : isFn Tryz.prog 130 = true := by kernel_rfl
theorem fn_94 : isFn Tryz.prog 94 = true := by kernel_rfl
def AllC (S : Type) (I : Nat → S → Prop) (C : S → HA) (st : S → TEnt → S → Prop) (co : S → Bool) (Q : TEnt → Prop) (lr : Nat) (bt : Nat) (j : Nat) (mo rm : Int) (a : Option Addr) (cap : Nat) (L : List LNd) (T : BT) : Prop := ∀ (w : World) (s : S) (r : Nat), (HS w (fps [C s]) [C s] w) → ((∀ (n : Nat) (s2 : S) (x : TEnt) (w1 : World), HS w (fps [C s]) [C s2] w1 → I (n + 1) s2 → Q x → YieldTo Tryz.prog lr [Value.agg (TEnt.vals x).toArray].toArray w1 fun e w2 => ∃ s3 : S, e = .returned (.bool (co s3)) ∧ (st s2 x s3 ∧ (co s3 = true → I n s3)) ∧ HS w1 (fps [C s2]) [C s3] w2)) → (TbR w (fps [C s]) bt (j : Int) mo rm a L.length cap) → (Nt w (fps [C s]) a L) → (∀ x ∈ T.flat, Q x) → ((T.flat).length ≤ 10000) → (I ((T.flat).length + r) s) → Calls Tryz.prog 130 #[.pointer (some ⟨bt, 0, none⟩), .int .i64 (T.idx : Int), .func (.yield lr) #[] #[]] w fun en w' => ∃ g : S × Bool, en = .returned (.bool g.2) ∧ (RunY st co s T.flat g.1 g.2 ∧ (g.2 = true → I r g.1)) ∧ HS w (fps [C s]) [C g.1] w'
theorem c130s (w : World) (S : Type) (I : Nat → S → Prop) (C : S → HA) (st : S → TEnt → S → Prop) (co : S → Bool) (Q : TEnt → Prop) (lr : Nat) (bt : Nat) (j : Nat) (mo rm : Int) (a : Option Addr) (cap : Nat) (L : List LNd) (i : Nat) (es : List TEnt) (ks : List BT) (s : S) (r : Nat) (hw : HS w (fps [C s]) [C s] w) (hv : (∀ (n : Nat) (s2 : S) (x : TEnt) (w1 : World), HS w (fps [C s]) [C s2] w1 → I (n + 1) s2 → Q x → YieldTo Tryz.prog lr [Value.agg (TEnt.vals x).toArray].toArray w1 fun e w2 => ∃ s3 : S, e = .returned (.bool (co s3)) ∧ (st s2 x s3 ∧ (co s3 = true → I n s3)) ∧ HS w1 (fps [C s2]) [C s3] w2)) (ht : TbR w (fps [C s]) bt (j : Int) mo rm a L.length cap) (hs : Nt w (fps [C s]) a L) (hQ : ∀ x ∈ (flatL es ks), Q x) (hf : ((flatL es ks)).length ≤ 10000) (hI : I (((flatL es ks)).length + r) s) (hl : L.length ≤ 1000) (hi : i < L.length) (hn : nth (pln L) i = ⟨true, es, idxs ks⟩) (hsh : ks = [] ∨ ks.length = es.length + 1) (ih : ∀ k, k < ks.length → AllC S I C st co Q lr bt j mo rm a cap L (nth ks k)) : Calls Tryz.prog 130 #[.pointer (some ⟨bt, 0, none⟩), .int .i64 (i : Int), .func (.yield lr) #[] #[]] w fun en w' => ∃ g : S × Bool, en = .returned (.bool g.2) ∧ (RunY st co s (flatL es ks) g.1 g.2 ∧ (g.2 = true → I r g.1)) ∧ HS w (fps [C s]) [C g.1] w' := by
 rw [pln_nth hi] at hn
 have hes : (nth L i).es = es := congrArg Nd.es hn
 have hcs : (nth L i).cs = idxs ks := congrArg Nd.cs hn
 have hesl : (nth L i).es.length = es.length := by rw [hes]
 have hcsl : (nth L i).cs.length = ks.length := by rw [hcs, idxs_len]
 have hel : es.length ≤ 10000 := Nat.le_trans (es_sub es ks).length_le hf
 have hkl : ks.length ≤ 10001 := by rcases hsh with h | h; rw [h]; exact Nat.zero_le _; omega
 refine enter (args := [_, _, _]) Tryz.func130 Tryz.ntmps130 rfl rfl hw ?_
 iterate 10 refine aS ?_
 refine o_q (q_load_old rfl rfl sz_22 (ht 3 _ rfl)) rfl ?_
 refine aS ?_
 refine o_p (p_indexAddr rfl rfl rfl sl_22 (i) (by omega) (by omega) (Rw.some hs.1 (by omega))) rfl ?_
 refine o_q (q_load_oldn _ rfl rfl sz_102 rfl (Rw.rd hs.1 hi)) rfl ?_
 refine oAl (fun b1 _ => ?_) zr_102
 refine oSt ?_
 iterate 8 refine aS ?_
 try refine oWr ?_
 iterate 3 refine aS ?_
 refine s_weaken (L' := [(0, _), (2, _), (6, _), (7, _), (20, _), (21, _)]) aSx (fun _ h => h) ?_
 refine s_loopI (α := Nat × S) [6, 8, 21, 22, 23, 24, 25, 26, 27, 28, 29, 30, 31, 32, 33, 34, 35, 36, 37, 38, 39, 40, 41, 42, 43, 44, 45, 46, 47, 48, 49, 50, 51, 52, 53, 54] (fun x => [(21, .int .i64 (x.1 : Int))]) (fun x => HS w (fps [C s]) [.blk b1 102 3 (nth L i).vals, C x.2]) (fun x => x.1 ≤ es.length + 1 ∧ RunY st co s (preK es ks x.1) x.2 true ∧ I ((flatL es ks).length - (preK es ks x.1).length + r) x.2) (fun x => es.length + 1 - x.1) (0, s) ⟨Nat.zero_le _, .nil s, hI⟩ aSx (fun w h => h.ent aEt) (fun ⟨k, sk⟩ hx => ?_)
 dsimp only
 obtain ⟨hk1, hk2, hk3⟩ := hx
 simp only [] at hk1 hk2 hk3
 have hm1 := preK_len (k := k) hsh hk1
 iterate 5 refine aS ?_
 refine s_cond rfl (fun h2 => ?_) fun h2 => ?_
 ·try simp only [decide_eq_true_eq] at h2
  have hke : k ≤ es.length := by have hq := h2; omega
  have hm2 := midK_len hsh hke
  have hm3 := preK_len (k := k + 1) hsh (by omega)
  have hm6 := preK_mid (es := es) (ks := ks) (k := k)
  have hm7 := midK_pre (es := es) (ks := ks) (k := k)
  iterate 16 refine aS ?_
  refine o_grpI (α := S × Bool) 10 28 38 _ (fun x => !x.2) (fun x => HS w (fps [C s]) [.blk b1 102 3 (nth L i).vals, C x.1]) (fun x => RunY st co s (midK es ks k) x.1 x.2 ∧ (x.2 = true → I ((flatL es ks).length - (midK es ks k).length + r) x.1)) rfl
   (by
    intro hg3
    have hs4 := hg3; try simp only [decide_eq_true_eq] at hs4
    have hk0 : 0 < ks.length := by have hq := hg3; simp at hq; omega
    have hsk : ks.length = es.length + 1 := by rcases hsh with h | h; rw [h] at hk0; exact absurd hk0 (by decide); exact h
    have hkk : k < ks.length := by omega
    have hm4 := congrArg List.length (midK_one (es := es) (k := k) hk0)
    rw [List.length_append] at hm4
    refine oOn 28 hg3 ?_
    refine aS ?_
    refine oOn 28 hg3 ?_
    refine aS ?_
    refine oOn 28 hg3 ?_
    refine aS ?_
    refine oOn 28 hg3 ?_
    refine aS ?_
    refine oOn 28 hg3 ?_
    refine o_p (p_indexAddr rfl rfl rfl sl_30 (k) (by omega) (by omega) (Rw.some (hs.cs hi) (by omega))) rfl ?_
    refine oOn 28 hg3 ?_
    refine o_q (q_load_old rfl rfl sz_3 (((hs.cs hi).rdj 0 (i := k) (by omega) rfl))) rfl ?_
    refine o_slot (show _ = Value.int .i64 ((nth ks k).idx : Int) from congrArg (Value.int .i64) (by rw [hcs]; exact idxs_gd hkk)) ?_
    refine oOn 28 hg3 ?_
    refine aS ?_
    refine oOn 28 hg3 ?_
    refine o_h (h_callF (Cs := [C sk]) rfl fn_130 rfl aPs (fun w1 h1 hf9 => ih k hkk w1 sk ((flatL es ks).length - (midK es ks k).length + r) hf9 (fun n9 s2 x w2 h2 hI2 hQ2 => hv n9 s2 x w2 (HS.thenF (h1.ent (Bs := [C sk]) aEt) h2) hI2 hQ2) ((ht.keep h1).mono (fps_pick aPs)) ((hs.keep h1).mono (fps_pick aPs)) (fun x hx => hQ x (kid_mem hsk hkk hx)) (Nat.le_trans (kid_len hsk hkk) hf) (by rw [show (nth ks k).flat.length + ((flatL es ks).length - (midK es ks k).length + r) = ((flatL es ks).length - (preK es ks k).length + r) from by omega]; exact hk3))) rfl (fun ⟨sm, bm⟩ hRm => ?_)
    refine oOn 28 hg3 ?_
    refine aS ?_
    refine o_p (p_pickt rfl rfl hg3 rfl) rfl ?_
    refine aS ?_
    exact s_joinI (sm, bm) ⟨by rw [midK_one hk0]; exact hk2.app hRm.1, hRm.2⟩ aSx (fun w h => h.ent aEt))
   (by
    intro hg5
    have hs6 := hg5; try simp only [decide_eq_false_iff_not] at hs6
    have hk0 : ¬ 0 < ks.length := by have hq := hg5; simp at hq; omega
    refine oOf 28 hg5 ?_
    refine oOf 28 hg5 ?_
    refine oOf 28 hg5 ?_
    refine oOf 28 hg5 ?_
    refine oOf 28 hg5 ?_
    refine oOf 28 hg5 ?_
    refine oOf 28 hg5 ?_
    refine oOf 28 hg5 ?_
    refine oOf 28 hg5 ?_
    refine o_p (p_pickf rfl rfl hg5 rfl) rfl ?_
    refine aS ?_
    exact s_joinI (sk, true) ⟨by rw [midK_no hk0]; exact hk2, fun _ => by rw [midK_no hk0]; exact hk3⟩ aSx (fun w h => h.ent aEt)) ?_
  intro ⟨sm, bm⟩ hx
  dsimp only
  obtain ⟨hR1, hI1⟩ := hx
  simp only [] at hR1 hI1
  refine aS ?_
  refine s_cond rfl (fun h7 => ?_) fun h7 => ?_
  ·try simp only [Bool.not_eq_true'] at h7
   obtain rfl : bm = false := by have hq := h7; simpa using hq
   obtain ⟨B9, hB9⟩ := midK_ex hsh hke
   iterate 4 refine aS ?_
   exact s_retv (rs := [.tmp 6]) rfl (.tmp rfl (.nil)) (fun w' h' => ⟨(sm, false), rfl, ⟨by rw [hB9]; exact hR1.off B9, fun h => by cases h⟩, h'.ent aEt⟩)
  try simp only [Bool.not_eq_false'] at h7
  obtain rfl : bm = true := by have hq := h7; simpa using hq
  iterate 9 refine aS ?_
  refine o_grpI (α := S × Bool) 9 44 53 _ (fun x => !x.2) (fun x => HS w (fps [C s]) [.blk b1 102 3 (nth L i).vals, C x.1]) (fun x => RunY st co s (preK es ks (k + 1)) x.1 x.2 ∧ (x.2 = true → I ((flatL es ks).length - (preK es ks (k + 1)).length + r) x.1)) rfl
   (by
    intro hg8
    have hs9 := hg8; try simp only [decide_eq_true_eq] at hs9
    have hke2 : k < es.length := by have hq := hg8; simp at hq; omega
    have hm5 := congrArg List.length (preK_one (es := es) (ks := ks) hke2)
    rw [List.length_append, List.length_singleton] at hm5
    refine oOn 44 hg8 ?_
    refine aS ?_
    refine oOn 44 hg8 ?_
    refine aS ?_
    refine oOn 44 hg8 ?_
    refine aS ?_
    refine oOn 44 hg8 ?_
    refine aS ?_
    refine oOn 44 hg8 ?_
    refine o_p (p_indexAddr rfl rfl rfl sl_77 (k) (by omega) (by omega) (Rw.some (hs.es hi) (by omega))) rfl ?_
    refine oOn 44 hg8 ?_
    refine o_q (q_load_oldn _ rfl rfl sz_26 rfl (Rw.rd (hs.es hi) (by omega))) rfl ?_
    refine o_slot (show _ = Value.agg (TEnt.vals (nth es k)).toArray from by rw [hes]) ?_
    refine oOn 44 hg8 ?_
    refine o_h (h_yieldF (Cs := [C sm]) rfl rfl rfl aPs (fun w1 h1 hf9 => hv ((flatL es ks).length - (preK es ks (k + 1)).length + r) sm (nth es k) w1 (h1.ent aEt) (by rw [show ((flatL es ks).length - (preK es ks (k + 1)).length + r) + 1 = ((flatL es ks).length - (midK es ks k).length + r) from by omega]; exact hI1 rfl) (hQ _ (es_mem hsh hke2)))) rfl (fun sy hRy => ?_)
    refine oOn 44 hg8 ?_
    refine aS ?_
    refine o_p (p_pickt rfl rfl hg8 rfl) rfl ?_
    refine aS ?_
    exact s_joinI (sy, co sy) ⟨by rw [preK_one hke2]; exact hR1.app (RunY.one hRy.1), hRy.2⟩ aSx (fun w h => h.ent aEt))
   (by
    intro hg10
    have hs11 := hg10; try simp only [decide_eq_false_iff_not] at hs11
    have hke2 : ¬ k < es.length := by have hq := hg10; simp at hq; omega
    refine oOf 44 hg10 ?_
    refine oOf 44 hg10 ?_
    refine oOf 44 hg10 ?_
    refine oOf 44 hg10 ?_
    refine oOf 44 hg10 ?_
    refine oOf 44 hg10 ?_
    refine oOf 44 hg10 ?_
    refine oOf 44 hg10 ?_
    refine o_p (p_pickf rfl rfl hg10 rfl) rfl ?_
    refine aS ?_
    exact s_joinI (sm, true) ⟨by rw [preK_no hke2]; exact hR1, fun _ => by rw [preK_no hke2]; exact hI1 rfl⟩ aSx (fun w h => h.ent aEt)) ?_
  intro ⟨sy, by9⟩ hx
  dsimp only
  obtain ⟨hR2, hI2⟩ := hx
  simp only [] at hR2 hI2
  refine aS ?_
  refine s_cond rfl (fun h12 => ?_) fun h12 => ?_
  ·try simp only [Bool.not_eq_true'] at h12
   obtain rfl : by9 = false := by have hq := h12; simpa using hq
   obtain ⟨B9, hB9⟩ := preK_ex hsh (show k + 1 ≤ es.length + 1 by omega)
   iterate 4 refine aS ?_
   exact s_retv (rs := [.tmp 6]) rfl (.tmp rfl (.nil)) (fun w' h' => ⟨(sy, false), rfl, ⟨by rw [hB9]; exact hR2.off B9, fun h => by cases h⟩, h'.ent aEt⟩)
  try simp only [Bool.not_eq_false'] at h12
  obtain rfl : by9 = true := by have hq := h12; simpa using hq
  iterate 4 refine aS ?_
  try refine oWr ?_
  iterate 2 refine aS ?_
  exact s_backI (k + 1, sy) (by (try simp only []); omega) ⟨by (try simp only []); omega, hR2, hI2 rfl⟩ aSx (fun w h => h.ent aEt)
 try simp only [decide_eq_false_iff_not] at h2
 refine s_exit_to rfl ?_
 iterate 4 refine aS ?_
 exact s_retv (rs := [.tmp 6]) rfl (.tmp rfl (.nil)) (fun w' h' => ⟨(sk, true), rfl, by have hke : k = es.length + 1 := (by omega); rw [← preK_all hsh, ← hke]; exact ⟨hk2, fun _ => by rw [← preK_all hsh, ← hke, Nat.sub_self, Nat.zero_add] at hk3; exact hk3⟩, h'.ent aEt⟩)
theorem c130 (S : Type) (I : Nat → S → Prop) (C : S → HA) (st : S → TEnt → S → Prop) (co : S → Bool) (Q : TEnt → Prop) (lr : Nat) (bt : Nat) (j : Nat) (mo rm : Int) (a : Option Addr) (cap : Nat) (L : List LNd) (hl : L.length ≤ 1000) : ∀ (d : Nat) (T : BT) (lo hi : Nat), Bel lo hi d T → NIn (pln L) T → AllC S I C st co Q lr bt j mo rm a cap L T
  | 0, .nd i es ks, lo, hi, hB, hN => fun w s r hw hv ht hs hQ hf hI => by
    rw [BT.flat] at hQ hf hI ⊢
    have hk := bel_0 hB
    exact c130s w S I C st co Q lr bt j mo rm a cap L i es ks s r hw hv ht hs hQ hf hI hl (by have h9 := hN.root.1; rwa [pln_len] at h9) hN.root.2 (.inl hk) (fun k h => by rw [hk] at h; exact absurd h (Nat.not_lt_zero _))
  | d + 1, .nd i es ks, lo, hi, hB, hN => fun w s r hw hv ht hs hQ hf hI => by
    rw [BT.flat] at hQ hf hI ⊢
    exact c130s w S I C st co Q lr bt j mo rm a cap L i es ks s r hw hv ht hs hQ hf hI hl (by have h9 := hN.root.1; rwa [pln_len] at h9) hN.root.2 (.inr hB.1) (fun k h => c130 S I C st co Q lr bt j mo rm a cap L hl d (nth ks k) lo hi (bel_kid hB h) (hN.kid h))
theorem c130z (w : World) (S : Type) (I : Nat → S → Prop) (C : S → HA) (st : S → TEnt → S → Prop) (co : S → Bool) (Q : TEnt → Prop) (lr : Nat) (bt : Nat) (j : Nat) (mo rm : Int) (a : Option Addr) (cap : Nat) (L : List LNd) (T : BT) (d lo hi : Nat) (s : S) (r : Nat) (hw : HS w (fps [C s]) [C s] w) (hv : (∀ (n : Nat) (s2 : S) (x : TEnt) (w1 : World), HS w (fps [C s]) [C s2] w1 → I (n + 1) s2 → Q x → YieldTo Tryz.prog lr [Value.agg (TEnt.vals x).toArray].toArray w1 fun e w2 => ∃ s3 : S, e = .returned (.bool (co s3)) ∧ (st s2 x s3 ∧ (co s3 = true → I n s3)) ∧ HS w1 (fps [C s2]) [C s3] w2)) (ht : TbR w (fps [C s]) bt (j : Int) mo rm a L.length cap) (hs : Nt w (fps [C s]) a L) (hQ : ∀ x ∈ T.flat, Q x) (hf : (T.flat).length ≤ 10000) (hI : I ((T.flat).length + r) s) (hl : L.length ≤ 1000) (hB : Bel lo hi d T) (hN : NIn (pln L) T) (h0 : T.idx = 0) : Calls Tryz.prog 130 #[.pointer (some ⟨bt, 0, none⟩), .int .i64 0, .func (.yield lr) #[] #[]] w fun en w' => ∃ g : S × Bool, en = .returned (.bool g.2) ∧ (RunY st co s T.flat g.1 g.2 ∧ (g.2 = true → I r g.1)) ∧ HS w (fps [C s]) [C g.1] w' := by
  have h9 := c130 S I C st co Q lr bt j mo rm a cap L hl d T lo hi hB hN w s r hw hv ht hs hQ hf hI
  rw [h0] at h9
  exact h9
theorem run_app {St α : Type} {st : St → α → St → Prop} {f : St → List α} {l : List α} {s s1 : St} {b : Bool} (hst : ∀ s x s', st s x s' → f s' = f s ++ [x]) (h : RunY st (fun _ => true) s l s1 b) : f s1 = f s ++ l := by
  induction h with
  | nil s => rw [List.append_nil]
  | go h hc _ ih => rw [ih, hst _ _ _ h, List.append_assoc]; rfl
  | stop h hc => cases hc
theorem c94 (w : World) (S : Type) (I : Nat → S → Prop) (C : S → HA) (st : S → TEnt → S → Prop) (co : S → Bool) (Q : TEnt → Prop) (lr : Nat) (bt : Nat) (j : Nat) (mo rm : Int) (a : Option Addr) (cap : Nat) (L : List LNd) (T : BT) (d lo hi : Nat) (s : S) (r : Nat) (hw : HS w (fps [C s]) [C s] w) (hv : (∀ (n : Nat) (s2 : S) (x : TEnt) (w1 : World), HS w (fps [C s]) [C s2] w1 → I (n + 1) s2 → Q x → YieldTo Tryz.prog lr [Value.agg (TEnt.vals x).toArray].toArray w1 fun e w2 => ∃ s3 : S, e = .returned (.bool (co s3)) ∧ (st s2 x s3 ∧ (co s3 = true → I n s3)) ∧ HS w1 (fps [C s2]) [C s3] w2)) (ht : TbR w (fps [C s]) bt (j : Int) mo rm a L.length cap) (hs : Nt w (fps [C s]) a L) (hQ : ∀ x ∈ T.flat, Q x) (hf : (T.flat).length ≤ 10000) (hI : I ((T.flat).length + r) s) (hl : L.length ≤ 1000) (hB : Bel lo hi d T) (hN : NIn (pln L) T) (h0 : T.idx = 0) : Calls Tryz.prog 94 #[.pointer (some ⟨bt, 0, none⟩), .func (.yield lr) #[] #[]] w fun en w' => ∃ g : S × Bool, en = .returned (.tuple #[]) ∧ (RunY st co s T.flat g.1 g.2 ∧ (g.2 = true → I r g.1)) ∧ HS w (fps [C s]) [C g.1] w' := by
 refine enter (args := [_, _]) Tryz.func94 Tryz.ntmps94 rfl rfl hw ?_
 iterate 3 refine aS ?_
 refine o_h (h_callF (Cs := [C s]) rfl fn_130 rfl aPs (fun w1 h1 hf9 => c130z w1 S I C st co Q lr bt j mo rm a cap L T d lo hi s r hf9 (fun n9 s2 x w2 h2 hI2 hQ2 => hv n9 s2 x w2 (HS.thenF (h1.ent (Bs := [C s]) aEt) h2) hI2 hQ2) ((ht.keep h1).mono (fps_pick aPs)) ((hs.keep h1).mono (fps_pick aPs)) hQ hf hI hl hB hN h0)) rfl (fun ⟨sm, bm⟩ hRm => ?_)
 refine aS ?_
 exact s_end0 rfl (fun w' h' => ⟨(sm, bm), rfl, hRm, h'.ent aEt⟩)
theorem c131 (w : World) (bt : Nat) (j : Nat) (mo rm : Int) (a : Option Addr) (cap : Nat) (L : List LNd) (T : BT) (d lo hi : Nat) (hs : Nt w [] a L) (ht : TbR w [] bt (j : Int) mo rm a L.length cap) (hl : L.length ≤ 1000) (hB : Bel lo hi d T) (hN : NIn (pln L) T) (h0 : T.idx = 0) (hf : T.flat.length ≤ 10000) : Calls Tryz.prog 131 #[.slice none 0 0, .func (.func 94) #[.pointer (some ⟨bt, 0, none⟩)] #[]] w fun en w' => ∃ g : Option Addr × Nat, en = .returned (.slice g.1 (T.flat).length g.2) ∧ True ∧ HS w [] [.own (.slice g.1 (T.flat).length g.2) 26 2 (T.flat).length ((T.flat).flatMap TEnt.vals)] w' := by
 refine enter (args := [_, _]) Tryz.func131 Tryz.ntmps131 rfl rfl (HS.refl w []) ?_
 iterate 2 refine aS ?_
 refine oBx fun b1 _ => ?_
 iterate 8 refine aS ?_
 refine s_rangeL (G := {s : ((Option Addr × Nat) × List TEnt) // s.2 = T.flat}) (Bs := fun s => [.blk b1 77 1 [.slice s.1.1.1 s.1.2.length s.1.1.2], .own (.slice s.1.1.1 (s.1.2).length s.1.1.2) 26 2 (s.1.2).length ((s.1.2).flatMap TEnt.vals)]) (jmp := fun _ => none) rfl rfl rfl fn_94 (fun fid D l a9 w1 ob hob ha9 hw1 => ?_) (fun D x => ?_)
 ·skip
  have h2 : HS w [] [(fun s => .star [.obj l ob, .obj D (.deferred (some [])), .blk b1 77 1 [.slice s.1.1 s.2.length s.1.2], .own (.slice s.1.1 (s.2).length s.1.2) 26 2 (s.2).length ((s.2).flatMap TEnt.vals)]) ((none, 0), [])] w1 := HS.star_close (Bs := [_, _, _, _]) ((hw1.own_nil 26 2).ent aEt)
  refine Calls.mono (c94 w1 ((Option Addr × Nat) × List TEnt) (fun n s => s.2.length + n ≤ 10000) (fun s => .star [.obj l ob, .obj D (.deferred (some [])), .blk b1 77 1 [.slice s.1.1 s.2.length s.1.2], .own (.slice s.1.1 (s.2).length s.1.2) 26 2 (s.2).length ((s.2).flatMap TEnt.vals)]) (fun s x s3 => s3.2 = s.2 ++ [x]) (fun _ => true) (fun _ => True) l bt j mo rm a cap L T d lo hi ((none, 0), []) 0 (HS.focus (Cs := [_]) (Ds := []) h2) ?_ (ht.keep h2) (hs.keep h2) (fun _ _ => trivial) hf (by show 0 + _ ≤ _; omega) hl hB hN h0) fun e w2 hx => ?_
  rotate_left
  ·obtain ⟨⟨sm, bm⟩, he, ⟨hr, _⟩, h5⟩ := hx
   refine ⟨⟨_, he⟩, ⟨sm, by have h7 := run_app (f := fun s : ((Option Addr × Nat) × List TEnt) => s.2) (fun _ _ _ h => h) hr; simpa using h7⟩, ?_⟩
   have h6 := HS.star_open (HS.callA h2 h5)
   subst hob
   exact h6.ent aEt
  intro n9 s2 x w3 h3 hI2 _
  have h4 := HS.star_open (HS.focus (Cs := [_]) (Ds := []) h3)
  subst hob
  obtain ⟨⟨ga, gc⟩, lg⟩ := s2
  dsimp only at h4 hI2 ⊢
  refine y_roundA (α := Nat) (fn := Tryz.f131) (As1 := fun b5 => .obj D (.deferred (some [])) :: [.blk b1 77 1 [.slice ga lg.length gc], .own (.slice ga (lg).length gc) 26 2 (lg).length ((lg).flatMap TEnt.vals), .blk b5 26 2 (TEnt.vals x)]) (L1 := fun b5 => [(5, .pointer (some ⟨b5, 0, none⟩)), (2, .pointer (some ⟨b1, 0, none⟩))]) h4 rfl (FR.round1 ha9 7 _ rfl) ?_ ?_
  ·skip
   refine aS ?_
   refine oAl (fun b2 _ => ?_) zr_26
   refine oSt ?_
   refine aS ?_
   exact s_join b2 aSx (fun w h => h.ent aEt)
  skip
  intro b5
  iterate 4 refine aS ?_
  refine o_h (h_buildSlice (cs := [_, _]) rfl rfl sl_77 zr_26 rfl rfl rfl) rfl (fun b3 _ => ?_)
  refine o_h (h_appendS (TEnt.vals x) rfl rfl rfl sl_77 Tryz.underlying77 zr_26 rfl aPk (src_blk aPk) rfl (ev1 _) (by omega) (by simp only [maxLen]; omega)) rfl (fun b4 _ => ?_)
  refine oSt ?_
  iterate 2 refine aS ?_
  exact s_end_rd rfl aPk (fun w h => ⟨(b4, lg ++ [x]), rfl, ⟨rfl, fun _ => by simp only [List.length_append, List.length_singleton]; omega⟩, by refine HS.star_close (Bs := [_, _, _, _]) ?_; simp only [List.length_append, List.length_singleton, List.flatMap_append, List.flatMap_cons, List.flatMap_nil, List.append_nil]; exact h.ent aEt⟩)
 skip
 obtain ⟨⟨⟨gx, gy⟩, lg⟩, hlg⟩ := x
 dsimp only at hlg
 subst hlg
 dsimp only
 refine s_rng_out (.inl rfl) ?_
 iterate 5 refine aS ?_
 exact s_retm (rs := [.tmp 4]) rfl aPk (.tmp rfl (.nil)) (fun w' h' => ⟨(gx, gy), rfl, trivial, h'.ent aEt⟩)
end Go.Proofs
namespace Gx
open Go Go.RowKit
set_option linter.unusedVariables false
set_option linter.unusedSectionVars false
section
variable {w0 w : World} {M : List Nat} {As Cs Ds Es Fs : List HA}
theorem HS.rw_blkF {α : Type} [Inhabited α] {vals : α → List Value} {sz : Nat} (hv : ∀ x, (vals x).length = sz) {g tot t : Nat} {l : List α} (h : HS w0 M As w) (hp : Picks As Cs Ds) (hp2 : Pick Ds (.blk g t tot (l.flatMap vals)) Es) : Rw vals sz w (fps Cs) (some ⟨g, 0, none⟩) l := by
  refine ⟨fun hn => ?_⟩
  refine ⟨g, 0, rfl, fun i hi => ⟨hv _, fun j v hjv => ?_⟩⟩
  have hj : j < sz := by
    rw [← hv (nth l i)]
    exact (List.getElem?_eq_some_iff.1 hjv).1
  have := HS.rd_blkF (i := i * sz + j) h hp hp2 (v := v) (by rw [flat_get hv l i j _ (nth_get hi) hj]; exact hjv)
  rw [Nat.zero_add]
  exact this
theorem HS.nt_atF {gn cap et nt' : Nat} {L : List LNd} (h : HS w0 M As w) (hp : Picks As Cs Ds) (hp1 : Pick Ds (.blk gn nt' (cap * 3) (L.flatMap LNd.vals)) Es) (hp2 : Pick Es (.star (L.map (subN et))) Fs) : Nt w (fps Cs) (some ⟨gn, 0, none⟩) L := by
  refine ⟨h.rw_blkF nv3 hp hp1, fun n hn => ?_⟩
  obtain ⟨i, hi, e⟩ := List.getElem_of_mem hn
  have e2 : nth L i = n := nth_eq (by rw [List.getElem?_eq_getElem hi, e])
  have h1 : HS w0 M (.star (L.map (subN et)) :: (Fs ++ Cs)) w := ((h.perm hp).perm ((hp1.perm.append_left Cs).trans List.perm_middle)).tail.perm ((hp2.perm.append_left Cs).trans (List.perm_append_comm (l₁ := Cs) (l₂ := .star (L.map (subN et)) :: Fs)))
  have h3 := HS.star_open (HS.sub_open (sub := subN et) hi h1)
  rw [e2] at h3
  have hq : Picks ([HA.ents et n.ea n.ec n.es, .kids n.ca n.cc n.cs] ++ (.star ((others L i).map (subN et)) :: (Fs ++ Cs))) Cs (HA.ents et n.ea n.ec n.es :: .kids n.ca n.cc n.cs :: .star ((others L i).map (subN et)) :: Fs) := List.perm_append_comm (l₁ := HA.ents et n.ea n.ec n.es :: .kids n.ca n.cc n.cs :: .star ((others L i).map (subN et)) :: Fs) (l₂ := Cs)
  exact ⟨h3.rw_ownF ev2 hq .here rfl, h3.rw_ownF iv1 hq (.there .here) rfl⟩
end
end Gx
namespace Go.Proofs
open Go Go.RowKit Gx
set_option linter.unusedVariables false
set_option linter.unusedSimpArgs false
attribute [local irreducible] Go.Calls Gx.S Gx.O Gx.D Gx.OpP Gx.OpQ Gx.OpH
set_option maxRecDepth 20000
theorem fn_131 : isFn Tryz.prog 131 = true := by kernel_rfl
theorem fn_95 : isFn Tryz.prog 95 = true := by kernel_rfl
theorem c95 (w : World) (bt : Nat) (j : Nat) (mo rm : Int) (a : Option Addr) (cap : Nat) (L : List LNd) (T : BT) (d lo hi : Nat) (hs : Nt w [] a L) (ht : TbR w [] bt (j : Int) mo rm a L.length cap) (hl : L.length ≤ 1000) (hB : Bel lo hi d T) (hN : NIn (pln L) T) (h0 : T.idx = 0) (hf : T.flat.length ≤ 10000) : Calls Tryz.prog 95 #[.func (.func 94) #[.pointer (some ⟨bt, 0, none⟩)] #[]] w fun en w' => ∃ g : Option Addr × Nat, en = .returned (.slice g.1 (T.flat).length g.2) ∧ True ∧ HS w [] [.own (.slice g.1 (T.flat).length g.2) 26 2 (T.flat).length ((T.flat).flatMap TEnt.vals)] w' := by
 refine enter (args := [_]) Tryz.func95 Tryz.ntmps95 rfl rfl (HS.refl w []) ?_
 iterate 7 refine aS ?_
 refine o_h (h_call rfl fn_131 rfl (fun w1 h1 => c131 w1 bt j mo rm a cap L T d lo hi (hs.later h1.nil) (ht.next h1.nil) hl hB hN h0 hf)) rfl (fun ⟨gu, gv⟩ _ => ?_)
 iterate 2 refine aS ?_
 exact s_retv (rs := [.tmp 2]) rfl (.tmp rfl (.nil)) (fun w' h' => ⟨(gu, gv), rfl, trivial, h'.ent aEt⟩)
theorem c51e (w : World) (co mo rm : Int) (a : Option Addr) (cap : Nat) (L : List LNd) (hs : Nt w [] a L) (hB : Bd (pln L)) (hkl : ∀ i, i < L.length → ∀ x ∈ (nth L i).es, x.key.length ≤ 1000000) (he : ¬ (treE (⟨co, mo, rm, pln L⟩ : Tre)).2 = 0) : Calls Tryz.prog 51 #[.agg #[.int .i64 co, .int .i64 mo, .int .i64 rm, .slice a L.length cap]] w fun en w' => en = .returned (.tuple #[.slice none 0 0, .int .i64 (treE (⟨co, mo, rm, pln L⟩ : Tre)).2]) ∧ Below w.heap.size w w' := by
 refine enter (args := [_]) Tryz.func51 Tryz.ntmps51 rfl rfl (HS.refl w []) ?_
 iterate 2 refine aS ?_
 refine oBx fun b1 _ => ?_
 iterate 6 refine aS ?_
 refine o_q (q_call rfl fn_84 rfl (fun w1 h1 => c84e w1 co mo rm a cap L (hs.later h1.nil) hB hkl he)) rfl ?_
 iterate 12 refine aS ?_
 refine s_cond rfl (fun h2 => ?_) fun h2 => ?_
 ·try simp only [Bool.not_eq_true', decide_eq_false_iff_not] at h2
  iterate 6 refine aS ?_
  exact s_retv (rs := [.tmp 2, .tmp 3]) rfl (.tmp rfl (.tmp rfl (.nil))) (fun w' h' => ⟨rfl, h'.below⟩)
 try simp only [Bool.not_eq_false', decide_eq_true_eq] at h2
 exfalso; first | omega | (simp at h2; done) | (simp_all; done)
theorem c51o (w : World) (j : Nat) (mo rm : Int) (a : Option Addr) (cap : Nat) (L : List LNd) (T : BT) (d lo hi : Nat) (hs : Nt w [] a L) (hB : Bd (pln L)) (hkl : ∀ i, i < L.length → ∀ x ∈ (nth L i).es, x.key.length ≤ 1000000) (h0 : (treE (⟨(j : Int), mo, rm, pln L⟩ : Tre)).2 = 0) (hl2 : L.length ≤ 1000) (hBl : Bel lo hi d T) (hN : NIn (pln L) T) (hT0 : T.idx = 0) (hf : T.flat.length ≤ 10000) : Calls Tryz.prog 51 #[.agg #[.int .i64 (j : Int), .int .i64 mo, .int .i64 rm, .slice a L.length cap]] w fun en w' => ∃ g : Option Addr × Nat, en = .returned (.tuple #[.slice g.1 (T.flat).length g.2, .int .i64 0]) ∧ True ∧ HS w [] [.own (.slice g.1 (T.flat).length g.2) 26 2 (T.flat).length ((T.flat).flatMap TEnt.vals)] w' := by
 obtain ⟨hc0, hz0, hl0, hl120, hn0, _, _⟩ := treE_0 h0
 rw [show ((⟨(j : Int), mo, rm, pln L⟩ : Tre)).ns = pln L from rfl, pln_len] at hl0 hl120
 have hj : j ≤ 3 := by obtain ⟨j9, e9, hj9⟩ := col_ok hc0; have e8 : ((j : Nat) : Int) = (j9 : Int) := e9; omega
 have hT : TOk (j : Int) (pln L) := tok_of (t := (⟨(j : Int), mo, rm, pln L⟩ : Tre)) hn0
 have hmo := (sizE_0 hz0).1
 simp only [] at hmo
 refine enter (args := [_]) Tryz.func51 Tryz.ntmps51 rfl rfl (HS.refl w []) ?_
 iterate 2 refine aS ?_
 refine oBx fun b1 _ => ?_
 iterate 6 refine aS ?_
 refine o_h (h_call rfl fn_84 rfl (fun w1 h1 => c84o w1 j mo rm a cap L (hs.later h1.nil) hB hkl h0)) rfl (fun ⟨b9, ⟨gn9, c9⟩, L9⟩ hF9 => ?_)
 dsimp only
 obtain ⟨hL9, hn9, hm9⟩ := hF9
 simp only [] at hL9 hn9 hm9
 have hl9 : L9.length = L.length := by rw [← pln_len L9, hL9, pln_len]
 have hB9 : Bd (pln L9) := by rw [hL9]; exact hB
 have hT9 : TOk (j : Int) (pln L9) := by rw [hL9]; exact hT
 have hK9 : ∀ i, i < L9.length → ∀ y ∈ (nth L9 i).es, keyOk (j : Int) y.key = true ∧ y.key.length ≤ 1000000 := fun i hi y hy => tok_key hT9 i (by rw [pln_len]; exact hi) y (by rw [pln_nth hi]; exact hy)
 iterate 12 refine aS ?_
 refine s_cond rfl (fun h2 => ?_) fun h2 => ?_
 ·try simp only [Bool.not_eq_true', decide_eq_false_iff_not] at h2
  exfalso; first | omega | (simp at h2; done) | (simp_all; done)
 try simp only [Bool.not_eq_false', decide_eq_true_eq] at h2
 iterate 5 refine aS ?_
 refine o_h (h_call rfl fn_95 rfl (fun w1 h1 => c95 w1 b9 j mo rm (some ⟨gn9, 0, none⟩) c9 L9 T d lo hi (HS.nt_at h1 aPk aPk) (HS.tbr h1 aPk) (by omega) hBl (by rw [hL9]; exact hN) hT0 hf)) rfl (fun ⟨gu, gv⟩ _ => ?_)
 iterate 3 refine aS ?_
 exact s_retv (rs := [.tmp 2, .tmp 3]) rfl (.tmp rfl (.tmp rfl (.nil))) (fun w' h' => ⟨(gu, gv), rfl, trivial, h'.ent aEt⟩)
theorem lst_d (E most : Int) : firstV [.int .i64 E, .int .i64 (cond (decide (1 ≤ most) && decide (most ≤ 200)) 0 2)] = if E = 0 then (if 1 ≤ most ∧ most ≤ 200 then 0 else 2) else E := by
  unfold firstV
  by_cases h : E = 0
  · rw [if_pos h, if_pos h]
    by_cases h2 : 1 ≤ most ∧ most ≤ 200
    · rw [if_pos h2, decide_eq_true h2.1, decide_eq_true h2.2]
      rfl
    · rw [if_neg h2]
      have h3 : (decide (1 ≤ most) && decide (most ≤ 200)) = false := by simp; omega
      rw [h3]
      rfl
  · rw [if_neg h, if_neg h]
theorem c48e (w : World) (co mo rm : Int) (a : Option Addr) (cap : Nat) (L : List LNd) (key : List UInt8) (most : Int) (hs : Nt w [] a L) (hB : Bd (pln L)) (hkl : ∀ i, i < L.length → ∀ x ∈ (nth L i).es, x.key.length ≤ 1000000) (he : ¬ (treE (⟨co, mo, rm, pln L⟩ : Tre)).2 = 0) : Calls Tryz.prog 48 #[.agg #[.int .i64 co, .int .i64 mo, .int .i64 rm, .slice a L.length cap], .string (bs key), .int .i64 most] w fun en w' => en = .returned (.tuple #[.slice none 0 0, .int .i64 (treE (⟨co, mo, rm, pln L⟩ : Tre)).2]) ∧ Below w.heap.size w w' := by
 refine enter (args := [_, _, _]) Tryz.func48 Tryz.ntmps48 rfl rfl (HS.refl w []) ?_
 iterate 2 refine aS ?_
 refine oBx fun b1 _ => ?_
 refine oBx fun b2 _ => ?_
 refine oBx fun b3 _ => ?_
 iterate 6 refine aS ?_
 refine o_q (q_call rfl fn_84 rfl (fun w1 h1 => c84e w1 co mo rm a cap L (hs.later h1.nil) hB hkl he)) rfl ?_
 iterate 3 refine aS ?_
 refine oAl (fun b4 _ => ?_) zr_103
 refine oSt ?_
 iterate 8 refine aS ?_
 refine o_and 3 19 22 _ _ rfl
  (by
   intro hg5
   have hs6 := hg5; try simp only [decide_eq_true_eq] at hs6
   refine oOn 19 hg5 ?_
   refine aS ?_
   refine oOn 19 hg5 ?_
   refine aS ?_
   refine o_p (p_pickt rfl rfl hg5 rfl) rfl ?_
   refine aS ?_
   exact oJn 3 22)
  (by
   intro hg7
   have hs8 := hg7; try simp only [decide_eq_false_iff_not] at hs8
   refine oOf 19 hg7 ?_
   refine oOf 19 hg7 ?_
   refine o_p (p_pickf rfl rfl hg7 rfl) rfl ?_
   refine aS ?_
   exact oJn 3 22) ?_
 refine aS ?_
 refine s_cond rfl (fun h9 => ?_) fun h9 => ?_
 ·try simp only [Bool.and_eq_true, decide_eq_true_eq, Bool.not_eq_true', decide_eq_false_iff_not] at h9
  exfalso; exact he (h9).1
 try simp only [Bool.and_eq_false_iff, decide_eq_false_iff_not, Bool.not_eq_false', decide_eq_true_eq] at h9
 iterate 6 refine aS ?_
 refine o_q (q_call rfl fn_93 rfl (fun w1 h1 => c93 w1 _ _ _)) rfl ?_
 refine o_q (q_call rfl fn_81 rfl (fun w1 h1 => c81 w1 _ _)) rfl ?_
 refine o_h (h_buildSlice (cs := [_, _]) rfl rfl sl_165 zr_31 rfl rfl rfl) rfl (fun b10 _ => ?_)
 refine o_q (q_call rfl fn_75 rfl (fun w1 h1 => f75 h1 aPk (by rfl) (by rfl) (by decide))) rfl ?_
 refine o_slot (show _ = Value.int .i64 (treE (⟨co, mo, rm, pln L⟩ : Tre)).2 from by rw [lst_d, if_neg he]) ?_
 iterate 7 refine aS ?_
 refine s_cond rfl (fun h11 => ?_) fun h11 => ?_
 ·try simp only [Bool.not_eq_true', decide_eq_false_iff_not] at h11
  iterate 6 refine aS ?_
  exact s_retv (rs := [.tmp 6, .tmp 7]) rfl (.tmp rfl (.tmp rfl (.nil))) (fun w' h' => ⟨rfl, h'.below⟩)
 try simp only [Bool.not_eq_false', decide_eq_true_eq] at h11
 exfalso; exact he (by have hq := h11; first | exact hq | omega)
theorem c48x (w : World) (j : Nat) (mo rm : Int) (a : Option Addr) (cap : Nat) (L : List LNd) (key : List UInt8) (most : Int) (hs : Nt w [] a L) (hB : Bd (pln L)) (hkl : ∀ i, i < L.length → ∀ x ∈ (nth L i).es, x.key.length ≤ 1000000) (h0 : (treE (⟨(j : Int), mo, rm, pln L⟩ : Tre)).2 = 0) (hkk : key.length ≤ 1000000) (hx : ¬ (if (if key = [] then 0 else keyE (j : Int) key) = 0 then (if 1 ≤ most ∧ most ≤ 200 then 0 else 2) else (if key = [] then 0 else keyE (j : Int) key)) = 0) : Calls Tryz.prog 48 #[.agg #[.int .i64 (j : Int), .int .i64 mo, .int .i64 rm, .slice a L.length cap], .string (bs key), .int .i64 most] w fun en w' => en = .returned (.tuple #[.slice none 0 0, .int .i64 (if (if key = [] then 0 else keyE (j : Int) key) = 0 then (if 1 ≤ most ∧ most ≤ 200 then 0 else 2) else (if key = [] then 0 else keyE (j : Int) key))]) ∧ Below w.heap.size w w' := by
 obtain ⟨hc0, hz0, hl0, hl120, hn0, _, _⟩ := treE_0 h0
 rw [show ((⟨(j : Int), mo, rm, pln L⟩ : Tre)).ns = pln L from rfl, pln_len] at hl0 hl120
 have hj : j ≤ 3 := by obtain ⟨j9, e9, hj9⟩ := col_ok hc0; have e8 : ((j : Nat) : Int) = (j9 : Int) := e9; omega
 have hT : TOk (j : Int) (pln L) := tok_of (t := (⟨(j : Int), mo, rm, pln L⟩ : Tre)) hn0
 have hmo := (sizE_0 hz0).1
 simp only [] at hmo
 refine enter (args := [_, _, _]) Tryz.func48 Tryz.ntmps48 rfl rfl (HS.refl w []) ?_
 iterate 2 refine aS ?_
 refine oBx fun b1 _ => ?_
 refine oBx fun b2 _ => ?_
 refine oBx fun b3 _ => ?_
 iterate 6 refine aS ?_
 refine o_h (h_call rfl fn_84 rfl (fun w1 h1 => c84o w1 j mo rm a cap L (hs.later h1.nil) hB hkl h0)) rfl (fun ⟨b9, ⟨gn9, c9⟩, L9⟩ hF9 => ?_)
 dsimp only
 obtain ⟨hL9, hn9, hm9⟩ := hF9
 simp only [] at hL9 hn9 hm9
 have hl9 : L9.length = L.length := by rw [← pln_len L9, hL9, pln_len]
 have hB9 : Bd (pln L9) := by rw [hL9]; exact hB
 have hT9 : TOk (j : Int) (pln L9) := by rw [hL9]; exact hT
 have hK9 : ∀ i, i < L9.length → ∀ y ∈ (nth L9 i).es, keyOk (j : Int) y.key = true ∧ y.key.length ≤ 1000000 := fun i hi y hy => tok_key hT9 i (by rw [pln_len]; exact hi) y (by rw [pln_nth hi]; exact hy)
 iterate 3 refine aS ?_
 refine oAl (fun b4 _ => ?_) zr_103
 refine oSt ?_
 iterate 8 refine aS ?_
 refine o_and 3 19 22 _ _ rfl
  (by
   intro hg5
   have hs6 := hg5; try simp only [decide_eq_true_eq] at hs6
   refine oOn 19 hg5 ?_
   refine aS ?_
   refine oOn 19 hg5 ?_
   refine aS ?_
   refine o_p (p_pickt rfl rfl hg5 rfl) rfl ?_
   refine aS ?_
   exact oJn 3 22)
  (by
   intro hg7
   have hs8 := hg7; try simp only [decide_eq_false_iff_not] at hs8
   refine oOf 19 hg7 ?_
   refine oOf 19 hg7 ?_
   refine o_p (p_pickf rfl rfl hg7 rfl) rfl ?_
   refine aS ?_
   exact oJn 3 22) ?_
 refine aS ?_
 refine s_weaken (L' := [(3, _), (4, _), (5, _), (6, _), (7, _), (8, _), (9, _), (22, _)]) aSx (fun _ h => h) ?_
 refine s_cutI (α := Nat) [9, 23, 24, 25, 26] (fun _ => [(9, .int .i64 (if key = [] then 0 else keyE (j : Int) key))]) (fun _ => HS w [] [.blk b1 24 4 [.int .i64 (j : Int), .int .i64 mo, .int .i64 rm, .slice a L.length cap], .blk b2 9 1 [.string (bs key)], .blk b3 3 1 [.int .i64 most], .blk b4 103 1 [.pointer (some ⟨b9, 0, none⟩)], .blk b9 112 6 (tbV (j : Int) mo rm (some ⟨gn9, 0, none⟩) (L9).length c9), .blk gn9 102 (c9 * 3) ((L9).flatMap LNd.vals), .star ((L9).map (subN 26))]) (fun _ => True) ?_ ?_
 ·skip
  refine s_cond rfl (fun h9 => ?_) fun h9 => ?_
  ·try simp only [Bool.and_eq_true, decide_eq_true_eq, Bool.not_eq_true', decide_eq_false_iff_not] at h9
   iterate 4 refine aS ?_
   refine o_q (q_call rfl fn_76 rfl (fun w1 h1 => c76 w1 j key hj hkk)) rfl ?_
   iterate 2 refine aS ?_
   exact s_joinI 0 trivial (by have hq := h9; have hD : (if key = [] then 0 else keyE (j : Int) key) = keyE (j : Int) key := (by first | exact if_neg hq | exact if_neg hq.2 | (rw [if_neg (by simp_all)])); rw [hD]; exact aSx) (fun w h => h.ent aEt)
  try simp only [Bool.and_eq_false_iff, decide_eq_false_iff_not, Bool.not_eq_false', decide_eq_true_eq] at h9
  refine aS ?_
  exact s_joinI 0 trivial (by have hq := h9; have hD : (if key = [] then 0 else keyE (j : Int) key) = 0 := (by first | exact if_pos hq | (rw [if_pos (by simp_all)])); rw [hD]; exact aSx) (fun w h => h.ent aEt)
 intro q0 _
 iterate 5 refine aS ?_
 refine o_q (q_call rfl fn_93 rfl (fun w1 h1 => c93 w1 _ _ _)) rfl ?_
 refine o_q (q_call rfl fn_81 rfl (fun w1 h1 => c81 w1 _ _)) rfl ?_
 refine o_h (h_buildSlice (cs := [_, _]) rfl rfl sl_165 zr_31 rfl rfl rfl) rfl (fun b10 _ => ?_)
 refine o_q (q_call rfl fn_75 rfl (fun w1 h1 => f75 h1 aPk (by rfl) (by rfl) (by decide))) rfl ?_
 refine o_slot (show _ = Value.int .i64 (if (if key = [] then 0 else keyE (j : Int) key) = 0 then (if 1 ≤ most ∧ most ≤ 200 then 0 else 2) else (if key = [] then 0 else keyE (j : Int) key)) from by rw [lst_d]) ?_
 iterate 7 refine aS ?_
 refine s_cond rfl (fun h11 => ?_) fun h11 => ?_
 ·try simp only [Bool.not_eq_true', decide_eq_false_iff_not] at h11
  iterate 6 refine aS ?_
  exact s_retv (rs := [.tmp 6, .tmp 7]) rfl (.tmp rfl (.tmp rfl (.nil))) (fun w' h' => ⟨by rfl, h'.below⟩)
 try simp only [Bool.not_eq_false', decide_eq_true_eq] at h11
 exfalso; exact hx (by have hq := h11; first | exact hq | omega)
theorem c48o (w : World) (j : Nat) (mo rm : Int) (a : Option Addr) (cap : Nat) (L : List LNd) (key : List UInt8) (m : Nat) (T : BT) (d lo hi : Nat) (hs : Nt w [] a L) (hB : Bd (pln L)) (hkl : ∀ i, i < L.length → ∀ x ∈ (nth L i).es, x.key.length ≤ 1000000) (h0 : (treE (⟨(j : Int), mo, rm, pln L⟩ : Tre)).2 = 0) (hl2 : L.length ≤ 1000) (hBl : Bel lo hi d T) (hN : NIn (pln L) T) (hT0 : T.idx = 0) (hf : T.flat.length ≤ 10000) (hkk : key.length ≤ 1000000) (hkey : key = [] ∨ keyE (j : Int) key = 0) (hm1 : 1 ≤ m) (hm2 : m ≤ 200) (hK : ∀ x ∈ T.flat, keyOk (j : Int) x.key = true ∧ x.key.length ≤ 1000000) : Calls Tryz.prog 48 #[.agg #[.int .i64 (j : Int), .int .i64 mo, .int .i64 rm, .slice a L.length cap], .string (bs key), .int .i64 (m : Int)] w fun en w' => ∃ g : Option Addr × Nat, en = .returned (.tuple #[.slice g.1 ((lstN (lstB (j : Int) key) m T.flat)).length g.2, .int .i64 0]) ∧ True ∧ HS w [] [.own (.slice g.1 ((lstN (lstB (j : Int) key) m T.flat)).length g.2) 26 2 ((lstN (lstB (j : Int) key) m T.flat)).length (((lstN (lstB (j : Int) key) m T.flat)).flatMap TEnt.vals)] w' := by
 obtain ⟨hc0, hz0, hl0, hl120, hn0, _, _⟩ := treE_0 h0
 rw [show ((⟨(j : Int), mo, rm, pln L⟩ : Tre)).ns = pln L from rfl, pln_len] at hl0 hl120
 have hj : j ≤ 3 := by obtain ⟨j9, e9, hj9⟩ := col_ok hc0; have e8 : ((j : Nat) : Int) = (j9 : Int) := e9; omega
 have hT : TOk (j : Int) (pln L) := tok_of (t := (⟨(j : Int), mo, rm, pln L⟩ : Tre)) hn0
 have hmo := (sizE_0 hz0).1
 simp only [] at hmo
 have hEK : (if key = [] then 0 else keyE (j : Int) key) = 0 := by rcases hkey with h | h; rw [if_pos h]; rw [h]; split <;> rfl
 refine enter (args := [_, _, _]) Tryz.func48 Tryz.ntmps48 rfl rfl (HS.refl w []) ?_
 iterate 2 refine aS ?_
 refine oBx fun b1 _ => ?_
 refine oBx fun b2 _ => ?_
 refine oBx fun b3 _ => ?_
 iterate 6 refine aS ?_
 refine o_h (h_call rfl fn_84 rfl (fun w1 h1 => c84o w1 j mo rm a cap L (hs.later h1.nil) hB hkl h0)) rfl (fun ⟨b9, ⟨gn9, c9⟩, L9⟩ hF9 => ?_)
 dsimp only
 obtain ⟨hL9, hn9, hm9⟩ := hF9
 simp only [] at hL9 hn9 hm9
 have hl9 : L9.length = L.length := by rw [← pln_len L9, hL9, pln_len]
 have hB9 : Bd (pln L9) := by rw [hL9]; exact hB
 have hT9 : TOk (j : Int) (pln L9) := by rw [hL9]; exact hT
 have hK9 : ∀ i, i < L9.length → ∀ y ∈ (nth L9 i).es, keyOk (j : Int) y.key = true ∧ y.key.length ≤ 1000000 := fun i hi y hy => tok_key hT9 i (by rw [pln_len]; exact hi) y (by rw [pln_nth hi]; exact hy)
 iterate 3 refine aS ?_
 refine oAl (fun b4 _ => ?_) zr_103
 refine oSt ?_
 iterate 8 refine aS ?_
 refine o_and 3 19 22 _ _ rfl
  (by
   intro hg5
   have hs6 := hg5; try simp only [decide_eq_true_eq] at hs6
   refine oOn 19 hg5 ?_
   refine aS ?_
   refine oOn 19 hg5 ?_
   refine aS ?_
   refine o_p (p_pickt rfl rfl hg5 rfl) rfl ?_
   refine aS ?_
   exact oJn 3 22)
  (by
   intro hg7
   have hs8 := hg7; try simp only [decide_eq_false_iff_not] at hs8
   refine oOf 19 hg7 ?_
   refine oOf 19 hg7 ?_
   refine o_p (p_pickf rfl rfl hg7 rfl) rfl ?_
   refine aS ?_
   exact oJn 3 22) ?_
 refine aS ?_
 refine s_weaken (L' := [(3, _), (4, _), (5, _), (6, _), (7, _), (8, _), (9, _), (22, _)]) aSx (fun _ h => h) ?_
 refine s_cutI (α := Nat) [9, 23, 24, 25, 26] (fun _ => [(9, .int .i64 (if key = [] then 0 else keyE (j : Int) key))]) (fun _ => HS w [] [.blk b1 24 4 [.int .i64 (j : Int), .int .i64 mo, .int .i64 rm, .slice a L.length cap], .blk b2 9 1 [.string (bs key)], .blk b3 3 1 [.int .i64 (m : Int)], .blk b4 103 1 [.pointer (some ⟨b9, 0, none⟩)], .blk b9 112 6 (tbV (j : Int) mo rm (some ⟨gn9, 0, none⟩) (L9).length c9), .blk gn9 102 (c9 * 3) ((L9).flatMap LNd.vals), .star ((L9).map (subN 26))]) (fun _ => True) ?_ ?_
 ·skip
  refine s_cond rfl (fun h9 => ?_) fun h9 => ?_
  ·try simp only [Bool.and_eq_true, decide_eq_true_eq, Bool.not_eq_true', decide_eq_false_iff_not] at h9
   iterate 4 refine aS ?_
   refine o_q (q_call rfl fn_76 rfl (fun w1 h1 => c76 w1 j key hj hkk)) rfl ?_
   iterate 2 refine aS ?_
   exact s_joinI 0 trivial (by have hq := h9; have hD : (if key = [] then 0 else keyE (j : Int) key) = keyE (j : Int) key := (by first | exact if_neg hq | exact if_neg hq.2 | (rw [if_neg (by simp_all)])); rw [hD]; exact aSx) (fun w h => h.ent aEt)
  try simp only [Bool.and_eq_false_iff, decide_eq_false_iff_not, Bool.not_eq_false', decide_eq_true_eq] at h9
  refine aS ?_
  exact s_joinI 0 trivial (by have hq := h9; have hD : (if key = [] then 0 else keyE (j : Int) key) = 0 := (by first | exact if_pos hq | (rw [if_pos (by simp_all)])); rw [hD]; exact aSx) (fun w h => h.ent aEt)
 intro q0 _
 iterate 5 refine aS ?_
 refine o_q (q_call rfl fn_93 rfl (fun w1 h1 => c93 w1 _ _ _)) rfl ?_
 refine o_q (q_call rfl fn_81 rfl (fun w1 h1 => c81 w1 _ _)) rfl ?_
 refine o_h (h_buildSlice (cs := [_, _]) rfl rfl sl_165 zr_31 rfl rfl rfl) rfl (fun b10 _ => ?_)
 refine o_q (q_call rfl fn_75 rfl (fun w1 h1 => f75 h1 aPk (by rfl) (by rfl) (by decide))) rfl ?_
 refine o_slot (show _ = Value.int .i64 0 from by rw [lst_d, hEK, if_pos rfl, if_pos ⟨by omega, by omega⟩]) ?_
 iterate 7 refine aS ?_
 refine s_cond rfl (fun h11 => ?_) fun h11 => ?_
 ·try simp only [Bool.not_eq_true', decide_eq_false_iff_not] at h11
  exfalso; exact absurd (h11) (by first | simp | decide)
 try simp only [Bool.not_eq_false', decide_eq_true_eq] at h11
 iterate 3 refine aS ?_
 refine oAl (fun b12 _ => ?_) zr_77
 iterate 8 refine aS ?_
 refine s_rangeL (G := {s : (((Option Addr × Nat) × List TEnt) × Bool) // s.1.2 = (lstN (lstB (j : Int) key) m T.flat)}) (Bs := fun s => [.blk b12 77 1 [.slice s.1.1.1.1 s.1.1.2.length s.1.1.1.2], .own (.slice s.1.1.1.1 (s.1.1.2).length s.1.1.1.2) 26 2 (s.1.1.2).length ((s.1.1.2).flatMap TEnt.vals), .blk b1 24 4 [.int .i64 (j : Int), .int .i64 mo, .int .i64 rm, .slice a L.length cap], .blk b2 9 1 [.string (bs key)], .blk b3 3 1 [.int .i64 (m : Int)], .blk b4 103 1 [.pointer (some ⟨b9, 0, none⟩)], .blk b9 112 6 (tbV (j : Int) mo rm (some ⟨gn9, 0, none⟩) (L9).length c9), .blk gn9 102 (c9 * 3) ((L9).flatMap LNd.vals), .star ((L9).map (subN 26))]) (jmp := fun s => cond s.1.2 none (some 0)) rfl rfl rfl fn_94 (fun fid D l a9 w1 ob hob ha9 hw1 => ?_) (fun D x => ?_)
 ·skip
  have h2 : HS w [] (((fun s : (((Option Addr × Nat) × List TEnt) × Bool) => .star [.obj l (cond s.2 ob (doneO 0 ob)), .obj D (.deferred (some [])), .blk b12 77 1 [.slice s.1.1.1 s.1.2.length s.1.1.2], .own (.slice s.1.1.1 (s.1.2).length s.1.1.2) 26 2 (s.1.2).length ((s.1.2).flatMap TEnt.vals)]) (((none, 0), []), true)) :: [.blk b1 24 4 [.int .i64 (j : Int), .int .i64 mo, .int .i64 rm, .slice a L.length cap], .blk b2 9 1 [.string (bs key)], .blk b3 3 1 [.int .i64 (m : Int)], .blk b4 103 1 [.pointer (some ⟨b9, 0, none⟩)], .blk b9 112 6 (tbV (j : Int) mo rm (some ⟨gn9, 0, none⟩) (L9).length c9), .blk gn9 102 (c9 * 3) ((L9).flatMap LNd.vals), .star ((L9).map (subN 26))]) w1 := HS.star_close (Bs := [_, _, _, _]) ((hw1.own_nil 26 2).ent aEt)
  have q4 := h2.rd_blkF picks1 (b := b2) (i := 0) aPk rfl
  have q5 := h2.rd_blkF picks1 (b := b3) (i := 0) aPk rfl
  have q8 := h2.rd_blkF picks1 (b := b4) (i := 0) aPk rfl
  have qt : TbR w1 (fps [((fun s : (((Option Addr × Nat) × List TEnt) × Bool) => .star [.obj l (cond s.2 ob (doneO 0 ob)), .obj D (.deferred (some [])), .blk b12 77 1 [.slice s.1.1.1 s.1.2.length s.1.1.2], .own (.slice s.1.1.1 (s.1.2).length s.1.1.2) 26 2 (s.1.2).length ((s.1.2).flatMap TEnt.vals)]) (((none, 0), []), true))]) b9 (j : Int) mo rm (some ⟨gn9, 0, none⟩) L9.length c9 := fun k v hv => h2.rd_blkF picks1 (b := b9) aPk hv
  have qn := h2.nt_atF (gn := gn9) (L := L9) picks1 aPk aPk
  refine Calls.mono (c94 w1 (((Option Addr × Nat) × List TEnt) × Bool) (fun n s => s.2 = true ∧ s.1.2.length + n ≤ 10000) (fun s : (((Option Addr × Nat) × List TEnt) × Bool) => .star [.obj l (cond s.2 ob (doneO 0 ob)), .obj D (.deferred (some [])), .blk b12 77 1 [.slice s.1.1.1 s.1.2.length s.1.1.2], .own (.slice s.1.1.1 (s.1.2).length s.1.1.2) 26 2 (s.1.2).length ((s.1.2).flatMap TEnt.vals)]) (lstSt (lstB (j : Int) key) m) (fun s => s.2) (fun x => keyOk (j : Int) x.key = true ∧ x.key.length ≤ 1000000) l b9 j mo rm (some ⟨gn9, 0, none⟩) c9 L9 T d lo hi (((none, 0), []), true) 0 (HS.focus (Cs := [_]) h2) ?_ qt qn hK hf ⟨rfl, by show 0 + _ ≤ _; omega⟩ (by omega) hBl (by rw [hL9]; exact hN) hT0) fun e w2 hx => ?_
  rotate_left
  ·obtain ⟨⟨⟨⟨gs, ls⟩, b0⟩, bm⟩, he, ⟨hr, _⟩, h5⟩ := hx
   refine ⟨⟨_, he⟩, ⟨((gs, ls), b0), by have h7 := run_lst hr (Nat.zero_le _); simpa [lstN] using h7⟩, ?_⟩
   have h6 := HS.star_open (HS.callA h2 h5)
   subst hob
   cases b0 <;> exact h6.ent aEt
  intro n9 s2 x w3 h3 hI2 hKx
  have h4 := HS.star_open (HS.focus (Cs := [_]) (Ds := []) h3)
  have r4 := h3.keep q4
  have r5 := h3.keep q5
  have r8 := h3.keep q8
  have rt := qt.keep h3
  subst hob
  obtain ⟨⟨⟨ga, gc⟩, lg⟩, bs⟩ := s2
  obtain ⟨hbs, hI3⟩ := hI2
  dsimp only at hbs
  subst hbs
  dsimp only [cond] at h4 hI3 r4 r5 r8 rt ⊢
  refine y_roundA (α := Nat) (fn := Tryz.f48) (As1 := fun b11 => .obj D (.deferred (some [])) :: [.blk b12 77 1 [.slice ga lg.length gc], .own (.slice ga (lg).length gc) 26 2 (lg).length ((lg).flatMap TEnt.vals), .blk b11 26 2 (TEnt.vals x)]) (L1 := fun b11 => [(11, .pointer (some ⟨b11, 0, none⟩)), (10, .pointer (some ⟨b12, 0, none⟩)), (4, .pointer (some ⟨b2, 0, none⟩)), (5, .pointer (some ⟨b3, 0, none⟩)), (8, .pointer (some ⟨b4, 0, none⟩))]) h4 rfl (FR.round1 ha9 38 _ rfl) ?_ ?_
  ·skip
   refine aS ?_
   refine oAl (fun b13 _ => ?_) zr_26
   refine oSt ?_
   refine aS ?_
   exact s_join b13 aSx (fun w h => h.ent aEt)
  skip
  intro b11
  iterate 6 refine aS ?_
  refine o_q (q_load_old rfl rfl sz_3 (r5)) rfl ?_
  iterate 2 refine aS ?_
  refine s_cond rfl (fun h14 => ?_) fun h14 => ?_
  ·try simp only [decide_eq_true_eq] at h14
   exact s_exit_rd rfl rfl aPk (fun w h => ⟨(((ga, gc), lg), false), rfl, ⟨by unfold lstSt; have hq := h14; rw [if_pos (by simp only []; omega)]; exact ⟨rfl, rfl⟩, fun h => by cases h⟩, by refine HS.star_close (Bs := [_, _, _, _]) ?_; exact h.ent aEt⟩)
  try simp only [decide_eq_false_iff_not] at h14
  have hne : ¬ lg.length = m := by have hq := h14; omega
  iterate 2 refine aS ?_
  refine s_cutS (α := Bool) [43, 44, 45, 46, 47, 48, 49, 50, 51, 52, 53, 54, 55, 56] (fun z => [(56, .bool z)]) (fun z => z = (lstB (j : Int) key) x) ?_ ?_
  ·skip
   refine s_draw [] mixed ?_
   refine d_q 0 [] rfl (q_load_old rfl rfl sz_9 (r4)) (by kernel_rfl) (by kernel_rfl) (by kernel_rfl) rfl ?_
   refine dP 1 ?_
   refine dP 2 ?_
   apply d_split 45
   ·exact rfl
   ·intro hg15
    have hs16 := hg15; try simp only [decide_eq_true_eq] at hs16
    refine dOf 3 45 hg15 ?_
    refine dOf 4 45 hg15 ?_
    refine dOf 5 45 hg15 ?_
    refine dOf 6 45 hg15 ?_
    refine dOf 7 45 hg15 ?_
    refine dOf 8 45 hg15 ?_
    refine dOf 9 45 hg15 ?_
    refine dOf 10 45 hg15 ?_
    refine dOf 11 45 hg15 ?_
    refine dOf 12 45 hg15 ?_
    refine d_p 13 rfl (p_pickt rfl rfl hg15 rfl) (by kernel_rfl) rfl rfl ?_
    refine dNi ?_
    exact s_joinI true (by unfold lstB; simp_all) aSx (fun w h => h.ent aEt)
   intro hg17
   have hs18 := hg17; try simp only [decide_eq_false_iff_not] at hs18
   refine d_qon 3 45 [] rfl rfl rfl hg17 (q_load_old rfl rfl sz_103 (r8)) (by kernel_rfl) (by kernel_rfl) (by kernel_rfl) rfl ?_
   refine dPo 4 45 hg17 ?_
   refine dFo 5 45 hg17 ?_
   refine dFo 6 45 hg17 ?_
   refine d_qon 7 45 [] rfl rfl rfl hg17 (q_load_old rfl rfl sz_108 (rt 5 _ rfl)) (by kernel_rfl) (by kernel_rfl) (by kernel_rfl) rfl ?_
   refine dFo 8 45 hg17 ?_
   refine d_qon 9 45 [] rfl rfl rfl hg17 (q_load rfl rfl sz_9 aPk rfl) (by kernel_rfl) (by kernel_rfl) (by kernel_rfl) rfl ?_
   refine d_qon 10 45 [] rfl rfl rfl hg17 (q_load_old rfl rfl sz_9 (r4)) (by kernel_rfl) (by kernel_rfl) (by kernel_rfl) rfl ?_
   refine d_qon 11 45 [] rfl rfl rfl hg17 (q_callv rfl rfl (cmp_fn _) rfl (fun w1 h1 => by have hky := hkey.resolve_left (by simpa using hg17); exact cmp_calls w1 j x.key key hj hKx.1 (keyE_ok hky) hKx.2 hkk)) (by kernel_rfl) (by kernel_rfl) (by kernel_rfl) rfl ?_
   refine dPo 12 45 hg17 ?_
   refine d_p 13 rfl (p_pickf rfl rfl hg17 rfl) (by kernel_rfl) rfl rfl ?_
   refine dNi ?_
   exact s_joinI (decide (0 < cmpK (j : Int) x.key key)) (by unfold lstB; simp_all) aSx (fun w h => h.ent aEt)
  intro z9 hz9
  refine s_cond rfl (fun h19 => ?_) fun h19 => ?_
  ·skip
   have hp0 : (lstB (j : Int) key) x = true := by rw [← hz9]; exact h19
   iterate 3 refine aS ?_
   refine o_h (h_buildSlice (cs := [_, _]) rfl rfl sl_77 zr_26 rfl rfl rfl) rfl (fun b20 _ => ?_)
   refine o_h (h_appendS (TEnt.vals x) rfl rfl rfl sl_77 Tryz.underlying77 zr_26 rfl aPk (src_blk aPk) rfl (ev1 _) (by omega) (by simp only [maxLen]; omega)) rfl (fun b21 _ => ?_)
   refine oSt ?_
   iterate 2 refine aS ?_
   exact s_end_rd rfl aPk (fun w h => ⟨((b21, lg ++ [x]), true), rfl, ⟨by unfold lstSt; rw [if_neg (by simp only []; exact hne), if_pos hp0]; exact ⟨rfl, rfl⟩, fun _ => ⟨rfl, by simp only [List.length_append, List.length_singleton]; omega⟩⟩, by refine HS.star_close (Bs := [_, _, _, _]) ?_; simp only [List.length_append, List.length_singleton, List.flatMap_append, List.flatMap_cons, List.flatMap_nil, List.append_nil]; exact h.ent aEt⟩)
  skip
  have hp0 : ¬ (lstB (j : Int) key) x = true := by rw [← hz9]; have hq := h19; simp [hq]
  iterate 2 refine aS ?_
  exact s_end_rd rfl aPk (fun w h => ⟨(((ga, gc), lg), true), rfl, ⟨by unfold lstSt; rw [if_neg (by simp only []; exact hne), if_neg hp0]; exact ⟨(List.append_nil _).symm, rfl⟩, fun _ => ⟨rfl, by simp only []; omega⟩⟩, by refine HS.star_close (Bs := [_, _, _, _]) ?_; exact h.ent aEt⟩)
 skip
 obtain ⟨⟨⟨⟨gx, gy⟩, lg⟩, bx⟩, hlg⟩ := x
 dsimp only at hlg
 subst hlg
 dsimp only
 refine s_rng_out (by cases bx; exact .inr rfl; exact .inl rfl) ?_
 iterate 6 refine aS ?_
 exact s_retm (rs := [.tmp 6, .tmp 7]) rfl aPk (.tmp rfl (.tmp rfl (.nil))) (fun w' h' => ⟨(gx, gy), rfl, trivial, h'.ent aEt⟩)
theorem fn_51 : isFn Tryz.prog 51 = true := by kernel_rfl
theorem fn_48 : isFn Tryz.prog 48 = true := by kernel_rfl
theorem fn_53 : isFn Tryz.prog 53 = true := by kernel_rfl
theorem lst_d2 (E most : Int) (h : ¬ (E = 0 ∧ ¬ (1 ≤ most ∧ most ≤ 200))) : (if E = 0 then (if 1 ≤ most ∧ most ≤ 200 then 0 else 2) else E) = E := by
  by_cases h1 : E = 0
  · rw [if_pos h1, if_pos (Classical.byContradiction fun h2 => h ⟨h1, h2⟩), h1]
  · rw [if_neg h1]
set_option maxHeartbeats 400000 in
theorem c11z (w : World) (co mo rm : Int) (a : Option Addr) (cap : Nat) (L : List LNd) (key : List UInt8) (most : Int) (hs : Nt w [] a L) (hz : ¬ (tfewB (pln L) = true ∧ key.length ≤ 44)) : Calls Tryz.prog 11 #[.agg #[.int .i64 co, .int .i64 mo, .int .i64 rm, .slice a L.length cap], .string (bs key), .int .i64 most] w fun en w' => en = .returned (.bool true) ∧ Below w.heap.size w w' := by
 refine enter (args := [_, _, _]) Tryz.func11 Tryz.ntmps11 rfl rfl (HS.refl w []) ?_
 iterate 2 refine aS ?_
 refine oBx fun b1 _ => ?_
 iterate 5 refine aS ?_
 refine o_q (q_call rfl fn_13 rfl (fun w1 h1 => c13 w1)) rfl ?_
 iterate 2 refine aS ?_
 refine s_cond rfl (fun h2 => ?_) fun h2 => ?_
 ·try simp only [Bool.not_true] at h2
  exfalso; simp at h2
 try simp only [Bool.not_true] at h2
 iterate 5 refine aS ?_
 refine o_q (q_call rfl fn_14 rfl (fun w1 h1 => c14 w1 co mo rm a cap L (hs.later h1.nil))) rfl ?_
 iterate 2 refine aS ?_
 refine o_or 4 18 22 _ _ rfl
  (by
   intro hg3
   have hs4 := hg3; try simp only [Bool.not_eq_false'] at hs4
   refine oOn 18 hg3 ?_
   refine aS ?_
   refine oOn 18 hg3 ?_
   refine o_p (p_len_str rfl rfl Tryz.underlying9) rfl ?_
   refine oOn 18 hg3 ?_
   refine aS ?_
   refine o_p (p_pickf rfl rfl hg3 rfl) rfl ?_
   refine aS ?_
   exact oJn 4 22)
  (by
   intro hg5
   have hs6 := hg5; try simp only [Bool.not_eq_true'] at hs6
   refine oOf 18 hg5 ?_
   refine oOf 18 hg5 ?_
   refine oOf 18 hg5 ?_
   refine o_p (p_pickt rfl rfl hg5 rfl) rfl ?_
   refine aS ?_
   exact oJn 4 22) ?_
 refine aS ?_
 refine s_cond rfl (fun h7 => ?_) fun h7 => ?_
 ·try simp only [Bool.or_eq_true, Bool.not_eq_true', decide_eq_true_eq] at h7
  iterate 4 refine aS ?_
  exact s_retv (rs := [.tmp 6]) rfl (.tmp rfl (.nil)) (fun w' h' => ⟨by rfl, h'.below⟩)
 try simp only [Bool.or_eq_false_iff, Bool.not_eq_false', decide_eq_false_iff_not] at h7
 exfalso; simp at h7; exact hz ⟨h7.1, by omega⟩
set_option maxHeartbeats 400000 in
theorem c11e (w : World) (co mo rm : Int) (a : Option Addr) (cap : Nat) (L : List LNd) (key : List UInt8) (most : Int) (hs : Nt w [] a L) (hfw : tfewB (pln L) = true) (hk44 : key.length ≤ 44) (he : ¬ (treE (⟨co, mo, rm, pln L⟩ : Tre)).2 = 0) : Calls Tryz.prog 11 #[.agg #[.int .i64 co, .int .i64 mo, .int .i64 rm, .slice a L.length cap], .string (bs key), .int .i64 most] w fun en w' => en = .returned (.bool true) ∧ Below w.heap.size w w' := by
 have hB := tfew_bd hfw
 have hkl := tfew_keys hfw
 have hsm := tfew_sm hfw
 have hle := hB.len
 rw [pln_len] at hle
 have hkk : key.length ≤ 1000000 := by omega
 refine enter (args := [_, _, _]) Tryz.func11 Tryz.ntmps11 rfl rfl (HS.refl w []) ?_
 iterate 2 refine aS ?_
 refine oBx fun b1 _ => ?_
 iterate 5 refine aS ?_
 refine o_q (q_call rfl fn_13 rfl (fun w1 h1 => c13 w1)) rfl ?_
 iterate 2 refine aS ?_
 refine s_cond rfl (fun h2 => ?_) fun h2 => ?_
 ·try simp only [Bool.not_true] at h2
  exfalso; simp at h2
 try simp only [Bool.not_true] at h2
 iterate 5 refine aS ?_
 refine o_q (q_call rfl fn_14 rfl (fun w1 h1 => c14 w1 co mo rm a cap L (hs.later h1.nil))) rfl ?_
 iterate 2 refine aS ?_
 refine o_or 4 18 22 _ _ rfl
  (by
   intro hg3
   have hs4 := hg3; try simp only [Bool.not_eq_false'] at hs4
   refine oOn 18 hg3 ?_
   refine aS ?_
   refine oOn 18 hg3 ?_
   refine o_p (p_len_str rfl rfl Tryz.underlying9) rfl ?_
   refine oOn 18 hg3 ?_
   refine aS ?_
   refine o_p (p_pickf rfl rfl hg3 rfl) rfl ?_
   refine aS ?_
   exact oJn 4 22)
  (by
   intro hg5
   have hs6 := hg5; try simp only [Bool.not_eq_true'] at hs6
   refine oOf 18 hg5 ?_
   refine oOf 18 hg5 ?_
   refine oOf 18 hg5 ?_
   refine o_p (p_pickt rfl rfl hg5 rfl) rfl ?_
   refine aS ?_
   exact oJn 4 22) ?_
 refine aS ?_
 refine s_cond rfl (fun h7 => ?_) fun h7 => ?_
 ·try simp only [Bool.or_eq_true, Bool.not_eq_true', decide_eq_true_eq] at h7
  exfalso; simp [hfw] at h7; omega
 try simp only [Bool.or_eq_false_iff, Bool.not_eq_false', decide_eq_false_iff_not] at h7
 iterate 4 refine aS ?_
 refine o_h (h_call rfl fn_17 rfl (fun w1 h1 => c17 w1 co mo rm a cap L (hs.later h1.nil) hle hsm)) rfl (fun ⟨⟨ga1, gc1⟩, LC1⟩ hLC1 => ?_)
 dsimp only
 refine o_q (q_call rfl fn_51 rfl (fun w1 h1 => c51e w1 co mo rm ga1 gc1 LC1 (HS.nt h1 aPk) (by rw [hLC1]; exact hB) (tfew_keys (by rw [hLC1]; exact hfw)) (by rw [hLC1]; exact he))) rfl ?_
 rw [hLC1]
 iterate 9 refine aS ?_
 refine o_h (h_call rfl fn_17 rfl (fun w1 h1 => c17 w1 co mo rm a cap L (hs.later h1.nil) hle hsm)) rfl (fun ⟨⟨ga2, gc2⟩, LC2⟩ hLC2 => ?_)
 dsimp only
 iterate 2 refine aS ?_
 refine o_q (q_call rfl fn_48 rfl (fun w1 h1 => c48e w1 co mo rm ga2 gc2 LC2 key most (HS.nt h1 aPk) (by rw [hLC2]; exact hB) (tfew_keys (by rw [hLC2]; exact hfw)) (by rw [hLC2]; exact he))) rfl ?_
 rw [hLC2]
 iterate 8 refine aS ?_
 refine s_weaken (L' := [(1, _), (2, _), (3, _), (6, _), (7, _), (8, _), (9, _), (10, _)]) aSx (fun _ h => h) ?_
 iterate 2 refine aS ?_
 refine o_q (q_call rfl fn_18 rfl (fun w1 h1 => c18 w1 co mo rm a cap L (hs.later h1.nil) hB hkl)) rfl ?_
 iterate 7 refine aS ?_
 refine s_cond rfl (fun h8 => ?_) fun h8 => ?_
 ·try simp only [Bool.not_eq_true', decide_eq_false_iff_not] at h8
  iterate 6 refine aS ?_
  refine o_and 4 44 48 _ _ rfl
   (by
    intro hg9
    have hs10 := hg9; try simp only [decide_eq_true_eq] at hs10
    refine oOn 44 hg9 ?_
    refine aS ?_
    refine oOn 44 hg9 ?_
    refine aS ?_
    refine oOn 44 hg9 ?_
    refine aS ?_
    refine o_p (p_pickt rfl rfl hg9 rfl) rfl ?_
    refine aS ?_
    exact oJn 4 48)
   (by
    intro hg11
    have hs12 := hg11; try simp only [decide_eq_false_iff_not] at hs12
    refine oOf 44 hg11 ?_
    refine oOf 44 hg11 ?_
    refine oOf 44 hg11 ?_
    refine o_p (p_pickf rfl rfl hg11 rfl) rfl ?_
    refine aS ?_
    exact oJn 4 48) ?_
  refine aS ?_
  refine o_and 7 49 56 _ _ rfl
   (by
    intro hg13
    have hs14 := hg13; try simp only [Bool.and_eq_true, decide_eq_true_eq] at hs14
    refine oOn 49 hg13 ?_
    refine aS ?_
    refine oOn 49 hg13 ?_
    refine aS ?_
    refine oOn 49 hg13 ?_
    refine aS ?_
    refine oOn 49 hg13 ?_
    refine aS ?_
    refine oOn 49 hg13 ?_
    refine aS ?_
    try refine oWr ?_
    refine oOn 49 hg13 ?_
    refine aS ?_
    refine o_p (p_pickt rfl rfl hg13 rfl) rfl ?_
    refine aS ?_
    exact oJn 7 56)
   (by
    intro hg15
    have hs16 := hg15; try simp only [Bool.and_eq_false_iff, decide_eq_false_iff_not] at hs16
    refine oOf 49 hg15 ?_
    refine oOf 49 hg15 ?_
    refine oOf 49 hg15 ?_
    refine oOf 49 hg15 ?_
    refine oOf 49 hg15 ?_
    refine oOf 49 hg15 ?_
    refine o_p (p_pickf rfl rfl hg15 rfl) rfl ?_
    refine aS ?_
    exact oJn 7 56) ?_
  iterate 2 refine aS ?_
  exact s_retv (rs := [.tmp 6]) rfl (.tmp rfl (.nil)) (fun w' h' => ⟨by simp [retV], h'.below⟩)
 try simp only [Bool.not_eq_false', decide_eq_true_eq] at h8
 exfalso; omega
set_option maxHeartbeats 400000 in
theorem c11x (w : World) (j : Nat) (mo rm : Int) (a : Option Addr) (cap : Nat) (L : List LNd) (key : List UInt8) (most : Int) (hs : Nt w [] a L) (hfw : tfewB (pln L) = true) (hk44 : key.length ≤ 44) (h0 : (treE (⟨(j : Int), mo, rm, pln L⟩ : Tre)).2 = 0) (hx : ¬ (if (if key = [] then 0 else keyE (j : Int) key) = 0 then (if 1 ≤ most ∧ most ≤ 200 then 0 else 2) else (if key = [] then 0 else keyE (j : Int) key)) = 0) : Calls Tryz.prog 11 #[.agg #[.int .i64 (j : Int), .int .i64 mo, .int .i64 rm, .slice a L.length cap], .string (bs key), .int .i64 most] w fun en w' => en = .returned (.bool true) ∧ Below w.heap.size w w' := by
 have hB := tfew_bd hfw
 have hkl := tfew_keys hfw
 have hsm := tfew_sm hfw
 have hle := hB.len
 rw [pln_len] at hle
 have hkk : key.length ≤ 1000000 := by omega
 obtain ⟨hc0, hz0, hl0, hl120, hn0, _, _⟩ := treE_0 h0
 rw [show ((⟨(j : Int), mo, rm, pln L⟩ : Tre)).ns = pln L from rfl, pln_len] at hl0 hl120
 have hj : j ≤ 3 := by obtain ⟨j9, e9, hj9⟩ := col_ok hc0; have e8 : ((j : Nat) : Int) = (j9 : Int) := e9; omega
 have hT : TOk (j : Int) (pln L) := tok_of (t := (⟨(j : Int), mo, rm, pln L⟩ : Tre)) hn0
 have hmo := (sizE_0 hz0).1
 simp only [] at hmo
 have hvt := tre_vt h0
 simp only [] at hvt
 obtain ⟨T9, d9, hR9, hV9, hZ9, hU9⟩ := hvt
 have hfl9 : T9.flat.length ≤ 10000 := by have h9 := hR9.flat_len (m := 10) (fun i hi => (tfew_nd hfw hi).1); rw [pln_len] at h9; omega
 have hK : ∀ x ∈ T9.flat, keyOk (j : Int) x.key = true ∧ x.key.length ≤ 1000000 := fun x hx => by have h9 := entE_key (hV9.ents x hx); exact ⟨h9, by have h8 := keyOk_len h9; omega⟩
 refine enter (args := [_, _, _]) Tryz.func11 Tryz.ntmps11 rfl rfl (HS.refl w []) ?_
 iterate 2 refine aS ?_
 refine oBx fun b1 _ => ?_
 iterate 5 refine aS ?_
 refine o_q (q_call rfl fn_13 rfl (fun w1 h1 => c13 w1)) rfl ?_
 iterate 2 refine aS ?_
 refine s_cond rfl (fun h2 => ?_) fun h2 => ?_
 ·try simp only [Bool.not_true] at h2
  exfalso; simp at h2
 try simp only [Bool.not_true] at h2
 iterate 5 refine aS ?_
 refine o_q (q_call rfl fn_14 rfl (fun w1 h1 => c14 w1 (j : Int) mo rm a cap L (hs.later h1.nil))) rfl ?_
 iterate 2 refine aS ?_
 refine o_or 4 18 22 _ _ rfl
  (by
   intro hg3
   have hs4 := hg3; try simp only [Bool.not_eq_false'] at hs4
   refine oOn 18 hg3 ?_
   refine aS ?_
   refine oOn 18 hg3 ?_
   refine o_p (p_len_str rfl rfl Tryz.underlying9) rfl ?_
   refine oOn 18 hg3 ?_
   refine aS ?_
   refine o_p (p_pickf rfl rfl hg3 rfl) rfl ?_
   refine aS ?_
   exact oJn 4 22)
  (by
   intro hg5
   have hs6 := hg5; try simp only [Bool.not_eq_true'] at hs6
   refine oOf 18 hg5 ?_
   refine oOf 18 hg5 ?_
   refine oOf 18 hg5 ?_
   refine o_p (p_pickt rfl rfl hg5 rfl) rfl ?_
   refine aS ?_
   exact oJn 4 22) ?_
 refine aS ?_
 refine s_cond rfl (fun h7 => ?_) fun h7 => ?_
 ·try simp only [Bool.or_eq_true, Bool.not_eq_true', decide_eq_true_eq] at h7
  exfalso; simp [hfw] at h7; omega
 try simp only [Bool.or_eq_false_iff, Bool.not_eq_false', decide_eq_false_iff_not] at h7
 iterate 4 refine aS ?_
 refine o_h (h_call rfl fn_17 rfl (fun w1 h1 => c17 w1 (j : Int) mo rm a cap L (hs.later h1.nil) hle hsm)) rfl (fun ⟨⟨ga1, gc1⟩, LC1⟩ hLC1 => ?_)
 dsimp only
 refine o_h (h_call rfl fn_51 rfl (fun w1 h1 => c51o w1 j mo rm ga1 gc1 LC1 T9 d9 _ _ (HS.nt h1 aPk) (by rw [hLC1]; exact hB) (tfew_keys (by rw [hLC1]; exact hfw)) (by rw [hLC1]; exact h0) (by rw [← pln_len, hLC1, pln_len]; omega) hV9.bel (by rw [hLC1]; exact hR9.nin) hV9.idx hfl9)) rfl (fun ⟨le, lf⟩ _ => ?_)
 iterate 9 refine aS ?_
 refine o_h (h_call rfl fn_17 rfl (fun w1 h1 => c17 w1 (j : Int) mo rm a cap L (hs.later h1.nil) hle hsm)) rfl (fun ⟨⟨ga2, gc2⟩, LC2⟩ hLC2 => ?_)
 dsimp only
 iterate 2 refine aS ?_
 refine o_q (q_call rfl fn_48 rfl (fun w1 h1 => c48x w1 j mo rm ga2 gc2 LC2 key most (HS.nt h1 aPk) (by rw [hLC2]; exact hB) (tfew_keys (by rw [hLC2]; exact hfw)) (by rw [hLC2]; exact h0) hkk hx)) rfl ?_
 iterate 8 refine aS ?_
 refine s_weaken (L' := [(1, _), (2, _), (3, _), (6, _), (7, _), (8, _), (9, _), (10, _)]) aSx (fun _ h => h) ?_
 iterate 2 refine aS ?_
 refine o_q (q_call rfl fn_18 rfl (fun w1 h1 => c18 w1 (j : Int) mo rm a cap L (hs.later h1.nil) hB hkl)) rfl ?_
 iterate 7 refine aS ?_
 refine s_cond rfl (fun h8 => ?_) fun h8 => ?_
 ·try simp only [Bool.not_eq_true', decide_eq_false_iff_not] at h8
  exfalso; omega
 try simp only [Bool.not_eq_false', decide_eq_true_eq] at h8
 iterate 7 refine aS ?_
 refine o_grpI (α := Bool) 6 59 65 _ (fun b => b) (fun _ => HS w [] [.blk b1 24 4 [.int .i64 (j : Int), .int .i64 mo, .int .i64 rm, .slice a L.length cap], .own (.slice le (T9.flat).length lf) 26 2 (T9.flat).length ((T9.flat).flatMap TEnt.vals)]) (fun b => b = false) rfl
  (by
   intro hg9
   have hs10 := hg9; try simp only [Bool.not_eq_true', decide_eq_false_iff_not] at hs10
   refine oOf 59 hg9 ?_
   refine oOf 59 hg9 ?_
   refine oOf 59 hg9 ?_
   refine oOf 59 hg9 ?_
   refine oOf 59 hg9 ?_
   refine o_p (p_pickt rfl rfl hg9 rfl) rfl ?_
   refine aS ?_
   exact s_joinI true (by exfalso; simp_all) aSx (fun w h => h.ent aEt))
  (by
   intro hg11
   have hs12 := hg11; try simp only [Bool.not_eq_false', decide_eq_true_eq] at hs12
   refine oOn 59 hg11 ?_
   refine aS ?_
   refine oOn 59 hg11 ?_
   refine aS ?_
   refine oOn 59 hg11 ?_
   refine o_h (h_call rfl fn_47 rfl (fun w1 h1 => c47 w1 (j : Int) mo rm a cap L T9 d9 _ _ (hs.later h1.nil) (by omega) hV9.bel hR9.nin hV9.idx hfl9)) rfl (fun ⟨lx, ly⟩ _ => ?_)
   refine oOn 59 hg11 ?_
   refine o_q (q_call rfl fn_52 rfl (fun w1 h1 => c52 w1 le lx lf ly T9.flat T9.flat (HS.rw_own ev2 h1 aPk rfl) (HS.rw_own ev2 h1 aPk rfl) (by omega) (by omega))) rfl ?_
   refine oOn 59 hg11 ?_
   refine aS ?_
   refine o_p (p_pickf rfl rfl hg11 rfl) rfl ?_
   refine aS ?_
   exact s_joinI (!decide (T9.flat = T9.flat)) (by simp) aSx (fun w h => h.ent aEt)) ?_
 intro b9 hb9
 subst hb9
 refine aS ?_
 refine s_cond rfl (fun h13 => ?_) fun h13 => ?_
 ·skip
  exfalso; simp at h13
 skip
 iterate 11 refine aS ?_
 refine s_weaken (L' := [(1, _), (2, _), (3, _), (6, _), (9, _), (10, _), (12, _), (67, _)]) aSx (fun _ h => h) ?_
 refine s_cutI (α := Nat) [12, 68, 69, 70, 71] (fun _ => [(12, .int .i64 (if key = [] then 0 else keyE (j : Int) key))]) (fun _ => HS w [] [.blk b1 24 4 [.int .i64 (j : Int), .int .i64 mo, .int .i64 rm, .slice a L.length cap], .own (.slice le (T9.flat).length lf) 26 2 (T9.flat).length ((T9.flat).flatMap TEnt.vals)]) (fun _ => True) ?_ ?_
 ·skip
  refine s_cond rfl (fun h14 => ?_) fun h14 => ?_
  ·try simp only [Bool.not_eq_true', decide_eq_false_iff_not] at h14
   iterate 4 refine aS ?_
   refine o_q (q_call rfl fn_26 rfl (fun w1 h1 => c26 w1 j key hj hkk)) rfl ?_
   iterate 2 refine aS ?_
   exact s_joinI 0 trivial (by have hq := h14; have hD : (if key = [] then 0 else keyE (j : Int) key) = keyE (j : Int) key := (by first | exact if_neg hq | (rw [if_neg (by simp_all)])); rw [hD]; exact aSx) (fun w h => h.ent aEt)
  try simp only [Bool.not_eq_false', decide_eq_true_eq] at h14
  refine aS ?_
  exact s_joinI 0 trivial (by have hq := h14; have hD : (if key = [] then 0 else keyE (j : Int) key) = 0 := (by first | exact if_pos hq | (rw [if_pos (by simp_all)])); rw [hD]; exact aSx) (fun w h => h.ent aEt)
 intro q4 _
 iterate 6 refine aS ?_
 refine o_and 4 74 78 _ _ rfl
  (by
   intro hg15
   have hs16 := hg15; try simp only [decide_eq_true_eq] at hs16
   refine oOn 74 hg15 ?_
   refine aS ?_
   refine oOn 74 hg15 ?_
   refine o_q (q_call rfl fn_46 rfl (fun w1 h1 => c46 w1 _ _ _)) rfl ?_
   refine oOn 74 hg15 ?_
   refine aS ?_
   refine o_p (p_pickt rfl rfl hg15 rfl) rfl ?_
   refine aS ?_
   exact oJn 4 78)
  (by
   intro hg17
   have hs18 := hg17; try simp only [decide_eq_false_iff_not] at hs18
   refine oOf 74 hg17 ?_
   refine oOf 74 hg17 ?_
   refine oOf 74 hg17 ?_
   refine o_p (p_pickf rfl rfl hg17 rfl) rfl ?_
   refine aS ?_
   exact oJn 4 78) ?_
 refine aS ?_
 refine s_cutI (α := Nat) [12] (fun _ => [(12, .int .i64 (if (if key = [] then 0 else keyE (j : Int) key) = 0 then (if 1 ≤ most ∧ most ≤ 200 then 0 else 2) else (if key = [] then 0 else keyE (j : Int) key)))]) (fun _ => HS w [] [.blk b1 24 4 [.int .i64 (j : Int), .int .i64 mo, .int .i64 rm, .slice a L.length cap], .own (.slice le (T9.flat).length lf) 26 2 (T9.flat).length ((T9.flat).flatMap TEnt.vals)]) (fun _ => True) ?_ ?_
 ·skip
  refine s_cond rfl (fun h19 => ?_) fun h19 => ?_
  ·try simp only [Bool.and_eq_true, decide_eq_true_eq, Bool.not_eq_true', Bool.and_eq_false_iff, decide_eq_false_iff_not] at h19
   iterate 3 refine aS ?_
   exact s_joinI 0 trivial (by have hq := h19; have hD : (if (if key = [] then 0 else keyE (j : Int) key) = 0 then (if 1 ≤ most ∧ most ≤ 200 then 0 else 2) else (if key = [] then 0 else keyE (j : Int) key)) = 2 := (by rw [if_pos hq.1, if_neg (by have h9 := hq.2; first | exact h9 | (simp at h9; omega) | omega)]); rw [hD]; exact aSx) (fun w h => h.ent aEt)
  try simp only [Bool.and_eq_false_iff, decide_eq_false_iff_not, Bool.not_eq_false', Bool.and_eq_true, decide_eq_true_eq] at h19
  refine aS ?_
  exact s_joinI 0 trivial (by have hq := h19; rw [lst_d2 (if key = [] then 0 else keyE (j : Int) key) most (fun h8 => by first | (rcases hq with h9 | h9; exact h9 h8.1; exact h8.2 (by omega)) | trace_state)]; exact aSx) (fun w h => h.ent aEt)
 intro q5 _
 iterate 6 refine aS ?_
 refine s_cond rfl (fun h20 => ?_) fun h20 => ?_
 ·try simp only [Bool.not_eq_true', decide_eq_false_iff_not] at h20
  iterate 6 refine aS ?_
  refine o_and 4 84 88 _ _ rfl
   (by
    intro hg21
    have hs22 := hg21; try simp only [decide_eq_true_eq] at hs22
    refine oOn 84 hg21 ?_
    refine aS ?_
    refine oOn 84 hg21 ?_
    refine aS ?_
    refine oOn 84 hg21 ?_
    refine aS ?_
    refine o_p (p_pickt rfl rfl hg21 rfl) rfl ?_
    refine aS ?_
    exact oJn 4 88)
   (by
    intro hg23
    have hs24 := hg23; try simp only [decide_eq_false_iff_not] at hs24
    refine oOf 84 hg23 ?_
    refine oOf 84 hg23 ?_
    refine oOf 84 hg23 ?_
    refine o_p (p_pickf rfl rfl hg23 rfl) rfl ?_
    refine aS ?_
    exact oJn 4 88) ?_
  iterate 2 refine aS ?_
  exact s_retv (rs := [.tmp 6]) rfl (.tmp rfl (.nil)) (fun w' h' => ⟨by simp [retV], h'.below⟩)
 try simp only [Bool.not_eq_false', decide_eq_true_eq] at h20
 exfalso; exact hx (by have hq := h20; first | exact hq | omega)
set_option maxHeartbeats 400000 in
theorem c11o (w : World) (j : Nat) (mo rm : Int) (a : Option Addr) (cap : Nat) (L : List LNd) (key : List UInt8) (m : Nat) (hs : Nt w [] a L) (hfw : tfewB (pln L) = true) (hk44 : key.length ≤ 44) (h0 : (treE (⟨(j : Int), mo, rm, pln L⟩ : Tre)).2 = 0) (hkey : key = [] ∨ keyE (j : Int) key = 0) (hm1 : 1 ≤ m) (hm2 : m ≤ 200) : Calls Tryz.prog 11 #[.agg #[.int .i64 (j : Int), .int .i64 mo, .int .i64 rm, .slice a L.length cap], .string (bs key), .int .i64 (m : Int)] w fun en w' => en = .returned (.bool true) ∧ Below w.heap.size w w' := by
 have hB := tfew_bd hfw
 have hkl := tfew_keys hfw
 have hsm := tfew_sm hfw
 have hle := hB.len
 rw [pln_len] at hle
 have hkk : key.length ≤ 1000000 := by omega
 obtain ⟨hc0, hz0, hl0, hl120, hn0, _, _⟩ := treE_0 h0
 rw [show ((⟨(j : Int), mo, rm, pln L⟩ : Tre)).ns = pln L from rfl, pln_len] at hl0 hl120
 have hj : j ≤ 3 := by obtain ⟨j9, e9, hj9⟩ := col_ok hc0; have e8 : ((j : Nat) : Int) = (j9 : Int) := e9; omega
 have hT : TOk (j : Int) (pln L) := tok_of (t := (⟨(j : Int), mo, rm, pln L⟩ : Tre)) hn0
 have hmo := (sizE_0 hz0).1
 simp only [] at hmo
 have hvt := tre_vt h0
 simp only [] at hvt
 obtain ⟨T9, d9, hR9, hV9, hZ9, hU9⟩ := hvt
 have hfl9 : T9.flat.length ≤ 10000 := by have h9 := hR9.flat_len (m := 10) (fun i hi => (tfew_nd hfw hi).1); rw [pln_len] at h9; omega
 have hK : ∀ x ∈ T9.flat, keyOk (j : Int) x.key = true ∧ x.key.length ≤ 1000000 := fun x hx => by have h9 := entE_key (hV9.ents x hx); exact ⟨h9, by have h8 := keyOk_len h9; omega⟩
 have hkey2 : key = [] ∨ (keyOk (j : Int) key = true ∧ key.length ≤ 1000000) := hkey.imp id fun h => ⟨keyE_ok h, hkk⟩
 have hEK : (if key = [] then 0 else keyE (j : Int) key) = 0 := by rcases hkey with h | h; rw [if_pos h]; rw [h]; split <;> rfl
 have hDL : (if (if key = [] then 0 else keyE (j : Int) key) = 0 then (if 1 ≤ (m : Int) ∧ (m : Int) ≤ 200 then 0 else 2) else (if key = [] then 0 else keyE (j : Int) key)) = 0 := by rw [hEK, if_pos rfl, if_pos ⟨by omega, by omega⟩]
 have hll : (lstN (lstB (j : Int) key) m T9.flat).length ≤ 10000 := Nat.le_trans (by unfold lstN; rw [List.length_take]; exact Nat.le_trans (Nat.min_le_right _ _) (List.length_filter_le _ _)) hfl9
 refine enter (args := [_, _, _]) Tryz.func11 Tryz.ntmps11 rfl rfl (HS.refl w []) ?_
 iterate 2 refine aS ?_
 refine oBx fun b1 _ => ?_
 iterate 5 refine aS ?_
 refine o_q (q_call rfl fn_13 rfl (fun w1 h1 => c13 w1)) rfl ?_
 iterate 2 refine aS ?_
 refine s_cond rfl (fun h2 => ?_) fun h2 => ?_
 ·try simp only [Bool.not_true] at h2
  exfalso; simp at h2
 try simp only [Bool.not_true] at h2
 iterate 5 refine aS ?_
 refine o_q (q_call rfl fn_14 rfl (fun w1 h1 => c14 w1 (j : Int) mo rm a cap L (hs.later h1.nil))) rfl ?_
 iterate 2 refine aS ?_
 refine o_or 4 18 22 _ _ rfl
  (by
   intro hg3
   have hs4 := hg3; try simp only [Bool.not_eq_false'] at hs4
   refine oOn 18 hg3 ?_
   refine aS ?_
   refine oOn 18 hg3 ?_
   refine o_p (p_len_str rfl rfl Tryz.underlying9) rfl ?_
   refine oOn 18 hg3 ?_
   refine aS ?_
   refine o_p (p_pickf rfl rfl hg3 rfl) rfl ?_
   refine aS ?_
   exact oJn 4 22)
  (by
   intro hg5
   have hs6 := hg5; try simp only [Bool.not_eq_true'] at hs6
   refine oOf 18 hg5 ?_
   refine oOf 18 hg5 ?_
   refine oOf 18 hg5 ?_
   refine o_p (p_pickt rfl rfl hg5 rfl) rfl ?_
   refine aS ?_
   exact oJn 4 22) ?_
 refine aS ?_
 refine s_cond rfl (fun h7 => ?_) fun h7 => ?_
 ·try simp only [Bool.or_eq_true, Bool.not_eq_true', decide_eq_true_eq] at h7
  exfalso; simp [hfw] at h7; omega
 try simp only [Bool.or_eq_false_iff, Bool.not_eq_false', decide_eq_false_iff_not] at h7
 iterate 4 refine aS ?_
 refine o_h (h_call rfl fn_17 rfl (fun w1 h1 => c17 w1 (j : Int) mo rm a cap L (hs.later h1.nil) hle hsm)) rfl (fun ⟨⟨ga1, gc1⟩, LC1⟩ hLC1 => ?_)
 dsimp only
 refine o_h (h_call rfl fn_51 rfl (fun w1 h1 => c51o w1 j mo rm ga1 gc1 LC1 T9 d9 _ _ (HS.nt h1 aPk) (by rw [hLC1]; exact hB) (tfew_keys (by rw [hLC1]; exact hfw)) (by rw [hLC1]; exact h0) (by rw [← pln_len, hLC1, pln_len]; omega) hV9.bel (by rw [hLC1]; exact hR9.nin) hV9.idx hfl9)) rfl (fun ⟨le, lf⟩ _ => ?_)
 iterate 9 refine aS ?_
 refine o_h (h_call rfl fn_17 rfl (fun w1 h1 => c17 w1 (j : Int) mo rm a cap L (hs.later h1.nil) hle hsm)) rfl (fun ⟨⟨ga2, gc2⟩, LC2⟩ hLC2 => ?_)
 dsimp only
 iterate 2 refine aS ?_
 refine o_h (h_call rfl fn_48 rfl (fun w1 h1 => c48o w1 j mo rm ga2 gc2 LC2 key m T9 d9 _ _ (HS.nt h1 aPk) (by rw [hLC2]; exact hB) (tfew_keys (by rw [hLC2]; exact hfw)) (by rw [hLC2]; exact h0) (by rw [← pln_len, hLC2, pln_len]; omega) hV9.bel (by rw [hLC2]; exact hR9.nin) hV9.idx hfl9 hkk hkey hm1 hm2 hK)) rfl (fun ⟨lm, ln⟩ _ => ?_)
 iterate 8 refine aS ?_
 refine s_weaken (L' := [(1, _), (2, _), (3, _), (6, _), (7, _), (8, _), (9, _), (10, _)]) aSx (fun _ h => h) ?_
 iterate 2 refine aS ?_
 refine o_q (q_call rfl fn_18 rfl (fun w1 h1 => c18 w1 (j : Int) mo rm a cap L (hs.later h1.nil) hB hkl)) rfl ?_
 iterate 7 refine aS ?_
 refine s_cond rfl (fun h8 => ?_) fun h8 => ?_
 ·try simp only [Bool.not_eq_true', decide_eq_false_iff_not] at h8
  exfalso; omega
 try simp only [Bool.not_eq_false', decide_eq_true_eq] at h8
 iterate 7 refine aS ?_
 refine o_grpI (α := Bool) 6 59 65 _ (fun b => b) (fun _ => HS w [] [.blk b1 24 4 [.int .i64 (j : Int), .int .i64 mo, .int .i64 rm, .slice a L.length cap], .own (.slice le (T9.flat).length lf) 26 2 (T9.flat).length ((T9.flat).flatMap TEnt.vals), .own (.slice lm ((lstN (lstB (j : Int) key) m T9.flat)).length ln) 26 2 ((lstN (lstB (j : Int) key) m T9.flat)).length (((lstN (lstB (j : Int) key) m T9.flat)).flatMap TEnt.vals)]) (fun b => b = false) rfl
  (by
   intro hg9
   have hs10 := hg9; try simp only [Bool.not_eq_true', decide_eq_false_iff_not] at hs10
   refine oOf 59 hg9 ?_
   refine oOf 59 hg9 ?_
   refine oOf 59 hg9 ?_
   refine oOf 59 hg9 ?_
   refine oOf 59 hg9 ?_
   refine o_p (p_pickt rfl rfl hg9 rfl) rfl ?_
   refine aS ?_
   exact s_joinI true (by exfalso; simp_all) aSx (fun w h => h.ent aEt))
  (by
   intro hg11
   have hs12 := hg11; try simp only [Bool.not_eq_false', decide_eq_true_eq] at hs12
   refine oOn 59 hg11 ?_
   refine aS ?_
   refine oOn 59 hg11 ?_
   refine aS ?_
   refine oOn 59 hg11 ?_
   refine o_h (h_call rfl fn_47 rfl (fun w1 h1 => c47 w1 (j : Int) mo rm a cap L T9 d9 _ _ (hs.later h1.nil) (by omega) hV9.bel hR9.nin hV9.idx hfl9)) rfl (fun ⟨lx, ly⟩ _ => ?_)
   refine oOn 59 hg11 ?_
   refine o_q (q_call rfl fn_52 rfl (fun w1 h1 => c52 w1 le lx lf ly T9.flat T9.flat (HS.rw_own ev2 h1 aPk rfl) (HS.rw_own ev2 h1 aPk rfl) (by omega) (by omega))) rfl ?_
   refine oOn 59 hg11 ?_
   refine aS ?_
   refine o_p (p_pickf rfl rfl hg11 rfl) rfl ?_
   refine aS ?_
   exact s_joinI (!decide (T9.flat = T9.flat)) (by simp) aSx (fun w h => h.ent aEt)) ?_
 intro b9 hb9
 subst hb9
 refine aS ?_
 refine s_cond rfl (fun h13 => ?_) fun h13 => ?_
 ·skip
  exfalso; simp at h13
 skip
 iterate 11 refine aS ?_
 refine s_weaken (L' := [(1, _), (2, _), (3, _), (6, _), (9, _), (10, _), (12, _), (67, _)]) aSx (fun _ h => h) ?_
 refine s_cutI (α := Nat) [12, 68, 69, 70, 71] (fun _ => [(12, .int .i64 (if key = [] then 0 else keyE (j : Int) key))]) (fun _ => HS w [] [.blk b1 24 4 [.int .i64 (j : Int), .int .i64 mo, .int .i64 rm, .slice a L.length cap], .own (.slice le (T9.flat).length lf) 26 2 (T9.flat).length ((T9.flat).flatMap TEnt.vals), .own (.slice lm ((lstN (lstB (j : Int) key) m T9.flat)).length ln) 26 2 ((lstN (lstB (j : Int) key) m T9.flat)).length (((lstN (lstB (j : Int) key) m T9.flat)).flatMap TEnt.vals)]) (fun _ => True) ?_ ?_
 ·skip
  refine s_cond rfl (fun h14 => ?_) fun h14 => ?_
  ·try simp only [Bool.not_eq_true', decide_eq_false_iff_not] at h14
   iterate 4 refine aS ?_
   refine o_q (q_call rfl fn_26 rfl (fun w1 h1 => c26 w1 j key hj hkk)) rfl ?_
   iterate 2 refine aS ?_
   exact s_joinI 0 trivial (by have hq := h14; have hD : (if key = [] then 0 else keyE (j : Int) key) = keyE (j : Int) key := (by first | exact if_neg hq | (rw [if_neg (by simp_all)])); rw [hD]; exact aSx) (fun w h => h.ent aEt)
  try simp only [Bool.not_eq_false', decide_eq_true_eq] at h14
  refine aS ?_
  exact s_joinI 0 trivial (by have hq := h14; have hD : (if key = [] then 0 else keyE (j : Int) key) = 0 := (by first | exact if_pos hq | (rw [if_pos (by simp_all)])); rw [hD]; exact aSx) (fun w h => h.ent aEt)
 intro q4 _
 iterate 6 refine aS ?_
 refine o_and 4 74 78 _ _ rfl
  (by
   intro hg15
   have hs16 := hg15; try simp only [decide_eq_true_eq] at hs16
   refine oOn 74 hg15 ?_
   refine aS ?_
   refine oOn 74 hg15 ?_
   refine o_q (q_call rfl fn_46 rfl (fun w1 h1 => c46 w1 _ _ _)) rfl ?_
   refine oOn 74 hg15 ?_
   refine aS ?_
   refine o_p (p_pickt rfl rfl hg15 rfl) rfl ?_
   refine aS ?_
   exact oJn 4 78)
  (by
   intro hg17
   have hs18 := hg17; try simp only [decide_eq_false_iff_not] at hs18
   refine oOf 74 hg17 ?_
   refine oOf 74 hg17 ?_
   refine oOf 74 hg17 ?_
   refine o_p (p_pickf rfl rfl hg17 rfl) rfl ?_
   refine aS ?_
   exact oJn 4 78) ?_
 refine aS ?_
 refine s_cutI (α := Nat) [12] (fun _ => [(12, .int .i64 (if (if key = [] then 0 else keyE (j : Int) key) = 0 then (if 1 ≤ (m : Int) ∧ (m : Int) ≤ 200 then 0 else 2) else (if key = [] then 0 else keyE (j : Int) key)))]) (fun _ => HS w [] [.blk b1 24 4 [.int .i64 (j : Int), .int .i64 mo, .int .i64 rm, .slice a L.length cap], .own (.slice le (T9.flat).length lf) 26 2 (T9.flat).length ((T9.flat).flatMap TEnt.vals), .own (.slice lm ((lstN (lstB (j : Int) key) m T9.flat)).length ln) 26 2 ((lstN (lstB (j : Int) key) m T9.flat)).length (((lstN (lstB (j : Int) key) m T9.flat)).flatMap TEnt.vals)]) (fun _ => True) ?_ ?_
 ·skip
  refine s_cond rfl (fun h19 => ?_) fun h19 => ?_
  ·try simp only [Bool.and_eq_true, decide_eq_true_eq, Bool.not_eq_true', Bool.and_eq_false_iff, decide_eq_false_iff_not] at h19
   iterate 3 refine aS ?_
   exact s_joinI 0 trivial (by have hq := h19; have hD : (if (if key = [] then 0 else keyE (j : Int) key) = 0 then (if 1 ≤ (m : Int) ∧ (m : Int) ≤ 200 then 0 else 2) else (if key = [] then 0 else keyE (j : Int) key)) = 2 := (by rw [if_pos hq.1, if_neg (by have h9 := hq.2; first | exact h9 | (simp at h9; omega) | omega)]); rw [hD]; exact aSx) (fun w h => h.ent aEt)
  try simp only [Bool.and_eq_false_iff, decide_eq_false_iff_not, Bool.not_eq_false', Bool.and_eq_true, decide_eq_true_eq] at h19
  refine aS ?_
  exact s_joinI 0 trivial (by have hq := h19; rw [lst_d2 (if key = [] then 0 else keyE (j : Int) key) (m : Int) (fun h8 => by first | (rcases hq with h9 | h9; exact h9 h8.1; exact h8.2 (by omega)) | trace_state)]; exact aSx) (fun w h => h.ent aEt)
 intro q5 _
 iterate 6 refine aS ?_
 refine s_cond rfl (fun h20 => ?_) fun h20 => ?_
 ·try simp only [Bool.not_eq_true', decide_eq_false_iff_not] at h20
  exfalso; exact h20 hDL
 try simp only [Bool.not_eq_false', decide_eq_true_eq] at h20
 iterate 6 refine aS ?_
 refine o_grpI (α := Bool) 7 91 98 _ (fun b => b) (fun _ => HS w [] [.blk b1 24 4 [.int .i64 (j : Int), .int .i64 mo, .int .i64 rm, .slice a L.length cap], .own (.slice le (T9.flat).length lf) 26 2 (T9.flat).length ((T9.flat).flatMap TEnt.vals), .own (.slice lm ((lstN (lstB (j : Int) key) m T9.flat)).length ln) 26 2 ((lstN (lstB (j : Int) key) m T9.flat)).length (((lstN (lstB (j : Int) key) m T9.flat)).flatMap TEnt.vals)]) (fun b => b = true) rfl
  (by
   intro hg21
   have hs22 := hg21; try simp only [decide_eq_true_eq] at hs22
   refine oOn 91 hg21 ?_
   refine aS ?_
   refine oOn 91 hg21 ?_
   refine aS ?_
   refine oOn 91 hg21 ?_
   refine aS ?_
   refine oOn 91 hg21 ?_
   refine aS ?_
   refine oOn 91 hg21 ?_
   refine o_h (h_call rfl fn_53 rfl (fun w1 h1 => c53 w1 j mo rm a cap L T9 d9 _ _ key m (hs.later h1.nil) (by omega) hV9.bel hR9.nin hV9.idx hfl9 hj hK hkey2 hm2)) rfl (fun ⟨lq, lr⟩ _ => ?_)
   refine oOn 91 hg21 ?_
   refine o_q (q_call rfl fn_52 rfl (fun w1 h1 => c52 w1 lm lq ln lr (lstN (lstB (j : Int) key) m T9.flat) (lstN (lstB (j : Int) key) m T9.flat) (HS.rw_own ev2 h1 aPk rfl) (HS.rw_own ev2 h1 aPk rfl) (by omega) (by omega))) rfl ?_
   refine o_p (p_pickt rfl rfl hg21 rfl) rfl ?_
   refine aS ?_
   exact s_joinI (decide ((lstN (lstB (j : Int) key) m T9.flat) = (lstN (lstB (j : Int) key) m T9.flat))) (by simp) aSx (fun w h => h.ent aEt))
  (by
   intro hg23
   have hs24 := hg23; try simp only [decide_eq_false_iff_not] at hs24
   refine oOf 91 hg23 ?_
   refine oOf 91 hg23 ?_
   refine oOf 91 hg23 ?_
   refine oOf 91 hg23 ?_
   refine oOf 91 hg23 ?_
   refine oOf 91 hg23 ?_
   refine o_p (p_pickf rfl rfl hg23 rfl) rfl ?_
   refine aS ?_
   exact s_joinI false (by exfalso; simp_all) aSx (fun w h => h.ent aEt)) ?_
 intro b9 hb9
 subst hb9
 iterate 2 refine aS ?_
 exact s_retv (rs := [.tmp 6]) rfl (.tmp rfl (.nil)) (fun w' h' => ⟨by rfl, h'.below⟩)
theorem c11 (w : World) (co mo rm : Int) (a : Option Addr) (cap : Nat) (L : List LNd) (key : List UInt8) (most : Int) (hs : Nt w [] a L) : Calls Tryz.prog 11 #[.agg #[.int .i64 co, .int .i64 mo, .int .i64 rm, .slice a L.length cap], .string (bs key), .int .i64 most] w fun en w' => en = .returned (.bool true) ∧ Below w.heap.size w w' := by
  by_cases hz : tfewB (pln L) = true ∧ key.length ≤ 44
  · by_cases h0 : (treE (⟨co, mo, rm, pln L⟩ : Tre)).2 = 0
    · obtain ⟨j, rfl, hj⟩ := col_ok (treE_0 h0).1
      by_cases hx : (if (if key = [] then 0 else keyE (j : Int) key) = 0 then (if 1 ≤ most ∧ most ≤ 200 then 0 else 2) else (if key = [] then 0 else keyE (j : Int) key)) = 0
      · have hE : (if key = [] then 0 else keyE (j : Int) key) = 0 := by
          by_cases h9 : (if key = [] then 0 else keyE (j : Int) key) = 0
          · exact h9
          · rw [if_neg h9] at hx
            exact absurd hx h9
        have hm : 1 ≤ most ∧ most ≤ 200 := by
          rw [if_pos hE] at hx
          by_cases h9 : 1 ≤ most ∧ most ≤ 200
          · exact h9
          · rw [if_neg h9] at hx
            cases hx
        have hk : key = [] ∨ keyE (j : Int) key = 0 := by
          by_cases h9 : key = []
          · exact .inl h9
          · rw [if_neg h9] at hE
            exact .inr hE
        obtain ⟨m, rfl⟩ : ∃ m : Nat, most = (m : Int) := ⟨most.toNat, by omega⟩
        exact c11o w j mo rm a cap L key m hs hz.1 hz.2 h0 hk (by omega) (by omega)
      · exact c11x w j mo rm a cap L key most hs hz.1 hz.2 h0 hx
    · exact c11e w co mo rm a cap L key most hs hz.1 hz.2 h0
  · exact c11z w co mo rm a cap L key most hs hz
end Go.Proofs
