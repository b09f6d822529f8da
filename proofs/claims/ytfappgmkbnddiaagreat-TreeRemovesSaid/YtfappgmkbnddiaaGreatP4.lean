/- Contracts of the program's functions, proved by walking them with the rules of the Gx texts; without conditions beyond those that each contract names. -/
import Derived.WalkKit
import Derived.Deep.Draws
import Derived.TacticsIn
import Derived.OrdersIn
import Derived.RangeFuncLeaves
import Derived.Lib.Strings
import Derived.Laws.BytesArg
import Derived.Laws.IdiomStrings
import Derived.Deep.Quiet
import Derived.ProofKit
import Derived.OpenShut
import Derived.Laws.StructEq
import Derived.ChangeKeysEq
import Derived.Laws.Externs
import Derived.Lib.Overlaps
import Derived.Carry
import Derived.Laws.Small
import Derived.Lib.Bytealg
import Derived.Test.YtfappgmkbnddiaaGreatProg
import Derived.KernelRfl
import Derived.Lib.Builder
import Derived.Laws.Pointers
import Derived.RangeFuncRecord
import Derived.Test.YtfappgmkbnddiaaGreatP3
namespace Go.Proofs
open Go Go.RowKit Gx
set_option linter.unusedVariables false
set_option linter.unusedSimpArgs false
attribute [local irreducible] Go.Calls Gx.S Gx.O Gx.D Gx.OpP Gx.OpQ Gx.OpH
set_option maxRecDepth 20000
theorem fn_19 : isFn Tryz.prog 19 = true := by kernel_rfl
set_option maxHeartbeats 400000 in
theorem c85 (w : World) (j : Nat) (mo rm : Int) (a : Option Addr) (cap : Nat) (L : List LNd) (i sb scap tot : Nat) (S : List Int) (hw : HS w (fps [.blk sb 4 tot (seenV L.length S)]) [.blk sb 4 tot (seenV L.length S)] w) (hs : Nt w (fps [.blk sb 4 tot (seenV L.length S)]) a L) (hj : j ≤ 3) (hi : i < L.length) (hl : L.length ≤ 1000) (hel : (nth L i).es.length ≤ 1000) (hcl : (nth L i).cs.length ≤ 1000) (hK : ∀ x ∈ (nth L i).es, x.key.length ≤ 1000000) : Calls Tryz.prog 85 #[.agg #[.int .i64 (j : Int), .int .i64 mo, .int .i64 rm, .slice a L.length cap], .int .i64 (i : Int), .slice (some ⟨sb, 0, none⟩) L.length scap] w fun en w' => ∃ g : Unit, en = .returned (.int .i64 (nodE (⟨(j : Int), mo, rm, pln L⟩ : Tre) i S).1) ∧ True ∧ HS w (fps [.blk sb 4 tot (seenV L.length S)]) [.blk sb 4 tot (seenV L.length (nodE (⟨(j : Int), mo, rm, pln L⟩ : Tre) i S).2)] w' := by
 have hNI := pln_nth hi
 have hnl : (pln L).length = L.length := pln_len L
 refine enter (args := [_, _, _]) Tryz.func85 Tryz.ntmps85 rfl rfl hw ?_
 iterate 2 refine aS ?_
 refine oBx fun b1 _ => ?_
 iterate 7 refine aS ?_
 refine o_p (p_indexAddr rfl rfl rfl sl_22 (i) (by omega) (by omega) (Rw.some hs.1 (by omega))) rfl ?_
 refine o_q (q_load_oldn _ rfl rfl sz_102 rfl (Rw.rd hs.1 hi)) rfl ?_
 refine oAl (fun b2 _ => ?_) zr_102
 refine oSt ?_
 iterate 8 refine aS ?_
 refine s_cond rfl (fun h3 => ?_) fun h3 => ?_
 ·try simp only [Bool.not_eq_true'] at h3
  have hu9 : ¬ (nth L i).us = true := by have hq := h3; simp [hq]
  have hun := nodE_un (t := (⟨(j : Int), mo, rm, pln L⟩ : Tre)) (S := S) (i := i) (by rw [show ((⟨(j : Int), mo, rm, pln L⟩ : Tre)).ns = pln L from rfl, hNI]; exact hu9)
  rw [show ((⟨(j : Int), mo, rm, pln L⟩ : Tre)).ns = pln L from rfl, hNI, hnl] at hun
  iterate 6 refine aS ?_
  refine o_or 7 24 31 _ _ rfl
   (by
    intro hg4
    have hs5 := hg4; try simp only [decide_eq_false_iff_not] at hs5
    refine oOn 24 hg4 ?_
    refine aS ?_
    refine oOn 24 hg4 ?_
    refine aS ?_
    try refine oWr ?_
    refine oOn 24 hg4 ?_
    refine aS ?_
    refine oOn 24 hg4 ?_
    refine aS ?_
    refine oOn 24 hg4 ?_
    refine aS ?_
    refine oOn 24 hg4 ?_
    refine aS ?_
    refine o_p (p_pickf rfl rfl hg4 rfl) rfl ?_
    refine aS ?_
    exact oJn 7 31)
   (by
    intro hg6
    have hs7 := hg6; try simp only [decide_eq_true_eq] at hs7
    refine oOf 24 hg6 ?_
    refine oOf 24 hg6 ?_
    refine oOf 24 hg6 ?_
    refine oOf 24 hg6 ?_
    refine oOf 24 hg6 ?_
    refine oOf 24 hg6 ?_
    refine o_p (p_pickt rfl rfl hg6 rfl) rfl ?_
    refine aS ?_
    exact oJn 7 31) ?_
  refine aS ?_
  refine o_or 5 32 37 _ _ rfl
   (by
    intro hg8
    have hs9 := hg8; try simp only [Bool.or_eq_false_iff, decide_eq_false_iff_not] at hs9
    refine oOn 32 hg8 ?_
    refine aS ?_
    refine oOn 32 hg8 ?_
    refine aS ?_
    refine oOn 32 hg8 ?_
    refine aS ?_
    refine oOn 32 hg8 ?_
    refine aS ?_
    refine o_p (p_pickf rfl rfl hg8 rfl) rfl ?_
    refine aS ?_
    exact oJn 5 37)
   (by
    intro hg10
    have hs11 := hg10; try simp only [Bool.or_eq_true, decide_eq_true_eq] at hs11
    refine oOf 32 hg10 ?_
    refine oOf 32 hg10 ?_
    refine oOf 32 hg10 ?_
    refine oOf 32 hg10 ?_
    refine o_p (p_pickt rfl rfl hg10 rfl) rfl ?_
    refine aS ?_
    exact oJn 5 37) ?_
  refine aS ?_
  refine o_or 5 38 43 _ _ rfl
   (by
    intro hg12
    have hs13 := hg12; try simp only [Bool.or_eq_false_iff, decide_eq_false_iff_not] at hs13
    refine oOn 38 hg12 ?_
    refine aS ?_
    refine oOn 38 hg12 ?_
    refine aS ?_
    refine oOn 38 hg12 ?_
    refine aS ?_
    refine oOn 38 hg12 ?_
    refine aS ?_
    refine o_p (p_pickf rfl rfl hg12 rfl) rfl ?_
    refine aS ?_
    exact oJn 5 43)
   (by
    intro hg14
    have hs15 := hg14; try simp only [Bool.or_eq_true, decide_eq_true_eq] at hs15
    refine oOf 38 hg14 ?_
    refine oOf 38 hg14 ?_
    refine oOf 38 hg14 ?_
    refine oOf 38 hg14 ?_
    refine o_p (p_pickt rfl rfl hg14 rfl) rfl ?_
    refine aS ?_
    exact oJn 5 43) ?_
  refine aS ?_
  refine s_cond rfl (fun h16 => ?_) fun h16 => ?_
  ·try simp only [Bool.or_eq_true, decide_eq_true_eq] at h16
   have hn9 : ¬ ((0 < i ∧ i + 1 < L.length) ∧ (nth L i).es.length + (nth L i).cs.length = 0) := by have hq := h16; omega
   have hun2 : (nodE (⟨(j : Int), mo, rm, pln L⟩ : Tre) i S) = (3, S) := by rw [hun]; exact if_neg hn9
   iterate 4 refine aS ?_
   exact s_retv (rs := [.tmp 6]) rfl (.tmp rfl (.nil)) (fun w' h' => ⟨(), by rw [hun2]; rfl, trivial, by rw [hun2]; exact h'.ent aEt⟩)
  try simp only [Bool.or_eq_false_iff, decide_eq_false_iff_not] at h16
  have hn9 : (0 < i ∧ i + 1 < L.length) ∧ (nth L i).es.length + (nth L i).cs.length = 0 := by have hq := h16; omega
  have hun2 : (nodE (⟨(j : Int), mo, rm, pln L⟩ : Tre) i S) = (0, S) := by rw [hun]; exact if_pos hn9
  iterate 5 refine aS ?_
  exact s_retv (rs := [.tmp 6]) rfl (.tmp rfl (.nil)) (fun w' h' => ⟨(), by rw [hun2]; rfl, trivial, by rw [hun2]; exact h'.ent aEt⟩)
 try simp only [Bool.not_eq_false'] at h3
 have hu9 : (nth L i).us = true := by have hq := h3; simpa using hq
 iterate 13 refine aS ?_
 refine s_weaken (L' := [(2, _), (3, _), (6, _), (7, _), (8, _), (47, _)]) aSx (fun _ h => h) ?_
 refine s_cutS (α := Unit) [8, 48, 49] (fun _ => [(8, .int .i64 (mostN mo rm i))]) (fun _ => True) ?_ ?_
 ·skip
  refine s_cond rfl (fun h17 => ?_) fun h17 => ?_
  ·try simp only [decide_eq_true_eq] at h17
   have hi0 : i = 0 := by have hq := h17; omega
   iterate 5 refine aS ?_
   exact s_joinI () trivial (by rw [show mostN mo rm i = rm from if_pos hi0]; exact aSx) (fun w h => h)
  try simp only [decide_eq_false_iff_not] at h17
  have hi0 : ¬ i = 0 := by have hq := h17; omega
  refine aS ?_
  exact s_joinI () trivial (by rw [show mostN mo rm i = mo from if_neg hi0]; exact aSx) (fun w h => h)
 intro _ _
 iterate 9 refine aS ?_
 refine s_cond rfl (fun h18 => ?_) fun h18 => ?_
 ·try simp only [decide_eq_true_eq] at h18
  have h16 : (nodE (⟨(j : Int), mo, rm, pln L⟩ : Tre) i S) = (16, S) := nodE_16 (t := (⟨(j : Int), mo, rm, pln L⟩ : Tre)) hNI hu9 (by show ¬ ((nth L i).es.length : Int) ≤ mostN mo rm i; have hq := h18; omega)
  iterate 4 refine aS ?_
  exact s_retv (rs := [.tmp 6]) rfl (.tmp rfl (.nil)) (fun w' h' => ⟨(), by rw [h16]; rfl, trivial, by rw [h16]; exact h'.ent aEt⟩)
 try simp only [decide_eq_false_iff_not] at h18
 have hM9 : ((nth L i).es.length : Int) ≤ mostN mo rm i := by have hq := h18; omega
 iterate 9 refine aS ?_
 refine o_and 9 59 68 _ _ rfl
  (by
   intro hg19
   have hs20 := hg19; try simp only [decide_eq_true_eq] at hs20
   refine oOn 59 hg19 ?_
   refine aS ?_
   refine oOn 59 hg19 ?_
   refine aS ?_
   refine oOn 59 hg19 ?_
   refine aS ?_
   refine oOn 59 hg19 ?_
   refine aS ?_
   refine oOn 59 hg19 ?_
   refine aS ?_
   refine oOn 59 hg19 ?_
   refine aS ?_
   refine oOn 59 hg19 ?_
   refine aS ?_
   try refine oWr ?_
   refine oOn 59 hg19 ?_
   refine aS ?_
   refine o_p (p_pickt rfl rfl hg19 rfl) rfl ?_
   refine aS ?_
   exact oJn 9 68)
  (by
   intro hg21
   have hs22 := hg21; try simp only [decide_eq_false_iff_not] at hs22
   refine oOf 59 hg21 ?_
   refine oOf 59 hg21 ?_
   refine oOf 59 hg21 ?_
   refine oOf 59 hg21 ?_
   refine oOf 59 hg21 ?_
   refine oOf 59 hg21 ?_
   refine oOf 59 hg21 ?_
   refine oOf 59 hg21 ?_
   refine o_p (p_pickf rfl rfl hg21 rfl) rfl ?_
   refine aS ?_
   exact oJn 9 68) ?_
 refine aS ?_
 refine s_cond rfl (fun h23 => ?_) fun h23 => ?_
 ·try simp only [Bool.and_eq_true, decide_eq_true_eq, Bool.not_eq_true', decide_eq_false_iff_not] at h23
  have h10 : (nodE (⟨(j : Int), mo, rm, pln L⟩ : Tre) i S) = (10, S) := nodE_10 (t := (⟨(j : Int), mo, rm, pln L⟩ : Tre)) hNI hu9 hM9 (by show ¬ ((nth L i).cs.length = 0 ∨ (nth L i).cs.length = (nth L i).es.length + 1); have hq := h23; omega)
  iterate 4 refine aS ?_
  exact s_retv (rs := [.tmp 6]) rfl (.tmp rfl (.nil)) (fun w' h' => ⟨(), by rw [h10]; rfl, trivial, by rw [h10]; exact h'.ent aEt⟩)
 try simp only [Bool.and_eq_false_iff, decide_eq_false_iff_not, Bool.not_eq_false', decide_eq_true_eq] at h23
 have hS9 : (nth L i).cs.length = 0 ∨ (nth L i).cs.length = (nth L i).es.length + 1 := by have hq := h23; omega
 iterate 7 refine aS ?_
 refine s_weaken (L' := [(2, _), (3, _), (6, _), (7, _), (9, _)]) aSx (fun _ h => h) ?_
 refine s_loopI (α := Nat) [6, 9, 10, 69, 70, 71, 72, 73, 74, 75, 76, 77, 78, 79, 80, 81, 82, 83, 84, 85, 86] (fun k => [(9, .int .i64 (k : Int))]) (fun _ => HS w (fps [.blk sb 4 tot (seenV L.length S)]) [.blk sb 4 tot (seenV L.length S), .blk b1 24 4 [.int .i64 (j : Int), .int .i64 mo, .int .i64 rm, .slice a L.length cap], .blk b2 102 3 (LNd.vals (nth L i))]) (fun k => k ≤ (nth L i).es.length ∧ ∀ q, q < k → entE (j : Int) (nth (nth L i).es q) = 0) (fun k => (nth L i).es.length - k) 0 ⟨Nat.zero_le _, fun j h => absurd h (Nat.not_lt_zero j)⟩ aSx (fun w h => h.ent aEt) (fun k hx => ?_)
 obtain ⟨hk1, hk3⟩ := hx
 iterate 9 refine aS ?_
 refine s_cond rfl (fun h24 => ?_) fun h24 => ?_
 ·try simp only [decide_eq_true_eq] at h24
  have hk5 : k < (nth L i).es.length := by omega
  iterate 4 refine aS ?_
  refine s_draw [] mixed ?_
  refine dFa 0 ?_
  refine dLd 1 [] ?_
  refine dFa 2 ?_
  refine dLd 3 [] ?_
  refine dP 4 ?_
  refine d_p 5 rfl (p_indexAddr rfl rfl rfl sl_77 (k) (by omega) (by omega) (Rw.some (hs.es hi) (by omega))) (by kernel_rfl) rfl rfl ?_
  refine d_q 6 [] rfl (q_load_oldn _ rfl rfl sz_26 rfl (Rw.rd (hs.es hi) hk5)) (by kernel_rfl) (by kernel_rfl) (by kernel_rfl) rfl ?_
  refine d_q 7 [] rfl (q_call rfl fn_19 rfl (fun w1 h1 => c19 w1 j (nth (nth L i).es k) hj (hK _ (mem_nth hk5)))) (by kernel_rfl) (by kernel_rfl) (by kernel_rfl) rfl ?_
  refine dP 8 ?_
  refine dNi ?_
  iterate 5 refine aS ?_
  refine s_cond rfl (fun h25 => ?_) fun h25 => ?_
  ·try simp only [Bool.not_eq_true', decide_eq_false_iff_not] at h25
   have hz6 : ¬ entE (j : Int) (nth (nth L i).es k) = 0 := h25
   have hEb := ents_bad hk5 hk3 hz6
   have hEe : (nodE (⟨(j : Int), mo, rm, pln L⟩ : Tre) i S) = (entE (j : Int) (nth (nth L i).es k), S) := by rw [← hEb]; exact nodE_en (t := (⟨(j : Int), mo, rm, pln L⟩ : Tre)) hNI hu9 hM9 hS9 (by show ¬ entsE (j : Int) (nth L i).es = 0; rw [hEb]; exact hz6)
   iterate 5 refine aS ?_
   exact s_retv (rs := [.tmp 6]) rfl (.tmp rfl (.nil)) (fun w' h' => ⟨(), by rw [hEe]; rfl, trivial, by rw [hEe]; exact h'.ent aEt⟩)
  try simp only [Bool.not_eq_false', decide_eq_true_eq] at h25
  have hz6 : entE (j : Int) (nth (nth L i).es k) = 0 := by have hq := h25; omega
  iterate 5 refine aS ?_
  try refine oWr ?_
  iterate 2 refine aS ?_
  exact s_backI (k + 1) (by omega) ⟨by omega, fun q hq => (Nat.lt_or_ge q k).elim (hk3 q) (fun h9 => by obtain rfl : q = k := (by omega); exact hz6)⟩ aSx (fun w h => h.ent aEt)
 try simp only [decide_eq_false_iff_not] at h24
 have hEn : ∀ q, q < (nth L i).es.length → entE (j : Int) (nth (nth L i).es q) = 0 := fun q hq => hk3 q (by omega)
 have hE0 : entsE (j : Int) (nth L i).es = 0 := ents_all hEn
 refine s_exit_to rfl ?_
 iterate 6 refine aS ?_
 refine s_loopI (α := Nat × List Int) [6, 11, 12, 87, 88, 89, 90, 91, 92, 93, 94, 95, 96, 97, 98, 99, 100, 101, 102, 103, 104, 105, 106, 107, 108, 109, 110, 111, 112, 113, 114, 115, 116, 117, 118, 119, 120, 121] (fun y => [(11, .int .i64 (y.1 : Int))]) (fun y => HS w (fps [.blk sb 4 tot (seenV L.length S)]) [.blk sb 4 tot (seenV L.length y.2), .blk b1 24 4 [.int .i64 (j : Int), .int .i64 mo, .int .i64 rm, .slice a L.length cap], .blk b2 102 3 (LNd.vals (nth L i))]) (fun y => y.1 ≤ (nth L i).cs.length ∧ (kidsE (pln L) (nth L i).cs S) = kidsE (pln L) ((nth L i).cs.drop y.1) y.2) (fun y => (nth L i).cs.length - y.1) (0, S) ⟨Nat.zero_le _, rfl⟩ aSx (fun w h => h.ent aEt) (fun ⟨k, Sk⟩ hx => ?_)
 dsimp only
 obtain ⟨hk1, hk3⟩ := hx
 simp only [] at hk1 hk3
 iterate 9 refine aS ?_
 refine s_cond rfl (fun h26 => ?_) fun h26 => ?_
 ·try simp only [decide_eq_true_eq] at h26
  have hk5 : k < (nth L i).cs.length := by omega
  have hkd9 : nth (nth L i).cs k = ((nth L i).cs.getD k 0) := rfl
  have hst := kids_drop hk5
  rw [hst, kidsE_cons] at hk3
  iterate 8 refine aS ?_
  refine o_p (p_indexAddr rfl rfl rfl sl_30 (k) (by omega) (by omega) (Rw.some (hs.cs hi) (by omega))) rfl ?_
  refine o_q (q_load_old rfl rfl sz_3 (((hs.cs hi).rdj 0 hk5 rfl))) rfl ?_
  refine o_slot (show _ = Value.int .i64 ((nth L i).cs.getD k 0) from rfl) ?_
  iterate 10 refine aS ?_
  try refine oWr ?_
  refine o_q (q_call rfl fn_46 rfl (fun w1 h1 => c46 w1 _ _ _)) rfl ?_
  iterate 2 refine aS ?_
  refine o_or 8 106 114 _ _ rfl
   (by
    intro hg27
    have hs28 := hg27; try simp only [Bool.not_eq_false', Bool.and_eq_true, decide_eq_true_eq] at hs28
    refine oOn 106 hg27 ?_
    refine aS ?_
    refine oOn 106 hg27 ?_
    refine aS ?_
    refine oOn 106 hg27 ?_
    refine aS ?_
    refine oOn 106 hg27 ?_
    refine o_p (p_indexAddr rfl rfl rfl sl_22 (((nth L i).cs.getD k 0).toNat) (by omega) (by omega) (Rw.some hs.1 (by omega))) rfl ?_
    refine oOn 106 hg27 ?_
    refine aS ?_
    refine oOn 106 hg27 ?_
    refine o_q (q_load_old rfl rfl sz_4 ((hs.1.rdj 0 (i := ((nth L i).cs.getD k 0).toNat) (by omega) rfl))) rfl ?_
    refine oOn 106 hg27 ?_
    refine aS ?_
    refine o_p (p_pickf rfl rfl hg27 rfl) rfl ?_
    refine aS ?_
    exact oJn 8 114)
   (by
    intro hg29
    have hs30 := hg29; try simp only [Bool.not_eq_true', Bool.and_eq_false_iff, decide_eq_false_iff_not] at hs30
    refine oOf 106 hg29 ?_
    refine oOf 106 hg29 ?_
    refine oOf 106 hg29 ?_
    refine oOf 106 hg29 ?_
    refine oOf 106 hg29 ?_
    refine oOf 106 hg29 ?_
    refine oOf 106 hg29 ?_
    refine o_p (p_pickt rfl rfl hg29 rfl) rfl ?_
    refine aS ?_
    exact oJn 8 114) ?_
  refine aS ?_
  refine s_cond rfl (fun h31 => ?_) fun h31 => ?_
  ·try simp only [Bool.or_eq_true, Bool.not_eq_true', Bool.and_eq_false_iff, decide_eq_false_iff_not] at h31
   have hko : ¬ KidOk (pln L) ((nth L i).cs.getD k 0) := by rintro ⟨h91, h92⟩; rw [hnl] at h91; rw [pln_nth (by omega)] at h92; have hq := h31; exact hq.elim (fun hq => by omega) (fun hq => by rw [show (nth L ((nth L i).cs.getD k 0).toNat).pl.us = (nth L ((nth L i).cs.getD k 0).toNat).us from rfl, hq] at h92; cases h92)
   have hk6e : (nodE (⟨(j : Int), mo, rm, pln L⟩ : Tre) i S) = (6, Sk) := by have h8 : kidE1 (pln L) ((nth L i).cs.getD k 0) Sk = 6 := if_neg hko; have h7 : kidS1 (pln L) ((nth L i).cs.getD k 0) Sk = Sk := if_neg hko; rw [h8, h7, if_neg (by decide)] at hk3; rw [← hk3]; exact nodE_ki (t := (⟨(j : Int), mo, rm, pln L⟩ : Tre)) hNI hu9 hM9 hS9 hE0 (by show ¬ (kidsE (pln L) (nth L i).cs S).1 = 0; rw [hk3]; show ¬ (6 : Int) = 0; decide)
   refine aS ?_
   refine s_weaken (L' := [(2, _), (3, _), (7, _), (9, _), (11, _), (12, _), (69, _), (70, _), (71, _), (72, _), (73, _)]) aSx (fun _ h => h) ?_
   iterate 3 refine aS ?_
   exact s_retv (rs := [.tmp 6]) rfl (.tmp rfl (.nil)) (fun w' h' => ⟨(), by rw [hk6e]; rfl, trivial, by rw [hk6e]; exact h'.ent aEt⟩)
  try simp only [Bool.or_eq_false_iff, Bool.not_eq_false', Bool.and_eq_true, decide_eq_true_eq] at h31
  have hko : KidOk (pln L) ((nth L i).cs.getD k 0) := by have hq := h31; refine ⟨by rw [hnl]; exact hq.1, ?_⟩; rw [pln_nth (by omega)]; exact hq.2
  have hko1 := hko.1
  rw [hnl] at hko1
  have hcv2 : ((nth L i).cs.getD k 0).toNat < L.length := by omega
  have hcc : ((((nth L i).cs.getD k 0).toNat : Nat) : Int) = ((nth L i).cs.getD k 0) := Int.toNat_of_nonneg (by omega)
  have h7 : kidS1 (pln L) ((nth L i).cs.getD k 0) Sk = ((nth L i).cs.getD k 0) :: Sk := if_pos hko
  rw [h7] at hk3
  have hsv := seen_set (n := L.length) (S := Sk) hcv2
  rw [hcc] at hsv
  iterate 3 refine aS ?_
  refine s_weaken (L' := [(2, _), (3, _), (7, _), (9, _), (11, _), (12, _), (69, _), (70, _), (71, _), (72, _), (73, _)]) aSx (fun _ h => h) ?_
  iterate 3 refine aS ?_
  refine o_p (p_indexAddr rfl rfl rfl sl_140 (((nth L i).cs.getD k 0).toNat) (by omega) (by omega) rfl) rfl ?_
  refine o_slot (show _ = Value.pointer (some ⟨sb, ((nth L i).cs.getD k 0).toNat, none⟩) from by rw [Nat.zero_add, Nat.mul_one]) ?_
  refine o_q (q_load_at rfl rfl sz_4 (fun w h => h.rd_blk (Mc := []) aPk (seen_get hcv2) (by simp))) rfl ?_
  refine aS ?_
  refine s_cond rfl (fun h32 => ?_) fun h32 => ?_
  ·try simp only [decide_eq_true_eq] at h32
   have hmem : ((nth L i).cs.getD k 0) ∈ Sk := by have hq := h32; rw [hcc] at hq; exact hq
   have h8 : kidE1 (pln L) ((nth L i).cs.getD k 0) Sk = 23 := by rw [kidE1, if_pos hko, if_pos hmem]
   rw [h8, if_neg (by decide)] at hk3
   have hk23 : (nodE (⟨(j : Int), mo, rm, pln L⟩ : Tre) i S) = (23, ((nth L i).cs.getD k 0) :: Sk) := by rw [← hk3]; exact nodE_ki (t := (⟨(j : Int), mo, rm, pln L⟩ : Tre)) hNI hu9 hM9 hS9 hE0 (by show ¬ (kidsE (pln L) (nth L i).cs S).1 = 0; rw [hk3]; show ¬ (23 : Int) = 0; decide)
   iterate 4 refine aS ?_
   exact s_retv (rs := [.tmp 6]) rfl (.tmp rfl (.nil)) (fun w' h' => ⟨(), by rw [hk23]; rfl, trivial, by rw [hk23, seen_dup hmem]; exact h'.ent aEt⟩)
  try simp only [decide_eq_false_iff_not] at h32
  have hmem : ¬ ((nth L i).cs.getD k 0) ∈ Sk := by have hq := h32; rw [hcc] at hq; exact hq
  have h8 : kidE1 (pln L) ((nth L i).cs.getD k 0) Sk = 0 := by rw [kidE1, if_pos hko, if_neg hmem]
  rw [h8, if_pos rfl] at hk3
  have hk9 := hk3
  iterate 4 refine aS ?_
  refine o_p (p_indexAddr rfl rfl rfl sl_140 (((nth L i).cs.getD k 0).toNat) (by omega) (by omega) rfl) rfl ?_
  refine o_slot (show _ = Value.pointer (some ⟨sb, ((nth L i).cs.getD k 0).toNat, none⟩) from by rw [Nat.zero_add, Nat.mul_one]) ?_
  refine o_h0 (h_store rfl rfl rfl sz_4 rfl aPt (by rw [seen_len]; show _ + 1 ≤ _; omega) rfl) (fun _ _ => ?_)
  iterate 5 refine aS ?_
  try refine oWr ?_
  iterate 2 refine aS ?_
  exact s_backI (k + 1, ((nth L i).cs.getD k 0) :: Sk) (by (try simp only []); omega) ⟨by (try simp only []); omega, hk9⟩ aSx (fun w h => by have h2 := h; rw [show setMany (seenV L.length Sk) ((nth L i).cs.getD k 0).toNat (Value.cells (.bool true)).toList = seenV L.length (((nth L i).cs.getD k 0) :: Sk) from hsv] at h2; exact h2.ent aEt)
 try simp only [decide_eq_false_iff_not] at h26
 have hdr9 : (nth L i).cs.drop k = [] := List.drop_of_length_le (by omega)
 rw [hdr9] at hk3
 have hK0 : (kidsE (pln L) (nth L i).cs S).1 = 0 := by rw [hk3]; rfl
 have hK2 : (kidsE (pln L) (nth L i).cs S).2 = Sk := by rw [hk3]; rfl
 have hOr : (nodE (⟨(j : Int), mo, rm, pln L⟩ : Tre) i S) = (ordsE (j : Int) (nth L i).es, (kidsE (pln L) (nth L i).cs S).2) := by have h9 := nodE_or (t := (⟨(j : Int), mo, rm, pln L⟩ : Tre)) (i := i) (S := S) (n := (nth L i).pl) hNI hu9 hM9 hS9 hE0 hK0; exact h9
 refine s_exit_to rfl ?_
 iterate 6 refine aS ?_
 refine s_loopI (α := Nat) [6, 13, 122, 123, 124, 125, 126, 127, 128, 129, 130, 131, 132, 133, 134, 135, 136, 137, 138, 139, 140, 141, 142, 143, 144, 145] (fun k => [(13, .int .i64 (k : Int))]) (fun _ => HS w (fps [.blk sb 4 tot (seenV L.length S)]) [.blk sb 4 tot (seenV L.length (kidsE (pln L) (nth L i).cs S).2), .blk b1 24 4 [.int .i64 (j : Int), .int .i64 mo, .int .i64 rm, .slice a L.length cap], .blk b2 102 3 (LNd.vals (nth L i))]) (fun k => 1 ≤ k ∧ ∀ q, q < k → ordE (j : Int) (nth L i).es q = 0) (fun k => (nth L i).es.length - k) 1 ⟨Nat.le_refl _, fun q h => if_pos (.inl (by omega))⟩ aSx (fun w h => by rw [hK2]; exact h.ent aEt) (fun k hx => ?_)
 obtain ⟨hk1, hk3b⟩ := hx
 iterate 9 refine aS ?_
 refine s_cond rfl (fun h33 => ?_) fun h33 => ?_
 ·try simp only [decide_eq_true_eq] at h33
  have hk5 : k < (nth L i).es.length := by omega
  have hk6 : k - 1 < (nth L i).es.length := by omega
  iterate 4 refine aS ?_
  refine s_draw [] mixed ?_
  refine dFa 0 ?_
  refine dLd 1 [] ?_
  refine dFa 2 ?_
  refine dLd 3 [] ?_
  refine dP 4 ?_
  refine dP 5 ?_
  try refine dWr ?_
  refine d_p 6 rfl (p_indexAddr rfl rfl rfl sl_77 (k - 1) (by omega) (by omega) (Rw.some (hs.es hi) (by omega))) (by kernel_rfl) rfl rfl ?_
  refine dFa 7 ?_
  refine d_q 8 [] rfl (q_load_old rfl rfl sz_9 (((hs.es hi).rdj 0 hk6 rfl))) (by kernel_rfl) (by kernel_rfl) (by kernel_rfl) rfl ?_
  refine dFa 9 ?_
  refine dLd 10 [] ?_
  refine dP 11 ?_
  refine d_p 12 rfl (p_indexAddr rfl rfl rfl sl_77 (k) (by omega) (by omega) (Rw.some (hs.es hi) (by omega))) (by kernel_rfl) rfl rfl ?_
  refine dFa 13 ?_
  refine d_q 14 [] rfl (q_load_old rfl rfl sz_9 (((hs.es hi).rdj 0 hk5 rfl))) (by kernel_rfl) (by kernel_rfl) (by kernel_rfl) rfl ?_
  refine d_q 15 [] rfl (q_call rfl fn_33 rfl (fun w1 h1 => c33 w1 j (nth (nth L i).es (k - 1)).key (nth (nth L i).es k).key hj (entE_key (hEn _ hk6)) (entE_key (hEn _ hk5)) (hK _ (mem_nth hk6)) (hK _ (mem_nth hk5)))) (by kernel_rfl) (by kernel_rfl) (by kernel_rfl) rfl ?_
  refine dP 16 ?_
  refine dNi ?_
  refine s_cond rfl (fun h34 => ?_) fun h34 => ?_
  ·try simp only [decide_eq_true_eq] at h34
   have hz11 : ¬ ordE (j : Int) (nth L i).es k = 0 := by unfold ordE; rw [if_neg (by have hq := h34; omega)]; decide
   have hOb := ords_bad hk5 hk3b hz11
   have hOv : ordE (j : Int) (nth L i).es k = 9 := if_neg (by have hq := h34; omega)
   refine aS ?_
   refine s_weaken (L' := [(2, _), (3, _), (7, _), (9, _), (11, _), (13, _), (69, _), (70, _), (71, _), (72, _), (73, _), (87, _), (88, _), (89, _), (90, _), (91, _)]) aSx (fun _ h => h) ?_
   iterate 3 refine aS ?_
   exact s_retv (rs := [.tmp 6]) rfl (.tmp rfl (.nil)) (fun w' h' => ⟨(), by rw [hOr, hOb, hOv]; rfl, trivial, by rw [hOr]; exact h'.ent aEt⟩)
  try simp only [decide_eq_false_iff_not] at h34
  have hz11 : ordE (j : Int) (nth L i).es k = 0 := if_pos (.inr (by have hq := h34; omega))
  iterate 2 refine aS ?_
  refine s_weaken (L' := [(2, _), (3, _), (7, _), (9, _), (11, _), (13, _), (69, _), (70, _), (71, _), (72, _), (73, _), (87, _), (88, _), (89, _), (90, _), (91, _)]) aSx (fun _ h => h) ?_
  iterate 3 refine aS ?_
  try refine oWr ?_
  iterate 2 refine aS ?_
  exact s_backI (k + 1) (by omega) ⟨by omega, fun q hq => (Nat.lt_or_ge q k).elim (hk3b q) (fun h9 => by obtain rfl : q = k := (by omega); exact hz11)⟩ aSx (fun w h => h.ent aEt)
 try simp only [decide_eq_false_iff_not] at h33
 have hO0 : ordsE (j : Int) (nth L i).es = 0 := ords_all (fun q hq => hk3b q (by omega))
 refine s_exit_to rfl ?_
 iterate 4 refine aS ?_
 exact s_retv (rs := [.tmp 6]) rfl (.tmp rfl (.nil)) (fun w' h' => ⟨(), by rw [hOr, hO0]; rfl, trivial, by rw [hOr]; exact h'.ent aEt⟩)
end Go.Proofs
namespace Gx
set_option linter.unusedSimpArgs false
set_option linter.unusedVariables false
set_option linter.unusedSectionVars false
open Go Go.RowKit
def mkS (vs : List Vis) (S : List Int) : List Int := (vs.map fun v => ((v.i : Nat) : Int)).reverse ++ S
theorem mkS_app (A B : List Vis) (S : List Int) : mkS (A ++ B) S = mkS B (mkS A S) := by simp [mkS]
theorem mkS_mem {vs : List Vis} {c : Int} : c ∈ mkS vs [] ↔ ∃ v ∈ vs, ((v.i : Nat) : Int) = c := by simp [mkS]
end Gx
namespace Go.Proofs
open Go Go.RowKit Gx
set_option linter.unusedVariables false
set_option linter.unusedSimpArgs false
attribute [local irreducible] Go.Calls Gx.S Gx.O Gx.D Gx.OpP Gx.OpQ Gx.OpH
set_option maxRecDepth 20000
theorem fn_86 : isFn Tryz.prog 86 = true := by kernel_rfl
def MkC (j : Nat) (mo rm : Int) (a : Option Addr) (cap : Nat) (L : List LNd) (sb scap tot : Nat) (f : Nat) : Prop := ∀ (w : World) (S : List Int) (v : Vis) (P : List Nat), (HS w (fps [.blk sb 4 tot (seenV L.length S)]) [.blk sb 4 tot (seenV L.length S)] w) → (Nt w (fps [.blk sb 4 tot (seenV L.length S)]) a L) → (TOk (j : Int) (pln L)) → (Bd (pln L)) → (0 < L.length) → (Gx.Way (pln L) (v.i :: P)) → P.length + f = L.length → Calls Tryz.prog 86 #[.agg #[.int .i64 (j : Int), .int .i64 mo, .int .i64 rm, .slice a L.length cap], .int .i64 (v.i : Int), .slice (some ⟨sb, 0, none⟩) L.length scap] w fun en w' => ∃ g : Unit, en = .returned (.tuple #[]) ∧ True ∧ HS w (fps [.blk sb 4 tot (seenV L.length S)]) [.blk sb 4 tot (seenV L.length (mkS (vis (pln L) f v) S))] w'
theorem c86s (w : World) (j : Nat) (mo rm : Int) (a : Option Addr) (cap : Nat) (L : List LNd) (sb scap tot : Nat) (S : List Int) (v : Vis) (P : List Nat) (f : Nat) (hw : HS w (fps [.blk sb 4 tot (seenV L.length S)]) [.blk sb 4 tot (seenV L.length S)] w) (hs : Nt w (fps [.blk sb 4 tot (seenV L.length S)]) a L) (hT : TOk (j : Int) (pln L)) (hB : Bd (pln L)) (h0 : 0 < L.length) (hway : Gx.Way (pln L) (v.i :: P)) (hf : P.length + (f + 1) = L.length) (ih : MkC j mo rm a cap L sb scap tot f) : Calls Tryz.prog 86 #[.agg #[.int .i64 (j : Int), .int .i64 mo, .int .i64 rm, .slice a L.length cap], .int .i64 (v.i : Int), .slice (some ⟨sb, 0, none⟩) L.length scap] w fun en w' => ∃ g : Unit, en = .returned (.tuple #[]) ∧ True ∧ HS w (fps [.blk sb 4 tot (seenV L.length S)]) [.blk sb 4 tot (seenV L.length (mkS (vis (pln L) (f + 1) v) S))] w' := by
 have hi0 := way_lt hT (by rw [pln_len]; exact h0) hway v.i (List.mem_cons_self ..)
 have hi : v.i < L.length := by rw [pln_len] at hi0; exact hi0
 have hn := pln_nth hi
 have hle := hB.len
 rw [pln_len] at hle
 have hcl := hB.cs v.i hi0
 rw [hn] at hcl
 simp only [LNd.pl] at hcl
 refine enter (args := [_, _, _]) Tryz.func86 Tryz.ntmps86 rfl rfl hw ?_
 iterate 2 refine aS ?_
 refine oBx fun b1 _ => ?_
 iterate 5 refine aS ?_
 refine o_p (p_indexAddr rfl rfl rfl sl_140 (v.i) (by omega) (by omega) rfl) rfl ?_
 refine o_slot (show _ = Value.pointer (some ⟨sb, v.i, none⟩) from by rw [Nat.zero_add, Nat.mul_one]) ?_
 refine o_h0 (h_store rfl rfl rfl sz_4 rfl aPt (by rw [seen_len]; show _ + 1 ≤ _; omega) rfl) (fun _ _ => ?_)
 iterate 6 refine aS ?_
 refine s_loopI (α := Nat) [6, 10, 11, 12, 13, 14, 15, 16, 17, 18, 19, 20, 21, 22, 23, 24, 25, 26, 27, 28, 29, 30, 31, 32] (fun k => [(6, .int .i64 (k : Int))]) (fun k => HS w (fps [.blk sb 4 tot (seenV L.length S)]) [.blk sb 4 tot (seenV L.length (mkS (visK (pln L) f v k) S)), .blk b1 24 4 [.int .i64 (j : Int), .int .i64 mo, .int .i64 rm, .slice a L.length cap]]) (fun k => k ≤ (nth L v.i).cs.length) (fun k => (nth L v.i).cs.length - k) 0 (Nat.zero_le _) aSx (fun w h => by have h2 := h; rw [show setMany (seenV L.length S) v.i (Value.cells (.bool true)).toList = seenV L.length (((v.i : Nat) : Int) :: S) from seen_set hi] at h2; exact h2.ent aEt) (fun k hk1 => ?_)
 iterate 7 refine aS ?_
 refine o_p (p_indexAddr rfl rfl rfl sl_22 (v.i) (by omega) (by omega) (Rw.some hs.1 (by omega))) rfl ?_
 refine aS ?_
 refine o_q (q_load_old rfl rfl sz_30 ((hs.1.rdj 2 hi rfl))) rfl ?_
 iterate 3 refine aS ?_
 refine s_cond rfl (fun h2 => ?_) fun h2 => ?_
 ·try simp only [decide_eq_true_eq] at h2
  have hkl : k < (nth L v.i).cs.length := by omega
  have hkid := kid_in hT hi0 (k := k) (by rw [hn]; exact hkl)
  rw [hn, pln_len] at hkid
  simp only [LNd.pl] at hkid
  have hway2 := way_kid hway hi0 (k := k) (by rw [hn]; exact hkl) (by rw [hn]; simp only [LNd.pl]; omega)
  iterate 3 refine aS ?_
  refine s_draw [11] mixed ?_
  refine dLn 0 [[]] ?_
  refine dFa 1 ?_
  refine dLd 2 [[9, 8, 6, 5, 4]] ?_
  refine dP 3 ?_
  refine d_p 4 rfl (p_indexAddr rfl rfl rfl sl_22 (v.i) (by omega) (by omega) (Rw.some hs.1 (by omega))) (by kernel_rfl) rfl rfl ?_
  refine dFa 5 ?_
  refine d_q 6 [[9, 8]] rfl (q_load_old rfl rfl sz_30 ((hs.1.rdj 2 hi rfl))) (by kernel_rfl) (by kernel_rfl) (by kernel_rfl) rfl ?_
  refine dP 7 ?_
  refine d_p 8 rfl (p_indexAddr rfl rfl rfl sl_30 (k) (by omega) (by omega) (Rw.some (hs.cs hi) (by omega))) (by kernel_rfl) rfl rfl ?_
  refine d_q 9 [[]] rfl (q_load_old rfl rfl sz_3 (((hs.cs hi).rdj 0 (i := k) hkl rfl))) (by kernel_rfl) (by kernel_rfl) (by kernel_rfl) rfl ?_
  refine d_slot (show _ = Value.int .i64 ((kidV (pln L) v k).i : Int) from by rw [kidV, hn]; exact congrArg (Value.int .i64) (Int.toNat_of_nonneg (show 0 ≤ (nth L v.i).cs.getD k 0 by omega)).symm) ?_
  refine dP 10 ?_
  refine d_h 11 rfl (h_callF (Cs := [.blk sb 4 tot (seenV L.length (mkS (visK (pln L) f v k) S))]) rfl fn_86 rfl aPs (fun w1 h1 hf9 => ih w1 (mkS (visK (pln L) f v k) S) (kidV (pln L) v k) (v.i :: P) hf9 ((hs.keep h1).mono (fps_pick aPs)) hT hB h0 hway2 (by simp only [List.length_cons]; omega))) (by kernel_rfl) (fun w h => h.ent aEt) rfl (fun _ _ => ?_)
  refine dTu [] ?_
  refine dNi ?_
  iterate 4 refine aS ?_
  try refine oWr ?_
  iterate 2 refine aS ?_
  exact s_backI (k + 1) (by omega) (by omega) aSx (fun w h => by rw [visK_succ, mkS_app]; exact h.ent aEt)
 try simp only [decide_eq_false_iff_not] at h2
 obtain rfl : k = (nth L v.i).cs.length := by omega
 refine s_exit_to rfl ?_
 exact s_end0 rfl (fun w' h' => ⟨(), rfl, trivial, by rw [visK_all, hn]; exact h'.ent aEt⟩)
theorem c86 (j : Nat) (mo rm : Int) (a : Option Addr) (cap : Nat) (L : List LNd) (sb scap tot : Nat) : ∀ f, MkC j mo rm a cap L sb scap tot f
  | 0 => fun w S v P hw hs hT hB h0 hway hf => by
    have h1 := way_len hT (by rw [pln_len]; exact h0) hway
    rw [pln_len, List.length_cons] at h1
    omega
  | f + 1 => fun w S v P hw hs hT hB h0 hway hf => c86s w j mo rm a cap L sb scap tot S v P f hw hs hT hB h0 hway hf (c86 j mo rm a cap L sb scap tot f)
end Go.Proofs
namespace Gx
set_option linter.unusedSimpArgs false
set_option linter.unusedVariables false
set_option linter.unusedSectionVars false
open Go Go.RowKit
def StK (w : World) (p : Option Addr) (n : Nat) (o : Option (List UInt8)) : Prop := match o with
  | none => n = 0
  | some k => n = 1 ∧ ∃ b off, p = some ⟨b, off, none⟩ ∧ Rd w [] b off (.string (bs k))
theorem StK.later {w w' : World} {As : List HA} {p : Option Addr} {n : Nat} {o : Option (List UInt8)} (h : StK w p n o) (hs : HS w [] As w') : StK w' p n o := by
  cases o with
  | none => exact h
  | some k =>
    obtain ⟨h1, b, off, h2, h3⟩ := h
    exact ⟨h1, b, off, h2, h3.next hs⟩
theorem StK.of_pos {w : World} {p : Option Addr} {n : Nat} {o : Option (List UInt8)} (h : StK w p n o) (hn : 0 < n) : ∃ k b off, o = some k ∧ n = 1 ∧ p = some ⟨b, off, none⟩ ∧ Rd w [] b off (.string (bs k)) := by
  cases o with
  | none =>
    have : n = 0 := h
    omega
  | some k =>
    obtain ⟨h1, b, off, h2, h3⟩ := h
    exact ⟨k, b, off, rfl, h1, h2, h3⟩
theorem StK.of_no {w : World} {p : Option Addr} {n : Nat} {o : Option (List UInt8)} (h : StK w p n o) (hn : ¬ 0 < n) : o = none := by
  cases o with
  | none => rfl
  | some k =>
    obtain ⟨h1, _⟩ := h
    omega
theorem StK.new {w : World} {b : Nat} {k : List UInt8} (h : Rd w [] b 0 (.string (bs k))) : StK w (some ⟨b, 0, none⟩) 1 (some k) := ⟨rfl, b, 0, rfl, h⟩
theorem loK_pos {es : List TEnt} {k : Nat} {lo : Option (List UInt8)} (h : 0 < k) : loK es k lo = some (nth es (k - 1)).key := if_pos h
theorem loK_no {es : List TEnt} {k : Nat} {lo : Option (List UInt8)} (h : ¬ 0 < k) : loK es k lo = lo := if_neg h
theorem hiK_pos {es : List TEnt} {k : Nat} {hi : Option (List UInt8)} (h : k < es.length) : hiK es k hi = some (nth es k).key := if_pos h
theorem hiK_no {es : List TEnt} {k : Nat} {hi : Option (List UInt8)} (h : ¬ k < es.length) : hiK es k hi = hi := if_neg h
theorem shpF_app {t : Tre} {deep : Int} : ∀ (A B : List Vis), shpF t deep (A ++ B) = if (shpF t deep A).2 = 0 then shpF t deep B else shpF t deep A
  | [], B => rfl
  | v :: A, B => by
    rw [List.cons_append, shpF, shpF]
    by_cases h : visE t deep v = 0
    · rw [if_pos h, if_pos h]
      exact shpF_app A B
    · rw [if_neg h, if_neg h, if_neg h]
theorem gap_iff {t : Tre} {v : Vis} {N R : Nd} (hN : nth t.ns v.i = N) (hR : nth t.ns 0 = R) (h1 : R.cs.length = 0 ∨ R.cs.length = R.es.length + 1) (h2 : ∀ c ∈ R.cs, 1 ≤ c) : gapB t v = true ↔ (v.i ≠ 0 ∧ (N.es.length : Int) < t.mo / 2) ∨ (((R.es.length = 0 ∧ R.cs.length = 1) ∧ R.cs.getD 0 0 = (v.i : Int)) ∧ (N.es.length : Int) ≤ t.rm) := by
  subst hN hR
  unfold gapB
  simp only [Bool.and_eq_true, Bool.or_eq_true, decide_eq_true_eq]
  constructor
  · rintro ⟨h3, h4 | ⟨⟨h4, h5⟩, h6⟩⟩
    · exact .inl ⟨by omega, h4⟩
    · refine .inr ⟨⟨⟨h4, ?_⟩, ?_⟩, h6⟩
      · rcases h1 with h1 | h1
        · rw [List.eq_nil_of_length_eq_zero h1] at h5
          cases h5
        · omega
      · have hl : (nth t.ns 0).cs.length = 1 := by
          rcases h1 with h1 | h1
          · rw [List.eq_nil_of_length_eq_zero h1] at h5
            cases h5
          · omega
        obtain ⟨c, hc⟩ := List.length_eq_one_iff.1 hl
        rw [hc] at h5 ⊢
        exact (List.mem_singleton.1 h5).symm
  · rintro (⟨h3, h4⟩ | ⟨⟨⟨h4, h5⟩, h6⟩, h7⟩)
    · exact ⟨by omega, .inl h4⟩
    · obtain ⟨c, hc⟩ := List.length_eq_one_iff.1 h5
      have h8 := h2 c (by rw [hc]; exact List.mem_singleton.2 rfl)
      rw [hc] at h6 ⊢
      have h9 : c = (v.i : Int) := h6
      exact ⟨by omega, .inr ⟨⟨h4, List.mem_singleton.2 h9.symm⟩, h7⟩⟩
theorem visE_gap {t : Tre} {deep : Int} {v : Vis} (h : gapB t v = true) : visE t deep v = 14 := by rw [visE_eq, if_pos h]
theorem visE_out {t : Tre} {deep : Int} {v : Vis} (h : ¬ gapB t v = true) (h2 : outsB t v = true) : visE t deep v = 9 := by rw [visE_eq, if_neg h, if_pos h2]
theorem visE_22 {t : Tre} {deep : Int} {v : Vis} (h : ¬ gapB t v = true) (h2 : ¬ outsB t v = true) (h3 : (nth t.ns v.i).cs.length = 0 ∧ v.d ≠ deep + 1) : visE t deep v = 22 := by rw [visE_eq, if_neg h, if_neg h2, if_pos h3]
theorem visE_ok {t : Tre} {deep : Int} {v : Vis} (h : ¬ gapB t v = true) (h2 : ¬ outsB t v = true) (h3 : ¬ ((nth t.ns v.i).cs.length = 0 ∧ v.d ≠ deep + 1)) : visE t deep v = 0 := by rw [visE_eq, if_neg h, if_neg h2, if_neg h3]
theorem outs_hit {t : Tre} {v : Vis} {N : Nd} {k : Nat} (hN : nth t.ns v.i = N) (hk : k < N.es.length) (h : outB t v (nth N.es k) = true) : outsB t v = true := by
  subst hN
  exact List.any_eq_true.2 ⟨_, mem_nth hk, h⟩
theorem outs_no {t : Tre} {v : Vis} {N : Nd} (hN : nth t.ns v.i = N) (h : ∀ q, q < N.es.length → ¬ outB t v (nth N.es q) = true) : ¬ outsB t v = true := fun h2 => by
  subst hN
  obtain ⟨x, hx, h3⟩ := List.any_eq_true.1 h2
  obtain ⟨q, hq, e⟩ := List.getElem_of_mem hx
  have e2 : nth (nth t.ns v.i).es q = x := nth_eq (by rw [List.getElem?_eq_getElem hq, e])
  exact h q hq (by rw [e2]; exact h3)
theorem out_iff {t : Tre} {v : Vis} {x : TEnt} : outB t v x = true ↔ (∃ b, v.lo = some b ∧ 0 ≤ cmpK t.co b x.key) ∨ (∃ b, v.hi = some b ∧ 0 ≤ cmpK t.co x.key b) := by
  unfold outB
  cases v.lo <;> cases v.hi <;> simp
section
variable {t : Tre} {v : Vis} {x : TEnt} {kl kh : List UInt8}
theorem out_a (h1 : v.lo = some kl) (h : 0 ≤ cmpK t.co kl x.key) : (true = true ↔ outB t v x = true) := ⟨fun _ => out_iff.2 (.inl ⟨kl, h1, h⟩), fun _ => rfl⟩
theorem out_b (h1 : v.lo = some kl) (h : ¬ 0 ≤ cmpK t.co kl x.key) (h2 : v.hi = some kh) : (decide (cmpK t.co x.key kh ≥ 0) = true ↔ outB t v x = true) := by
  rw [decide_eq_true_eq, out_iff, h1, h2]
  constructor
  · exact fun h9 => .inr ⟨kh, rfl, h9⟩
  · rintro (⟨b, hb, h9⟩ | ⟨b, hb, h9⟩)
    · cases hb
      exact absurd h9 h
    · cases hb
      exact h9
theorem out_c (h1 : v.lo = some kl) (h : ¬ 0 ≤ cmpK t.co kl x.key) (h2 : v.hi = none) : (false = true ↔ outB t v x = true) := by
  rw [out_iff, h1, h2]
  constructor
  · exact fun h9 => (nomatch h9)
  · rintro (⟨b, hb, h9⟩ | ⟨b, hb, h9⟩)
    · cases hb
      exact absurd h9 h
    · cases hb
theorem out_d (h1 : v.lo = none) (h2 : v.hi = some kh) : (decide (cmpK t.co x.key kh ≥ 0) = true ↔ outB t v x = true) := by
  rw [decide_eq_true_eq, out_iff, h1, h2]
  constructor
  · exact fun h9 => .inr ⟨kh, rfl, h9⟩
  · rintro (⟨b, hb, h9⟩ | ⟨b, hb, h9⟩)
    · cases hb
    · cases hb
      exact h9
theorem out_e (h1 : v.lo = none) (h2 : v.hi = none) : (false = true ↔ outB t v x = true) := by
  rw [out_iff, h1, h2]
  constructor
  · exact fun h9 => (nomatch h9)
  · rintro (⟨b, hb, h9⟩ | ⟨b, hb, h9⟩) <;> cases hb
end
theorem shp_head {t : Tre} {deep : Int} {f : Nat} {v : Vis} (h : ¬ visE t deep v = 0) : shpF t deep (vis t.ns (f + 1) v) = ((v.i : Int), visE t deep v) := by
  rw [vis, shpF, if_neg h]
theorem shp_K0 {t : Tre} {deep : Int} {f : Nat} {v : Vis} (h : visE t deep v = 0) : (shpF t deep (visK t.ns f v 0)).2 = 0 := by
  rw [visK_0, shpF, if_pos h]
  rfl
end Gx
namespace Go.Proofs
open Go Go.RowKit Gx
set_option linter.unusedVariables false
set_option linter.unusedSimpArgs false
attribute [local irreducible] Go.Calls Gx.S Gx.O Gx.D Gx.OpP Gx.OpQ Gx.OpH
set_option maxRecDepth 20000
theorem sl_174 : tsl Tryz.prog 174 = some (9, 1, 16) := by kernel_rfl
theorem zr_9 : tzero Tryz.prog 9 = some [.string (bs [])] := by kernel_rfl
theorem fn_87 : isFn Tryz.prog 87 = true := by kernel_rfl
def PlC (j : Nat) (mo rm : Int) (a : Option Addr) (cap : Nat) (L : List LNd) (deep : Int) (f : Nat) : Prop := ∀ (w : World) (v : Vis) (P : List Nat) (lv : Int) (pa qa : Option Addr) (pn pc qn qc : Nat), (Nt w [] a L) → (j ≤ 3) → ((0 ≤ mo ∧ mo ≤ 1000) ∧ (0 ≤ deep ∧ deep ≤ 1000)) → (TOk (j : Int) (pln L)) → (Bd (pln L)) → (0 < L.length) → (Gx.Way (pln L) (v.i :: P)) → (v.d = (P.length : Int) + 1) → (lv = deep + 1 - v.d) → (KOk (j : Int) v.lo) → (KOk (j : Int) v.hi) → (StK w pa pn v.lo) → (StK w qa qn v.hi) → P.length + f = L.length → Calls Tryz.prog 87 #[.agg #[.int .i64 (j : Int), .int .i64 mo, .int .i64 rm, .slice a L.length cap], .int .i64 (v.i : Int), .int .i64 lv, .slice pa pn pc, .slice qa qn qc] w fun en w' => en = .returned (.tuple #[.int .i64 (shpF (⟨(j : Int), mo, rm, pln L⟩ : Tre) deep (vis (pln L) f v)).1, .int .i64 (shpF (⟨(j : Int), mo, rm, pln L⟩ : Tre) deep (vis (pln L) f v)).2]) ∧ Below w.heap.size w w'
set_option maxHeartbeats 400000 in
theorem c87s (w : World) (j : Nat) (mo rm : Int) (a : Option Addr) (cap : Nat) (L : List LNd) (deep : Int) (v : Vis) (P : List Nat) (lv : Int) (pa qa : Option Addr) (pn pc qn qc : Nat) (f : Nat) (hs : Nt w [] a L) (hj : j ≤ 3) (hmo : (0 ≤ mo ∧ mo ≤ 1000) ∧ (0 ≤ deep ∧ deep ≤ 1000)) (hT : TOk (j : Int) (pln L)) (hB : Bd (pln L)) (h0 : 0 < L.length) (hway : Gx.Way (pln L) (v.i :: P)) (hd : v.d = (P.length : Int) + 1) (hlv : lv = deep + 1 - v.d) (hko : KOk (j : Int) v.lo) (hkp : KOk (j : Int) v.hi) (hlo : StK w pa pn v.lo) (hhi : StK w qa qn v.hi) (hf : P.length + (f + 1) = L.length) (ih : PlC j mo rm a cap L deep f) : Calls Tryz.prog 87 #[.agg #[.int .i64 (j : Int), .int .i64 mo, .int .i64 rm, .slice a L.length cap], .int .i64 (v.i : Int), .int .i64 lv, .slice pa pn pc, .slice qa qn qc] w fun en w' => en = .returned (.tuple #[.int .i64 (shpF (⟨(j : Int), mo, rm, pln L⟩ : Tre) deep (vis (pln L) (f + 1) v)).1, .int .i64 (shpF (⟨(j : Int), mo, rm, pln L⟩ : Tre) deep (vis (pln L) (f + 1) v)).2]) ∧ Below w.heap.size w w' := by
 have hi0 := way_lt hT (by rw [pln_len]; exact h0) hway v.i (List.mem_cons_self ..)
 have hi : v.i < L.length := by rw [pln_len] at hi0; exact hi0
 have hn := pln_nth hi
 have hn0 := pln_nth h0
 have hle := hB.len
 rw [pln_len] at hle
 have hwl := way_len hT (by rw [pln_len]; exact h0) hway
 rw [pln_len, List.length_cons] at hwl
 have hcl := hB.cs v.i hi0
 have hel := hB.es v.i hi0
 rw [hn] at hcl hel
 simp only [LNd.pl] at hcl hel
 have hsh := hT.shape v.i hi0
 rw [hn] at hsh
 simp only [LNd.pl] at hsh
 have hgi := gap_iff (t := (⟨(j : Int), mo, rm, pln L⟩ : Tre)) (v := v) hn hn0 (hn0 ▸ hT.shape 0 (by rw [pln_len]; exact h0)) (fun c hc => (hT.kid 0 (by rw [pln_len]; exact h0) c (by rw [hn0]; exact hc)).1.1)
 simp only [LNd.pl] at hgi
 have hE9 := ents_kok hT hi0
 rw [hn] at hE9
 simp only [LNd.pl] at hE9
 refine enter (args := [_, _, _, _, _]) Tryz.func87 Tryz.ntmps87 rfl rfl (HS.refl w []) ?_
 iterate 2 refine aS ?_
 refine oBx fun b1 _ => ?_
 iterate 8 refine aS ?_
 refine o_p (p_indexAddr rfl rfl rfl sl_22 (v.i) (by omega) (by omega) (Rw.some hs.1 (by omega))) rfl ?_
 refine o_q (q_load_oldn _ rfl rfl sz_102 rfl (Rw.rd hs.1 hi)) rfl ?_
 refine oAl (fun b2 _ => ?_) zr_102
 refine oSt ?_
 iterate 7 refine aS ?_
 refine o_and 8 27 35 _ _ rfl
  (by
   intro hg3
   have hs4 := hg3; try simp only [Bool.not_eq_true', decide_eq_false_iff_not] at hs4
   refine oOn 27 hg3 ?_
   refine aS ?_
   refine oOn 27 hg3 ?_
   refine aS ?_
   refine oOn 27 hg3 ?_
   refine aS ?_
   refine oOn 27 hg3 ?_
   refine aS ?_
   refine oOn 27 hg3 ?_
   refine aS ?_
   refine oOn 27 hg3 ?_
   refine o_p (p_quo_nn rfl rfl rfl (by omega) (by omega) (by omega)) rfl ?_
   refine oOn 27 hg3 ?_
   refine aS ?_
   refine o_p (p_pickt rfl rfl hg3 rfl) rfl ?_
   refine aS ?_
   exact oJn 8 35)
  (by
   intro hg5
   have hs6 := hg5; try simp only [Bool.not_eq_false', decide_eq_true_eq] at hs6
   refine oOf 27 hg5 ?_
   refine oOf 27 hg5 ?_
   refine oOf 27 hg5 ?_
   refine oOf 27 hg5 ?_
   refine oOf 27 hg5 ?_
   refine oOf 27 hg5 ?_
   refine oOf 27 hg5 ?_
   refine o_p (p_pickf rfl rfl hg5 rfl) rfl ?_
   refine aS ?_
   exact oJn 8 35) ?_
 refine aS ?_
 refine s_cond rfl (fun h7 => ?_) fun h7 => ?_
 ·try simp only [Bool.and_eq_true, Bool.not_eq_true', decide_eq_false_iff_not, decide_eq_true_eq] at h7
  have hgp : gapB (⟨(j : Int), mo, rm, pln L⟩ : Tre) v = true := hgi.2 (.inl (by have hq := h7; omega))
  have hV := visE_gap (deep := deep) hgp
  iterate 6 refine aS ?_
  exact s_retv (rs := [.tmp 10, .tmp 11]) rfl (.tmp rfl (.tmp rfl (.nil))) (fun w' h' => ⟨by rw [shp_head (by rw [hV]; decide), hV]; rfl, h'.below⟩)
 try simp only [Bool.and_eq_false_iff, Bool.not_eq_false', decide_eq_true_eq, decide_eq_false_iff_not] at h7
 have hng1 : ¬ (v.i ≠ 0 ∧ ((nth L v.i).es.length : Int) < mo / 2) := by have hq := h7; omega
 iterate 6 refine aS ?_
 refine o_p (p_indexAddr rfl rfl rfl sl_22 (0) (by omega) (by omega) (Rw.some hs.1 (by omega))) rfl ?_
 refine aS ?_
 refine o_q (q_load_old rfl rfl sz_77 ((hs.1.rdj 1 h0 rfl))) rfl ?_
 iterate 3 refine aS ?_
 refine o_and 8 44 52 _ _ rfl
  (by
   intro hg8
   have hs9 := hg8; try simp only [decide_eq_true_eq] at hs9
   refine oOn 44 hg8 ?_
   refine aS ?_
   refine oOn 44 hg8 ?_
   refine aS ?_
   refine oOn 44 hg8 ?_
   refine o_p (p_indexAddr rfl rfl rfl sl_22 (0) (by omega) (by omega) (Rw.some hs.1 (by omega))) rfl ?_
   refine oOn 44 hg8 ?_
   refine aS ?_
   refine oOn 44 hg8 ?_
   refine o_q (q_load_old rfl rfl sz_30 ((hs.1.rdj 2 h0 rfl))) rfl ?_
   refine oOn 44 hg8 ?_
   refine aS ?_
   refine oOn 44 hg8 ?_
   refine aS ?_
   refine o_p (p_pickt rfl rfl hg8 rfl) rfl ?_
   refine aS ?_
   exact oJn 8 52)
  (by
   intro hg10
   have hs11 := hg10; try simp only [decide_eq_false_iff_not] at hs11
   refine oOf 44 hg10 ?_
   refine oOf 44 hg10 ?_
   refine oOf 44 hg10 ?_
   refine oOf 44 hg10 ?_
   refine oOf 44 hg10 ?_
   refine oOf 44 hg10 ?_
   refine oOf 44 hg10 ?_
   refine o_p (p_pickf rfl rfl hg10 rfl) rfl ?_
   refine aS ?_
   exact oJn 8 52) ?_
 refine aS ?_
 refine o_and 10 53 63 _ _ rfl
  (by
   intro hg12
   have hs13 := hg12; try simp only [Bool.and_eq_true, decide_eq_true_eq] at hs13
   refine oOn 53 hg12 ?_
   refine aS ?_
   refine oOn 53 hg12 ?_
   refine aS ?_
   refine oOn 53 hg12 ?_
   refine o_p (p_indexAddr rfl rfl rfl sl_22 (0) (by omega) (by omega) (Rw.some hs.1 (by omega))) rfl ?_
   refine oOn 53 hg12 ?_
   refine aS ?_
   refine oOn 53 hg12 ?_
   refine o_q (q_load_old rfl rfl sz_30 ((hs.1.rdj 2 h0 rfl))) rfl ?_
   refine oOn 53 hg12 ?_
   refine o_p (p_indexAddr rfl rfl rfl sl_30 (0) (by omega) (by omega) (Rw.some (hs.cs h0) (by omega))) rfl ?_
   refine oOn 53 hg12 ?_
   refine o_q (q_load_old rfl rfl sz_3 (((hs.cs h0).rdj 0 (i := 0) (by omega) rfl))) rfl ?_
   refine oOn 53 hg12 ?_
   refine aS ?_
   refine oOn 53 hg12 ?_
   refine aS ?_
   refine o_p (p_pickt rfl rfl hg12 rfl) rfl ?_
   refine aS ?_
   exact oJn 10 63)
  (by
   intro hg14
   have hs15 := hg14; try simp only [Bool.and_eq_false_iff, decide_eq_false_iff_not] at hs15
   refine oOf 53 hg14 ?_
   refine oOf 53 hg14 ?_
   refine oOf 53 hg14 ?_
   refine oOf 53 hg14 ?_
   refine oOf 53 hg14 ?_
   refine oOf 53 hg14 ?_
   refine oOf 53 hg14 ?_
   refine oOf 53 hg14 ?_
   refine oOf 53 hg14 ?_
   refine o_p (p_pickf rfl rfl hg14 rfl) rfl ?_
   refine aS ?_
   exact oJn 10 63) ?_
 refine aS ?_
 refine o_and 7 64 71 _ _ rfl
  (by
   intro hg16
   have hs17 := hg16; try simp only [Bool.and_eq_true, decide_eq_true_eq] at hs17
   refine oOn 64 hg16 ?_
   refine aS ?_
   refine oOn 64 hg16 ?_
   refine aS ?_
   refine oOn 64 hg16 ?_
   refine aS ?_
   refine oOn 64 hg16 ?_
   refine aS ?_
   refine oOn 64 hg16 ?_
   refine aS ?_
   refine oOn 64 hg16 ?_
   refine aS ?_
   refine o_p (p_pickt rfl rfl hg16 rfl) rfl ?_
   refine aS ?_
   exact oJn 7 71)
  (by
   intro hg18
   have hs19 := hg18; try simp only [Bool.and_eq_false_iff, decide_eq_false_iff_not] at hs19
   refine oOf 64 hg18 ?_
   refine oOf 64 hg18 ?_
   refine oOf 64 hg18 ?_
   refine oOf 64 hg18 ?_
   refine oOf 64 hg18 ?_
   refine oOf 64 hg18 ?_
   refine o_p (p_pickf rfl rfl hg18 rfl) rfl ?_
   refine aS ?_
   exact oJn 7 71) ?_
 refine aS ?_
 refine s_cond rfl (fun h20 => ?_) fun h20 => ?_
 ·try simp only [Bool.and_eq_true, decide_eq_true_eq] at h20
  have hgp : gapB (⟨(j : Int), mo, rm, pln L⟩ : Tre) v = true := hgi.2 (.inr (by have hq := h20; exact ⟨⟨⟨by omega, by omega⟩, hq.1.2⟩, by omega⟩))
  have hV := visE_gap (deep := deep) hgp
  refine aS ?_
  refine s_weaken (L' := [(1, _), (2, _), (3, _), (4, _), (5, _), (10, _), (11, _), (12, _)]) aSx (fun _ h => h) ?_
  iterate 5 refine aS ?_
  exact s_retv (rs := [.tmp 10, .tmp 11]) rfl (.tmp rfl (.tmp rfl (.nil))) (fun w' h' => ⟨by rw [shp_head (by rw [hV]; decide), hV]; rfl, h'.below⟩)
 try simp only [Bool.and_eq_false_iff, decide_eq_false_iff_not] at h20
 have hgn : ¬ gapB (⟨(j : Int), mo, rm, pln L⟩ : Tre) v = true := fun h9 => (hgi.1 h9).elim hng1 (fun h8 => by have hq := h20; rcases hq with ((hq | hq) | hq) | hq <;> first | omega | exact hq h8.1.2)
 iterate 3 refine aS ?_
 refine s_weaken (L' := [(1, _), (2, _), (3, _), (4, _), (5, _), (10, _), (11, _), (12, _)]) aSx (fun _ h => h) ?_
 iterate 4 refine aS ?_
 refine s_loopI (α := Nat) [10, 11, 13, 14, 73, 74, 75, 76, 77, 78, 79, 80, 81, 82, 83, 84, 85, 86, 87, 88, 89, 90, 91, 92, 93, 94, 95, 96, 97, 98, 99, 100, 101, 102, 103, 104, 105, 106, 107, 108, 109, 110, 111, 112, 113, 114] (fun k => [(13, .int .i64 (k : Int))]) (fun _ => HS w [] [.blk b1 24 4 [.int .i64 (j : Int), .int .i64 mo, .int .i64 rm, .slice a L.length cap], .blk b2 102 3 (LNd.vals (nth L v.i))]) (fun k => k ≤ (nth L v.i).es.length ∧ ∀ q, q < k → ¬ outB (⟨(j : Int), mo, rm, pln L⟩ : Tre) v (nth (nth L v.i).es q) = true) (fun k => (nth L v.i).es.length - k) 0 ⟨Nat.zero_le _, fun q h => absurd h (Nat.not_lt_zero q)⟩ aSx (fun w h => h.ent aEt) (fun k hx9 => ?_)
 obtain ⟨hk1, hk3⟩ := hx9
 iterate 9 refine aS ?_
 refine s_cond rfl (fun h21 => ?_) fun h21 => ?_
 ·try simp only [decide_eq_true_eq] at h21
  have hk5 : k < (nth L v.i).es.length := by omega
  iterate 8 refine aS ?_
  refine o_p (p_indexAddr rfl rfl rfl sl_77 (k) (by omega) (by omega) (Rw.some (hs.es hi) (by omega))) rfl ?_
  refine aS ?_
  refine o_q (q_load_old rfl rfl sz_9 (((hs.es hi).rdj 0 hk5 rfl))) rfl ?_
  iterate 3 refine aS ?_
  refine s_weaken (L' := [(1, _), (2, _), (3, _), (4, _), (5, _), (12, _), (13, _), (14, _)]) aSx (fun _ h => h) ?_
  refine s_cutS (α := Bool) [86, 87, 88, 89, 90, 91, 92, 93, 94, 95, 96, 97, 98, 99, 100, 101, 102, 103, 104, 105, 106, 107, 108, 109, 110, 111, 112, 113] (fun x => [(113, .bool x)]) (fun x => x = true ↔ (outB (⟨(j : Int), mo, rm, pln L⟩ : Tre) v (nth (nth L v.i).es k)) = true) ?_ ?_
  ·skip
   refine s_draw [] mixed ?_
   refine dP 0 ?_
   refine d_p 1 rfl (p_len_slice rfl rfl Tryz.underlying174) (by kernel_rfl) rfl rfl ?_
   refine dP 2 ?_
   refine dP 3 ?_
   apply d_split 89
   ·exact rfl
   ·intro hg22
    have hs23 := hg22; try simp only [decide_eq_true_eq] at hs23
    refine dFo 4 89 hg22 ?_
    obtain ⟨kl, bl, ol, hlo1, hlo2, hlo3, hlo4⟩ := hlo.of_pos (by omega)
    refine d_qon 5 89 [] rfl rfl rfl hg22 (q_load rfl rfl sz_3 aPk rfl) (by kernel_rfl) (by kernel_rfl) (by kernel_rfl) rfl ?_
    refine dPo 6 89 hg22 ?_
    refine d_pon 7 89 rfl rfl rfl hg22 (p_indexAddr rfl rfl rfl sl_174 (0) (by omega) (by omega) hlo3) (by kernel_rfl) rfl rfl ?_
    refine d_qon 8 89 [] rfl rfl rfl hg22 (q_load_old rfl rfl sz_9 (hlo4)) (by kernel_rfl) (by kernel_rfl) (by kernel_rfl) rfl ?_
    refine dPo 9 89 hg22 ?_
    refine d_qon 10 89 [] rfl rfl rfl hg22 (q_call rfl fn_33 rfl (fun w1 h1 => c33 w1 j kl (nth (nth L v.i).es k).key hj (hko _ hlo1).1 (hE9 _ (mem_nth hk5)).1 (hko _ hlo1).2 (hE9 _ (mem_nth hk5)).2)) (by kernel_rfl) (by kernel_rfl) (by kernel_rfl) rfl ?_
    refine dPo 11 89 hg22 ?_
    refine d_p 12 rfl (p_pickt rfl rfl hg22 rfl) (by kernel_rfl) rfl rfl ?_
    refine dP 13 ?_
    apply d_split 99
    ·exact rfl
    ·intro hg24
     have hs25 := hg24; try simp only [decide_eq_true_eq] at hs25
     refine dOf 14 99 hg24 ?_
     refine dOf 15 99 hg24 ?_
     refine dOf 16 99 hg24 ?_
     refine dOf 17 99 hg24 ?_
     refine dOu 18 103 ?_
     refine dOu 19 103 ?_
     refine dOu 20 103 ?_
     refine dOu 21 103 ?_
     refine dOu 22 103 ?_
     refine dOu 23 103 ?_
     refine dOu 24 103 ?_
     refine dOu 25 103 ?_
     refine dOf 26 99 hg24 ?_
     refine d_p 27 rfl (p_pickt rfl rfl hg24 rfl) (by kernel_rfl) rfl rfl ?_
     refine dNi ?_
     exact s_joinI true (out_a hlo1 (by show 0 ≤ cmpK (j : Int) kl _; omega)) aSx (fun w h => h.ent aEt)
    intro hg26
    have hs27 := hg26; try simp only [decide_eq_false_iff_not] at hs27
    refine dPo 14 99 hg26 ?_
    refine d_pon 15 99 rfl rfl rfl hg26 (p_len_slice rfl rfl Tryz.underlying174) (by kernel_rfl) rfl rfl ?_
    refine dPo 16 99 hg26 ?_
    refine dPo 17 99 hg26 ?_
    apply d_split 103
    ·exact rfl
    ·intro hg28
     have hs29 := hg28; try simp only [decide_eq_true_eq] at hs29
     refine dFo 18 103 hg28 ?_
     obtain ⟨kh, bh, oh, hhi1, hhi2, hhi3, hhi4⟩ := hhi.of_pos (by omega)
     refine d_qon 19 103 [] rfl rfl rfl hg28 (q_load rfl rfl sz_3 aPk rfl) (by kernel_rfl) (by kernel_rfl) (by kernel_rfl) rfl ?_
     refine dPo 20 103 hg28 ?_
     refine dPo 21 103 hg28 ?_
     refine d_pon 22 103 rfl rfl rfl hg28 (p_indexAddr rfl rfl rfl sl_174 (0) (by omega) (by omega) hhi3) (by kernel_rfl) rfl rfl ?_
     refine d_qon 23 103 [] rfl rfl rfl hg28 (q_load_old rfl rfl sz_9 (hhi4)) (by kernel_rfl) (by kernel_rfl) (by kernel_rfl) rfl ?_
     refine d_qon 24 103 [] rfl rfl rfl hg28 (q_call rfl fn_33 rfl (fun w1 h1 => c33 w1 j (nth (nth L v.i).es k).key kh hj (hE9 _ (mem_nth hk5)).1 (hkp _ hhi1).1 (hE9 _ (mem_nth hk5)).2 (hkp _ hhi1).2)) (by kernel_rfl) (by kernel_rfl) (by kernel_rfl) rfl ?_
     refine dPo 25 103 hg28 ?_
     refine d_pon 26 99 rfl rfl rfl hg26 (p_pickt rfl rfl hg28 rfl) (by kernel_rfl) rfl rfl ?_
     refine d_p 27 rfl (p_pickf rfl rfl hg26 rfl) (by kernel_rfl) rfl rfl ?_
     refine dNi ?_
     exact s_joinI (decide (cmpK (j : Int) (nth (nth L v.i).es k).key kh ≥ 0)) (out_b (t := (⟨(j : Int), mo, rm, pln L⟩ : Tre)) hlo1 (by show ¬ 0 ≤ cmpK (j : Int) kl _; omega) hhi1) aSx (fun w h => h.ent aEt)
    intro hg30
    have hs31 := hg30; try simp only [decide_eq_false_iff_not] at hs31
    refine dOf 18 103 hg30 ?_
    refine dOf 19 103 hg30 ?_
    refine dOf 20 103 hg30 ?_
    refine dOf 21 103 hg30 ?_
    refine dOf 22 103 hg30 ?_
    refine dOf 23 103 hg30 ?_
    refine dOf 24 103 hg30 ?_
    refine dOf 25 103 hg30 ?_
    refine d_pon 26 99 rfl rfl rfl hg26 (p_pickf rfl rfl hg30 rfl) (by kernel_rfl) rfl rfl ?_
    refine d_p 27 rfl (p_pickf rfl rfl hg26 rfl) (by kernel_rfl) rfl rfl ?_
    refine dNi ?_
    exact s_joinI false (out_c hlo1 (by show ¬ 0 ≤ cmpK (j : Int) kl _; omega) (hhi.of_no (by omega))) aSx (fun w h => h.ent aEt)
   intro hg32
   have hs33 := hg32; try simp only [decide_eq_false_iff_not] at hs33
   refine dOf 4 89 hg32 ?_
   refine dOf 5 89 hg32 ?_
   refine dOf 6 89 hg32 ?_
   refine dOf 7 89 hg32 ?_
   refine dOf 8 89 hg32 ?_
   refine dOf 9 89 hg32 ?_
   refine dOf 10 89 hg32 ?_
   refine dOf 11 89 hg32 ?_
   refine d_p 12 rfl (p_pickf rfl rfl hg32 rfl) (by kernel_rfl) rfl rfl ?_
   refine dP 13 ?_
   apply d_split 99
   ·exact rfl
   ·intro hg34
    have hs35 := hg34; skip
    refine dOf 14 99 hg34 ?_
    refine dOf 15 99 hg34 ?_
    refine dOf 16 99 hg34 ?_
    refine dOf 17 99 hg34 ?_
    refine dOu 18 103 ?_
    refine dOu 19 103 ?_
    refine dOu 20 103 ?_
    refine dOu 21 103 ?_
    refine dOu 22 103 ?_
    refine dOu 23 103 ?_
    refine dOu 24 103 ?_
    refine dOu 25 103 ?_
    refine dOf 26 99 hg34 ?_
    refine d_p 27 rfl (p_pickt rfl rfl hg34 rfl) (by kernel_rfl) rfl rfl ?_
    refine dNi ?_
    exact s_joinI true (by exfalso; simp_all; done) aSx (fun w h => h.ent aEt)
   intro hg36
   have hs37 := hg36; skip
   refine dPo 14 99 hg36 ?_
   refine d_pon 15 99 rfl rfl rfl hg36 (p_len_slice rfl rfl Tryz.underlying174) (by kernel_rfl) rfl rfl ?_
   refine dPo 16 99 hg36 ?_
   refine dPo 17 99 hg36 ?_
   apply d_split 103
   ·exact rfl
   ·intro hg38
    have hs39 := hg38; try simp only [decide_eq_true_eq] at hs39
    refine dFo 18 103 hg38 ?_
    obtain ⟨kh, bh, oh, hhi1, hhi2, hhi3, hhi4⟩ := hhi.of_pos (by omega)
    refine d_qon 19 103 [] rfl rfl rfl hg38 (q_load rfl rfl sz_3 aPk rfl) (by kernel_rfl) (by kernel_rfl) (by kernel_rfl) rfl ?_
    refine dPo 20 103 hg38 ?_
    refine dPo 21 103 hg38 ?_
    refine d_pon 22 103 rfl rfl rfl hg38 (p_indexAddr rfl rfl rfl sl_174 (0) (by omega) (by omega) hhi3) (by kernel_rfl) rfl rfl ?_
    refine d_qon 23 103 [] rfl rfl rfl hg38 (q_load_old rfl rfl sz_9 (hhi4)) (by kernel_rfl) (by kernel_rfl) (by kernel_rfl) rfl ?_
    refine d_qon 24 103 [] rfl rfl rfl hg38 (q_call rfl fn_33 rfl (fun w1 h1 => c33 w1 j (nth (nth L v.i).es k).key kh hj (hE9 _ (mem_nth hk5)).1 (hkp _ hhi1).1 (hE9 _ (mem_nth hk5)).2 (hkp _ hhi1).2)) (by kernel_rfl) (by kernel_rfl) (by kernel_rfl) rfl ?_
    refine dPo 25 103 hg38 ?_
    refine d_pon 26 99 rfl rfl rfl hg36 (p_pickt rfl rfl hg38 rfl) (by kernel_rfl) rfl rfl ?_
    refine d_p 27 rfl (p_pickf rfl rfl hg36 rfl) (by kernel_rfl) rfl rfl ?_
    refine dNi ?_
    exact s_joinI (decide (cmpK (j : Int) (nth (nth L v.i).es k).key kh ≥ 0)) (out_d (t := (⟨(j : Int), mo, rm, pln L⟩ : Tre)) (hlo.of_no (by omega)) hhi1) aSx (fun w h => h.ent aEt)
   intro hg40
   have hs41 := hg40; try simp only [decide_eq_false_iff_not] at hs41
   refine dOf 18 103 hg40 ?_
   refine dOf 19 103 hg40 ?_
   refine dOf 20 103 hg40 ?_
   refine dOf 21 103 hg40 ?_
   refine dOf 22 103 hg40 ?_
   refine dOf 23 103 hg40 ?_
   refine dOf 24 103 hg40 ?_
   refine dOf 25 103 hg40 ?_
   refine d_pon 26 99 rfl rfl rfl hg36 (p_pickf rfl rfl hg40 rfl) (by kernel_rfl) rfl rfl ?_
   refine d_p 27 rfl (p_pickf rfl rfl hg36 rfl) (by kernel_rfl) rfl rfl ?_
   refine dNi ?_
   exact s_joinI false (out_e (hlo.of_no (by omega)) (hhi.of_no (by omega))) aSx (fun w h => h.ent aEt)
  intro x hx
  refine s_cond rfl (fun h42 => ?_) fun h42 => ?_
  ·skip
   have hV := visE_out (deep := deep) hgn (outs_hit hn hk5 (hx.1 h42))
   iterate 6 refine aS ?_
   exact s_retv (rs := [.tmp 10, .tmp 11]) rfl (.tmp rfl (.tmp rfl (.nil))) (fun w' h' => ⟨by rw [shp_head (by rw [hV]; decide), hV]; rfl, h'.below⟩)
  skip
  have hz3 : ¬ (outB (⟨(j : Int), mo, rm, pln L⟩ : Tre) v (nth (nth L v.i).es k)) = true := fun h9 => by have h8 := hx.2 h9; simp_all
  iterate 5 refine aS ?_
  try refine oWr ?_
  iterate 2 refine aS ?_
  exact s_backI (k + 1) (by omega) ⟨by omega, fun q hq => (Nat.lt_or_ge q k).elim (hk3 q) (fun h9 => by obtain rfl : q = k := (by omega); exact hz3)⟩ aSx (fun w h => h.ent aEt)
 try simp only [decide_eq_false_iff_not] at h21
 have hon : ¬ outsB (⟨(j : Int), mo, rm, pln L⟩ : Tre) v = true := outs_no hn (fun q hq => hk3 q (by have hq9 := hq; simp only [LNd.pl] at hq9; omega))
 refine s_exit_to rfl ?_
 iterate 8 refine aS ?_
 refine o_and 3 119 122 _ _ rfl
  (by
   intro hg43
   have hs44 := hg43; try simp only [decide_eq_true_eq] at hs44
   refine oOn 119 hg43 ?_
   refine aS ?_
   refine oOn 119 hg43 ?_
   refine aS ?_
   refine o_p (p_pickt rfl rfl hg43 rfl) rfl ?_
   refine aS ?_
   exact oJn 3 122)
  (by
   intro hg45
   have hs46 := hg45; try simp only [decide_eq_false_iff_not] at hs46
   refine oOf 119 hg45 ?_
   refine oOf 119 hg45 ?_
   refine o_p (p_pickf rfl rfl hg45 rfl) rfl ?_
   refine aS ?_
   exact oJn 3 122) ?_
 refine aS ?_
 refine s_cond rfl (fun h47 => ?_) fun h47 => ?_
 ·try simp only [Bool.and_eq_true, decide_eq_true_eq, Bool.not_eq_true', decide_eq_false_iff_not] at h47
  have hV := visE_22 (deep := deep) hgn hon (by rw [show ((⟨(j : Int), mo, rm, pln L⟩ : Tre)).ns = pln L from rfl, hn]; have hq := h47; simp only [LNd.pl]; omega)
  iterate 6 refine aS ?_
  exact s_retv (rs := [.tmp 10, .tmp 11]) rfl (.tmp rfl (.tmp rfl (.nil))) (fun w' h' => ⟨by rw [shp_head (by rw [hV]; decide), hV]; rfl, h'.below⟩)
 try simp only [Bool.and_eq_false_iff, decide_eq_false_iff_not, Bool.not_eq_false', decide_eq_true_eq] at h47
 have hV0 := visE_ok (deep := deep) hgn hon (by rw [show ((⟨(j : Int), mo, rm, pln L⟩ : Tre)).ns = pln L from rfl, hn]; have hq := h47; simp only [LNd.pl]; omega)
 iterate 7 refine aS ?_
 refine s_weaken (L' := [(1, _), (2, _), (3, _), (4, _), (5, _), (12, _), (13, _), (15, _)]) aSx (fun _ h => h) ?_
 refine s_loopI (α := Nat) [10, 11, 15, 16, 17, 18, 19, 124, 125, 126, 127, 128, 129, 130, 131, 132, 133, 134, 135, 136, 137, 138, 139, 140, 141, 142, 143, 144, 145, 146, 147, 148, 149, 150, 151, 152, 153, 154, 155, 156, 157, 158, 159, 160, 161, 162, 163, 164, 165, 166, 167, 168, 169, 170, 171, 172] (fun k => [(15, .int .i64 (k : Int))]) (fun _ => HS w [] [.blk b1 24 4 [.int .i64 (j : Int), .int .i64 mo, .int .i64 rm, .slice a L.length cap], .blk b2 102 3 (LNd.vals (nth L v.i))]) (fun k => k ≤ (nth L v.i).cs.length ∧ (shpF (⟨(j : Int), mo, rm, pln L⟩ : Tre) deep (visK (pln L) f v k)).2 = 0) (fun k => (nth L v.i).cs.length - k) 0 ⟨Nat.zero_le _, shp_K0 hV0⟩ aSx (fun w h => h.ent aEt) (fun k hx9 => ?_)
 obtain ⟨hk1, hk3⟩ := hx9
 iterate 9 refine aS ?_
 refine s_cond rfl (fun h48 => ?_) fun h48 => ?_
 ·try simp only [decide_eq_true_eq] at h48
  have hkl : k < (nth L v.i).cs.length := by omega
  have hkid := kid_in hT hi0 (k := k) (by rw [hn]; exact hkl)
  rw [hn, pln_len] at hkid
  simp only [LNd.pl] at hkid
  have hway2 := way_kid hway hi0 (k := k) (by rw [hn]; exact hkl) (by rw [hn]; simp only [LNd.pl]; omega)
  iterate 16 refine aS ?_
  refine s_cond rfl (fun h49 => ?_) fun h49 => ?_
  ·try simp only [decide_eq_true_eq] at h49
   have hk0 : 0 < k := by have hq := h49; omega
   iterate 5 refine aS ?_
   try refine oWr ?_
   refine o_p (p_indexAddr rfl rfl rfl sl_77 (k - 1) (by omega) (by omega) (Rw.some (hs.es hi) (by omega))) rfl ?_
   refine aS ?_
   refine o_q (q_load_old rfl rfl sz_9 (((hs.es hi).rdj 0 (i := k - 1) (by omega) rfl))) rfl ?_
   refine o_h (h_buildSlice (cs := [_]) rfl rfl sl_174 zr_9 rfl rfl rfl) rfl (fun b50 _ => ?_)
   iterate 11 refine aS ?_
   refine s_cond rfl (fun h51 => ?_) fun h51 => ?_
   ·try simp only [decide_eq_true_eq] at h51
    have hk9 : k < (nth L v.i).es.length := by have hq := h51; omega
    refine s_weaken (L' := [(1, _), (2, _), (3, _), (4, _), (5, _), (12, _), (13, _), (15, _), (16, _), (17, _)]) aSx (fun _ h => h) ?_
    iterate 4 refine aS ?_
    refine o_p (p_indexAddr rfl rfl rfl sl_77 (k) (by omega) (by omega) (Rw.some (hs.es hi) (by omega))) rfl ?_
    refine aS ?_
    refine o_q (q_load_old rfl rfl sz_9 (((hs.es hi).rdj 0 (i := k) (by omega) rfl))) rfl ?_
    refine o_h (h_buildSlice (cs := [_]) rfl rfl sl_174 zr_9 rfl rfl rfl) rfl (fun b52 _ => ?_)
    iterate 3 refine aS ?_
    refine s_draw [] mixed ?_
    refine dLn 0 [] ?_
    refine dFa 1 ?_
    refine dLd 2 [] ?_
    refine dP 3 ?_
    refine d_p 4 rfl (p_indexAddr rfl rfl rfl sl_30 (k) (by omega) (by omega) (Rw.some (hs.cs hi) (by omega))) (by kernel_rfl) rfl rfl ?_
    refine d_q 5 [] rfl (q_load_old rfl rfl sz_3 (((hs.cs hi).rdj 0 (i := k) hkl rfl))) (by kernel_rfl) (by kernel_rfl) (by kernel_rfl) rfl ?_
    refine d_slot (show _ = Value.int .i64 ((kidV (pln L) v k).i : Int) from by rw [kidV, hn]; exact congrArg (Value.int .i64) (Int.toNat_of_nonneg (show 0 ≤ (nth L v.i).cs.getD k 0 by omega)).symm) ?_
    refine dP 6 ?_
    refine dP 7 ?_
    try refine dWr ?_
    refine dP 8 ?_
    refine dP 9 ?_
    refine d_q 10 [] rfl (q_call rfl fn_87 rfl (fun w1 h1 => ih w1 (kidV (pln L) v k) (v.i :: P) (lv - 1) _ _ _ _ _ _ (hs.later h1) hj hmo hT hB h0 hway2 (by simp only [kidV, List.length_cons]; omega) (by simp only [kidV]; omega) (kok_lo hT hi0 (by rw [hn]; show k ≤ (nth L v.i).es.length; omega) hko) (kok_hi hT hi0 hkp) (by show StK w1 _ _ (loK (nth (pln L) v.i).es k v.lo); rw [hn]; show StK w1 _ _ (loK (nth L v.i).es k v.lo); first | (rw [loK_pos hk0]; exact StK.new (h1.rd_blk (Mc := []) aPk rfl (by simp))) | (rw [loK_no hk0]; exact hlo.later h1)) (by show StK w1 _ _ (hiK (nth (pln L) v.i).es k v.hi); rw [hn]; show StK w1 _ _ (hiK (nth L v.i).es k v.hi); first | (rw [hiK_pos hk9]; exact StK.new (h1.rd_blk (Mc := []) aPk rfl (by simp))) | (rw [hiK_no hk9]; exact hhi.later h1)) (by simp only [List.length_cons]; omega))) (by kernel_rfl) (by kernel_rfl) (by kernel_rfl) rfl ?_
    refine dP 11 ?_
    refine dP 12 ?_
    refine dP 13 ?_
    refine dP 14 ?_
    refine dP 15 ?_
    refine dNi ?_
    refine aS ?_
    refine s_weaken (L' := [(1, _), (2, _), (3, _), (4, _), (5, _), (12, _), (13, _), (15, _), (18, _), (19, _)]) aSx (fun _ h => h) ?_
    iterate 4 refine aS ?_
    refine s_cond rfl (fun h53 => ?_) fun h53 => ?_
    ·try simp only [Bool.not_eq_true', decide_eq_false_iff_not] at h53
     have hbad : shpF (⟨(j : Int), mo, rm, pln L⟩ : Tre) deep (vis (pln L) (f + 1) v) = shpF (⟨(j : Int), mo, rm, pln L⟩ : Tre) deep (vis (pln L) f (kidV (pln L) v k)) := by rw [visK_all, hn]; obtain ⟨B9, hB9⟩ := visK_more (pln L) f v (show k + 1 ≤ (nth L v.i).pl.cs.length by show k + 1 ≤ (nth L v.i).cs.length; omega); rw [hB9, visK_succ, List.append_assoc, shpF_app, if_pos hk3, shpF_app, if_neg h53]
     iterate 7 refine aS ?_
     exact s_retv (rs := [.tmp 10, .tmp 11]) rfl (.tmp rfl (.tmp rfl (.nil))) (fun w' h' => ⟨by rw [hbad]; rfl, h'.below⟩)
    try simp only [Bool.not_eq_false', decide_eq_true_eq] at h53
    have hgood : (shpF (⟨(j : Int), mo, rm, pln L⟩ : Tre) deep (visK (pln L) f v (k + 1))).2 = 0 := by rw [visK_succ, shpF_app, if_pos hk3]; have hq := h53; omega
    iterate 5 refine aS ?_
    try refine oWr ?_
    iterate 2 refine aS ?_
    exact s_backI (k + 1) (by omega) ⟨by omega, hgood⟩ aSx (fun w h => h.ent aEt)
   try simp only [decide_eq_false_iff_not] at h51
   have hk9 : ¬ k < (nth L v.i).es.length := by have hq := h51; omega
   iterate 2 refine aS ?_
   refine s_weaken (L' := [(1, _), (2, _), (3, _), (4, _), (5, _), (12, _), (13, _), (15, _), (16, _), (17, _)]) aSx (fun _ h => h) ?_
   refine s_draw [] mixed ?_
   refine dLn 0 [] ?_
   refine dFa 1 ?_
   refine dLd 2 [] ?_
   refine dP 3 ?_
   refine d_p 4 rfl (p_indexAddr rfl rfl rfl sl_30 (k) (by omega) (by omega) (Rw.some (hs.cs hi) (by omega))) (by kernel_rfl) rfl rfl ?_
   refine d_q 5 [] rfl (q_load_old rfl rfl sz_3 (((hs.cs hi).rdj 0 (i := k) hkl rfl))) (by kernel_rfl) (by kernel_rfl) (by kernel_rfl) rfl ?_
   refine d_slot (show _ = Value.int .i64 ((kidV (pln L) v k).i : Int) from by rw [kidV, hn]; exact congrArg (Value.int .i64) (Int.toNat_of_nonneg (show 0 ≤ (nth L v.i).cs.getD k 0 by omega)).symm) ?_
   refine dP 6 ?_
   refine dP 7 ?_
   try refine dWr ?_
   refine dP 8 ?_
   refine dP 9 ?_
   refine d_q 10 [] rfl (q_call rfl fn_87 rfl (fun w1 h1 => ih w1 (kidV (pln L) v k) (v.i :: P) (lv - 1) _ _ _ _ _ _ (hs.later h1) hj hmo hT hB h0 hway2 (by simp only [kidV, List.length_cons]; omega) (by simp only [kidV]; omega) (kok_lo hT hi0 (by rw [hn]; show k ≤ (nth L v.i).es.length; omega) hko) (kok_hi hT hi0 hkp) (by show StK w1 _ _ (loK (nth (pln L) v.i).es k v.lo); rw [hn]; show StK w1 _ _ (loK (nth L v.i).es k v.lo); first | (rw [loK_pos hk0]; exact StK.new (h1.rd_blk (Mc := []) aPk rfl (by simp))) | (rw [loK_no hk0]; exact hlo.later h1)) (by show StK w1 _ _ (hiK (nth (pln L) v.i).es k v.hi); rw [hn]; show StK w1 _ _ (hiK (nth L v.i).es k v.hi); first | (rw [hiK_pos hk9]; exact StK.new (h1.rd_blk (Mc := []) aPk rfl (by simp))) | (rw [hiK_no hk9]; exact hhi.later h1)) (by simp only [List.length_cons]; omega))) (by kernel_rfl) (by kernel_rfl) (by kernel_rfl) rfl ?_
   refine dP 11 ?_
   refine dP 12 ?_
   refine dP 13 ?_
   refine dP 14 ?_
   refine dP 15 ?_
   refine dNi ?_
   iterate 5 refine aS ?_
   refine s_cond rfl (fun h54 => ?_) fun h54 => ?_
   ·try simp only [Bool.not_eq_true', decide_eq_false_iff_not] at h54
    have hbad : shpF (⟨(j : Int), mo, rm, pln L⟩ : Tre) deep (vis (pln L) (f + 1) v) = shpF (⟨(j : Int), mo, rm, pln L⟩ : Tre) deep (vis (pln L) f (kidV (pln L) v k)) := by rw [visK_all, hn]; obtain ⟨B9, hB9⟩ := visK_more (pln L) f v (show k + 1 ≤ (nth L v.i).pl.cs.length by show k + 1 ≤ (nth L v.i).cs.length; omega); rw [hB9, visK_succ, List.append_assoc, shpF_app, if_pos hk3, shpF_app, if_neg h54]
    iterate 7 refine aS ?_
    exact s_retv (rs := [.tmp 10, .tmp 11]) rfl (.tmp rfl (.tmp rfl (.nil))) (fun w' h' => ⟨by rw [hbad]; rfl, h'.below⟩)
   try simp only [Bool.not_eq_false', decide_eq_true_eq] at h54
   have hgood : (shpF (⟨(j : Int), mo, rm, pln L⟩ : Tre) deep (visK (pln L) f v (k + 1))).2 = 0 := by rw [visK_succ, shpF_app, if_pos hk3]; have hq := h54; omega
   iterate 5 refine aS ?_
   try refine oWr ?_
   iterate 2 refine aS ?_
   exact s_backI (k + 1) (by omega) ⟨by omega, hgood⟩ aSx (fun w h => h.ent aEt)
  try simp only [decide_eq_false_iff_not] at h49
  have hk0 : ¬ 0 < k := by have hq := h49; omega
  iterate 10 refine aS ?_
  refine s_cond rfl (fun h55 => ?_) fun h55 => ?_
  ·try simp only [decide_eq_true_eq] at h55
   have hk9 : k < (nth L v.i).es.length := by have hq := h55; omega
   iterate 4 refine aS ?_
   refine o_p (p_indexAddr rfl rfl rfl sl_77 (k) (by omega) (by omega) (Rw.some (hs.es hi) (by omega))) rfl ?_
   refine aS ?_
   refine o_q (q_load_old rfl rfl sz_9 (((hs.es hi).rdj 0 (i := k) (by omega) rfl))) rfl ?_
   refine o_h (h_buildSlice (cs := [_]) rfl rfl sl_174 zr_9 rfl rfl rfl) rfl (fun b56 _ => ?_)
   iterate 3 refine aS ?_
   refine s_weaken (L' := [(1, _), (2, _), (3, _), (4, _), (5, _), (12, _), (13, _), (15, _), (16, _), (17, _)]) aSx (fun _ h => h) ?_
   refine s_draw [] mixed ?_
   refine dLn 0 [] ?_
   refine dFa 1 ?_
   refine dLd 2 [] ?_
   refine dP 3 ?_
   refine d_p 4 rfl (p_indexAddr rfl rfl rfl sl_30 (k) (by omega) (by omega) (Rw.some (hs.cs hi) (by omega))) (by kernel_rfl) rfl rfl ?_
   refine d_q 5 [] rfl (q_load_old rfl rfl sz_3 (((hs.cs hi).rdj 0 (i := k) hkl rfl))) (by kernel_rfl) (by kernel_rfl) (by kernel_rfl) rfl ?_
   refine d_slot (show _ = Value.int .i64 ((kidV (pln L) v k).i : Int) from by rw [kidV, hn]; exact congrArg (Value.int .i64) (Int.toNat_of_nonneg (show 0 ≤ (nth L v.i).cs.getD k 0 by omega)).symm) ?_
   refine dP 6 ?_
   refine dP 7 ?_
   try refine dWr ?_
   refine dP 8 ?_
   refine dP 9 ?_
   refine d_q 10 [] rfl (q_call rfl fn_87 rfl (fun w1 h1 => ih w1 (kidV (pln L) v k) (v.i :: P) (lv - 1) _ _ _ _ _ _ (hs.later h1) hj hmo hT hB h0 hway2 (by simp only [kidV, List.length_cons]; omega) (by simp only [kidV]; omega) (kok_lo hT hi0 (by rw [hn]; show k ≤ (nth L v.i).es.length; omega) hko) (kok_hi hT hi0 hkp) (by show StK w1 _ _ (loK (nth (pln L) v.i).es k v.lo); rw [hn]; show StK w1 _ _ (loK (nth L v.i).es k v.lo); first | (rw [loK_pos hk0]; exact StK.new (h1.rd_blk (Mc := []) aPk rfl (by simp))) | (rw [loK_no hk0]; exact hlo.later h1)) (by show StK w1 _ _ (hiK (nth (pln L) v.i).es k v.hi); rw [hn]; show StK w1 _ _ (hiK (nth L v.i).es k v.hi); first | (rw [hiK_pos hk9]; exact StK.new (h1.rd_blk (Mc := []) aPk rfl (by simp))) | (rw [hiK_no hk9]; exact hhi.later h1)) (by simp only [List.length_cons]; omega))) (by kernel_rfl) (by kernel_rfl) (by kernel_rfl) rfl ?_
   refine dP 11 ?_
   refine dP 12 ?_
   refine dP 13 ?_
   refine dP 14 ?_
   refine dP 15 ?_
   refine dNi ?_
   iterate 5 refine aS ?_
   refine s_cond rfl (fun h57 => ?_) fun h57 => ?_
   ·try simp only [Bool.not_eq_true', decide_eq_false_iff_not] at h57
    have hbad : shpF (⟨(j : Int), mo, rm, pln L⟩ : Tre) deep (vis (pln L) (f + 1) v) = shpF (⟨(j : Int), mo, rm, pln L⟩ : Tre) deep (vis (pln L) f (kidV (pln L) v k)) := by rw [visK_all, hn]; obtain ⟨B9, hB9⟩ := visK_more (pln L) f v (show k + 1 ≤ (nth L v.i).pl.cs.length by show k + 1 ≤ (nth L v.i).cs.length; omega); rw [hB9, visK_succ, List.append_assoc, shpF_app, if_pos hk3, shpF_app, if_neg h57]
    iterate 7 refine aS ?_
    exact s_retv (rs := [.tmp 10, .tmp 11]) rfl (.tmp rfl (.tmp rfl (.nil))) (fun w' h' => ⟨by rw [hbad]; rfl, h'.below⟩)
   try simp only [Bool.not_eq_false', decide_eq_true_eq] at h57
   have hgood : (shpF (⟨(j : Int), mo, rm, pln L⟩ : Tre) deep (visK (pln L) f v (k + 1))).2 = 0 := by rw [visK_succ, shpF_app, if_pos hk3]; have hq := h57; omega
   iterate 5 refine aS ?_
   try refine oWr ?_
   iterate 2 refine aS ?_
   exact s_backI (k + 1) (by omega) ⟨by omega, hgood⟩ aSx (fun w h => h.ent aEt)
  try simp only [decide_eq_false_iff_not] at h55
  have hk9 : ¬ k < (nth L v.i).es.length := by have hq := h55; omega
  iterate 2 refine aS ?_
  refine s_draw [] mixed ?_
  refine dLn 0 [] ?_
  refine dFa 1 ?_
  refine dLd 2 [] ?_
  refine dP 3 ?_
  refine d_p 4 rfl (p_indexAddr rfl rfl rfl sl_30 (k) (by omega) (by omega) (Rw.some (hs.cs hi) (by omega))) (by kernel_rfl) rfl rfl ?_
  refine d_q 5 [] rfl (q_load_old rfl rfl sz_3 (((hs.cs hi).rdj 0 (i := k) hkl rfl))) (by kernel_rfl) (by kernel_rfl) (by kernel_rfl) rfl ?_
  refine d_slot (show _ = Value.int .i64 ((kidV (pln L) v k).i : Int) from by rw [kidV, hn]; exact congrArg (Value.int .i64) (Int.toNat_of_nonneg (show 0 ≤ (nth L v.i).cs.getD k 0 by omega)).symm) ?_
  refine dP 6 ?_
  refine dP 7 ?_
  try refine dWr ?_
  refine dP 8 ?_
  refine dP 9 ?_
  refine d_q 10 [] rfl (q_call rfl fn_87 rfl (fun w1 h1 => ih w1 (kidV (pln L) v k) (v.i :: P) (lv - 1) _ _ _ _ _ _ (hs.later h1) hj hmo hT hB h0 hway2 (by simp only [kidV, List.length_cons]; omega) (by simp only [kidV]; omega) (kok_lo hT hi0 (by rw [hn]; show k ≤ (nth L v.i).es.length; omega) hko) (kok_hi hT hi0 hkp) (by show StK w1 _ _ (loK (nth (pln L) v.i).es k v.lo); rw [hn]; show StK w1 _ _ (loK (nth L v.i).es k v.lo); first | (rw [loK_pos hk0]; exact StK.new (h1.rd_blk (Mc := []) aPk rfl (by simp))) | (rw [loK_no hk0]; exact hlo.later h1)) (by show StK w1 _ _ (hiK (nth (pln L) v.i).es k v.hi); rw [hn]; show StK w1 _ _ (hiK (nth L v.i).es k v.hi); first | (rw [hiK_pos hk9]; exact StK.new (h1.rd_blk (Mc := []) aPk rfl (by simp))) | (rw [hiK_no hk9]; exact hhi.later h1)) (by simp only [List.length_cons]; omega))) (by kernel_rfl) (by kernel_rfl) (by kernel_rfl) rfl ?_
  refine dP 11 ?_
  refine dP 12 ?_
  refine dP 13 ?_
  refine dP 14 ?_
  refine dP 15 ?_
  refine dNi ?_
  refine aS ?_
  refine s_weaken (L' := [(1, _), (2, _), (3, _), (4, _), (5, _), (12, _), (13, _), (15, _), (18, _), (19, _)]) aSx (fun _ h => h) ?_
  iterate 4 refine aS ?_
  refine s_cond rfl (fun h58 => ?_) fun h58 => ?_
  ·try simp only [Bool.not_eq_true', decide_eq_false_iff_not] at h58
   have hbad : shpF (⟨(j : Int), mo, rm, pln L⟩ : Tre) deep (vis (pln L) (f + 1) v) = shpF (⟨(j : Int), mo, rm, pln L⟩ : Tre) deep (vis (pln L) f (kidV (pln L) v k)) := by rw [visK_all, hn]; obtain ⟨B9, hB9⟩ := visK_more (pln L) f v (show k + 1 ≤ (nth L v.i).pl.cs.length by show k + 1 ≤ (nth L v.i).cs.length; omega); rw [hB9, visK_succ, List.append_assoc, shpF_app, if_pos hk3, shpF_app, if_neg h58]
   iterate 7 refine aS ?_
   exact s_retv (rs := [.tmp 10, .tmp 11]) rfl (.tmp rfl (.tmp rfl (.nil))) (fun w' h' => ⟨by rw [hbad]; rfl, h'.below⟩)
  try simp only [Bool.not_eq_false', decide_eq_true_eq] at h58
  have hgood : (shpF (⟨(j : Int), mo, rm, pln L⟩ : Tre) deep (visK (pln L) f v (k + 1))).2 = 0 := by rw [visK_succ, shpF_app, if_pos hk3]; have hq := h58; omega
  iterate 5 refine aS ?_
  try refine oWr ?_
  iterate 2 refine aS ?_
  exact s_backI (k + 1) (by omega) ⟨by omega, hgood⟩ aSx (fun w h => h.ent aEt)
 try simp only [decide_eq_false_iff_not] at h48
 obtain rfl : k = (nth L v.i).cs.length := by omega
 have hfin : shpF (⟨(j : Int), mo, rm, pln L⟩ : Tre) deep (vis (pln L) (f + 1) v) = (0, 0) := by rw [visK_all, hn]; exact shpF_0 hk3
 refine s_exit_to rfl ?_
 iterate 5 refine aS ?_
 exact s_retv (rs := [.tmp 10, .tmp 11]) rfl (.tmp rfl (.tmp rfl (.nil))) (fun w' h' => ⟨by rw [hfin]; rfl, h'.below⟩)
theorem c87 (j : Nat) (mo rm : Int) (a : Option Addr) (cap : Nat) (L : List LNd) (deep : Int) : ∀ f, PlC j mo rm a cap L deep f
  | 0 => fun w v P lv pa qa pn pc qn qc hs hj hmo hT hB h0 hway hd hlv hko hkp hlo hhi hf => by
    have h1 := way_len hT (by rw [pln_len]; exact h0) hway
    rw [pln_len, List.length_cons] at h1
    omega
  | f + 1 => fun w v P lv pa qa pn pc qn qc hs hj hmo hT hB h0 hway hd hlv hko hkp hlo hhi hf => c87s w j mo rm a cap L deep v P lv pa qa pn pc qn qc f hs hj hmo hT hB h0 hway hd hlv hko hkp hlo hhi hf (c87 j mo rm a cap L deep f)
end Go.Proofs
namespace Gx
set_option linter.unusedSimpArgs false
set_option linter.unusedVariables false
set_option linter.unusedSectionVars false
open Go Go.RowKit
theorem treE_c {t : Tre} (h : ¬ colE12 t.co = 0) : treE t = (0, colE12 t.co) := by rw [treE_size (by rw [if_neg h]; exact h), if_neg h]
theorem treE_s {t : Tre} (h : colE12 t.co = 0) (h2 : ¬ sizE t.mo t.rm = 0) : treE t = (0, sizE t.mo t.rm) := by rw [treE_size (by rw [if_pos h]; exact h2), if_pos h]
theorem treE_l {t : Tre} (h : colE12 t.co = 0) (h2 : sizE t.mo t.rm = 0) (h3 : ¬ 0 < t.ns.length) : treE t = (0, 10) := by
  have e : lenE12 t.ns.length = 10 := if_neg h3
  rw [treE_len (by rw [if_pos h]; exact h2) (by rw [e]; decide), e]
theorem treE_g {t : Tre} (h : colE12 t.co = 0) (h2 : sizE t.mo t.rm = 0) (h3 : 0 < t.ns.length) (h4 : ¬ t.ns.length ≤ 120) : treE t = (0, 8) := by
  have e : lenE12 t.ns.length = 8 := by rw [lenE12, if_pos h3, if_neg h4]
  rw [treE_len (by rw [if_pos h]; exact h2) (by rw [e]; decide), e]
theorem treE_n {t : Tre} (h : colE12 t.co = 0) (h2 : sizE t.mo t.rm = 0) (h3 : 0 < t.ns.length) (h4 : t.ns.length ≤ 120) : treE t = if (nodsE t t.ns.length 0 []).2 = 0 then shapE t else nodsE t t.ns.length 0 [] := treE_nods (by rw [if_pos h]; exact h2) (by rw [lenE12, if_pos h3, if_pos h4])
theorem seen_nil (n : Nat) : zrow [Value.bool false] n = seenV n [] := by
  rw [zrow_one]
  apply List.ext_getElem?
  intro i
  by_cases hi : i < n
  · rw [seen_get hi, List.getElem?_replicate, if_pos hi]
    rfl
  · rw [List.getElem?_eq_none (by rw [List.length_replicate]; omega), List.getElem?_eq_none (by rw [seen_len]; omega)]
theorem open_mem {vs : List Vis} {k : Nat} : ((k : Nat) : Int) ∈ mkS vs [] ↔ k ∈ vs.map Vis.i := by
  rw [mkS_mem, List.mem_map]
  constructor
  · rintro ⟨v, hv, h⟩
    exact ⟨v, hv, by omega⟩
  · rintro ⟨v, hv, h⟩
    exact ⟨v, hv, by omega⟩
theorem deepT_le (ns : List Nd) : ∀ (f i : Nat), 0 ≤ deepT ns f i ∧ deepT ns f i ≤ f
  | 0, i => by rw [deepT]; omega
  | f + 1, i => by
    rw [deepT]
    split
    · omega
    · have := deepT_le ns f ((nth ns i).cs.getD 0 0).toNat
      omega
theorem deep_end {ns : List Nd} {f i : Nat} (h : (nth ns i).cs.length = 0) : deepT ns f i = 0 := by
  cases f with
  | zero => rfl
  | succ f => rw [deepT, if_pos h]
theorem deep_more {ns : List Nd} {f i : Nat} (h0 : 0 < f) (h : ¬ (nth ns i).cs.length = 0) : deepT ns f i = deepT ns (f - 1) ((nth ns i).cs.getD 0 0).toNat + 1 := by
  obtain ⟨g, rfl⟩ : ∃ g, f = g + 1 := ⟨f - 1, by omega⟩
  rw [deepT, if_neg h]
  rfl
end Gx
namespace Go.Proofs
open Go Go.RowKit Gx
set_option linter.unusedVariables false
set_option linter.unusedSimpArgs false
attribute [local irreducible] Go.Calls Gx.S Gx.O Gx.D Gx.OpP Gx.OpQ Gx.OpH
set_option maxRecDepth 20000
theorem fn_85 : isFn Tryz.prog 85 = true := by kernel_rfl
theorem fn_41 : isFn Tryz.prog 41 = true := by kernel_rfl
set_option maxHeartbeats 400000 in
theorem c41 (w : World) (co mo rm : Int) (a : Option Addr) (cap : Nat) (L : List LNd) (hs : Nt w [] a L) (hB : Bd (pln L)) (hkl : ∀ i, i < L.length → ∀ x ∈ (nth L i).es, x.key.length ≤ 1000000) : Calls Tryz.prog 41 #[.agg #[.int .i64 co, .int .i64 mo, .int .i64 rm, .slice a L.length cap]] w fun en w' => en = .returned (.tuple #[.int .i64 (treE (⟨co, mo, rm, pln L⟩ : Tre)).1, .int .i64 (treE (⟨co, mo, rm, pln L⟩ : Tre)).2]) ∧ Below w.heap.size w w' := by
 have hle := hB.len
 rw [pln_len] at hle
 have hes9 : ∀ i, i < L.length → (nth L i).es.length ≤ 1000 := fun i hi => by have h9 := hB.es i (by rw [pln_len]; exact hi); rw [pln_nth hi] at h9; exact h9
 have hcs9 : ∀ i, i < L.length → (nth L i).cs.length ≤ 1000 := fun i hi => by have h9 := hB.cs i (by rw [pln_len]; exact hi); rw [pln_nth hi] at h9; exact h9
 refine enter (args := [_]) Tryz.func41 Tryz.ntmps41 rfl rfl (HS.refl w []) ?_
 iterate 2 refine aS ?_
 refine oBx fun b1 _ => ?_
 iterate 8 refine aS ?_
 refine o_q (q_call rfl fn_30 rfl (fun w1 h1 => c30 w1 _)) rfl ?_
 iterate 7 refine aS ?_
 refine s_cond rfl (fun h2 => ?_) fun h2 => ?_
 ·try simp only [Bool.not_eq_true', decide_eq_false_iff_not] at h2
  have hz := treE_c (t := (⟨co, mo, rm, pln L⟩ : Tre)) h2
  iterate 6 refine aS ?_
  exact s_retv (rs := [.tmp 2, .tmp 3]) rfl (.tmp rfl (.tmp rfl (.nil))) (fun w' h' => ⟨by rw [hz]; rfl, h'.below⟩)
 try simp only [Bool.not_eq_false', decide_eq_true_eq] at h2
 have hc0 : colE12 co = 0 := by have hq := h2; omega
 obtain ⟨j, rfl, hj⟩ := col_ok hc0
 iterate 8 refine aS ?_
 refine o_q (q_call rfl fn_31 rfl (fun w1 h1 => c31 w1 _ _)) rfl ?_
 iterate 7 refine aS ?_
 refine s_cond rfl (fun h3 => ?_) fun h3 => ?_
 ·try simp only [Bool.not_eq_true', decide_eq_false_iff_not] at h3
  have hz := treE_s (t := (⟨(j : Int), mo, rm, pln L⟩ : Tre)) hc0 h3
  iterate 6 refine aS ?_
  exact s_retv (rs := [.tmp 2, .tmp 3]) rfl (.tmp rfl (.tmp rfl (.nil))) (fun w' h' => ⟨by rw [hz]; rfl, h'.below⟩)
 try simp only [Bool.not_eq_false', decide_eq_true_eq] at h3
 have hc1 : sizE mo rm = 0 := by have hq := h3; omega
 have hsz2 : (3 ≤ mo ∧ mo ≤ 8) ∧ (mo / 2 ≤ rm ∧ rm ≤ mo) := sizE_0 hc1
 have hTL : ((⟨(j : Int), mo, rm, pln L⟩ : Tre)).ns.length = L.length := pln_len L
 iterate 9 refine aS ?_
 refine s_cond rfl (fun h4 => ?_) fun h4 => ?_
 ·try simp only [decide_eq_true_eq] at h4
  have hz := treE_l (t := (⟨(j : Int), mo, rm, pln L⟩ : Tre)) hc0 hc1 (by rw [hTL]; have hq := h4; omega)
  iterate 5 refine aS ?_
  exact s_retv (rs := [.tmp 2, .tmp 3]) rfl (.tmp rfl (.tmp rfl (.nil))) (fun w' h' => ⟨by rw [hz]; rfl, h'.below⟩)
 try simp only [decide_eq_false_iff_not] at h4
 have h00 : 0 < L.length := by have hq := h4; omega
 iterate 9 refine aS ?_
 refine s_cond rfl (fun h5 => ?_) fun h5 => ?_
 ·try simp only [decide_eq_true_eq] at h5
  have hz := treE_g (t := (⟨(j : Int), mo, rm, pln L⟩ : Tre)) hc0 hc1 (by rw [hTL]; exact h00) (by rw [hTL]; have hq := h5; omega)
  iterate 5 refine aS ?_
  exact s_retv (rs := [.tmp 2, .tmp 3]) rfl (.tmp rfl (.tmp rfl (.nil))) (fun w' h' => ⟨by rw [hz]; rfl, h'.below⟩)
 try simp only [decide_eq_false_iff_not] at h5
 have h120 : L.length ≤ 120 := by have hq := h5; omega
 have hz := treE_n (t := (⟨(j : Int), mo, rm, pln L⟩ : Tre)) hc0 hc1 (by rw [hTL]; exact h00) (by rw [hTL]; exact h120)
 rw [hTL] at hz
 iterate 6 refine aS ?_
 refine o_h (h_make (n := L.length) rfl rfl rfl sl_140 zr_4 (by omega) (by omega)) rfl (fun b6 _ => ?_)
 refine o_class (fun w h => (show HS _ _ [.blk b6 4 L.length (seenV L.length []), .blk b1 24 4 [.int .i64 (j : Int), .int .i64 mo, .int .i64 rm, .slice a L.length cap]] w from by have h9 := h; rw [Nat.mul_one, seen_nil] at h9; exact h9.ent aEt)) ?_
 iterate 4 refine aS ?_
 refine s_weaken (L' := [(1, _), (2, _), (3, _), (6, _)]) aSx (fun _ h => h) ?_
 iterate 4 refine aS ?_
 refine s_loopI (α := Nat × List Int) [2, 3, 7, 8, 39, 40, 41, 42, 43, 44, 45, 46, 47, 48, 49, 50, 51, 52, 53] (fun x => [(7, .int .i64 (x.1 : Int))]) (fun x => HS w [] [.blk b6 4 L.length (seenV L.length x.2), .blk b1 24 4 [.int .i64 (j : Int), .int .i64 mo, .int .i64 rm, .slice a L.length cap]]) (fun x => x.1 ≤ L.length ∧ (nodsE (⟨(j : Int), mo, rm, pln L⟩ : Tre) L.length 0 []) = nodsE (⟨(j : Int), mo, rm, pln L⟩ : Tre) (L.length - x.1) x.1 x.2) (fun x => L.length - x.1) (0, []) ⟨Nat.zero_le _, rfl⟩ aSx (fun w h => h.ent aEt) (fun ⟨k, S9⟩ hx => ?_)
 dsimp only
 obtain ⟨hk1, hk3⟩ := hx
 simp only [] at hk1 hk3
 iterate 9 refine aS ?_
 refine s_cond rfl (fun h7 => ?_) fun h7 => ?_
 ·try simp only [decide_eq_true_eq] at h7
  have hkl9 : k < L.length := by omega
  have hst := nodsE_step (t := (⟨(j : Int), mo, rm, pln L⟩ : Tre)) (k := k) (seen := S9) (by rw [hTL]; exact hkl9)
  rw [hTL] at hst
  iterate 8 refine aS ?_
  refine o_h (h_callF (Cs := [.blk b6 4 L.length (seenV L.length S9)]) rfl fn_85 rfl aPs (fun w1 h1 hf => c85 w1 j mo rm a cap L k b6 L.length L.length S9 hf ((hs.keep h1).mono (fps_pick aPs)) hj hkl9 (by omega) (hes9 _ hkl9) (hcs9 _ hkl9) (hkl _ hkl9))) rfl (fun _ _ => ?_)
  iterate 7 refine aS ?_
  refine s_cond rfl (fun h8 => ?_) fun h8 => ?_
  ·try simp only [Bool.not_eq_true', decide_eq_false_iff_not] at h8
   have hz3 : (nodsE (⟨(j : Int), mo, rm, pln L⟩ : Tre) L.length 0 []) = ((k : Int), (nodE (⟨(j : Int), mo, rm, pln L⟩ : Tre) k S9).1) := by rw [hk3, hst, if_neg h8]
   rw [hz3, if_neg (show ¬ (((k : Int), (nodE (⟨(j : Int), mo, rm, pln L⟩ : Tre) k S9).1) : Int × Int).2 = 0 from h8)] at hz
   iterate 7 refine aS ?_
   exact s_retv (rs := [.tmp 2, .tmp 3]) rfl (.tmp rfl (.tmp rfl (.nil))) (fun w' h' => ⟨by rw [hz]; rfl, h'.below⟩)
  try simp only [Bool.not_eq_false', decide_eq_true_eq] at h8
  have hz3 : nodsE (⟨(j : Int), mo, rm, pln L⟩ : Tre) (L.length - k) k S9 = nodsE (⟨(j : Int), mo, rm, pln L⟩ : Tre) (L.length - (k + 1)) (k + 1) (nodE (⟨(j : Int), mo, rm, pln L⟩ : Tre) k S9).2 := by rw [hst, if_pos (by have hq := h8; omega)]
  iterate 5 refine aS ?_
  try refine oWr ?_
  iterate 2 refine aS ?_
  exact s_backI (k + 1, (nodE (⟨(j : Int), mo, rm, pln L⟩ : Tre) k S9).2) (by (try simp only []); omega) ⟨by (try simp only []); omega, by simp only []; rw [hk3, hz3]⟩ aSx (fun w h => h.ent aEt)
 try simp only [decide_eq_false_iff_not] at h7
 have hnd : (nodsE (⟨(j : Int), mo, rm, pln L⟩ : Tre) L.length 0 []) = (0, 0) := by rw [hk3, show L.length - k = 0 by omega]; rfl
 rw [hnd, if_pos rfl] at hz
 have hT : TOk (j : Int) (pln L) := tok_of (t := (⟨(j : Int), mo, rm, pln L⟩ : Tre)) (by show (nodsE (⟨(j : Int), mo, rm, pln L⟩ : Tre) (pln L).length 0 []).2 = 0; rw [pln_len, hnd])
 have hvis : vis (pln L) L.length root0 = visT (pln L) := by unfold visT; rw [pln_len]
 refine s_exit_to rfl ?_
 iterate 5 refine aS ?_
 refine o_h (h_make (n := L.length) rfl rfl rfl sl_140 zr_4 (by omega) (by omega)) rfl (fun b9 _ => ?_)
 refine o_class (fun w h => (show HS _ _ [.blk b9 4 L.length (seenV L.length []), .blk b1 24 4 [.int .i64 (j : Int), .int .i64 mo, .int .i64 rm, .slice a L.length cap]] w from by have h9 := h; rw [Nat.mul_one, seen_nil] at h9; exact h9.ent aEt)) ?_
 iterate 6 refine aS ?_
 refine o_h (h_callF (Cs := [.blk b9 4 L.length (seenV L.length [])]) rfl fn_86 rfl aPs (fun w1 h1 hf => c86 j mo rm a cap L b9 L.length L.length L.length w1 [] root0 [] hf ((hs.keep h1).mono (fps_pick aPs)) hT hB h00 rfl (by simp))) rfl (fun _ _ => ?_)
 iterate 7 refine aS ?_
 refine s_weaken (L' := [(1, _), (6, _), (7, _), (9, _), (10, _)]) aSx (fun _ h => h) ?_
 refine s_loopI (α := Nat) [2, 3, 10, 61, 62, 63, 64, 65, 66, 67, 68, 69, 70, 71, 72, 73, 74, 75, 76, 77, 78, 79, 80, 81] (fun k => [(10, .int .i64 (k : Int))]) (fun _ => HS w [] [.blk b9 4 L.length (seenV L.length (mkS (vis (pln L) L.length root0) [])), .blk b1 24 4 [.int .i64 (j : Int), .int .i64 mo, .int .i64 rm, .slice a L.length cap]]) (fun k => k ≤ L.length ∧ opnF (pln L) ((visT (pln L)).map Vis.i) L.length 0 = opnF (pln L) ((visT (pln L)).map Vis.i) (L.length - k) k) (fun k => L.length - k) 0 ⟨Nat.zero_le _, rfl⟩ aSx (fun w h => h.ent aEt) (fun k hx => ?_)
 obtain ⟨hk1, hk2⟩ := hx
 iterate 9 refine aS ?_
 refine s_cond rfl (fun h10 => ?_) fun h10 => ?_
 ·try simp only [decide_eq_true_eq] at h10
  have hkl9 : k < L.length := by omega
  have hst := opnF_step (ns := pln L) (below := ((visT (pln L)).map Vis.i)) (k := k) (by rw [pln_len]; exact hkl9)
  rw [pln_len, pln_nth hkl9] at hst
  iterate 8 refine aS ?_
  refine o_p (p_indexAddr rfl rfl rfl sl_22 (k) (by omega) (by omega) (Rw.some hs.1 (by omega))) rfl ?_
  refine aS ?_
  refine o_q (q_load_old rfl rfl sz_4 ((hs.1.rdj 0 hkl9 rfl))) rfl ?_
  refine aS ?_
  refine o_and 6 74 80 _ _ rfl
   (by
    intro hg11
    have hs12 := hg11; skip
    refine oOn 74 hg11 ?_
    refine aS ?_
    refine oOn 74 hg11 ?_
    refine aS ?_
    refine oOn 74 hg11 ?_
    refine o_p (p_indexAddr rfl rfl rfl sl_140 (k) (by omega) (by omega) rfl) rfl ?_
    refine o_slot (show _ = Value.pointer (some ⟨b9, k, none⟩) from by rw [Nat.zero_add, Nat.mul_one]) ?_
    refine oOn 74 hg11 ?_
    refine o_q (q_load_at rfl rfl sz_4 (fun w h => h.rd_blk (Mc := []) aPk (seen_get hkl9) (by simp))) rfl ?_
    refine oOn 74 hg11 ?_
    refine aS ?_
    refine o_p (p_pickt rfl rfl hg11 rfl) rfl ?_
    refine aS ?_
    exact oJn 6 80)
   (by
    intro hg13
    have hs14 := hg13; skip
    refine oOf 74 hg13 ?_
    refine oOf 74 hg13 ?_
    refine oOf 74 hg13 ?_
    refine oOf 74 hg13 ?_
    refine oOf 74 hg13 ?_
    refine o_p (p_pickf rfl rfl hg13 rfl) rfl ?_
    refine aS ?_
    exact oJn 6 80) ?_
  refine aS ?_
  refine s_cond rfl (fun h15 => ?_) fun h15 => ?_
  ·try simp only [Bool.and_eq_true, Bool.not_eq_true', decide_eq_false_iff_not] at h15
   have hz7 : (nth L k).pl.us = true ∧ k ∉ ((visT (pln L)).map Vis.i) := by have hq := h15; rw [← open_mem, ← hvis]; simp only [LNd.pl]; simpa using hq
   have hz8 := hz.trans (shapE_some (t := (⟨(j : Int), mo, rm, pln L⟩ : Tre)) (i := k) (show opnF (pln L) _ (pln L).length 0 = some k from by rw [pln_len, hk2, hst, if_pos hz7]))
   iterate 6 refine aS ?_
   exact s_retv (rs := [.tmp 2, .tmp 3]) rfl (.tmp rfl (.tmp rfl (.nil))) (fun w' h' => ⟨by rw [hz8]; rfl, h'.below⟩)
  try simp only [Bool.and_eq_false_iff, Bool.not_eq_false', decide_eq_true_eq] at h15
  have hz7 : ¬ ((nth L k).pl.us = true ∧ k ∉ ((visT (pln L)).map Vis.i)) := by have hq := h15; rw [← open_mem, ← hvis]; simp only [LNd.pl]; intro h9; exact hq.elim (fun h8 => by rw [h8] at h9; cases h9.1) (fun h8 => h9.2 h8)
  iterate 5 refine aS ?_
  try refine oWr ?_
  iterate 2 refine aS ?_
  exact s_backI (k + 1) (by omega) ⟨by omega, by rw [hk2, hst, if_neg hz7]⟩ aSx (fun w h => h.ent aEt)
 try simp only [decide_eq_false_iff_not] at h10
 have hnone : opnF (pln L) ((visT (pln L)).map Vis.i) L.length 0 = none := by rw [hk2, show L.length - k = 0 by omega]; rfl
 have hz8 := hz.trans (shapE_none (t := (⟨(j : Int), mo, rm, pln L⟩ : Tre)) (show opnF (pln L) _ (pln L).length 0 = none from by rw [pln_len]; exact hnone))
 refine s_exit_to rfl ?_
 iterate 10 refine aS ?_
 refine s_loopI (α := Nat × Nat × List Nat) [11, 12, 82, 83, 84, 85, 86, 87, 88, 89, 90, 91, 92, 93, 94, 95, 96, 97, 98, 99] (fun y => [(11, .int .i64 (y.1 : Int)), (12, .int .i64 (y.2.1 : Int))]) (fun _ => HS w [] [.blk b1 24 4 [.int .i64 (j : Int), .int .i64 mo, .int .i64 rm, .slice a L.length cap]]) (fun y => Gx.Way (pln L) (y.2.1 :: y.2.2) ∧ y.2.2.length = y.1 ∧ deepT (pln L) L.length 0 = (y.1 : Int) + deepT (pln L) (L.length - y.1) y.2.1) (fun y => L.length - y.1) (0, 0, []) ⟨rfl, rfl, by simp⟩ aSx (fun w h => h.ent aEt) (fun ⟨d, i, P⟩ hx => ?_)
 dsimp only
 obtain ⟨hway, hpl, hdp⟩ := hx
 simp only [] at hway hpl hdp
 have hil0 := way_lt hT (by rw [pln_len]; exact h00) hway i (List.mem_cons_self ..)
 have hil : i < L.length := by rw [pln_len] at hil0; exact hil0
 have hnI := pln_nth hil
 have hwl := way_len hT (by rw [pln_len]; exact h00) hway
 rw [pln_len, List.length_cons] at hwl
 have hcl := hcs9 i hil
 iterate 6 refine aS ?_
 refine o_p (p_indexAddr rfl rfl rfl sl_22 (i) (by omega) (by omega) (Rw.some hs.1 (by omega))) rfl ?_
 refine aS ?_
 refine o_q (q_load_old rfl rfl sz_30 ((hs.1.rdj 2 hil rfl))) rfl ?_
 iterate 3 refine aS ?_
 refine s_cond rfl (fun h16 => ?_) fun h16 => ?_
 ·try simp only [decide_eq_true_eq] at h16
  have hcl0 : 0 < (nth L i).cs.length := by have hq := h16; omega
  have hkid := kid_in hT (by rw [pln_len]; exact hil) (i := i) (k := 0) (by rw [hnI]; exact hcl0)
  rw [hnI, pln_len] at hkid
  simp only [LNd.pl] at hkid
  have hway2 := way_kid hway (by rw [pln_len]; exact hil) (k := 0) (by rw [hnI]; exact hcl0) (by rw [hnI]; simp only [LNd.pl]; omega)
  rw [hnI] at hway2
  have hwl2 := way_len hT (by rw [pln_len]; exact h00) hway2
  rw [pln_len, List.length_cons, List.length_cons] at hwl2
  have hdm := deep_more (ns := pln L) (f := L.length - d) (i := i) (by omega) (by rw [hnI]; show ¬ (nth L i).cs.length = 0; omega)
  rw [hnI] at hdm
  iterate 7 refine aS ?_
  refine o_p (p_indexAddr rfl rfl rfl sl_22 (i) (by omega) (by omega) (Rw.some hs.1 (by omega))) rfl ?_
  refine aS ?_
  refine o_q (q_load_old rfl rfl sz_30 ((hs.1.rdj 2 hil rfl))) rfl ?_
  refine o_p (p_indexAddr rfl rfl rfl sl_30 (0) (by omega) (by omega) (Rw.some (hs.cs hil) (by omega))) rfl ?_
  refine o_q (q_load_old rfl rfl sz_3 (((hs.cs hil).rdj 0 (i := 0) (by omega) rfl))) rfl ?_
  refine o_slot (show _ = Value.int .i64 (((nth L i).cs.getD 0 0).toNat : Int) from congrArg (Value.int .i64) (Int.toNat_of_nonneg (show 0 ≤ (nth L i).cs.getD 0 0 by omega)).symm) ?_
  iterate 6 refine aS ?_
  try refine oWr ?_
  iterate 2 refine aS ?_
  exact s_backI (d + 1, ((nth L i).cs.getD 0 0).toNat, i :: P) (by (try simp only []); omega) ⟨hway2, by simp [hpl], by simp only [] at *; rw [show L.length - (d + 1) = L.length - d - 1 by omega]; have h9 : (nth L i).pl.cs = (nth L i).cs := rfl; rw [h9] at hdm; omega⟩ aSx (fun w h => h.ent aEt)
 try simp only [decide_eq_false_iff_not] at h16
 have hde := deep_end (ns := pln L) (f := L.length - d) (i := i) (by rw [hnI]; show (nth L i).cs.length = 0; have hq := h16; omega)
 rw [hde, Int.add_zero] at hdp
 have hdl := deepT_le (pln L) L.length 0
 refine s_exit_to rfl ?_
 iterate 4 refine aS ?_
 refine o_q (q_call rfl fn_87 rfl (fun w1 h1 => c87 j mo rm a cap L (d : Int) L.length w1 root0 [] (d : Int) none none 0 0 0 0 (hs.later h1) hj (by omega) hT hB h00 rfl rfl (by show (d : Int) = d + 1 - 1; omega) (fun _ h => by cases h) (fun _ h => by cases h) rfl rfl (by simp))) rfl ?_
 iterate 5 refine aS ?_
 exact s_retv (rs := [.tmp 2, .tmp 3]) rfl (.tmp rfl (.tmp rfl (.nil))) (fun w' h' => ⟨by rw [hz8, show deepT ((⟨(j : Int), mo, rm, pln L⟩ : Tre)).ns ((⟨(j : Int), mo, rm, pln L⟩ : Tre)).ns.length 0 = (d : Int) from by rw [hTL]; exact hdp, show visT ((⟨(j : Int), mo, rm, pln L⟩ : Tre)).ns = vis (pln L) L.length root0 from hvis.symm]; rfl, h'.below⟩)
theorem c18 (w : World) (co mo rm : Int) (a : Option Addr) (cap : Nat) (L : List LNd) (hs : Nt w [] a L) (hB : Bd (pln L)) (hkl : ∀ i, i < L.length → ∀ x ∈ (nth L i).es, x.key.length ≤ 1000000) : Calls Tryz.prog 18 #[.agg #[.int .i64 co, .int .i64 mo, .int .i64 rm, .slice a L.length cap]] w fun en w' => en = .returned (.int .i64 (treE (⟨co, mo, rm, pln L⟩ : Tre)).2) ∧ Below w.heap.size w w' := by
 refine enter (args := [_]) Tryz.func18 Tryz.ntmps18 rfl rfl (HS.refl w []) ?_
 iterate 2 refine aS ?_
 refine oBx fun b1 _ => ?_
 iterate 5 refine aS ?_
 refine o_q (q_call rfl fn_41 rfl (fun w1 h1 => c41 w1 co mo rm a cap L (hs.later h1) hB hkl)) rfl ?_
 iterate 11 refine aS ?_
 exact s_retv (rs := [.tmp 2]) rfl (.tmp rfl (.nil)) (fun w' h' => ⟨by rfl, h'.below⟩)
end Go.Proofs
namespace Gx
set_option linter.unusedSimpArgs false
set_option linter.unusedVariables false
set_option linter.unusedSectionVars false
open Go Go.RowKit
def tslimB (x : TEnt) : Bool := decide (x.key.length ≤ 44 ∧ x.val.length ≤ 70)
def tshortB (es : List TEnt) : Bool := es.all tslimB
def tfewN (n : Nd) : Bool := decide (n.es.length ≤ 10 ∧ n.cs.length ≤ 11) && tshortB n.es
def tfewB (ns : List Nd) : Bool := decide (ns.length ≤ 122 ∧ ¬ (60 < ns.length ∧ ns.length ≤ 120)) && ns.all tfewN
theorem tfewN_t {n : Nd} (h1 : n.es.length ≤ 10) (h2 : n.cs.length ≤ 11) (h3 : tshortB n.es = true) : tfewN n = true := by
  rw [tfewN, decide_eq_true (And.intro h1 h2), h3]
  rfl
theorem tfewN_f {n : Nd} (h : (10 < n.es.length ∨ 11 < n.cs.length) ∨ tshortB n.es = false) : ¬ tfewN n = true := fun h9 => by
  rw [tfewN, Bool.and_eq_true, decide_eq_true_eq] at h9
  rcases h with h | h
  · omega
  · rw [h] at h9
    cases h9.2
theorem tshortB_t {es : List TEnt} (h : ∀ q, q < es.length → tslimB (nth es q) = true) : tshortB es = true := by
  refine List.all_eq_true.2 fun x hx => ?_
  obtain ⟨q, hq, e⟩ := List.getElem_of_mem hx
  have e2 : nth es q = x := nth_eq (by rw [List.getElem?_eq_getElem hq, e])
  rw [← e2]
  exact h q hq
theorem tshortB_f {es : List TEnt} {k : Nat} (hk : k < es.length) (h : ¬ tslimB (nth es k) = true) : tshortB es = false := by
  cases e : tshortB es
  · rfl
  · exact absurd (List.all_eq_true.1 e _ (mem_nth hk)) h
theorem tfewB_t {ns : List Nd} (h0 : ns.length ≤ 122 ∧ ¬ (60 < ns.length ∧ ns.length ≤ 120)) (h : ∀ q, q < ns.length → tfewN (nth ns q) = true) : tfewB ns = true := by
  rw [tfewB, decide_eq_true h0, Bool.true_and]
  refine List.all_eq_true.2 fun x hx => ?_
  obtain ⟨q, hq, e⟩ := List.getElem_of_mem hx
  have e2 : nth ns q = x := nth_eq (by rw [List.getElem?_eq_getElem hq, e])
  rw [← e2]
  exact h q hq
theorem tfewB_f {ns : List Nd} {k : Nat} (hk : k < ns.length) (h : ¬ tfewN (nth ns k) = true) : tfewB ns = false := by
  cases e : tfewB ns
  · rfl
  · rw [tfewB, Bool.and_eq_true] at e
    exact absurd (List.all_eq_true.1 e.2 _ (mem_nth hk)) h
theorem tfewB_n {ns : List Nd} (h : ¬ (ns.length ≤ 122 ∧ ¬ (60 < ns.length ∧ ns.length ≤ 120))) : tfewB ns = false := by
  rw [tfewB, decide_eq_false h, Bool.false_and]
theorem tfew_len {ns : List Nd} (h : tfewB ns = true) : ns.length ≤ 122 := by
  rw [tfewB, Bool.and_eq_true, decide_eq_true_eq] at h
  exact h.1.1
theorem tfew_nd {ns : List Nd} (h : tfewB ns = true) {k : Nat} (hk : k < ns.length) : (nth ns k).es.length ≤ 10 ∧ (nth ns k).cs.length ≤ 11 ∧ ∀ x ∈ (nth ns k).es, x.key.length ≤ 44 ∧ x.val.length ≤ 70 := by
  rw [tfewB, Bool.and_eq_true] at h
  have h2 := List.all_eq_true.1 h.2 _ (mem_nth hk)
  rw [tfewN, Bool.and_eq_true, decide_eq_true_eq] at h2
  refine ⟨h2.1.1, h2.1.2, fun x hx => ?_⟩
  have h3 := List.all_eq_true.1 h2.2 _ hx
  rw [tslimB, decide_eq_true_eq] at h3
  exact h3
theorem tfew_bd {ns : List Nd} (h : tfewB ns = true) : Bd ns where
  len := Nat.le_trans (tfew_len h) (by decide)
  es i hi := Nat.le_trans (tfew_nd h hi).1 (by decide)
  cs i hi := Nat.le_trans (tfew_nd h hi).2.1 (by decide)
theorem tfew_sm {ns : List Nd} (h : tfewB ns = true) : Sm 1000 ns := fun k => by
  rcases Nat.lt_or_ge k ns.length with hk | hk
  · exact ⟨Nat.le_trans (tfew_nd h hk).1 (by decide), Nat.le_trans (tfew_nd h hk).2.1 (by decide)⟩
  · rw [nth_out hk]
    exact ⟨Nat.zero_le _, Nat.zero_le _⟩
theorem tfew_keys {L : List LNd} (h : tfewB (pln L) = true) : ∀ i, i < L.length → ∀ x ∈ (nth L i).es, x.key.length ≤ 1000000 := fun i hi x hx => by
  have h2 := (tfew_nd h (k := i) (by rw [pln_len]; exact hi)).2.2 x (by rw [pln_nth hi]; exact hx)
  omega
theorem last_cons {i : Nat} {P : List Nat} (h : 0 < P.length) : lastN (i :: P) = lastN P := by
  cases P with
  | nil => exact absurd h (Nat.lt_irrefl _)
  | cons p P =>
    unfold lastN
    rw [show (i :: p :: P).length - 1 = (p :: P).length - 1 + 1 by simp]
    rfl
theorem pth_end {co : Int} {ns : List Nd} (hT : TOk co ns) (h0 : 0 < ns.length) (key : List UInt8) : ∀ (f i : Nat) (P : List Nat), Way ns (i :: P) → P.length + f = ns.length → 0 < (pthN co ns key f i).1.length ∧ (pthN co ns key f i).1.length ≤ f ∧ lastN (pthN co ns key f i).1 < ns.length ∧ (pthN co ns key f i).2.1 = plc co (nth ns (lastN (pthN co ns key f i).1)).es key ∧ (pthN co ns key f i).2.2 = fnd co (nth ns (lastN (pthN co ns key f i).1)).es key
  | 0, i, P, hw, hf => by
    have := way_len hT h0 hw
    rw [List.length_cons] at this
    omega
  | f + 1, i, P, hw, hf => by
    by_cases h : fnd co (nth ns i).es key = true ∨ (nth ns i).cs.length = 0
    · rw [pthN, if_pos h]
      exact ⟨Nat.one_pos, Nat.le_add_left 1 f, way_lt hT h0 hw i (List.mem_cons_self ..), rfl, rfl⟩
    · rw [pthN, if_neg h]
      have hi := way_lt hT h0 hw i (List.mem_cons_self ..)
      have hc : (nth ns i).cs.length = (nth ns i).es.length + 1 := by
        rcases hT.shape i hi with h9 | h9
        · exact absurd (.inr h9) h
        · exact h9
      have hk : plc co (nth ns i).es key < (nth ns i).cs.length := by
        have := plc_le co key (nth ns i).es
        omega
      have hkid := kid_in hT hi hk
      have ih := pth_end hT h0 key f ((nth ns i).cs.getD (plc co (nth ns i).es key) 0).toNat (i :: P) (way_kid hw hi hk (by omega)) (by rw [List.length_cons]; omega)
      simp only []
      rw [last_cons ih.1]
      exact ⟨by rw [List.length_cons]; omega, by rw [List.length_cons]; omega, ih.2.2⟩
theorem path_end {co : Int} {ns : List Nd} (hT : TOk co ns) (h0 : 0 < ns.length) (key : List UInt8) : 0 < (pathN co ns key).1.length ∧ (pathN co ns key).1.length ≤ ns.length ∧ lastN (pathN co ns key).1 < ns.length ∧ (pathN co ns key).2.1 = plc co (nth ns (lastN (pathN co ns key).1)).es key ∧ (pathN co ns key).2.2 = fnd co (nth ns (lastN (pathN co ns key).1)).es key := pth_end hT h0 key ns.length 0 [] rfl (by simp)
def entN (co : Int) (ns : List Nd) (key : List UInt8) : TEnt := nth (nth ns (lastN (pathN co ns key).1)).es (pathN co ns key).2.1
end Gx
namespace Go.Proofs
open Go Go.RowKit Gx
set_option linter.unusedVariables false
set_option linter.unusedSimpArgs false
attribute [local irreducible] Go.Calls Gx.S Gx.O Gx.D Gx.OpP Gx.OpQ Gx.OpH
set_option maxRecDepth 20000
theorem fn_15 : isFn Tryz.prog 15 = true := by kernel_rfl
theorem fn_43 : isFn Tryz.prog 43 = true := by kernel_rfl
theorem c15 (w : World) (x : TEnt) : Calls Tryz.prog 15 #[.agg #[.string (bs x.key), .string (bs x.val)]] w fun en w' => en = .returned (.bool (tslimB x)) ∧ Below w.heap.size w w' := by
 refine enter (args := [_]) Tryz.func15 Tryz.ntmps15 rfl rfl (HS.refl w []) ?_
 iterate 2 refine aS ?_
 refine oBx fun b1 _ => ?_
 iterate 6 refine aS ?_
 refine o_p (p_len_str rfl rfl Tryz.underlying9) rfl ?_
 iterate 2 refine aS ?_
 refine o_and 5 7 12 _ _ rfl
  (by
   intro hg2
   have hs3 := hg2; try simp only [decide_eq_true_eq] at hs3
   refine oOn 7 hg2 ?_
   refine aS ?_
   refine oOn 7 hg2 ?_
   refine aS ?_
   refine oOn 7 hg2 ?_
   refine o_p (p_len_str rfl rfl Tryz.underlying9) rfl ?_
   refine oOn 7 hg2 ?_
   refine aS ?_
   refine o_p (p_pickt rfl rfl hg2 rfl) rfl ?_
   refine aS ?_
   exact oJn 5 12)
  (by
   intro hg4
   have hs5 := hg4; try simp only [decide_eq_false_iff_not] at hs5
   refine oOf 7 hg4 ?_
   refine oOf 7 hg4 ?_
   refine oOf 7 hg4 ?_
   refine oOf 7 hg4 ?_
   refine o_p (p_pickf rfl rfl hg4 rfl) rfl ?_
   refine aS ?_
   exact oJn 5 12) ?_
 iterate 2 refine aS ?_
 exact s_retv (rs := [.tmp 2]) rfl (.tmp rfl (.nil)) (fun w' h' => ⟨by simp only [retV, tslimB, Bool.decide_and]; congr 3 <;> exact decide_eq_decide.2 (by omega), h'.below⟩)
theorem c43 (w : World) (a : Option Addr) (cap : Nat) (l : List TEnt) (hs : Rw TEnt.vals 2 w [] a l) (hl : l.length ≤ 1000) : Calls Tryz.prog 43 #[.slice a l.length cap] w fun en w' => en = .returned (.bool (tshortB l)) ∧ Below w.heap.size w w' := by
 refine enter (args := [_]) Tryz.func43 Tryz.ntmps43 rfl rfl (HS.refl w []) ?_
 iterate 10 refine aS ?_
 refine s_loopI (α := Nat) [2, 3, 4, 5, 6, 7, 8, 9, 10, 11, 12, 13, 14, 15] (fun k => [(3, .int .i64 (k : Int))]) (fun _ => HS w [] []) (fun k => k ≤ l.length ∧ ∀ q, q < k → tslimB (nth l q) = true) (fun k => l.length - k) 0 ⟨Nat.zero_le _, fun q h => absurd h (Nat.not_lt_zero q)⟩ aSx (fun w h => h.ent aEt) (fun k hx => ?_)
 obtain ⟨hk1, hk3⟩ := hx
 iterate 8 refine aS ?_
 refine s_cond rfl (fun h1 => ?_) fun h1 => ?_
 ·try simp only [decide_eq_true_eq] at h1
  have hk5 : k < l.length := by omega
  iterate 7 refine aS ?_
  refine o_p (p_indexAddr rfl rfl rfl sl_77 (k) (by omega) (by omega) (Rw.some hs (by omega))) rfl ?_
  refine o_q (q_load_oldn _ rfl rfl sz_26 rfl (Rw.rd hs hk5)) rfl ?_
  refine o_q (q_call rfl fn_15 rfl (fun w1 h1 => c15 w1 (nth l k))) rfl ?_
  iterate 2 refine aS ?_
  refine s_cond rfl (fun h2 => ?_) fun h2 => ?_
  ·try simp only [Bool.not_eq_true'] at h2
   have hz1 : ¬ tslimB (nth l k) = true := by have hq := h2; simp [hq]
   have hbad := tshortB_f hk5 hz1
   iterate 4 refine aS ?_
   exact s_retv (rs := [.tmp 2]) rfl (.tmp rfl (.nil)) (fun w' h' => ⟨by rw [hbad]; rfl, h'.below⟩)
  try simp only [Bool.not_eq_false'] at h2
  have hz1 : tslimB (nth l k) = true := by have hq := h2; simpa using hq
  iterate 5 refine aS ?_
  try refine oWr ?_
  iterate 2 refine aS ?_
  exact s_backI (k + 1) (by omega) ⟨by omega, fun q hq => (Nat.lt_or_ge q k).elim (hk3 q) (fun h9 => by obtain rfl : q = k := (by omega); exact hz1)⟩ aSx (fun w h => h.ent aEt)
 try simp only [decide_eq_false_iff_not] at h1
 have hall := tshortB_t (es := l) (fun q hq => hk3 q (by omega))
 refine s_exit_to rfl ?_
 iterate 4 refine aS ?_
 exact s_retv (rs := [.tmp 2]) rfl (.tmp rfl (.nil)) (fun w' h' => ⟨by rw [hall]; rfl, h'.below⟩)
theorem c14 (w : World) (co mo rm : Int) (a : Option Addr) (cap : Nat) (L : List LNd) (hs : Nt w [] a L) : Calls Tryz.prog 14 #[.agg #[.int .i64 co, .int .i64 mo, .int .i64 rm, .slice a L.length cap]] w fun en w' => en = .returned (.bool (tfewB (pln L))) ∧ Below w.heap.size w w' := by
 have hnl : (pln L).length = L.length := pln_len L
 refine enter (args := [_]) Tryz.func14 Tryz.ntmps14 rfl rfl (HS.refl w []) ?_
 iterate 2 refine aS ?_
 refine oBx fun b1 _ => ?_
 iterate 10 refine aS ?_
 refine o_and 5 8 13 _ _ rfl
  (by
   intro hg2
   have hs3 := hg2; try simp only [decide_eq_true_eq] at hs3
   refine oOn 8 hg2 ?_
   refine aS ?_
   refine oOn 8 hg2 ?_
   refine aS ?_
   refine oOn 8 hg2 ?_
   refine aS ?_
   refine oOn 8 hg2 ?_
   refine aS ?_
   refine o_p (p_pickt rfl rfl hg2 rfl) rfl ?_
   refine aS ?_
   exact oJn 5 13)
  (by
   intro hg4
   have hs5 := hg4; try simp only [decide_eq_false_iff_not] at hs5
   refine oOf 8 hg4 ?_
   refine oOf 8 hg4 ?_
   refine oOf 8 hg4 ?_
   refine oOf 8 hg4 ?_
   refine o_p (p_pickf rfl rfl hg4 rfl) rfl ?_
   refine aS ?_
   exact oJn 5 13) ?_
 refine aS ?_
 refine o_or 5 14 19 _ _ rfl
  (by
   intro hg6
   have hs7 := hg6; try simp only [Bool.and_eq_false_iff, decide_eq_false_iff_not] at hs7
   refine oOn 14 hg6 ?_
   refine aS ?_
   refine oOn 14 hg6 ?_
   refine aS ?_
   refine oOn 14 hg6 ?_
   refine aS ?_
   refine oOn 14 hg6 ?_
   refine aS ?_
   refine o_p (p_pickf rfl rfl hg6 rfl) rfl ?_
   refine aS ?_
   exact oJn 5 19)
  (by
   intro hg8
   have hs9 := hg8; try simp only [Bool.and_eq_true, decide_eq_true_eq] at hs9
   refine oOf 14 hg8 ?_
   refine oOf 14 hg8 ?_
   refine oOf 14 hg8 ?_
   refine oOf 14 hg8 ?_
   refine o_p (p_pickt rfl rfl hg8 rfl) rfl ?_
   refine aS ?_
   exact oJn 5 19) ?_
 refine aS ?_
 refine s_cond rfl (fun h10 => ?_) fun h10 => ?_
 ·try simp only [Bool.or_eq_true, Bool.and_eq_true, decide_eq_true_eq] at h10
  have hbad := tfewB_n (ns := pln L) (by rw [hnl]; have hq := h10; omega)
  iterate 4 refine aS ?_
  exact s_retv (rs := [.tmp 2]) rfl (.tmp rfl (.nil)) (fun w' h' => ⟨by rw [hbad]; rfl, h'.below⟩)
 try simp only [Bool.or_eq_false_iff, Bool.and_eq_false_iff, decide_eq_false_iff_not] at h10
 have hlen : L.length ≤ 122 ∧ ¬ (60 < L.length ∧ L.length ≤ 120) := by have hq := h10; omega
 iterate 7 refine aS ?_
 refine s_loopI (α := Nat) [2, 3, 20, 21, 22, 23, 24, 25, 26, 27, 28, 29, 30, 31, 32, 33, 34, 35, 36, 37, 38, 39, 40, 41, 42, 43, 44, 45, 46, 47, 48, 49, 50, 51, 52, 53, 54] (fun k => [(3, .int .i64 (k : Int))]) (fun _ => HS w [] [.blk b1 24 4 [.int .i64 co, .int .i64 mo, .int .i64 rm, .slice a L.length cap]]) (fun k => k ≤ L.length ∧ ∀ q, q < k → tfewN (nth (pln L) q) = true) (fun k => L.length - k) 0 ⟨Nat.zero_le _, fun q h => absurd h (Nat.not_lt_zero q)⟩ aSx (fun w h => h.ent aEt) (fun k hx => ?_)
 obtain ⟨hk1, hk3⟩ := hx
 iterate 9 refine aS ?_
 refine s_cond rfl (fun h11 => ?_) fun h11 => ?_
 ·try simp only [decide_eq_true_eq] at h11
  have hk5 : k < L.length := by omega
  have hnk := pln_nth hk5
  iterate 8 refine aS ?_
  refine o_p (p_indexAddr rfl rfl rfl sl_22 (k) (by omega) (by omega) (Rw.some hs.1 (by omega))) rfl ?_
  refine aS ?_
  refine o_q (q_load_old rfl rfl sz_77 ((hs.1.rdj 1 hk5 rfl))) rfl ?_
  iterate 3 refine aS ?_
  refine o_or 9 35 44 _ _ rfl
   (by
    intro hg12
    have hs13 := hg12; try simp only [decide_eq_false_iff_not] at hs13
    refine oOn 35 hg12 ?_
    refine aS ?_
    refine oOn 35 hg12 ?_
    refine aS ?_
    refine oOn 35 hg12 ?_
    refine aS ?_
    refine oOn 35 hg12 ?_
    refine o_p (p_indexAddr rfl rfl rfl sl_22 (k) (by omega) (by omega) (Rw.some hs.1 (by omega))) rfl ?_
    refine oOn 35 hg12 ?_
    refine aS ?_
    refine oOn 35 hg12 ?_
    refine o_q (q_load_old rfl rfl sz_30 ((hs.1.rdj 2 hk5 rfl))) rfl ?_
    refine oOn 35 hg12 ?_
    refine aS ?_
    refine oOn 35 hg12 ?_
    refine aS ?_
    refine o_p (p_pickf rfl rfl hg12 rfl) rfl ?_
    refine aS ?_
    exact oJn 9 44)
   (by
    intro hg14
    have hs15 := hg14; try simp only [decide_eq_true_eq] at hs15
    refine oOf 35 hg14 ?_
    refine oOf 35 hg14 ?_
    refine oOf 35 hg14 ?_
    refine oOf 35 hg14 ?_
    refine oOf 35 hg14 ?_
    refine oOf 35 hg14 ?_
    refine oOf 35 hg14 ?_
    refine oOf 35 hg14 ?_
    refine o_p (p_pickt rfl rfl hg14 rfl) rfl ?_
    refine aS ?_
    exact oJn 9 44) ?_
  refine aS ?_
  refine o_or 9 45 54 _ _ rfl
   (by
    intro hg16
    have hs17 := hg16; try simp only [Bool.or_eq_false_iff, decide_eq_false_iff_not] at hs17
    refine oOn 45 hg16 ?_
    refine aS ?_
    refine oOn 45 hg16 ?_
    refine aS ?_
    refine oOn 45 hg16 ?_
    refine aS ?_
    refine oOn 45 hg16 ?_
    refine o_p (p_indexAddr rfl rfl rfl sl_22 (k) (by omega) (by omega) (Rw.some hs.1 (by omega))) rfl ?_
    refine oOn 45 hg16 ?_
    refine aS ?_
    refine oOn 45 hg16 ?_
    refine o_q (q_load_old rfl rfl sz_77 ((hs.1.rdj 1 hk5 rfl))) rfl ?_
    refine oOn 45 hg16 ?_
    refine o_q (q_call rfl fn_43 rfl (fun w1 h1 => c43 w1 (nth L k).ea (nth L k).ec (nth L k).es ((hs.es hk5).later h1) (by have hq := hg16; omega))) rfl ?_
    refine oOn 45 hg16 ?_
    refine aS ?_
    refine o_p (p_pickf rfl rfl hg16 rfl) rfl ?_
    refine aS ?_
    exact oJn 9 54)
   (by
    intro hg18
    have hs19 := hg18; try simp only [Bool.or_eq_true, decide_eq_true_eq] at hs19
    refine oOf 45 hg18 ?_
    refine oOf 45 hg18 ?_
    refine oOf 45 hg18 ?_
    refine oOf 45 hg18 ?_
    refine oOf 45 hg18 ?_
    refine oOf 45 hg18 ?_
    refine oOf 45 hg18 ?_
    refine oOf 45 hg18 ?_
    refine o_p (p_pickt rfl rfl hg18 rfl) rfl ?_
    refine aS ?_
    exact oJn 9 54) ?_
  refine aS ?_
  refine s_cond rfl (fun h20 => ?_) fun h20 => ?_
  ·try simp only [Bool.or_eq_true, decide_eq_true_eq, Bool.not_eq_true'] at h20
   have hz1 : ¬ tfewN (nth (pln L) k) = true := by rw [hnk]; have hq := h20; exact tfewN_f (hq.imp (fun h9 => by show 10 < (nth L k).es.length ∨ 11 < (nth L k).cs.length; omega) id)
   have hbad := tfewB_f (by rw [hnl]; exact hk5) hz1
   iterate 4 refine aS ?_
   exact s_retv (rs := [.tmp 2]) rfl (.tmp rfl (.nil)) (fun w' h' => ⟨by rw [hbad]; rfl, h'.below⟩)
  try simp only [Bool.or_eq_false_iff, decide_eq_false_iff_not, Bool.not_eq_false'] at h20
  have hz1 : tfewN (nth (pln L) k) = true := by rw [hnk]; have hq := h20; exact tfewN_t (by show (nth L k).es.length ≤ 10; omega) (by show (nth L k).cs.length ≤ 11; omega) hq.2
  iterate 5 refine aS ?_
  try refine oWr ?_
  iterate 2 refine aS ?_
  exact s_backI (k + 1) (by omega) ⟨by omega, fun q hq => (Nat.lt_or_ge q k).elim (hk3 q) (fun h9 => by obtain rfl : q = k := (by omega); exact hz1)⟩ aSx (fun w h => h.ent aEt)
 try simp only [decide_eq_false_iff_not] at h11
 have hall := tfewB_t (ns := pln L) (by rw [hnl]; exact hlen) (fun q hq => hk3 q (by rw [hnl] at hq; omega))
 refine s_exit_to rfl ?_
 iterate 4 refine aS ?_
 exact s_retv (rs := [.tmp 2]) rfl (.tmp rfl (.nil)) (fun w' h' => ⟨by rw [hall]; rfl, h'.below⟩)
theorem fn_14 : isFn Tryz.prog 14 = true := by kernel_rfl
theorem fn_18 : isFn Tryz.prog 18 = true := by kernel_rfl
theorem c23P (w : World) (a b : Option Addr) (c d : Nat) (P Q : List Nat) (hs : Rw inV 1 w [] a (iN P)) (ht : Rw inV 1 w [] b (iN Q)) (hl : P.length ≤ 100000) (hm : Q.length ≤ 100000) : Calls Tryz.prog 23 #[.slice a P.length c, .slice b Q.length d] w fun en w' => en = .returned (.bool (decide (iN P = iN Q))) ∧ Below w.heap.size w w' := by
  have h := c23 w a b c d (iN P) (iN Q) hs ht (by rw [iN_len]; exact hl) (by rw [iN_len]; exact hm)
  rw [iN_len, iN_len] at h
  exact h
end Go.Proofs
namespace Gx
set_option linter.unusedSimpArgs false
set_option linter.unusedVariables false
set_option linter.unusedSectionVars false
open Go Go.RowKit
def shA (ns : List Nd) : Nat → Int × Int × Int
  | 0 => (0, 0, 0)
  | k + 1 => if (nth ns k).us = true then ((shA ns k).1 + 1, (shA ns k).2.1 + ((nth ns k).es.length : Int), (shA ns k).2.2) else ((shA ns k).1, (shA ns k).2.1, (shA ns k).2.2 + 1)
def shpV (ns : List Nd) : List Value := [.int .i64 (deepT ns ns.length 0 + 1), .int .i64 (shA ns ns.length).1, .int .i64 (shA ns ns.length).2.1, .int .i64 (shA ns ns.length).2.2]
end Gx
namespace Go.Proofs
open Go Go.RowKit Gx
set_option linter.unusedVariables false
set_option linter.unusedSimpArgs false
attribute [local irreducible] Go.Calls Gx.S Gx.O Gx.D Gx.OpP Gx.OpQ Gx.OpH
set_option maxRecDepth 20000
end Go.Proofs
namespace Gx
open Go Go.RowKit
end Gx
namespace Go.Proofs
open Go Go.RowKit Gx
set_option linter.unusedVariables false
set_option linter.unusedSimpArgs false
attribute [local irreducible] Go.Calls Gx.S Gx.O Gx.D Gx.OpP Gx.OpQ Gx.OpH
set_option maxRecDepth 20000
end Go.Proofs
namespace Gx
set_option linter.unusedSimpArgs false
set_option linter.unusedVariables false
set_option linter.unusedSectionVars false
open Go Go.RowKit
def repN (co : Int) (ns : List Nd) (x : TEnt) : List Nd := esN ns (lastN (pathN co ns x.key).1) ((nth ns (lastN (pathN co ns x.key).1)).es.set (pathN co ns x.key).2.1 x)
end Gx
namespace Go.Proofs
open Go Go.RowKit Gx
set_option linter.unusedVariables false
set_option linter.unusedSimpArgs false
attribute [local irreducible] Go.Calls Gx.S Gx.O Gx.D Gx.OpP Gx.OpQ Gx.OpH
set_option maxRecDepth 20000
end Go.Proofs
namespace Gx
set_option linter.unusedSimpArgs false
set_option linter.unusedVariables false
set_option linter.unusedSectionVars false
open Go Go.RowKit
inductive BT where
  | nd (i : Nat) (es : List TEnt) (ks : List BT)
namespace BT
def idx : BT → Nat | nd i _ _ => i
def es : BT → List TEnt | nd _ es _ => es
def ks : BT → List BT | nd _ _ ks => ks
end BT
instance : Inhabited BT := ⟨.nd 0 [] []⟩
def idxs (ks : List BT) : List Int := ks.map fun k => (k.idx : Int)
theorem idxs_app (a b : List BT) : idxs (a ++ b) = idxs a ++ idxs b := by simp [idxs]
theorem idxs_cons (a : BT) (b : List BT) : idxs (a :: b) = (a.idx : Int) :: idxs b := rfl
theorem idxs_len (a : List BT) : (idxs a).length = a.length := by simp [idxs]
theorem idxs_take (a : List BT) (n : Nat) : idxs (a.take n) = (idxs a).take n := by simp [idxs, List.map_take]
theorem idxs_drop (a : List BT) (n : Nat) : idxs (a.drop n) = (idxs a).drop n := by simp [idxs, List.map_drop]
mutual
def BT.nodes : BT → List (Nat × Nd)
  | .nd i es ks => (i, ⟨true, es, idxs ks⟩) :: nodesL ks
def nodesL : List BT → List (Nat × Nd)
  | [] => []
  | k :: ks => k.nodes ++ nodesL ks
end
mutual
def BT.flat : BT → List TEnt
  | .nd _ es ks => flatL es ks
def flatL : List TEnt → List BT → List TEnt
  | es, [] => es
  | [], k :: ks => k.flat ++ flatL [] ks
  | e :: es, k :: ks => k.flat ++ e :: flatL es ks
end
theorem nodesL_app (a b : List BT) : nodesL (a ++ b) = nodesL a ++ nodesL b := by
  induction a with
  | nil => rfl
  | cons x a ih => rw [List.cons_append, nodesL, nodesL, ih, List.append_assoc]
structure RepN (ns : List Nd) (N : List (Nat × Nd)) : Prop where
  get : ∀ p ∈ N, ns[p.1]? = some p.2
  nd : (N.map Prod.fst).Nodup
  rest : ∀ i, i < ns.length → i ∉ N.map Prod.fst → nth ns i = ⟨false, [], []⟩
section
variable {ns : List Nd} {N N' : List (Nat × Nd)} {i : Nat} {x y : Nd}
theorem RepN.perm (h : RepN ns N) (hp : N.Perm N') : RepN ns N' :=
  ⟨fun p hp' => h.get p (hp.mem_iff.2 hp'), (hp.map _).nodup_iff.1 h.nd, fun i hi hn => h.rest i hi fun hm => hn ((hp.map _).mem_iff.1 hm)⟩
theorem RepN.lt (h : RepN ns N) {p : Nat × Nd} (hp : p ∈ N) : p.1 < ns.length := (List.getElem?_eq_some_iff.1 (h.get p hp)).1
theorem RepN.head (h : RepN ns ((i, x) :: N)) : i < ns.length ∧ nth ns i = x := ⟨h.lt (List.mem_cons_self ..), nth_eq (h.get _ (List.mem_cons_self ..))⟩
theorem RepN.at_ (h : RepN ns N) (hp : (i, x) ∈ N) : i < ns.length ∧ nth ns i = x := ⟨h.lt hp, nth_eq (h.get _ hp)⟩
theorem RepN.set (h : RepN ns ((i, x) :: N)) (y : Nd) : RepN (ns.set i y) ((i, y) :: N) := by
  have hn := List.nodup_cons.1 h.nd
  refine ⟨fun p hp => ?_, h.nd, fun j hj hm => ?_⟩
  · rcases List.mem_cons.1 hp with rfl | hp
    · exact List.getElem?_set_self h.head.1
    · have hne : i ≠ p.1 := fun e => hn.1 (e ▸ List.mem_map.2 ⟨p, hp, rfl⟩)
      rw [List.getElem?_set_ne hne]
      exact h.get p (List.mem_cons_of_mem _ hp)
  · have hne : i ≠ j := fun e => hm (e ▸ List.mem_cons_self ..)
    rw [List.length_set] at hj
    rw [← h.rest j hj hm]
    exact nth_eq (by rw [List.getElem?_set_ne hne]; exact nth_get hj)
theorem RepN.es (h : RepN ns ((i, x) :: N)) (es : List TEnt) : RepN (esN ns i es) ((i, { x with es := es }) :: N) := by
  have := h.set { x with es := es }
  unfold esN
  rw [h.head.2]
  exact this
theorem RepN.cs (h : RepN ns ((i, x) :: N)) (cs : List Int) : RepN (csN ns i cs) ((i, { x with cs := cs }) :: N) := by
  have := h.set { x with cs := cs }
  unfold csN
  rw [h.head.2]
  exact this
theorem RepN.gone (h : RepN ns ((i, x) :: N)) : RepN (ns.set i ⟨false, [], []⟩) N := by
  have h1 := h.set ⟨false, [], []⟩
  have hn := List.nodup_cons.1 h.nd
  refine ⟨fun p hp => h1.get p (List.mem_cons_of_mem _ hp), hn.2, fun j hj hm => ?_⟩
  by_cases e : j = i
  · subst e
    exact h1.head.2
  · exact h1.rest j hj fun hm2 => by
      rcases List.mem_cons.1 hm2 with e2 | hm2
      · exact e e2
      · exact hm hm2
theorem RepN.free (h : RepN ns N) (hu : ∀ p ∈ N, p.2.us = true) : (freN ns).1 ∉ N.map Prod.fst ∧ RepN (freN ns).2 (((freN ns).1, ⟨true, [], []⟩) :: N) := by
  have hnu : (freN ns).1 ∉ N.map Prod.fst := fun hm => by
    obtain ⟨p, hp, e⟩ := List.mem_map.1 hm
    have h1 := h.at_ (i := p.1) (x := p.2) hp
    exact freN_ne h1.1 (by rw [h1.2]; exact hu p hp) e.symm
  refine ⟨hnu, ?_⟩
  have hnd : ((((freN ns).1, (⟨true, [], []⟩ : Nd)) :: N).map Prod.fst).Nodup := List.nodup_cons.2 ⟨hnu, h.nd⟩
  have hget : ∀ p ∈ N, (freN ns).2[p.1]? = some p.2 := fun p hp => by
    have h1 := h.at_ (i := p.1) (x := p.2) hp
    have h2 := freN_nth h1.1 (by rw [h1.2]; exact hu p hp)
    rw [nth_get (Nat.lt_of_lt_of_le h1.1 (freN_len ns).1), h2, h1.2]
  have hown : nth (freN ns).2 (freN ns).1 = ⟨true, [], []⟩ := by
    unfold freN at hnu ⊢
    split
    · rename_i hlt
      rw [if_pos hlt] at hnu
      simp only [] at hnu ⊢
      unfold usN
      rw [h.rest _ hlt hnu]
      exact nth_eq (List.getElem?_set_self hlt)
    · exact nth_eq (by simp)
  refine ⟨fun p hp => ?_, hnd, fun j hj hm => ?_⟩
  · rcases List.mem_cons.1 hp with rfl | hp
    · rw [nth_get (freN_lt ns), hown]
    · exact hget p hp
  · have hne : (freN ns).1 ≠ j := fun e => hm (e ▸ List.mem_cons_self ..)
    have hm2 : j ∉ N.map Prod.fst := fun h9 => hm (List.mem_cons_of_mem _ h9)
    unfold freN at hj hne ⊢
    split
    · rename_i hlt
      rw [if_pos hlt] at hj hne
      simp only [usN_len] at hj hne ⊢
      rw [← h.rest j hj hm2]
      exact nth_eq (by unfold usN; rw [List.getElem?_set_ne hne]; exact nth_get hj)
    · rename_i hlt
      rw [if_neg hlt] at hj hne
      simp only [List.length_append, List.length_singleton] at hj hne ⊢
      have hj2 : j < ns.length := by omega
      rw [← h.rest j hj2 hm2]
      exact nth_eq (by rw [List.getElem?_append_left hj2]; exact nth_get hj2)
end
def kidsOf (N : List (Nat × Nd)) : List Int := N.flatMap fun p => p.2.cs
theorem kidsOf_app (A B : List (Nat × Nd)) : kidsOf (A ++ B) = kidsOf A ++ kidsOf B := List.flatMap_append
theorem kidsOf_cons (p : Nat × Nd) (B : List (Nat × Nd)) : kidsOf (p :: B) = p.2.cs ++ kidsOf B := List.flatMap_cons
theorem ixB_none {cs : List Int} {n : Int} (h : n ∉ cs) : ¬ ixB (hasC cs n) < cs.length := fun hl => by
  have h1 : (hasC cs n).getD (ixB (hasC cs n)) false = true := ixB_true (by rw [hasC_len]; exact hl)
  rw [hasC_get hl] at h1
  refine h (of_decide_eq_true h1 ▸ ?_)
  rw [List.getD_eq_getElem?_getD, List.getElem?_eq_getElem hl]
  exact List.getElem_mem hl
theorem ixB_app {A B : List Int} {n : Int} (h : n ∉ A) : ixB (hasC (A ++ n :: B) n) = A.length := by
  induction A with
  | nil =>
    show ixB (decide (n = n) :: _) = 0
    simp [ixB]
  | cons a A ih =>
    have h1 : n ≠ a := fun e => h (e ▸ List.mem_cons_self ..)
    show ixB (decide (n = a) :: hasC (A ++ n :: B) n) = _
    rw [decide_eq_false h1]
    simp only [ixB, List.length_cons]
    rw [ih fun hm => h (List.mem_cons_of_mem _ hm)]
    first | rfl | simp
theorem parN_at {i : Nat} : ∀ {l : List Nd} {s p : Nat} {A B : List Int}, p < l.length → (nth l p).cs = A ++ (i : Int) :: B → (i : Int) ∉ A → (∀ j, j < p → (i : Int) ∉ (nth l j).cs) → parN i l s = (s + p, A.length)
  | [], s, p, A, B, hp, _, _, _ => absurd hp (Nat.not_lt_zero _)
  | n :: l, s, 0, A, B, hp, he, hA, _ => by
    have e : n.cs = A ++ (i : Int) :: B := he
    rw [parN, e, ixB_app hA, if_pos (by simp)]
    rfl
  | n :: l, s, p + 1, A, B, hp, he, hA, hn => by
    have hn0 : (i : Int) ∉ n.cs := hn 0 (Nat.succ_pos _)
    rw [parN, if_neg (ixB_none hn0), parN_at (l := l) (s := s + 1) (p := p) (by simpa using hp) he hA fun j hj => hn (j + 1) (by omega)]
    congr 1
    omega
theorem RepN.par {ns : List Nd} {N : List (Nat × Nd)} {p i : Nat} {x : Nd} {A B : List Int} (h : RepN ns ((p, x) :: N)) (hk : (kidsOf ((p, x) :: N)).Nodup) (he : x.cs = A ++ (i : Int) :: B) : parN i ns 0 = (p, A.length) := by
  rw [kidsOf_cons, he] at hk
  have h1 := List.nodup_append.1 hk
  have hA : (i : Int) ∉ A := fun hm => (List.nodup_append.1 h1.1).2.2 _ hm _ (List.mem_cons_self ..) rfl
  have h2 := h.head
  have := parN_at (i := i) (l := ns) (s := 0) (p := p) h2.1 (by rw [h2.2]; exact he) hA fun j hj hm => by
    by_cases hjm : j ∈ N.map Prod.fst
    · obtain ⟨q, hq, e⟩ := List.mem_map.1 hjm
      have h3 := h.at_ (i := q.1) (x := q.2) (List.mem_cons_of_mem _ hq)
      rw [e] at h3
      rw [h3.2] at hm
      exact h1.2.2 (i : Int) (by simp) (i : Int) (List.mem_flatMap.2 ⟨q, hq, hm⟩) rfl
    · have h3 := h.rest j (by omega) (fun h9 => by
        rcases List.mem_cons.1 h9 with e | h9
        · have : j = p := e
          omega
        · exact hjm h9)
      rw [h3] at hm
      cases hm
  rw [this, Nat.zero_add]
mutual
theorem kids_nodes : ∀ T : BT, (((T.idx : Nat) : Int) :: kidsOf T.nodes).Perm (T.nodes.map fun p => ((p.1 : Nat) : Int))
  | .nd i es ks => by
    rw [BT.nodes, kidsOf_cons, List.map_cons]
    exact List.Perm.cons _ (kids_nodesL ks)
theorem kids_nodesL : ∀ ks : List BT, (idxs ks ++ kidsOf (nodesL ks)).Perm ((nodesL ks).map fun p => ((p.1 : Nat) : Int))
  | [] => .refl _
  | k :: ks => by
    rw [nodesL, kidsOf_app, List.map_append, idxs_cons, List.cons_append]
    have h1 := kids_nodes k
    have h2 := kids_nodesL ks
    have h3 : ((k.idx : Int) :: (idxs ks ++ (kidsOf k.nodes ++ kidsOf (nodesL ks)))).Perm (((k.idx : Int) :: kidsOf k.nodes) ++ (idxs ks ++ kidsOf (nodesL ks))) := by
      rw [List.cons_append]
      refine List.Perm.cons _ ?_
      rw [← List.append_assoc, ← List.append_assoc]
      exact List.perm_append_comm.append_right _
    exact h3.trans (h1.append h2)
end
theorem nd_int {l : List (Nat × Nd)} (h : (l.map Prod.fst).Nodup) : (l.map fun p => ((p.1 : Nat) : Int)).Nodup := by
  have e : (l.map fun p => ((p.1 : Nat) : Int)) = (l.map Prod.fst).map fun n : Nat => (n : Int) := by simp
  rw [e]
  exact List.Pairwise.map _ (fun a b hab e => hab (by omega)) h
theorem kids_nodup {T : BT} (h : (T.nodes.map Prod.fst).Nodup) : (kidsOf T.nodes).Nodup := (List.nodup_cons.1 ((kids_nodes T).nodup_iff.2 (nd_int h))).2
mutual
theorem nodes_us : ∀ T : BT, ∀ p ∈ T.nodes, p.2.us = true
  | .nd i es ks => fun p hp => by
    rw [BT.nodes] at hp
    rcases List.mem_cons.1 hp with rfl | hp
    · rfl
    · exact nodesL_us ks p hp
theorem nodesL_us : ∀ ks : List BT, ∀ p ∈ nodesL ks, p.2.us = true
  | [] => fun p hp => (nomatch hp)
  | k :: ks => fun p hp => by
    rw [nodesL] at hp
    rcases List.mem_append.1 hp with hp | hp
    · exact nodes_us k p hp
    · exact nodesL_us ks p hp
end
structure Fr where
  i : Nat
  es : List TEnt
  l : List BT
  r : List BT
instance : Inhabited Fr := ⟨⟨0, [], [], []⟩⟩
def Fr.fill (f : Fr) (T : BT) : BT := .nd f.i f.es (f.l ++ T :: f.r)
def plug : List Fr → BT → BT
  | [], T => T
  | f :: C, T => plug C (f.fill T)
def Fr.nodes (f : Fr) (h : Nat) : List (Nat × Nd) := (f.i, ⟨true, f.es, idxs f.l ++ (h : Int) :: idxs f.r⟩) :: (nodesL f.l ++ nodesL f.r)
def ctxNodes : List Fr → Nat → List (Nat × Nd)
  | [], _ => []
  | f :: C, h => f.nodes h ++ ctxNodes C f.i
theorem fill_nodes (f : Fr) (T : BT) : (f.fill T).nodes.Perm (f.nodes T.idx ++ T.nodes) := by
  unfold Fr.fill Fr.nodes
  rw [BT.nodes, nodesL_app, nodesL, idxs_app, idxs_cons, List.cons_append]
  refine List.Perm.cons _ ?_
  rw [List.append_assoc]
  exact List.Perm.append_left _ List.perm_append_comm
theorem plug_nodes : ∀ (C : List Fr) (T : BT), (plug C T).nodes.Perm (ctxNodes C T.idx ++ T.nodes)
  | [], T => .refl _
  | f :: C, T => by
    refine (plug_nodes C (f.fill T)).trans ?_
    show (ctxNodes C f.i ++ (f.fill T).nodes).Perm (f.nodes T.idx ++ ctxNodes C f.i ++ T.nodes)
    refine ((fill_nodes f T).append_left _).trans ?_
    rw [← List.append_assoc]
    exact List.perm_append_comm.append_right _
theorem plug_app (C D : List Fr) (T : BT) : plug (C ++ D) T = plug D (plug C T) := by
  induction C generalizing T with
  | nil => rfl
  | cons f C ih => exact ih _
def RepT (ns : List Nd) (T : BT) : Prop := RepN ns T.nodes
theorem RepT.plug {ns : List Nd} {C : List Fr} {T : BT} (h : RepT ns (plug C T)) : RepN ns (ctxNodes C T.idx ++ T.nodes) := RepN.perm h (plug_nodes C T)
theorem RepT.of_plug {ns : List Nd} {C : List Fr} {T : BT} (h : RepN ns (ctxNodes C T.idx ++ T.nodes)) : RepT ns (Gx.plug C T) := RepN.perm h (plug_nodes C T).symm
theorem RepT.us {ns : List Nd} {T : BT} (h : RepT ns T) : ∀ p ∈ T.nodes, p.2.us = true := nodes_us T
theorem RepT.at_ {ns : List Nd} {C : List Fr} {T : BT} (h : RepT ns (Gx.plug C T)) : T.idx < ns.length ∧ nth ns T.idx = ⟨true, T.es, idxs T.ks⟩ := by
  cases T with
  | nd i es ks => exact RepN.at_ h.plug (List.mem_append_right _ (by rw [BT.nodes]; exact List.mem_cons_self ..))
theorem RepT.par {ns : List Nd} {f : Fr} {C : List Fr} {T : BT} (h : RepT ns (Gx.plug (f :: C) T)) : parN (T.idx : Int) ns 0 = (f.i, f.l.length) := by
  have hk : (kidsOf (ctxNodes (f :: C) T.idx ++ T.nodes)).Nodup := by
    have h1 := kids_nodup (T := Gx.plug (f :: C) T) h.nd
    exact ((plug_nodes (f :: C) T).flatMap_right _).nodup_iff.1 h1
  have h2 := RepN.par (A := idxs f.l) (i := T.idx) (B := idxs f.r) h.plug hk rfl
  rw [h2, idxs_len]
theorem perm_ct {α : Type} [BEq α] [LawfulBEq α] {a b : List α} (h : ∀ x, a.count x = b.count x) : a.Perm b := List.perm_iff_count.2 h
theorem nodesL_split (ks : List BT) (n : Nat) : nodesL ks = nodesL (ks.take n) ++ nodesL (ks.drop n) := by
  rw [← nodesL_app, List.take_append_drop]
section
variable {ns : List Nd} {mo rm : Int} {f : Fr} {C : List Fr} {i : Nat} {es : List TEnt} {ks : List BT}
theorem rep_kids {T : BT} (h : RepT ns T) : (kidsOf T.nodes).Nodup := kids_nodup h.nd
end
def Bal (lo hi : Nat) : Nat → BT → Prop
  | 0, T => T.ks = [] ∧ lo ≤ T.es.length ∧ T.es.length ≤ hi
  | d + 1, T => (T.ks.length = T.es.length + 1 ∧ ∀ k ∈ T.ks, Bal lo hi d k) ∧ lo ≤ T.es.length ∧ T.es.length ≤ hi
def Bel (lo hi : Nat) : Nat → BT → Prop
  | 0, T => T.ks = []
  | d + 1, T => T.ks.length = T.es.length + 1 ∧ ∀ k ∈ T.ks, Bal lo hi d k
theorem bal_iff {lo hi d : Nat} {T : BT} : Bal lo hi d T ↔ Bel lo hi d T ∧ lo ≤ T.es.length ∧ T.es.length ≤ hi := by
  cases d <;> simp only [Bal, Bel]
theorem Bel.cs {lo hi d : Nat} {T : BT} (h : Bel lo hi d T) : T.ks = [] ∨ T.ks.length = T.es.length + 1 := by
  cases d with
  | zero => exact .inl h
  | succ d => exact .inr h.1
theorem Bel.leaf {lo hi d : Nat} {T : BT} (h : Bel lo hi d T) (hk : T.ks = []) : d = 0 := by
  cases d with
  | zero => rfl
  | succ d =>
    have := h.1
    rw [hk] at this
    simp at this
def CtxOk (lo hi rt : Nat) : Nat → List Fr → Prop
  | _, [] => True
  | d, f :: C => ((∀ k ∈ f.l, Bal lo hi d k) ∧ (∀ k ∈ f.r, Bal lo hi d k)) ∧ f.l.length + f.r.length = f.es.length ∧ ((C = [] → f.es.length ≤ rt) ∧ (C ≠ [] → lo ≤ f.es.length ∧ f.es.length ≤ hi)) ∧ CtxOk lo hi rt (d + 1) C
theorem bel_fill {lo hi rt d : Nat} {f : Fr} {C : List Fr} {T : BT} (hC : CtxOk lo hi rt d (f :: C)) (h : Bal lo hi d T) : Bel lo hi (d + 1) (f.fill T) := by
  refine ⟨?_, fun k hk => ?_⟩
  · show (f.l ++ T :: f.r).length = f.es.length + 1
    have := hC.2.1
    simp only [List.length_append, List.length_cons]
    omega
  · rcases List.mem_append.1 hk with hk | hk
    · exact hC.1.1 k hk
    · rcases List.mem_cons.1 hk with rfl | hk
      · exact h
      · exact hC.1.2 k hk
theorem plug_bel {lo hi rt : Nat} : ∀ {C : List Fr} {d : Nat} {T : BT}, CtxOk lo hi rt d C → Bel lo hi d T → (C ≠ [] → lo ≤ T.es.length ∧ T.es.length ≤ hi) → Bel lo hi (d + C.length) (plug C T)
  | [], d, T, _, h, _ => h
  | f :: C, d, T, hC, h, hl => by
    have h1 := plug_bel (C := C) hC.2.2.2 (bel_fill hC (bal_iff.2 ⟨h, hl (by simp)⟩)) fun hne => hC.2.2.1.2 hne
    show Bel lo hi (d + (C.length + 1)) _
    rw [show d + (C.length + 1) = d + 1 + C.length by omega]
    exact h1
theorem flatL_nil (es : List TEnt) : flatL es [] = es := by cases es <;> rfl
theorem flat_leaf (i : Nat) (es : List TEnt) : (BT.nd i es []).flat = es := by rw [BT.flat, flatL_nil]
def flatA : List TEnt → List BT → List TEnt
  | e :: es, k :: ks => k.flat ++ e :: flatA es ks
  | _, _ => []
def flatZ : List TEnt → List BT → List TEnt
  | e :: es, k :: ks => e :: (k.flat ++ flatZ es ks)
  | _, _ => []
theorem flatL_first : ∀ (es : List TEnt) (T : BT) (r : List BT), r.length = es.length → flatL es (T :: r) = T.flat ++ flatZ es r
  | [], T, [], _ => by
    rw [flatL, flatL_nil]
    rfl
  | [], T, k :: r, h => absurd h (by simp)
  | e :: es, T, [], h => absurd h (by simp)
  | e :: es, T, k :: r, h => by
    rw [flatL, flatL_first es k r (by simpa using h)]
    rfl
theorem flatL_mid : ∀ (l : List BT) (es : List TEnt) (T : BT) (r : List BT), l.length + r.length = es.length → flatL es (l ++ T :: r) = flatA es l ++ (T.flat ++ flatZ (es.drop l.length) r)
  | [], es, T, r, h => by
    have e : flatA es [] = [] := by cases es <;> rfl
    rw [e]
    exact flatL_first es T r (by simpa using h)
  | k :: l, [], T, r, h => absurd h (by simp only [List.length_cons, List.length_nil]; omega)
  | k :: l, e :: es, T, r, h => by
    rw [List.cons_append, flatL, flatL_mid l es T r (by simp only [List.length_cons] at h; omega), flatA, List.length_cons, List.drop_succ_cons]
    simp only [List.append_assoc, List.cons_append]
theorem flatA_app : ∀ (a b : List TEnt) (l : List BT), l.length ≤ a.length → flatA (a ++ b) l = flatA a l
  | a, b, [], _ => by
    have e : ∀ c : List TEnt, flatA c [] = [] := fun c => by cases c <;> rfl
    rw [e, e]
  | [], b, k :: l, h => absurd h (by simp)
  | x :: a, b, k :: l, h => by
    rw [List.cons_append, flatA, flatA, flatA_app a b l (by simpa using h)]
theorem flatA_take {es : List TEnt} {l : List BT} (h : l.length ≤ es.length) : flatA (es.take l.length) l = flatA es l := by
  have := flatA_app (es.take l.length) (es.drop l.length) l (by rw [List.length_take]; omega)
  rw [List.take_append_drop] at this
  exact this.symm
theorem flatL_split : ∀ (m : Nat) (es : List TEnt) (ks : List BT), m < es.length → (ks = [] ∨ ks.length = es.length + 1) → flatL (es.take m) (ks.take (m + 1)) ++ nth es m :: flatL (es.drop (m + 1)) (ks.drop (m + 1)) = flatL es ks
  | m, es, [], h, _ => by
    rw [List.take_nil, List.drop_nil, flatL_nil, flatL_nil, flatL_nil]
    have e : nth es m = es[m] := nth_eq (List.getElem?_eq_getElem h)
    rw [e, ← List.drop_eq_getElem_cons h, List.take_append_drop]
  | m, [], k :: ks, h, _ => absurd h (by simp)
  | 0, e :: es, k :: ks, h, h2 => by
    rw [List.take_zero, List.take_succ_cons, List.take_zero, flatL, flatL_nil, List.drop_succ_cons, List.drop_zero, List.drop_succ_cons, List.drop_zero, flatL, List.append_nil]
    rfl
  | m + 1, e :: es, k :: ks, h, h2 => by
    have hk : ks.length = es.length + 1 := by
      rcases h2 with h2 | h2
      · cases h2
      · simpa using h2
    rw [List.take_succ_cons, List.take_succ_cons, flatL, List.drop_succ_cons, List.drop_succ_cons, flatL]
    have := flatL_split m es ks (by simpa using h) (.inr hk)
    show k.flat ++ e :: flatL (es.take m) (ks.take (m + 1)) ++ nth es m :: flatL (es.drop (m + 1)) (ks.drop (m + 1)) = _
    rw [← this]
    simp only [List.append_assoc, List.cons_append]
def preC : List Fr → List TEnt
  | [] => []
  | f :: C => preC C ++ flatA f.es f.l
def sufC : List Fr → List TEnt
  | [] => []
  | f :: C => flatZ (f.es.drop f.l.length) f.r ++ sufC C
theorem plug_flat {lo hi rt : Nat} : ∀ {C : List Fr} {d : Nat} {T : BT}, CtxOk lo hi rt d C → (plug C T).flat = preC C ++ (T.flat ++ sufC C)
  | [], d, T, _ => by
    show T.flat = [] ++ (T.flat ++ [])
    simp
  | f :: C, d, T, hC => by
    show (plug C (f.fill T)).flat = _
    rw [plug_flat (C := C) hC.2.2.2]
    show preC C ++ ((BT.nd f.i f.es (f.l ++ T :: f.r)).flat ++ sufC C) = _
    rw [BT.flat, flatL_mid f.l f.es T f.r hC.2.1]
    simp only [preC, sufC, List.append_assoc]
theorem plug_idx : ∀ (C : List Fr) (T T' : BT), T.idx = T'.idx → (plug C T).idx = (plug C T').idx
  | [], T, T', h => h
  | f :: C, T, T', _ => plug_idx C (f.fill T) (f.fill T') rfl
theorem root_in : ∀ (C : List Fr) (T : BT) (h : Nat), C ≠ [] → (plug C T).idx ∈ (ctxNodes C h).map Prod.fst
  | [], T, h, hne => absurd rfl hne
  | [f], T, h, _ => by
    show f.i ∈ _
    simp [ctxNodes, Fr.nodes]
  | f :: g :: C, T, h, _ => by
    have := root_in (g :: C) (f.fill T) f.i (by simp)
    show (plug (g :: C) (f.fill T)).idx ∈ _
    rw [ctxNodes, List.map_append]
    exact List.mem_append_right _ this
theorem BT.idx_mem (T : BT) : T.idx ∈ T.nodes.map Prod.fst := by
  cases T with
  | nd i es ks =>
    rw [BT.nodes]
    exact List.mem_cons_self ..
theorem plug_ne {ns : List Nd} {C : List Fr} {T : BT} (h : RepT ns (plug C T)) (hC : C ≠ []) : T.idx ≠ (plug C T).idx := fun e => by
  have h1 := h.plug.nd
  rw [List.map_append] at h1
  exact (List.nodup_append.1 h1).2.2 _ (e ▸ root_in C T T.idx hC) _ T.idx_mem rfl
theorem rep_es {ns : List Nd} {C : List Fr} {i : Nat} {es : List TEnt} {ks : List BT} (h : RepT ns (plug C (.nd i es ks))) (es' : List TEnt) : RepT (esN ns i es') (plug C (.nd i es' ks)) := by
  refine RepT.of_plug ?_
  have h1 := h.plug
  rw [BT.nodes] at h1 ⊢
  have h2 := (h1.perm List.perm_middle).es es'
  exact h2.perm List.perm_middle.symm
theorem frsI_bel (ns : List Nd) : ∀ f i j, i ≤ j → j < frsI ns f i → (nth ns j).us = true
  | 0, i, j, h, h2 => by
    rw [frsI] at h2
    omega
  | f + 1, i, j, h, h2 => by
    rw [frsI] at h2
    split at h2
    · split at h2
      · rcases Nat.eq_or_lt_of_le h with rfl | h3
        · assumption
        · exact frsI_bel ns f (i + 1) j h3 h2
      · omega
    · omega
theorem ixFree_bel {ns : List Nd} {j : Nat} (h : j < ixFree ns) (hl : j < ns.length) : (nth ns j).us = true := by
  have h1 := ixB_false (l := ns.map fun n => !n.us) h
  rw [getD_map (d := default) hl] at h1
  show (ns.getD j default).us = true
  simpa using h1
theorem frs_fre {ns : List Nd} (h0 : 0 < ns.length) (hu : (nth ns 0).us = true) (hb : ∀ i, i < ns.length → (nth ns i).us = false → nth ns i = ⟨false, [], []⟩) : frsN ns = freN ns := by
  have hle : ixFree ns ≤ ns.length := by
    have := ixB_le (ns.map fun n => !n.us)
    rw [List.length_map] at this
    exact this
  have hfl : frsX ns ≤ ns.length := frsI_le ns _ 1 h0
  have hge : 1 ≤ frsX ns := frsI_ge ns _ 1
  have e : frsX ns = ixFree ns := by
    rcases Nat.lt_trichotomy (frsX ns) (ixFree ns) with h | h | h
    · have h1 := frsI_us ns ns.length 1 (by show frsX ns < _; omega) (by omega)
      have h2 := ixFree_bel (ns := ns) h (by omega)
      rw [show frsI ns ns.length 1 = frsX ns from rfl, h2] at h1
      cases h1
    · exact h
    · have h1 := ixFree_us (ns := ns) (by omega)
      have h2 : 1 ≤ ixFree ns := by
        rcases Nat.eq_zero_or_pos (ixFree ns) with h3 | h3
        · rw [h3, hu] at h1
          cases h1
        · exact h3
      have h3 := frsI_bel ns ns.length 1 (ixFree ns) h2 h
      rw [h3] at h1
      cases h1
  unfold frsN freN
  rw [e]
  split
  · rename_i h
    unfold usN
    rw [hb _ h (ixFree_us h)]
  · rfl
theorem RepT.blank {ns : List Nd} {T : BT} (h : RepT ns T) {i : Nat} (hi : i < ns.length) (hu : (nth ns i).us = false) : nth ns i = ⟨false, [], []⟩ := by
  by_cases hm : i ∈ T.nodes.map Prod.fst
  · obtain ⟨p, hp, rfl⟩ := List.mem_map.1 hm
    have h1 := RepN.at_ (i := p.1) (x := p.2) h hp
    rw [h1.2, nodes_us T p hp] at hu
    cases hu
  · exact h.rest i hi hm
theorem RepT.root {ns : List Nd} {T : BT} (h : RepT ns T) : T.idx < ns.length ∧ nth ns T.idx = ⟨true, T.es, idxs T.ks⟩ := RepT.at_ (C := []) h
theorem RepT.frs {ns : List Nd} {T : BT} (h : RepT ns T) (h0 : T.idx = 0) : frsN ns = freN ns := by
  have h1 := h.root
  rw [h0] at h1
  exact frs_fre h1.1 (by rw [h1.2]) fun i hi hu => h.blank hi hu
def Leads (co : Int) (key : List UInt8) (C : List Fr) : Prop := ∀ f ∈ C, f.l.length = plc co f.es key ∧ ¬ fnd co f.es key = true
theorem nth_mid' {α : Type} [Inhabited α] (l : List α) (x : α) (r : List α) : nth (l ++ x :: r) l.length = x := nth_eq (by simp)
theorem getD_mid {α : Type} (l : List α) (x d : α) (r : List α) : (l ++ x :: r).getD l.length d = x := by simp
theorem BT.eta (T : BT) : T = .nd T.idx T.es T.ks := by cases T; rfl
theorem split_at {α : Type} [Inhabited α] {ks : List α} {p : Nat} (h : p < ks.length) : ks = ks.take p ++ nth ks p :: ks.drop (p + 1) := by
  have e : nth ks p = ks[p] := nth_eq (List.getElem?_eq_getElem h)
  rw [e, ← List.drop_eq_getElem_cons h, List.take_append_drop]
theorem desc {co : Int} {ns : List Nd} {key : List UInt8} {lo hi rt : Nat} : ∀ (f d : Nat) (C : List Fr) (T : BT), RepT ns (plug C T) → CtxOk lo hi rt d C → Bel lo hi d T → ((C = [] → T.es.length ≤ rt) ∧ (C ≠ [] → lo ≤ T.es.length ∧ T.es.length ≤ hi)) → d < f →
    ∃ D T' d', plug D T' = T ∧ CtxOk lo hi rt d' (D ++ C) ∧ Bel lo hi d' T' ∧ ((D ++ C = [] → T'.es.length ≤ rt) ∧ (D ++ C ≠ [] → lo ≤ T'.es.length ∧ T'.es.length ≤ hi)) ∧ d' + D.length = d ∧
      (pthN co ns key f T.idx).1 = (D.map Fr.i).reverse ++ [T'.idx] ∧ (pthN co ns key f T.idx).2 = (plc co T'.es key, fnd co T'.es key) ∧ (fnd co T'.es key = true ∨ T'.ks = []) ∧ Leads co key D
  | 0, d, C, T, _, _, _, _, h => absurd h (Nat.not_lt_zero _)
  | f + 1, d, C, T, hR, hC, hB, hb, hd => by
    have hat := hR.at_
    have hes : (nth ns T.idx).es = T.es := by rw [hat.2]
    have hcs : (nth ns T.idx).cs = idxs T.ks := by rw [hat.2]
    rw [pthN, hes, hcs, idxs_len]
    by_cases h1 : fnd co T.es key = true ∨ T.ks.length = 0
    · rw [if_pos h1]
      exact ⟨[], T, d, rfl, hC, hB, hb, by simp, rfl, rfl, h1.imp id fun h => List.eq_nil_of_length_eq_zero h, fun f hf => (nomatch hf)⟩
    · rw [if_neg h1]
      have hk : ¬ T.ks.length = 0 := fun h => h1 (.inr h)
      obtain ⟨d', rfl⟩ : ∃ d', d = d' + 1 := by
        cases d with
        | zero => exact absurd (show T.ks.length = 0 by rw [show T.ks = [] from hB]; rfl) hk
        | succ d' => exact ⟨d', rfl⟩
      have hp : plc co T.es key < T.ks.length := by
        have := plc_le co key T.es
        have := hB.1
        omega
      have hsp := split_at hp
      generalize hl : T.ks.take (plc co T.es key) = l at hsp
      generalize hr : T.ks.drop (plc co T.es key + 1) = r at hsp
      generalize hK : nth T.ks (plc co T.es key) = K at hsp
      have hll : l.length = plc co T.es key := by rw [← hl, List.length_take]; omega
      have hT : T = Fr.fill ⟨T.idx, T.es, l, r⟩ K := by
        have := T.eta
        rw [hsp] at this
        exact this
      have hbal : ∀ k ∈ T.ks, Bal lo hi d' k := hB.2
      have hBK : Bal lo hi d' K := hbal K (by rw [hsp]; simp)
      have hci : ((idxs T.ks).getD (plc co T.es key) 0).toNat = K.idx := by
        rw [hsp, idxs_app, idxs_cons, ← hll, ← idxs_len l, getD_mid]
        rfl
      rw [hci]
      have hctx : CtxOk lo hi rt d' (⟨T.idx, T.es, l, r⟩ :: C) := ⟨⟨fun k hk => hbal k (by rw [hsp]; simp [hk]), fun k hk => hbal k (by rw [hsp]; simp [hk])⟩, by
        show l.length + r.length = T.es.length
        have h9 := hB.1
        rw [hsp] at h9
        simp only [List.length_append, List.length_cons] at h9
        omega, hb, hC⟩
      have hb2 := bal_iff.1 hBK
      obtain ⟨D, T', d9, e1, e2, e3, e4, e5, e6, e7, e8, e9⟩ := desc f d' (⟨T.idx, T.es, l, r⟩ :: C) K (by
        show RepT ns (plug C (Fr.fill _ K))
        rw [← hT]
        exact hR) hctx hb2.1 ⟨fun h => (nomatch h), fun _ => hb2.2⟩ (by omega)
      refine ⟨D ++ [⟨T.idx, T.es, l, r⟩], T', d9, ?_, ?_, e3, ?_, ?_, ?_, e7, e8, fun g hg => ?_⟩
      · rw [plug_app, e1]
        exact hT.symm
      · rw [List.append_assoc]
        exact e2
      · rw [List.append_assoc]
        exact e4
      · simp only [List.length_append, List.length_singleton]
        omega
      · rw [e6]
        simp
      · rcases List.mem_append.1 hg with hg | hg
        · exact e9 g hg
        · rcases List.mem_singleton.1 hg
          exact ⟨hll, fun h => h1 (.inl h)⟩
theorem nodesL_mem {k : BT} : ∀ {ks : List BT}, k ∈ ks → k.nodes.length ≤ (nodesL ks).length
  | [], h => (nomatch h)
  | x :: ks, h => by
    rw [nodesL, List.length_append]
    rcases List.mem_cons.1 h with rfl | h
    · omega
    · have := nodesL_mem (ks := ks) h
      omega
theorem nodes_len (T : BT) : T.nodes.length = (nodesL T.ks).length + 1 := by
  cases T with
  | nd i es ks => rw [BT.nodes, List.length_cons]; rfl
theorem bel_deep {lo hi : Nat} : ∀ {d : Nat} {T : BT}, Bel lo hi d T → d + 1 ≤ T.nodes.length
  | 0, T, _ => by
    rw [nodes_len]
    omega
  | d + 1, T, h => by
    obtain ⟨k, ks, e⟩ : ∃ k ks, T.ks = k :: ks := by
      cases hk : T.ks with
      | nil =>
        have := h.1
        rw [hk] at this
        simp at this
      | cons k ks => exact ⟨k, ks, rfl⟩
    have hm : k ∈ T.ks := by rw [e]; exact List.mem_cons_self ..
    have h1 := bel_deep (bal_iff.1 (h.2 k hm)).1
    have h2 := nodesL_mem hm
    rw [nodes_len]
    omega
theorem RepT.nlen {ns : List Nd} {T : BT} (h : RepT ns T) : T.nodes.length ≤ ns.length := by
  have := nodup_le ns.length (T.nodes.map Prod.fst) h.nd fun x hx => by
    obtain ⟨p, hp, rfl⟩ := List.mem_map.1 hx
    exact RepN.lt h hp
  rwa [List.length_map] at this
section
variable {ns : List Nd} {mo : Int} {f : Fr} {C : List Fr} {i : Nat} {es : List TEnt} {ks : List BT}
end
def NoGap (rt : Nat) (T : BT) : Prop := T.es = [] → ∀ k, T.ks = [k] → rt < k.es.length
def GapC (rt : Nat) : List Fr → Nat → Prop
  | [], _ => True
  | [f], n => f.es = [] → rt < n
  | f :: g :: C, _ => GapC rt (g :: C) f.es.length
theorem GapC.mono {rt : Nat} : ∀ {C : List Fr} {n m : Nat}, GapC rt C n → n ≤ m → GapC rt C m
  | [], _, _, _, _ => trivial
  | [f], n, m, h, hm => fun e => Nat.lt_of_lt_of_le (h e) hm
  | f :: g :: C, _, _, h, _ => h
theorem gapC_of {lo hi rt : Nat} : ∀ {D : List Fr} {d : Nat} {T : BT}, CtxOk lo hi rt d D → NoGap rt (plug D T) → GapC rt D T.es.length
  | [], _, T, _, _ => trivial
  | [f], _, T, hC, h => fun e => by
    have h1 := hC.2.1
    rw [e] at h1
    have hl : f.l = [] := List.eq_nil_of_length_eq_zero (by simp only [List.length_nil] at h1; omega)
    have hr : f.r = [] := List.eq_nil_of_length_eq_zero (by simp only [List.length_nil] at h1; omega)
    refine h e T ?_
    show f.l ++ T :: f.r = [T]
    rw [hl, hr]
    rfl
  | f :: g :: C, d, T, hC, h => gapC_of (D := g :: C) (T := f.fill T) hC.2.2.2 h
theorem take_rev {P A : List Nat} {x : Nat} (h : P.take (A.length + 1) = (x :: A).reverse) : nth P A.length = x ∧ P.take A.length = A.reverse := by
  rw [List.reverse_cons] at h
  constructor
  · apply nth_eq
    have h1 : (P.take (A.length + 1))[A.length]? = some x := by
      rw [h, List.getElem?_append_right (by simp)]
      simp
    rw [List.getElem?_take] at h1
    simpa using h1
  · have h1 : (P.take (A.length + 1)).take A.length = A.reverse := by
      rw [h, List.take_append_of_le_length (by simp), List.take_of_length_le (by simp)]
    rw [List.take_take] at h1
    rw [← h1]
    congr 1
    omega
def LastU (ns : List Nd) : Prop := (nth ns (ns.length - 1)).us = true
theorem us_set {ns : List Nd} {i : Nat} {x : Nd} (hx : x.us = (nth ns i).us) (k : Nat) : (nth (ns.set i x) k).us = (nth ns k).us := by
  rw [nth_set_nd]
  split
  · rename_i h
    rw [hx, h.1]
  · rfl
theorem us_es (ns : List Nd) (i : Nat) (es : List TEnt) (k : Nat) : (nth (esN ns i es) k).us = (nth ns k).us := us_set (x := { nth ns i with es := es }) rfl k
theorem us_cs (ns : List Nd) (i : Nat) (cs : List Int) (k : Nat) : (nth (csN ns i cs) k).us = (nth ns k).us := us_set (x := { nth ns i with cs := cs }) rfl k
theorem LastU.es {ns : List Nd} (h : LastU ns) (i : Nat) (es : List TEnt) : LastU (esN ns i es) := by
  unfold LastU
  rw [esN_len, us_es]
  exact h
theorem LastU.cs {ns : List Nd} (h : LastU ns) (i : Nat) (cs : List Int) : LastU (csN ns i cs) := by
  unfold LastU
  rw [csN_len, us_cs]
  exact h
theorem LastU.fre {ns : List Nd} (h : LastU ns) : LastU (freN ns).2 := by
  unfold freN
  split
  · unfold LastU usN
    simp only [List.length_set]
    rw [nth_set_nd]
    split
    · rfl
    · exact h
  · unfold LastU
    simp only [List.length_append, List.length_singleton, Nat.add_sub_cancel]
    rw [nth_mid']
theorem LastU.spl {ns : List Nd} (h : LastU ns) (mo : Int) (i : Nat) : LastU (splN mo ns i) := by
  unfold splN addP
  refine LastU.cs (LastU.es ?_ _ _) _ _
  unfold splA
  split
  · exact (h.fre.es _ _).es _ _
  · exact (((h.fre.es _ _).es _ _).cs _ _).cs _ _
structure Grown (mo : Int) (lo hi rt : Nat) (P : List Nat) (m k : Nat) (ns : List Nd) (W : List Nat) (fl : List TEnt) : Prop where
  ok : GrwOk mo ns W
  okR : GrwROk mo P k ns
  same : grwRW mo P k ns = grwW mo ns W
  tree : ∃ T d, RepT (grwW mo ns W) T ∧ T.idx = 0 ∧ Bel lo hi d T ∧ T.es.length ≤ rt + 1 ∧ NoGap rt T ∧ T.flat = fl
  sm : Sm (m + k) (grwW mo ns W)
  len : ns.length ≤ (grwW mo ns W).length ∧ (grwW mo ns W).length ≤ ns.length + k
  last : LastU (grwW mo ns W)
def Srt (co : Int) (l : List TEnt) : Prop := l.Pairwise fun a b => cmpK co a.key b.key < 0
theorem cmpK_anti {co : Int} {a b : List UInt8} (h : ¬ cmpK co a b < 0) (h2 : cmpK co a b ≠ 0) : cmpK co b a < 0 := by
  have := cmpK_swap co a b
  omega
theorem Srt.asc {co : Int} {l : List TEnt} (h : Srt co l) : Asc co l := fun k hk => by
  have := List.pairwise_iff_getElem.1 h k (k + 1) (by omega) hk (by omega)
  rw [show nth l k = l[k] from nth_eq (List.getElem?_eq_getElem (by omega)), show nth l (k + 1) = l[k + 1] from nth_eq (List.getElem?_eq_getElem hk)]
  exact this
theorem Srt.of_asc {co : Int} {l : List TEnt} (h : Asc co l) : Srt co l := List.pairwise_iff_getElem.2 fun i j hi hj hij => by
  have := h.lt hij hj
  rw [show nth l i = l[i] from nth_eq (List.getElem?_eq_getElem hi), show nth l j = l[j] from nth_eq (List.getElem?_eq_getElem hj)] at this
  exact this
theorem plc_app1 {co : Int} {key : List UInt8} : ∀ {A l : List TEnt}, (∀ x ∈ A, cmpK co x.key key < 0) → plc co (A ++ l) key = A.length + plc co l key
  | [], l, _ => by simp
  | a :: A, l, h => by
    rw [List.cons_append, plc, if_pos (h a (List.mem_cons_self ..)), plc_app1 fun x hx => h x (List.mem_cons_of_mem _ hx), List.length_cons]
    omega
theorem plc_app2 {co : Int} {key : List UInt8} : ∀ {l B : List TEnt}, (∀ x ∈ B, cmpK co key x.key < 0) → plc co (l ++ B) key = plc co l key
  | [], [], _ => rfl
  | [], b :: B, h => by
    have h1 := h b (List.mem_cons_self ..)
    have h2 := cmpK_swap co b.key key
    show plc co (b :: B) key = 0
    rw [plc, if_neg (by omega)]
  | a :: l, B, h => by
    rw [List.cons_append, plc, plc, plc_app2 h]
def HasK (co : Int) (l : List TEnt) (key : List UInt8) : Prop := ∃ y ∈ l, cmpK co y.key key = 0
theorem flatA_lt {co : Int} {key : List UInt8} : ∀ {es : List TEnt} {l : List BT}, Srt co (flatA es l) → l.length ≤ es.length → (∀ j, j < l.length → cmpK co (nth es j).key key < 0) → ∀ x ∈ flatA es l, cmpK co x.key key < 0
  | es, [], _, _, _, x, hx => by
    have e : flatA es [] = [] := by cases es <;> rfl
    rw [e] at hx
    cases hx
  | [], k :: l, _, h, _, x, hx => absurd h (by simp)
  | e :: es, k :: l, hs, hl, h, x, hx => by
    rw [flatA] at hs hx
    have h1 := List.pairwise_append.1 hs
    have he : cmpK co e.key key < 0 := h 0 (by simp)
    rcases List.mem_append.1 hx with hx | hx
    · exact cmpK_trans (h1.2.2 x hx e (List.mem_cons_self ..)) he
    · rcases List.mem_cons.1 hx with rfl | hx
      · exact he
      · exact flatA_lt (List.pairwise_cons.1 h1.2.1).2 (by simpa using hl) (fun j hj => h (j + 1) (by simpa using hj)) x hx
theorem pre_lt {co : Int} {key : List UInt8} {lo hi rt : Nat} : ∀ {D : List Fr} {d : Nat}, CtxOk lo hi rt d D → Leads co key D → Srt co (preC D) → ∀ x ∈ preC D, cmpK co x.key key < 0
  | [], _, _, _, _, x, hx => (nomatch hx)
  | f :: D, d, hC, hL, hs, x, hx => by
    rw [preC] at hs hx
    have h1 := List.pairwise_append.1 hs
    have hf := hL f (List.mem_cons_self ..)
    have hlen := hC.2.1
    rcases List.mem_append.1 hx with hx | hx
    · exact pre_lt hC.2.2.2 (fun g hg => hL g (List.mem_cons_of_mem _ hg)) h1.1 x hx
    · exact flatA_lt h1.2.1 (by omega) (fun j hj => plc_before co key f.es j (by omega)) x hx
theorem suf_gt {co : Int} {key : List UInt8} {lo hi rt : Nat} : ∀ {D : List Fr} {d : Nat}, CtxOk lo hi rt d D → Leads co key D → Srt co (sufC D) → ∀ x ∈ sufC D, cmpK co key x.key < 0
  | [], _, _, _, _, x, hx => (nomatch hx)
  | f :: D, d, hC, hL, hs, x, hx => by
    rw [sufC] at hs hx
    have h1 := List.pairwise_append.1 hs
    have hf := hL f (List.mem_cons_self ..)
    rcases List.mem_append.1 hx with hx | hx
    · rcases Nat.lt_or_ge f.l.length f.es.length with h2 | h2
      · have e : f.es.drop f.l.length = nth f.es f.l.length :: f.es.drop (f.l.length + 1) := by
          rw [List.drop_eq_getElem_cons h2, show nth f.es f.l.length = f.es[f.l.length] from nth_eq (List.getElem?_eq_getElem h2)]
        have hgt : cmpK co key (nth f.es f.l.length).key < 0 := by
          refine cmpK_anti ?_ fun h3 => ?_
          · rw [hf.1] at h2 ⊢
            exact plc_at co key f.es h2
          · refine hf.2 ?_
            unfold fnd
            rw [← hf.1, decide_eq_true h2, decide_eq_true h3]
            rfl
        rw [e] at hx h1
        cases hr : f.r with
        | nil =>
          rw [hr] at hx
          cases hx
        | cons k r =>
          rw [hr] at hx h1
          rw [flatZ] at hx h1
          rcases List.mem_cons.1 hx with rfl | hx
          · exact hgt
          · exact cmpK_trans hgt ((List.pairwise_cons.1 h1.1).1 x hx)
      · rw [List.drop_of_length_le h2] at hx
        cases hx
    · exact suf_gt hC.2.2.2 (fun g hg => hL g (List.mem_cons_of_mem _ hg)) h1.2.1 x hx
structure Sz (mo rm : Int) (lo hi rt : Nat) : Prop where
  emo : mo = (hi : Int)
  erm : rm = (rt : Int)
  elo : lo = hi / 2
  hi3 : 3 ≤ hi
  hi8 : hi ≤ 8
  lr : lo ≤ rt
  rh : rt ≤ hi
theorem sz_of {mo rm : Int} (h : sizE mo rm = 0) : Sz mo rm (mo.toNat / 2) mo.toNat rm.toNat := by
  have h1 := sizE_0 h
  constructor <;> omega
structure VT (co : Int) (lo hi rt d : Nat) (T : BT) : Prop where
  idx : T.idx = 0
  bel : Bel lo hi d T
  root : T.es.length ≤ rt
  gap : NoGap rt T
  srt : Srt co T.flat
  ents : ∀ x ∈ T.flat, entE co x = 0
theorem nodesL_in {k : BT} {p : Nat × Nd} : ∀ {ks : List BT}, p ∈ nodesL ks → ∃ k ∈ ks, p ∈ k.nodes
  | [], h => by
    rw [nodesL] at h
    cases h
  | x :: ks, h => by
    rw [nodesL] at h
    rcases List.mem_append.1 h with h | h
    · exact ⟨x, List.mem_cons_self .., h⟩
    · obtain ⟨k, hk, h2⟩ := nodesL_in (k := k) h
      exact ⟨k, List.mem_cons_of_mem _ hk, h2⟩
theorem nodes_sm {lo hi : Nat} : ∀ {d : Nat} {T : BT}, Bel lo hi d T → ∀ {n : Nat}, hi ≤ n → T.es.length ≤ n → ∀ p ∈ T.nodes, p.2.es.length ≤ n + 1 ∧ p.2.cs.length ≤ n + 1
  | 0, .nd i es ks, h, n, hn, hl, p, hp => by
    have e : ks = [] := h
    rw [e, BT.nodes, nodesL] at hp
    rcases List.mem_cons.1 hp with rfl | hp
    · exact ⟨Nat.le_succ_of_le hl, by show 0 ≤ _; omega⟩
    · cases hp
  | d + 1, .nd i es ks, h, n, hn, hl, p, hp => by
    rw [BT.nodes] at hp
    have hl' : es.length ≤ n := hl
    have h1 : ks.length = es.length + 1 := h.1
    rcases List.mem_cons.1 hp with rfl | hp
    · refine ⟨Nat.le_succ_of_le hl, ?_⟩
      show (idxs ks).length ≤ _
      rw [idxs_len]
      omega
    · obtain ⟨k, hk, hp⟩ := nodesL_in (k := default) hp
      have h2 := bal_iff.1 (h.2 k hk)
      exact nodes_sm h2.1 hn (by omega) p hp
theorem RepT.sm {ns : List Nd} {T : BT} {lo hi d n : Nat} (h : RepT ns T) (hB : Bel lo hi d T) (hn : hi ≤ n) (hl : T.es.length ≤ n) : Sm (n + 1) ns := fun k => by
  rcases Nat.lt_or_ge k ns.length with hk | hk
  · by_cases hm : k ∈ T.nodes.map Prod.fst
    · obtain ⟨p, hp, rfl⟩ := List.mem_map.1 hm
      have h1 := RepN.at_ (i := p.1) (x := p.2) h hp
      rw [h1.2]
      exact nodes_sm hB hn hl p hp
    · rw [h.rest k hk hm]
      exact ⟨Nat.zero_le _, Nat.zero_le _⟩
  · rw [nth_out hk]
    exact ⟨Nat.zero_le _, Nat.zero_le _⟩
structure RootGrown (mo rm : Int) (lo hi rt m : Nat) (ns : List Nd) (fl : List TEnt) : Prop where
  ok : RootOk mo rm ns
  okR : RootROk mo rm ns
  same : grwRR mo rm ns = grwR mo rm ns
  tree : ∃ T d, RepT (grwR mo rm ns) T ∧ T.idx = 0 ∧ Bel lo hi d T ∧ T.es.length ≤ rt ∧ NoGap rt T ∧ T.flat = fl
  len : ns.length ≤ (grwR mo rm ns).length ∧ (grwR mo rm ns).length ≤ ns.length + 2
  last : LastU (grwR mo rm ns)
theorem vt_desc {co : Int} {lo hi rt d : Nat} {ns : List Nd} {T : BT} (hR : RepT ns T) (hV : VT co lo hi rt d T) (key : List UInt8) : ∃ D T' d', plug D T' = T ∧ CtxOk lo hi rt d' D ∧ Bel lo hi d' T' ∧ ((D = [] → T'.es.length ≤ rt) ∧ (D ≠ [] → lo ≤ T'.es.length ∧ T'.es.length ≤ hi)) ∧ d' + D.length = d ∧ d < ns.length ∧
    (pathN co ns key).1 = (D.map Fr.i).reverse ++ [T'.idx] ∧ (pathN co ns key).2 = (plc co T'.es key, fnd co T'.es key) ∧ (fnd co T'.es key = true ∨ T'.ks = []) ∧ Leads co key D := by
  have h1 := bel_deep hV.bel
  have h2 := hR.nlen
  obtain ⟨D, T', d', e1, e2, e3, e4, e5, e6, e7, e8, e9⟩ := desc (key := key) (rt := rt) (co := co) ns.length d [] T hR trivial hV.bel ⟨fun _ => hV.root, fun h => absurd rfl h⟩ (by omega)
  rw [hV.idx] at e6 e7
  simp only [List.append_nil] at e2 e4
  exact ⟨D, T', d', e1, e2, e3, e4, e5, by omega, e6, e7, e8, e9⟩
theorem last_app (A : List Nat) (i : Nat) : lastN (A ++ [i]) = i := by
  unfold lastN
  rw [List.length_append, List.length_singleton, Nat.add_sub_cancel]
  exact nth_mid' A i []
structure Inserted (co mo rm : Int) (lo hi rt : Nat) (ns : List Nd) (x : TEnt) (fl : List TEnt) : Prop where
  ok : InsOk co mo rm ns x
  okR : InsROk co mo rm ns x
  same : insR co mo rm ns x = insT co mo rm ns x
  tree : ∃ T d, RepT (insT co mo rm ns x) T ∧ VT co lo hi rt d T ∧ T.flat = insAt fl (plc co fl x.key) x
  len : ns.length ≤ (insT co mo rm ns x).length ∧ (insT co mo rm ns x).length ≤ 2 * ns.length + 2
  last : LastU (insT co mo rm ns x)
def btN (ns : List Nd) : Nat → Nat → BT
  | 0, i => .nd i [] []
  | f + 1, i => .nd i (nth ns i).es ((nth ns i).cs.map fun c => btN ns f c.toNat)
theorem btN_idx (ns : List Nd) (f i : Nat) : (btN ns f i).idx = i := by cases f <;> rfl
theorem idxs_map {ns : List Nd} {f : Nat} : ∀ {cs : List Int}, (∀ c ∈ cs, 0 ≤ c) → idxs (cs.map fun c => btN ns f c.toNat) = cs
  | [], _ => rfl
  | c :: cs, h => by
    rw [List.map_cons, idxs_cons, idxs_map fun x hx => h x (List.mem_cons_of_mem _ hx), btN_idx, Int.toNat_of_nonneg (h c (List.mem_cons_self ..))]
theorem nodesL_map {α : Type} (g : α → BT) : ∀ (cs : List α), nodesL (cs.map g) = cs.flatMap fun c => (g c).nodes
  | [] => rfl
  | c :: cs => by rw [List.map_cons, nodesL, nodesL_map g cs, List.flatMap_cons]
theorem flat_congr {α β : Type} {f g : α → List β} : ∀ {l : List α}, (∀ x ∈ l, f x = g x) → l.flatMap f = l.flatMap g
  | [], _ => rfl
  | a :: l, h => by rw [List.flatMap_cons, List.flatMap_cons, h a (List.mem_cons_self ..), flat_congr fun x hx => h x (List.mem_cons_of_mem _ hx)]
theorem range_flat {α : Type} (F : Int → List α) : ∀ (cs : List Int), ((List.range cs.length).flatMap fun k => F (cs.getD k 0)) = cs.flatMap F
  | [] => rfl
  | c :: cs => by
    rw [List.length_cons, List.range_succ_eq_map, List.flatMap_cons, List.flatMap_map, List.flatMap_cons, ← range_flat F cs]
    rfl
theorem way_uniq {co : Int} {ns : List Nd} (hT : TOk co ns) : ∀ {A B : List Nat} {c : Nat}, Gx.Way ns (c :: A) → Gx.Way ns (c :: B) → A = B
  | [], [], _, _, _ => rfl
  | [], q :: B, c, h, h2 => by
    have h0 : c = 0 := h
    have := (hT.kid q h2.1.2 _ h2.1.1).1.1
    omega
  | p :: A, [], c, h, h2 => by
    have h0 : c = 0 := h2
    have := (hT.kid p h.1.2 _ h.1.1).1.1
    omega
  | p :: A, q :: B, c, h, h2 => by
    have e : p = q := flat_parent (f := Nd.cs) hT.once h.1.2 h2.1.2 h.1.1 h2.1.1
    subst e
    rw [way_uniq hT h.2 h2.2]
section
variable {co : Int} {ns : List Nd}
theorem way_c (hT : TOk co ns) {i : Nat} {P : List Nat} {c : Int} (hw : Gx.Way ns (i :: P)) (hi : i < ns.length) (hc : c ∈ (nth ns i).cs) : Gx.Way ns (c.toNat :: i :: P) := by
  refine ⟨⟨?_, hi⟩, hw⟩
  rw [Int.toNat_of_nonneg (by have := (hT.kid i hi c hc).1.1; omega)]
  exact hc
theorem way_hd (hT : TOk co ns) (h0 : 0 < ns.length) {i : Nat} {P : List Nat} (hw : Gx.Way ns (i :: P)) : i < ns.length := way_lt hT h0 hw i (List.mem_cons_self ..)
theorem way_us (hT : TOk co ns) (h0 : 0 < ns.length) : ∀ {i : Nat} {P : List Nat}, Gx.Way ns (i :: P) → (nth ns i).us = true
  | i, [], h => by
    have e : i = 0 := h
    subst e
    cases hu : (nth ns 0).us with
    | true => rfl
    | false =>
      have := (hT.free 0 h0 hu).1.1
      omega
  | i, p :: P, h => by
    have := (hT.kid p h.1.2 _ h.1.1).2
    exact this
theorem btN_get (hT : TOk co ns) (h0 : 0 < ns.length) : ∀ (f i : Nat) (P : List Nat), Gx.Way ns (i :: P) → P.length + f = ns.length → ∀ p ∈ (btN ns f i).nodes, ns[p.1]? = some p.2 ∧ ∃ Q R, Gx.Way ns (Q ++ i :: P) ∧ Q ++ i :: P = p.1 :: R
  | 0, i, P, hw, hf, p, hp => by
    have := way_len hT h0 hw
    simp only [List.length_cons] at this
    omega
  | f + 1, i, P, hw, hf, p, hp => by
    have hi := way_hd hT h0 hw
    have hk : ∀ c ∈ (nth ns i).cs, 0 ≤ c := fun c hc => by
      have := (hT.kid i hi c hc).1.1
      omega
    rw [btN, BT.nodes, idxs_map hk, nodesL_map] at hp
    rcases List.mem_cons.1 hp with rfl | hp
    · refine ⟨?_, [], P, hw, rfl⟩
      have hu := way_us hT h0 hw
      rw [nth_get hi]
      show some (nth ns i) = some ⟨true, (nth ns i).es, (nth ns i).cs⟩
      rw [← hu]
    · obtain ⟨c, hc, hp⟩ := List.mem_flatMap.1 hp
      obtain ⟨h1, Q, R, h2, h3⟩ := btN_get hT h0 f c.toNat (i :: P) (way_c hT hw hi hc) (by simp only [List.length_cons]; omega) p hp
      refine ⟨h1, Q ++ [c.toNat], R, ?_, ?_⟩
      · rw [List.append_assoc]
        exact h2
      · rw [List.append_assoc]
        exact h3
theorem btN_nd (hT : TOk co ns) (h0 : 0 < ns.length) : ∀ (f i : Nat) (P : List Nat), Gx.Way ns (i :: P) → P.length + f = ns.length → ((btN ns f i).nodes.map Prod.fst).Nodup
  | 0, i, P, hw, hf => by
    have := way_len hT h0 hw
    simp only [List.length_cons] at this
    omega
  | f + 1, i, P, hw, hf => by
    have hi := way_hd hT h0 hw
    have hlen : (i :: P).length + f = ns.length := by simp only [List.length_cons]; omega
    rw [btN, BT.nodes, nodesL_map, List.map_cons, List.map_flatMap]
    refine List.nodup_cons.2 ⟨fun hm => ?_, ?_⟩
    · obtain ⟨c, hc, hm⟩ := List.mem_flatMap.1 hm
      obtain ⟨p, hp, e⟩ := List.mem_map.1 hm
      obtain ⟨_, Q, R, h2, h3⟩ := btN_get hT h0 f c.toNat (i :: P) (way_c hT hw hi hc) hlen p hp
      rw [h3, e] at h2
      have h4 := way_uniq hT h2 hw
      have h5 := congrArg List.length h3
      rw [h4] at h5
      simp only [List.length_append, List.length_cons] at h5
      omega
    · refine List.pairwise_flatMap.2 ⟨fun c hc => btN_nd hT h0 f c.toNat (i :: P) (way_c hT hw hi hc) hlen, ?_⟩
      refine (flat_nodup (f := Nd.cs) hT.once hi).imp_of_mem fun {c c'} hc hc' hne x hx y hy exy => ?_
      subst exy
      obtain ⟨p, hp, e⟩ := List.mem_map.1 hx
      obtain ⟨q, hq, e'⟩ := List.mem_map.1 hy
      obtain ⟨_, Q, R, h2, h3⟩ := btN_get hT h0 f c.toNat (i :: P) (way_c hT hw hi hc) hlen p hp
      obtain ⟨_, Q', R', h2', h3'⟩ := btN_get hT h0 f c'.toNat (i :: P) (way_c hT hw hi hc') hlen q hq
      rw [e] at h3
      rw [e'] at h3'
      have h4 := way_uniq hT (h3 ▸ h2) (h3' ▸ h2')
      have h5 : Q ++ c.toNat :: i :: P = Q' ++ c'.toNat :: i :: P := by rw [h3, h3', h4]
      have h6 : Q.length = Q'.length := by
        have := congrArg List.length h5
        simp only [List.length_append, List.length_cons] at this
        omega
      have h7 := (List.append_inj h5 h6).2
      have h8 : c.toNat = c'.toNat := (List.cons.inj h7).1
      have k1 := (hT.kid i hi c hc).1.1
      have k2 := (hT.kid i hi c' hc').1.1
      exact hne (by omega)
theorem vis_bt (hT : TOk co ns) (h0 : 0 < ns.length) : ∀ (f : Nat) (v : Vis) (P : List Nat), Gx.Way ns (v.i :: P) → P.length + f = ns.length → (vis ns f v).map Vis.i = (btN ns f v.i).nodes.map Prod.fst
  | 0, v, P, hw, hf => by
    have := way_len hT h0 hw
    simp only [List.length_cons] at this
    omega
  | f + 1, v, P, hw, hf => by
    have hi := way_hd hT h0 hw
    rw [vis, btN, BT.nodes, nodesL_map, List.map_cons, List.map_cons, List.map_flatMap, List.map_flatMap]
    congr 1
    rw [← range_flat]
    refine flat_congr fun k hk => ?_
    have hkl := List.mem_range.1 hk
    have hc : (nth ns v.i).cs.getD k 0 ∈ (nth ns v.i).cs := by
      rw [List.getD_eq_getElem?_getD, List.getElem?_eq_getElem hkl]
      exact List.getElem_mem hkl
    exact vis_bt hT h0 f ⟨((nth ns v.i).cs.getD k 0).toNat, v.d + 1, loK (nth ns v.i).es k v.lo, hiK (nth ns v.i).es k v.hi⟩ (v.i :: P) (way_c hT hw hi hc) (by simp only [List.length_cons]; omega)
end
def InB (co : Int) (lo hi : Option (List UInt8)) (x : TEnt) : Prop := (∀ b, lo = some b → cmpK co b x.key < 0) ∧ (∀ b, hi = some b → cmpK co x.key b < 0)
theorem out_iff' {t : Tre} {v : Vis} {x : TEnt} : outB t v x = true ↔ (∃ b, v.lo = some b ∧ 0 ≤ cmpK t.co b x.key) ∨ (∃ b, v.hi = some b ∧ 0 ≤ cmpK t.co x.key b) := by
  unfold outB
  cases v.lo <;> cases v.hi <;> simp
theorem out_in {t : Tre} {v : Vis} {x : TEnt} (h : ¬ outB t v x = true) : InB t.co v.lo v.hi x := by
  rw [out_iff'] at h
  refine ⟨fun b hb => ?_, fun b hb => ?_⟩
  · rcases Int.lt_or_le (cmpK t.co b x.key) 0 with h1 | h1
    · exact h1
    · exact absurd (.inl ⟨b, hb, h1⟩) h
  · rcases Int.lt_or_le (cmpK t.co x.key b) 0 with h1 | h1
    · exact h1
    · exact absurd (.inr ⟨b, hb, h1⟩) h
theorem srt_flatL {co : Int} {hi : Option (List UInt8)} : ∀ {es : List TEnt} {ks : List BT} {lo : Option (List UInt8)}, ks.length = es.length + 1 → Srt co es → (∀ x ∈ es, InB co lo hi x) →
    (∀ k, k < ks.length → Srt co (nth ks k).flat ∧ ∀ x ∈ (nth ks k).flat, InB co (loK es k lo) (hiK es k hi) x) → Srt co (flatL es ks) ∧ ∀ x ∈ flatL es ks, InB co lo hi x
  | [], [], _, h, _, _, _ => absurd h (by simp)
  | [], k :: k' :: ks, _, h, _, _, _ => absurd h (by simp)
  | [], [k], lo, _, _, _, hk => by
    rw [flatL, flatL, List.append_nil]
    exact hk 0 (by simp)
  | e :: es, [], _, h, _, _, _ => absurd h (by simp)
  | e :: es, k :: ks, lo, hl, hs, hb, hk => by
    have hp := List.pairwise_cons.1 hs
    have he := hb e (List.mem_cons_self ..)
    have h0 := hk 0 (by simp)
    have e0 : nth (k :: ks) 0 = k := rfl
    have e1 : loK (e :: es) 0 lo = lo := if_neg (Nat.lt_irrefl 0)
    have e2 : hiK (e :: es) 0 hi = some e.key := if_pos (by simp)
    rw [e0, e1, e2] at h0
    have ih := srt_flatL (co := co) (hi := hi) (es := es) (ks := ks) (lo := some e.key) (by simpa using hl) hp.2 (fun x hx => ⟨fun b hb' => by injection hb' with hb'; subst hb'; exact hp.1 x hx, (hb x (List.mem_cons_of_mem _ hx)).2⟩) (fun q hq => by
      have h1 := hk (q + 1) (by simpa using hq)
      have e3 : nth (k :: ks) (q + 1) = nth ks q := rfl
      have e4 : loK (e :: es) (q + 1) lo = loK es q (some e.key) := by
        unfold loK
        rw [if_pos (by omega)]
        rcases Nat.eq_zero_or_pos q with h9 | h9
        · subst h9
          rfl
        · rw [if_pos h9]
          obtain ⟨r, rfl⟩ : ∃ r, q = r + 1 := ⟨q - 1, by omega⟩
          rfl
      have e5 : hiK (e :: es) (q + 1) hi = hiK es q hi := by
        unfold hiK
        by_cases h9 : q < es.length
        · rw [if_pos h9, if_pos (by simpa using h9)]
          rfl
        · rw [if_neg h9, if_neg (by simpa using h9)]
      rw [e3, e4, e5] at h1
      exact h1)
    rw [flatL]
    have hge : ∀ x ∈ flatL es ks, cmpK co e.key x.key < 0 := fun x hx => (ih.2 x hx).1 _ rfl
    have hle : ∀ x ∈ k.flat, cmpK co x.key e.key < 0 := fun x hx => (h0.2 x hx).2 _ rfl
    refine ⟨List.pairwise_append.2 ⟨h0.1, List.pairwise_cons.2 ⟨hge, ih.1⟩, fun x hx y hy => ?_⟩, fun x hx => ?_⟩
    · rcases List.mem_cons.1 hy with rfl | hy
      · exact hle x hx
      · exact cmpK_trans (hle x hx) (hge y hy)
    · rcases List.mem_append.1 hx with hx | hx
      · exact ⟨(h0.2 x hx).1, fun b hb' => cmpK_trans (hle x hx) (he.2 b hb')⟩
      · rcases List.mem_cons.1 hx with rfl | hx
        · exact he
        · exact ⟨fun b hb' => cmpK_trans (he.1 b hb') (hge x hx), (ih.2 x hx).2⟩
theorem shp_all {t : Tre} {deep : Int} : ∀ {vs : List Vis}, (shpF t deep vs).2 = 0 → ∀ v ∈ vs, visE t deep v = 0
  | [], _, v, hv => (nomatch hv)
  | u :: vs, h, v, hv => by
    rw [shpF] at h
    by_cases h1 : visE t deep u = 0
    · rw [if_pos h1] at h
      rcases List.mem_cons.1 hv with rfl | hv
      · exact h1
      · exact shp_all h v hv
    · rw [if_neg h1] at h
      exact absurd h h1
theorem visE_0 {t : Tre} {deep : Int} {v : Vis} (h : visE t deep v = 0) : ¬ gapB t v = true ∧ (∀ x ∈ (nth t.ns v.i).es, InB t.co v.lo v.hi x) ∧ ((nth t.ns v.i).cs.length = 0 → v.d = deep + 1) := by
  rw [visE_eq] at h
  split at h
  · exact absurd h (by decide)
  · rename_i h1
    split at h
    · exact absurd h (by decide)
    · rename_i h2
      split at h
      · exact absurd h (by decide)
      · rename_i h3
        refine ⟨h1, fun x hx => out_in fun h4 => h2 ?_, fun h4 => ?_⟩
        · unfold outsB
          exact List.any_eq_true.2 ⟨x, hx, h4⟩
        · rcases Int.lt_trichotomy v.d (deep + 1) with h5 | h5 | h5
          · exact absurd ⟨h4, by omega⟩ h3
          · exact h5
          · exact absurd ⟨h4, by omega⟩ h3
theorem nods_most {t : Tre} (h : (nodsE t t.ns.length 0 []).2 = 0) {i : Nat} (hi : i < t.ns.length) (hu : (nth t.ns i).us = true) : ((nth t.ns i).es.length : Int) ≤ mostN t.mo t.rm i := by
  obtain ⟨s, hs⟩ := (nodsE_ok (f := t.ns.length) (i := 0) (by omega) h List.nodup_nil).1 i (Nat.zero_le _) hi
  rw [nodE_used t i hu] at hs
  have h4 : nE4 t i s = 0 := hs
  unfold nE4 at h4
  split at h4
  · rename_i h3
    have h2 := nE3_0 t i h3
    unfold nE2 at h2
    split at h2
    · rename_i h1
      unfold nE1 at h1
      split at h1
      · assumption
      · exact absurd h1 (by decide)
    · rename_i h1
      exact absurd h2 h1
  · rename_i h3
    exact absurd h4 h3
theorem chk_bal {t : Tre} {deep : Int} {lo hi rt : Nat} (hz : Sz t.mo t.rm lo hi rt) (hT : TOk t.co t.ns) (h0 : 0 < t.ns.length) (hmost : ∀ i, i < t.ns.length → (nth t.ns i).us = true → ((nth t.ns i).es.length : Int) ≤ mostN t.mo t.rm i) : ∀ (f : Nat) (v : Vis) (P : List Nat), Gx.Way t.ns (v.i :: P) → P.length + f = t.ns.length → (∀ u ∈ vis t.ns f v, visE t deep u = 0) →
    ∃ d : Nat, v.d + (d : Int) = deep + 1 ∧ Bel lo hi d (btN t.ns f v.i) ∧ Srt t.co (btN t.ns f v.i).flat ∧ ∀ x ∈ (btN t.ns f v.i).flat, InB t.co v.lo v.hi x
  | 0, v, P, hw, hf, _ => by
    have := way_len hT h0 hw
    simp only [List.length_cons] at this
    omega
  | f + 1, v, P, hw, hf, hE => by
    have hi' := way_hd hT h0 hw
    have hv := visE_0 (hE v (by rw [vis]; exact List.mem_cons_self ..))
    have hasc := Srt.of_asc (hT.asc v.i hi')
    rw [btN, BT.flat]
    rcases hT.shape v.i hi' with hs | hs
    · have hcs : (nth t.ns v.i).cs = [] := List.eq_nil_of_length_eq_zero hs
      rw [hcs, List.map_nil, flatL_nil]
      exact ⟨0, by have := hv.2.2 hs; simpa using this, rfl, hasc, hv.2.1⟩
    · have key : ∀ k, k < (nth t.ns v.i).cs.length → ∃ d : Nat, v.d + 1 + (d : Int) = deep + 1 ∧ Bal lo hi d (btN t.ns f ((nth t.ns v.i).cs.getD k 0).toNat) ∧ Srt t.co (btN t.ns f ((nth t.ns v.i).cs.getD k 0).toNat).flat ∧ ∀ x ∈ (btN t.ns f ((nth t.ns v.i).cs.getD k 0).toNat).flat, InB t.co (loK (nth t.ns v.i).es k v.lo) (hiK (nth t.ns v.i).es k v.hi) x := fun k hk => by
        have hc : (nth t.ns v.i).cs.getD k 0 ∈ (nth t.ns v.i).cs := by
          rw [List.getD_eq_getElem?_getD, List.getElem?_eq_getElem hk]
          exact List.getElem_mem hk
        have hwk := way_c hT hw hi' hc
        have hmem : ∀ u ∈ vis t.ns f (kidV t.ns v k), u ∈ vis t.ns (f + 1) v := fun u hu => by
          rw [vis]
          exact List.mem_cons_of_mem _ (List.mem_flatMap.2 ⟨k, List.mem_range.2 hk, hu⟩)
        obtain ⟨d, h1, h2, h3, h4⟩ := chk_bal hz hT h0 hmost f (kidV t.ns v k) (v.i :: P) hwk (by simp only [List.length_cons]; omega) fun u hu => hE u (hmem u hu)
        have hki := way_hd hT h0 hwk
        have hku := way_us hT h0 hwk
        have hk1 := (hT.kid v.i hi' _ hc).1.1
        obtain ⟨f', rfl⟩ : ∃ f', f = f' + 1 := by
          cases f with
          | zero =>
            have := way_len hT h0 hwk
            simp only [List.length_cons] at this
            omega
          | succ f' => exact ⟨f', rfl⟩
        have hkv := visE_0 (hE (kidV t.ns v k) (hmem _ (by rw [vis]; exact List.mem_cons_self ..)))
        refine ⟨d, h1, bal_iff.2 ⟨h2, ?_, ?_⟩, h3, h4⟩
        · have hg := hkv.1
          unfold gapB at hg
          simp only [Bool.and_eq_true, Bool.or_eq_true, decide_eq_true_eq, not_and, not_or] at hg
          have h5 := (hg (show 0 < (kidV t.ns v k).i by show 0 < ((nth t.ns v.i).cs.getD k 0).toNat; omega)).1
          have e1 := hz.emo; have e2 := hz.elo
          show lo ≤ (nth t.ns ((nth t.ns v.i).cs.getD k 0).toNat).es.length
          have h6 : ¬ ((nth t.ns ((nth t.ns v.i).cs.getD k 0).toNat).es.length : Int) < t.mo / 2 := h5
          omega
        · have h5 := hmost _ hki hku
          unfold mostN at h5
          rw [if_neg (by omega)] at h5
          have e1 := hz.emo
          show (nth t.ns ((nth t.ns v.i).cs.getD k 0).toNat).es.length ≤ hi
          omega
      obtain ⟨d, hd, _⟩ := key 0 (by omega)
      have hnk : ∀ k, k < (nth t.ns v.i).cs.length → nth ((nth t.ns v.i).cs.map fun c => btN t.ns f c.toNat) k = btN t.ns f ((nth t.ns v.i).cs.getD k 0).toNat := fun k hk => nth_eq (by
        rw [List.getElem?_map, List.getElem?_eq_getElem hk, List.getD_eq_getElem?_getD, List.getElem?_eq_getElem hk]
        rfl)
      have hfl := srt_flatL (co := t.co) (hi := v.hi) (es := (nth t.ns v.i).es) (ks := (nth t.ns v.i).cs.map fun c => btN t.ns f c.toNat) (lo := v.lo) (by rw [List.length_map]; exact hs) hasc hv.2.1 fun k hk => by
        rw [List.length_map] at hk
        rw [hnk k hk]
        obtain ⟨_, _, _, h3, h4⟩ := key k hk
        exact ⟨h3, h4⟩
      refine ⟨d + 1, by simp only [Int.natCast_add, Int.natCast_one]; omega, ⟨by show (List.map _ _).length = _; rw [List.length_map]; exact hs, fun k hk => ?_⟩, hfl.1, hfl.2⟩
      obtain ⟨c, hc, rfl⟩ := List.mem_map.1 hk
      obtain ⟨q, hq, rfl⟩ := List.getElem_of_mem hc
      obtain ⟨d2, hd2, h2, _⟩ := key q hq
      have e : d2 = d := by omega
      subst e
      rw [List.getD_eq_getElem?_getD, List.getElem?_eq_getElem hq] at h2
      exact h2
mutual
theorem flat_nodes : ∀ (T : BT) (x : TEnt), x ∈ T.flat → ∃ p ∈ T.nodes, x ∈ p.2.es
  | .nd i es ks, x, h => by
    rw [BT.flat] at h
    rw [BT.nodes]
    rcases flat_nodesL es ks x h with h | ⟨p, hp, hx⟩
    · exact ⟨_, List.mem_cons_self .., h⟩
    · exact ⟨p, List.mem_cons_of_mem _ hp, hx⟩
theorem flat_nodesL : ∀ (es : List TEnt) (ks : List BT) (x : TEnt), x ∈ flatL es ks → x ∈ es ∨ ∃ p ∈ nodesL ks, x ∈ p.2.es
  | es, [], x, h => by
    rw [flatL_nil] at h
    exact .inl h
  | [], k :: ks, x, h => by
    rw [flatL] at h
    rw [nodesL]
    rcases List.mem_append.1 h with h | h
    · obtain ⟨p, hp, hx⟩ := flat_nodes k x h
      exact .inr ⟨p, List.mem_append_left _ hp, hx⟩
    · rcases flat_nodesL [] ks x h with h | ⟨p, hp, hx⟩
      · exact .inl h
      · exact .inr ⟨p, List.mem_append_right _ hp, hx⟩
  | e :: es, k :: ks, x, h => by
    rw [flatL] at h
    rw [nodesL]
    rcases List.mem_append.1 h with h | h
    · obtain ⟨p, hp, hx⟩ := flat_nodes k x h
      exact .inr ⟨p, List.mem_append_left _ hp, hx⟩
    · rcases List.mem_cons.1 h with rfl | h
      · exact .inl (List.mem_cons_self ..)
      · rcases flat_nodesL es ks x h with h | ⟨p, hp, hx⟩
        · exact .inl (List.mem_cons_of_mem _ h)
        · exact .inr ⟨p, List.mem_append_right _ hp, hx⟩
end
theorem opn_none {ns : List Nd} {below : List Nat} : ∀ {f i : Nat}, opnF ns below f i = none → ∀ j, i ≤ j → j < i + f → (nth ns j).us = true → j ∈ below
  | 0, i, _, j, h1, h2, _ => by omega
  | f + 1, i, h, j, h1, h2, hu => by
    rw [opnF] at h
    split at h
    · cases h
    · rename_i h3
      rcases Nat.eq_or_lt_of_le h1 with rfl | h4
      · by_cases hm : i ∈ below
        · exact hm
        · exact absurd ⟨hu, hm⟩ h3
      · exact opn_none h j h4 (by omega) hu
theorem tre_vt {t : Tre} (h : (treE t).2 = 0) : ∃ T d, RepT t.ns T ∧ VT t.co (t.mo.toNat / 2) t.mo.toNat t.rm.toNat d T ∧ Sz t.mo t.rm (t.mo.toNat / 2) t.mo.toNat t.rm.toNat ∧ LastU t.ns := by
  obtain ⟨hc, hs, h0, hl, hn, hsh, _⟩ := treE_0 h
  have hT := tok_of hn
  have hz := sz_of hs
  have hop : opnF t.ns ((visT t.ns).map Vis.i) t.ns.length 0 = none := by
    cases e : opnF t.ns ((visT t.ns).map Vis.i) t.ns.length 0 with
    | none => rfl
    | some i =>
      rw [shapE_some e] at hsh
      have h21 : (21 : Int) = 0 := hsh
      exact absurd h21 (by decide)
  rw [shapE_none hop] at hsh
  have hall := shp_all hsh
  have hmost := fun i hi hu => nods_most (t := t) hn (i := i) hi hu
  have hw : Gx.Way t.ns [0] := rfl
  obtain ⟨d, hd, hB, hS, _⟩ := chk_bal hz hT h0 hmost t.ns.length root0 [] hw (by simp) hall
  have hvb := vis_bt hT h0 t.ns.length root0 [] hw (by simp)
  have hget := btN_get hT h0 t.ns.length 0 [] hw (by simp)
  have hR : RepT t.ns (btN t.ns t.ns.length 0) := by
    refine ⟨fun p hp => (hget p hp).1, btN_nd hT h0 t.ns.length 0 [] hw (by simp), fun i hi hm => ?_⟩
    cases hu : (nth t.ns i).us with
    | true =>
      have := opn_none hop i (Nat.zero_le _) (by omega) hu
      exact absurd (hvb ▸ this) hm
    | false =>
      have h1 := hT.free i hi hu
      have h2 := h1.2
      cases hnd : nth t.ns i with
      | mk us es cs =>
        rw [hnd] at h2 hu
        simp only at h2 hu
        rw [hu, h2.1, h2.2]
  have hroot := hR.root
  rw [btN_idx] at hroot
  have hes : (btN t.ns t.ns.length 0).es = (nth t.ns 0).es := by rw [hroot.2]
  have hu0 : (nth t.ns 0).us = true := by rw [hroot.2]
  refine ⟨_, d, hR, ⟨btN_idx _ _ _, hB, ?_, fun e k hk => ?_, hS, fun x hx => ?_⟩, hz, ?_⟩
  · have h1 := hmost 0 h0 hu0
    unfold mostN at h1
    rw [if_pos rfl] at h1
    rw [hes]
    have := hz.erm
    omega
  · obtain ⟨f, hf⟩ : ∃ f, t.ns.length = f + 1 := ⟨t.ns.length - 1, by omega⟩
    have hkm : k ∈ (btN t.ns t.ns.length 0).ks := by rw [hk]; exact List.mem_cons_self ..
    have hk' := hkm
    rw [hf] at hk'
    obtain ⟨c, hcm, rfl⟩ := List.mem_map.1 (show k ∈ (nth t.ns 0).cs.map fun c => btN t.ns f c.toNat from hk')
    have hwk := way_c hT hw h0 hcm
    have hki := way_hd hT h0 hwk
    obtain ⟨f', rfl⟩ : ∃ f', f = f' + 1 := by
      cases f with
      | zero =>
        have := way_len hT h0 hwk
        simp only [List.length_cons, List.length_nil] at this
        omega
      | succ f' => exact ⟨f', rfl⟩
    have hk1 := (hT.kid 0 h0 c hcm).1.1
    have hgv : ∃ v ∈ visT t.ns, v.i = c.toNat := by
      have : c.toNat ∈ (visT t.ns).map Vis.i := by
        show c.toNat ∈ (vis t.ns t.ns.length root0).map Vis.i
        rw [hvb, hf]
        rw [show root0.i = 0 from rfl, btN, BT.nodes, nodesL_map, List.map_cons]
        refine List.mem_cons_of_mem _ (List.mem_map.2 ?_)
        have hid := (btN t.ns (f' + 1) c.toNat).idx_mem
        rw [btN_idx] at hid
        obtain ⟨p, hp, ep⟩ := List.mem_map.1 hid
        exact ⟨p, List.mem_flatMap.2 ⟨c, hcm, hp⟩, ep⟩
      obtain ⟨v, hv, e⟩ := List.mem_map.1 this
      exact ⟨v, hv, e⟩
    obtain ⟨v, hv, hvi⟩ := hgv
    have hg := (visE_0 (hall v hv)).1
    unfold gapB at hg
    simp only [Bool.and_eq_true, Bool.or_eq_true, decide_eq_true_eq, not_and, not_or] at hg
    have h5 := (hg (by omega)).2 ⟨by rw [← hes, e]; rfl, by rw [hvi, Int.toNat_of_nonneg (by omega)]; exact hcm⟩
    rw [hvi] at h5
    show t.rm.toNat < (nth t.ns c.toNat).es.length
    have := hz.erm
    omega
  · obtain ⟨p, hp, hx⟩ := flat_nodes _ x hx
    have h1 := RepN.at_ (i := p.1) (x := p.2) hR hp
    exact hT.ents p.1 h1.1 x (by rw [h1.2]; exact hx)
  · unfold LastU
    cases hu : (nth t.ns (t.ns.length - 1)).us with
    | true => rfl
    | false =>
      have := (hT.free (t.ns.length - 1) (by omega) hu).1.2
      omega
end Gx
namespace Go.Proofs
open Go Go.RowKit Gx
set_option linter.unusedVariables false
set_option linter.unusedSimpArgs false
attribute [local irreducible] Go.Calls Gx.S Gx.O Gx.D Gx.OpP Gx.OpQ Gx.OpH
set_option maxRecDepth 20000
theorem c72 (w : World) (a : Option Addr) (cap : Nat) (l : List TEnt) (i : Nat) (hs : Rw TEnt.vals 2 w [] a l) (hl : l.length ≤ 100000) (hi : i < l.length) (hlc : l.length ≤ cap) : Calls Tryz.prog 72 #[.slice a l.length cap, .int .i64 (i : Int)] w fun en w' => ∃ g : Option Addr × Nat, en = .returned (.slice g.1 (others l i).length g.2) ∧ True ∧ HS w [] [.own (.slice g.1 (others l i).length g.2) 26 2 (others l i).length ((others l i).flatMap TEnt.vals)] w' := by
 refine enter (args := [_, _]) Tryz.func72 Tryz.ntmps72 rfl rfl (HS.refl w []) ?_
 iterate 5 refine aS ?_
 refine s_draw [4, 9] mixed ?_
 refine dP 1 ?_
 refine dP 2 ?_
 refine d_p 3 rfl (p_slice _ _ 0 i rfl rfl sl_77 rfl ⟨_, _, rfl, rfl⟩ (by omega) (by omega)) (by kernel_rfl) rfl rfl ?_
 refine dP 5 ?_
 refine dP 6 ?_
 refine dP 7 ?_
 try refine dWr ?_
 refine d_p 8 rfl (p_slice _ _ (i + 1) l.length rfl rfl sl_77 ⟨_, _, rfl, (by omega)⟩ rfl (by omega) (by omega)) (by kernel_rfl) rfl rfl ?_
 refine d_h 0 rfl (h_buildSlice0 rfl sl_77) (by kernel_rfl) (fun w h => h.ent aEt) rfl (fun b1 _ => ?_)
 refine dBa ?_
 refine d_h 4 rfl (h_appendS ((l.take i).flatMap TEnt.vals) rfl rfl rfl sl_77 Tryz.underlying77 zr_26 rfl aPk (fun w h => Rw.src ev2 (rw_take (Rw.cut (i := 0) hs hlc) i) h) (by rw [flat_length ev2, List.length_take, Nat.min_eq_left (by omega)]; first | rfl | omega) (flat_one ev1 _) (by omega) (by simp only [maxLen]; omega)) (by kernel_rfl) (fun w h => h.ent aEt) rfl (fun b2 _ => ?_)
 refine dTu [9] ?_
 refine d_h 9 rfl (h_appendS ((l.drop (i + 1)).flatMap TEnt.vals) rfl rfl rfl sl_77 Tryz.underlying77 zr_26 rfl aPk (fun w h => Rw.src ev2 (Rw.cut hs hlc) h) (by rw [flat_length ev2, List.length_drop]) (flat_one ev1 _) (by omega) (by simp only [maxLen]; omega)) (by kernel_rfl) (fun w h => h.ent aEt) rfl (fun b3 _ => ?_)
 refine dTu [] ?_
 refine dP 10 ?_
 refine dNi ?_
 exact s_retv (rs := [.tmp 4]) rfl (.tmp rfl (.nil)) (fun w' h' => ⟨b3, by simp only [retV]; congr 2; rw [oth_len hi]; omega, trivial, by have h2 := h'; rw [show 0 + (i - 0) + (l.length - (i + 1)) = l.length - 1 by omega, List.nil_append] at h2; rw [oth_len hi, show (others l i).flatMap TEnt.vals = (l.take i).flatMap TEnt.vals ++ (l.drop (i + 1)).flatMap TEnt.vals by simp [others]]; exact h2.ent aEt⟩)
theorem c108 (w : World) (a : Option Addr) (cap : Nat) (l : List Int) (i : Nat) (hs : Rw inV 1 w [] a l) (hl : l.length ≤ 100000) (hi : i < l.length) (hlc : l.length ≤ cap) : Calls Tryz.prog 108 #[.slice a l.length cap, .int .i64 (i : Int)] w fun en w' => ∃ g : Option Addr × Nat, en = .returned (.slice g.1 (others l i).length g.2) ∧ True ∧ HS w [] [.own (.slice g.1 (others l i).length g.2) 3 1 (others l i).length ((others l i).flatMap inV)] w' := by
 refine enter (args := [_, _]) Tryz.func108 Tryz.ntmps108 rfl rfl (HS.refl w []) ?_
 iterate 5 refine aS ?_
 refine s_draw [4, 9] mixed ?_
 refine dP 1 ?_
 refine dP 2 ?_
 refine d_p 3 rfl (p_slice _ _ 0 i rfl rfl sl_30 rfl ⟨_, _, rfl, rfl⟩ (by omega) (by omega)) (by kernel_rfl) rfl rfl ?_
 refine dP 5 ?_
 refine dP 6 ?_
 refine dP 7 ?_
 try refine dWr ?_
 refine d_p 8 rfl (p_slice _ _ (i + 1) l.length rfl rfl sl_30 ⟨_, _, rfl, (by omega)⟩ rfl (by omega) (by omega)) (by kernel_rfl) rfl rfl ?_
 refine d_h 0 rfl (h_buildSlice0 rfl sl_30) (by kernel_rfl) (fun w h => h.ent aEt) rfl (fun b1 _ => ?_)
 refine dBa ?_
 refine d_h 4 rfl (h_appendS ((l.take i).flatMap inV) rfl rfl rfl sl_30 Tryz.underlying30 zr_3 rfl aPk (fun w h => Rw.src iv1 (rw_take (Rw.cut (i := 0) hs hlc) i) h) (by rw [flat_length iv1, List.length_take, Nat.min_eq_left (by omega)]; first | rfl | omega) (flat_one iv1c _) (by omega) (by simp only [maxLen]; omega)) (by kernel_rfl) (fun w h => h.ent aEt) rfl (fun b2 _ => ?_)
 refine dTu [9] ?_
 refine d_h 9 rfl (h_appendS ((l.drop (i + 1)).flatMap inV) rfl rfl rfl sl_30 Tryz.underlying30 zr_3 rfl aPk (fun w h => Rw.src iv1 (Rw.cut hs hlc) h) (by rw [flat_length iv1, List.length_drop]) (flat_one iv1c _) (by omega) (by simp only [maxLen]; omega)) (by kernel_rfl) (fun w h => h.ent aEt) rfl (fun b3 _ => ?_)
 refine dTu [] ?_
 refine dP 10 ?_
 refine dNi ?_
 exact s_retv (rs := [.tmp 4]) rfl (.tmp rfl (.nil)) (fun w' h' => ⟨b3, by simp only [retV]; congr 2; rw [oth_len hi]; omega, trivial, by have h2 := h'; rw [show 0 + (i - 0) + (l.length - (i + 1)) = l.length - 1 by omega, List.nil_append] at h2; rw [oth_len hi, show (others l i).flatMap inV = (l.take i).flatMap inV ++ (l.drop (i + 1)).flatMap inV by simp [others]]; exact h2.ent aEt⟩)
end Go.Proofs
namespace Gx
set_option linter.unusedSimpArgs false
set_option linter.unusedVariables false
set_option linter.unusedSectionVars false
open Go Go.RowKit
section
variable {ns : List Nd} {N : List (Nat × Nd)} {a b c : Nat × Nd} {i : Nat} {x : Nd}
theorem RepN.es2 (h : RepN ns (a :: (i, x) :: N)) (es : List TEnt) : RepN (esN ns i es) (a :: (i, { x with es := es }) :: N) := ((h.perm (List.Perm.swap ..)).es es).perm (List.Perm.swap ..)
theorem RepN.cs2 (h : RepN ns (a :: (i, x) :: N)) (cs : List Int) : RepN (csN ns i cs) (a :: (i, { x with cs := cs }) :: N) := ((h.perm (List.Perm.swap ..)).cs cs).perm (List.Perm.swap ..)
theorem perm3 {a b c : Nat × Nd} {N : List (Nat × Nd)} : (a :: b :: c :: N).Perm (c :: a :: b :: N) := (List.Perm.cons a (List.Perm.swap ..)).trans (List.Perm.swap ..)
theorem RepN.es3 (h : RepN ns (a :: b :: (i, x) :: N)) (es : List TEnt) : RepN (esN ns i es) (a :: b :: (i, { x with es := es }) :: N) := ((h.perm perm3).es es).perm perm3.symm
theorem RepN.cs3 (h : RepN ns (a :: b :: (i, x) :: N)) (cs : List Int) : RepN (csN ns i cs) (a :: b :: (i, { x with cs := cs }) :: N) := ((h.perm perm3).cs cs).perm perm3.symm
theorem RepN.gone2 (h : RepN ns (a :: (i, x) :: N)) : RepN (ns.set i ⟨false, [], []⟩) (a :: N) := (h.perm (List.Perm.swap ..)).gone
theorem RepN.gone3 (h : RepN ns (a :: b :: (i, x) :: N)) : RepN (ns.set i ⟨false, [], []⟩) (a :: b :: N) := (h.perm perm3).gone
theorem RepN.at1 (h : RepN ns ((i, x) :: N)) : nth ns i = x := h.head.2
theorem RepN.at2 (h : RepN ns (a :: (i, x) :: N)) : nth ns i = x := (h.at_ (List.mem_cons_of_mem _ (List.mem_cons_self ..))).2
theorem RepN.at3 (h : RepN ns (a :: b :: (i, x) :: N)) : nth ns i = x := (h.at_ (List.mem_cons_of_mem _ (List.mem_cons_of_mem _ (List.mem_cons_self ..)))).2
end
section
variable {ns : List Nd} {C : List Fr} {p a b : Nat} {es Ae Be : List TEnt} {l r Ak Bk : List BT}
theorem two_perm : (plug C (.nd p es (l ++ .nd a Ae Ak :: .nd b Be Bk :: r))).nodes.Perm ((p, ⟨true, es, idxs l ++ (a : Int) :: (b : Int) :: idxs r⟩) :: (a, ⟨true, Ae, idxs Ak⟩) :: (b, ⟨true, Be, idxs Bk⟩) :: (ctxNodes C p ++ (nodesL l ++ (nodesL Ak ++ (nodesL Bk ++ nodesL r))))) := by
  refine (plug_nodes C _).trans ?_
  show (ctxNodes C p ++ (BT.nd p es _).nodes).Perm _
  rw [BT.nodes, nodesL_app, nodesL, nodesL, BT.nodes, BT.nodes, idxs_app, idxs_cons, idxs_cons]
  refine perm_ct fun x => ?_
  simp only [List.count_append, List.count_cons, List.cons_append, BT.idx]
  omega
theorem two_of (h : RepT ns (plug C (.nd p es (l ++ .nd a Ae Ak :: .nd b Be Bk :: r)))) : RepN ns ((p, ⟨true, es, idxs l ++ (a : Int) :: (b : Int) :: idxs r⟩) :: (a, ⟨true, Ae, idxs Ak⟩) :: (b, ⟨true, Be, idxs Bk⟩) :: (ctxNodes C p ++ (nodesL l ++ (nodesL Ak ++ (nodesL Bk ++ nodesL r))))) := RepN.perm h two_perm
theorem of_two {Ak' Bk' : List BT} (h : RepN ns ((p, ⟨true, es, idxs l ++ (a : Int) :: (b : Int) :: idxs r⟩) :: (a, ⟨true, Ae, idxs Ak'⟩) :: (b, ⟨true, Be, idxs Bk'⟩) :: (ctxNodes C p ++ (nodesL l ++ (nodesL Ak ++ (nodesL Bk ++ nodesL r)))))) (hp : (nodesL Ak ++ nodesL Bk).Perm (nodesL Ak' ++ nodesL Bk')) : RepT ns (plug C (.nd p es (l ++ .nd a Ae Ak' :: .nd b Be Bk' :: r))) := by
  refine RepN.perm (h.perm ?_) two_perm.symm
  refine List.Perm.cons _ (List.Perm.cons _ (List.Perm.cons _ (List.Perm.append_left _ (List.Perm.append_left _ ?_))))
  rw [← List.append_assoc, ← List.append_assoc]
  exact hp.append_right _
theorem rep_givF (h : RepT ns (plug C (.nd p es (l ++ .nd a Ae Ak :: .nd b Be Bk :: r)))) :
    RepT (givF ns p l.length a b) (plug C (.nd p (es.set l.length (nth Ae (Ae.length - 1))) (l ++ .nd a (Ae.take (Ae.length - 1)) (Ak.take (Ak.length - 1)) :: .nd b (insAt Be 0 (nth es l.length)) (Ak.drop (Ak.length - 1) ++ Bk) :: r))) := by
  have h0 := two_of h
  have hp := h0.at1; have ha := h0.at2; have hb := h0.at3
  have h1 := ((h0.es3 (insAt Be 0 (nth es l.length))).es (es.set l.length (nth Ae (Ae.length - 1)))).es2 (Ae.take (Ae.length - 1))
  have hnp : (nodesL Ak ++ nodesL Bk).Perm (nodesL (Ak.take (Ak.length - 1)) ++ nodesL (Ak.drop (Ak.length - 1) ++ Bk)) := by
    rw [nodesL_app, ← List.append_assoc, ← nodesL_split Ak (Ak.length - 1)]
  unfold givF
  rw [hp, ha, hb]
  simp only [idxs_len]
  split
  · rename_i hz
    have hk : Ak = [] := List.eq_nil_of_length_eq_zero hz
    subst hk
    exact of_two h1 hnp
  · rename_i hz
    have h2 := (h1.cs3 (insAt (idxs Bk) 0 ((idxs Ak).getD (Ak.length - 1) 0))).cs2 ((idxs Ak).take (Ak.length - 1))
    refine of_two (Ak' := Ak.take (Ak.length - 1)) (Bk' := Ak.drop (Ak.length - 1) ++ Bk) ?_ hnp
    have e1 : idxs (Ak.take (Ak.length - 1)) = (idxs Ak).take (Ak.length - 1) := idxs_take _ _
    have e2 : idxs (Ak.drop (Ak.length - 1) ++ Bk) = insAt (idxs Bk) 0 ((idxs Ak).getD (Ak.length - 1) 0) := by
      rw [idxs_app, idxs_drop]
      show _ = (idxs Ak).getD (Ak.length - 1) 0 :: idxs Bk
      have hlt : Ak.length - 1 < (idxs Ak).length := by rw [idxs_len]; omega
      rw [List.drop_eq_getElem_cons hlt, List.drop_of_length_le (by rw [idxs_len]; omega), List.getD_eq_getElem?_getD, List.getElem?_eq_getElem hlt]
      rfl
    rw [e1, e2]
    exact h2
theorem rep_givB (h : RepT ns (plug C (.nd p es (l ++ .nd a Ae Ak :: .nd b Be Bk :: r)))) :
    RepT (givB ns p l.length b a) (plug C (.nd p (es.set l.length (nth Be 0)) (l ++ .nd a (Ae ++ [nth es l.length]) (Ak ++ Bk.take 1) :: .nd b (others Be 0) (Bk.drop 1) :: r))) := by
  have h0 := two_of h
  have hp := h0.at1; have ha := h0.at2; have hb := h0.at3
  have h1 := ((h0.es2 (Ae ++ [nth es l.length])).es (es.set l.length (nth Be 0))).es3 (others Be 0)
  have hnp : (nodesL Ak ++ nodesL Bk).Perm (nodesL (Ak ++ Bk.take 1) ++ nodesL (Bk.drop 1)) := by
    rw [nodesL_app, List.append_assoc, ← nodesL_split Bk 1]
  unfold givB
  rw [hp, ha, hb]
  simp only [idxs_len]
  split
  · rename_i hz
    have hk : Bk = [] := List.eq_nil_of_length_eq_zero hz
    subst hk
    refine of_two (Ak' := Ak ++ [].take 1) (Bk' := [].drop 1) ?_ hnp
    rw [List.take_nil, List.append_nil]
    exact h1
  · rename_i hz
    have h2 := (h1.cs2 (idxs Ak ++ [(idxs Bk).getD 0 0])).cs3 (others (idxs Bk) 0)
    refine of_two (Ak' := Ak ++ Bk.take 1) (Bk' := Bk.drop 1) ?_ hnp
    cases Bk with
    | nil => exact absurd rfl hz
    | cons z Bk =>
      rw [idxs_app]
      exact h2
theorem rep_mrg (h : RepT ns (plug C (.nd p es (l ++ .nd a Ae Ak :: .nd b Be Bk :: r)))) :
    RepT (mrgN ns p l.length a b) (plug C (.nd p (others es l.length) (l ++ .nd a (Ae ++ nth es l.length :: Be) (Ak ++ Bk) :: r))) := by
  have h0 := two_of h
  have hp := h0.at1; have ha := h0.at2; have hb := h0.at3
  have h1 := ((((h0.es2 (Ae ++ nth es l.length :: Be)).cs2 (idxs Ak ++ idxs Bk)).es (others es l.length)).cs (others (idxs l ++ (a : Int) :: (b : Int) :: idxs r) (l.length + 1))).gone3
  unfold mrgN
  rw [hp, ha, hb]
  have e : others (idxs l ++ (a : Int) :: (b : Int) :: idxs r) (l.length + 1) = idxs l ++ (a : Int) :: idxs r := by
    unfold others
    rw [List.take_append, List.drop_append, idxs_len, List.take_of_length_le (by rw [idxs_len]; omega), List.drop_of_length_le (by rw [idxs_len]; omega), show l.length + 1 - l.length = 1 by omega, show l.length + 1 + 1 - l.length = 2 by omega]
    simp
  rw [e] at h1 ⊢
  refine RepN.perm h1 ?_
  refine List.Perm.trans ?_ (plug_nodes C _).symm
  show List.Perm _ (ctxNodes C p ++ (BT.nd p _ _).nodes)
  rw [BT.nodes, nodesL_app, nodesL, BT.nodes, nodesL_app, idxs_app, idxs_app, idxs_cons]
  refine perm_ct fun x => ?_
  simp only [List.count_append, List.count_cons, List.cons_append, BT.idx]
  omega
end
theorem flatL_two {l r : List BT} {es : List TEnt} {A B : BT} (h : l.length + r.length + 1 = es.length) : flatL es (l ++ A :: B :: r) = flatA es l ++ ((A.flat ++ nth es l.length :: B.flat) ++ flatZ (es.drop (l.length + 1)) r) := by
  rw [flatL_mid l es A (B :: r) (by rw [List.length_cons]; omega)]
  have hlt : l.length < es.length := by omega
  have e : es.drop l.length = nth es l.length :: es.drop (l.length + 1) := by
    rw [List.drop_eq_getElem_cons hlt, show nth es l.length = es[l.length] from nth_eq (List.getElem?_eq_getElem hlt)]
  rw [e, flatZ]
  simp only [List.append_assoc, List.cons_append]
def Fit (es : List TEnt) (ks : List BT) : Prop := ks = [] ∨ ks.length = es.length + 1
theorem flatL_cat {e : TEnt} {Be : List TEnt} {Bk : List BT} : ∀ {Ae : List TEnt} {Ak : List BT}, (Ak = [] ∧ Bk = []) ∨ (Ak.length = Ae.length + 1 ∧ Bk.length = Be.length + 1) → flatL (Ae ++ e :: Be) (Ak ++ Bk) = flatL Ae Ak ++ e :: flatL Be Bk
  | Ae, [], h => by
    rcases h with ⟨_, h⟩ | ⟨h, _⟩
    · subst h
      rw [List.append_nil, flatL_nil, flatL_nil, flatL_nil]
    · simp at h
  | [], [k], h => by
    rw [List.nil_append, List.singleton_append, flatL, flatL, flatL, List.append_nil]
  | [], k :: k' :: ks, h => by
    rcases h with ⟨h, _⟩ | ⟨h, _⟩
    · cases h
    · simp at h
  | a :: Ae, k :: ks, h => by
    rcases h with ⟨h, _⟩ | ⟨h, h2⟩
    · cases h
    · rw [List.cons_append, List.cons_append, flatL, flatL, flatL_cat (Ae := Ae) (Ak := ks) (.inr ⟨by simpa using h, h2⟩)]
      simp only [List.append_assoc, List.cons_append]
theorem flat_givF {Ae Be : List TEnt} {Ak Bk : List BT} {e : TEnt} (hA : 0 < Ae.length) (h : (Ak = [] ∧ Bk = []) ∨ (Ak.length = Ae.length + 1 ∧ Bk.length = Be.length + 1)) :
    flatL (Ae.take (Ae.length - 1)) (Ak.take (Ak.length - 1)) ++ nth Ae (Ae.length - 1) :: flatL (insAt Be 0 e) (Ak.drop (Ak.length - 1) ++ Bk) = flatL Ae Ak ++ e :: flatL Be Bk := by
  show _ ++ _ :: flatL (e :: Be) _ = _
  have hsp := flatL_split (Ae.length - 1) Ae Ak (by omega) (h.imp (·.1) (·.1))
  rcases h with ⟨h1, h2⟩ | ⟨h1, h2⟩
  · subst h1 h2
    rw [List.take_nil, List.drop_nil, List.nil_append, flatL_nil, flatL_nil, flatL_nil, flatL_nil]
    rw [List.take_nil, List.drop_nil, flatL_nil, flatL_nil, flatL_nil, List.drop_of_length_le (by omega)] at hsp
    conv => rhs; rw [← hsp]
    simp only [List.append_assoc, List.cons_append, List.nil_append]
  · have e1 : Ae.length - 1 + 1 = Ak.length - 1 := by omega
    rw [e1, List.drop_of_length_le (by omega : Ae.length ≤ Ak.length - 1)] at hsp
    have hd : Ak.drop (Ak.length - 1) = [Ak[Ak.length - 1]'(by omega)] := by
      rw [List.drop_eq_getElem_cons (by omega), List.drop_of_length_le (by omega)]
    rw [hd] at hsp ⊢
    rw [flatL, flatL_nil, List.append_nil] at hsp
    rw [List.singleton_append, flatL, ← hsp]
    simp only [List.append_assoc, List.cons_append]
theorem flat_givB {Ae Be : List TEnt} {Ak Bk : List BT} {e : TEnt} (hB : 0 < Be.length) (h : (Ak = [] ∧ Bk = []) ∨ (Ak.length = Ae.length + 1 ∧ Bk.length = Be.length + 1)) :
    flatL (Ae ++ [e]) (Ak ++ Bk.take 1) ++ nth Be 0 :: flatL (others Be 0) (Bk.drop 1) = flatL Ae Ak ++ e :: flatL Be Bk := by
  cases Be with
  | nil => exact absurd hB (by simp)
  | cons x Be =>
    show _ ++ x :: flatL Be _ = _
    rcases h with ⟨h1, h2⟩ | ⟨h1, h2⟩
    · subst h1 h2
      rw [List.take_nil, List.drop_nil, List.append_nil, flatL_nil, flatL_nil, flatL_nil, flatL_nil]
      simp only [List.append_assoc, List.cons_append, List.nil_append]
    · cases Bk with
      | nil => simp at h2
      | cons z Bk =>
        rw [List.take_succ_cons, List.take_zero, List.drop_succ_cons, List.drop_zero, flatL_cat (e := e) (Be := []) (Bk := [z]) (.inr ⟨h1, rfl⟩), flatL, flatL_nil, List.append_nil, flatL]
        simp only [List.append_assoc, List.cons_append]
theorem Bal.mono {lo lo' hi : Nat} (hl : lo' ≤ lo) : ∀ {d : Nat} {T : BT}, Bal lo hi d T → Bal lo' hi d T
  | 0, T, h => ⟨h.1, Nat.le_trans hl h.2.1, h.2.2⟩
  | d + 1, T, h => ⟨⟨h.1.1, fun k hk => (h.1.2 k hk).mono hl⟩, Nat.le_trans hl h.2.1, h.2.2⟩
theorem Bel.mono {lo lo' hi : Nat} (hl : lo' ≤ lo) : ∀ {d : Nat} {T : BT}, Bel lo hi d T → Bel lo' hi d T
  | 0, T, h => h
  | d + 1, T, h => ⟨h.1, fun k hk => (h.2 k hk).mono hl⟩
theorem CtxOk.mono {lo lo' hi rt : Nat} (hl : lo' ≤ lo) : ∀ {C : List Fr} {d : Nat}, CtxOk lo hi rt d C → CtxOk lo' hi rt d C
  | [], _, _ => trivial
  | f :: C, d, h => ⟨⟨fun k hk => (h.1.1 k hk).mono hl, fun k hk => (h.1.2 k hk).mono hl⟩, h.2.1, ⟨h.2.2.1.1, fun hne => ⟨Nat.le_trans hl (h.2.2.1.2 hne).1, (h.2.2.1.2 hne).2⟩⟩, CtxOk.mono hl h.2.2.2⟩
theorem BT.fit {lo hi d : Nat} {i j : Nat} {es es' : List TEnt} {ks ks' : List BT} (h : Bel lo hi d (.nd i es ks)) (h' : Bel lo hi d (.nd j es' ks')) : (ks = [] ∧ ks' = []) ∨ (ks.length = es.length + 1 ∧ ks'.length = es'.length + 1) := by
  cases d with
  | zero => exact .inl ⟨h, h'⟩
  | succ d => exact .inr ⟨h.1, h'.1⟩
theorem Bel.kid {lo hi d d' i : Nat} {es : List TEnt} {ks : List BT} (h : Bel lo hi d (.nd i es ks)) (e : d = d' + 1) : ∀ k ∈ ks, Bal lo hi d' k := by
  subst e
  exact h.2
def filRW (mo : Int) (P : List Nat) : Nat → List Nd → List Nd
  | 0, ns => ns
  | k + 1, ns => filRW mo P k (if ((nth ns (nth P (k + 1))).es.length : Int) < mo / 2 then filP mo ns (nth P k) (ixR (nth ns (nth P k)).cs ((nth P (k + 1) : Nat) : Int)) else ns)
structure FilR1 (mo : Int) (ns : List Nd) (p i : Nat) : Prop where
  ok : FilOk mo ns p (ixR (nth ns p).cs (i : Int))
  kd : kdN ns p (ixR (nth ns p).cs (i : Int)) = i
def FilROk (mo : Int) (P : List Nat) : Nat → List Nd → Prop
  | 0, _ => True
  | k + 1, ns => (nth P (k + 1) < ns.length ∧ (((nth ns (nth P (k + 1))).es.length : Int) < mo / 2 → FilR1 mo ns (nth P k) (nth P (k + 1)))) ∧
      FilROk mo P k (if ((nth ns (nth P (k + 1))).es.length : Int) < mo / 2 then filP mo ns (nth P k) (ixR (nth ns (nth P k)).cs ((nth P (k + 1) : Nat) : Int)) else ns)
section
variable {ns : List Nd} {C : List Fr} {p : Nat} {es : List TEnt} {ks : List BT} {mo : Int}
theorem idxs_getD {ks : List BT} {x : Nat} (h : x < ks.length) : (idxs ks).getD x 0 = ((nth ks x).idx : Int) := by
  unfold idxs
  rw [getD_map (d := default) h]
  rfl
theorem kid_ok (h : RepT ns (plug C (.nd p es ks))) : (∀ x, x < ks.length → (nth ks x).idx < ns.length ∧ p ≠ (nth ks x).idx) ∧ (idxs ks).Nodup := by
  constructor
  · intro x hx
    have hs := split_at hx
    generalize nth ks x = K at hs ⊢
    rw [hs] at h
    have h2 : RepT ns (plug (⟨p, es, ks.take x, ks.drop (x + 1)⟩ :: C) K) := h
    refine ⟨(RepT.at_ h2).1, fun e => ?_⟩
    have h1 := h2.plug.nd
    rw [List.map_append] at h1
    refine (List.nodup_append.1 h1).2.2 p ?_ K.idx K.idx_mem e
    rw [ctxNodes, Fr.nodes]
    exact List.mem_cons_self ..
  · have hk := rep_kids h
    have hm : (p, (⟨true, es, idxs ks⟩ : Nd)) ∈ (plug C (.nd p es ks)).nodes := (plug_nodes C (.nd p es ks)).mem_iff.2 (List.mem_append_right _ (by rw [BT.nodes]; exact List.mem_cons_self ..))
    exact (List.pairwise_flatMap.1 hk).1 _ hm
theorem nodup_getD {l : List Int} (h : l.Nodup) {x y : Nat} (hx : x < l.length) (hy : y < l.length) (hne : x ≠ y) : l.getD x 0 ≠ l.getD y 0 := fun e => by
  rw [List.getD_eq_getElem?_getD, List.getElem?_eq_getElem hx, List.getD_eq_getElem?_getD, List.getElem?_eq_getElem hy] at e
  exact hne ((List.getElem_inj h).1 e)
theorem fil_ok {k : Nat} (h : RepT ns (plug C (.nd p es ks))) (hk : k < ks.length) (hl : ks.length = es.length + 1) (hmo : 0 ≤ mo ∧ mo ≤ 1000) (hlen : ns.length ≤ 900) (hsm : Sm 900 ns) : FilOk mo ns p k := by
  have hat : p < ns.length ∧ nth ns p = ⟨true, es, idxs ks⟩ := RepT.at_ (T := .nd p es ks) h
  have hkd := kid_ok h
  have hcs : (nth ns p).cs = idxs ks := by rw [hat.2]
  have hkdN : ∀ x, x < ks.length → kdN ns p x = (nth ks x).idx := fun x hx => by
    unfold kdN
    rw [hcs, idxs_getD hx]
    rfl
  refine ⟨hmo, hat.1, by rw [hcs, idxs_len]; exact hk, by rw [hat.2]; show (idxs ks).length = _; rw [idxs_len]; exact hl, fun x hx => ?_, fun x y hx hy hne => ?_, hlen, hsm⟩
  · rw [hcs, idxs_len] at hx
    rw [hcs, idxs_getD hx, hkdN x hx]
    exact ⟨by omega, (hkd.1 x hx).1, (hkd.1 x hx).2⟩
  · rw [hcs, idxs_len] at hx hy
    have h1 := nodup_getD hkd.2 (by rw [idxs_len]; exact hx) (by rw [idxs_len]; exact hy) hne
    rw [idxs_getD hx, idxs_getD hy] at h1
    rw [hkdN x hx, hkdN y hy]
    omega
end
section
variable {ns : List Nd} {f : Fr} {C : List Fr} {T : BT}
theorem fr_at (h : RepT ns (plug (f :: C) T)) : f.i < ns.length ∧ nth ns f.i = ⟨true, f.es, idxs (f.l ++ T :: f.r)⟩ := RepT.at_ (C := C) (T := f.fill T) h
theorem fr_ix (h : RepT ns (plug (f :: C) T)) : ixR (nth ns f.i).cs (T.idx : Int) = f.l.length := by
  have h2 : RepT ns (plug C (.nd f.i f.es (f.l ++ T :: f.r))) := h
  have hnd := (kid_ok h2).2
  rw [idxs_app, idxs_cons] at hnd
  have hn : (T.idx : Int) ∉ idxs f.l := fun hm => (List.nodup_append.1 hnd).2.2 _ hm _ (List.mem_cons_self ..) rfl
  rw [(fr_at h).2]
  show ixR (idxs (f.l ++ T :: f.r)) (T.idx : Int) = _
  rw [idxs_app, idxs_cons]
  have h3 := ixB_app (B := idxs f.r) hn
  unfold ixR
  rw [h3, if_pos (by simp), idxs_len]
theorem fr_kd (h : RepT ns (plug (f :: C) T)) {x : Nat} (hx : x < (f.l ++ T :: f.r).length) : kdN ns f.i x = (nth (f.l ++ T :: f.r) x).idx := by
  unfold kdN
  rw [(fr_at h).2]
  show ((idxs (f.l ++ T :: f.r)).getD x 0).toNat = _
  rw [idxs_getD hx]
  rfl
theorem kid_es (h : RepT ns (plug (f :: C) T)) {x : Nat} (hx : x < (f.l ++ T :: f.r).length) : (nth ns (nth (f.l ++ T :: f.r) x).idx).es = (nth (f.l ++ T :: f.r) x).es := by
  have hs := split_at hx
  generalize nth (f.l ++ T :: f.r) x = K at hs ⊢
  have h2 : RepT ns (plug C (.nd f.i f.es (f.l ++ T :: f.r))) := h
  rw [hs] at h2
  have h3 : RepT ns (plug (⟨f.i, f.es, (f.l ++ T :: f.r).take x, (f.l ++ T :: f.r).drop (x + 1)⟩ :: C) K) := h2
  rw [(RepT.at_ h3).2]
theorem rich_at {mo : Int} (h : RepT ns (plug (f :: C) T)) {x : Nat} (hx : x < (f.l ++ T :: f.r).length) : richN mo ns f.i (x : Int) = decide (mo / 2 < ((nth (f.l ++ T :: f.r) x).es.length : Int)) := by
  have h1 := (fr_at h).2
  rw [rich_t h1 ⟨by omega, by show (x : Int) ≤ ((idxs (f.l ++ T :: f.r)).length : Int) - 1; rw [idxs_len]; omega⟩]
  rw [show ((x : Int)).toNat = x from rfl, fr_kd h hx, kid_es h hx]
theorem rich_no {mo : Int} (h : RepT ns (plug (f :: C) T)) {x : Int} (hx : x < 0 ∨ ((f.l ++ T :: f.r).length : Int) ≤ x) : richN mo ns f.i x = false := by
  refine rich_f (fr_at h).2 ?_
  show (decide (0 ≤ x) && decide (x ≤ ((idxs (f.l ++ T :: f.r)).length : Int) - 1)) = false
  rw [idxs_len]
  rcases hx with hx | hx
  · rw [decide_eq_false (by omega)]
    rfl
  · rw [decide_eq_false (by omega : ¬ x ≤ ((f.l ++ T :: f.r).length : Int) - 1), Bool.and_false]
end
theorem nth_app2 {α : Type} [Inhabited α] {l r : List α} {x : Nat} (h : l.length ≤ x) : nth (l ++ r) x = nth r (x - l.length) := by
  unfold nth
  rw [List.getD_eq_getElem?_getD, List.getElem?_append_right h, ← List.getD_eq_getElem?_getD]
theorem fill_step {mo : Int} {lo hi rt d : Nat} {ns : List Nd} {f : Fr} {C : List Fr} {T : BT} (hmo : mo = (hi : Int)) (hlo : lo = hi / 2) (h3 : 3 ≤ hi) (hR : RepT ns (plug (f :: C) T)) (hC : CtxOk lo hi rt d (f :: C)) (hB : Bel lo hi d T) (hT : T.es.length + 1 = lo) (hg : C = [] → f.es ≠ []) :
    ∃ es' ks', RepT (filP mo ns f.i f.l.length) (plug C (.nd f.i es' ks')) ∧ Bel lo hi (d + 1) (.nd f.i es' ks') ∧ f.es.length ≤ es'.length + 1 ∧ es'.length ≤ f.es.length ∧ flatL es' ks' = (f.fill T).flat := by
  obtain ⟨p, es, l, r⟩ := f
  obtain ⟨t, Te, Tk⟩ := T
  have hTl : Te.length + 1 = lo := hT
  have hlen : l.length + r.length = es.length := hC.2.1
  have hlb : ∀ k ∈ l, Bal lo hi d k := hC.1.1
  have hrb : ∀ k ∈ r, Bal lo hi d k := hC.1.2
  have hne : es ≠ [] := fun e => by
    by_cases hc : C = []
    · exact hg hc e
    · have h9 : lo ≤ es.length := (hC.2.2.1.2 hc).1
      rw [e] at h9
      simp only [List.length_nil] at h9
      omega
  have hpos : 0 < es.length := List.length_pos_iff.2 hne
  have hfl : (Fr.fill ⟨p, es, l, r⟩ (.nd t Te Tk)).flat = flatL es (l ++ .nd t Te Tk :: r) := rfl
  rw [hfl]
  show ∃ es' ks', RepT (filP mo ns p l.length) (plug C (.nd p es' ks')) ∧ Bel lo hi (d + 1) (.nd p es' ks') ∧ es.length ≤ es'.length + 1 ∧ es'.length ≤ es.length ∧ flatL es' ks' = flatL es (l ++ .nd t Te Tk :: r)
  have hT0 : nth (l ++ BT.nd t Te Tk :: r) l.length = .nd t Te Tk := nth_mid' l _ r
  have hkT : kdN ns p l.length = t := by
    have := fr_kd hR (x := l.length) (by simp)
    rw [this]
    show (nth (l ++ BT.nd t Te Tk :: r) l.length).idx = t
    rw [hT0]
    rfl
  -- the neighbour in front
  rcases List.eq_nil_or_concat l with hl0 | ⟨l', A, hlA⟩
  · -- none
    subst hl0
    have hr1 : richN mo ns p (((([] : List BT).length : Nat) : Int) - 1) = false := rich_no hR (.inl (by simp))
    cases r with
    | nil =>
      simp only [List.length_nil] at hlen
      omega
    | cons G r =>
      obtain ⟨g, Ge, Gk⟩ := G
      have hG := hrb (.nd g Ge Gk) (List.mem_cons_self ..)
      have hGb := bal_iff.1 hG
      have hGl : lo ≤ Ge.length ∧ Ge.length ≤ hi := hGb.2
      have hkG : kdN ns p 1 = g := by
        have := fr_kd hR (x := 1) (by simp)
        rw [this]
        rfl
      have hr2 : richN mo ns p ((([] : List BT).length : Nat) + 1 : Int) = decide (mo / 2 < (Ge.length : Int)) := by
        have := rich_at (mo := mo) hR (x := 1) (by simp)
        exact this
      have hfit := BT.fit hB hGb.1
      unfold filP
      rw [hr1, if_neg (by decide), hr2]
      by_cases hrich : mo / 2 < (Ge.length : Int)
      · rw [if_pos (decide_eq_true hrich)]
        have hrep := rep_givB (l := []) (r := r) (es := es) (a := t) (b := g) hR
        have e1 : givB ns p ([] : List BT).length (kdN ns p (([] : List BT).length + 1)) (kdN ns p ([] : List BT).length) = givB ns p 0 g t := by rw [hkT]; show givB ns p 0 (kdN ns p 1) t = _; rw [hkG]
        rw [e1]
        refine ⟨_, _, hrep, ⟨by show (_ :: _ :: r).length = (es.set _ _).length + 1; simp only [List.length_cons, List.length_set]; have h9 : 0 + (r.length + 1) = es.length := hlen; omega, fun k hk => ?_⟩, by rw [List.length_set]; omega, by rw [List.length_set]; exact Nat.le_refl _, ?_⟩
        · have hk' : k = .nd t (Te ++ [nth es 0]) (Tk ++ Gk.take 1) ∨ k = .nd g (others Ge 0) (Gk.drop 1) ∨ k ∈ r := by
            rcases List.mem_cons.1 hk with h | hk
            · exact .inl h
            · rcases List.mem_cons.1 hk with h | hk
              · exact .inr (.inl h)
              · exact .inr (.inr hk)
          rcases hk' with rfl | rfl | hk'
          · refine bal_iff.2 ⟨?_, by show lo ≤ (Te ++ [_]).length ∧ (Te ++ [_]).length ≤ hi; simp only [List.length_append, List.length_singleton]; omega⟩
            cases d with
            | zero =>
              have e1 : Tk = [] := hB
              have e2 : Gk = [] := hGb.1
              subst e1 e2
              rfl
            | succ d =>
              have e1 : Tk.length = Te.length + 1 := hB.1
              have e2 : Gk.length = Ge.length + 1 := hGb.1.1
              refine ⟨by show (Tk ++ Gk.take 1).length = (Te ++ [_]).length + 1; simp only [List.length_append, List.length_take, List.length_singleton]; omega, fun k hk => ?_⟩
              rcases List.mem_append.1 hk with hk | hk
              · exact hB.2 k hk
              · exact hGb.1.2 k (List.mem_of_mem_take hk)
          · refine bal_iff.2 ⟨?_, by show lo ≤ (Ge.drop 1).length ∧ (Ge.drop 1).length ≤ hi; rw [List.length_drop]; omega⟩
            cases d with
            | zero =>
              have e2 : Gk = [] := hGb.1
              subst e2
              rfl
            | succ d =>
              have e2 : Gk.length = Ge.length + 1 := hGb.1.1
              refine ⟨by show (Gk.drop 1).length = (Ge.drop 1).length + 1; simp only [List.length_drop]; omega, fun k hk => hGb.1.2 k (List.mem_of_mem_drop hk)⟩
          · exact hrb k (List.mem_cons_of_mem _ hk')
        · have hln : ([] : List BT).length + r.length + 1 = es.length := by simp only [List.length_cons, List.length_nil] at hlen ⊢; omega
          have hs : ([] : List BT).length + r.length + 1 = (es.set ([] : List BT).length (nth Ge 0)).length := by rw [List.length_set]; exact hln
          have h1 := flatL_two (l := []) (r := r) (A := .nd t (Te ++ [nth es 0]) (Tk ++ Gk.take 1)) (B := .nd g (others Ge 0) (Gk.drop 1)) hs
          have h2 := flatL_two (l := []) (r := r) (A := .nd t Te Tk) (B := .nd g Ge Gk) hln
          rw [h2]
          refine h1.trans ?_
          have e0 : nth (es.set ([] : List BT).length (nth Ge 0)) ([] : List BT).length = nth Ge 0 := nth_eq (List.getElem?_set_self hpos)
          have e2 : (es.set ([] : List BT).length (nth Ge 0)).drop (([] : List BT).length + 1) = es.drop (([] : List BT).length + 1) := List.drop_set_of_lt (by simp)
          rw [e0, e2]
          have e3 : ∀ x : List TEnt, flatA x ([] : List BT) = [] := fun x => by cases x <;> rfl
          rw [e3, e3, BT.flat, BT.flat, BT.flat, BT.flat]
          rw [flat_givB (by omega) hfit]
          rfl
      · rw [if_neg (by rw [decide_eq_false hrich]; decide), if_neg (by simp), if_pos (by rw [(fr_at hR).2]; show 1 < (idxs ([] ++ BT.nd t Te Tk :: BT.nd g Ge Gk :: r)).length; rw [idxs_len]; simp)]
        have hrep := rep_mrg (l := []) (r := r) (es := es) (a := t) (b := g) hR
        have e1 : mrgN ns p ([] : List BT).length (kdN ns p ([] : List BT).length) (kdN ns p (([] : List BT).length + 1)) = mrgN ns p 0 t g := by rw [hkT]; show mrgN ns p 0 t (kdN ns p 1) = _; rw [hkG]
        rw [e1]
        have hol : (others es 0).length = es.length - 1 := oth_len hpos
        refine ⟨_, _, hrep, ⟨by show (_ :: r).length = (others es 0).length + 1; rw [hol]; simp only [List.length_cons, List.length_nil] at hlen ⊢; omega, fun k hk => ?_⟩, by show es.length ≤ (others es 0).length + 1; rw [hol]; omega, by show (others es 0).length ≤ _; rw [hol]; omega, ?_⟩
        · rcases List.mem_cons.1 (show k ∈ BT.nd t (Te ++ nth es 0 :: Ge) (Tk ++ Gk) :: r from hk) with rfl | hk'
          · refine bal_iff.2 ⟨?_, by show lo ≤ (Te ++ _ :: Ge).length ∧ (Te ++ _ :: Ge).length ≤ hi; simp only [List.length_append, List.length_cons]; omega⟩
            cases d with
            | zero =>
              have e1 : Tk = [] := hB
              have e2 : Gk = [] := hGb.1
              subst e1 e2
              rfl
            | succ d =>
              have e1 : Tk.length = Te.length + 1 := hB.1
              have e2 : Gk.length = Ge.length + 1 := hGb.1.1
              refine ⟨by show (Tk ++ Gk).length = (Te ++ _ :: Ge).length + 1; simp only [List.length_append, List.length_cons]; omega, fun k hk => ?_⟩
              rcases List.mem_append.1 hk with hk | hk
              · exact hB.2 k hk
              · exact hGb.1.2 k hk
          · exact hrb k (List.mem_cons_of_mem _ hk')
        · have hln : ([] : List BT).length + r.length + 1 = es.length := by simp only [List.length_cons, List.length_nil] at hlen ⊢; omega
          have h2 := flatL_two (l := []) (r := r) (A := .nd t Te Tk) (B := .nd g Ge Gk) hln
          rw [h2]
          have h1 := flatL_mid [] (others es 0) (.nd t (Te ++ nth es 0 :: Ge) (Tk ++ Gk)) r (by rw [hol]; simp only [List.length_nil] at hln ⊢; omega)
          refine h1.trans ?_
          have e3 : ∀ x : List TEnt, flatA x ([] : List BT) = [] := fun x => by cases x <;> rfl
          rw [e3, e3, BT.flat, BT.flat, BT.flat, flatL_cat hfit]
          rfl
  · -- one in front
    rw [List.concat_eq_append] at hlA
    subst hlA
    obtain ⟨a, Ae, Ak⟩ := A
    have hA := hlb (.nd a Ae Ak) (by simp)
    have hAb := bal_iff.1 hA
    have hAl : lo ≤ Ae.length ∧ Ae.length ≤ hi := hAb.2
    have hll : (l' ++ [BT.nd a Ae Ak]).length = l'.length + 1 := by simp
    have hkA : kdN ns p l'.length = a := by
      have := fr_kd hR (x := l'.length) (by simp only [List.length_append, List.length_cons]; omega)
      rw [this]
      show (nth ((l' ++ [BT.nd a Ae Ak]) ++ BT.nd t Te Tk :: r) l'.length).idx = a
      rw [List.append_assoc, List.singleton_append, nth_mid']
      rfl
    have hr1 : richN mo ns p (((l' ++ [BT.nd a Ae Ak]).length : Nat) - 1 : Int) = decide (mo / 2 < (Ae.length : Int)) := by
      have := rich_at (mo := mo) hR (x := l'.length) (by simp only [List.length_append, List.length_cons]; omega)
      have e : nth ((l' ++ [BT.nd a Ae Ak]) ++ BT.nd t Te Tk :: r) l'.length = .nd a Ae Ak := by rw [List.append_assoc, List.singleton_append, nth_mid']
      rw [hll, show ((l'.length + 1 : Nat) : Int) - 1 = (l'.length : Int) by omega]
      refine this.trans ?_
      show decide (mo / 2 < ((nth ((l' ++ [BT.nd a Ae Ak]) ++ BT.nd t Te Tk :: r) l'.length).es.length : Int)) = _
      rw [e]
      rfl
    have hfit := BT.fit hAb.1 hB
    have hR2 : RepT ns (plug C (.nd p es (l' ++ .nd a Ae Ak :: .nd t Te Tk :: r))) := by
      have : RepT ns (plug C (.nd p es ((l' ++ [BT.nd a Ae Ak]) ++ BT.nd t Te Tk :: r))) := hR
      rw [List.append_assoc, List.singleton_append] at this
      exact this
    have hln : l'.length + r.length + 1 = es.length := by rw [hll] at hlen; omega
    have hassoc : (l' ++ [BT.nd a Ae Ak]) ++ BT.nd t Te Tk :: r = l' ++ BT.nd a Ae Ak :: BT.nd t Te Tk :: r := by rw [List.append_assoc, List.singleton_append]
    have hl'b : ∀ k ∈ l', Bal lo hi d k := fun k hk => hlb k (List.mem_append_left _ hk)
    have hlt' : l'.length < es.length := by omega
    rw [hassoc]
    unfold filP
    rw [hr1]
    by_cases hrich : mo / 2 < (Ae.length : Int)
    · rw [if_pos (decide_eq_true hrich), hkT, show (l' ++ [BT.nd a Ae Ak]).length - 1 = l'.length by simp, hkA]
      refine ⟨_, _, rep_givF hR2, ⟨by show (l' ++ _ :: _ :: r).length = (es.set _ _).length + 1; simp only [List.length_append, List.length_cons, List.length_set]; omega, fun k hk => ?_⟩, by rw [List.length_set]; omega, by rw [List.length_set]; exact Nat.le_refl _, ?_⟩
      · rcases List.mem_append.1 hk with hk | hk
        · exact hl'b k hk
        · rcases List.mem_cons.1 hk with rfl | hk
          · refine bal_iff.2 ⟨?_, by show lo ≤ (Ae.take _).length ∧ (Ae.take _).length ≤ hi; rw [List.length_take]; omega⟩
            cases d with
            | zero =>
              have e2 : Ak = [] := hAb.1
              subst e2
              rfl
            | succ d =>
              have e2 : Ak.length = Ae.length + 1 := hAb.1.1
              exact ⟨by show (Ak.take _).length = (Ae.take _).length + 1; simp only [List.length_take]; omega, fun k hk => hAb.1.2 k (List.mem_of_mem_take hk)⟩
          · rcases List.mem_cons.1 hk with rfl | hk
            · refine bal_iff.2 ⟨?_, by show lo ≤ (_ :: Te).length ∧ (_ :: Te).length ≤ hi; simp only [List.length_cons]; omega⟩
              cases d with
              | zero =>
                have e1 : Tk = [] := hB
                have e2 : Ak = [] := hAb.1
                subst e1 e2
                rfl
              | succ d =>
                have e1 : Tk.length = Te.length + 1 := hB.1
                have e2 : Ak.length = Ae.length + 1 := hAb.1.1
                refine ⟨by show (Ak.drop _ ++ Tk).length = (_ :: Te).length + 1; simp only [List.length_append, List.length_drop, List.length_cons]; omega, fun k hk => ?_⟩
                rcases List.mem_append.1 hk with hk | hk
                · exact hAb.1.2 k (List.mem_of_mem_drop hk)
                · exact hB.2 k hk
            · exact hrb k hk
      · rw [flatL_two (l := l') (by rw [List.length_set]; exact hln), flatL_two (l := l') hln, BT.flat, BT.flat, BT.flat, BT.flat]
        have e0 : nth (es.set l'.length (nth Ae (Ae.length - 1))) l'.length = nth Ae (Ae.length - 1) := nth_eq (by rw [List.getElem?_set_self hlt'])
        have e2 : (es.set l'.length (nth Ae (Ae.length - 1))).drop (l'.length + 1) = es.drop (l'.length + 1) := List.drop_set_of_lt (by omega)
        have e3 : flatA (es.set l'.length (nth Ae (Ae.length - 1))) l' = flatA es l' := by
          rw [← flatA_take (es := es.set _ _) (l := l') (by rw [List.length_set]; omega), ← flatA_take (es := es) (l := l') (by omega), List.take_set_of_le (Nat.le_refl _)]
        rw [e0, e2, e3, flat_givF (by omega) hfit]
    · rw [if_neg (by rw [decide_eq_false hrich]; decide)]
      -- the neighbour behind
      have key : richN mo ns p (((l' ++ [BT.nd a Ae Ak]).length : Nat) + 1 : Int) = true → ∃ g Ge Gk r', r = .nd g Ge Gk :: r' ∧ lo < Ge.length ∧ kdN ns p ((l' ++ [BT.nd a Ae Ak]).length + 1) = g := fun h => by
        cases r with
        | nil =>
          have := rich_no (mo := mo) hR (x := (((l' ++ [BT.nd a Ae Ak]).length : Nat) + 1 : Int)) (.inr (by simp only [List.length_append, List.length_cons, List.length_nil]; omega))
          rw [show richN mo ns p _ = false from this] at h
          cases h
        | cons G r =>
          obtain ⟨g, Ge, Gk⟩ := G
          have hx : (l' ++ [BT.nd a Ae Ak]).length + 1 < ((l' ++ [BT.nd a Ae Ak]) ++ BT.nd t Te Tk :: .nd g Ge Gk :: r).length := by simp only [List.length_append, List.length_cons, List.length_nil]; omega
          have e : nth ((l' ++ [BT.nd a Ae Ak]) ++ BT.nd t Te Tk :: .nd g Ge Gk :: r) ((l' ++ [BT.nd a Ae Ak]).length + 1) = .nd g Ge Gk := by
            rw [nth_app2 (by omega), Nat.add_sub_cancel_left]
            rfl
          have h1 := rich_at (mo := mo) hR hx
          have h2 : richN mo ns p (((l' ++ [BT.nd a Ae Ak]).length + 1 : Nat) : Int) = true := h
          rw [show richN mo ns p _ = _ from h1] at h2
          have h3 : mo / 2 < ((nth ((l' ++ [BT.nd a Ae Ak]) ++ BT.nd t Te Tk :: .nd g Ge Gk :: r) ((l' ++ [BT.nd a Ae Ak]).length + 1)).es.length : Int) := of_decide_eq_true h2
          rw [e] at h3
          have h3' : mo / 2 < (Ge.length : Int) := h3
          refine ⟨g, Ge, Gk, r, rfl, by omega, ?_⟩
          have h4 := fr_kd hR hx
          refine h4.trans ?_
          show (nth ((l' ++ [BT.nd a Ae Ak]) ++ BT.nd t Te Tk :: .nd g Ge Gk :: r) ((l' ++ [BT.nd a Ae Ak]).length + 1)).idx = g
          rw [e]
          rfl
      by_cases hrr : richN mo ns p (((l' ++ [BT.nd a Ae Ak]).length : Nat) + 1 : Int) = true
      · rw [if_pos hrr]
        obtain ⟨g, Ge, Gk, r', hr, hGr, hkG⟩ := key hrr
        subst hr
        rw [hkG, hkT]
        have hG := hrb (.nd g Ge Gk) (List.mem_cons_self ..)
        have hGb := bal_iff.1 hG
        have hGl : lo ≤ Ge.length ∧ Ge.length ≤ hi := hGb.2
        have hfit2 := BT.fit hB hGb.1
        have hln2 : (l' ++ [BT.nd a Ae Ak]).length + r'.length + 1 = es.length := by simp only [List.length_cons] at hlen; omega
        have hlt2 : (l' ++ [BT.nd a Ae Ak]).length < es.length := by omega
        refine ⟨_, _, rep_givB (l := l' ++ [BT.nd a Ae Ak]) (r := r') (es := es) (a := t) (b := g) hR, ⟨by show ((l' ++ [BT.nd a Ae Ak]) ++ _ :: _ :: r').length = (es.set _ _).length + 1; rw [List.length_append, List.length_set]; simp only [List.length_cons]; omega, fun k hk => ?_⟩, by rw [List.length_set]; omega, by rw [List.length_set]; exact Nat.le_refl _, ?_⟩
        · rcases List.mem_append.1 hk with hk | hk
          · exact hlb k hk
          · rcases List.mem_cons.1 hk with rfl | hk
            · refine bal_iff.2 ⟨?_, by show lo ≤ (Te ++ [_]).length ∧ (Te ++ [_]).length ≤ hi; simp only [List.length_append, List.length_singleton]; omega⟩
              cases d with
              | zero =>
                have e1 : Tk = [] := hB
                have e2 : Gk = [] := hGb.1
                subst e1 e2
                rfl
              | succ d =>
                have e1 : Tk.length = Te.length + 1 := hB.1
                have e2 : Gk.length = Ge.length + 1 := hGb.1.1
                refine ⟨by show (Tk ++ Gk.take 1).length = (Te ++ [_]).length + 1; simp only [List.length_append, List.length_take, List.length_singleton]; omega, fun k hk => ?_⟩
                rcases List.mem_append.1 hk with hk | hk
                · exact hB.2 k hk
                · exact hGb.1.2 k (List.mem_of_mem_take hk)
            · rcases List.mem_cons.1 hk with rfl | hk
              · refine bal_iff.2 ⟨?_, by show lo ≤ (Ge.drop 1).length ∧ (Ge.drop 1).length ≤ hi; rw [List.length_drop]; omega⟩
                cases d with
                | zero =>
                  have e2 : Gk = [] := hGb.1
                  subst e2
                  rfl
                | succ d =>
                  have e2 : Gk.length = Ge.length + 1 := hGb.1.1
                  exact ⟨by show (Gk.drop 1).length = (Ge.drop 1).length + 1; simp only [List.length_drop]; omega, fun k hk => hGb.1.2 k (List.mem_of_mem_drop hk)⟩
              · exact hrb k (List.mem_cons_of_mem _ hk)
        · rw [← hassoc, flatL_two (l := l' ++ [BT.nd a Ae Ak]) (by rw [List.length_set]; exact hln2), flatL_two (l := l' ++ [BT.nd a Ae Ak]) hln2, BT.flat, BT.flat, BT.flat, BT.flat]
          have e0 : nth (es.set (l' ++ [BT.nd a Ae Ak]).length (nth Ge 0)) (l' ++ [BT.nd a Ae Ak]).length = nth Ge 0 := nth_eq (by rw [List.getElem?_set_self hlt2])
          have e2 : (es.set (l' ++ [BT.nd a Ae Ak]).length (nth Ge 0)).drop ((l' ++ [BT.nd a Ae Ak]).length + 1) = es.drop ((l' ++ [BT.nd a Ae Ak]).length + 1) := List.drop_set_of_lt (by omega)
          have e3 : flatA (es.set (l' ++ [BT.nd a Ae Ak]).length (nth Ge 0)) (l' ++ [BT.nd a Ae Ak]) = flatA es (l' ++ [BT.nd a Ae Ak]) := by
            rw [← flatA_take (es := es.set _ _) (l := l' ++ [BT.nd a Ae Ak]) (by rw [List.length_set]; omega), ← flatA_take (es := es) (l := l' ++ [BT.nd a Ae Ak]) (by omega), List.take_set_of_le (Nat.le_refl _)]
          rw [e0, e2, e3, flat_givB (by omega) hfit2]
      · rw [if_neg hrr, if_pos (by simp), hkT, show (l' ++ [BT.nd a Ae Ak]).length - 1 = l'.length by simp, hkA]
        have hol : (others es l'.length).length = es.length - 1 := oth_len hlt'
        refine ⟨_, _, rep_mrg hR2, ⟨by show (l' ++ _ :: r).length = (others es l'.length).length + 1; rw [hol]; simp only [List.length_append, List.length_cons]; omega, fun k hk => ?_⟩, by rw [hol]; omega, by rw [hol]; omega, ?_⟩
        · rcases List.mem_append.1 hk with hk | hk
          · exact hl'b k hk
          · rcases List.mem_cons.1 hk with rfl | hk
            · refine bal_iff.2 ⟨?_, by show lo ≤ (Ae ++ _ :: Te).length ∧ (Ae ++ _ :: Te).length ≤ hi; simp only [List.length_append, List.length_cons]; omega⟩
              cases d with
              | zero =>
                have e1 : Tk = [] := hB
                have e2 : Ak = [] := hAb.1
                subst e1 e2
                rfl
              | succ d =>
                have e1 : Tk.length = Te.length + 1 := hB.1
                have e2 : Ak.length = Ae.length + 1 := hAb.1.1
                refine ⟨by show (Ak ++ Tk).length = (Ae ++ _ :: Te).length + 1; simp only [List.length_append, List.length_cons]; omega, fun k hk => ?_⟩
                rcases List.mem_append.1 hk with hk | hk
                · exact hAb.1.2 k hk
                · exact hB.2 k hk
            · exact hrb k hk
        · rw [flatL_mid l' (others es l'.length) _ r (by rw [hol]; omega), flatL_two (l := l') hln, BT.flat, BT.flat, BT.flat, flatL_cat hfit]
          have e3 : flatA (others es l'.length) l' = flatA es l' := by
            unfold others
            rw [flatA_app _ _ _ (by rw [List.length_take]; omega), flatA_take (by omega)]
          have e4 : (others es l'.length).drop l'.length = es.drop (l'.length + 1) := by
            unfold others
            rw [List.drop_append, List.drop_of_length_le (by rw [List.length_take]; omega), List.length_take, Nat.min_eq_left (by omega), Nat.sub_self, List.drop_zero, List.nil_append]
          rw [e3, e4]
theorem givF_len (ns : List Nd) (p k f t : Nat) : (givF ns p k f t).length = ns.length := by
  unfold givF
  simp only []
  split <;> simp [esN_len, csN_len]
theorem givB_len (ns : List Nd) (p k f t : Nat) : (givB ns p k f t).length = ns.length := by
  unfold givB
  simp only []
  split <;> simp [esN_len, csN_len]
theorem mrgN_len (ns : List Nd) (p k t f : Nat) : (mrgN ns p k t f).length = ns.length := by
  unfold mrgN
  simp [esN_len, csN_len]
theorem filP_len (mo : Int) (ns : List Nd) (p k : Nat) : (filP mo ns p k).length = ns.length := by
  unfold filP
  split
  · exact givF_len ..
  · split
    · exact givB_len ..
    · split
      · exact mrgN_len ..
      · split
        · exact mrgN_len ..
        · rfl
def GapS (rt : Nat) : List Fr → Prop
  | f :: g :: C => GapC rt (g :: C) f.es.length
  | _ => True
theorem GapC.s {rt n : Nat} : ∀ {C : List Fr}, GapC rt C n → GapS rt C
  | [], _ => trivial
  | [f], _ => trivial
  | f :: g :: C, h => h
theorem plug_root {lo hi rt : Nat} : ∀ {C : List Fr} {d : Nat} (T : BT), CtxOk lo hi rt d C → C ≠ [] → (plug C T).es.length ≤ rt
  | [], _, _, _, h => absurd rfl h
  | [f], d, T, hC, _ => hC.2.2.1.1 rfl
  | f :: g :: C, d, T, hC, _ => plug_root (C := g :: C) (f.fill T) hC.2.2.2 (by simp)
structure Filled (mo : Int) (lo hi rt : Nat) (P : List Nat) (k : Nat) (ns : List Nd) (W : List Nat) (fl : List TEnt) : Prop where
  ok : FilsOk mo ns W
  okR : FilROk mo P k ns
  same : filRW mo P k ns = filW mo ns W
  tree : ∃ T d, RepT (filW mo ns W) T ∧ T.idx = 0 ∧ Bel lo hi d T ∧ T.es.length ≤ rt ∧ T.flat = fl
  len : (filW mo ns W).length = ns.length
theorem fill_up {mo : Int} {lo hi rt : Nat} (hmo : mo = (hi : Int)) (hlo : lo = hi / 2) (h3 : 3 ≤ hi) (h8 : hi ≤ 800) (hrt : rt ≤ hi) (hlr : lo ≤ rt) (P : List Nat) : ∀ (C : List Fr) (d : Nat) (ns : List Nd) (T : BT), RepT ns (plug C T) → (plug C T).idx = 0 → CtxOk lo hi rt d C → Bel lo hi d T →
    ((C = [] → T.es.length ≤ rt) ∧ (C ≠ [] → lo ≤ T.es.length + 1 ∧ T.es.length ≤ hi)) → (∀ f, C = [f] → f.es = [] → rt ≤ T.es.length) → GapS rt C → ns.length ≤ 800 → P.take (C.length + 1) = (T.idx :: C.map Fr.i).reverse →
    Filled mo lo hi rt P C.length ns (T.idx :: C.map Fr.i) (plug C T).flat
  | [], d, ns, T, hR, h0, hC, hB, hb, hg, hs, hl, hP => by
    have h1 : T.idx = 0 := h0
    have hat := RepT.at_ (C := []) hR
    have e : filW mo ns [T.idx] = ns := by
      show fil1 mo ns T.idx = ns
      unfold fil1
      rw [if_neg (fun h => by omega)]
    refine ⟨⟨⟨hat.1, fun h => by omega⟩, trivial⟩, trivial, e.symm, ?_, ?_⟩
    · show ∃ T' d', RepT (filW mo ns [T.idx]) T' ∧ _
      rw [e]
      exact ⟨T, d, hR, h1, hB, hb.1 rfl, rfl⟩
    · show (filW mo ns [T.idx]).length = _
      rw [e]
  | f :: C, d, ns, T, hR, h0, hC, hB, hb, hg, hs, hl, hP => by
    have hne : T.idx ≠ 0 := by
      have := plug_ne hR (by simp)
      rw [h0] at this
      exact this
    have hat := RepT.at_ (C := f :: C) hR
    have hb1 := hb.2 (by simp)
    have hlen2 : (C.map Fr.i).length = C.length := by simp
    have hP1 := take_rev (A := f.i :: C.map Fr.i) (x := T.idx) (by
      rw [List.length_cons, hlen2]
      exact hP)
    rw [List.length_cons, hlen2] at hP1
    have hP2 := take_rev (A := C.map Fr.i) (x := f.i) (by
      rw [hlen2]
      exact hP1.2)
    rw [hlen2] at hP2
    have hf := hC.2.2.1
    have hes : (nth ns T.idx).es.length = T.es.length := by rw [hat.2]
    have hmo2 : mo / 2 = (lo : Int) := by omega
    have hgn : ∀ n, f.es.length ≤ n + 1 → ∀ g, C = [g] → g.es = [] → rt ≤ n := fun n hn g hC' hge => by
      subst hC'
      have h9 : rt < f.es.length := hs hge
      omega
    have hgS : GapS rt C := by
      cases C with
      | nil => trivial
      | cons g C' =>
        cases C' with
        | nil => trivial
        | cons h C'' => exact hs
    by_cases hsm : T.es.length + 1 = lo
    · -- filled
      have hlt : ((nth ns T.idx).es.length : Int) < mo / 2 := by rw [hes, hmo2]; omega
      have hlt2 : ((nth ns (nth P (C.length + 1))).es.length : Int) < mo / 2 := by rw [hP1.1]; exact hlt
      have hnfe : C = [] → f.es ≠ [] := fun hc e => by
        subst hc
        have := hg f rfl e
        omega
      obtain ⟨es', ks', s1, s2, s3, s4, s5⟩ := fill_step (rt := rt) hmo hlo h3 hR hC hB hsm hnfe
      have hpar := RepT.par hR
      have hix := fr_ix hR
      have e1 : fil1 mo ns T.idx = filP mo ns f.i f.l.length := by
        unfold fil1 filN
        rw [if_pos ⟨by omega, hlt⟩, hpar]
      have hlp := filP_len mo ns f.i f.l.length
      have hsm9 : Sm 900 ns := by
        have hB9 := plug_bel (C := f :: C) (T := T) (hC.mono (lo' := lo - 1) (by omega)) (hB.mono (by omega)) (fun _ => by omega)
        exact (RepT.sm hR hB9 (Nat.le_refl hi) (Nat.le_trans (plug_root T hC (by simp)) hrt)).mono (by omega)
      have hfo : FilOk mo ns f.i f.l.length := by
        have hR2 : RepT ns (plug C (.nd f.i f.es (f.l ++ T :: f.r))) := hR
        exact fil_ok hR2 (by simp) (by have := hC.2.1; simp only [List.length_append, List.length_cons]; omega) (by omega) (by omega) hsm9
      have hkd : kdN ns f.i f.l.length = T.idx := by
        rw [fr_kd hR (by simp), nth_mid']
      have ih := fill_up hmo hlo h3 h8 hrt hlr P C (d + 1) (filP mo ns f.i f.l.length) (.nd f.i es' ks') s1 (by
        rw [plug_idx C (.nd f.i es' ks') (f.fill T) rfl]
        exact h0) hC.2.2.2 s2 ⟨fun h => Nat.le_trans s4 (hf.1 h), fun h => by
          have h9 := hf.2 h
          show lo ≤ es'.length + 1 ∧ es'.length ≤ hi
          omega⟩ (hgn _ s3) hgS (by omega) (by exact hP1.2)
      have eW : filW mo ns (T.idx :: (f :: C).map Fr.i) = filW mo (filP mo ns f.i f.l.length) ((BT.nd f.i es' ks').idx :: C.map Fr.i) := by
        show filW mo (fil1 mo ns T.idx) _ = _
        rw [e1]
        rfl
      have hpf : (plug C (.nd f.i es' ks')).flat = (plug (f :: C) T).flat := by
        show _ = (plug C (f.fill T)).flat
        rw [plug_flat hC.2.2.2, plug_flat hC.2.2.2, BT.flat, s5]
      refine ⟨⟨⟨hat.1, fun _ _ => ?_⟩, ?_⟩, ⟨⟨by rw [hP1.1]; exact hat.1, fun _ => ?_⟩, ?_⟩, ?_, ?_, ?_⟩
      · rw [hpar]
        exact hfo
      · rw [e1]
        exact ih.ok
      · rw [hP1.1, hP2.1]
        exact ⟨by rw [hix]; exact hfo, by rw [hix]; exact hkd⟩
      · rw [if_pos hlt2, hP1.1, hP2.1, hix]
        exact ih.okR
      · show filRW mo P C.length (if _ then _ else _) = _
        rw [if_pos hlt2, hP1.1, hP2.1, hix, eW]
        exact ih.same
      · rw [eW, ← hpf]
        exact ih.tree
      · rw [eW, ih.len, hlp]
    · -- it stays as it is
      have hbal : lo ≤ T.es.length := by omega
      have hno : ¬ ((nth ns T.idx).es.length : Int) < mo / 2 := by rw [hes, hmo2]; omega
      have hno2 : ¬ ((nth ns (nth P (C.length + 1))).es.length : Int) < mo / 2 := by rw [hP1.1]; exact hno
      have e1 : fil1 mo ns T.idx = ns := by
        unfold fil1
        rw [if_neg (fun h => hno h.2)]
      have ih := fill_up hmo hlo h3 h8 hrt hlr P C (d + 1) ns (f.fill T) hR h0 hC.2.2.2 (bel_fill hC (bal_iff.2 ⟨hB, hbal, hb1.2⟩)) ⟨fun h => hf.1 h, fun h => by
        have h9 := hf.2 h
        show lo ≤ f.es.length + 1 ∧ f.es.length ≤ hi
        omega⟩ (hgn _ (by show f.es.length ≤ f.es.length + 1; omega)) hgS hl hP1.2
      have eW : filW mo ns (T.idx :: (f :: C).map Fr.i) = filW mo ns ((f.fill T).idx :: C.map Fr.i) := by
        show filW mo (fil1 mo ns T.idx) _ = _
        rw [e1]
        rfl
      refine ⟨⟨⟨hat.1, fun _ h => absurd h hno⟩, ?_⟩, ⟨⟨by rw [hP1.1]; exact hat.1, fun h => absurd h hno2⟩, ?_⟩, ?_, ?_, ?_⟩
      · rw [e1]
        exact ih.ok
      · rw [if_neg hno2]
        exact ih.okR
      · show filRW mo P C.length (if _ then _ else _) = _
        rw [if_neg hno2, eW]
        exact ih.same
      · rw [eW]
        exact ih.tree
      · rw [eW]
        exact ih.len
theorem rot_ok {rm : Int} {ns : List Nd} {T : BT} (h : RepT ns T) (h0 : T.idx = 0) (hl : ns.length ≤ 900) : RotOk rm ns := by
  obtain ⟨i, es, ks⟩ := T
  have hi : i = 0 := h0
  subst hi
  have hat : 0 < ns.length ∧ nth ns 0 = ⟨true, es, idxs ks⟩ := h.root
  refine ⟨hat.1, hl, by rw [hat.2], fun h1 => ?_⟩
  have hcs : (nth ns 0).cs = idxs ks := by rw [hat.2]
  rw [hcs, idxs_len] at h1
  have hk := (kid_ok (C := []) h).1 0 (by omega)
  have hg := idxs_getD (ks := ks) (x := 0) (by omega)
  have hkd : kdN ns 0 0 = (nth ks 0).idx := by
    unfold kdN
    rw [hcs, hg]
    rfl
  rw [hcs, hg, hkd]
  refine ⟨by have := hk.2; omega, hk.1, ?_⟩
  have hs := split_at (ks := ks) (p := 0) (by omega)
  generalize nth ks 0 = K at hs ⊢
  rw [hs] at h
  have h3 : RepT ns (plug [⟨0, es, ks.take 0, ks.drop (0 + 1)⟩] K) := h
  rw [(RepT.at_ h3).2]
theorem rotN_len (rm : Int) (ns : List Nd) : (rotN rm ns).length = ns.length := by
  unfold rotN
  split
  · split
    · simp
    · rfl
  · rfl
theorem rep_rot {mo rm : Int} {lo hi rt d : Nat} {ns : List Nd} {T : BT} (hz : Sz mo rm lo hi rt) (h : RepT ns T) (h0 : T.idx = 0) (hB : Bel lo hi d T) (hr : T.es.length ≤ rt) : ∃ T' d', RepT (rotN rm ns) T' ∧ T'.idx = 0 ∧ Bel lo hi d' T' ∧ T'.es.length ≤ rt ∧ NoGap rt T' ∧ T'.flat = T.flat := by
  obtain ⟨i, es, ks⟩ := T
  have hi0 : i = 0 := h0
  subst hi0
  have hat : 0 < ns.length ∧ nth ns 0 = ⟨true, es, idxs ks⟩ := h.root
  have hcs : (nth ns 0).cs = idxs ks := by rw [hat.2]
  have hes : (nth ns 0).es = es := by rw [hat.2]
  have hrm := hz.erm; have hlo := hz.elo; have hi3 := hz.hi3
  unfold rotN
  by_cases h1 : (nth ns 0).es.length = 0 ∧ (nth ns 0).cs.length = 1
  · rw [if_pos h1]
    rw [hes, hcs, idxs_len] at h1
    have hes0 : es = [] := List.eq_nil_of_length_eq_zero h1.1
    obtain ⟨K, hK⟩ : ∃ K, ks = [K] := by
      cases ks with
      | nil => simp at h1
      | cons K ks =>
        cases ks with
        | nil => exact ⟨K, rfl⟩
        | cons _ _ => simp at h1
    subst hes0 hK
    obtain ⟨c, Ke, Kk⟩ := K
    have hkd : kdN ns 0 0 = c := by
      unfold kdN
      rw [hcs]
      rfl
    have h3 : RepT ns (plug [⟨0, [], [], []⟩] (.nd c Ke Kk)) := h
    have hKat : c < ns.length ∧ nth ns c = ⟨true, Ke, idxs Kk⟩ := RepT.at_ h3
    rw [hkd, hKat.2]
    obtain ⟨d', rfl⟩ : ∃ d', d = d' + 1 := by
      cases d with
      | zero => exact absurd (show [BT.nd c Ke Kk] = [] from hB) (by simp)
      | succ d' => exact ⟨d', rfl⟩
    have hKB := bal_iff.1 (hB.2 (.nd c Ke Kk) (List.mem_singleton.2 rfl))
    have hKl : lo ≤ Ke.length ∧ Ke.length ≤ hi := hKB.2
    simp only []
    by_cases h2 : (Ke.length : Int) ≤ rm
    · rw [if_pos h2]
      have hN : RepN ns ((0, ⟨true, [], [(c : Int)]⟩) :: (c, ⟨true, Ke, idxs Kk⟩) :: nodesL Kk) := by
        have := h
        unfold RepT at this
        rw [BT.nodes, nodesL, BT.nodes, nodesL, List.append_nil] at this
        exact this
      have h4 := (hN.set ⟨true, Ke, idxs Kk⟩).gone2
      refine ⟨.nd 0 Ke Kk, d', ?_, rfl, ?_, by show Ke.length ≤ rt; omega, fun e => ?_, ?_⟩
      · unfold RepT
        rw [BT.nodes]
        exact h4
      · cases d' <;> exact hKB.1
      · have e' : Ke = [] := e
        rw [e'] at hKl
        simp only [List.length_nil] at hKl
        omega
      · rw [BT.flat, BT.flat, flatL, flatL_nil, List.append_nil, BT.flat]
    · rw [if_neg h2]
      refine ⟨_, d' + 1, h, rfl, hB, Nat.zero_le _, fun _ k hk => ?_, rfl⟩
      have : BT.nd c Ke Kk = k := (List.cons.inj hk).1
      rw [← this]
      show rt < Ke.length
      omega
  · rw [if_neg h1]
    refine ⟨_, d, h, rfl, hB, hr, fun e k hk => ?_, rfl⟩
    refine absurd ⟨?_, ?_⟩ h1
    · rw [hes]
      show es.length = 0
      rw [show es = [] from e]
      rfl
    · rw [hcs, idxs_len]
      show ks.length = 1
      rw [show ks = [k] from hk]
      rfl
theorem tln_us {ns : List Nd} : ∀ (m : Nat) {i : Nat}, i < m → (nth ns i).us = true → i < tln ns m
  | 0, i, h, _ => absurd h (Nat.not_lt_zero _)
  | m + 1, i, h, hu => by
    rw [tln]
    split
    · exact h
    · rename_i h2
      rcases Nat.eq_or_lt_of_le (Nat.le_of_lt_succ h) with rfl | h3
      · exact absurd hu h2
      · exact tln_us m h3 hu
theorem tln_last {ns : List Nd} : ∀ (m : Nat), 0 < tln ns m → (nth ns (tln ns m - 1)).us = true
  | 0, h => absurd h (Nat.lt_irrefl _)
  | m + 1, h => by
    rw [tln] at h ⊢
    split at h
    · rename_i h2
      rw [if_pos h2]
      exact h2
    · rename_i h2
      rw [if_neg h2]
      exact tln_last m h
theorem nth_take9 {α : Type} [Inhabited α] {l : List α} {m i : Nat} (h : i < m) : nth (l.take m) i = nth l i := by
  unfold nth
  rw [List.getD_eq_getElem?_getD, List.getElem?_take, if_pos h, ← List.getD_eq_getElem?_getD]
theorem rep_trim {ns : List Nd} {T : BT} (h : RepT ns T) (h0 : T.idx = 0) : RepT (trmN ns) T ∧ LastU (trmN ns) ∧ (trmN ns).length ≤ ns.length := by
  have hroot := h.root
  rw [h0] at hroot
  have hle := tln_le ns ns.length
  have hpos := tln_us ns.length hroot.1 (by rw [hroot.2])
  have hl : (trmN ns).length = tln ns ns.length := by
    unfold trmN
    rw [List.length_take]
    omega
  refine ⟨⟨fun p hp => ?_, h.nd, fun i hi hm => ?_⟩, ?_, by omega⟩
  · have h1 := RepN.at_ (i := p.1) (x := p.2) h hp
    have h2 := tln_us ns.length h1.1 (by rw [h1.2]; exact nodes_us T p hp)
    unfold trmN
    rw [List.getElem?_take, if_pos h2]
    exact h.get p hp
  · rw [hl] at hi
    unfold trmN
    rw [nth_take9 hi]
    exact h.rest i (by omega) hm
  · unfold LastU
    rw [hl]
    unfold trmN
    rw [nth_take9 (by omega)]
    exact tln_last ns.length (by omega)
theorem rgt_desc {ns : List Nd} {lo hi rt : Nat} : ∀ (f d : Nat) (C : List Fr) (T : BT), RepT ns (plug C T) → CtxOk lo hi rt d C → Bel lo hi d T → (lo ≤ T.es.length ∧ T.es.length ≤ hi) → C ≠ [] → d < f →
    ∃ D T' d', plug D T' = T ∧ CtxOk lo hi rt d' (D ++ C) ∧ Bel lo hi d' T' ∧ (lo ≤ T'.es.length ∧ T'.es.length ≤ hi) ∧ T'.ks = [] ∧ rgtN ns f T.idx = (D.map Fr.i).reverse ++ [T'.idx] ∧ RgtOk ns f T.idx ∧ sufC D = [] ∧ d' + D.length = d
  | 0, d, C, T, _, _, _, _, _, h => absurd h (Nat.not_lt_zero _)
  | f + 1, d, C, T, hR, hC, hB, hb, hne, hd => by
    have hat := hR.at_
    have hcs : (nth ns T.idx).cs = idxs T.ks := by rw [hat.2]
    rw [rgtN, RgtOk, hcs, idxs_len]
    by_cases hk : T.ks.length = 0
    · rw [if_pos hk]
      exact ⟨[], T, d, rfl, hC, hB, hb, List.eq_nil_of_length_eq_zero hk, rfl, ⟨hat.1, .inl hk⟩, rfl, rfl⟩
    · rw [if_neg hk]
      obtain ⟨d', rfl⟩ : ∃ d', d = d' + 1 := by
        cases d with
        | zero => exact absurd (show T.ks.length = 0 by rw [show T.ks = [] from hB]; rfl) hk
        | succ d' => exact ⟨d', rfl⟩
      have hkl := hB.1
      obtain ⟨l, K, hlK⟩ : ∃ l K, T.ks = l ++ [K] := by
        rcases List.eq_nil_or_concat T.ks with h | ⟨l, K, h⟩
        · rw [h] at hk
          exact absurd rfl hk
        · exact ⟨l, K, by rw [h, List.concat_eq_append]⟩
      have hll : T.ks.length = l.length + 1 := by rw [hlK]; simp
      have hbal : ∀ k ∈ T.ks, Bal lo hi d' k := hB.2
      have hBK := bal_iff.1 (hbal K (by rw [hlK]; simp))
      have hT : T = Fr.fill ⟨T.idx, T.es, l, []⟩ K := by
        have := T.eta
        rw [hlK] at this
        exact this
      have hctx : CtxOk lo hi rt d' (⟨T.idx, T.es, l, []⟩ :: C) := ⟨⟨fun k hk => hbal k (by rw [hlK]; simp [hk]), fun k hk => (nomatch hk)⟩, by show l.length + 0 = T.es.length; omega, ⟨fun h => absurd h hne, fun _ => hb⟩, hC⟩
      have hnK : nth T.ks (T.ks.length - 1) = K := by rw [hll, hlK, Nat.add_sub_cancel]; exact nth_mid' l K []
      have hget : (idxs T.ks).getD (T.ks.length - 1) 0 = (K.idx : Int) := by rw [idxs_getD (by omega), hnK]
      have hkd : kdN ns T.idx (T.ks.length - 1) = K.idx := by
        unfold kdN
        rw [hcs, hget]
        rfl
      rw [hkd, hget]
      obtain ⟨D, T', d9, e1, e2, e3, e4, e5, e6, e7, e8, e9⟩ := rgt_desc f d' (⟨T.idx, T.es, l, []⟩ :: C) K (by
        show RepT ns (plug C (Fr.fill _ K))
        rw [← hT]
        exact hR) hctx hBK.1 hBK.2 (by simp) (by omega)
      refine ⟨D ++ [⟨T.idx, T.es, l, []⟩], T', d9, ?_, ?_, e3, e4, e5, ?_, ⟨hat.1, .inr ⟨by omega, e7⟩⟩, ?_, ?_⟩
      · rw [plug_app, e1]
        exact hT.symm
      · rw [List.append_assoc]
        exact e2
      · rw [e6]
        simp
      · have hsuf : ∀ (A : List Fr) (g : Fr), sufC A = [] → g.es.length ≤ g.l.length → sufC (A ++ [g]) = [] := by
          intro A
          induction A with
          | nil =>
            intro g _ h
            show flatZ (g.es.drop g.l.length) g.r ++ [] = []
            rw [List.drop_of_length_le h]
            rfl
          | cons a A ih =>
            intro g h h2
            have h3 : flatZ (a.es.drop a.l.length) a.r ++ sufC A = [] := h
            have h4 := List.append_eq_nil_iff.1 h3
            show flatZ (a.es.drop a.l.length) a.r ++ sufC (A ++ [g]) = []
            rw [h4.1, ih g h4.2 h2]
            rfl
        exact hsuf D _ e8 (by show T.es.length ≤ l.length; omega)
      · simp only [List.length_append, List.length_singleton]
        omega
def remRN (mo rm : Int) (ns : List Nd) (P : List Nat) (k : Nat) : List Nd := trmN (rotN rm (filRW mo (remQ ns P k) ((remQ ns P k).length - 1) (rem2 ns P k)))
theorem preC_app : ∀ (A B : List Fr), preC (A ++ B) = preC B ++ preC A
  | [], B => by simp [preC]
  | f :: A, B => by rw [List.cons_append, preC, preC, preC_app A B, List.append_assoc]
theorem sufC_app : ∀ (A B : List Fr), sufC (A ++ B) = sufC A ++ sufC B
  | [], B => rfl
  | f :: A, B => by rw [List.cons_append, sufC, sufC, sufC_app A B, List.append_assoc]
theorem ctx_pre {lo hi rt : Nat} : ∀ {A B : List Fr} {d : Nat}, CtxOk lo hi rt d (A ++ B) → B ≠ [] → CtxOk lo hi hi d A
  | [], _, _, _, _ => trivial
  | f :: A, B, d, h, hB => ⟨h.1, h.2.1, ⟨fun _ => (h.2.2.1.2 (by simp [hB])).2, fun _ => h.2.2.1.2 (by simp [hB])⟩, ctx_pre h.2.2.2 hB⟩
theorem ctx_swap {lo hi rt : Nat} {f f' : Fr} (hl : f'.l = f.l) (hr : f'.r = f.r) (he : f'.es.length = f.es.length) {B : List Fr} : ∀ {A : List Fr} {d : Nat}, CtxOk lo hi rt d (A ++ f :: B) → CtxOk lo hi rt d (A ++ f' :: B)
  | [], d, h => ⟨by rw [hl, hr]; exact h.1, by rw [hl, hr, he]; exact h.2.1, by rw [he]; exact h.2.2.1, h.2.2.2⟩
  | g :: A, d, h => ⟨h.1, h.2.1, ⟨fun e => absurd e (by simp), fun _ => h.2.2.1.2 (by simp)⟩, ctx_swap hl hr he h.2.2.2⟩
theorem nogap_plug {lo hi rt : Nat} : ∀ {D : List Fr} {d : Nat} {T T' : BT}, CtxOk lo hi rt d D → T.es.length = T'.es.length → (D = [] → NoGap rt T') → NoGap rt (plug D T) → NoGap rt (plug D T')
  | [], d, T, T', _, _, h, _ => h rfl
  | [f], d, T, T', hC, he, _, h => fun e k hk => by
    have h1 : f.es = [] := e
    have hl := hC.2.1
    rw [h1] at hl
    have el : f.l = [] := List.eq_nil_of_length_eq_zero (by simp only [List.length_nil] at hl; omega)
    have er : f.r = [] := List.eq_nil_of_length_eq_zero (by simp only [List.length_nil] at hl; omega)
    have h2 : f.l ++ T' :: f.r = [k] := hk
    rw [el, er] at h2
    have h3 : T' = k := (List.cons.inj h2).1
    rw [← h3, ← he]
    refine h e T ?_
    show f.l ++ T :: f.r = [T]
    rw [el, er]
    rfl
  | f :: g :: D, d, T, T', hC, he, _, h => nogap_plug (D := g :: D) (T := f.fill T) (T' := f.fill T') hC.2.2.2 rfl (fun e => absurd e (by simp)) h
theorem others_app {α : Type} {A l B : List α} {i : Nat} (h : i < l.length) : others (A ++ (l ++ B)) (A.length + i) = A ++ (others l i ++ B) := by
  unfold others
  rw [List.take_length_add_append, show A.length + i + 1 = A.length + (i + 1) by omega, List.drop_length_add_append, List.take_append_of_le_length (by omega), List.drop_append_of_le_length (by omega)]
  simp only [List.append_assoc]
theorem others_mid {α : Type} (A B : List α) (x : α) : others (A ++ x :: B) A.length = A ++ B := by
  unfold others
  rw [List.take_left' rfl, List.drop_append, List.drop_of_length_le (by omega), Nat.add_sub_cancel_left]
  rfl
theorem others_sub {α : Type} (l : List α) (i : Nat) : (others l i).Sublist l := by
  have h : (l.take i ++ l.drop (i + 1)).Sublist (l.take i ++ l.drop i) := by
    refine List.Sublist.append (List.Sublist.refl _) ?_
    rw [← List.drop_drop]
    exact List.drop_sublist _ _
  rw [List.take_append_drop] at h
  exact h
theorem others_last {α : Type} (l : List α) (x : α) : others (l ++ [x]) ((l ++ [x]).length - 1) = l := by
  rw [List.length_append, List.length_singleton, Nat.add_sub_cancel, others_mid, List.append_nil]
theorem fnd_lt' {co : Int} {es : List TEnt} {key : List UInt8} (h : fnd co es key = true) : plc co es key < es.length := by
  unfold fnd at h
  simp only [Bool.and_eq_true, decide_eq_true_eq] at h
  exact h.1
structure RemFin (mo rm : Int) (lo hi rt : Nat) (ns : List Nd) (Q : List Nat) (fl : List TEnt) : Prop where
  fil : FilsOk mo ns Q.reverse
  rot : RotOk rm (filW mo ns Q.reverse)
  filR : FilROk mo Q (Q.length - 1) ns
  same : filRW mo Q (Q.length - 1) ns = filW mo ns Q.reverse
  tree : ∃ T d, RepT (trmN (rotN rm (filW mo ns Q.reverse))) T ∧ T.idx = 0 ∧ Bel lo hi d T ∧ T.es.length ≤ rt ∧ NoGap rt T ∧ T.flat = fl
  last : LastU (trmN (rotN rm (filW mo ns Q.reverse)))
  len : (trmN (rotN rm (filW mo ns Q.reverse))).length ≤ ns.length
theorem rem_fin {mo rm : Int} {lo hi rt j : Nat} {ns : List Nd} {C : List Fr} {e : List TEnt} (hz : Sz mo rm lo hi rt) (hR : RepT ns (plug C (.nd j e []))) (h0 : (plug C (.nd j e [])).idx = 0) (hC : CtxOk lo hi rt 0 C)
    (hb : (C = [] → e.length ≤ rt) ∧ (C ≠ [] → lo ≤ e.length + 1 ∧ e.length ≤ hi)) (hg : ∀ f, C = [f] → f.es = [] → rt ≤ e.length) (hs : GapS rt C) (hl : ns.length ≤ 800) : RemFin mo rm lo hi rt ns ((C.map Fr.i).reverse ++ [j]) (plug C (.nd j e [])).flat := by
  have hmo := hz.emo; have hlo := hz.elo; have hi3 := hz.hi3; have hi8 := hz.hi8; have hlr := hz.lr; have hrh := hz.rh
  have hQl : ((C.map Fr.i).reverse ++ [j]).length - 1 = C.length := by simp
  have hQr : ((C.map Fr.i).reverse ++ [j]).reverse = j :: C.map Fr.i := by simp
  have hF := fill_up hmo hlo hi3 (by omega) hrh hlr ((C.map Fr.i).reverse ++ [j]) C 0 ns (.nd j e []) hR h0 hC rfl hb hg hs hl (by
    rw [List.take_of_length_le (by simp)]
    show _ = (j :: C.map Fr.i).reverse
    simp)
  obtain ⟨T1, d1, t1, t2, t3, t4, t5⟩ := hF.tree
  have e1 : filW mo ns ((BT.nd j e []).idx :: C.map Fr.i) = filW mo ns ((C.map Fr.i).reverse ++ [j]).reverse := by rw [hQr]; rfl
  rw [e1] at t1
  have hlen : (filW mo ns ((C.map Fr.i).reverse ++ [j]).reverse).length = ns.length := by rw [← e1]; exact hF.len
  obtain ⟨T2, d2, u1, u2, u3, u4, u5, u6⟩ := rep_rot hz t1 t2 t3 t4
  have hT := rep_trim u1 u2
  refine ⟨by rw [hQr]; exact hF.ok, rot_ok t1 t2 (by omega), by rw [hQl]; exact hF.okR, by rw [hQl, hQr]; exact hF.same, ⟨T2, d2, hT.1, u2, u3, u4, u5, u6.trans t5⟩, hT.2.1, ?_⟩
  have := hT.2.2
  rw [rotN_len] at this
  omega
structure Removed (co mo rm : Int) (lo hi rt : Nat) (ns : List Nd) (key : List UInt8) (fl : List TEnt) : Prop where
  ok : RemOk mo rm ns (pathN co ns key).1 (pathN co ns key).2.1
  filR : FilROk mo (remQ ns (pathN co ns key).1 (pathN co ns key).2.1) ((remQ ns (pathN co ns key).1 (pathN co ns key).2.1).length - 1) (rem2 ns (pathN co ns key).1 (pathN co ns key).2.1)
  same : remRN mo rm ns (pathN co ns key).1 (pathN co ns key).2.1 = remN mo rm ns (pathN co ns key).1 (pathN co ns key).2.1
  filS : filRW mo (remQ ns (pathN co ns key).1 (pathN co ns key).2.1) ((remQ ns (pathN co ns key).1 (pathN co ns key).2.1).length - 1) (rem2 ns (pathN co ns key).1 (pathN co ns key).2.1) = filW mo (rem2 ns (pathN co ns key).1 (pathN co ns key).2.1) (remQ ns (pathN co ns key).1 (pathN co ns key).2.1).reverse
  tree : ∃ T d, RepT (remN mo rm ns (pathN co ns key).1 (pathN co ns key).2.1) T ∧ VT co lo hi rt d T ∧ T.flat = others fl (plc co fl key)
  len : (remN mo rm ns (pathN co ns key).1 (pathN co ns key).2.1).length ≤ ns.length
  last : LastU (remN mo rm ns (pathN co ns key).1 (pathN co ns key).2.1)
theorem vt_less {co : Int} {lo hi rt d d' : Nat} {T T' : BT} {i : Nat} (hV : VT co lo hi rt d T) (h0 : T'.idx = 0) (hB : Bel lo hi d' T') (hr : T'.es.length ≤ rt) (hg : NoGap rt T') (hf : T'.flat = others T.flat i) : VT co lo hi rt d' T' := by
  refine ⟨h0, hB, hr, hg, ?_, fun x hx => ?_⟩
  · rw [hf]
    exact hV.srt.sublist (others_sub _ _)
  · rw [hf] at hx
    exact hV.ents x ((others_sub _ _).subset hx)
theorem rem_all {co mo rm : Int} {lo hi rt d : Nat} {ns : List Nd} {T : BT} {key : List UInt8} (hz : Sz mo rm lo hi rt) (hR : RepT ns T) (hV : VT co lo hi rt d T) (hl : ns.length ≤ 400) (hf : (pathN co ns key).2.2 = true) : Removed co mo rm lo hi rt ns key T.flat := by
  have hmo := hz.emo; have hlo := hz.elo; have hi3 := hz.hi3; have hi8 := hz.hi8; have hlr := hz.lr; have hrh := hz.rh
  have hsm := hR.sm hV.bel (Nat.le_refl hi) (Nat.le_trans hV.root hrh)
  have hsm9 : Sm 900 ns := hsm.mono (by omega)
  obtain ⟨D, T', d', e1, e2, e3, e4, e5, e6, e7, e8, e9, e10⟩ := vt_desc hR hV key
  rw [e8] at hf
  obtain ⟨i, es, ks⟩ := T'
  have hfnd : fnd co es key = true := hf
  have hpl : (pathN co ns key).2.1 = plc co es key := by rw [e8]; rfl
  have hplt := fnd_lt' hfnd
  have hR1 : RepT ns (plug D (.nd i es ks)) := by rw [e1]; exact hR
  have hat : i < ns.length ∧ nth ns i = ⟨true, es, idxs ks⟩ := RepT.at_ hR1
  have hlast : lastN (pathN co ns key).1 = i := by rw [e7]; exact last_app _ _
  have hPl : (pathN co ns key).1.length = D.length + 1 := by rw [e7]; simp
  have hes : es.length ≤ hi := by
    by_cases hD : D = []
    · exact Nat.le_trans (e4.1 hD) hrh
    · exact (e4.2 hD).2
  have hfl : T.flat = preC D ++ (flatL es ks ++ sufC D) := by rw [← e1, plug_flat e2, BT.flat]
  have hsr := hV.srt
  rw [hfl] at hsr
  have hs1 := List.pairwise_append.1 hsr
  have hs2 := List.pairwise_append.1 hs1.2.1
  have hplT : plc co T.flat key = (preC D).length + plc co (flatL es ks) key := by rw [hfl, plc_app1 (pre_lt e2 e10 hs1.1), plc_app2 (suf_gt e2 e10 hs2.2.1)]
  have hgap0 : NoGap rt (plug D (.nd i es ks)) := by rw [e1]; exact hV.gap
  have hcsl : (nth ns i).cs.length = ks.length := by rw [hat.2]; exact idxs_len ks
  by_cases hk0 : ks = []
  · -- in a leaf
    subst hk0
    have hd0 : d' = 0 := e3.leaf rfl
    subst hd0
    have hcsl : (nth ns i).cs.length = 0 := hcsl
    have hq : remQ ns (pathN co ns key).1 (pathN co ns key).2.1 = (pathN co ns key).1 := by
      unfold remQ
      rw [hlast, if_pos hcsl]
    have hr1 : rem1 ns (pathN co ns key).1 (pathN co ns key).2.1 = ns := by
      unfold rem1
      rw [hlast, if_pos hcsl]
    have hrk : remK ns (pathN co ns key).1 (pathN co ns key).2.1 = plc co es key := by
      unfold remK
      rw [hlast, if_pos hcsl, hpl]
    have hr2 : rem2 ns (pathN co ns key).1 (pathN co ns key).2.1 = esN ns i (others es (plc co es key)) := by
      unfold rem2
      rw [hr1, hq, hlast, hrk, hat.2]
    have hol : (others es (plc co es key)).length = es.length - 1 := oth_len hplt
    have hgc : GapC rt D es.length := gapC_of (T := .nd i es []) e2 hgap0
    have hF := rem_fin hz (rep_es hR1 (others es (plc co es key))) (by rw [plug_idx D (.nd i (others es (plc co es key)) []) (.nd i es []) rfl, e1]; exact hV.idx) e2 ⟨fun h => by rw [hol]; have h9 : es.length ≤ rt := e4.1 h; omega, fun h => by rw [hol]; have h9 : lo ≤ es.length ∧ es.length ≤ hi := e4.2 h; omega⟩ (fun f hf' he => by
      subst hf'
      have h9 : rt < es.length := hgc he
      rw [hol]
      omega) hgc.s (by rw [esN_len]; omega)
    rw [← show (pathN co ns key).1 = (D.map Fr.i).reverse ++ [i] from e7, ← hr2] at hF
    have hnew : (plug D (.nd i (others es (plc co es key)) [])).flat = others T.flat (plc co T.flat key) := by
      rw [plug_flat e2, flat_leaf, hplT, hfl, flatL_nil, others_app hplt]
    rw [hnew] at hF
    refine ⟨⟨by omega, by omega, by omega, by omega, hsm9, by rw [hlast]; exact hat.1, by rw [hlast, hat.2, hpl]; exact hplt, fun h => absurd hcsl (by rw [hlast] at h; intro h9; rw [h9] at h; exact absurd h (by simp)), by rw [hq]; omega, by rw [hq, hlast]; exact hat.1, by rw [hrk, hr1, hq, hlast, hat.2]; exact hplt, by rw [hr1]; exact hsm9, by rw [hq]; exact hF.fil, by rw [hq]; exact hF.rot⟩, by rw [hq]; exact hF.filR, ?_, by rw [hq]; exact hF.same, ?_, ?_, ?_⟩
    · unfold remRN remN
      rw [hq, hF.same]
    · obtain ⟨T2, d2, t1, t2, t3, t4, t5, t6⟩ := hF.tree
      refine ⟨T2, d2, ?_, vt_less hV t2 t3 t4 t5 t6, t6⟩
      unfold remN
      rw [hq]
      exact t1
    · unfold remN
      rw [hq]
      have := hF.len
      rw [hr2, esN_len] at this
      rw [hr2]
      exact this
    · unfold remN
      rw [hq]
      exact hF.last
  · -- in an inner node
    obtain ⟨d9, rfl⟩ : ∃ d9, d' = d9 + 1 := by
      cases d' with
      | zero => exact absurd e3 hk0
      | succ d9 => exact ⟨d9, rfl⟩
    have hkl : ks.length = es.length + 1 := e3.1
    have hpk : plc co es key < ks.length := by omega
    have hcne : ¬ (nth ns i).cs.length = 0 := by rw [hcsl, hkl]; omega
    have hspl := split_at hpk
    generalize hL : ks.take (plc co es key) = l at hspl
    generalize hRr : ks.drop (plc co es key + 1) = r at hspl
    generalize hK : nth ks (plc co es key) = K at hspl
    have hll : l.length = plc co es key := by rw [← hL, List.length_take]; omega
    have hrl : l.length + r.length = es.length := by
      have := congrArg List.length hspl
      simp only [List.length_append, List.length_cons] at this
      omega
    have hbal : ∀ k ∈ ks, Bal lo hi d9 k := e3.2
    have hKB := bal_iff.1 (hbal K (by rw [hspl]; simp))
    have hTf : BT.nd i es ks = Fr.fill ⟨i, es, l, r⟩ K := by rw [hspl]; rfl
    have hctx0 : CtxOk lo hi rt d9 (⟨i, es, l, r⟩ :: D) := ⟨⟨fun k hk => hbal k (by rw [hspl]; simp [hk]), fun k hk => hbal k (by rw [hspl]; simp [hk])⟩, hrl, e4, e2⟩
    have hRK : RepT ns (plug (⟨i, es, l, r⟩ :: D) K) := by
      show RepT ns (plug D (Fr.fill _ K))
      rw [← hTf]
      exact hR1
    have hd9 := bel_deep hV.bel
    have hnl := hR.nlen
    obtain ⟨D2, T2, d2, g1, g2, g3, g4, g5, g6, g7, g8, g9⟩ := rgt_desc ns.length d9 (⟨i, es, l, r⟩ :: D) K hRK hctx0 hKB.1 hKB.2 (by simp) (by omega)
    obtain ⟨j, Te, Tk⟩ := T2
    have hTk : Tk = [] := g5
    subst hTk
    have hd20 : d2 = 0 := g3.leaf rfl
    subst hd20
    have hTl : lo ≤ Te.length ∧ Te.length ≤ hi := g4
    obtain ⟨Tb, x, hTe⟩ : ∃ Tb x, Te = Tb ++ [x] := by
      rcases List.eq_nil_or_concat Te with h | ⟨Tb, x, h⟩
      · rw [h] at hTl
        simp only [List.length_nil] at hTl
        omega
      · exact ⟨Tb, x, by rw [h, List.concat_eq_append]⟩
    have hTel : Te.length = Tb.length + 1 := by rw [hTe]; simp
    have hRT2 : RepT ns (plug (D2 ++ ⟨i, es, l, r⟩ :: D) (.nd j Te [])) := by
      rw [plug_app, g1]
      exact hRK
    have hjat : j < ns.length ∧ nth ns j = ⟨true, Te, []⟩ := RepT.at_ hRT2
    have hij : i ≠ j := fun e => by
      have h1 := hRT2.plug.nd
      rw [List.map_append] at h1
      refine (List.nodup_append.1 h1).2.2 i ?_ j (by rw [BT.nodes]; simp) e
      have hin : ∀ (A : List Fr) (h : Nat), i ∈ (ctxNodes (A ++ ⟨i, es, l, r⟩ :: D) h).map Prod.fst := by
        intro A
        induction A with
        | nil => intro h; rw [List.nil_append, ctxNodes, Fr.nodes]; exact List.mem_cons_self ..
        | cons a A ih =>
          intro h
          rw [List.cons_append, ctxNodes, List.map_append]
          exact List.mem_append_right _ (ih a.i)
      exact hin D2 _
    have hgetK : (idxs ks).getD (plc co es key) 0 = (K.idx : Int) := by rw [idxs_getD hpk, hK]
    have hcs : (nth ns i).cs = idxs ks := by rw [hat.2]
    have hkd : kdN ns i (plc co es key) = K.idx := by
      unfold kdN
      rw [hcs, hgetK]
      rfl
    have hq : remQ ns (pathN co ns key).1 (pathN co ns key).2.1 = ((D2 ++ ⟨i, es, l, r⟩ :: D).map Fr.i).reverse ++ [j] := by
      unfold remQ
      rw [hlast, if_neg hcne, hpl, hkd, g6, e7]
      simp [BT.idx]
    have hlq : lastN (remQ ns (pathN co ns key).1 (pathN co ns key).2.1) = j := by rw [hq]; exact last_app _ _
    have hes1 : Te.length - 1 = Tb.length := by omega
    have hnx : nth Te (Te.length - 1) = x := by rw [hes1, hTe]; exact nth_mid' Tb x []
    have hr1 : rem1 ns (pathN co ns key).1 (pathN co ns key).2.1 = esN ns i (es.set (plc co es key) x) := by
      unfold rem1
      rw [hlast, if_neg hcne, hlq, hjat.2, hat.2, hpl]
      simp only []
      rw [hnx]
    have hj1 : nth (esN ns i (es.set (plc co es key) x)) j = ⟨true, Te, []⟩ := by rw [nth_esN hjat.1, if_neg hij]; exact hjat.2
    have hrk : remK ns (pathN co ns key).1 (pathN co ns key).2.1 = Te.length - 1 := by
      unfold remK
      rw [hlast, if_neg hcne, hlq, hjat.2]
    have hr2 : rem2 ns (pathN co ns key).1 (pathN co ns key).2.1 = esN (esN ns i (es.set (plc co es key) x)) j Tb := by
      unfold rem2
      rw [hr1, hlq, hrk, hj1]
      show esN _ j (others Te (Te.length - 1)) = _
      rw [hTe, others_last]
    -- the frames with the entry put in
    have hctx1 : CtxOk lo hi rt 0 (D2 ++ ⟨i, es.set (plc co es key) x, l, r⟩ :: D) := ctx_swap (f := ⟨i, es, l, r⟩) (f' := ⟨i, es.set (plc co es key) x, l, r⟩) rfl rfl (List.length_set ..) g2
    have hRa : RepT (esN ns i (es.set (plc co es key) x)) (plug D (.nd i (es.set (plc co es key) x) ks)) := rep_es hR1 _
    have hRb : RepT (esN ns i (es.set (plc co es key) x)) (plug (D2 ++ ⟨i, es.set (plc co es key) x, l, r⟩ :: D) (.nd j Te [])) := by
      rw [plug_app, g1]
      show RepT _ (plug D (.nd i (es.set (plc co es key) x) (l ++ K :: r)))
      rw [← hspl]
      exact hRa
    have hng : NoGap rt (plug (D2 ++ ⟨i, es.set (plc co es key) x, l, r⟩ :: D) (.nd j Te [])) := by
      rw [plug_app, g1]
      show NoGap rt (plug D (.nd i (es.set (plc co es key) x) (l ++ K :: r)))
      rw [← hspl]
      refine nogap_plug e2 (T := .nd i es ks) (by show es.length = (es.set _ _).length; rw [List.length_set]) (fun _ e => ?_) hgap0
      have e' : es.set (plc co es key) x = [] := e
      have := congrArg List.length e'
      rw [List.length_set] at this
      simp only [List.length_nil] at this
      omega
    have hgc : GapC rt (D2 ++ ⟨i, es.set (plc co es key) x, l, r⟩ :: D) Te.length := gapC_of (T := .nd j Te []) hctx1 hng
    have hidx : (plug (D2 ++ ⟨i, es.set (plc co es key) x, l, r⟩ :: D) (.nd j Tb [])).idx = 0 := by
      rw [plug_app, plug_idx _ (plug D2 (.nd j Tb [])) (plug D2 (.nd j Te [])) (plug_idx D2 (.nd j Tb []) (.nd j Te []) rfl), g1]
      show (plug D (.nd i (es.set (plc co es key) x) (l ++ K :: r))).idx = 0
      rw [plug_idx D (.nd i (es.set (plc co es key) x) (l ++ K :: r)) (.nd i es ks) rfl, e1]
      exact hV.idx
    have hF := rem_fin hz (rep_es hRb Tb) hidx hctx1 ⟨fun h => absurd h (by simp), fun _ => by omega⟩ (fun f hf' he => by
      have h9 := hgc
      rw [hf'] at h9
      have h8 : rt < Te.length := h9 he
      omega) hgc.s (by rw [esN_len, esN_len]; omega)
    have hmapi : (D2 ++ (⟨i, es.set (plc co es key) x, l, r⟩ : Fr) :: D).map Fr.i = (D2 ++ (⟨i, es, l, r⟩ : Fr) :: D).map Fr.i := by simp
    rw [hmapi, ← hq, ← hr2] at hF
    -- the entries
    have hdrop : es.drop l.length = nth es l.length :: es.drop (l.length + 1) := by
      have hlt : l.length < es.length := by omega
      rw [List.drop_eq_getElem_cons hlt, show nth es l.length = es[l.length] from nth_eq (List.getElem?_eq_getElem hlt)]
    have heq0 : cmpK co (nth es l.length).key key = 0 := by
      have h9 := hfnd
      unfold fnd at h9
      simp only [Bool.and_eq_true, decide_eq_true_eq] at h9
      rw [hll]
      exact h9.2
    obtain ⟨G, r', hrG⟩ : ∃ G r', r = G :: r' := by
      cases hr9 : r with
      | nil =>
        rw [hr9] at hrl
        simp only [List.length_nil] at hrl
        omega
      | cons G r' => exact ⟨G, r', rfl⟩
    have hflT : flatL es ks = (flatA es l ++ K.flat) ++ nth es l.length :: (G.flat ++ flatZ (es.drop (l.length + 1)) r') := by
      rw [hspl, flatL_mid l es K r hrl, hdrop, hrG, flatZ]
      simp only [List.append_assoc]
    have hs3 : Srt co (flatL es ks) := hs2.1
    rw [hflT] at hs3
    have hs4 := List.pairwise_append.1 hs3
    have hs5 := List.pairwise_append.1 hs4.1
    have hple : plc co (flatL es ks) key = (flatA es l ++ K.flat).length := by
      have hlt : ∀ y ∈ flatA es l ++ K.flat, cmpK co y.key key < 0 := fun y hy => by
        have h9 := hs4.2.2 y hy (nth es l.length) (List.mem_cons_self ..)
        have e2 := cmpK_eq.1 heq0
        rw [cmpK_img, ← e2, ← cmpK_img]
        exact h9
      rw [hflT, plc_app1 hlt, plc, if_neg (by rw [heq0]; decide)]
      rfl
    have hKf : K.flat = preC D2 ++ Te := by
      rw [← g1, plug_flat (ctx_pre g2 (by simp)), flat_leaf, g8, List.append_nil]
    have hset : (es.set (plc co es key) x).drop l.length = x :: es.drop (l.length + 1) := by
      rw [← hll]
      have hlt : l.length < (es.set l.length x).length := by rw [List.length_set]; omega
      rw [List.drop_eq_getElem_cons hlt, List.getElem_set_self, List.drop_set_of_lt (by omega)]
    have hsetA : flatA (es.set (plc co es key) x) l = flatA es l := by
      rw [← flatA_take (es := es.set _ _) (l := l) (by rw [List.length_set]; omega), ← flatA_take (es := es) (l := l) (by omega), List.take_set_of_le (by omega)]
    have hnew : (plug (D2 ++ ⟨i, es.set (plc co es key) x, l, r⟩ :: D) (.nd j Tb [])).flat = others T.flat (plc co T.flat key) := by
      have h1 : others T.flat (plc co T.flat key) = preC D ++ (((flatA es l ++ K.flat) ++ (G.flat ++ flatZ (es.drop (l.length + 1)) r')) ++ sufC D) := by
        rw [hplT, hfl, others_app (by rw [hple, hflT]; simp only [List.length_append, List.length_cons]; omega), hple, hflT, others_mid]
      rw [h1, plug_flat hctx1, flat_leaf, preC_app, sufC_app, g8, List.nil_append, preC, sufC, hKf, hTe]
      show preC D ++ flatA (es.set (plc co es key) x) l ++ preC D2 ++ (Tb ++ (flatZ ((es.set (plc co es key) x).drop l.length) r ++ sufC D)) = _
      rw [hset, hsetA, hrG, flatZ]
      simp only [List.append_assoc, List.cons_append, List.nil_append]
    rw [hnew] at hF
    have hQl : (remQ ns (pathN co ns key).1 (pathN co ns key).2.1).length = D2.length + D.length + 2 := by rw [hq]; simp; omega
    refine ⟨⟨by omega, by omega, by omega, by omega, hsm9, by rw [hlast]; exact hat.1, by rw [hlast, hat.2, hpl]; exact hplt, fun _ => ?_, by omega, by rw [hlq]; exact hjat.1, by rw [hrk, hr1, hlq, hj1]; show Te.length - 1 < Te.length; omega, by rw [hr1]; exact hsm9.es i (by rw [List.length_set]; omega), hF.fil, hF.rot⟩, hF.filR, ?_, hF.same, ?_, ?_, ?_⟩
    · rw [hlast, hpl, hcs, idxs_len, hgetK, hkd]
      have hlq2 : lastN (remQ ns (pathN co ns key).1 (plc co es key)) = j := by rw [← hpl]; exact hlq
      rw [hlq2, hjat.2]
      exact ⟨hpk, by omega, g7, hij, by show 0 < Te.length; omega, hjat.1⟩
    · unfold remRN remN
      rw [hF.same]
    · obtain ⟨T3, d3, t1, t2, t3, t4, t5, t6⟩ := hF.tree
      exact ⟨T3, d3, t1, vt_less hV t2 t3 t4 t5 t6, t6⟩
    · have := hF.len
      rw [hr2, esN_len, esN_len] at this
      unfold remN
      rw [hr2]
      exact this
    · exact hF.last
end Gx
