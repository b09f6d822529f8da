/- Contracts of the program's functions, proved by walking them with the rules of the Gx texts; without conditions beyond those that each contract names. -/
import Derived.WalkKit
import Derived.Deep.Draws
import Derived.TacticsIn
import Derived.OrdersIn
import Derived.RangeFuncLeaves
import Derived.Lib.Strings
import Derived.Laws.BytesArg
import Derived.Laws.IdiomStrings
import Derived.Deep.Quiet
import Derived.ProofKit
import Derived.OpenShut
import Derived.Laws.StructEq
import Derived.ChangeKeysEq
import Derived.Laws.Externs
import Derived.Lib.Overlaps
import Derived.Carry
import Derived.Laws.Small
import Derived.Lib.Bytealg
import Derived.Test.YtfappgmkbnddiaaGreatProg
import Derived.KernelRfl
import Derived.Lib.Builder
import Derived.Laws.Pointers
import Derived.RangeFuncRecord
import Derived.Test.YtfappgmkbnddiaaGreatP1
namespace Go.Proofs
open Go Go.RowKit Gx
set_option linter.unusedVariables false
set_option linter.unusedSimpArgs false
attribute [local irreducible] Go.Calls Gx.S Gx.O Gx.D Gx.OpP Gx.OpQ Gx.OpH
set_option maxRecDepth 20000
theorem zr_4 : tzero Tryz.prog 4 = some [.bool false] := by kernel_rfl
theorem zr_140 : tzero Tryz.prog 140 = some [.slice none 0 0] := by kernel_rfl
theorem c83 (w : World) (bt : Nat) (j : Nat) (mo rm : Int) (a : Option Addr) (cap : Nat) (L : List LNd) (ht : TbR w [] bt (j : Int) mo rm a L.length cap) (hs : Nt w [] a L) (hj : j ≤ 3) (hmo : 0 ≤ mo ∧ mo ≤ 1000) (h0 : 0 < L.length) (hB : Bd (pln L)) (hT : TOk (j : Int) (pln L)) : Calls Tryz.prog 83 #[.pointer (some ⟨bt, 0, none⟩)] w fun en w' => en = .returned (.tuple #[.int .i64 (shapE (⟨(j : Int), mo, rm, pln L⟩ : Tre)).1, .int .i64 (shapE (⟨(j : Int), mo, rm, pln L⟩ : Tre)).2]) ∧ Below w.heap.size w w' := by
 have hle := hB.len
 rw [pln_len] at hle
 have hvis : vis (pln L) L.length root0 = visT (pln L) := by unfold visT; rw [pln_len]
 have hmar := mar_run (visT (pln L)) (List.replicate L.length false)
 rw [List.length_replicate] at hmar
 have hbel : ∀ i, i < L.length → (runV marV (fun _ _ => (0, 0)) (List.replicate L.length false) (visT (pln L))).2.getD i false = decide (i ∈ (visT (pln L)).map Vis.i) := fun i hi => by rw [hmar.2.2 i hi, show (List.replicate L.length false).getD i false = false from by rw [List.getD_eq_getElem?_getD, List.getElem?_replicate]; split <;> rfl, Bool.false_or]
 have hes9 : ∀ i, i < L.length → (nth L i).es.length ≤ 1000 := fun i hi => by have h9 := hB.es i (by rw [pln_len]; exact hi); rw [pln_nth hi] at h9; exact h9
 have hcs9 : ∀ i, i < L.length → (nth L i).cs.length ≤ 1000 := fun i hi => by have h9 := hB.cs i (by rw [pln_len]; exact hi); rw [pln_nth hi] at h9; exact h9
 have hok9 : ∀ i, i < L.length → ∀ x ∈ (nth L i).es, keyOk (j : Int) x.key = true ∧ x.key.length ≤ 1000000 := fun i hi => by have h9 := ents_kok hT (i := i) (by rw [pln_len]; exact hi); rw [pln_nth hi] at h9; exact h9
 refine enter (args := [_]) Tryz.func83 Tryz.ntmps83 rfl rfl (HS.refl w []) ?_
 iterate 2 refine aS ?_
 refine oBx fun b1 _ => ?_
 iterate 9 refine aS ?_
 refine o_q (q_load_old rfl rfl sz_22 (ht 3 _ rfl)) rfl ?_
 refine aS ?_
 refine o_h (h_make (n := L.length) rfl rfl rfl sl_140 zr_4 (by omega) (by omega)) rfl (fun b2 _ => ?_)
 refine o_class (fun w h => (show HS _ _ [.blk b2 4 L.length ((List.replicate L.length false).map Value.bool), .blk b1 103 1 [.pointer (some ⟨bt, 0, none⟩)]] w from by have h9 := h; rw [Nat.mul_one, zrow_one, ← List.map_replicate] at h9; exact h9.ent aEt)) ?_
 refine oAl (fun b3 _ => ?_) zr_140
 refine oSt ?_
 iterate 5 refine aS ?_
 refine o_h (h_callF (Cs := [.blk b2 4 L.length ((List.replicate L.length false).map Value.bool)]) rfl fn_123 rfl aPs (fun w1 h1 hf => by have h9 := walk_c (List Bool) (fun s => s.length = L.length) (fun s => .blk b2 4 L.length (s.map Value.bool)) marV (fun _ _ => (0, 0)) 124 #[.pointer (some ⟨b3, 0, none⟩)] bt j mo rm a cap L L.length w1 (List.replicate L.length false) root0 none none [] hf (by kernel_rfl) (fun _ _ => rfl) (fun s v h => by simpa [marV] using h) (by simp) (fun s2 v2 p2 p3 w2 h2 hs2 hi2 _ _ _ _ => c124 w2 v2.i v2.d p2 p3 b3 b2 L.length s2 (HS.focus (Cs := [_]) (Ds := []) h2) (h2.keep (h1.rd_blkF aPs (b := b3) aPk rfl)) hi2 hs2) ((ht.keep h1).mono (fps_pick aPs)) ((hs.keep h1).mono (fps_pick aPs)) hT hB rfl rfl h0 rfl (by simp) rfl (fun _ h => by cases h) (fun _ h => by cases h); rw [hvis] at h9; exact h9)) rfl (fun _ _ => ?_)
 iterate 3 refine aS ?_
 refine o_class (fun w h => (show HS _ _ [.blk b2 4 L.length ((runV marV (fun _ _ => (0, 0)) (List.replicate L.length false) (visT (pln L))).2.map Value.bool), .blk b3 140 1 [.slice (some ⟨b2, 0, none⟩) L.length L.length], .blk b1 103 1 [.pointer (some ⟨bt, 0, none⟩)]] w from h.ent aEt)) ?_
 iterate 8 refine aS ?_
 refine o_q (q_load_old rfl rfl sz_22 (ht 3 _ rfl)) rfl ?_
 iterate 4 refine aS ?_
 refine s_weaken (L' := [(1, _), (2, _), (3, _), (4, _), (25, _), (26, _), (27, _)]) aSx (fun _ h => h) ?_
 refine s_loopI (α := Nat) [2, 3, 5, 6, 27, 28, 29, 30, 31, 32, 33, 34, 35, 36, 37, 38, 39, 40, 41, 42] (fun k => [(27, .int .i64 (k : Int))]) (fun _ => HS w [] [.blk b2 4 L.length ((runV marV (fun _ _ => (0, 0)) (List.replicate L.length false) (visT (pln L))).2.map Value.bool), .blk b3 140 1 [.slice (some ⟨b2, 0, none⟩) L.length L.length], .blk b1 103 1 [.pointer (some ⟨bt, 0, none⟩)]]) (fun k => k ≤ L.length ∧ opnF (pln L) ((visT (pln L)).map Vis.i) L.length 0 = opnF (pln L) ((visT (pln L)).map Vis.i) (L.length - k) k) (fun k => L.length - k) 0 ⟨Nat.zero_le _, rfl⟩ aSx (fun w h => h.ent aEt) (fun k hx => ?_)
 obtain ⟨hk1, hk2⟩ := hx
 iterate 5 refine aS ?_
 refine s_cond rfl (fun h4 => ?_) fun h4 => ?_
 ·try simp only [decide_eq_true_eq] at h4
  have hkl : k < L.length := by omega
  have hst := opnF_step (ns := pln L) (below := (visT (pln L)).map Vis.i) (k := k) (by rw [pln_len]; exact hkl)
  rw [pln_len, pln_nth hkl] at hst
  iterate 6 refine aS ?_
  refine o_p (p_indexAddr rfl rfl rfl sl_22 (k) (by omega) (by omega) (Rw.some hs.1 (by omega))) rfl ?_
  refine o_q (q_load_oldn _ rfl rfl sz_102 rfl (Rw.rd hs.1 hkl)) rfl ?_
  refine oAl (fun b5 _ => ?_) zr_102
  refine aS ?_
  refine oSt ?_
  iterate 6 refine aS ?_
  refine o_and 6 34 40 _ _ rfl
   (by
    intro hg6
    have hs7 := hg6; skip
    refine oOn 34 hg6 ?_
    refine aS ?_
    refine oOn 34 hg6 ?_
    refine aS ?_
    refine oOn 34 hg6 ?_
    refine o_p (p_indexAddr rfl rfl rfl sl_140 (k) (by omega) (by omega) rfl) rfl ?_
    refine oOn 34 hg6 ?_
    refine o_q (q_load_at rfl rfl sz_4 (fun w h => by rw [Nat.zero_add, Nat.mul_one]; exact h.rd_blk (Mc := []) (b := b2) aPk (bool_get (by rw [hmar.2.1]; exact hkl)) (by simp))) rfl ?_
    refine oOn 34 hg6 ?_
    refine aS ?_
    refine o_p (p_pickt rfl rfl hg6 rfl) rfl ?_
    refine aS ?_
    exact oJn 6 40)
   (by
    intro hg8
    have hs9 := hg8; skip
    refine oOf 34 hg8 ?_
    refine oOf 34 hg8 ?_
    refine oOf 34 hg8 ?_
    refine oOf 34 hg8 ?_
    refine oOf 34 hg8 ?_
    refine o_p (p_pickf rfl rfl hg8 rfl) rfl ?_
    refine aS ?_
    exact oJn 6 40) ?_
  refine aS ?_
  refine s_cond rfl (fun h10 => ?_) fun h10 => ?_
  ·try simp only [Bool.and_eq_true, Bool.not_eq_true'] at h10
   have hz : (nth L k).pl.us = true ∧ k ∉ (visT (pln L)).map Vis.i := by have hq := h10; rw [hbel k hkl] at hq; simp only [LNd.pl]; simpa using hq
   iterate 6 refine aS ?_
   exact s_retv (rs := [.tmp 2, .tmp 3]) rfl (.tmp rfl (.tmp rfl (.nil))) (fun w' h' => ⟨by rw [shapE_some (t := (⟨(j : Int), mo, rm, pln L⟩ : Tre)) (i := k) (show opnF (pln L) _ (pln L).length 0 = some k from by rw [pln_len, hk2, hst, if_pos hz])]; rfl, h'.below⟩)
  try simp only [Bool.and_eq_false_iff, Bool.not_eq_false'] at h10
  have hz : ¬ ((nth L k).pl.us = true ∧ k ∉ (visT (pln L)).map Vis.i) := by have hq := h10; rw [hbel k hkl] at hq; simp only [LNd.pl]; intro h9; simp at hq h9; grind
  iterate 4 refine aS ?_
  try refine oWr ?_
  iterate 2 refine aS ?_
  exact s_backI (k + 1) (by omega) ⟨by omega, by rw [hk2, hst, if_neg hz]⟩ aSx (fun w h => h.ent aEt)
 try simp only [decide_eq_false_iff_not] at h4
 have hnone : opnF (pln L) ((visT (pln L)).map Vis.i) L.length 0 = none := by rw [hk2, show L.length - k = 0 by omega]; rfl
 refine s_exit_to rfl ?_
 iterate 2 refine aS ?_
 refine oAl (fun b11 _ => ?_) zr_3
 refine oSt ?_
 iterate 5 refine aS ?_
 refine o_h (h_callF (Cs := [.blk b11 3 1 [.int .i64 0]]) rfl fn_123 rfl aPs (fun w1 h1 hf => by have h9 := walk_c Int (fun _ => True) (fun s => .blk b11 3 1 [.int .i64 s]) (stV (⟨(j : Int), mo, rm, pln L⟩ : Tre)) (erV (⟨(j : Int), mo, rm, pln L⟩ : Tre)) 125 #[.pointer (some ⟨b1, 0, none⟩), .pointer (some ⟨b11, 0, none⟩)] bt j mo rm a cap L L.length w1 0 root0 none none [] hf (by kernel_rfl) (fun _ _ => rfl) (fun _ _ _ => trivial) trivial (fun s2 v2 p2 p3 w2 h2 _ hi2 ha2 hb2 hp2 hp3 => c125 w2 v2 p2 p3 b1 b11 s2 bt j mo rm a cap L (HS.focus (Cs := [_]) (Ds := []) h2) (h2.keep (h1.rd_blkF aPs (b := b1) aPk rfl)) (((ht.keep h1).mono (fps_pick aPs)).keep h2) (((hs.keep h1).mono (fps_pick aPs)).keep h2) hj hmo hi2 hle (hes9 _ hi2) (hcs9 _ hi2) (hcs9 _ h0) (hes9 _ h0) hp2 hp3 ha2 hb2 (hok9 _ hi2)) ((ht.keep h1).mono (fps_pick aPs)) ((hs.keep h1).mono (fps_pick aPs)) hT hB rfl rfl h0 rfl (by simp) rfl (fun _ h => by cases h) (fun _ h => by cases h); rw [hvis, Gx.run_shape (t := (⟨(j : Int), mo, rm, pln L⟩ : Tre)) hT (by show 0 < (pln L).length; rw [pln_len]; exact h0)] at h9; exact h9)) rfl (fun _ _ => ?_)
 iterate 5 refine aS ?_
 exact s_retv (rs := [.tmp 2, .tmp 3]) rfl (.tmp rfl (.tmp rfl (.nil))) (fun w' h' => ⟨by rw [shapE_none (t := (⟨(j : Int), mo, rm, pln L⟩ : Tre)) (show opnF (pln L) _ (pln L).length 0 = none from by rw [pln_len]; exact hnone)]; rfl, h'.below⟩)
theorem pl_112 : tplaces Tryz.prog 112 = some [(0, 4), (4, 2)] := by kernel_rfl
theorem zr_112 : tzero Tryz.prog 112 = some [.int .i64 0, .int .i64 0, .int .i64 0, .slice none 0 0, .nilFunc, .nilFunc] := by kernel_rfl
theorem fn_82 : isFn Tryz.prog 82 = true := by kernel_rfl
theorem fn_83 : isFn Tryz.prog 83 = true := by kernel_rfl
theorem fn_127 : isFn Tryz.prog 127 = true := by kernel_rfl
theorem fn_128 : isFn Tryz.prog 128 = true := by kernel_rfl
theorem fn_129 : isFn Tryz.prog 129 = true := by kernel_rfl
theorem c39 (w : World) (co mo rm : Int) (a : Option Addr) (cap : Nat) (L : List LNd) (hs : Nt w [] a L) (hB : Bd (pln L)) (hkl : ∀ i, i < L.length → ∀ x ∈ (nth L i).es, x.key.length ≤ 1000000) : Calls Tryz.prog 39 #[.agg #[.int .i64 co, .int .i64 mo, .int .i64 rm, .slice a L.length cap]] w fun en w' => en = .returned (.tuple #[.int .i64 (treE (⟨co, mo, rm, pln L⟩ : Tre)).1, .int .i64 (treE (⟨co, mo, rm, pln L⟩ : Tre)).2]) ∧ Below w.heap.size w w' := by
 have hle := hB.len
 rw [pln_len] at hle
 have hes9 : ∀ i, i < L.length → (nth L i).es.length ≤ 1000 := fun i hi => by have h9 := hB.es i (by rw [pln_len]; exact hi); rw [pln_nth hi] at h9; exact h9
 have hcs9 : ∀ i, i < L.length → (nth L i).cs.length ≤ 1000 := fun i hi => by have h9 := hB.cs i (by rw [pln_len]; exact hi); rw [pln_nth hi] at h9; exact h9
 refine enter (args := [_]) Tryz.func39 Tryz.ntmps39 rfl rfl (HS.refl w []) ?_
 iterate 2 refine aS ?_
 refine oBx fun b1 _ => ?_
 iterate 12 refine aS ?_
 refine o_q (q_call rfl fn_78 rfl (fun w1 h1 => c78 w1 _ _ _)) rfl ?_
 iterate 7 refine aS ?_
 refine s_cond rfl (fun h2 => ?_) fun h2 => ?_
 ·try simp only [Bool.not_eq_true', decide_eq_false_iff_not] at h2
  have hz := treE_size (t := (⟨co, mo, rm, pln L⟩ : Tre)) h2
  iterate 6 refine aS ?_
  exact s_retv (rs := [.tmp 2, .tmp 3]) rfl (.tmp rfl (.tmp rfl (.nil))) (fun w' h' => ⟨by rw [hz]; rfl, h'.below⟩)
 try simp only [Bool.not_eq_false', decide_eq_true_eq] at h2
 have hc0 : (if colE12 co = 0 then sizE mo rm else colE12 co) = 0 := h2
 obtain ⟨hco, hsz⟩ := size_0 (t := (⟨co, mo, rm, pln L⟩ : Tre)) hc0
 obtain ⟨j, rfl, hj⟩ := col_ok hco
 have hsz2 : (3 ≤ mo ∧ mo ≤ 8) ∧ (mo / 2 ≤ rm ∧ rm ≤ mo) := sizE_0 hsz
 iterate 3 refine aS ?_
 refine s_draw [] mixed ?_
 refine dFa 0 ?_
 refine dLd 1 [] ?_
 refine d_p 2 rfl (p_len_slice rfl rfl Tryz.underlying22) (by kernel_rfl) rfl rfl ?_
 refine dP 3 ?_
 refine d_q 4 [] rfl (q_call rfl fn_81 rfl (fun w1 h1 => c81 w1 _ _)) (by kernel_rfl) (by kernel_rfl) (by kernel_rfl) rfl ?_
 refine dFa 5 ?_
 refine dLd 6 [] ?_
 refine d_p 7 rfl (p_len_slice rfl rfl Tryz.underlying22) (by kernel_rfl) rfl rfl ?_
 refine dP 8 ?_
 refine d_q 9 [] rfl (q_call rfl fn_81 rfl (fun w1 h1 => c81 w1 _ _)) (by kernel_rfl) (by kernel_rfl) (by kernel_rfl) rfl ?_
 refine d_h 10 rfl (h_buildSlice (cs := [_, _]) rfl rfl sl_165 zr_31 rfl rfl rfl) (by kernel_rfl) (fun w h => h.ent aEt) rfl (fun b3 _ => ?_)
 refine dBa ?_
 refine d_q 11 [] rfl (q_call rfl fn_75 rfl (fun w1 h1 => f75 h1 aPk (by rfl) (by rfl) (by decide))) (by kernel_rfl) (by kernel_rfl) (by kernel_rfl) rfl ?_
 refine d_slot (show _ = Value.int .i64 (lenE12 L.length) from by congr 1; rw [firstW2]; unfold lenE12; simp only [cond_eq_ite, decide_eq_true_eq]; first | (split <;> (try split) <;> (try split) <;> (try split) <;> first | rfl | omega)) ?_
 refine dP 12 ?_
 refine dNi ?_
 iterate 5 refine aS ?_
 refine s_cond rfl (fun h4 => ?_) fun h4 => ?_
 ·try simp only [Bool.not_eq_true', decide_eq_false_iff_not] at h4
  have hz := treE_len (t := (⟨(j : Int), mo, rm, pln L⟩ : Tre)) hc0 (by rw [show ((⟨(j : Int), mo, rm, pln L⟩ : Tre)).ns.length = L.length from pln_len L]; exact h4)
  rw [show ((⟨(j : Int), mo, rm, pln L⟩ : Tre)).ns.length = L.length from pln_len L] at hz
  iterate 6 refine aS ?_
  exact s_retv (rs := [.tmp 2, .tmp 3]) rfl (.tmp rfl (.tmp rfl (.nil))) (fun w' h' => ⟨by rw [hz]; rfl, h'.below⟩)
 try simp only [Bool.not_eq_false', decide_eq_true_eq] at h4
 have hc1 : lenE12 L.length = 0 := h4
 have hz := treE_nods (t := (⟨(j : Int), mo, rm, pln L⟩ : Tre)) hc0 (by rw [show ((⟨(j : Int), mo, rm, pln L⟩ : Tre)).ns.length = L.length from pln_len L]; exact hc1)
 rw [show ((⟨(j : Int), mo, rm, pln L⟩ : Tre)).ns.length = L.length from pln_len L] at hz
 obtain ⟨h00, h120⟩ := lenE_0 hc1
 iterate 2 refine aS ?_
 refine s_weaken (L' := [(1, _), (2, _), (3, _)]) aSx (fun _ h => h) ?_
 refine s_cutI (α := Nat × Nat) [6, 7, 37, 38, 39, 40, 41, 42, 43, 44] (fun x => [(6, .pointer (some ⟨x.1, 0, none⟩)), (7, .map (some x.2))]) (fun x => HS w [] [.blk b1 24 4 [.int .i64 (j : Int), .int .i64 mo, .int .i64 rm, .slice a L.length cap], .blk x.1 112 6 (tbV (j : Int) mo rm a L.length cap), .mp x.2 KI []]) (fun _ => True) ?_ ?_
 ·skip
  refine s_draw [] mixed ?_
  refine dLn 0 [] ?_
  refine d_q 1 [] rfl (q_call rfl fn_77 rfl (fun w1 h1 => c77 w1)) (by kernel_rfl) (by kernel_rfl) (by kernel_rfl) rfl ?_
  refine dFa 2 ?_
  refine dLd 3 [] ?_
  refine d_p 4 rfl (p_indexn rfl rfl rfl ar_132 sz_110 j rfl (by omega)) (by kernel_rfl) rfl rfl ?_
  refine d_slot (ord_slot j hj) ?_
  refine d_p 5 rfl (p_build (cs := [_, _, _, _, _, _]) rfl rfl pl_112 zr_112 rfl) (by kernel_rfl) rfl rfl ?_
  refine d_two 6 7 rfl rfl  (h_box rfl rfl) (h_makeMap rfl KI) (by kernel_rfl) (fun w h => h.ent aEt) rfl rfl  (fun b5 _ => ?_) (fun b6 _ => ?_)
  ·skip
   refine dBa ?_
   refine dP 8 ?_
   refine d_h 7 rfl (h_makeMap rfl KI) (by kernel_rfl) (fun w h => h.ent aEt) rfl (fun b7 _ => ?_)
   refine dBa ?_
   refine dP 9 ?_
   refine dNi ?_
   exact s_joinI (b5, b7) trivial aSx (fun w h => h.ent aEt)
  skip
  refine dBa ?_
  refine d_h 6 rfl (h_box rfl rfl) (by kernel_rfl) (fun w h => h.ent aEt) rfl (fun b8 _ => ?_)
  refine dBa ?_
  refine dP 8 ?_
  refine dP 9 ?_
  refine dNi ?_
  exact s_joinI (b8, b6) trivial aSx (fun w h => h.ent aEt)
 intro ⟨bt, r⟩ _
 iterate 9 refine aS ?_
 refine s_loopI (α := Nat × List Int × List Int) [2, 3, 8, 9, 48, 49, 50, 51, 52, 53, 54, 55, 56, 57, 58, 59] (fun x => [(48, .int .i64 (x.1 : Int))]) (fun x => HS w [] [.blk b1 24 4 [.int .i64 (j : Int), .int .i64 mo, .int .i64 rm, .slice a L.length cap], .blk bt 112 6 (tbV (j : Int) mo rm a L.length cap), .mp r KI x.2.1]) (fun x => x.1 ≤ L.length ∧ (∀ y, y ∈ x.2.1 ↔ y ∈ x.2.2) ∧ (nodsE (⟨(j : Int), mo, rm, pln L⟩ : Tre) L.length 0 []) = nodsE (⟨(j : Int), mo, rm, pln L⟩ : Tre) (L.length - x.1) x.1 x.2.2) (fun x => L.length - x.1) (0, [], []) ⟨Nat.zero_le _, fun _ => Iff.rfl, rfl⟩ aSx (fun w h => h.ent aEt) (fun ⟨k, K, S9⟩ hx => ?_)
 dsimp only
 obtain ⟨hk1, hk2, hk3⟩ := hx
 simp only [] at hk1 hk2 hk3
 iterate 5 refine aS ?_
 refine s_cond rfl (fun h9 => ?_) fun h9 => ?_
 ·try simp only [decide_eq_true_eq] at h9
  have hkl9 : k < L.length := by omega
  have hst := nodsE_step (t := (⟨(j : Int), mo, rm, pln L⟩ : Tre)) (k := k) (seen := S9) (by rw [show ((⟨(j : Int), mo, rm, pln L⟩ : Tre)).ns.length = L.length from pln_len L]; exact hkl9)
  rw [show ((⟨(j : Int), mo, rm, pln L⟩ : Tre)).ns.length = L.length from pln_len L] at hst
  iterate 13 refine aS ?_
  refine o_h (h_callF (Cs := [.mp r KI K]) rfl fn_82 rfl aPs (fun w1 h1 hf => c82 w1 k r K S9 bt j mo rm a cap L hf hk2 (fun k9 v9 hv9 => h1.rd_blkF aPs (b := bt) aPk hv9) ((hs.keep h1).mono (fps_pick aPs)) hle hj hkl9 (hes9 _ hkl9) (hcs9 _ hkl9) (hkl _ hkl9))) rfl (fun b10 hkG => ?_)
  iterate 7 refine aS ?_
  refine s_cond rfl (fun h11 => ?_) fun h11 => ?_
  ·try simp only [Bool.not_eq_true', decide_eq_false_iff_not] at h11
   have hz3 : (nodsE (⟨(j : Int), mo, rm, pln L⟩ : Tre) L.length 0 []) = ((k : Int), (nodE (⟨(j : Int), mo, rm, pln L⟩ : Tre) k S9).1) := by rw [hk3, hst, if_neg h11]
   rw [hz3, if_neg (show ¬ (((k : Int), (nodE (⟨(j : Int), mo, rm, pln L⟩ : Tre) k S9).1) : Int × Int).2 = 0 from h11)] at hz
   iterate 7 refine aS ?_
   exact s_retv (rs := [.tmp 2, .tmp 3]) rfl (.tmp rfl (.tmp rfl (.nil))) (fun w' h' => ⟨by rw [hz]; rfl, h'.below⟩)
  try simp only [Bool.not_eq_false', decide_eq_true_eq] at h11
  have hz3 : nodsE (⟨(j : Int), mo, rm, pln L⟩ : Tre) (L.length - k) k S9 = nodsE (⟨(j : Int), mo, rm, pln L⟩ : Tre) (L.length - (k + 1)) (k + 1) (nodE (⟨(j : Int), mo, rm, pln L⟩ : Tre) k S9).2 := by rw [hst, if_pos h11]
  iterate 4 refine aS ?_
  try refine oWr ?_
  iterate 2 refine aS ?_
  exact s_backI (k + 1, b10, (nodE (⟨(j : Int), mo, rm, pln L⟩ : Tre) k S9).2) (by (try simp only []); omega) ⟨by (try simp only []); omega, hkG, by simp only []; rw [hk3, hz3]⟩ aSx (fun w h => h.ent aEt)
 try simp only [decide_eq_false_iff_not] at h9
 have hnd : (nodsE (⟨(j : Int), mo, rm, pln L⟩ : Tre) L.length 0 []) = (0, 0) := by rw [hk3, show L.length - k = 0 by omega]; rfl
 rw [hnd, if_pos rfl] at hz
 have hT : TOk (j : Int) (pln L) := tok_of (t := (⟨(j : Int), mo, rm, pln L⟩ : Tre)) (by show (nodsE (⟨(j : Int), mo, rm, pln L⟩ : Tre) (pln L).length 0 []).2 = 0; rw [pln_len, hnd])
 refine s_exit_to rfl ?_
 iterate 3 refine aS ?_
 refine o_q (q_call rfl fn_83 rfl (fun w1 h1 => c83 w1 bt j mo rm a cap L (HS.tbr h1 aPk) (hs.later h1) hj (by omega) h00 hB hT)) rfl ?_
 iterate 12 refine aS ?_
 refine s_cutI (α := Unit) [10] (fun _ => [(10, .int .i64 (treE (⟨(j : Int), mo, rm, pln L⟩ : Tre)).1)]) (fun _ => HS w [] []) (fun _ => True) ?_ ?_
 ·skip
  refine s_cond rfl (fun h12 => ?_) fun h12 => ?_
  ·try simp only [decide_eq_true_eq] at h12
   iterate 3 refine aS ?_
   exact s_joinI () trivial (by rw [hz, shapE_0 h12]; exact aSx) (fun w h => h.ent aEt)
  try simp only [decide_eq_false_iff_not] at h12
  refine aS ?_
  exact s_joinI () trivial (by rw [hz]; exact aSx) (fun w h => h.ent aEt)
 intro _ _
 iterate 7 refine aS ?_
 exact s_retv (rs := [.tmp 2, .tmp 3]) rfl (.tmp rfl (.tmp rfl (.nil))) (fun w' h' => ⟨by simp only [retV]; rw [hz], h'.below⟩)
theorem c127 (w : World) (a : Option Addr) (cap : Nat) (l : List LNd) (hs : Rw LNd.vals 3 w [] a l) (hm : l.length ≤ 1000000) : Calls Tryz.prog 127 #[.slice a l.length cap] w fun en w' => ∃ g : Option Addr × Nat, en = .returned (.slice g.1 l.length g.2) ∧ True ∧ HS w [] [.own (.slice g.1 l.length g.2) 102 3 l.length (l.flatMap LNd.vals)] w' := by
 refine enter (args := [_]) Tryz.func127 Tryz.ntmps127 rfl rfl (HS.refl w []) ?_
 iterate 8 refine aS ?_
 refine o_p (p_slice_nil_eql rfl rfl rfl Tryz.underlying22) rfl ?_
 refine aS ?_
 refine s_cond rfl (fun h1 => ?_) fun h1 => ?_
 ·skip
  have ha0 : a = none := by cases a with | none => rfl | some b => simp at h1
  subst ha0
  have hl0 : l = [] := Rw.none hs
  iterate 4 refine aS ?_
  exact s_retv (rs := [.tmp 2]) rfl (.tmp rfl (.nil)) (fun w' h' => ⟨(none, 0), by rw [hl0]; rfl, trivial, by rw [hl0]; exact (h'.own_nil 102 3).ent aEt⟩)
 skip
 iterate 3 refine aS ?_
 refine o_h (h_buildSlice0 rfl sl_22) rfl (fun b2 _ => ?_)
 refine aS ?_
 refine o_h (h_appendS (l.flatMap LNd.vals) rfl rfl rfl sl_22 Tryz.underlying22 zr_102 rfl aPk (fun w h => Rw.src nv3 hs h) (flat_length nv3 l) (flat_one nv1 l) (by omega) (by simp only [maxLen]; omega)) rfl (fun b3 _ => ?_)
 iterate 2 refine aS ?_
 exact s_retv (rs := [.tmp 2]) rfl (.tmp rfl (.nil)) (fun w' h' => ⟨b3, by simp only [retV, Nat.zero_add], trivial, by have h2 := h'; simp only [Nat.zero_add, List.nil_append] at h2; exact h2.ent aEt⟩)
theorem c128 (w : World) (a : Option Addr) (cap : Nat) (l : List TEnt) (hs : Rw TEnt.vals 2 w [] a l) (hm : l.length ≤ 1000000) : Calls Tryz.prog 128 #[.slice a l.length cap] w fun en w' => ∃ g : Option Addr × Nat, en = .returned (.slice g.1 l.length g.2) ∧ True ∧ HS w [] [.own (.slice g.1 l.length g.2) 26 2 l.length (l.flatMap TEnt.vals)] w' := by
 refine enter (args := [_]) Tryz.func128 Tryz.ntmps128 rfl rfl (HS.refl w []) ?_
 iterate 8 refine aS ?_
 refine o_p (p_slice_nil_eql rfl rfl rfl Tryz.underlying77) rfl ?_
 refine aS ?_
 refine s_cond rfl (fun h1 => ?_) fun h1 => ?_
 ·skip
  have ha0 : a = none := by cases a with | none => rfl | some b => simp at h1
  subst ha0
  have hl0 : l = [] := Rw.none hs
  iterate 4 refine aS ?_
  exact s_retv (rs := [.tmp 2]) rfl (.tmp rfl (.nil)) (fun w' h' => ⟨(none, 0), by rw [hl0]; rfl, trivial, by rw [hl0]; exact (h'.own_nil 26 2).ent aEt⟩)
 skip
 iterate 3 refine aS ?_
 refine o_h (h_buildSlice0 rfl sl_77) rfl (fun b2 _ => ?_)
 refine aS ?_
 refine o_h (h_appendS (l.flatMap TEnt.vals) rfl rfl rfl sl_77 Tryz.underlying77 zr_26 rfl aPk (fun w h => Rw.src ev2 hs h) (flat_length ev2 l) (flat_one ev1 l) (by omega) (by simp only [maxLen]; omega)) rfl (fun b3 _ => ?_)
 iterate 2 refine aS ?_
 exact s_retv (rs := [.tmp 2]) rfl (.tmp rfl (.nil)) (fun w' h' => ⟨b3, by simp only [retV, Nat.zero_add], trivial, by have h2 := h'; simp only [Nat.zero_add, List.nil_append] at h2; exact h2.ent aEt⟩)
theorem c129 (w : World) (a : Option Addr) (cap : Nat) (l : List Int) (hs : Rw inV 1 w [] a l) (hm : l.length ≤ 1000000) : Calls Tryz.prog 129 #[.slice a l.length cap] w fun en w' => ∃ g : Option Addr × Nat, en = .returned (.slice g.1 l.length g.2) ∧ True ∧ HS w [] [.own (.slice g.1 l.length g.2) 3 1 l.length (l.flatMap inV)] w' := by
 refine enter (args := [_]) Tryz.func129 Tryz.ntmps129 rfl rfl (HS.refl w []) ?_
 iterate 8 refine aS ?_
 refine o_p (p_slice_nil_eql rfl rfl rfl Tryz.underlying30) rfl ?_
 refine aS ?_
 refine s_cond rfl (fun h1 => ?_) fun h1 => ?_
 ·skip
  have ha0 : a = none := by cases a with | none => rfl | some b => simp at h1
  subst ha0
  have hl0 : l = [] := Rw.none hs
  iterate 4 refine aS ?_
  exact s_retv (rs := [.tmp 2]) rfl (.tmp rfl (.nil)) (fun w' h' => ⟨(none, 0), by rw [hl0]; rfl, trivial, by rw [hl0]; exact (h'.own_nil 3 1).ent aEt⟩)
 skip
 iterate 3 refine aS ?_
 refine o_h (h_buildSlice0 rfl sl_30) rfl (fun b2 _ => ?_)
 refine aS ?_
 refine o_h (h_appendS (l.flatMap inV) rfl rfl rfl sl_30 Tryz.underlying30 zr_3 rfl aPk (fun w h => Rw.src iv1 hs h) (flat_length iv1 l) (flat_one iv1c l) (by omega) (by simp only [maxLen]; omega)) rfl (fun b3 _ => ?_)
 iterate 2 refine aS ?_
 exact s_retv (rs := [.tmp 2]) rfl (.tmp rfl (.nil)) (fun w' h' => ⟨b3, by simp only [retV, Nat.zero_add], trivial, by have h2 := h'; simp only [Nat.zero_add, List.nil_append] at h2; exact h2.ent aEt⟩)
theorem c88 (w : World) (j : Nat) (mo rm : Int) (a : Option Addr) (cap : Nat) (L : List LNd) (hs : Nt w [] a L) (hB : Bd (pln L)) (hj : j ≤ 3) (h0 : 0 < L.length) : Calls Tryz.prog 88 #[.agg #[.int .i64 (j : Int), .int .i64 mo, .int .i64 rm, .slice a L.length cap]] w fun en w' => ∃ g : Nat × (Option Addr × Nat) × List LNd, en = .returned (.pointer (some ⟨g.1, 0, none⟩)) ∧ pln g.2.2 = pln L ∧ HS w [] [.blk g.1 112 6 (tbV (j : Int) mo rm g.2.1.1 g.2.2.length g.2.1.2), .nodes 26 102 g.2.1.1 g.2.1.2 g.2.2] w' := by
 have hle := hB.len
 rw [pln_len] at hle
 have hes9 : ∀ i, i < L.length → (nth L i).es.length ≤ 1000 := fun i hi => by have h9 := hB.es i (by rw [pln_len]; exact hi); rw [pln_nth hi] at h9; exact h9
 have hcs9 : ∀ i, i < L.length → (nth L i).cs.length ≤ 1000 := fun i hi => by have h9 := hB.cs i (by rw [pln_len]; exact hi); rw [pln_nth hi] at h9; exact h9
 refine enter (args := [_]) Tryz.func88 Tryz.ntmps88 rfl rfl (HS.refl w []) ?_
 iterate 2 refine aS ?_
 refine oBx fun b1 _ => ?_
 iterate 3 refine aS ?_
 refine s_draw [] mixed ?_
 refine dLn 0 [] ?_
 refine d_q 1 [] rfl (q_call rfl fn_77 rfl (fun w1 h1 => c77 w1)) (by kernel_rfl) (by kernel_rfl) (by kernel_rfl) rfl ?_
 refine dFa 2 ?_
 refine dLd 3 [] ?_
 refine d_p 4 rfl (p_indexn rfl rfl rfl ar_132 sz_110 j rfl (by omega)) (by kernel_rfl) rfl rfl ?_
 refine d_slot (ord_slot j hj) ?_
 refine d_p 5 rfl (p_build (cs := [_, _, _, _, _, _]) rfl rfl pl_112 zr_112 rfl) (by kernel_rfl) rfl rfl ?_
 refine d_h 6 rfl (h_box rfl rfl) (by kernel_rfl) (fun w h => h.ent aEt) rfl (fun b2 _ => ?_)
 refine dBa ?_
 refine dP 7 ?_
 refine dNi ?_
 iterate 5 refine aS ?_
 refine o_h (h_call rfl fn_127 rfl (fun w1 h1 => c127 w1 a cap L (hs.1.later h1) (by omega))) rfl (fun ⟨b3, c4⟩ _ => ?_)
 refine o_fact (fun w h => own_addr h0 h aPk) (fun hgn => ?_)
 obtain ⟨gn, rfl, hcap, hcm⟩ := hgn
 refine o_class (fun w h => HS.own_at h aPk) ?_
 iterate 3 refine aS ?_
 refine o_h0 (h_store rfl rfl rfl sz_22 rfl aPt (by show 4 ≤ 6; omega) rfl) (fun _ _ => ?_)
 iterate 13 refine aS ?_
 refine s_weaken (L' := [(2, _), (3, _), (24, _), (25, _), (26, _)]) aSx (fun _ h => h) ?_
 refine s_loopI (α := Nat × List LNd) [4, 5, 26, 27, 28, 29, 30, 31, 32, 33, 34, 35, 36, 37, 38, 39, 40, 41, 42, 43, 44, 45, 46, 47, 48, 49, 50, 51, 52, 53] (fun x => [(26, .int .i64 (x.1 : Int))]) (fun x => HS w [] [.blk gn 102 (c4 * 3) ((x.2 ++ L.drop x.1).flatMap LNd.vals), .star (x.2.map (subN 26)), .blk b2 112 6 (tbV (j : Int) mo rm (some ⟨gn, 0, none⟩) L.length c4)]) (fun x => x.1 ≤ L.length ∧ x.2.length = x.1 ∧ pln x.2 = (pln L).take x.1) (fun x => L.length - x.1) (0, []) ⟨Nat.zero_le _, rfl, rfl⟩ aSx (fun w h => (h.star_nil).ent aEt) (fun ⟨k, D⟩ hx => ?_)
 dsimp only
 obtain ⟨hk1, hk2, hk3⟩ := hx
 simp only [] at hk1 hk2 hk3
 iterate 5 refine aS ?_
 refine s_cond rfl (fun h5 => ?_) fun h5 => ?_
 ·try simp only [decide_eq_true_eq] at h5
  have hkl : k < L.length := by omega
  iterate 6 refine aS ?_
  refine o_p (p_indexAddr rfl rfl rfl sl_22 (k) (by omega) (by omega) rfl) rfl ?_
  refine o_q (q_load_atn (LNd.vals (nth L k)) rfl rfl sz_102 rfl (fun w h => by have h9 := Rw.rd (h.rw_blk nv3 aPk) (i := k) (by simp only [List.length_append, List.length_drop]; omega); rw [nth_mid hk2 hkl] at h9; exact h9)) rfl ?_
  refine oAl (fun b6 _ => ?_) zr_102
  refine aS ?_
  refine oSt ?_
  refine aS ?_
  refine s_draw [20, 23] mixed ?_
  refine dP 0 ?_
  refine dP 1 ?_
  refine dFa 2 ?_
  refine dFa 3 ?_
  refine dLd 4 [[], []] ?_
  refine dP 5 ?_
  refine dP 6 ?_
  refine dP 7 ?_
  refine dFa 8 ?_
  refine dFa 9 ?_
  refine dLd 10 [[], []] ?_
  refine dP 11 ?_
  refine dFa 12 ?_
  refine dLd 13 [[], []] ?_
  refine dFa 15 ?_
  refine dLd 16 [[17], []] ?_
  refine d_h 14 rfl (h_call rfl fn_128 rfl (fun w1 h1 => c128 w1 (nth L k).ea (nth L k).ec (nth L k).es ((hs.es hkl).later h1) (by have := hes9 k hkl; omega))) (by kernel_rfl) (fun w h => h.ent aEt) rfl (fun b7 _ => ?_)
  refine dBa ?_
  refine d_h 17 rfl (h_call rfl fn_129 rfl (fun w1 h1 => c129 w1 (nth L k).ca (nth L k).cc (nth L k).cs ((hs.cs hkl).later h1) (by have := hcs9 k hkl; omega))) (by kernel_rfl) (fun w h => h.ent aEt) rfl (fun b8 _ => ?_)
  refine dBa ?_
  refine d_p 18 rfl (p_indexAddr rfl rfl rfl sl_22 (k) (by omega) (by omega) rfl) (by kernel_rfl) rfl rfl ?_
  refine dFa 19 ?_
  refine d_h0 20 rfl (h_store rfl rfl rfl sz_77 rfl aPt (by simp only [setMany_length, flat_length nv3, List.length_append, List.length_drop, Nat.zero_add]; show _ + 1 ≤ _; omega) rfl) (by kernel_rfl) (fun w h => h.ent aEt) (fun _ _ => ?_)
  refine dTu [23] ?_
  refine d_p 21 rfl (p_indexAddr rfl rfl rfl sl_22 (k) (by omega) (by omega) rfl) (by kernel_rfl) rfl rfl ?_
  refine dFa 22 ?_
  refine d_h0 23 rfl (h_store rfl rfl rfl sz_30 rfl aPt (by simp only [setMany_length, flat_length nv3, List.length_append, List.length_drop, Nat.zero_add]; show _ + 1 ≤ _; omega) rfl) (by kernel_rfl) (fun w h => h.ent aEt) (fun _ _ => ?_)
  refine dTu [] ?_
  refine dNi ?_
  refine aS ?_
  refine s_weaken (L' := [(2, _), (3, _), (24, _), (25, _), (26, _)]) aSx (fun _ h => h) ?_
  iterate 2 refine aS ?_
  try refine oWr ?_
  iterate 2 refine aS ?_
  exact s_backI (k + 1, D ++ [⟨(nth L k).us, b7.1, b7.2, (nth L k).es, b8.1, b8.2, (nth L k).cs⟩]) (by (try simp only []); omega) ⟨by (try simp only []); omega, by simp [hk2], pln_take hkl hk3 rfl⟩ aSx (fun w h => by have e9 := node_both (l := D ++ L.drop k) (k := k) (by simp only [List.length_append, List.length_drop]; omega) b7.1 b7.2 (nth L k).es b8.1 b8.2 (nth L k).cs; rw [nth_mid hk2 hkl, set_mid hk2 hkl] at e9; have h2 := h.ent (Bs := [.own (.slice b7.1 (nth L k).es.length b7.2) 26 2 (nth L k).es.length ((nth L k).es.flatMap TEnt.vals), .own (.slice b8.1 (nth L k).cs.length b8.2) 3 1 (nth L k).cs.length ((nth L k).cs.flatMap inV), .star (D.map (subN 26)), .blk gn 102 (c4 * 3) (setMany (setMany ((D ++ L.drop k).flatMap LNd.vals) (0 + k * 3 + 1) [.slice b7.1 (nth L k).es.length b7.2]) (0 + k * 3 + 2) [.slice b8.1 (nth L k).cs.length b8.2]), .blk b2 112 6 (tbV (j : Int) mo rm (some ⟨gn, 0, none⟩) L.length c4)]) aEt; rw [Nat.zero_add, e9] at h2; exact (HS.sub_app (sub := subN 26) (l := D) (x := (⟨(nth L k).us, b7.1, b7.2, (nth L k).es, b8.1, b8.2, (nth L k).cs⟩ : LNd)) (HS.star_close (Bs := [_, _]) h2)).ent aEt)
 try simp only [decide_eq_false_iff_not] at h5
 obtain rfl : k = L.length := by omega
 have hD : pln D = pln L := by rw [hk3, ← pln_len L, List.take_length]
 refine s_exit_to rfl ?_
 iterate 5 refine aS ?_
 exact s_retv (rs := [.tmp 2]) rfl (.tmp rfl (.nil)) (fun w' h' => ⟨(b2, (some ⟨gn, 0, none⟩, c4), D), rfl, hD, by have h2 := h'; rw [List.drop_length, List.append_nil] at h2; have h3 := HS.own_shut (n := D.length) (h2.ent (Bs := [.blk gn 102 (c4 * 3) (D.flatMap LNd.vals), .star (D.map (subN 26)), .blk b2 112 6 (tbV (j : Int) mo rm (some ⟨gn, 0, none⟩) L.length c4)]) aEt) (flat_length nv3 D) (by omega) hcm; have h4 := HS.row_shut (l := D) (sub := subN 26) h3 rfl rfl; have h5 : HS w [] [.nodes 26 102 (some ⟨gn, 0, none⟩) c4 D, .blk b2 112 6 (tbV (j : Int) mo rm (some ⟨gn, 0, none⟩) L.length c4)] w' := h4; rw [hk2]; exact h5.ent aEt⟩)
end Go.Proofs
namespace Gx
set_option linter.unusedSimpArgs false
set_option linter.unusedVariables false
set_option linter.unusedSectionVars false
open Go Go.RowKit
section
variable {P : Program} {o : Oper} {L : Slots} {w0 : World} {M : List Nat} {As As' : List HA}
theorem p_slice30 {t e sz by' : Nat} {x hi mx : Operand} {a : Option Addr} {n cap : Nat} {k2 k3 : IntKind} {i2 i3 : Int} (j m : Nat) (ho : o.op = .slice t x none (some hi) (some mx)) (hx : ev L x = some (.slice a n cap)) (hh : ev L hi = some (.int k2 i2)) (hm : ev L mx = some (.int k3 i3)) (ht : tsl P t = some (e, sz, by')) (e2 : i2 = (j : Int)) (e3 : i3 = (m : Int)) (hjm : j ≤ m) (hmc : m ≤ cap) :
    OpP P o L (.slice (subA a m 0 sz) j m) := by
  intro ρ w hρ
  obtain ⟨hu, inf, h1, h2, _⟩ := tsl_slice ht
  subst e2 e3
  simp [execOp, ho, hρ _ _ hx, hρ _ _ hh, hρ _ _ hm, Instr.sliceAt, Instr.slice, Instr.sliceBounds, Instr.sliceBound, asIntOf, run_underlying hu, hjm, hmc, Go.sizeOf, typeInfo, h1, h2, subA]
end
theorem subA_0 (a : Option Addr) (cap sz : Nat) (ha : ∀ x, a = some x → x.off = 0 ∧ x = ⟨x.block, 0, none⟩) : subA a cap 0 sz = a := by
  unfold subA
  split
  · rfl
  · cases a with
    | none => rfl
    | some x =>
      rw [(ha x rfl).2]
      simp [addr_add]
theorem Rw.cut {α : Type} [Inhabited α] {vals : α → List Value} {sz : Nat} {w : World} {M : List Nat} {a : Option Addr} {l : List α} (h : Rw vals sz w M a l) {cap i : Nat} (hc : l.length ≤ cap) : Rw vals sz w M (subA a cap i sz) (l.drop i) :=
  ⟨fun hn => by
    rw [List.length_drop] at hn
    obtain ⟨b, o, rfl, h2⟩ := h.at_ (by omega)
    refine ⟨b, o + i * sz, ?_, fun j hj => ?_⟩
    · unfold subA
      rw [if_neg (by omega)]
      simp [addr_add]
    · rw [List.length_drop] at hj
      have e : nth (l.drop i) j = nth l (i + j) := nth_eq (by rw [List.getElem?_drop]; exact nth_get (by omega))
      have h3 := h2 (i + j) (by omega)
      simp only [e]
      refine ⟨h3.1, fun q v hv => ?_⟩
      have h4 := h3.2 q v hv
      rw [show o + (i + j) * sz + q = o + i * sz + j * sz + q by rw [Nat.add_mul]; omega] at h4
      exact h4⟩
section
variable {w0 w : World} {M : List Nat} {As As' As'' : List HA} {gn cap et nt' : Nat} {a : Option Addr} {L : List LNd}
theorem nodes_split (h0 : 0 < L.length) (h : HS w0 M As w) (hp : Pick As (.nodes et nt' a cap L) As') : ∃ gn, a = some ⟨gn, 0, none⟩ ∧ L.length ≤ cap ∧ cap ≤ maxLen ∧ HS w0 M (.blk gn nt' (cap * 3) (L.flatMap LNd.vals) :: .star (L.map (subN et)) :: As') w := by
  have h1 := HS.row_open (h.pick hp)
  obtain ⟨gn, e, _, h2, h3, _, h4⟩ := h1.own_blk h0 .here
  exact ⟨gn, e, h2, h3, h4⟩
theorem nodes_join (h : HS w0 M (.blk gn nt' (cap * 3) (L.flatMap LNd.vals) :: .star (L.map (subN et)) :: As) w) (h1 : L.length ≤ cap) (h2 : cap ≤ maxLen) : HS w0 M (.nodes et nt' (some ⟨gn, 0, none⟩) cap L :: As) w :=
  HS.row_shut (l := L) (sub := subN et) (HS.own_shut (n := L.length) h (flat_length nv3 L) h1 h2) rfl rfl
theorem HS.nt_at (h : HS w0 M As w) (hp : Pick As (.blk gn nt' (cap * 3) (L.flatMap LNd.vals)) As') (hp2 : Pick As' (.star (L.map (subN et))) As'') : Nt w [] (some ⟨gn, 0, none⟩) L := by
  refine ⟨h.rw_blk nv3 hp, fun n hn => ?_⟩
  obtain ⟨i, hi, e⟩ := List.getElem_of_mem hn
  have e2 : nth L i = n := nth_eq (by rw [List.getElem?_eq_getElem hi, e])
  have h2 := HS.sub_open hi ((h.pick hp).tail.pick hp2)
  rw [e2] at h2
  have h3 := HS.star_open h2
  exact ⟨h3.rw_own ev2 .here rfl, h3.rw_own iv1 (.there .here) rfl⟩
theorem HS.node_out {i : Nat} (hi : i < L.length) (h : HS w0 M As w) (hp : Pick As (.star (L.map (subN et))) As') : HS w0 M (.own (.slice (nth L i).ea (nth L i).es.length (nth L i).ec) et 2 (nth L i).es.length ((nth L i).es.flatMap TEnt.vals) :: .own (.slice (nth L i).ca (nth L i).cs.length (nth L i).cc) 3 1 (nth L i).cs.length ((nth L i).cs.flatMap inV) :: .star ((others L i).map (subN et)) :: As') w :=
  HS.star_open (Bs := [_, _]) (HS.sub_open hi (h.pick hp))
theorem HS.node_in {i : Nat} (hi : i < L.length) (x : LNd) (h : HS w0 M (.own (.slice x.ea x.es.length x.ec) et 2 x.es.length (x.es.flatMap TEnt.vals) :: .own (.slice x.ca x.cs.length x.cc) 3 1 x.cs.length (x.cs.flatMap inV) :: .star ((others L i).map (subN et)) :: As) w) : HS w0 M (.star ((L.set i x).map (subN et)) :: As) w :=
  HS.sub_shut (sub := subN et) hi (HS.star_close (Bs := [_, _]) h)
theorem own_form {a : Option Addr} {n n' c t sz : Nat} {xs : List Value} {w : World} (h : OwnOk (.slice a n c) t sz n' xs w) : ∀ x, a = some x → x.off = 0 ∧ x = ⟨x.block, 0, none⟩ := by
  obtain ⟨_, ⟨e, _⟩ | ⟨g, cap, e, _⟩⟩ := h
  · injection e with e1
    subst e1
    intro x hx
    cases hx
  · injection e with e1
    subst e1
    intro x hx
    injection hx with hx
    subst hx
    exact ⟨rfl, rfl⟩
end
theorem node_us0 {l : List LNd} {k : Nat} (hk : k < l.length) (us : Bool) : setMany (l.flatMap LNd.vals) (0 + k * 3 + 0) [.bool us] = (l.set k { nth l k with us := us }).flatMap LNd.vals := by
  rw [Nat.zero_add, Nat.add_zero]
  exact node_us hk us
theorem star_us {et : Nat} {L : List LNd} {i : Nat} (hi : i < L.length) (us : Bool) : ((L.set i { nth L i with us := us }).map (subN et)) = L.map (subN et) := by
  rw [List.map_set]
  have e : subN et { nth L i with us := us } = subN et (nth L i) := rfl
  rw [e]
  apply List.ext_getElem?
  intro j
  rw [List.getElem?_set]
  split
  · rename_i h
    subst h
    rw [List.length_map, if_pos hi, List.getElem?_map, nth_get hi]
    rfl
  · rfl
def usN (ns : List Nd) (i : Nat) (us : Bool) : List Nd := ns.set i { nth ns i with us := us }
def esN (ns : List Nd) (i : Nat) (es : List TEnt) : List Nd := ns.set i { nth ns i with es := es }
def csN (ns : List Nd) (i : Nat) (cs : List Int) : List Nd := ns.set i { nth ns i with cs := cs }
theorem esN_len (ns : List Nd) (i : Nat) (es : List TEnt) : (esN ns i es).length = ns.length := by simp [esN]
theorem csN_len (ns : List Nd) (i : Nat) (cs : List Int) : (csN ns i cs).length = ns.length := by simp [csN]
theorem usN_len (ns : List Nd) (i : Nat) (us : Bool) : (usN ns i us).length = ns.length := by simp [usN]
theorem nth_esN {ns : List Nd} {i k : Nat} (hk : k < ns.length) (es : List TEnt) : nth (esN ns i es) k = if i = k then { nth ns k with es := es } else nth ns k := by
  unfold esN
  apply nth_eq
  rw [List.getElem?_set]
  split
  · rename_i h
    subst h
    rw [if_pos hk]
  · exact nth_get hk
theorem pln_es {L : List LNd} {i : Nat} (hi : i < L.length) (ea : Option Addr) (ec : Nat) (es : List TEnt) : pln (L.set i { nth L i with ea := ea, ec := ec, es := es }) = esN (pln L) i es := by
  rw [pln_set, esN, pln_nth hi]
  rfl
theorem pln_cs {L : List LNd} {i : Nat} (hi : i < L.length) (ca : Option Addr) (cc : Nat) (cs : List Int) : pln (L.set i { nth L i with ca := ca, cc := cc, cs := cs }) = csN (pln L) i cs := by
  rw [pln_set, csN, pln_nth hi]
  rfl
theorem pln_us {L : List LNd} {i : Nat} (hi : i < L.length) (us : Bool) : pln (L.set i { nth L i with us := us }) = usN (pln L) i us := by
  rw [pln_set, usN, pln_nth hi]
  rfl
def ixFree (ns : List Nd) : Nat := ixB (ns.map fun n => !n.us)
def freN (ns : List Nd) : Nat × List Nd := if ixFree ns < ns.length then (ixFree ns, usN ns (ixFree ns) true) else (ns.length, ns ++ [⟨true, [], []⟩])
def parN (i : Int) : List Nd → Nat → Nat × Nat
  | [], _ => (0, 0)
  | n :: ns, p => if ixB (hasC n.cs i) < n.cs.length then (p, ixB (hasC n.cs i)) else parN i ns (p + 1)
theorem parN_drop {i : Int} {ns : List Nd} {k : Nat} (hk : k < ns.length) : parN i (ns.drop k) k = if ixB (hasC (nth ns k).cs i) < (nth ns k).cs.length then (k, ixB (hasC (nth ns k).cs i)) else parN i (ns.drop (k + 1)) (k + 1) := by
  rw [List.drop_eq_getElem_cons hk, parN]
  have e : ns[k] = nth ns k := (nth_eq (List.getElem?_eq_getElem hk)).symm
  rw [e]
def splM (mo : Int) : Nat := ((mo + 1) / 2).toNat
def splA (mo : Int) (ns : List Nd) (i : Nat) : List Nd :=
  if (nth (freN ns).2 i).cs.length = 0 then esN (esN (freN ns).2 (freN ns).1 ((nth (freN ns).2 i).es.drop (splM mo + 1))) i ((nth (freN ns).2 i).es.take (splM mo))
  else csN (csN (esN (esN (freN ns).2 (freN ns).1 ((nth (freN ns).2 i).es.drop (splM mo + 1))) i ((nth (freN ns).2 i).es.take (splM mo))) (freN ns).1 ((nth (freN ns).2 i).cs.drop (splM mo + 1))) i ((nth (freN ns).2 i).cs.take (splM mo + 1))
def addP (ns : List Nd) (p k : Nat) (up : TEnt) (own : Nat) : List Nd := csN (esN ns p (insAt (nth ns p).es k up)) p (insAt (nth ns p).cs (k + 1) (own : Int))
def splN (mo : Int) (ns : List Nd) (i : Nat) : List Nd := addP (splA mo ns i) (parN (i : Int) (splA mo ns i) 0).1 (parN (i : Int) (splA mo ns i) 0).2 (nth (nth (freN ns).2 i).es (splM mo)) (freN ns).1
structure SplOk (mo : Int) (ns : List Nd) (i : Nat) : Prop where
  mo0 : 0 ≤ mo ∧ mo ≤ 1000
  bd : Bd ns
  lt : i < ns.length
  us : (nth ns i).us = true
  es : splM mo < (nth ns i).es.length
  cs : (nth ns i).cs.length = 0 ∨ splM mo + 1 ≤ (nth ns i).cs.length
  par : (parN (i : Int) (splA mo ns i) 0).1 < (splA mo ns i).length
  parE : (parN (i : Int) (splA mo ns i) 0).2 ≤ (nth (splA mo ns i) (parN (i : Int) (splA mo ns i) 0).1).es.length
  parC : (parN (i : Int) (splA mo ns i) 0).2 + 1 ≤ (nth (splA mo ns i) (parN (i : Int) (splA mo ns i) 0).1).cs.length
theorem ixFree_us {ns : List Nd} (h : ixFree ns < ns.length) : (nth ns (ixFree ns)).us = false := by
  have h1 : (ns.map fun n => !n.us).getD (ixFree ns) false = true := ixB_true (l := ns.map fun n => !n.us) (by rw [List.length_map]; exact h)
  rw [getD_map (d := default) h] at h1
  show (ns.getD (ixFree ns) default).us = false
  simpa using h1
theorem freN_ne {ns : List Nd} {i : Nat} (hi : i < ns.length) (hu : (nth ns i).us = true) : (freN ns).1 ≠ i := by
  unfold freN
  split
  · rename_i h
    intro e
    simp only [] at e
    have h2 := ixFree_us h
    rw [e, hu] at h2
    cases h2
  · simp only []
    omega
theorem freN_lt (ns : List Nd) : (freN ns).1 < (freN ns).2.length := by
  unfold freN
  split
  · rename_i h
    simp only [usN_len]
    exact h
  · simp
theorem freN_len (ns : List Nd) : ns.length ≤ (freN ns).2.length ∧ (freN ns).2.length ≤ ns.length + 1 := by
  unfold freN
  split
  · simp only [usN_len]
    omega
  · simp
theorem freN_nth {ns : List Nd} {i : Nat} (hi : i < ns.length) (hu : (nth ns i).us = true) : nth (freN ns).2 i = nth ns i := by
  have hne := freN_ne hi hu
  unfold freN at hne ⊢
  split
  · rename_i h
    rw [if_pos h] at hne
    simp only [] at hne ⊢
    unfold usN
    apply nth_eq
    rw [List.getElem?_set, if_neg hne]
    exact nth_get hi
  · apply nth_eq
    simp only []
    rw [List.getElem?_append_left hi]
    exact nth_get hi
theorem splA_len (mo : Int) (ns : List Nd) (i : Nat) : (splA mo ns i).length = (freN ns).2.length := by
  unfold splA
  split <;> simp [esN_len, csN_len]
end Gx
namespace Go.Proofs
open Go Go.RowKit Gx
set_option linter.unusedVariables false
set_option linter.unusedSimpArgs false
attribute [local irreducible] Go.Calls Gx.S Gx.O Gx.D Gx.OpP Gx.OpQ Gx.OpH
set_option maxRecDepth 20000
theorem fn_159 : isFn Tryz.prog 159 = true := by kernel_rfl
theorem ov_132 : isOv Tryz.prog 132 77 4 := ⟨_, Tryz.func132, rfl, rfl, by kernel_rfl, by kernel_rfl⟩
theorem ov_161 : isOv Tryz.prog 161 30 4 := ⟨_, Tryz.func161, rfl, rfl, by kernel_rfl, by kernel_rfl⟩
theorem c159 (w : World) (a : Option Addr) (cap : Nat) (l : List LNd) (q : Nat) (cv : Array Value) (bt : List Bool) (hs : Rw LNd.vals 3 w [] a l) (hm : l.length ≤ 1000000) (hq : isFn Tryz.prog q = true) (hb : bt.length = l.length) (hc : ∀ k w1, k < l.length → HS w [] [] w1 → Calls Tryz.prog q (#[] ++ [.agg (LNd.vals (nth l k)).toArray].toArray ++ cv) w1 fun en w2 => en = .returned (.bool (bt.getD k false)) ∧ Below w1.heap.size w1 w2) : Calls Tryz.prog 159 #[.slice a l.length cap, .func (.func q) #[] cv] w fun en w' => en = .returned (.int .i64 (ixI bt)) ∧ Below w.heap.size w w' := by
 refine enter (args := [_, _]) Tryz.func159 Tryz.ntmps159 rfl rfl (HS.refl w []) ?_
 iterate 12 refine aS ?_
 refine s_loopI (α := Nat) [4, 5, 8, 9, 10, 11, 12, 13, 14, 15, 16, 17, 18] (fun k => [(8, .int .i64 (k : Int))]) (fun _ => _) (fun k => k ≤ l.length ∧ ∀ i, i < k → bt.getD i false = false) (fun k => l.length - k) 0 ⟨by omega, fun i h => absurd h (Nat.not_lt_zero i)⟩ aSx (fun w h => h) (fun k hk => ?_)
 obtain ⟨hk1, hk2⟩ := hk
 iterate 5 refine aS ?_
 refine s_cond rfl (fun h1 => ?_) fun h1 => ?_
 ·try simp only [decide_eq_true_eq] at h1
  iterate 13 refine aS ?_
  refine o_p (p_indexAddr rfl rfl rfl sl_22 (k) (by omega) (by omega) (Rw.some hs (by omega))) rfl ?_
  refine o_q (q_load_oldn _ rfl rfl sz_102 rfl (Rw.rd hs (by omega))) rfl ?_
  refine o_q (q_callv rfl rfl hq rfl (fun w1 h1 => hc k w1 (by omega) (h1.ent aEt))) rfl ?_
  refine aS ?_
  refine s_cond rfl (fun h2 => ?_) fun h2 => ?_
  ·skip
   iterate 5 refine aS ?_
   exact s_retv (rs := [.tmp 4]) rfl (.tmp rfl (.nil)) (fun w' h' => ⟨by have e := ixB_eq (l := bt) (k := k) (by omega) hk2 (fun _ => by assumption); simp only [retV, ixI, e]; rw [if_pos (by omega)], h'.below⟩)
  skip
  iterate 4 refine aS ?_
  try refine oWr ?_
  iterate 2 refine aS ?_
  exact s_backI (k+1) (by omega) ⟨by omega, fun i hi => (Nat.lt_or_ge i k).elim (hk2 i) (fun h => by obtain rfl : i = k := (by omega); assumption)⟩ aSx (fun w h => h)
 try simp only [decide_eq_false_iff_not] at h1
 refine s_exit_to rfl ?_
 iterate 4 refine aS ?_
 exact s_retv (rs := [.tmp 4]) rfl (.tmp rfl (.nil)) (fun w' h' => ⟨by have e := ixB_eq (l := bt) (k := k) (by omega) hk2 (fun h => by omega); simp only [retV, ixI, e]; rw [if_neg (by omega)], h'.below⟩)
theorem c160 (w : World) (n : LNd) : Calls Tryz.prog 160 #[.agg #[.bool n.us, .slice n.ea n.es.length n.ec, .slice n.ca n.cs.length n.cc]] w fun en w' => en = .returned (.bool (!n.us)) ∧ Below w.heap.size w w' := by
 refine enter (args := [_]) Tryz.func160 Tryz.ntmps160 rfl rfl (HS.refl w []) ?_
 iterate 2 refine aS ?_
 refine oBx fun b1 _ => ?_
 iterate 9 refine aS ?_
 exact s_retv (rs := [.tmp 2]) rfl (.tmp rfl (.nil)) (fun w' h' => ⟨rfl, h'.below⟩)
theorem c150 (w : World) (bt : Nat) (j : Nat) (mo rm : Int) (gn cap : Nat) (L : List LNd) (hw : HS w (fps [.blk bt 112 6 (tbV (j : Int) mo rm (some ⟨gn, 0, none⟩) (L).length cap), .blk gn 102 (cap * 3) ((L).flatMap LNd.vals), .star ((L).map (subN 26))]) [.blk bt 112 6 (tbV (j : Int) mo rm (some ⟨gn, 0, none⟩) (L).length cap), .blk gn 102 (cap * 3) ((L).flatMap LNd.vals), .star ((L).map (subN 26))] w) (hnc : L.length ≤ cap) (hcm : cap ≤ maxLen) (h0 : 0 < L.length) (hl : L.length ≤ 1000) : Calls Tryz.prog 150 #[.pointer (some ⟨bt, 0, none⟩)] w fun en w' => ∃ g : (Nat × Nat) × List LNd, en = .returned (.int .i64 ((freN (pln L)).1 : Int)) ∧ (pln g.2 = (freN (pln L)).2 ∧ g.2.length ≤ g.1.2 ∧ g.1.2 ≤ maxLen) ∧ HS w (fps [.blk bt 112 6 (tbV (j : Int) mo rm (some ⟨gn, 0, none⟩) (L).length cap), .blk gn 102 (cap * 3) ((L).flatMap LNd.vals), .star ((L).map (subN 26))]) [.blk bt 112 6 (tbV (j : Int) mo rm (some ⟨g.1.1, 0, none⟩) (g.2).length g.1.2), .blk g.1.1 102 (g.1.2 * 3) ((g.2).flatMap LNd.vals), .star ((g.2).map (subN 26))] w' := by
 have hixe : ixB (L.map fun n => !n.us) = ixFree (pln L) := by unfold ixFree; rw [List.map_map]; rfl
 have hnl : (pln L).length = L.length := pln_len L
 refine enter (args := [_]) Tryz.func150 Tryz.ntmps150 rfl rfl hw ?_
 iterate 11 refine aS ?_
 refine o_q (q_call rfl fn_159 rfl (fun w1 h1 => c159 w1 (some ⟨gn, 0, none⟩) cap L 160 #[] (L.map fun n => !n.us) (h1.rw_blk nv3 aPk) (by omega) (by kernel_rfl) (by simp) (fun k w2 hk h2 => by rw [getD_map (d := default) hk]; exact c160 w2 (nth L k)))) rfl ?_
 iterate 8 refine aS ?_
 refine s_cutI (α := (Nat × Nat) × List LNd) [3, 12, 13, 14, 15, 16, 17, 18, 19, 20, 21, 22, 23, 24, 25, 26, 27, 28, 29] (fun x => [(3, .int .i64 ((ixFree (pln L)) : Int))]) (fun x => HS w (fps [.blk bt 112 6 (tbV (j : Int) mo rm (some ⟨gn, 0, none⟩) (L).length cap), .blk gn 102 (cap * 3) ((L).flatMap LNd.vals), .star ((L).map (subN 26))]) [.blk bt 112 6 (tbV (j : Int) mo rm (some ⟨x.1.1, 0, none⟩) (x.2).length x.1.2), .blk x.1.1 102 (x.1.2 * 3) ((x.2).flatMap LNd.vals), .star ((x.2).map (subN 26))]) (fun x => (ixFree (pln L)) < x.2.length ∧ x.2.length ≤ x.1.2 ∧ x.1.2 ≤ maxLen ∧ usN (pln x.2) (ixFree (pln L)) true = (freN (pln L)).2 ∧ x.2.length ≤ 1001) ?_ ?_
 ·skip
  refine s_cond rfl (fun h1 => ?_) fun h1 => ?_
  ·try simp only [decide_eq_true_eq] at h1
   have hz : ¬ ixFree (pln L) < L.length := by have hq := h1; unfold ixI at hq; rw [hixe, List.length_map] at hq; intro h9; rw [if_pos h9] at hq; omega
   have hz1 : ixFree (pln L) = L.length := by have h9 := ixB_le (L.map fun n => !n.us); rw [hixe, List.length_map] at h9; omega
   refine s_class (fun w h => (HS.own_shut (n := L.length) (h.ent (Bs := [.blk gn 102 (cap * 3) (L.flatMap LNd.vals), .star (L.map (subN 26)), .blk bt 112 6 (tbV (j : Int) mo rm (some ⟨gn, 0, none⟩) L.length cap)]) aEt) (flat_length nv3 L) hnc hcm)) ?_
   iterate 17 refine aS ?_
   refine o_p (p_build (cs := [_, _, _]) rfl rfl pl_102 zr_102 rfl) rfl ?_
   refine o_h (h_buildSlice (cs := [_, _, _]) rfl rfl sl_22 zr_102 rfl rfl rfl) rfl (fun b2 _ => ?_)
   refine o_h (h_appendS [_, _, _] rfl rfl rfl sl_22 Tryz.underlying22 zr_102 rfl aPk (src_blk aPk) rfl (by intro u hu; simp only [List.mem_cons, List.mem_nil_iff, or_false] at hu; rcases hu with rfl | rfl | rfl <;> rfl) (by omega) (by simp only [maxLen]; omega)) rfl (fun b3 _ => ?_)
   refine o_fact (fun w h => own_addr (n := L.length + 1) (by omega) h aPk) (fun hgn => ?_)
   obtain ⟨⟨ga, gc⟩, hga⟩ : ∃ q : Option Addr × Nat, b3 = q := ⟨_, rfl⟩
   subst hga
   obtain ⟨g9, e9, hn9, hm9⟩ := hgn
   simp only [] at e9 hn9 hm9
   subst e9
   refine o_class (fun w h => HS.own_at h aPk) ?_
   iterate 3 refine aS ?_
   refine o_h0 (h_store rfl rfl rfl sz_22 rfl aPt (by show 4 ≤ 6; omega) rfl) (fun _ _ => ?_)
   refine aS ?_
   exact s_joinI ((g9, gc), L ++ [⟨false, none, 0, [], none, 0, []⟩]) ⟨by simp only [List.length_append, List.length_singleton]; omega, by simp only [List.length_append, List.length_singleton]; exact hn9, hm9, by unfold freN usN; rw [if_neg (by rw [hnl]; exact hz), hz1, pln_app, List.set_append_right _ _ (by rw [pln_len]; omega), pln_len, Nat.sub_self]; simp only []; congr 1; show [_] = [_]; congr 1; rw [show nth (pln L ++ pln [(⟨false, none, 0, [], none, 0, []⟩ : LNd)]) L.length = ⟨false, [], []⟩ from nth_eq (by rw [List.getElem?_append_right (by rw [pln_len]; omega), pln_len, Nat.sub_self]; rfl)], by simp only [List.length_append, List.length_singleton]; omega⟩ (by rw [hz1]; exact aSx) (fun w h => by have h2 := HS.sub_app (sub := subN 26) (l := L) (x := (⟨false, none, 0, [], none, 0, []⟩ : LNd)) (HS.star_close (Bs := [_, _]) (((h.ent (Bs := [.star (L.map (subN 26)), .blk bt 112 6 (tbV (j : Int) mo rm (some ⟨g9, 0, none⟩) (L.length + 1) gc), .blk g9 102 (gc * 3) (L.flatMap LNd.vals ++ [.bool false, .slice none 0 0, .slice none 0 0])]) aEt).own_nil 3 1).own_nil 26 2)); have e8 : (L ++ [(⟨false, none, 0, [], none, 0, []⟩ : LNd)]).flatMap LNd.vals = L.flatMap LNd.vals ++ [.bool false, .slice none 0 0, .slice none 0 0] := (by rw [List.flatMap_append]; rfl); have e7 : (L ++ [(⟨false, none, 0, [], none, 0, []⟩ : LNd)]).length = L.length + 1 := (by simp); dsimp only; rw [e8, e7]; exact h2.ent aEt)
  try simp only [decide_eq_false_iff_not] at h1
  have hz : ixFree (pln L) < L.length := by have hq := h1; unfold ixI at hq; rw [hixe, List.length_map] at hq; split at hq <;> first | assumption | omega
  have hz2 : ixI (L.map fun n => !n.us) = (ixFree (pln L) : Int) := by unfold ixI; rw [hixe, List.length_map, if_pos hz]
  refine aS ?_
  exact s_joinI ((gn, cap), L) ⟨hz, hnc, hcm, by unfold freN; rw [if_pos (by rw [hnl]; exact hz)], by show L.length ≤ 1001; omega⟩ (by rw [hz2]; exact aSx) (fun w h => h.ent aEt)
 intro ⟨⟨gn1, cap1⟩, L1⟩ hx
 dsimp only
 obtain ⟨hx1, hx2, hx3, hx4, hx5⟩ := hx
 simp only [] at hx1 hx2 hx3 hx4 hx5
 iterate 8 refine aS ?_
 refine o_p (p_indexAddr rfl rfl rfl sl_22 ((ixFree (pln L))) (by omega) (by omega) rfl) rfl ?_
 refine aS ?_
 refine o_h0 (h_store rfl rfl rfl sz_4 rfl aPt (by rw [flat_length nv3]; show _ + 1 ≤ _; omega) rfl) (fun _ _ => ?_)
 iterate 6 refine aS ?_
 exact s_retv (rs := [.tmp 2]) rfl (.tmp rfl (.nil)) (fun w' h' => ⟨((gn1, cap1), L1.set (ixFree (pln L)) { nth L1 (ixFree (pln L)) with us := true }), by unfold freN; split <;> first | rfl | (have hq9 := ixB_le (L.map fun n => !n.us); rw [hixe, List.length_map] at hq9; simp only [retV]; congr 2; rw [hnl] at *; congr 1; omega), ⟨by rw [pln_us hx1]; exact hx4, by simp only [List.length_set]; exact hx2, hx3⟩, by have h2 := h'.ent (Bs := [.blk bt 112 6 (tbV (j : Int) mo rm (some ⟨gn1, 0, none⟩) L1.length cap1), .blk gn1 102 (cap1 * 3) (setMany (L1.flatMap LNd.vals) (0 + (ixFree (pln L)) * 3 + 0) [.bool true]), .star (L1.map (subN 26))]) aEt; rw [node_us0 hx1] at h2; simp only [List.length_set]; rw [star_us hx1]; exact h2.ent aEt⟩)
theorem c141 (w : World) (bt : Nat) (j : Nat) (mo rm : Int) (a : Option Addr) (cap : Nat) (L : List LNd) (i : Int) (ht : TbR w [] bt (j : Int) mo rm a L.length cap) (hs : Nt w [] a L) (hl : L.length ≤ 100000) (hcl : ∀ k, k < L.length → (nth L k).cs.length ≤ 100000) : Calls Tryz.prog 141 #[.pointer (some ⟨bt, 0, none⟩), .int .i64 i] w fun en w' => en = .returned (.tuple #[.int .i64 ((parN i (pln L) 0).1 : Int), .int .i64 ((parN i (pln L) 0).2 : Int)]) ∧ Below w.heap.size w w' := by
 refine enter (args := [_, _]) Tryz.func141 Tryz.ntmps141 rfl rfl (HS.refl w []) ?_
 iterate 12 refine aS ?_
 refine o_q (q_load_old rfl rfl sz_22 (ht 3 _ rfl)) rfl ?_
 iterate 4 refine aS ?_
 refine s_loopI (α := Nat) [4, 5, 6, 7, 8, 15, 16, 17, 18, 19, 20, 21, 22, 23, 24, 25, 26, 27, 28] (fun k => [(15, .int .i64 (k : Int))]) (fun _ => HS w [] []) (fun k => k ≤ L.length ∧ (parN i (pln L) 0) = parN i ((pln L).drop k) k) (fun k => L.length - k) 0 ⟨Nat.zero_le _, rfl⟩ aSx (fun w h => h.ent aEt) (fun k hx => ?_)
 obtain ⟨hk1, hk2⟩ := hx
 iterate 5 refine aS ?_
 refine s_cond rfl (fun h1 => ?_) fun h1 => ?_
 ·try simp only [decide_eq_true_eq] at h1
  have hkl : k < L.length := by omega
  have hst := parN_drop (i := i) (ns := pln L) (k := k) (by rw [pln_len]; exact hkl)
  rw [pln_nth hkl] at hst
  simp only [LNd.pl] at hst
  iterate 6 refine aS ?_
  refine o_p (p_indexAddr rfl rfl rfl sl_22 (k) (by omega) (by omega) (Rw.some hs.1 (by omega))) rfl ?_
  refine o_q (q_load_oldn _ rfl rfl sz_102 rfl (Rw.rd hs.1 hkl)) rfl ?_
  refine oAl (fun b2 _ => ?_) zr_102
  refine aS ?_
  refine oSt ?_
  iterate 6 refine aS ?_
  refine o_q (q_call rfl fn_148 rfl (fun w1 h1 => c148 w1 (nth L k).ca (nth L k).cc (nth L k).cs i ((hs.cs hkl).later h1) (hcl k hkl))) rfl ?_
  iterate 7 refine aS ?_
  refine s_cond rfl (fun h3 => ?_) fun h3 => ?_
  ·try simp only [decide_eq_true_eq] at h3
   have hz : ixB (hasC (nth L k).cs i) < (nth L k).cs.length := by have hq := h3; unfold ixI at hq; rw [hasC_len] at hq; split at hq <;> first | assumption | omega
   have hz3 : (parN i (pln L) 0) = (k, ixB (hasC (nth L k).cs i)) := (hk2.trans hst).trans (if_pos hz)
   have hz2 : ixI (hasC (nth L k).cs i) = (ixB (hasC (nth L k).cs i) : Int) := by unfold ixI; rw [hasC_len, if_pos hz]
   iterate 7 refine aS ?_
   exact s_retv (rs := [.tmp 4, .tmp 5]) rfl (.tmp rfl (.tmp rfl (.nil))) (fun w' h' => ⟨by rw [hz3, hz2]; rfl, h'.below⟩)
  try simp only [decide_eq_false_iff_not] at h3
  have hz : ¬ ixB (hasC (nth L k).cs i) < (nth L k).cs.length := by have hq := h3; unfold ixI at hq; rw [hasC_len] at hq; intro h9; rw [if_pos h9] at hq; omega
  iterate 4 refine aS ?_
  try refine oWr ?_
  iterate 2 refine aS ?_
  exact s_backI (k + 1) (by omega) ⟨by omega, (hk2.trans hst).trans (if_neg hz)⟩ aSx (fun w h => h.ent aEt)
 try simp only [decide_eq_false_iff_not] at h1
 have hz : (parN i (pln L) 0) = (0, 0) := by rw [hk2, List.drop_of_length_le (by rw [pln_len]; omega)]; rfl
 refine s_exit_to rfl ?_
 iterate 5 refine aS ?_
 exact s_retv (rs := [.tmp 4, .tmp 5]) rfl (.tmp rfl (.tmp rfl (.nil))) (fun w' h' => ⟨by rw [hz]; rfl, h'.below⟩)
theorem c96a (w : World) (a : Option Addr) (i n m cap : Nat) (xs news : List Value) (b0 c0 tot2 : Nat) (hw : HS w (fps [.own (.slice a n cap) 26 2 n xs, .blk b0 26 tot2 news]) [.own (.slice a n cap) 26 2 n xs, .blk b0 26 tot2 news] w) (hm0 : 0 < m) (hl : news.length = m * 2) (hn1 : ∀ u ∈ news, u.oneCell' = true) (hx1 : ∀ u ∈ xs, u.oneCell' = true) (hmax : (n + m) * 32 ≤ 140737488355328) (hi : i = n) : Calls Tryz.prog 96 #[.slice a n cap, .int .i64 i, .slice (some ⟨b0, 0, none⟩) m c0] w fun en w' => ∃ g : Option Addr × Nat, en = .returned (.slice g.1 (n + m) g.2) ∧ True ∧ HS w (fps [.own (.slice a n cap) 26 2 n xs, .blk b0 26 tot2 news]) [.own (.slice g.1 (n + m) g.2) 26 2 (n + m) (xs.take (i * 2) ++ news ++ xs.drop (i * 2)), .blk b0 26 tot2 news] w' := by
 obtain ⟨_, hnc, hcm, hxl⟩ := hw.own_facts .here
 refine enter (args := [_, _, _]) Tryz.func96 Tryz.ntmps96 rfl rfl hw ?_
 iterate 8 refine aS ?_
 refine o_p (p_slice _ _ i n rfl rfl sl_77 ⟨_, _, rfl, rfl⟩ rfl (by omega) (by omega)) rfl ?_
 iterate 13 refine aS ?_
 refine s_cond rfl (fun h1 => ?_) fun h1 => ?_
 ·try simp only [decide_eq_true_eq] at h1
  exfalso; first | omega | (simp at h1; done) | (simp_all; done)
 try simp only [decide_eq_false_iff_not] at h1
 iterate 14 refine aS ?_
 refine s_cond rfl (fun h2 => ?_) fun h2 => ?_
 ·try simp only [decide_eq_true_eq] at h2
  iterate 4 refine aS ?_
  refine o_h (h_appendS news rfl rfl rfl sl_77 Tryz.underlying77 zr_26 rfl aPk (src_blk aPk) hl hn1 (by omega) (by simp only [maxLen]; omega)) rfl (fun b3 _ => ?_)
  iterate 2 refine aS ?_
  exact s_retv (rs := [.tmp 6]) rfl (.tmp rfl (.nil)) (fun w' h' => ⟨(_, _), rfl, trivial, by subst hi; rw [List.take_of_length_le (by omega), List.drop_eq_nil_of_le (by omega), List.append_nil]; exact h'.ent aEt⟩)
 try simp only [decide_eq_false_iff_not] at h2
 exfalso; first | omega | (simp at h2; done) | (simp_all; done)
theorem c96b (w : World) (gg i n m cap : Nat) (xs news : List Value) (b0 c0 tot2 : Nat) (M : List Nat) (hw : HS w M [.blk gg 26 (cap * 2) xs, .blk b0 26 tot2 news] w) (hnc : n ≤ cap) (hcm : cap ≤ maxLen) (hxl : xs.length = n * 2) (hm0 : 0 < m) (hl : news.length = m * 2) (hn1 : ∀ u ∈ news, u.oneCell' = true) (hx1 : ∀ u ∈ xs, u.oneCell' = true) (hmax : (n + m) * 32 ≤ 140737488355328) (hi : i < n) : Calls Tryz.prog 96 #[.slice (some ⟨gg, 0, none⟩) n cap, .int .i64 i, .slice (some ⟨b0, 0, none⟩) m c0] w fun en w' => ∃ g : Option Addr × Nat, en = .returned (.slice g.1 (n + m) g.2) ∧ True ∧ HS w M [.own (.slice g.1 (n + m) g.2) 26 2 (n + m) (xs.take (i * 2) ++ news ++ xs.drop (i * 2)), .blk b0 26 tot2 news] w' := by
 have ht2 := (hw.blk_get (.there .here)).len_le
 have hcl : (cut xs 0 (i * 2)).length = i * 2 := cut_length _ _ _ (by omega)
 refine enter (args := [_, _, _]) Tryz.func96 Tryz.ntmps96 rfl rfl hw ?_
 iterate 8 refine aS ?_
 refine o_p (p_slice _ _ i n rfl rfl sl_77 ⟨_, _, rfl, rfl⟩ rfl (by omega) (by omega)) rfl ?_
 iterate 13 refine aS ?_
 refine s_cond rfl (fun h1 => ?_) fun h1 => ?_
 ·try simp only [decide_eq_true_eq] at h1
  exfalso; first | omega | (simp at h1; done) | (simp_all; done)
 try simp only [decide_eq_false_iff_not] at h1
 iterate 14 refine aS ?_
 refine s_cond rfl (fun h2 => ?_) fun h2 => ?_
 ·try simp only [decide_eq_true_eq] at h2
  exfalso; first | omega | (simp at h2; done) | (simp_all; done)
 try simp only [decide_eq_false_iff_not] at h2
 iterate 7 refine aS ?_
 try refine oWr ?_
 refine aS ?_
 refine o_p (p_cap rfl rfl Tryz.underlying77) rfl ?_
 iterate 2 refine aS ?_
 refine s_cond rfl (fun h3 => ?_) fun h3 => ?_
 ·try simp only [decide_eq_true_eq] at h3
  iterate 4 refine aS ?_
  refine o_p (p_slice _ _ 0 i rfl rfl sl_77 rfl ⟨_, _, rfl, rfl⟩ (by omega) (by omega)) rfl ?_
  refine o_slot (show _ = Value.slice (some ⟨gg, 0, none⟩) (i) (cap) from by rw [subA_zero] <;> (congr 1 <;> omega)) ?_
  iterate 3 refine aS ?_
  try refine oWr ?_
  iterate 2 refine aS ?_
  try refine oWr ?_
  refine o_slot (show _ = Value.int .i64 ((n + m - i : Nat) : Int) from by first | rfl | (congr 1 <;> first | rfl | omega)) ?_
  refine o_h (h_append_zeros (m := n + m - i) (olds := cut xs 0 (i * 2)) rfl rfl rfl sl_77 ki_3 zr_26 rfl (by decide) (by omega) (by omega) (src_cut 0 (i * 2) (fun _ => rfl) aPk) hcl (by omega) (by simp only [maxLen]; omega)) rfl (fun ⟨b4, c5⟩ ⟨h6, k7⟩ => ?_)
  refine o_slot (show _ = Value.slice (some ⟨b4, 0, none⟩) (n + m) c5 from by first | rfl | (congr 1 <;> first | rfl | omega)) ?_
  iterate 3 refine aS ?_
  refine s_weaken (L' := [(0, _), (1, _), (2, _), (6, _), (7, _), (8, _), (9, _)]) aSx (fun _ h => h) ?_
  iterate 3 refine aS ?_
  refine o_p (p_slice _ _ i (n + m) rfl rfl sl_77 ⟨_, _, rfl, rfl⟩ rfl (by omega) (by omega)) rfl ?_
  refine o_slot (show _ = Value.slice (some ⟨b4, i * 2, none⟩) (n + m - i) (c5 - i) from by rw [subA_lt (by omega)] <;> (congr 1 <;> omega)) ?_
  refine aS ?_
  refine o_h (h_copy m news rfl rfl rfl sl_77 aPt (by omega) hl (fun _ => rfl) (by simp only [zrow_length, List.length_append, setMany_length]; omega) (src_blk aPk) hn1) rfl (fun _ _ => ?_)
  iterate 2 refine aS ?_
  refine s_draw [8] mixed ?_
  refine dP 0 ?_
  refine dP 1 ?_
  refine dP 2 ?_
  refine dP 3 ?_
  try refine dWr ?_
  refine d_p 4 rfl (p_slice _ _ (i + m) (n + m) rfl rfl sl_77 ⟨_, _, rfl, (by omega)⟩ rfl (by omega) (by omega)) (by kernel_rfl) rfl rfl ?_
  refine d_slot (show _ = Value.slice (some ⟨b4, (i + m) * 2, none⟩) (n - i) (c5 - (i + m)) from by rw [subA_lt (by omega)] <;> (congr 1 <;> omega)) ?_
  refine dP 5 ?_
  refine dP 6 ?_
  refine d_p 7 rfl (p_slice _ _ i n rfl rfl sl_77 ⟨_, _, rfl, rfl⟩ rfl (by omega) (by omega)) (by kernel_rfl) rfl rfl ?_
  refine d_slot (show _ = Value.slice (some ⟨gg, i * 2, none⟩) (n - i) (cap - i) from by rw [subA_lt (by omega)] <;> (congr 1 <;> omega)) ?_
  refine d_h 8 rfl (h_copy (n - i) (cut xs (i * 2) ((n - i) * 2)) rfl rfl rfl sl_77 aPt (by omega) (cut_length _ _ _ (by omega)) (fun _ => rfl) (by rw [cut_length _ _ _ (by omega)]; simp only [zrow_length, List.length_append, setMany_length]; omega) (src_cut (i * 2) ((n - i) * 2) (fun _ => rfl) aPk) (cut_one hx1 _ _)) (by kernel_rfl) (fun w h => h.ent aEt) rfl (fun _ _ => ?_)
  refine dTu [] ?_
  refine dNi ?_
  iterate 5 refine aS ?_
  exact s_retv (rs := [.tmp 6]) rfl (.tmp rfl (.nil)) (fun w' h' => ⟨(some ⟨b4, 0, none⟩, c5), rfl, trivial, (HS.to_own (n := n + m) (xs := xs.take (i * 2) ++ news ++ xs.drop (i * 2)) (ds := []) aPk h' (by have hq := ins_grow (xs := xs) (news := news) (z := zrow [.string (bs []), .string (bs [])] ((n + m - i) * 2)) (p := i * 2) (q := m * 2) (N := n * 2) hxl (by omega) hl (by rw [zrow_length]; omega); rw [List.append_nil]; rw [show (i + m) * 2 = i * 2 + m * 2 from by omega, show (n - i) * 2 = n * 2 - i * 2 from by omega]; exact hq) (by simp only [List.length_append, List.length_take, List.length_drop]; omega) (by omega) (by omega)).ent aEt⟩)
 try simp only [decide_eq_false_iff_not] at h3
 iterate 7 refine aS ?_
 try refine oWr ?_
 refine o_p (p_slice _ _ 0 (n + m) rfl rfl sl_77 rfl ⟨_, _, rfl, (by omega)⟩ (by omega) (by omega)) rfl ?_
 refine o_slot (show _ = Value.slice (some ⟨gg, 0, none⟩) (n + m) cap from by rw [subA_zero] <;> (congr 1 <;> omega)) ?_
 refine o_ex (fun w h => HS.blk_full (b := gg) aPk h) fun ds => ?_
 refine o_fact (fun w h => h.1) fun hds => ?_
 refine o_class (fun w h => h.2) ?_
 iterate 10 refine aS ?_
 try refine oWr ?_
 refine o_p (p_slice _ _ (i + m) (n + m) rfl rfl sl_77 ⟨_, _, rfl, (by omega)⟩ rfl (by omega) (by omega)) rfl ?_
 refine o_slot (show _ = Value.slice (some ⟨gg, (i + m) * 2, none⟩) (n - i) (cap - (i + m)) from by rw [subA_lt (by omega)] <;> (congr 1 <;> omega)) ?_
 refine o_q (q_overlaps rfl ov_132 rfl rfl sl_77 (hp := aPk) (hp' := aPk) (by decide) (by omega) (by omega)) rfl ?_
 iterate 2 refine aS ?_
 refine s_cond rfl (fun h8 => ?_) fun h8 => ?_
 ·try simp only [Bool.not_false] at h8
  refine aS ?_
  refine s_weaken (L' := [(0, _), (1, _), (2, _), (6, _), (7, _), (8, _)]) aSx (fun _ h => h) ?_
  refine s_draw [8] mixed ?_
  refine dP 0 ?_
  refine dP 1 ?_
  refine dP 2 ?_
  refine dP 3 ?_
  try refine dWr ?_
  refine d_p 4 rfl (p_slice _ _ (i + m) (n + m) rfl rfl sl_77 ⟨_, _, rfl, (by omega)⟩ rfl (by omega) (by omega)) (by kernel_rfl) rfl rfl ?_
  refine d_slot (show _ = Value.slice (some ⟨gg, (i + m) * 2, none⟩) (n - i) (cap - (i + m)) from by rw [subA_lt (by omega)] <;> (congr 1 <;> omega)) ?_
  refine dP 5 ?_
  refine dP 6 ?_
  refine d_p 7 rfl (p_slice _ _ i (n + m) rfl rfl sl_77 ⟨_, _, rfl, rfl⟩ rfl (by omega) (by omega)) (by kernel_rfl) rfl rfl ?_
  refine d_slot (show _ = Value.slice (some ⟨gg, i * 2, none⟩) (n + m - i) (cap - i) from by rw [subA_lt (by omega)] <;> (congr 1 <;> omega)) ?_
  refine d_h 8 rfl (h_copy (n - i) (cut (xs ++ ds) (i * 2) ((n - i) * 2)) rfl rfl rfl sl_77 aPt (by omega) (cut_length _ _ _ (by simp only [zrow_length, List.length_append, setMany_length]; omega)) (fun _ => rfl) (by rw [cut_length _ _ _ (by simp only [zrow_length, List.length_append, setMany_length]; omega)]; simp only [zrow_length, List.length_append, setMany_length]; omega) (src_cut (i * 2) ((n - i) * 2) (fun _ => rfl) aPk) (ins_one hx1 (by omega))) (by kernel_rfl) (fun w h => h.ent aEt) rfl (fun _ _ => ?_)
  refine dTu [] ?_
  refine dNi ?_
  iterate 4 refine aS ?_
  refine o_p (p_slice _ _ i (n + m) rfl rfl sl_77 ⟨_, _, rfl, rfl⟩ rfl (by omega) (by omega)) rfl ?_
  refine o_slot (show _ = Value.slice (some ⟨gg, i * 2, none⟩) (n + m - i) (cap - i) from by rw [subA_lt (by omega)] <;> (congr 1 <;> omega)) ?_
  refine aS ?_
  refine o_h (h_copy m news rfl rfl rfl sl_77 aPt (by omega) hl (fun _ => rfl) (by simp only [zrow_length, List.length_append, setMany_length]; omega) (src_blk aPk) hn1) rfl (fun _ _ => ?_)
  iterate 6 refine aS ?_
  exact s_retv (rs := [.tmp 6]) rfl (.tmp rfl (.nil)) (fun w' h' => ⟨(some ⟨gg, 0, none⟩, cap), rfl, trivial, (HS.to_own (n := n + m) (xs := xs.take (i * 2) ++ news ++ xs.drop (i * 2)) (ds := ds.drop (m * 2)) aPk h' (by have hq := ins_in (xs := xs) (ds := ds) (news := news) (p := i * 2) (q := m * 2) (N := n * 2) hxl (by omega) hl (by omega); rw [show (i + m) * 2 = i * 2 + m * 2 from by omega, show (n - i) * 2 = n * 2 - i * 2 from by omega]; exact hq) (by simp only [List.length_append, List.length_take, List.length_drop]; omega) (by omega) (by omega)).ent aEt⟩)
 try simp only [Bool.not_false] at h8
 exfalso; first | omega | (simp at h8; done) | (simp_all; done)
theorem c96 (w : World) (a : Option Addr) (i n m cap : Nat) (xs news : List Value) (b0 c0 tot2 : Nat) (hw : HS w (fps [.own (.slice a n cap) 26 2 n xs, .blk b0 26 tot2 news]) [.own (.slice a n cap) 26 2 n xs, .blk b0 26 tot2 news] w) (hm0 : 0 < m) (hl : news.length = m * 2) (hn1 : ∀ u ∈ news, u.oneCell' = true) (hx1 : ∀ u ∈ xs, u.oneCell' = true) (hmax : (n + m) * 32 ≤ 140737488355328) (hi : i ≤ n) : Calls Tryz.prog 96 #[.slice a n cap, .int .i64 i, .slice (some ⟨b0, 0, none⟩) m c0] w fun en w' => ∃ g : Option Addr × Nat, en = .returned (.slice g.1 (n + m) g.2) ∧ True ∧ HS w (fps [.own (.slice a n cap) 26 2 n xs, .blk b0 26 tot2 news]) [.own (.slice g.1 (n + m) g.2) 26 2 (n + m) (xs.take (i * 2) ++ news ++ xs.drop (i * 2)), .blk b0 26 tot2 news] w' := by
  rcases Nat.lt_or_ge i n with h | h
  · obtain ⟨gg, rfl, _, hnc, hcm, hxl, hb⟩ := hw.own_blk (by omega) .here
    exact c96b w gg i n m cap xs news b0 c0 tot2 _ hb hnc hcm hxl hm0 hl hn1 hx1 hmax h
  · exact c96a w a i n m cap xs news b0 c0 tot2 hw hm0 hl hn1 hx1 hmax (by omega)
theorem c151a (w : World) (a : Option Addr) (i n m cap : Nat) (xs news : List Value) (b0 c0 tot2 : Nat) (hw : HS w (fps [.own (.slice a n cap) 3 1 n xs, .blk b0 3 tot2 news]) [.own (.slice a n cap) 3 1 n xs, .blk b0 3 tot2 news] w) (hm0 : 0 < m) (hl : news.length = m * 1) (hn1 : ∀ u ∈ news, u.oneCell' = true) (hx1 : ∀ u ∈ xs, u.oneCell' = true) (hmax : (n + m) * 8 ≤ 140737488355328) (hi : i = n) : Calls Tryz.prog 151 #[.slice a n cap, .int .i64 i, .slice (some ⟨b0, 0, none⟩) m c0] w fun en w' => ∃ g : Option Addr × Nat, en = .returned (.slice g.1 (n + m) g.2) ∧ True ∧ HS w (fps [.own (.slice a n cap) 3 1 n xs, .blk b0 3 tot2 news]) [.own (.slice g.1 (n + m) g.2) 3 1 (n + m) (xs.take (i * 1) ++ news ++ xs.drop (i * 1)), .blk b0 3 tot2 news] w' := by
 obtain ⟨_, hnc, hcm, hxl⟩ := hw.own_facts .here
 refine enter (args := [_, _, _]) Tryz.func151 Tryz.ntmps151 rfl rfl hw ?_
 iterate 8 refine aS ?_
 refine o_p (p_slice _ _ i n rfl rfl sl_30 ⟨_, _, rfl, rfl⟩ rfl (by omega) (by omega)) rfl ?_
 iterate 13 refine aS ?_
 refine s_cond rfl (fun h1 => ?_) fun h1 => ?_
 ·try simp only [decide_eq_true_eq] at h1
  exfalso; first | omega | (simp at h1; done) | (simp_all; done)
 try simp only [decide_eq_false_iff_not] at h1
 iterate 14 refine aS ?_
 refine s_cond rfl (fun h2 => ?_) fun h2 => ?_
 ·try simp only [decide_eq_true_eq] at h2
  iterate 4 refine aS ?_
  refine o_h (h_appendS news rfl rfl rfl sl_30 Tryz.underlying30 zr_3 rfl aPk (src_blk aPk) hl hn1 (by omega) (by simp only [maxLen]; omega)) rfl (fun b3 _ => ?_)
  iterate 2 refine aS ?_
  exact s_retv (rs := [.tmp 6]) rfl (.tmp rfl (.nil)) (fun w' h' => ⟨(_, _), rfl, trivial, by subst hi; rw [List.take_of_length_le (by omega), List.drop_eq_nil_of_le (by omega), List.append_nil]; exact h'.ent aEt⟩)
 try simp only [decide_eq_false_iff_not] at h2
 exfalso; first | omega | (simp at h2; done) | (simp_all; done)
theorem c151b (w : World) (gg i n m cap : Nat) (xs news : List Value) (b0 c0 tot2 : Nat) (M : List Nat) (hw : HS w M [.blk gg 3 (cap * 1) xs, .blk b0 3 tot2 news] w) (hnc : n ≤ cap) (hcm : cap ≤ maxLen) (hxl : xs.length = n * 1) (hm0 : 0 < m) (hl : news.length = m * 1) (hn1 : ∀ u ∈ news, u.oneCell' = true) (hx1 : ∀ u ∈ xs, u.oneCell' = true) (hmax : (n + m) * 8 ≤ 140737488355328) (hi : i < n) : Calls Tryz.prog 151 #[.slice (some ⟨gg, 0, none⟩) n cap, .int .i64 i, .slice (some ⟨b0, 0, none⟩) m c0] w fun en w' => ∃ g : Option Addr × Nat, en = .returned (.slice g.1 (n + m) g.2) ∧ True ∧ HS w M [.own (.slice g.1 (n + m) g.2) 3 1 (n + m) (xs.take (i * 1) ++ news ++ xs.drop (i * 1)), .blk b0 3 tot2 news] w' := by
 have ht2 := (hw.blk_get (.there .here)).len_le
 have hcl : (cut xs 0 (i * 1)).length = i * 1 := cut_length _ _ _ (by omega)
 refine enter (args := [_, _, _]) Tryz.func151 Tryz.ntmps151 rfl rfl hw ?_
 iterate 8 refine aS ?_
 refine o_p (p_slice _ _ i n rfl rfl sl_30 ⟨_, _, rfl, rfl⟩ rfl (by omega) (by omega)) rfl ?_
 iterate 13 refine aS ?_
 refine s_cond rfl (fun h1 => ?_) fun h1 => ?_
 ·try simp only [decide_eq_true_eq] at h1
  exfalso; first | omega | (simp at h1; done) | (simp_all; done)
 try simp only [decide_eq_false_iff_not] at h1
 iterate 14 refine aS ?_
 refine s_cond rfl (fun h2 => ?_) fun h2 => ?_
 ·try simp only [decide_eq_true_eq] at h2
  exfalso; first | omega | (simp at h2; done) | (simp_all; done)
 try simp only [decide_eq_false_iff_not] at h2
 iterate 7 refine aS ?_
 try refine oWr ?_
 refine aS ?_
 refine o_p (p_cap rfl rfl Tryz.underlying30) rfl ?_
 iterate 2 refine aS ?_
 refine s_cond rfl (fun h3 => ?_) fun h3 => ?_
 ·try simp only [decide_eq_true_eq] at h3
  iterate 4 refine aS ?_
  refine o_p (p_slice _ _ 0 i rfl rfl sl_30 rfl ⟨_, _, rfl, rfl⟩ (by omega) (by omega)) rfl ?_
  refine o_slot (show _ = Value.slice (some ⟨gg, 0, none⟩) (i) (cap) from by rw [subA_zero] <;> (congr 1 <;> omega)) ?_
  iterate 3 refine aS ?_
  try refine oWr ?_
  iterate 2 refine aS ?_
  try refine oWr ?_
  refine o_slot (show _ = Value.int .i64 ((n + m - i : Nat) : Int) from by first | rfl | (congr 1 <;> first | rfl | omega)) ?_
  refine o_h (h_append_zeros (m := n + m - i) (olds := cut xs 0 (i * 1)) rfl rfl rfl sl_30 ki_3 zr_3 rfl (by decide) (by omega) (by omega) (src_cut 0 (i * 1) (fun _ => rfl) aPk) hcl (by omega) (by simp only [maxLen]; omega)) rfl (fun ⟨b4, c5⟩ ⟨h6, k7⟩ => ?_)
  refine o_slot (show _ = Value.slice (some ⟨b4, 0, none⟩) (n + m) c5 from by first | rfl | (congr 1 <;> first | rfl | omega)) ?_
  iterate 3 refine aS ?_
  refine s_weaken (L' := [(0, _), (1, _), (2, _), (6, _), (7, _), (8, _), (9, _)]) aSx (fun _ h => h) ?_
  iterate 3 refine aS ?_
  refine o_p (p_slice _ _ i (n + m) rfl rfl sl_30 ⟨_, _, rfl, rfl⟩ rfl (by omega) (by omega)) rfl ?_
  refine o_slot (show _ = Value.slice (some ⟨b4, i * 1, none⟩) (n + m - i) (c5 - i) from by rw [subA_lt (by omega)] <;> (congr 1 <;> omega)) ?_
  refine aS ?_
  refine o_h (h_copy m news rfl rfl rfl sl_30 aPt (by omega) hl (fun _ => rfl) (by simp only [zrow_length, List.length_append, setMany_length]; omega) (src_blk aPk) hn1) rfl (fun _ _ => ?_)
  iterate 2 refine aS ?_
  refine s_draw [8] mixed ?_
  refine dP 0 ?_
  refine dP 1 ?_
  refine dP 2 ?_
  refine dP 3 ?_
  try refine dWr ?_
  refine d_p 4 rfl (p_slice _ _ (i + m) (n + m) rfl rfl sl_30 ⟨_, _, rfl, (by omega)⟩ rfl (by omega) (by omega)) (by kernel_rfl) rfl rfl ?_
  refine d_slot (show _ = Value.slice (some ⟨b4, (i + m) * 1, none⟩) (n - i) (c5 - (i + m)) from by rw [subA_lt (by omega)] <;> (congr 1 <;> omega)) ?_
  refine dP 5 ?_
  refine dP 6 ?_
  refine d_p 7 rfl (p_slice _ _ i n rfl rfl sl_30 ⟨_, _, rfl, rfl⟩ rfl (by omega) (by omega)) (by kernel_rfl) rfl rfl ?_
  refine d_slot (show _ = Value.slice (some ⟨gg, i * 1, none⟩) (n - i) (cap - i) from by rw [subA_lt (by omega)] <;> (congr 1 <;> omega)) ?_
  refine d_h 8 rfl (h_copy (n - i) (cut xs (i * 1) ((n - i) * 1)) rfl rfl rfl sl_30 aPt (by omega) (cut_length _ _ _ (by omega)) (fun _ => rfl) (by rw [cut_length _ _ _ (by omega)]; simp only [zrow_length, List.length_append, setMany_length]; omega) (src_cut (i * 1) ((n - i) * 1) (fun _ => rfl) aPk) (cut_one hx1 _ _)) (by kernel_rfl) (fun w h => h.ent aEt) rfl (fun _ _ => ?_)
  refine dTu [] ?_
  refine dNi ?_
  iterate 5 refine aS ?_
  exact s_retv (rs := [.tmp 6]) rfl (.tmp rfl (.nil)) (fun w' h' => ⟨(some ⟨b4, 0, none⟩, c5), rfl, trivial, (HS.to_own (n := n + m) (xs := xs.take (i * 1) ++ news ++ xs.drop (i * 1)) (ds := []) aPk h' (by have hq := ins_grow (xs := xs) (news := news) (z := zrow [.int .i64 0] ((n + m - i) * 1)) (p := i * 1) (q := m * 1) (N := n * 1) hxl (by omega) hl (by rw [zrow_length]; omega); rw [List.append_nil]; rw [show (i + m) * 1 = i * 1 + m * 1 from by omega, show (n - i) * 1 = n * 1 - i * 1 from by omega]; exact hq) (by simp only [List.length_append, List.length_take, List.length_drop]; omega) (by omega) (by omega)).ent aEt⟩)
 try simp only [decide_eq_false_iff_not] at h3
 iterate 7 refine aS ?_
 try refine oWr ?_
 refine o_p (p_slice _ _ 0 (n + m) rfl rfl sl_30 rfl ⟨_, _, rfl, (by omega)⟩ (by omega) (by omega)) rfl ?_
 refine o_slot (show _ = Value.slice (some ⟨gg, 0, none⟩) (n + m) cap from by rw [subA_zero] <;> (congr 1 <;> omega)) ?_
 refine o_ex (fun w h => HS.blk_full (b := gg) aPk h) fun ds => ?_
 refine o_fact (fun w h => h.1) fun hds => ?_
 refine o_class (fun w h => h.2) ?_
 iterate 10 refine aS ?_
 try refine oWr ?_
 refine o_p (p_slice _ _ (i + m) (n + m) rfl rfl sl_30 ⟨_, _, rfl, (by omega)⟩ rfl (by omega) (by omega)) rfl ?_
 refine o_slot (show _ = Value.slice (some ⟨gg, (i + m) * 1, none⟩) (n - i) (cap - (i + m)) from by rw [subA_lt (by omega)] <;> (congr 1 <;> omega)) ?_
 refine o_q (q_overlaps rfl ov_161 rfl rfl sl_30 (hp := aPk) (hp' := aPk) (by decide) (by omega) (by omega)) rfl ?_
 iterate 2 refine aS ?_
 refine s_cond rfl (fun h8 => ?_) fun h8 => ?_
 ·try simp only [Bool.not_false] at h8
  refine aS ?_
  refine s_weaken (L' := [(0, _), (1, _), (2, _), (6, _), (7, _), (8, _)]) aSx (fun _ h => h) ?_
  refine s_draw [8] mixed ?_
  refine dP 0 ?_
  refine dP 1 ?_
  refine dP 2 ?_
  refine dP 3 ?_
  try refine dWr ?_
  refine d_p 4 rfl (p_slice _ _ (i + m) (n + m) rfl rfl sl_30 ⟨_, _, rfl, (by omega)⟩ rfl (by omega) (by omega)) (by kernel_rfl) rfl rfl ?_
  refine d_slot (show _ = Value.slice (some ⟨gg, (i + m) * 1, none⟩) (n - i) (cap - (i + m)) from by rw [subA_lt (by omega)] <;> (congr 1 <;> omega)) ?_
  refine dP 5 ?_
  refine dP 6 ?_
  refine d_p 7 rfl (p_slice _ _ i (n + m) rfl rfl sl_30 ⟨_, _, rfl, rfl⟩ rfl (by omega) (by omega)) (by kernel_rfl) rfl rfl ?_
  refine d_slot (show _ = Value.slice (some ⟨gg, i * 1, none⟩) (n + m - i) (cap - i) from by rw [subA_lt (by omega)] <;> (congr 1 <;> omega)) ?_
  refine d_h 8 rfl (h_copy (n - i) (cut (xs ++ ds) (i * 1) ((n - i) * 1)) rfl rfl rfl sl_30 aPt (by omega) (cut_length _ _ _ (by simp only [zrow_length, List.length_append, setMany_length]; omega)) (fun _ => rfl) (by rw [cut_length _ _ _ (by simp only [zrow_length, List.length_append, setMany_length]; omega)]; simp only [zrow_length, List.length_append, setMany_length]; omega) (src_cut (i * 1) ((n - i) * 1) (fun _ => rfl) aPk) (ins_one hx1 (by omega))) (by kernel_rfl) (fun w h => h.ent aEt) rfl (fun _ _ => ?_)
  refine dTu [] ?_
  refine dNi ?_
  iterate 4 refine aS ?_
  refine o_p (p_slice _ _ i (n + m) rfl rfl sl_30 ⟨_, _, rfl, rfl⟩ rfl (by omega) (by omega)) rfl ?_
  refine o_slot (show _ = Value.slice (some ⟨gg, i * 1, none⟩) (n + m - i) (cap - i) from by rw [subA_lt (by omega)] <;> (congr 1 <;> omega)) ?_
  refine aS ?_
  refine o_h (h_copy m news rfl rfl rfl sl_30 aPt (by omega) hl (fun _ => rfl) (by simp only [zrow_length, List.length_append, setMany_length]; omega) (src_blk aPk) hn1) rfl (fun _ _ => ?_)
  iterate 6 refine aS ?_
  exact s_retv (rs := [.tmp 6]) rfl (.tmp rfl (.nil)) (fun w' h' => ⟨(some ⟨gg, 0, none⟩, cap), rfl, trivial, (HS.to_own (n := n + m) (xs := xs.take (i * 1) ++ news ++ xs.drop (i * 1)) (ds := ds.drop (m * 1)) aPk h' (by have hq := ins_in (xs := xs) (ds := ds) (news := news) (p := i * 1) (q := m * 1) (N := n * 1) hxl (by omega) hl (by omega); rw [show (i + m) * 1 = i * 1 + m * 1 from by omega, show (n - i) * 1 = n * 1 - i * 1 from by omega]; exact hq) (by simp only [List.length_append, List.length_take, List.length_drop]; omega) (by omega) (by omega)).ent aEt⟩)
 try simp only [Bool.not_false] at h8
 exfalso; first | omega | (simp at h8; done) | (simp_all; done)
theorem c151 (w : World) (a : Option Addr) (i n m cap : Nat) (xs news : List Value) (b0 c0 tot2 : Nat) (hw : HS w (fps [.own (.slice a n cap) 3 1 n xs, .blk b0 3 tot2 news]) [.own (.slice a n cap) 3 1 n xs, .blk b0 3 tot2 news] w) (hm0 : 0 < m) (hl : news.length = m * 1) (hn1 : ∀ u ∈ news, u.oneCell' = true) (hx1 : ∀ u ∈ xs, u.oneCell' = true) (hmax : (n + m) * 8 ≤ 140737488355328) (hi : i ≤ n) : Calls Tryz.prog 151 #[.slice a n cap, .int .i64 i, .slice (some ⟨b0, 0, none⟩) m c0] w fun en w' => ∃ g : Option Addr × Nat, en = .returned (.slice g.1 (n + m) g.2) ∧ True ∧ HS w (fps [.own (.slice a n cap) 3 1 n xs, .blk b0 3 tot2 news]) [.own (.slice g.1 (n + m) g.2) 3 1 (n + m) (xs.take (i * 1) ++ news ++ xs.drop (i * 1)), .blk b0 3 tot2 news] w' := by
  rcases Nat.lt_or_ge i n with h | h
  · obtain ⟨gg, rfl, _, hnc, hcm, hxl, hb⟩ := hw.own_blk (by omega) .here
    exact c151b w gg i n m cap xs news b0 c0 tot2 _ hb hnc hcm hxl hm0 hl hn1 hx1 hmax h
  · exact c151a w a i n m cap xs news b0 c0 tot2 hw hm0 hl hn1 hx1 hmax (by omega)
end Go.Proofs
namespace Gx
set_option linter.unusedSimpArgs false
set_option linter.unusedVariables false
set_option linter.unusedSectionVars false
open Go Go.RowKit
def lowN (ns : List Nd) : Nat × List Nd := ((freN ns).1, csN (esN (csN (esN (freN ns).2 (freN ns).1 (nth ns 0).es) (freN ns).1 (nth ns 0).cs) 0 []) 0 [((freN ns).1 : Int)])
def grw1 (mo : Int) (ns : List Nd) (i : Nat) : List Nd := if 0 < i ∧ mo < ((nth ns i).es.length : Int) then splN mo ns i else ns
def grwW (mo : Int) (ns : List Nd) (P : List Nat) : List Nd := P.foldl (grw1 mo) ns
def grwR (mo rm : Int) (ns : List Nd) : List Nd := if rm < ((nth ns 0).es.length : Int) then if mo < ((nth (lowN ns).2 (lowN ns).1).es.length : Int) then splN mo (lowN ns).2 (lowN ns).1 else (lowN ns).2 else ns
def grwN (mo rm : Int) (ns : List Nd) (P : List Nat) : List Nd := grwR mo rm (grwW mo ns P)
def insN (co mo rm : Int) (ns : List Nd) (x : TEnt) : List Nd :=
  let p := pathN co ns x.key
  let leaf := nth p.1 (p.1.length - 1)
  grwN mo rm (esN ns leaf (insAt (nth ns leaf).es p.2.1 x)) p.1.reverse
abbrev LNd.noE (n : LNd) : LNd := { n with ea := none, ec := 0, es := [] }
abbrev LNd.noC (n : LNd) : LNd := { n with ca := none, cc := 0, cs := [] }
abbrev ownE (et : Nat) (n : LNd) : HA := .own (.slice n.ea n.es.length n.ec) et 2 n.es.length (n.es.flatMap TEnt.vals)
abbrev ownC (n : LNd) : HA := .own (.slice n.ca n.cs.length n.cc) 3 1 n.cs.length (n.cs.flatMap inV)
theorem nth_set_self {L : List LNd} {i : Nat} (hi : i < L.length) (x : LNd) : nth (L.set i x) i = x := nth_eq (List.getElem?_set_self hi)
theorem nth_set_other {L : List LNd} {i k : Nat} (hk : k < L.length) (hne : i ≠ k) (x : LNd) : nth (L.set i x) k = nth L k := nth_eq (by rw [List.getElem?_set_ne hne]; exact nth_get hk)
section
variable {w0 w : World} {M : List Nat} {As As' As'' : List HA} {et : Nat} {L : List LNd} {i : Nat}
theorem HS.es_take (hi : i < L.length) (h : HS w0 M As w) (hp : Pick As (.star (L.map (subN et))) As') : HS w0 M (ownE et (nth L i) :: .star ((L.set i (nth L i).noE).map (subN et)) :: As') w := by
  have h1 := (h.node_out hi hp).own_nil et 2
  have h2 := h1.perm (As' := _ :: _ :: _ :: ownE et (nth L i) :: As') (List.Perm.cons _ (List.perm_middle (l₁ := [_, _])).symm)
  exact (HS.node_in hi (nth L i).noE h2).perm (List.Perm.swap ..)
theorem HS.cs_take (hi : i < L.length) (h : HS w0 M As w) (hp : Pick As (.star (L.map (subN et))) As') : HS w0 M (ownC (nth L i) :: .star ((L.set i (nth L i).noC).map (subN et)) :: As') w := by
  have h1 := (h.node_out hi hp).own_nil 3 1
  have h2 := h1.perm (As' := _ :: _ :: _ :: ownC (nth L i) :: As') ((List.perm_middle (l₁ := [_]) (a := ownE et (nth L i))).trans (List.Perm.cons _ (List.Perm.cons _ (List.Perm.swap ..))))
  exact (HS.node_in hi (nth L i).noC h2).perm (List.Perm.swap ..)
theorem HS.es_put (hi : i < L.length) {ea : Option Addr} {ec : Nat} {es : List TEnt} (h : HS w0 M As w) (hp : Pick As (.own (.slice ea es.length ec) et 2 es.length (es.flatMap TEnt.vals)) As') (hp2 : Pick As' (.star (L.map (subN et))) As'') : HS w0 M (.star ((L.set i { nth L i with ea := ea, ec := ec, es := es }).map (subN et)) :: As'') w := by
  have h1 := (h.pick hp).perm (List.Perm.cons _ hp2.perm)
  have h2 := (HS.node_out hi h1 (.there .here)).tail
  have h3 := h2.perm (As' := (.own (.slice ea es.length ec) et 2 es.length (es.flatMap TEnt.vals)) :: _ :: _ :: As'') (List.perm_middle (l₁ := [_, _]))
  exact HS.node_in hi { nth L i with ea := ea, ec := ec, es := es } h3
theorem HS.cs_put (hi : i < L.length) {ca : Option Addr} {cc : Nat} {cs : List Int} (h : HS w0 M As w) (hp : Pick As (.own (.slice ca cs.length cc) 3 1 cs.length (cs.flatMap inV)) As') (hp2 : Pick As' (.star (L.map (subN et))) As'') : HS w0 M (.star ((L.set i { nth L i with ca := ca, cc := cc, cs := cs }).map (subN et)) :: As'') w := by
  have h1 := (h.pick hp).perm (List.Perm.cons _ hp2.perm)
  have h2 := (HS.node_out hi h1 (.there .here))
  have h3 := (h2.perm (List.Perm.swap ..)).tail
  have h4 := h3.perm (As' := ownE et (nth L i) :: (.own (.slice ca cs.length cc) 3 1 cs.length (cs.flatMap inV)) :: _ :: As'') (List.Perm.cons _ (List.perm_middle (l₁ := [_])))
  exact HS.node_in hi { nth L i with ca := ca, cc := cc, cs := cs } h4
theorem HS.es_back (hi : i < L.length) {ea : Option Addr} {ec : Nat} {es : List TEnt} (h : HS w0 M As w) (hp : Pick As (.own (.slice ea es.length ec) et 2 es.length (es.flatMap TEnt.vals)) As') (hp2 : Pick As' (.star ((L.set i (nth L i).noE).map (subN et))) As'') : HS w0 M (.star ((L.set i { nth L i with ea := ea, ec := ec, es := es }).map (subN et)) :: As'') w := by
  have h1 := HS.es_put (L := L.set i (nth L i).noE) (i := i) (by rw [List.length_set]; exact hi) h hp hp2
  rw [nth_set_self hi, List.set_set] at h1
  exact h1
theorem HS.cs_back (hi : i < L.length) {ca : Option Addr} {cc : Nat} {cs : List Int} (h : HS w0 M As w) (hp : Pick As (.own (.slice ca cs.length cc) 3 1 cs.length (cs.flatMap inV)) As') (hp2 : Pick As' (.star ((L.set i (nth L i).noC).map (subN et))) As'') : HS w0 M (.star ((L.set i { nth L i with ca := ca, cc := cc, cs := cs }).map (subN et)) :: As'') w := by
  have h1 := HS.cs_put (L := L.set i (nth L i).noC) (i := i) (by rw [List.length_set]; exact hi) h hp hp2
  rw [nth_set_self hi, List.set_set] at h1
  exact h1
theorem HS.es_cut (hi : i < L.length) {m c : Nat} (hm : m ≤ c) (hc : c ≤ (nth L i).ec) (hml : m ≤ (nth L i).es.length) (h0 : m = 0 → (nth L i).ea = none → c = 0) (h : HS w0 M As w) (hp : Pick As (.star (L.map (subN et))) As') : HS w0 M (.star ((L.set i { nth L i with ec := c, es := (nth L i).es.take m }).map (subN et)) :: As') w := by
  have h1 := HS.es_take hi h hp
  have e1 : ((nth L i).es.take m).length = m := by rw [List.length_take]; omega
  have h2 := HS.own_room (a := (nth L i).ea) (n' := c) (xs := ((nth L i).es.take m).flatMap TEnt.vals) (ds := ((nth L i).es.drop m).flatMap TEnt.vals) .here (by rw [← List.flatMap_append, List.take_append_drop]; exact h1) (by rw [flat_length ev2, e1]) hm hc h0
  refine HS.es_back hi (es := (nth L i).es.take m) ?_ .here .here
  rw [e1]
  exact h2
theorem HS.cs_cut (hi : i < L.length) {m c : Nat} (hm : m ≤ c) (hc : c ≤ (nth L i).cc) (hml : m ≤ (nth L i).cs.length) (h0 : m = 0 → (nth L i).ca = none → c = 0) (h : HS w0 M As w) (hp : Pick As (.star (L.map (subN et))) As') : HS w0 M (.star ((L.set i { nth L i with cc := c, cs := (nth L i).cs.take m }).map (subN et)) :: As') w := by
  have h1 := HS.cs_take hi h hp
  have e1 : ((nth L i).cs.take m).length = m := by rw [List.length_take]; omega
  have h2 := HS.own_room (a := (nth L i).ca) (n' := c) (xs := ((nth L i).cs.take m).flatMap inV) (ds := ((nth L i).cs.drop m).flatMap inV) .here (by rw [← List.flatMap_append, List.take_append_drop]; exact h1) (by rw [flat_length iv1, e1]) hm hc h0
  refine HS.cs_back hi (cs := (nth L i).cs.take m) ?_ .here .here
  rw [e1]
  exact h2
theorem HS.es_room (hi : i < L.length) (h : HS w0 M As w) (hp : Pick As (.star (L.map (subN et))) As') : (nth L i).es.length ≤ (nth L i).ec ∧ (nth L i).ec ≤ maxLen := by
  have h1 := HS.own_facts .here (HS.es_take hi h hp)
  exact ⟨h1.2.1, h1.2.2.1⟩
theorem HS.cs_room (hi : i < L.length) (h : HS w0 M As w) (hp : Pick As (.star (L.map (subN et))) As') : (nth L i).cs.length ≤ (nth L i).cc ∧ (nth L i).cc ≤ maxLen := by
  have h1 := HS.own_facts .here (HS.cs_take hi h hp)
  exact ⟨h1.2.1, h1.2.2.1⟩
theorem HS.es_form (hi : i < L.length) (h : HS w0 M As w) (hp : Pick As (.star (L.map (subN et))) As') : ∀ x, (nth L i).ea = some x → x.off = 0 ∧ x = ⟨x.block, 0, none⟩ := own_form (HS.es_take hi h hp).head
theorem HS.cs_form (hi : i < L.length) (h : HS w0 M As w) (hp : Pick As (.star (L.map (subN et))) As') : ∀ x, (nth L i).ca = some x → x.off = 0 ∧ x = ⟨x.block, 0, none⟩ := own_form (HS.cs_take hi h hp).head
theorem HS.es_some (hi : i < L.length) (hn : 0 < (nth L i).es.length) (h : HS w0 M As w) (hp : Pick As (.star (L.map (subN et))) As') : ∃ g, (nth L i).ea = some ⟨g, 0, none⟩ := by
  obtain ⟨g, e, _⟩ := HS.own_blk hn .here (HS.es_take hi h hp)
  exact ⟨g, e⟩
theorem HS.cs_some (hi : i < L.length) (hn : 0 < (nth L i).cs.length) (h : HS w0 M As w) (hp : Pick As (.star (L.map (subN et))) As') : ∃ g, (nth L i).ca = some ⟨g, 0, none⟩ := by
  obtain ⟨g, e, _⟩ := HS.own_blk hn .here (HS.cs_take hi h hp)
  exact ⟨g, e⟩
theorem HS.es_row (hi : i < L.length) (h : HS w0 M As w) (hp : Pick As (.star (L.map (subN et))) As') : Rw TEnt.vals 2 w [] (nth L i).ea (nth L i).es := (HS.es_take hi h hp).rw_own ev2 .here rfl
theorem HS.cs_row (hi : i < L.length) (h : HS w0 M As w) (hp : Pick As (.star (L.map (subN et))) As') : Rw inV 1 w [] (nth L i).ca (nth L i).cs := (HS.cs_take hi h hp).rw_own iv1 .here rfl
theorem HS.es_rd {k g : Nat} (hi : i < L.length) (hk : k < (nth L i).es.length) (hg : (nth L i).ea = some ⟨g, 0, none⟩) (h : HS w0 M As w) (hp : Pick As (.star (L.map (subN et))) As') : ∀ j v, (TEnt.vals (nth (nth L i).es k))[j]? = some v → Rd w [] g (0 + k * 2 + j) v := by
  have h1 := Rw.rd (HS.es_row hi h hp) hk
  rw [hg] at h1
  exact h1
theorem HS.cs_rd {k g : Nat} (hi : i < L.length) (hk : k < (nth L i).cs.length) (hg : (nth L i).ca = some ⟨g, 0, none⟩) (h : HS w0 M As w) (hp : Pick As (.star (L.map (subN et))) As') : Rd w [] g (0 + k * 1) (.int .i64 ((nth L i).cs.getD k 0)) := by
  have h1 := Rw.rd (HS.cs_row hi h hp) hk 0 (.int .i64 ((nth L i).cs.getD k 0)) rfl
  rw [hg] at h1
  exact h1
theorem HS.nd_cell {gn cap nt' : Nat} (hi : i < L.length) (h : HS w0 M As w) (hp : Pick As (.blk gn nt' (cap * 3) (L.flatMap LNd.vals)) As') (j : Nat) {v : Value} (hj : (LNd.vals (nth L i))[j]? = some v) (hj3 : j < 3) : Rd w [] gn (i * 3 + j) v :=
  h.rd_blk hp (by rw [flat_get nv3 L i j _ (nth_get hi) hj3]; exact hj) (by simp)
end
structure NdSet (L L' : List LNd) (i : Nat) (x : LNd) : Prop where
  lt : i < L.length
  eq : L' = L.set i x
theorem NdSet.len {L L' : List LNd} {i : Nat} {x : LNd} (h : NdSet L L' i x) : L'.length = L.length := by rw [h.eq, List.length_set]
theorem NdSet.at_ {L L' : List LNd} {i : Nat} {x : LNd} (h : NdSet L L' i x) : nth L' i = x := by rw [h.eq, nth_set_self h.lt]
theorem NdSet.other {L L' : List LNd} {i k : Nat} {x : LNd} (h : NdSet L L' i x) (hk : k < L.length) (hne : i ≠ k) : nth L' k = nth L k := by rw [h.eq, nth_set_other hk hne]
theorem NdSet.pl {L L' : List LNd} {i : Nat} {x : LNd} (h : NdSet L L' i x) : pln L' = (pln L).set i x.pl := by rw [h.eq, pln_set]
theorem NdSet.es {L L' : List LNd} {i : Nat} {ea : Option Addr} {ec : Nat} {es : List TEnt} (h : NdSet L L' i { nth L i with ea := ea, ec := ec, es := es }) : pln L' = esN (pln L) i es := by rw [h.eq, pln_es h.lt]
theorem NdSet.cs {L L' : List LNd} {i : Nat} {ca : Option Addr} {cc : Nat} {cs : List Int} (h : NdSet L L' i { nth L i with ca := ca, cc := cc, cs := cs }) : pln L' = csN (pln L) i cs := by rw [h.eq, pln_cs h.lt]
section
variable {w0 w : World} {M : List Nat} {As A1 A2 A3 : List HA} {et : Nat} {L : List LNd} {i gn cap nt' : Nat}
theorem HS.es_set (hi : i < L.length) {ea : Option Addr} {ec : Nat} {es : List TEnt} (h : HS w0 M As w) (hp : Pick As (.blk gn nt' (cap * 3) (setMany (L.flatMap LNd.vals) (i * 3 + 1) [.slice ea es.length ec])) A1) (hp2 : Pick A1 (.own (.slice ea es.length ec) et 2 es.length (es.flatMap TEnt.vals)) A2) (hp3 : Pick A2 (.star (L.map (subN et))) A3) :
    ∃ L', NdSet L L' i { nth L i with ea := ea, ec := ec, es := es } ∧ HS w0 M (.blk gn nt' (cap * 3) (L'.flatMap LNd.vals) :: .star (L'.map (subN et)) :: A3) w := by
  refine ⟨_, ⟨hi, rfl⟩, ?_⟩
  rw [← node_es hi]
  exact (HS.es_put hi (h.pick hp) (.there hp2) (.there hp3)).perm (List.Perm.swap ..)
theorem HS.cs_set (hi : i < L.length) {ca : Option Addr} {cc : Nat} {cs : List Int} (h : HS w0 M As w) (hp : Pick As (.blk gn nt' (cap * 3) (setMany (L.flatMap LNd.vals) (i * 3 + 2) [.slice ca cs.length cc])) A1) (hp2 : Pick A1 (.own (.slice ca cs.length cc) 3 1 cs.length (cs.flatMap inV)) A2) (hp3 : Pick A2 (.star (L.map (subN et))) A3) :
    ∃ L', NdSet L L' i { nth L i with ca := ca, cc := cc, cs := cs } ∧ HS w0 M (.blk gn nt' (cap * 3) (L'.flatMap LNd.vals) :: .star (L'.map (subN et)) :: A3) w := by
  refine ⟨_, ⟨hi, rfl⟩, ?_⟩
  rw [← node_cs hi]
  exact (HS.cs_put hi (h.pick hp) (.there hp2) (.there hp3)).perm (List.Perm.swap ..)
theorem HS.es_setB (hi : i < L.length) {ea : Option Addr} {ec : Nat} {es : List TEnt} (h : HS w0 M As w) (hp : Pick As (.blk gn nt' (cap * 3) (setMany (L.flatMap LNd.vals) (i * 3 + 1) [.slice ea es.length ec])) A1) (hp2 : Pick A1 (.own (.slice ea es.length ec) et 2 es.length (es.flatMap TEnt.vals)) A2) (hp3 : Pick A2 (.star ((L.set i (nth L i).noE).map (subN et))) A3) :
    ∃ L', NdSet L L' i { nth L i with ea := ea, ec := ec, es := es } ∧ HS w0 M (.blk gn nt' (cap * 3) (L'.flatMap LNd.vals) :: .star (L'.map (subN et)) :: A3) w := by
  refine ⟨_, ⟨hi, rfl⟩, ?_⟩
  rw [← node_es hi]
  exact (HS.es_back hi (h.pick hp) (.there hp2) (.there hp3)).perm (List.Perm.swap ..)
theorem HS.cs_setB (hi : i < L.length) {ca : Option Addr} {cc : Nat} {cs : List Int} (h : HS w0 M As w) (hp : Pick As (.blk gn nt' (cap * 3) (setMany (L.flatMap LNd.vals) (i * 3 + 2) [.slice ca cs.length cc])) A1) (hp2 : Pick A1 (.own (.slice ca cs.length cc) 3 1 cs.length (cs.flatMap inV)) A2) (hp3 : Pick A2 (.star ((L.set i (nth L i).noC).map (subN et))) A3) :
    ∃ L', NdSet L L' i { nth L i with ca := ca, cc := cc, cs := cs } ∧ HS w0 M (.blk gn nt' (cap * 3) (L'.flatMap LNd.vals) :: .star (L'.map (subN et)) :: A3) w := by
  refine ⟨_, ⟨hi, rfl⟩, ?_⟩
  rw [← node_cs hi]
  exact (HS.cs_back hi (h.pick hp) (.there hp2) (.there hp3)).perm (List.Perm.swap ..)
theorem HS.es_setC (hi : i < L.length) {m c : Nat} (hm : m ≤ c) (hc : c ≤ (nth L i).ec) (hml : m ≤ (nth L i).es.length) (h0 : m = 0 → (nth L i).ea = none → c = 0) (h : HS w0 M As w) (hp : Pick As (.blk gn nt' (cap * 3) (setMany (L.flatMap LNd.vals) (i * 3 + 1) [.slice (nth L i).ea m c])) A1) (hp3 : Pick A1 (.star (L.map (subN et))) A3) :
    ∃ L', NdSet L L' i { nth L i with ec := c, es := (nth L i).es.take m } ∧ HS w0 M (.blk gn nt' (cap * 3) (L'.flatMap LNd.vals) :: .star (L'.map (subN et)) :: A3) w := by
  refine ⟨_, ⟨hi, rfl⟩, ?_⟩
  have e := node_es hi (nth L i).ea c ((nth L i).es.take m)
  rw [List.length_take, Nat.min_eq_left hml] at e
  rw [← e]
  exact (HS.es_cut hi hm hc hml h0 (h.pick hp) (.there hp3)).perm (List.Perm.swap ..)
theorem HS.cs_setC (hi : i < L.length) {m c : Nat} (hm : m ≤ c) (hc : c ≤ (nth L i).cc) (hml : m ≤ (nth L i).cs.length) (h0 : m = 0 → (nth L i).ca = none → c = 0) (h : HS w0 M As w) (hp : Pick As (.blk gn nt' (cap * 3) (setMany (L.flatMap LNd.vals) (i * 3 + 2) [.slice (nth L i).ca m c])) A1) (hp3 : Pick A1 (.star (L.map (subN et))) A3) :
    ∃ L', NdSet L L' i { nth L i with cc := c, cs := (nth L i).cs.take m } ∧ HS w0 M (.blk gn nt' (cap * 3) (L'.flatMap LNd.vals) :: .star (L'.map (subN et)) :: A3) w := by
  refine ⟨_, ⟨hi, rfl⟩, ?_⟩
  have e := node_cs hi (nth L i).ca c ((nth L i).cs.take m)
  rw [List.length_take, Nat.min_eq_left hml] at e
  rw [← e]
  exact (HS.cs_cut hi hm hc hml h0 (h.pick hp) (.there hp3)).perm (List.Perm.swap ..)
end
theorem ins_len {α : Type} {l : List α} {i : Nat} {x : α} (h : i ≤ l.length) : (insAt l i x).length = l.length + 1 := by
  simp only [insAt, List.length_append, List.length_take, List.length_cons, List.length_drop]
  omega
theorem ins_flat {α : Type} {vals : α → List Value} {sz : Nat} (hv : ∀ x, (vals x).length = sz) (l : List α) (i : Nat) (x : α) : (l.flatMap vals).take (i * sz) ++ vals x ++ (l.flatMap vals).drop (i * sz) = (insAt l i x).flatMap vals := by
  rw [flat_take hv, flat_drop hv, insAt, List.flatMap_append, List.flatMap_cons, List.append_assoc]
theorem oth_len {α : Type} {l : List α} {i : Nat} (h : i < l.length) : (others l i).length = l.length - 1 := by
  simp only [others, List.length_append, List.length_take, List.length_drop]
  omega
theorem oth_flat {α : Type} {vals : α → List Value} {sz : Nat} (hv : ∀ x, (vals x).length = sz) (l : List α) (i : Nat) : (l.flatMap vals).take (i * sz) ++ (l.flatMap vals).drop ((i + 1) * sz) = (others l i).flatMap vals := by
  rw [flat_take hv, flat_drop hv, others, List.flatMap_append]
def Sm (m : Nat) (ns : List Nd) : Prop := ∀ k, (nth ns k).es.length ≤ m ∧ (nth ns k).cs.length ≤ m
theorem nth_out {α : Type} [Inhabited α] {l : List α} {k : Nat} (h : l.length ≤ k) : nth l k = default := by
  unfold nth
  rw [List.getD_eq_getElem?_getD, List.getElem?_eq_none h]
  rfl
theorem nth_set_nd (ns : List Nd) (i k : Nat) (x : Nd) : nth (ns.set i x) k = if i = k ∧ k < ns.length then x else nth ns k := by
  by_cases hk : k < ns.length
  · apply nth_eq
    rw [List.getElem?_set]
    by_cases e : i = k
    · subst e
      rw [if_pos rfl, if_pos hk, if_pos ⟨rfl, hk⟩]
    · rw [if_neg e, if_neg (fun h => e h.1)]
      exact nth_get hk
  · rw [if_neg (fun h => hk h.2), nth_out (by simpa using hk), nth_out (by simpa using hk)]
theorem Sm.mono {m m' : Nat} {ns : List Nd} (h : Sm m ns) (hm : m ≤ m') : Sm m' ns := fun k => ⟨Nat.le_trans (h k).1 hm, Nat.le_trans (h k).2 hm⟩
theorem Sm.set {m : Nat} {ns : List Nd} (h : Sm m ns) (i : Nat) (x : Nd) (hx : x.es.length ≤ m ∧ x.cs.length ≤ m) : Sm m (ns.set i x) := fun k => by
  rw [nth_set_nd]
  split
  · exact hx
  · exact h k
theorem Sm.es {m : Nat} {ns : List Nd} (h : Sm m ns) (i : Nat) {es : List TEnt} (hx : es.length ≤ m) : Sm m (esN ns i es) := h.set i _ ⟨hx, (h i).2⟩
theorem Sm.cs {m : Nat} {ns : List Nd} (h : Sm m ns) (i : Nat) {cs : List Int} (hx : cs.length ≤ m) : Sm m (csN ns i cs) := h.set i _ ⟨(h i).1, hx⟩
theorem Sm.us {m : Nat} {ns : List Nd} (h : Sm m ns) (i : Nat) (b : Bool) : Sm m (usN ns i b) := h.set i _ (h i)
theorem Sm.app {m : Nat} {ns : List Nd} (h : Sm m ns) (x : Nd) (hx : x.es.length ≤ m ∧ x.cs.length ≤ m) : Sm m (ns ++ [x]) := fun k => by
  rcases Nat.lt_trichotomy k ns.length with hk | hk | hk
  · rw [show nth (ns ++ [x]) k = nth ns k from nth_eq (by rw [List.getElem?_append_left hk]; exact nth_get hk)]
    exact h k
  · subst hk
    rw [show nth (ns ++ [x]) ns.length = x from nth_eq (by simp)]
    exact hx
  · rw [nth_out (by simp; omega)]
    exact ⟨Nat.zero_le _, Nat.zero_le _⟩
theorem Sm.fre {m : Nat} {ns : List Nd} (h : Sm m ns) : Sm m (freN ns).2 := by
  unfold freN
  split
  · exact h.us _ _
  · exact h.app _ ⟨Nat.zero_le _, Nat.zero_le _⟩
theorem Sm.splA {m : Nat} {ns : List Nd} (h : Sm m ns) (mo : Int) (i : Nat) : Sm m (splA mo ns i) := by
  have h1 := h.fre
  have e1 := (h1 i).1
  have e2 := (h1 i).2
  have h2 := (h1.es (freN ns).1 (es := (nth (freN ns).2 i).es.drop (splM mo + 1)) (by rw [List.length_drop]; omega)).es i (es := (nth (freN ns).2 i).es.take (splM mo)) (by rw [List.length_take]; omega)
  unfold Gx.splA
  split
  · exact h2
  · exact (h2.cs _ (by rw [List.length_drop]; omega)).cs _ (by rw [List.length_take]; omega)
theorem ins_le {α : Type} (l : List α) (i : Nat) (x : α) : (insAt l i x).length ≤ l.length + 1 := by
  simp only [insAt, List.length_append, List.length_take, List.length_cons, List.length_drop]
  omega
theorem Sm.addP {m : Nat} {ns : List Nd} (h : Sm m ns) (p k : Nat) (up : TEnt) (own : Nat) : Sm (m + 1) (addP ns p k up own) := by
  have e1 := ins_le (nth ns p).es k up
  have e2 := ins_le (nth ns p).cs (k + 1) (own : Int)
  have e3 := (h p).1
  have e4 := (h p).2
  exact ((h.mono (Nat.le_succ m)).es p (by omega)).cs p (by omega)
theorem Sm.spl {m : Nat} {ns : List Nd} (h : Sm m ns) (mo : Int) (i : Nat) : Sm (m + 1) (splN mo ns i) := (h.splA mo i).addP _ _ _ _
theorem addP_len (ns : List Nd) (p k : Nat) (up : TEnt) (own : Nat) : (addP ns p k up own).length = ns.length := by
  unfold addP
  rw [csN_len, esN_len]
theorem splN_len (mo : Int) (ns : List Nd) (i : Nat) : ns.length ≤ (splN mo ns i).length ∧ (splN mo ns i).length ≤ ns.length + 1 := by
  unfold splN
  rw [addP_len, splA_len]
  exact freN_len ns
theorem Sm.low {m : Nat} {ns : List Nd} (h : Sm m ns) (hm : 1 ≤ m) : Sm m (lowN ns).2 := by
  unfold lowN
  exact (((h.fre.es _ (h 0).1).cs _ (h 0).2).es 0 (Nat.zero_le _)).cs 0 (by simpa using hm)
theorem lowN_len (ns : List Nd) : ns.length ≤ (lowN ns).2.length ∧ (lowN ns).2.length ≤ ns.length + 1 := by
  unfold lowN
  simp only [csN_len, esN_len]
  exact freN_len ns
structure SpOk (mo : Int) (ns : List Nd) (i : Nat) : Prop where
  mo0 : 0 ≤ mo ∧ mo ≤ 1000
  len : ns.length ≤ 900
  sm : Sm 900 ns
  lt : i < ns.length
  us : (nth ns i).us = true
  es : splM mo < (nth ns i).es.length
  cs : (nth ns i).cs.length = 0 ∨ splM mo + 1 ≤ (nth ns i).cs.length
  par : (parN (i : Int) (splA mo ns i) 0).1 < (splA mo ns i).length
  parE : (parN (i : Int) (splA mo ns i) 0).2 ≤ (nth (splA mo ns i) (parN (i : Int) (splA mo ns i) 0).1).es.length
  parC : (parN (i : Int) (splA mo ns i) 0).2 + 1 ≤ (nth (splA mo ns i) (parN (i : Int) (splA mo ns i) 0).1).cs.length
end Gx
namespace Go.Proofs
open Go Go.RowKit Gx
set_option linter.unusedVariables false
set_option linter.unusedSimpArgs false
attribute [local irreducible] Go.Calls Gx.S Gx.O Gx.D Gx.OpP Gx.OpQ Gx.OpH
set_option maxRecDepth 20000
theorem fn_150 : isFn Tryz.prog 150 = true := by kernel_rfl
theorem fn_141 : isFn Tryz.prog 141 = true := by kernel_rfl
theorem fn_96 : isFn Tryz.prog 96 = true := by kernel_rfl
theorem fn_151 : isFn Tryz.prog 151 = true := by kernel_rfl
theorem c96e (w : World) (a : Option Addr) (i cap : Nat) (l : List TEnt) (x : TEnt) (b0 c0 tot2 : Nat) (hw : HS w (fps [.own (.slice a l.length cap) 26 2 l.length (l.flatMap TEnt.vals), .blk b0 26 tot2 (TEnt.vals x)]) [.own (.slice a l.length cap) 26 2 l.length (l.flatMap TEnt.vals), .blk b0 26 tot2 (TEnt.vals x)] w) (hmax : l.length ≤ 100000) (hi : i ≤ l.length) : Calls Tryz.prog 96 #[.slice a l.length cap, .int .i64 (i : Int), .slice (some ⟨b0, 0, none⟩) 1 c0] w fun en w' => ∃ g : Option Addr × Nat, en = .returned (.slice g.1 (insAt l i x).length g.2) ∧ True ∧ HS w (fps [.own (.slice a l.length cap) 26 2 l.length (l.flatMap TEnt.vals), .blk b0 26 tot2 (TEnt.vals x)]) [.own (.slice g.1 (insAt l i x).length g.2) 26 2 (insAt l i x).length ((insAt l i x).flatMap TEnt.vals), .blk b0 26 tot2 (TEnt.vals x)] w' := by
  have h := c96 w a i l.length 1 cap (l.flatMap TEnt.vals) (TEnt.vals x) b0 c0 tot2 hw (by decide) (ev2 x) (fun u hu => ev1 x u hu) (flat_one ev1 l) (by omega) hi
  rw [ins_flat ev2] at h
  rw [ins_len hi]
  exact h
theorem c151e (w : World) (a : Option Addr) (i cap : Nat) (l : List Int) (x : Int) (b0 c0 tot2 : Nat) (hw : HS w (fps [.own (.slice a l.length cap) 3 1 l.length (l.flatMap inV), .blk b0 3 tot2 (inV x)]) [.own (.slice a l.length cap) 3 1 l.length (l.flatMap inV), .blk b0 3 tot2 (inV x)] w) (hmax : l.length ≤ 100000) (hi : i ≤ l.length) : Calls Tryz.prog 151 #[.slice a l.length cap, .int .i64 (i : Int), .slice (some ⟨b0, 0, none⟩) 1 c0] w fun en w' => ∃ g : Option Addr × Nat, en = .returned (.slice g.1 (insAt l i x).length g.2) ∧ True ∧ HS w (fps [.own (.slice a l.length cap) 3 1 l.length (l.flatMap inV), .blk b0 3 tot2 (inV x)]) [.own (.slice g.1 (insAt l i x).length g.2) 3 1 (insAt l i x).length ((insAt l i x).flatMap inV), .blk b0 3 tot2 (inV x)] w' := by
  have h := c151 w a i l.length 1 cap (l.flatMap inV) (inV x) b0 c0 tot2 hw (by decide) (iv1 x) (fun u hu => iv1c x u hu) (flat_one iv1c l) (by omega) hi
  rw [ins_flat iv1] at h
  rw [ins_len hi]
  exact h
set_option maxHeartbeats 4000000 in
theorem c134 (w : World) (bt : Nat) (j : Nat) (mo rm : Int) (gn cap : Nat) (L : List LNd) (i : Nat) (hw : HS w (fps [.blk bt 112 6 (tbV (j : Int) mo rm (some ⟨gn, 0, none⟩) (L).length cap), .blk gn 102 (cap * 3) ((L).flatMap LNd.vals), .star ((L).map (subN 26))]) [.blk bt 112 6 (tbV (j : Int) mo rm (some ⟨gn, 0, none⟩) (L).length cap), .blk gn 102 (cap * 3) ((L).flatMap LNd.vals), .star ((L).map (subN 26))] w) (hnc : L.length ≤ cap) (hcm : cap ≤ maxLen) (hok : SpOk mo (pln L) i) : Calls Tryz.prog 134 #[.pointer (some ⟨bt, 0, none⟩), .int .i64 (i : Int)] w fun en w' => ∃ g : (Nat × Nat) × List LNd, en = .returned (.tuple #[]) ∧ (pln g.2 = splN mo (pln L) i ∧ g.2.length ≤ g.1.2 ∧ g.1.2 ≤ maxLen) ∧ HS w (fps [.blk bt 112 6 (tbV (j : Int) mo rm (some ⟨gn, 0, none⟩) (L).length cap), .blk gn 102 (cap * 3) ((L).flatMap LNd.vals), .star ((L).map (subN 26))]) [.blk bt 112 6 (tbV (j : Int) mo rm (some ⟨g.1.1, 0, none⟩) (g.2).length g.1.2), .blk g.1.1 102 (g.1.2 * 3) ((g.2).flatMap LNd.vals), .star ((g.2).map (subN 26))] w' := by
 have hlt0 := hok.lt
 have hln0 := hok.len
 rw [pln_len] at hlt0 hln0
 have hmo := hok.mo0
 have hes0 := hok.es
 have hcs0 := hok.cs
 have hne := freN_ne hok.lt hok.us
 have hfn := freN_nth hok.lt hok.us
 have hfl := freN_lt (pln L)
 have hfl2 := freN_len (pln L)
 rw [pln_len] at hfl2
 have hpar := hok.par
 have hparE := hok.parE
 have hparC := hok.parC
 rw [splA_len] at hpar
 have hsA := hok.sm.splA mo i
 have hsF := hok.sm.fre
 refine enter (args := [_, _]) Tryz.func134 Tryz.ntmps134 rfl rfl hw ?_
 iterate 3 refine aS ?_
 refine o_h (h_callF (Cs := [.blk bt 112 6 (tbV (j : Int) mo rm (some ⟨gn, 0, none⟩) (L).length cap), .blk gn 102 (cap * 3) ((L).flatMap LNd.vals), .star ((L).map (subN 26))]) rfl fn_150 rfl aPs (fun w1 h1 hf => c150 w1 bt j mo rm gn cap L hf hnc hcm (by omega) (by omega))) rfl (fun ⟨⟨gn1, cap1⟩, L1⟩ hF1 => ?_)
 dsimp only
 obtain ⟨hL1, hn1, hm1⟩ := hF1
 simp only [] at hL1 hn1 hm1
 have hl1 : L1.length = (freN (pln L)).2.length := by rw [← hL1, pln_len]
 have hi1 : i < L1.length := by omega
 have ho1 : (freN (pln L)).1 < L1.length := by omega
 have hN1 : (nth L1 i).pl = nth (pln L) i := by rw [← pln_nth hi1, hL1, hfn]
 have hE1 : (nth L1 i).es = (nth (pln L) i).es := congrArg Nd.es hN1
 have hC1 : (nth L1 i).cs = (nth (pln L) i).cs := congrArg Nd.cs hN1
 have hN1e : (nth (freN (pln L)).2 i).es = (nth L1 i).es := by rw [← hL1, pln_nth hi1]; rfl
 have hN1c : (nth (freN (pln L)).2 i).cs = (nth L1 i).cs := by rw [← hL1, pln_nth hi1]; rfl
 have hsm1 : (splM mo) < (nth L1 i).es.length := by rw [hE1]; exact hes0
 have hsE1 := (hok.sm i).1
 rw [← hE1] at hsE1
 have hsC1 := (hok.sm i).2
 rw [← hC1] at hsC1
 rw [← hC1] at hcs0
 iterate 10 refine aS ?_
 refine o_p (p_indexAddr rfl rfl rfl sl_22 (i) (by omega) (by omega) rfl) rfl ?_
 refine o_slot (show _ = Value.pointer (some ⟨gn1, i * 3, none⟩) from by rw [Nat.zero_add]) ?_
 iterate 10 refine aS ?_
 try refine oWr ?_
 refine o_p (p_quo_nn rfl rfl rfl (by omega) (by omega) (by omega)) rfl ?_
 refine o_slot (show _ = Value.int .i64 ((splM mo) : Int) from by unfold splM; congr 1; omega) ?_
 iterate 7 refine aS ?_
 refine o_q (q_load_at rfl rfl sz_77 (fun w h => HS.nd_cell hi1 h aPk 1 rfl (by decide))) rfl ?_
 refine o_fact (fun w h => HS.es_some hi1 (by omega) h aPk) fun hge => ?_
 obtain ⟨ge, hge⟩ := hge
 refine o_fact (fun w h => HS.es_room hi1 h aPk) fun hrE => ?_
 refine aS ?_
 refine o_p (p_indexAddr rfl rfl rfl sl_77 _ rfl (by omega) hge) rfl ?_
 refine o_q (q_load_atn _ rfl rfl sz_26 rfl (fun w h => HS.es_rd hi1 hsm1 hge h aPk)) rfl ?_
 refine oAl (fun b1 _ => ?_) zr_26
 refine oSt ?_
 iterate 2 refine aS ?_
 refine s_draw [16] mixed ?_
 refine dP 0 ?_
 refine dP 1 ?_
 refine dFa 2 ?_
 refine dFa 3 ?_
 refine dLd 4 [[]] ?_
 refine dP 5 ?_
 refine dP 6 ?_
 refine dP 7 ?_
 refine dFa 8 ?_
 refine d_q 9 [[]] rfl (q_load_at rfl rfl sz_77 (fun w h => HS.nd_cell hi1 h aPk 1 rfl (by decide))) (by kernel_rfl) (by kernel_rfl) (by kernel_rfl) rfl ?_
 refine dP 10 ?_
 refine dP 11 ?_
 try refine dWr ?_
 refine d_p 12 rfl (p_slice _ _ ((splM mo) + 1) ((nth L1 i).es.length) rfl rfl sl_77 ⟨_, _, rfl, (by omega)⟩ rfl (by omega) (by omega)) (by kernel_rfl) rfl rfl ?_
 refine d_slot (show _ = Value.slice (subA (nth L1 i).ea (nth L1 i).ec ((splM mo) + 1) 2) ((nth L1 i).es.drop ((splM mo) + 1)).length ((nth L1 i).ec - ((splM mo) + 1)) from by rw [List.length_drop]) ?_
 refine d_h 13 rfl (h_call rfl fn_128 rfl (fun w1 h1 => c128 w1 (subA (nth L1 i).ea (nth L1 i).ec ((splM mo) + 1) 2) ((nth L1 i).ec - ((splM mo) + 1)) ((nth L1 i).es.drop ((splM mo) + 1)) ((HS.es_row hi1 h1 aPk).cut (by omega)) (by rw [List.length_drop]; omega))) (by kernel_rfl) (fun w h => h.ent aEt) rfl (fun ⟨b2, c3⟩ _ => ?_)
 refine dBa ?_
 refine d_p 14 rfl (p_indexAddr rfl rfl rfl sl_22 _ rfl (by omega) rfl) (by kernel_rfl) rfl rfl ?_
 refine d_slot (show _ = Value.pointer (some ⟨gn1, (freN (pln L)).1 * 3, none⟩) from by rw [Nat.zero_add]) ?_
 refine dFa 15 ?_
 refine dSt 16 ?_ (hl := (by rw [flat_length nv3]; show _ + 1 ≤ _; omega))
 refine dTu [] ?_
 refine dNi ?_
 refine aS ?_
 refine s_weaken (L' := [(0, _), (1, _), (4, _), (5, _), (6, _), (7, _)]) aSx (fun _ h => h) ?_
 iterate 2 refine aS ?_
 refine o_ex (fun w h => HS.es_set (gn := gn1) (cap := cap1) (ea := b2) (ec := c3) (es := (nth L1 i).es.drop ((splM mo) + 1)) ho1 h aPk aPk aPk) fun L2 => ?_
 refine o_fact (fun w h => h.1) fun hS2 => ?_
 refine o_class (fun w h => h.2) ?_
 have hi2 : i < L2.length := by rw [hS2.len]; exact hi1
 have hN2 : nth L2 i = nth L1 i := hS2.other hi1 hne
 have hsm2 : (splM mo) < (nth L2 i).es.length := by rw [hN2]; exact hsm1
 iterate 3 refine aS ?_
 refine o_q (q_load_at rfl rfl sz_77 (fun w h => HS.nd_cell hi2 h aPk 1 rfl (by decide))) rfl ?_
 refine o_fact (fun w h => HS.es_room hi2 h aPk) fun hrE2 => ?_
 refine o_fact (fun w h => HS.es_form hi2 h aPk) fun hfE2 => ?_
 iterate 2 refine aS ?_
 refine o_p (p_slice30 (splM mo) (splM mo) rfl rfl rfl rfl sl_77 rfl rfl (by omega) (by omega)) rfl ?_
 refine o_slot (show _ = Value.slice (nth L2 i).ea ((splM mo)) ((splM mo)) from by rw [subA_0 _ _ _ hfE2]) ?_
 iterate 2 refine aS ?_
 refine o_h0 (h_store rfl rfl rfl sz_77 rfl aPt (by rw [flat_length nv3]; show _ + 1 ≤ _; omega) rfl) (fun _ _ => ?_)
 iterate 5 refine aS ?_
 refine o_ex (fun w h => HS.es_setC (gn := gn1) (cap := cap1) (m := (splM mo)) (c := (splM mo)) hi2 (Nat.le_refl _) (by omega) (by omega) (fun h9 _ => h9) h aPk aPk) fun L3 => ?_
 refine o_fact (fun w h => h.1) fun hS3 => ?_
 refine o_class (fun w h => h.2) ?_
 have hi3 : i < L3.length := by rw [hS3.len]; exact hi2
 have ho3 : (freN (pln L)).1 < L3.length := by rw [hS3.len, hS2.len]; exact ho1
 have hC3 : (nth L3 i).cs = (nth L1 i).cs := by rw [hS3.at_, hN2]
 iterate 2 refine aS ?_
 refine o_q (q_load_at rfl rfl sz_30 (fun w h => HS.nd_cell hi3 h aPk 2 rfl (by decide))) rfl ?_
 iterate 3 refine aS ?_
 refine s_weaken (L' := [(0, _), (1, _), (4, _), (5, _), (6, _), (7, _), (65, _)]) aSx (fun _ h => h) ?_
 refine s_cutI (α := List LNd) [66, 67, 68, 69, 70, 71, 72, 73, 74, 75, 76, 77, 78, 79, 80, 81, 82, 83, 84, 85, 86, 87, 88, 89, 90, 91, 92, 93] (fun _ => []) (fun x => HS w (fps [.blk bt 112 6 (tbV (j : Int) mo rm (some ⟨gn, 0, none⟩) (L).length cap), .blk gn 102 (cap * 3) ((L).flatMap LNd.vals), .star ((L).map (subN 26))]) [.blk bt 112 6 (tbV (j : Int) mo rm (some ⟨gn1, 0, none⟩) (x).length cap1), .blk gn1 102 (cap1 * 3) ((x).flatMap LNd.vals), .star ((x).map (subN 26)), .blk b1 26 2 (TEnt.vals (nth (nth L1 i).es ((splM mo))))]) (fun x => pln x = splA mo (pln L) i ∧ x.length = L1.length) ?_ ?_
 ·skip
  refine s_cond rfl (fun h4 => ?_) fun h4 => ?_
  ·try simp only [decide_eq_true_eq] at h4
   have hcs3 : (splM mo) + 1 ≤ (nth L3 i).cs.length := by have hq := h4; rw [hC3] at hq ⊢; omega
   refine s_fact (fun w h => HS.cs_room hi3 h aPk) fun hrC3 => ?_
   have hsC3 : (nth L3 i).cs.length ≤ 900 := by rw [hC3]; exact hsC1
   refine aS ?_
   refine s_draw [16] mixed ?_
   refine dP 0 ?_
   refine dP 1 ?_
   refine dFa 2 ?_
   refine dFa 3 ?_
   refine dLd 4 [[]] ?_
   refine dP 5 ?_
   refine dP 6 ?_
   refine dP 7 ?_
   refine dFa 8 ?_
   refine d_q 9 [[]] rfl (q_load_at rfl rfl sz_30 (fun w h => HS.nd_cell hi3 h aPk 2 rfl (by decide))) (by kernel_rfl) (by kernel_rfl) (by kernel_rfl) rfl ?_
   refine dP 10 ?_
   refine dP 11 ?_
   try refine dWr ?_
   refine d_p 12 rfl (p_slice _ _ ((splM mo) + 1) ((nth L3 i).cs.length) rfl rfl sl_30 ⟨_, _, rfl, (by omega)⟩ rfl (by omega) (by omega)) (by kernel_rfl) rfl rfl ?_
   refine d_slot (show _ = Value.slice (subA (nth L3 i).ca (nth L3 i).cc ((splM mo) + 1) 1) ((nth L3 i).cs.drop ((splM mo) + 1)).length ((nth L3 i).cc - ((splM mo) + 1)) from by rw [List.length_drop]) ?_
   refine d_h 13 rfl (h_call rfl fn_129 rfl (fun w1 h1 => c129 w1 (subA (nth L3 i).ca (nth L3 i).cc ((splM mo) + 1) 1) ((nth L3 i).cc - ((splM mo) + 1)) ((nth L3 i).cs.drop ((splM mo) + 1)) ((HS.cs_row hi3 h1 aPk).cut (by omega)) (by rw [List.length_drop]; omega))) (by kernel_rfl) (fun w h => h.ent aEt) rfl (fun ⟨b5, c6⟩ _ => ?_)
   refine dBa ?_
   refine d_p 14 rfl (p_indexAddr rfl rfl rfl sl_22 _ rfl (by omega) rfl) (by kernel_rfl) rfl rfl ?_
   refine d_slot (show _ = Value.pointer (some ⟨gn1, (freN (pln L)).1 * 3, none⟩) from by rw [Nat.zero_add]) ?_
   refine dFa 15 ?_
   refine dSt 16 ?_ (hl := (by rw [flat_length nv3]; show _ + 1 ≤ _; omega))
   refine dTu [] ?_
   refine dNi ?_
   iterate 2 refine aS ?_
   refine o_ex (fun w h => HS.cs_set (gn := gn1) (cap := cap1) (ca := b5) (cc := c6) (cs := (nth L3 i).cs.drop ((splM mo) + 1)) ho3 h aPk aPk aPk) fun L4 => ?_
   refine o_fact (fun w h => h.1) fun hS4 => ?_
   refine o_class (fun w h => h.2) ?_
   have hi4 : i < L4.length := by rw [hS4.len]; exact hi3
   have hN4 : nth L4 i = nth L3 i := hS4.other hi3 hne
   have hcs4 : (splM mo) + 1 ≤ (nth L4 i).cs.length := by rw [hN4]; exact hcs3
   iterate 3 refine aS ?_
   refine o_q (q_load_at rfl rfl sz_30 (fun w h => HS.nd_cell hi4 h aPk 2 rfl (by decide))) rfl ?_
   refine o_fact (fun w h => HS.cs_room hi4 h aPk) fun hrC4 => ?_
   refine o_fact (fun w h => HS.cs_form hi4 h aPk) fun hfC4 => ?_
   iterate 2 refine aS ?_
   try refine oWr ?_
   iterate 2 refine aS ?_
   try refine oWr ?_
   refine o_p (p_slice30 ((splM mo) + 1) ((splM mo) + 1) rfl rfl rfl rfl sl_30 (by omega) (by omega) (by omega) (by omega)) rfl ?_
   refine o_slot (show _ = Value.slice (nth L4 i).ca ((splM mo) + 1) ((splM mo) + 1) from by rw [subA_0 _ _ _ hfC4]) ?_
   iterate 2 refine aS ?_
   refine o_h0 (h_store rfl rfl rfl sz_30 rfl aPt (by rw [flat_length nv3]; show _ + 1 ≤ _; omega) rfl) (fun _ _ => ?_)
   refine aS ?_
   refine s_ex (fun w h => HS.cs_setC (gn := gn1) (cap := cap1) (m := (splM mo) + 1) (c := (splM mo) + 1) hi4 (Nat.le_refl _) (by omega) (by omega) (fun h9 _ => h9) h aPk aPk) fun L5 => ?_
   refine s_fact (fun w h => h.1) fun hS5 => ?_
   refine s_class (fun w h => h.2) ?_
   exact s_joinI L5 ⟨by rw [hS5.cs, hS4.cs, hS3.es, hS2.es, hN4, hC3, hN2, ← hN1c, ← hN1e, hL1, splA, if_neg (by rw [hN1c, ← hC3]; omega)], by rw [hS5.len, hS4.len, hS3.len, hS2.len]⟩ aSx (fun w h => by rw [hS5.len, hS4.len, hS3.len, hS2.len]; exact h.ent aEt)
  try simp only [decide_eq_false_iff_not] at h4
  have hz : (nth L1 i).cs.length = 0 := by rw [← hC3]; omega
  refine aS ?_
  exact s_joinI L3 ⟨by rw [hS3.es, hS2.es, hN2, ← hN1e, hL1, splA, if_pos (by rw [hN1c]; exact hz)], by rw [hS3.len, hS2.len]⟩ aSx (fun w h => by rw [hS3.len, hS2.len]; exact h.ent aEt)
 intro LA hx
 obtain ⟨hA, hlA⟩ := hx
 have hpA : (parN (i : Int) (splA mo (pln L) i) 0).1 < LA.length := by omega
 have hNA : (nth LA (parN (i : Int) (splA mo (pln L) i) 0).1).pl = nth (splA mo (pln L) i) (parN (i : Int) (splA mo (pln L) i) 0).1 := by rw [← pln_nth hpA, hA]
 have hEA : (nth LA (parN (i : Int) (splA mo (pln L) i) 0).1).es = (nth (splA mo (pln L) i) (parN (i : Int) (splA mo (pln L) i) 0).1).es := congrArg Nd.es hNA
 have hCA : (nth LA (parN (i : Int) (splA mo (pln L) i) 0).1).cs = (nth (splA mo (pln L) i) (parN (i : Int) (splA mo (pln L) i) 0).1).cs := congrArg Nd.cs hNA
 rw [← hEA] at hparE
 rw [← hCA] at hparC
 have hsAE := (hsA (parN (i : Int) (splA mo (pln L) i) 0).1).1
 have hsAC := (hsA (parN (i : Int) (splA mo (pln L) i) 0).1).2
 rw [← hEA] at hsAE
 rw [← hCA] at hsAC
 iterate 4 refine aS ?_
 refine o_q (q_call rfl fn_141 rfl (fun w1 h1 => by have h9 := c141 w1 bt j mo rm (some ⟨gn1, 0, none⟩) cap1 LA i (HS.tbr h1 aPk) (HS.nt_at h1 aPk aPk) (by omega) (fun k hk => by have := (hsA k).2; rw [← hA, pln_nth hk] at this; exact Nat.le_trans this (by decide)); rw [hA] at h9; exact h9)) rfl ?_
 iterate 14 refine aS ?_
 refine o_p (p_indexAddr rfl rfl rfl sl_22 _ rfl (by omega) rfl) rfl ?_
 refine o_slot (show _ = Value.pointer (some ⟨gn1, (parN (i : Int) (splA mo (pln L) i) 0).1 * 3, none⟩) from by rw [Nat.zero_add]) ?_
 refine aS ?_
 refine o_class (fun w h => HS.es_take hpA h aPk) ?_
 iterate 2 refine aS ?_
 refine s_draw [8, 11] mixed ?_
 refine dP 0 ?_
 refine dP 1 ?_
 refine dP 2 ?_
 refine dFa 3 ?_
 refine d_q 4 [[], []] rfl (q_load_at rfl rfl sz_77 (fun w h => HS.nd_cell hpA h aPk 1 rfl (by decide))) (by kernel_rfl) (by kernel_rfl) (by kernel_rfl) rfl ?_
 refine dP 5 ?_
 refine dLn 6 [[7], []] ?_
 refine d_h 7 rfl (h_buildSlice (cs := [_, _]) rfl rfl sl_77 zr_26 rfl rfl rfl) (by kernel_rfl) (fun w h => h.ent aEt) rfl (fun b7 _ => ?_)
 refine dBa ?_
 refine d_h 8 rfl (h_callF (Cs := [.own (.slice ((nth LA (parN (i : Int) (splA mo (pln L) i) 0).1)).ea ((nth LA (parN (i : Int) (splA mo (pln L) i) 0).1)).es.length ((nth LA (parN (i : Int) (splA mo (pln L) i) 0).1)).ec) 26 2 ((nth LA (parN (i : Int) (splA mo (pln L) i) 0).1)).es.length (((nth LA (parN (i : Int) (splA mo (pln L) i) 0).1)).es.flatMap TEnt.vals), .blk b7 26 2 (TEnt.vals (nth (nth L1 i).es ((splM mo))))]) rfl fn_96 rfl aPs (fun w1 h1 hf => c96e w1 (nth LA (parN (i : Int) (splA mo (pln L) i) 0).1).ea (parN (i : Int) (splA mo (pln L) i) 0).2 (nth LA (parN (i : Int) (splA mo (pln L) i) 0).1).ec (nth LA (parN (i : Int) (splA mo (pln L) i) 0).1).es (nth (nth L1 i).es ((splM mo))) b7 1 2 hf (by omega) (by omega))) (by kernel_rfl) (fun w h => h.ent aEt) rfl (fun b8 _ => ?_)
 refine dTu [11] ?_
 refine dP 9 ?_
 refine dFa 10 ?_
 refine dSt 11 ?_ (hl := (by rw [flat_length nv3]; show _ + 1 ≤ _; omega))
 refine dTu [] ?_
 refine dNi ?_
 refine s_weaken (L' := [(4, _), (9, _), (10, _)]) aSx (fun _ h => h) ?_
 iterate 2 refine aS ?_
 refine o_ex (fun w h => HS.es_setB (gn := gn1) (cap := cap1) (ea := b8.1) (ec := b8.2) (es := insAt (nth LA (parN (i : Int) (splA mo (pln L) i) 0).1).es (parN (i : Int) (splA mo (pln L) i) 0).2 (nth (nth L1 i).es ((splM mo)))) hpA h aPk aPk aPk) fun LB => ?_
 refine o_fact (fun w h => h.1) fun hSB => ?_
 refine o_class (fun w h => h.2) ?_
 have hpB : (parN (i : Int) (splA mo (pln L) i) 0).1 < LB.length := by rw [hSB.len]; exact hpA
 refine o_class (fun w h => HS.cs_take hpB h aPk) ?_
 have hBC : (nth LB (parN (i : Int) (splA mo (pln L) i) 0).1).cs = (nth LA (parN (i : Int) (splA mo (pln L) i) 0).1).cs := by rw [hSB.at_]
 have hBCl : (nth LB (parN (i : Int) (splA mo (pln L) i) 0).1).cs.length = (nth LA (parN (i : Int) (splA mo (pln L) i) 0).1).cs.length := by rw [hBC]
 iterate 3 refine aS ?_
 refine o_q (q_load_at rfl rfl sz_30 (fun w h => HS.nd_cell hpB h aPk 2 rfl (by decide))) rfl ?_
 iterate 2 refine aS ?_
 try refine oWr ?_
 refine aS ?_
 refine o_h (h_buildSlice (cs := [_]) rfl rfl sl_30 zr_3 rfl rfl rfl) rfl (fun b9 _ => ?_)
 refine o_h (h_callF (Cs := [.own (.slice ((nth LB (parN (i : Int) (splA mo (pln L) i) 0).1)).ca ((nth LB (parN (i : Int) (splA mo (pln L) i) 0).1)).cs.length ((nth LB (parN (i : Int) (splA mo (pln L) i) 0).1)).cc) 3 1 ((nth LB (parN (i : Int) (splA mo (pln L) i) 0).1)).cs.length (((nth LB (parN (i : Int) (splA mo (pln L) i) 0).1)).cs.flatMap inV), .blk b9 3 1 (inV ((freN (pln L)).1 : Int))]) rfl fn_151 rfl aPs (fun w1 h1 hf => c151e w1 (nth LB (parN (i : Int) (splA mo (pln L) i) 0).1).ca ((parN (i : Int) (splA mo (pln L) i) 0).2 + 1) (nth LB (parN (i : Int) (splA mo (pln L) i) 0).1).cc (nth LB (parN (i : Int) (splA mo (pln L) i) 0).1).cs ((freN (pln L)).1 : Int) b9 1 1 hf (by omega) (by omega))) rfl (fun b10 _ => ?_)
 iterate 2 refine aS ?_
 refine o_h0 (h_store rfl rfl rfl sz_30 rfl aPt (by rw [flat_length nv3]; show _ + 1 ≤ _; omega) rfl) (fun _ _ => ?_)
 refine aS ?_
 exact s_end0 rfl (fun w' h' => by obtain ⟨LC, hSC, hC⟩ := HS.cs_setB (gn := gn1) (cap := cap1) (ca := b10.1) (cc := b10.2) (cs := insAt (nth LB (parN (i : Int) (splA mo (pln L) i) 0).1).cs ((parN (i : Int) (splA mo (pln L) i) 0).2 + 1) ((freN (pln L)).1 : Int)) hpB h' aPk aPk aPk; exact ⟨((gn1, cap1), LC), rfl, ⟨by rw [hSC.cs, hBC, hSB.es, hA, hEA, hCA]; unfold splN addP; rw [hN1e], by simp only []; rw [hSC.len, hSB.len, hlA]; exact hn1, hm1⟩, by simp only []; rw [hSC.len, hSB.len]; exact hC.ent aEt⟩)
end Go.Proofs
namespace Gx
set_option linter.unusedSimpArgs false
set_option linter.unusedVariables false
set_option linter.unusedSectionVars false
open Go Go.RowKit
abbrev LNd.non (n : LNd) : LNd := ⟨n.us, none, 0, [], none, 0, []⟩
section
variable {w0 w : World} {M : List Nat} {As A1 A2 A3 : List HA} {et : Nat} {L : List LNd} {i j gn cap nt' : Nat}
theorem HS.star_move (hi : i < L.length) (hj : j < L.length) (hne : i ≠ j) (us : Bool) (h : HS w0 M As w) (hp : Pick As (.star (L.map (subN et))) A1) : HS w0 M (.star (((L.set j { nth L i with us := us }).set i (nth L i).non).map (subN et)) :: A1) w := by
  have h1 := ((h.node_out hi hp).own_nil 3 1).own_nil et 2
  -- nil nil E C star
  have h2 := h1.perm (As' := _ :: _ :: _ :: ownE et (nth L i) :: ownC (nth L i) :: A1) (List.Perm.cons _ (List.Perm.cons _ (List.perm_middle (l₁ := [ownE et (nth L i), ownC (nth L i)]))))
  have h3 := HS.node_in hi (nth L i).non h2
  have h4 := HS.node_out (L := L.set i (nth L i).non) (i := j) (by rw [List.length_set]; exact hj) h3 .here
  have h5 := h4.tail.tail
  have h6 := h5.perm (As' := ownE et (nth L i) :: ownC (nth L i) :: _ :: A1) (List.perm_middle (l₁ := [ownE et (nth L i), ownC (nth L i)])).symm
  have h7 := HS.node_in (L := L.set i (nth L i).non) (i := j) (by rw [List.length_set]; exact hj) { nth L i with us := us } h6
  rw [List.set_comm _ _ hne] at h7
  exact h7
theorem HS.node_move (hi : i < L.length) (hj : j < L.length) (hne : i ≠ j) (h : HS w0 M As w)
    (hp : Pick As (.blk gn nt' (cap * 3) (setMany (setMany (L.flatMap LNd.vals) (j * 3 + 1) [.slice (nth L i).ea (nth L i).es.length (nth L i).ec]) (j * 3 + 2) [.slice (nth L i).ca (nth L i).cs.length (nth L i).cc])) A1) (hp3 : Pick A1 (.star (L.map (subN et))) A3) :
    ∃ L', NdSet L L' j { nth L i with us := (nth L j).us } ∧ HS w0 M (.blk gn nt' (cap * 3) (L'.flatMap LNd.vals) :: .star ((L'.set i (nth L i).non).map (subN et)) :: A3) w := by
  refine ⟨_, ⟨hj, rfl⟩, ?_⟩
  have e := node_both hj (nth L i).ea (nth L i).ec (nth L i).es (nth L i).ca (nth L i).cc (nth L i).cs
  rw [← e]
  exact (HS.star_move hi hj hne (nth L j).us (h.pick hp) (.there hp3)).perm (List.Perm.swap ..)
theorem HS.node_low (hi : i < L.length) {ca : Option Addr} {cc : Nat} {cs : List Int} (h : HS w0 M As w)
    (hp : Pick As (.blk gn nt' (cap * 3) (setMany (setMany (L.flatMap LNd.vals) (i * 3 + 1) [.slice none 0 0]) (i * 3 + 2) [.slice ca cs.length cc])) A1) (hp2 : Pick A1 (.own (.slice ca cs.length cc) 3 1 cs.length (cs.flatMap inV)) A2) (hp3 : Pick A2 (.star ((L.set i ⟨(nth L i).us, none, 0, [], none, 0, []⟩).map (subN et))) A3) :
    ∃ L', NdSet L L' i ⟨(nth L i).us, none, 0, [], ca, cc, cs⟩ ∧ HS w0 M (.blk gn nt' (cap * 3) (L'.flatMap LNd.vals) :: .star (L'.map (subN et)) :: A3) w := by
  refine ⟨_, ⟨hi, rfl⟩, ?_⟩
  have e := node_both hi none 0 [] ca cc cs
  rw [← e]
  have h1 := HS.cs_put (L := L.set i ⟨(nth L i).us, none, 0, [], none, 0, []⟩) (i := i) (by rw [List.length_set]; exact hi) (h.pick hp) (.there hp2) (.there hp3)
  rw [nth_set_self hi, List.set_set] at h1
  exact h1.perm (List.Perm.swap ..)
end
theorem csN_esN {ns : List Nd} {i : Nat} (hi : i < ns.length) (es : List TEnt) (cs : List Int) : csN (esN ns i es) i cs = ns.set i ⟨(nth ns i).us, es, cs⟩ := by
  unfold csN
  rw [nth_esN hi, if_pos rfl, esN, List.set_set]
theorem lowN_eq {ns : List Nd} (h0 : 0 < ns.length) (hu : (nth ns 0).us = true) : (freN ns).1 ≠ 0 ∧ (freN ns).1 < (freN ns).2.length ∧ nth (freN ns).2 0 = nth ns 0 := ⟨freN_ne h0 hu, freN_lt ns, freN_nth h0 hu⟩
end Gx
namespace Go.Proofs
open Go Go.RowKit Gx
set_option linter.unusedVariables false
set_option linter.unusedSimpArgs false
attribute [local irreducible] Go.Calls Gx.S Gx.O Gx.D Gx.OpP Gx.OpQ Gx.OpH
set_option maxRecDepth 20000
theorem c135 (w : World) (bt : Nat) (j : Nat) (mo rm : Int) (gn cap : Nat) (L : List LNd) (hw : HS w (fps [.blk bt 112 6 (tbV (j : Int) mo rm (some ⟨gn, 0, none⟩) (L).length cap), .blk gn 102 (cap * 3) ((L).flatMap LNd.vals), .star ((L).map (subN 26))]) [.blk bt 112 6 (tbV (j : Int) mo rm (some ⟨gn, 0, none⟩) (L).length cap), .blk gn 102 (cap * 3) ((L).flatMap LNd.vals), .star ((L).map (subN 26))] w) (hnc : L.length ≤ cap) (hcm : cap ≤ maxLen) (h0 : 0 < L.length) (hl : L.length ≤ 1000) (hu : (nth (pln L) 0).us = true) : Calls Tryz.prog 135 #[.pointer (some ⟨bt, 0, none⟩)] w fun en w' => ∃ g : (Nat × Nat) × List LNd, en = .returned (.int .i64 ((freN (pln L)).1 : Int)) ∧ (pln g.2 = (lowN (pln L)).2 ∧ g.2.length ≤ g.1.2 ∧ g.1.2 ≤ maxLen) ∧ HS w (fps [.blk bt 112 6 (tbV (j : Int) mo rm (some ⟨gn, 0, none⟩) (L).length cap), .blk gn 102 (cap * 3) ((L).flatMap LNd.vals), .star ((L).map (subN 26))]) [.blk bt 112 6 (tbV (j : Int) mo rm (some ⟨g.1.1, 0, none⟩) (g.2).length g.1.2), .blk g.1.1 102 (g.1.2 * 3) ((g.2).flatMap LNd.vals), .star ((g.2).map (subN 26))] w' := by
 have hfl2 := freN_len (pln L)
 rw [pln_len] at hfl2
 obtain ⟨hne, hfl, hfn⟩ := lowN_eq (by rw [pln_len]; exact h0) hu
 refine enter (args := [_]) Tryz.func135 Tryz.ntmps135 rfl rfl hw ?_
 iterate 7 refine aS ?_
 refine o_h (h_callF (Cs := [.blk bt 112 6 (tbV (j : Int) mo rm (some ⟨gn, 0, none⟩) (L).length cap), .blk gn 102 (cap * 3) ((L).flatMap LNd.vals), .star ((L).map (subN 26))]) rfl fn_150 rfl aPs (fun w1 h1 hf => c150 w1 bt j mo rm gn cap L hf hnc hcm h0 hl)) rfl (fun ⟨⟨gn1, cap1⟩, L1⟩ hF1 => ?_)
 dsimp only
 obtain ⟨hL1, hn1, hm1⟩ := hF1
 simp only [] at hL1 hn1 hm1
 have hl1 : L1.length = (freN (pln L)).2.length := by rw [← hL1, pln_len]
 have hi1 : 0 < L1.length := by omega
 have ho1 : (freN (pln L)).1 < L1.length := by omega
 have hN1 : (nth L1 0).pl = nth (pln L) 0 := by rw [← pln_nth hi1, hL1, hfn]
 iterate 9 refine aS ?_
 refine o_p (p_indexAddr rfl rfl rfl sl_22 (0) (by omega) (by omega) rfl) rfl ?_
 refine o_slot (show _ = Value.pointer (some ⟨gn1, 0 * 3, none⟩) from by rw [Nat.zero_add]) ?_
 iterate 3 refine aS ?_
 refine s_draw [22, 25] mixed ?_
 refine dP 0 ?_
 refine dP 1 ?_
 refine dFa 2 ?_
 refine dFa 3 ?_
 refine dLd 4 [[], []] ?_
 refine dP 5 ?_
 refine dP 6 ?_
 refine dP 7 ?_
 refine dFa 8 ?_
 refine dFa 9 ?_
 refine dLd 10 [[], []] ?_
 refine dP 11 ?_
 refine dP 12 ?_
 refine dP 13 ?_
 refine dFa 14 ?_
 refine d_q 15 [[], []] rfl (q_load_at rfl rfl sz_77 (fun w h => HS.nd_cell hi1 h aPk 1 rfl (by decide))) (by kernel_rfl) (by kernel_rfl) (by kernel_rfl) rfl ?_
 refine dP 16 ?_
 refine dP 17 ?_
 refine dFa 18 ?_
 refine d_q 19 [[], []] rfl (q_load_at rfl rfl sz_30 (fun w h => HS.nd_cell hi1 h aPk 2 rfl (by decide))) (by kernel_rfl) (by kernel_rfl) (by kernel_rfl) rfl ?_
 refine d_p 20 rfl (p_indexAddr rfl rfl rfl sl_22 _ rfl (by omega) rfl) (by kernel_rfl) rfl rfl ?_
 refine d_slot (show _ = Value.pointer (some ⟨gn1, (freN (pln L)).1 * 3, none⟩) from by rw [Nat.zero_add]) ?_
 refine dFa 21 ?_
 refine dSt 22 ?_ (hl := (by rw [flat_length nv3]; show _ + 1 ≤ _; omega))
 refine dTu [25] ?_
 refine d_p 23 rfl (p_indexAddr rfl rfl rfl sl_22 _ rfl (by omega) rfl) (by kernel_rfl) rfl rfl ?_
 refine d_slot (show _ = Value.pointer (some ⟨gn1, (freN (pln L)).1 * 3, none⟩) from by rw [Nat.zero_add]) ?_
 refine dFa 24 ?_
 refine d_h0 25 rfl (h_store rfl rfl rfl sz_30 rfl aPt (by rw [setMany_length, flat_length nv3]; show _ + 1 ≤ _; omega) rfl) (by kernel_rfl) (fun w h => h.ent aEt) (fun _ _ => ?_)
 refine dTu [] ?_
 refine dNi ?_
 refine aS ?_
 refine s_weaken (L' := [(2, _), (3, _), (4, _)]) aSx (fun _ h => h) ?_
 iterate 2 refine aS ?_
 refine o_ex (fun w h => HS.node_move (i := 0) (gn := gn1) (cap := cap1) hi1 ho1 (fun e => hne e.symm) h aPk aPk) fun L2 => ?_
 refine o_fact (fun w h => h.1) fun hS2 => ?_
 refine o_class (fun w h => h.2) ?_
 have hi2 : 0 < L2.length := by rw [hS2.len]; exact hi1
 have hN2 : nth L2 0 = nth L1 0 := hS2.other hi1 hne
 rw [← hN2]
 iterate 2 refine aS ?_
 refine o_h (h_buildSlice (cs := [_]) rfl rfl sl_30 zr_3 rfl rfl rfl) rfl (fun b1 _ => ?_)
 iterate 2 refine aS ?_
 refine o_h0 (h_store rfl rfl rfl sz_77 rfl aPt (by rw [flat_length nv3]; show _ + 1 ≤ _; omega) rfl) (fun _ _ => ?_)
 iterate 2 refine aS ?_
 refine o_h0 (h_store rfl rfl rfl sz_30 rfl aPt (by rw [setMany_length, flat_length nv3]; show _ + 1 ≤ _; omega) rfl) (fun _ _ => ?_)
 iterate 6 refine aS ?_
 exact s_retv (rs := [.tmp 2]) rfl (.tmp rfl (.nil)) (fun w' h' => by obtain ⟨LC, hSC, hC⟩ := HS.node_low (i := 0) (gn := gn1) (cap := cap1) (ca := some ⟨b1, 0, none⟩) (cc := 1) (cs := [((freN (pln L)).1 : Int)]) hi2 (HS.own_shut (t := 3) (sz := 1) (n := 1) (cap := 1) (h'.pick (A := .blk b1 3 (1 * 1) (inV ((freN (pln L)).1 : Int))) aPk) rfl (by decide) (by decide)) (.there aPk) .here aPk; exact ⟨((gn1, cap1), LC), rfl, ⟨by have e2 : pln L2 = csN (esN (pln L1) (freN (pln L)).1 (nth (pln L) 0).es) (freN (pln L)).1 (nth (pln L) 0).cs := (by rw [csN_esN (by rw [pln_len]; exact ho1), hS2.pl, pln_nth ho1, ← hN1]; rfl); rw [hSC.pl, lowN, ← hL1, ← e2, csN_esN (by rw [pln_len]; exact hi2), pln_nth hi2]; rfl, by simp only []; rw [hSC.len, hS2.len]; exact hn1, hm1⟩, by simp only []; rw [hSC.len, hS2.len]; exact hC.ent aEt⟩)
end Go.Proofs
namespace Gx
open Go Go.RowKit
set_option linter.unusedVariables false
def HA.obj (b : Nat) (o : Obj) : HA := ⟨[b], fun w => w.heap[b]? = some o, fun w w' h hk => (h b (List.mem_singleton.2 rfl)).trans hk⟩
section
variable {w0 w : World} {M : List Nat} {As As' : List HA}
theorem HS.allocObj (h : HS w0 M As w) (o : Obj) : HS w0 M (.obj w.heap.size o :: As) (w.alloc o) := h.alloc o _ rfl (World.alloc_heap_new w o)
theorem HS.obj_get {b : Nat} {o : Obj} (h : HS w0 M As w) (hp : Pick As (.obj b o) As') : w.heap[b]? = some o := h.ok _ hp.mem
theorem HS.putObj {b : Nat} {o : Obj} (h : HS w0 M As w) (hp : Pick As (.obj b o) As') (o' : Obj) : HS w0 M (.obj b o' :: As') (w.putObj b o') := by
  have h1 := h.pick hp
  have hb : w.heap[b]? = some o := h1.head
  have hlt : b < w.heap.size := (Array.getElem?_eq_some_iff.1 hb).1
  refine h1.swap (fun _ hx => hx) rfl rfl rfl (by simp [World.putObj]) (fun c hc => World.putObj_heap_other (fun e => hc (by subst e; exact List.mem_singleton.2 rfl))) (World.putObj_heap_same hlt)
end
def YieldTo (P : Program) (l : Nat) (args : Array Value) (w : World) (R : Ending → World → Prop) : Prop :=
  ∃ f tmps assign body, (Instr.yield l args).run P w = .ok (.round l f tmps assign body) w ∧ RoundIn Fence.wide 0 P l f tmps assign body w R
section
variable {P : Program} {o : Oper} {L : Slots}
theorem h_yield {C : World → Prop} {G : Type} {V : G → Value} {F : G → Prop} {C' : G → World → Prop} {x : Operand} {args : Array Operand} {vs : List Value} {ts : Array TypeId} {l : Nat} (ho : o.op = .call { callee := .value x, args := args, argTypes := ts }) (hx : ev L x = some (.func (.yield l) #[] #[]))
    (ha : evs L args.toList = some vs) (hy : ∀ w, C w → YieldTo P l vs.toArray w fun e w' => ∃ g, e = .returned (V g) ∧ F g ∧ C' g w') : OpH P o L C V F C' := by
  intro ρ w hρ hw
  obtain ⟨f, tmps, assign, body, hr, hR⟩ := hy w hw
  have e1 : args.map ρ = vs.toArray := by rw [← evs_map hρ ha, ← List.map_toArray]
  unfold execOp
  simp only [ho, resolve, Sem.run_bind, hρ _ _ hx, Deferred.ofValue, e1, Sem.run_pure, Result.andThen_ok, invoke, Array.empty_append, hr]
  exact RoundIn.mono hR fun e w' ⟨g, he, hf, hc⟩ => ⟨V g, he, g, rfl, hf, hc⟩
end
def rdy (fid : FuncId) (tmps : Array Value) (ps : Array Tmp) (assign body : Code) (D : Nat) : Loop := { state := .ready, pending := none, fn := fid, tmps := tmps, params := ps, assign := assign, body := body, defers := D }
theorem y_round {P : Program} {fn : Func} {n l D : Nat} {fid : FuncId} {tmps : Array Value} {ps : Array Tmp} {assign body : Code} {args : Array Value} {L0 L1 : Slots} {w0 W : World} {M : List Nat} {As As1 : List HA} {Rr : Ending → World → Prop}
    (hC : HS w0 M (.obj l (.loop (rdy fid tmps ps assign body D)) :: As) W) (hps : args.size = ps.size) (hf : FR n [] L0 { tmps := (ps.zip args).foldl (fun t (p, v) => t.setIfInBounds p v) tmps, defers := [] })
    (h1 : S { P := P, fn := fn, n := n, R := fun _ _ => False, rd := some l } [.c assign, .join (At n [] (fun _ : Unit => L1) (fun _ => HS w0 M (.obj l (.loop (rdy fid tmps ps assign body D)) :: As1)))] L0 (HS w0 M (.obj l (.loop (rdy fid tmps ps assign body D)) :: As)))
    (h2 : S { P := P, fn := fn, n := n, R := Rr, rd := some l } [.c body] L1 (HS w0 M (.obj l (.loop { rdy fid tmps ps assign body D with state := .busy }) :: As1))) : YieldTo P l args W Rr := by
  refine ⟨fid, _, assign, body, run_yield (hC.obj_get .here) hps, roundIn_of_wpIn trivial ?_⟩
  refine wpIn_mono (h1 _ W hf hC) fun e a w he => ?_
  cases e with
  | normal =>
    obtain ⟨_, hfr, hc⟩ := he
    exact ⟨_, run_beginRound (hc.obj_get .here) rfl, h2 _ _ hfr (hc.putObj .here _)⟩
  | ret => obtain ⟨v, w', _, hx⟩ := he; exact hx
  | exit id => obtain ⟨v, w', _, hx⟩ := he; exact hx
  | goto t => obtain ⟨v, w', _, hx⟩ := he; exact hx
  | panic ch => exact he
  | outgrown => exact he
theorem FR.round1 {n : Nat} {L : Slots} {a : Act} (h : FR n [] L a) (d : Nat) (v : Value) (hd : Nat.blt d n = true) : FR n [] ((d, v) :: L) { tmps := ((#[d] : Array Tmp).zip #[v]).foldl (fun t (p, v) => t.setIfInBounds p v) a.tmps, defers := [] } := by
  have h1 := h.put d v hd
  have e : ((#[d] : Array Tmp).zip #[v]).foldl (fun t (p, v) => t.setIfInBounds p v) a.tmps = a.tmps.setIfInBounds d v := by simp
  rw [e]
  exact ⟨rfl, h1.size, h1.slot⟩
section
variable {X : Ctx} {k : List KI} {L : Slots} {w0 : World} {M : List Nat} {As As' : List HA}
theorem s_end_round {C : World → Prop} {l : Nat} (hrd : X.rd = some l) (h : ∀ w, C w → ∃ r, w.heap[l]? = some (.loop r) ∧ X.R (.returned (.bool true)) (w.putObj l (.loop { r with state := .ready, pending := none }))) : S X [] L C := by
  intro a w ha hw
  show (match X.rd with | none => bodyPostM X.F 0 X.P X.fn X.R .normal a w | some l => roundPost X.P l X.R .normal a w)
  rw [hrd]
  obtain ⟨r, h1, h2⟩ := h w hw
  exact ⟨_, _, run_endRound none h1, h2⟩
theorem s_end_rd {l D : Nat} {fid : FuncId} {tmps : Array Value} {ps : Array Tmp} {assign body : Code} (hrd : X.rd = some l) (hp : Pick As (.obj l (.loop { rdy fid tmps ps assign body D with state := .busy })) As') (h : ∀ w, HS w0 M (.obj l (.loop (rdy fid tmps ps assign body D)) :: As') w → X.R (.returned (.bool true)) w) : S X [] L (HS w0 M As) :=
  s_end_round hrd fun w hw => ⟨_, hw.obj_get hp, h _ (hw.putObj hp _)⟩
theorem post_df (d : List Nat) : ∀ k, post { X with df := d } k = post X k
  | [] => by funext e a w; rfl
  | Sum.inl c :: k => by funext e a w; cases e <;> simp only [post, post_df d k]
  | Sum.inr (Sum.inl id) :: k => by funext e a w; cases e <;> simp only [post, post_df d k]
  | Sum.inr (Sum.inr J) :: k => by funext e a w; cases e <;> simp only [post, post_df d k]
theorem s_range {g : Operand} {ps : Array Tmp} {assign body : Code} {gf : FuncId} {lb : Array Value} {G : Type} {Bs : G → List HA} (hrd : X.rd = none) (hdf : X.df = []) (hg : ev L g = some (.func (.func gf) #[] lb)) (hfn : isFn X.P gf = true)
    (hit : ∀ (fid : FuncId) (D l : Nat) (a : Act) (w1 : World) (ob : Obj), ob = .loop (rdy fid a.tmps ps assign body D) → FR X.n [] L a → HS w0 M (.obj l ob :: .obj D (.deferred (some [])) :: As) w1 →
      Calls X.P gf (#[.func (.yield l) #[] #[]] ++ lb) w1 fun e w2 => (∃ v, e = .returned v) ∧ ∃ x, HS w0 M (.obj l ob :: .obj D (.deferred (some [])) :: Bs x) w2)
    (next : ∀ D x, S { X with df := [D] } k L (HS w0 M (.obj D (.deferred (some [])) :: Bs x))) : S X (.c (.rangeFunc g ps assign body) :: k) L (HS w0 M As) := by
  intro a w ha hw
  have ha0 : FR X.n [] L a := by rw [← hdf]; exact ha
  refine wpIn_rangeFunc (F := X.F) (n := 0) fun fid _ => ?_
  have hro : X.F.round = none := hrd
  rw [hro]
  have hw1 := (hw.allocObj (.deferred (some []))).allocObj (.loop (rdy fid a.tmps ps assign body w.heap.size))
  rw [World.size_alloc] at hw1
  have hen := run_enterLoop_outer (P := X.P) (w := w) fid a.tmps ps assign body
  obtain ⟨W1, hW1⟩ : ∃ W1, (w.alloc (.deferred (some []))).alloc (.loop (rdy fid a.tmps ps assign body w.heap.size)) = W1 := ⟨_, rfl⟩
  rw [hW1] at hw1
  rw [show (Loop.mk .ready none fid a.tmps ps assign body w.heap.size) = rdy fid a.tmps ps assign body w.heap.size from rfl, hW1] at hen
  refine ⟨w.heap.size + 1, [{ target := .collected w.heap.size, args := #[] }], W1, { target := .fn (.func gf) lb, args := #[.func (.yield (w.heap.size + 1)) #[] #[]] }, W1, gf,
    #[.func (.yield (w.heap.size + 1)) #[] #[]] ++ lb, W1, hen, ?_, fun _ _ => trivial, ?_, fun h => (by cases h), ?_⟩
  · simp only [resolve, ha.evl hg]
    simp [go_sem]
  · simp [invoke, go_sem, callFunc_run hfn]
  · refine CallsIn.mono (X.callsIn (hit fid _ _ a _ _ rfl ha0 hw1)) fun e w2 he => ?_
    obtain ⟨⟨v, rfl⟩, x, hx⟩ := he
    refine ⟨none, _, run_endLoop (hx.obj_get .here) (by simp [rdy]), ?_⟩
    have h3 := next w.heap.size x { a with defers := [{ target := .collected w.heap.size, args := #[] }] ++ a.defers } _ ⟨by show _ ++ a.defers = _; rw [ha0.defers]; rfl, ha0.size, ha0.slot⟩ (hx.putObj .here (.loop { rdy fid a.tmps ps assign body w.heap.size with state := .exhausted })).tail
    rw [post_df] at h3
    exact h3
theorem s_retm {D : Nat} {rs : List ResultVar} {vs : List Value} (hr : X.fn.results = rs.toArray) (hp : Pick As (.obj D (.deferred (some []))) As') (hv : RV X.P L As' rs vs) (h : ∀ w, HS w0 M As' w → X.R (.returned (retV vs)) w) (hrd : X.rd = none := by rfl) (hdf : X.df = [D] := by rfl) : S X (.c .ret :: k) L (HS w0 M As) := by
  refine s_ret (se_ret_pop fun a w ha hw => ?_)
  show (match X.rd with | none => bodyPostM X.F 0 X.P X.fn X.R .ret a w | some l => roundPost X.P l X.R .ret a w)
  rw [hrd]
  show LeavesInM X.F 0 X.P X.fn a.tmps X.R a.defers .returning w
  rw [ha.defers, hdf]
  have h1 := (hw.putObj hp (.deferred none)).tail
  refine ⟨by simp, .inl ⟨D, _, rfl, run_takeDeferred (hw.obj_get hp), retV vs, ?_, h _ h1⟩⟩
  have hm := hv.run ha h1
  rw [results_eq hr, Array.mapM_eq_mapM_toList]
  simp only [Sem.run_bind, Sem.run_map, hm, Result.andThen_ok, Sem.run_pure]
  match vs with
  | [] => rfl
  | [v] => rfl
  | u :: v :: vs => simp [retV]
end
end Gx
namespace Gx
open Go Go.RowKit
set_option linter.unusedVariables false
set_option linter.unusedSectionVars false
theorem FR.round2 {n : Nat} {L : Slots} {a : Act} (h : FR n [] L a) (d d' : Nat) (v v' : Value) (hd : Nat.blt d n = true) (hd' : Nat.blt d' n = true) : FR n [] ((d', v') :: (d, v) :: L) { tmps := ((#[d, d'] : Array Tmp).zip #[v, v']).foldl (fun t (p, v) => t.setIfInBounds p v) a.tmps, defers := [] } := by
  have h1 := (h.put d v hd).put d' v' hd'
  have e : ((#[d, d'] : Array Tmp).zip #[v, v']).foldl (fun t (p, v) => t.setIfInBounds p v) a.tmps = (a.tmps.setIfInBounds d v).setIfInBounds d' v' := by simp
  rw [e]
  exact ⟨rfl, h1.size, h1.slot⟩
def HA.pure (p : Prop) : HA := ⟨[], fun _ => p, fun _ _ _ h => h⟩
section
variable {w0 w : World} {M : List Nat} {As As' : List HA} {p : Prop}
theorem HS.add_pure (hp : p) (h : HS w0 M As w) : HS w0 M (.pure p :: As) w :=
  ⟨h.os, h.tape, h.output, h.size, h.old, fun A hA => by
    rcases List.mem_cons.1 hA with rfl | hA
    · exact hp
    · exact h.ok A hA, fun A hA b hb => by
    rcases List.mem_cons.1 hA with rfl | hA
    · cases hb
    · exact h.lt A hA b hb, List.pairwise_cons.2 ⟨fun A _ b hb => (nomatch hb), h.sep⟩⟩
theorem HS.get_pure (h : HS w0 M As w) (hp : Pick As (.pure p) As') : p := (h.pick hp).head
theorem HS.rw_ownF {α : Type} [Inhabited α] {vals : α → List Value} {sz : Nat} (hv : ∀ x, (vals x).length = sz) {Cs Ds Es : List HA} {a : Option Addr} {cap n t : Nat} {l : List α} (h : HS w0 M As w) (hp : Picks As Cs Ds) (hp2 : Pick Ds (.own (.slice a n cap) t sz n (l.flatMap vals)) Es) (hn : n = l.length) : Rw vals sz w (fps Cs) a l := by
  subst hn
  refine ⟨fun hn => ?_⟩
  have h1 : HS w0 M (.own (.slice a l.length cap) t sz l.length (l.flatMap vals) :: (Cs ++ Es)) w := h.perm (hp.trans ((hp2.perm.append_left Cs).trans List.perm_middle))
  obtain ⟨g, cap', e, _, _, _, h2⟩ := h1.own_open' hn
  injection e with e1 e2 e3
  subst e1
  have h3 : HS w0 M (Cs ++ .blk g t (cap' * sz) (l.flatMap vals) :: Es) w := h2.perm List.perm_middle.symm
  refine ⟨g, 0, rfl, fun i hi => ⟨hv _, fun j v hjv => ?_⟩⟩
  have hj : j < sz := by
    rw [← hv (nth l i)]
    exact (List.getElem?_eq_some_iff.1 hjv).1
  have := HS.rd_blkF (i := i * sz + j) h3 (.refl _) .here (v := v) (by rw [flat_get hv l i j _ (nth_get hi) hj]; exact hjv)
  rw [Nat.zero_add]
  exact this
theorem s_endm {X : Ctx} {L : Slots} {D : Nat} (hr : X.fn.results = #[]) (hp : Pick As (.obj D (.deferred (some []))) As') (h : ∀ w, HS w0 M As' w → X.R (.returned (.tuple #[])) w) (hrd : X.rd = none := by rfl) (hdf : X.df = [D] := by rfl) : S X [] L (HS w0 M As) := by
  intro a w ha hw
  show (match X.rd with | none => bodyPostM X.F 0 X.P X.fn X.R .normal a w | some l => roundPost X.P l X.R .normal a w)
  rw [hrd]
  show LeavesInM X.F 0 X.P X.fn a.tmps X.R a.defers .returning w
  rw [ha.defers, hdf]
  have h1 := (hw.putObj hp (.deferred none)).tail
  exact ⟨by simp, .inl ⟨D, _, rfl, run_takeDeferred (hw.obj_get hp), .tuple #[], results_none hr _ _ _, h _ h1⟩⟩
end
theorem s_cutS {X : Ctx} {k : List KI} {L : Slots} {C : World → Prop} {α : Type} {c : Code} (md : List Nat) (Lm : α → Slots) (I : α → Prop) (h1 : S X (.c c :: .join (AtI X.n X.df (fun x => Lm x ++ dropL md L) (fun _ => C) I) :: k) L C) (h2 : ∀ x, I x → S X k (Lm x ++ dropL md L) C) : S X (.c c :: k) L C :=
  s_cutI md Lm (fun _ => C) I h1 h2
end Gx
namespace Gx
set_option linter.unusedSimpArgs false
set_option linter.unusedVariables false
set_option linter.unusedSectionVars false
open Go Go.RowKit
abbrev iN (P : List Nat) : List Int := P.map fun i : Nat => (i : Int)
theorem iN_get {P : List Nat} {k : Nat} (h : k < P.length) : (iN P).getD k 0 = ((nth P k : Nat) : Int) := by
  rw [getD_map (d := 0) h]
  rfl
theorem iN_nth {P : List Nat} {k : Nat} (h : k < P.length) : nth (iN P) k = ((nth P k : Nat) : Int) := iN_get h
theorem iN_len (P : List Nat) : (iN P).length = P.length := by simp
def GrwOk (mo : Int) : List Nd → List Nat → Prop
  | _, [] => True
  | ns, i :: P => (i < ns.length ∧ (0 < i → mo < ((nth ns i).es.length : Int) → SpOk mo ns i)) ∧ GrwOk mo (grw1 mo ns i) P
structure RootOk (mo rm : Int) (ns : List Nd) : Prop where
  lt : 0 < ns.length
  len : ns.length ≤ 900
  us : (nth ns 0).us = true
  spl : rm < ((nth ns 0).es.length : Int) → mo < ((nth (lowN ns).2 (lowN ns).1).es.length : Int) → SpOk mo (lowN ns).2 (lowN ns).1
theorem lowN_lt (ns : List Nd) : (lowN ns).1 < (lowN ns).2.length := Nat.lt_of_lt_of_le (freN_lt ns) (by unfold lowN; simp only [csN_len, esN_len]; exact Nat.le_refl _)
theorem rev_get {P : List Nat} {k : Nat} (h : k < P.length) : P.reverse[k]? = some (nth P (P.length - 1 - k)) := by
  rw [List.getElem?_reverse h]
  exact nth_get (by omega)
theorem rev_drop {P : List Nat} {k : Nat} (h : k < P.length) : P.reverse.drop k = nth P (P.length - 1 - k) :: P.reverse.drop (k + 1) := by
  have h1 : k < P.reverse.length := by rw [List.length_reverse]; exact h
  rw [List.drop_eq_getElem_cons h1]
  congr 1
  have := rev_get h
  rw [List.getElem?_eq_getElem h1] at this
  exact Option.some.inj this
theorem rev_take {P : List Nat} {k : Nat} (h : k < P.length) : P.reverse.take (k + 1) = P.reverse.take k ++ [nth P (P.length - 1 - k)] := by
  rw [List.take_add_one, rev_get h]
  rfl
theorem grwW_snoc (mo : Int) (ns : List Nd) (P : List Nat) (i : Nat) : grwW mo ns (P ++ [i]) = grw1 mo (grwW mo ns P) i := by
  unfold grwW
  rw [List.foldl_append]
  rfl
def leafN (co : Int) (ns : List Nd) (key : List UInt8) : Nat := nth (pathN co ns key).1 ((pathN co ns key).1.length - 1)
def insB (co : Int) (ns : List Nd) (x : TEnt) : List Nd := esN ns (leafN co ns x.key) (insAt (nth ns (leafN co ns x.key)).es (pathN co ns x.key).2.1 x)
def insT (co mo rm : Int) (ns : List Nd) (x : TEnt) : List Nd := if (pathN co ns x.key).2.2 = true then ns else grwN mo rm (insB co ns x) (pathN co ns x.key).1.reverse
def insE (co mo rm : Int) (ns : List Nd) (x : TEnt) : Int := if (pathN co ns x.key).2.2 = true then 5 else if (insT co mo rm ns x).length ≤ 120 then 0 else 16
structure InsOk (co mo rm : Int) (ns : List Nd) (x : TEnt) : Prop where
  ne : 0 < (pathN co ns x.key).1.length
  len : (pathN co ns x.key).1.length ≤ 900
  lf : leafN co ns x.key < ns.length
  es : (nth ns (leafN co ns x.key)).es.length ≤ 900
  pl : (pathN co ns x.key).2.1 ≤ (nth ns (leafN co ns x.key)).es.length
  grw : GrwOk mo (insB co ns x) (pathN co ns x.key).1.reverse
  root : RootOk mo rm (grwW mo (insB co ns x) (pathN co ns x.key).1.reverse)
section
variable {w0 w : World} {M : List Nat} {As As' : List HA} {a : Option Addr} {cap : Nat} {P : List Nat}
theorem HS.kids_some {l : List Int} (hn : 0 < l.length) (h : HS w0 M As w) (hp : Pick As (.kids a cap l) As') : ∃ g, a = some ⟨g, 0, none⟩ := by
  obtain ⟨g, e, _⟩ := HS.own_blk hn hp h
  exact ⟨g, e⟩
theorem HS.path_rd {k g : Nat} (hk : k < P.length) (hg : a = some ⟨g, 0, none⟩) (h : HS w0 M As w) (hp : Pick As (.kids a cap (iN P)) As') : Rd w [] g (0 + k * 1) (.int .i64 ((nth P k : Nat) : Int)) := by
  have h1 := Rw.rd (h.rw_own (vals := inV) (l := iN P) iv1 hp rfl) (i := k) (by rw [iN_len]; exact hk) 0 (.int .i64 ((nth P k : Nat) : Int)) (by rw [iN_nth hk]; rfl)
  rw [hg] at h1
  exact h1
end
theorem tok_key {co : Int} {ns : List Nd} (h : TOk co ns) : ∀ i, i < ns.length → ∀ x ∈ (nth ns i).es, keyOk co x.key = true ∧ x.key.length ≤ 1000000 := fun i hi x hx => by
  have h1 := entE_key (h.ents i hi x hx)
  have h2 := keyOk_len h1
  exact ⟨h1, by omega⟩
end Gx
namespace Go.Proofs
open Go Go.RowKit Gx
set_option linter.unusedVariables false
set_option linter.unusedSimpArgs false
attribute [local irreducible] Go.Calls Gx.S Gx.O Gx.D Gx.OpP Gx.OpQ Gx.OpH
set_option maxRecDepth 20000
theorem c104 (w : World) (a : Option Addr) (n cap : Nat) : Calls Tryz.prog 104 #[.slice a n cap] w fun en w' => ∃ g : Nat, en = .returned (.func (.func 140) #[] #[.pointer (some ⟨g, 0, none⟩)]) ∧ True ∧ HS w [] [.blk g 30 1 [.slice a n cap]] w' := by
 refine enter (args := [_]) Tryz.func104 Tryz.ntmps104 rfl rfl (HS.refl w []) ?_
 iterate 2 refine aS ?_
 refine oBx fun b1 _ => ?_
 iterate 7 refine aS ?_
 exact s_retv (rs := [.tmp 2]) rfl (.tmp rfl (.nil)) (fun w' h' => ⟨b1, rfl, trivial, h'.ent aEt⟩)
theorem c140 (w : World) {G : Type} (w0 : World) (M : List Nat) (Cs : Nat → G → List HA) (g0 : G) (l b1 : Nat) (P : List Nat) (a : Option Addr) (cap : Nat) (hl : P.length ≤ 100000) (hw : HS w0 M (Cs 0 g0) w) (hr : ∀ k g w, HS w0 M (Cs k g) w → Rd w [] b1 0 (.slice a P.length cap) ∧ Rw inV 1 w [] a (iN P)) (hy : ∀ k g w, k < P.length → HS w0 M (Cs k g) w → YieldTo Tryz.prog l #[.int .i64 ((P.length - 1 - k : Nat) : Int), .int .i64 (((nth P (P.length - 1 - k)) : Nat) : Int)] w fun e w' => ∃ g', e = .returned (.bool true) ∧ True ∧ HS w0 M (Cs (k + 1) g') w') : Calls Tryz.prog 140 #[.func (.yield l) #[] #[], .pointer (some ⟨b1, 0, none⟩)] w fun en w' => (∃ v, en = .returned v) ∧ ∃ x : G, HS w0 M (Cs P.length x) w' := by
 refine enter (args := [_, _]) Tryz.func140 Tryz.ntmps140 rfl rfl hw ?_
 iterate 2 refine aS ?_
 refine o_q (q_load_at rfl rfl sz_30 (fun w h => (hr _ _ w h).1)) rfl ?_
 iterate 2 refine aS ?_
 try refine oWr ?_
 iterate 3 refine aS ?_
 refine s_loopI (α := Nat × G) [3, 7, 8, 9, 10, 11, 12, 13, 14, 15, 16, 17, 18] (fun x => [(3, .int .i64 ((P.length : Int) - 1 - (x.1 : Int)))]) (fun x => HS w0 M (Cs x.1 x.2)) (fun x => x.1 ≤ P.length) (fun x => P.length - x.1) (0, g0) (Nat.zero_le _) (by refine sl_c (congrArg (fun e => some (Value.int .i64 e)) (show _ = _ from by simp only []; omega)) ?_; repeat (first | exact sl_n | refine sl_c rfl ?_)) (fun w h => h) (fun ⟨k, gg⟩ hk1 => ?_)
 dsimp only
 simp only [] at hk1
 iterate 4 refine aS ?_
 refine o_slot (show _ = Value.int .i64 (((P.length : Int) - 1 - (k : Int))) from rfl) ?_
 iterate 2 refine aS ?_
 refine s_cond rfl (fun h1 => ?_) fun h1 => ?_
 ·try simp only [decide_eq_true_eq] at h1
  have hk : k < P.length := by omega
  refine s_fact (fun w h => Rw.some (hr _ _ w h).2 (by rw [iN_len]; omega)) fun has => ?_
  iterate 7 refine aS ?_
  refine o_slot (show _ = Value.int .i64 ((P.length - 1 - k : Nat) : Int) from by congr 1; omega) ?_
  refine o_q (q_load_at rfl rfl sz_30 (fun w h => (hr _ _ w h).1)) rfl ?_
  refine aS ?_
  refine o_slot (show _ = Value.int .i64 ((P.length - 1 - k : Nat) : Int) from by congr 1; omega) ?_
  refine o_p (p_indexAddr rfl rfl rfl sl_30 (P.length - 1 - k) (by omega) (by omega) has) rfl ?_
  refine o_q (q_load_at rfl rfl sz_3 (fun w h => by have h9 := (hr _ _ w h).2.rdj 0 (i := P.length - 1 - k) (by rw [iN_len]; omega) rfl; rw [iN_nth (by omega)] at h9; exact h9)) rfl ?_
  refine o_h (h_yield rfl rfl rfl (fun w1 h1 => hy k gg w1 hk h1)) rfl (fun gy _ => ?_)
  iterate 2 refine aS ?_
  refine s_cond rfl (fun h2 => ?_) fun h2 => ?_
  ·try simp only [Bool.not_true] at h2
   exfalso; first | omega | (simp at h2; done) | (simp_all; done)
  try simp only [Bool.not_true] at h2
  iterate 5 refine aS ?_
  try refine oWr ?_
  iterate 2 refine aS ?_
  exact s_backI (k + 1, gy) (by (try simp only []); omega) (by (try simp only []); omega) (by refine sl_c (congrArg (fun e => some (Value.int .i64 e)) (show _ = _ from by simp only []; omega)) ?_; repeat (first | exact sl_n | refine sl_c rfl ?_)) (fun w h => h)
 try simp only [decide_eq_false_iff_not] at h1
 obtain rfl : k = P.length := by omega
 refine s_exit_to rfl ?_
 exact s_end0 rfl (fun w' h' => ⟨⟨_, rfl⟩, gg, h'⟩)
theorem fn_104 : isFn Tryz.prog 104 = true := by kernel_rfl
theorem fn_140 : isFn Tryz.prog 140 = true := by kernel_rfl
theorem fn_134 : isFn Tryz.prog 134 = true := by kernel_rfl
theorem fn_135 : isFn Tryz.prog 135 = true := by kernel_rfl
set_option maxHeartbeats 4000000 in
theorem c97 (w : World) (bt : Nat) (j : Nat) (mo rm : Int) (gn cap : Nat) (L : List LNd) (P : List Nat) (pa : Option Addr) (pc : Nat) (hw : HS w (fps [.blk bt 112 6 (tbV (j : Int) mo rm (some ⟨gn, 0, none⟩) (L).length cap), .blk gn 102 (cap * 3) ((L).flatMap LNd.vals), .star ((L).map (subN 26))]) [.blk bt 112 6 (tbV (j : Int) mo rm (some ⟨gn, 0, none⟩) (L).length cap), .blk gn 102 (cap * 3) ((L).flatMap LNd.vals), .star ((L).map (subN 26))] w) (hnc : L.length ≤ cap) (hcm : cap ≤ maxLen) (hP : Rw inV 1 w (fps [.blk bt 112 6 (tbV (j : Int) mo rm (some ⟨gn, 0, none⟩) (L).length cap), .blk gn 102 (cap * 3) ((L).flatMap LNd.vals), .star ((L).map (subN 26))]) pa (iN P)) (hpl : P.length ≤ 100000) (hok : GrwOk mo (pln L) P.reverse) (hroot : RootOk mo rm (grwW mo (pln L) P.reverse)) : Calls Tryz.prog 97 #[.pointer (some ⟨bt, 0, none⟩), .slice pa P.length pc] w fun en w' => ∃ g : (Nat × Nat) × List LNd, en = .returned (.tuple #[]) ∧ (pln g.2 = grwN mo rm (pln L) P.reverse ∧ g.2.length ≤ g.1.2 ∧ g.1.2 ≤ maxLen) ∧ HS w (fps [.blk bt 112 6 (tbV (j : Int) mo rm (some ⟨gn, 0, none⟩) (L).length cap), .blk gn 102 (cap * 3) ((L).flatMap LNd.vals), .star ((L).map (subN 26))]) [.blk bt 112 6 (tbV (j : Int) mo rm (some ⟨g.1.1, 0, none⟩) (g.2).length g.1.2), .blk g.1.1 102 (g.1.2 * 3) ((g.2).flatMap LNd.vals), .star ((g.2).map (subN 26))] w' := by
 refine enter (args := [_, _]) Tryz.func97 Tryz.ntmps97 rfl rfl hw ?_
 iterate 2 refine aS ?_
 refine oBx fun b1 _ => ?_
 iterate 5 refine aS ?_
 refine o_h (h_call rfl fn_104 rfl (fun w1 h1 => c104 w1 pa P.length pc)) rfl (fun b2 _ => ?_)
 iterate 2 refine aS ?_
 refine s_range (G := (Nat × Nat) × List LNd) (Bs := fun g => [.blk bt 112 6 (tbV (j : Int) mo rm (some ⟨g.1.1, 0, none⟩) (g.2).length g.1.2), .blk g.1.1 102 (g.1.2 * 3) ((g.2).flatMap LNd.vals), .star ((g.2).map (subN 26)), .blk b1 103 1 [.pointer (some ⟨bt, 0, none⟩)], .blk b2 30 1 [.slice pa P.length pc], .pure (pln (g.2) = grwW mo (pln L) (P.reverse.take P.length) ∧ GrwOk mo (pln (g.2)) (P.reverse.drop P.length) ∧ (g.2).length ≤ g.1.2 ∧ g.1.2 ≤ maxLen)]) rfl rfl rfl fn_140 (fun fid D l a9 w1 ob hob ha9 hw1 => ?_) (fun D x => ?_)
 ·skip
  refine (c140 w1 w (fps [.blk bt 112 6 (tbV (j : Int) mo rm (some ⟨gn, 0, none⟩) (L).length cap), .blk gn 102 (cap * 3) ((L).flatMap LNd.vals), .star ((L).map (subN 26))]) (fun k g => .obj l ob :: .obj D (.deferred (some [])) :: [.blk bt 112 6 (tbV (j : Int) mo rm (some ⟨g.1.1, 0, none⟩) (g.2).length g.1.2), .blk g.1.1 102 (g.1.2 * 3) ((g.2).flatMap LNd.vals), .star ((g.2).map (subN 26)), .blk b1 103 1 [.pointer (some ⟨bt, 0, none⟩)], .blk b2 30 1 [.slice pa P.length pc], .pure (pln (g.2) = grwW mo (pln L) (P.reverse.take k) ∧ GrwOk mo (pln (g.2)) (P.reverse.drop k) ∧ (g.2).length ≤ g.1.2 ∧ g.1.2 ≤ maxLen)]) ((gn, cap), L) l b2 P pa pc hpl ?_ ?_ (fun k g w2 hk h2 => ?_)).mono fun e w2 hx => ?_
  ·exact (HS.add_pure (p := pln L = grwW mo (pln L) (P.reverse.take 0) ∧ GrwOk mo (pln L) (P.reverse.drop 0) ∧ L.length ≤ cap ∧ cap ≤ maxLen) ⟨rfl, hok, hnc, hcm⟩ hw1).ent aEt
  ·exact fun k g w2 h2 => ⟨h2.rd_blk (i := 0) aPk rfl (by simp), hP.later h2⟩
  rotate_left
  ·exact hx
  subst hob
  obtain ⟨⟨ga, gc⟩, Lg⟩ := g
  dsimp only at h2
  obtain ⟨hg1, hg2, hg3, hg4⟩ := h2.get_pure aPk
  rw [rev_drop hk] at hg2
  obtain ⟨⟨hi, hsp⟩, hnx⟩ := hg2
  have hst : grwW mo (pln L) (P.reverse.take (k + 1)) = grw1 mo (pln Lg) (nth P (P.length - 1 - k)) := by rw [rev_take hk, grwW_snoc, ← hg1]
  rw [pln_len] at hi
  rw [pln_nth hi] at hsp
  simp only [LNd.pl] at hsp
  refine y_round (fn := Tryz.f97) (As1 := .obj D (.deferred (some [])) :: [.blk bt 112 6 (tbV (j : Int) mo rm (some ⟨ga, 0, none⟩) (Lg).length gc), .blk ga 102 (gc * 3) ((Lg).flatMap LNd.vals), .star ((Lg).map (subN 26)), .blk b1 103 1 [.pointer (some ⟨bt, 0, none⟩)], .blk b2 30 1 [.slice pa P.length pc], .pure (pln (Lg) = grwW mo (pln L) (P.reverse.take k) ∧ GrwOk mo (pln (Lg)) (P.reverse.drop k) ∧ (Lg).length ≤ gc ∧ gc ≤ maxLen)]) (L1 := [(5, .int .i64 (((nth P (P.length - 1 - k)) : Nat) : Int)), (2, .pointer (some ⟨b1, 0, none⟩))]) h2 rfl (FR.round2 ha9 9 10 _ _ rfl rfl) ?_ ?_
  ·skip
   iterate 3 refine aS ?_
   exact s_join () aSx (fun w h => h.ent aEt)
  skip
  iterate 2 refine aS ?_
  refine s_cutS (α := Bool) [11, 12, 13, 14, 15, 16, 17, 18, 19, 20, 21, 22, 23, 24, 25, 26, 27, 28, 29, 30] (fun x => [(30, .bool x)]) (fun x => x = true ↔ (0 < (nth P (P.length - 1 - k)) ∧ mo < ((nth Lg (nth P (P.length - 1 - k))).es.length : Int))) ?_ ?_
  ·skip
   refine s_draw [] mixed ?_
   refine dP 0 ?_
   refine dP 1 ?_
   refine dP 2 ?_
   apply d_split 13
   ·exact rfl
   ·intro hg3
    have hs4 := hg3; try simp only [decide_eq_true_eq] at hs4
    refine d_qon 3 13 [] rfl rfl rfl hg3 (q_load rfl rfl sz_103 aPk rfl) (by kernel_rfl) (by kernel_rfl) (by kernel_rfl) rfl ?_
    refine dPo 4 13 hg3 ?_
    refine dFo 5 13 hg3 ?_
    refine dFo 6 13 hg3 ?_
    refine d_qon 7 13 [] rfl rfl rfl hg3 (q_load rfl rfl sz_22 aPk rfl) (by kernel_rfl) (by kernel_rfl) (by kernel_rfl) rfl ?_
    refine dPo 8 13 hg3 ?_
    refine d_pon 9 13 rfl rfl rfl hg3 (p_indexAddr rfl rfl rfl sl_22 ((nth P (P.length - 1 - k))) (by omega) (by omega) rfl) (by kernel_rfl) rfl rfl ?_
    refine d_slot (show _ = Value.pointer (some ⟨ga, (nth P (P.length - 1 - k)) * 3, none⟩) from by rw [Nat.zero_add]) ?_
    refine dFo 10 13 hg3 ?_
    refine d_qon 11 13 [] rfl rfl rfl hg3 (q_load_at rfl rfl sz_77 (fun w h => HS.nd_cell hi h aPk 1 rfl (by decide))) (by kernel_rfl) (by kernel_rfl) (by kernel_rfl) rfl ?_
    refine d_pon 12 13 rfl rfl rfl hg3 (p_len_slice rfl rfl Tryz.underlying77) (by kernel_rfl) rfl rfl ?_
    refine d_qon 13 13 [] rfl rfl rfl hg3 (q_load rfl rfl sz_103 aPk rfl) (by kernel_rfl) (by kernel_rfl) (by kernel_rfl) rfl ?_
    refine dPo 14 13 hg3 ?_
    refine dFo 15 13 hg3 ?_
    refine dFo 16 13 hg3 ?_
    refine d_qon 17 13 [] rfl rfl rfl hg3 (q_load rfl rfl sz_3 aPk rfl) (by kernel_rfl) (by kernel_rfl) (by kernel_rfl) rfl ?_
    refine dPo 18 13 hg3 ?_
    refine d_p 19 rfl (p_pickt rfl rfl hg3 rfl) (by kernel_rfl) rfl rfl ?_
    refine dNi ?_
    exact s_joinI (decide (((nth Lg (nth P (P.length - 1 - k))).es.length : Int) > mo)) (by rw [decide_eq_true_eq]; omega) aSx (fun w h => h.ent aEt)
   intro hg5
   have hs6 := hg5; try simp only [decide_eq_false_iff_not] at hs6
   refine dOf 3 13 hg5 ?_
   refine dOf 4 13 hg5 ?_
   refine dOf 5 13 hg5 ?_
   refine dOf 6 13 hg5 ?_
   refine dOf 7 13 hg5 ?_
   refine dOf 8 13 hg5 ?_
   refine dOf 9 13 hg5 ?_
   refine dOf 10 13 hg5 ?_
   refine dOf 11 13 hg5 ?_
   refine dOf 12 13 hg5 ?_
   refine dOf 13 13 hg5 ?_
   refine dOf 14 13 hg5 ?_
   refine dOf 15 13 hg5 ?_
   refine dOf 16 13 hg5 ?_
   refine dOf 17 13 hg5 ?_
   refine dOf 18 13 hg5 ?_
   refine d_p 19 rfl (p_pickf rfl rfl hg5 rfl) (by kernel_rfl) rfl rfl ?_
   refine dNi ?_
   exact s_joinI false (by constructor <;> intro h9 <;> first | (cases h9; done) | omega) aSx (fun w h => h.ent aEt)
  intro x hx
  refine s_cond rfl (fun h7 => ?_) fun h7 => ?_
  ·skip
   obtain ⟨hpos, hbig⟩ := hx.1 (by assumption)
   iterate 3 refine aS ?_
   refine o_h (h_callF (Cs := [.blk bt 112 6 (tbV (j : Int) mo rm (some ⟨ga, 0, none⟩) (Lg).length gc), .blk ga 102 (gc * 3) ((Lg).flatMap LNd.vals), .star ((Lg).map (subN 26))]) rfl fn_134 rfl aPs (fun w1 h1 hf => c134 w1 bt j mo rm ga gc Lg (nth P (P.length - 1 - k)) hf hg3 hg4 (hsp hpos hbig))) rfl (fun ⟨⟨g5, c5⟩, L5⟩ hF5 => ?_)
   iterate 2 refine aS ?_
   exact s_end_rd rfl aPk (fun w h => ⟨((g5, c5), L5), rfl, trivial, by exact (HS.add_pure (p := pln L5 = grwW mo (pln L) (P.reverse.take (k + 1)) ∧ GrwOk mo (pln L5) (P.reverse.drop (k + 1)) ∧ L5.length ≤ c5 ∧ c5 ≤ maxLen) ⟨by rw [hst, grw1, if_pos ⟨hpos, by rw [pln_nth hi]; exact hbig⟩]; exact hF5.1, by have h9 := hnx; rw [grw1, if_pos ⟨hpos, by rw [pln_nth hi]; exact hbig⟩] at h9; rw [hF5.1]; exact h9, hF5.2.1, hF5.2.2⟩ h).ent aEt⟩)
  skip
  have hno : ¬ (0 < (nth P (P.length - 1 - k)) ∧ mo < ((nth Lg (nth P (P.length - 1 - k))).es.length : Int)) := fun h9 => by have h8 := hx.2 h9; simp_all
  iterate 2 refine aS ?_
  exact s_end_rd rfl aPk (fun w h => ⟨((ga, gc), Lg), rfl, trivial, by exact (HS.add_pure (p := pln Lg = grwW mo (pln L) (P.reverse.take (k + 1)) ∧ GrwOk mo (pln Lg) (P.reverse.drop (k + 1)) ∧ Lg.length ≤ gc ∧ gc ≤ maxLen) ⟨by rw [hst, grw1, if_neg (by rw [pln_nth hi]; exact hno)], by have h9 := hnx; rw [grw1, if_neg (by rw [pln_nth hi]; exact hno)] at h9; exact h9, hg3, hg4⟩ h).ent aEt⟩)
 skip
 obtain ⟨⟨ga, gc⟩, LG⟩ := x
 dsimp only
 refine s_fact (fun w h => h.get_pure aPk) fun hpu => ?_
 obtain ⟨hLG, _, hg3, hg4⟩ := hpu
 rw [show P.length = P.reverse.length from (List.length_reverse ..).symm, List.take_length] at hLG
 have hiG : 0 < LG.length := by rw [← pln_len, hLG]; exact hroot.lt
 have hlG := hroot.len
 rw [← hLG, pln_len] at hlG
 iterate 2 refine aS ?_
 refine s_draw [] mixed ?_
 refine dLd 0 [] ?_
 refine dP 1 ?_
 refine dFa 2 ?_
 refine dFa 3 ?_
 refine dLd 4 [] ?_
 refine d_p 5 rfl (p_indexAddr rfl rfl rfl sl_22 (0) (by omega) (by omega) rfl) (by kernel_rfl) rfl rfl ?_
 refine d_slot (show _ = Value.pointer (some ⟨ga, 0 * 3, none⟩) from by rw [Nat.zero_add]) ?_
 refine dFa 6 ?_
 refine d_q 7 [] rfl (q_load_at rfl rfl sz_77 (fun w h => HS.nd_cell hiG h aPk 1 rfl (by decide))) (by kernel_rfl) (by kernel_rfl) (by kernel_rfl) rfl ?_
 refine d_p 8 rfl (p_len_slice rfl rfl Tryz.underlying77) (by kernel_rfl) rfl rfl ?_
 refine dLd 9 [] ?_
 refine dP 10 ?_
 refine dFa 11 ?_
 refine dFa 12 ?_
 refine dLd 13 [] ?_
 refine dP 14 ?_
 refine dNi ?_
 refine s_cond rfl (fun h8 => ?_) fun h8 => ?_
 ·try simp only [decide_eq_true_eq] at h8
  have hbigR : rm < ((nth (pln LG) 0).es.length : Int) := by rw [pln_nth hiG]; exact h8
  iterate 3 refine aS ?_
  refine o_h (h_callF (Cs := [.blk bt 112 6 (tbV (j : Int) mo rm (some ⟨ga, 0, none⟩) (LG).length gc), .blk ga 102 (gc * 3) ((LG).flatMap LNd.vals), .star ((LG).map (subN 26))]) rfl fn_135 rfl aPs (fun w1 h1 hf => c135 w1 bt j mo rm ga gc LG hf hg3 hg4 hiG (by omega) (by rw [hLG]; exact hroot.us))) rfl (fun ⟨⟨g6, c6⟩, L6⟩ hF6 => ?_)
  dsimp only
  obtain ⟨hL6, hn6, hm6⟩ := hF6
  simp only [] at hL6 hn6 hm6
  have ho6 : (freN (pln LG)).1 < L6.length := by rw [← pln_len, hL6, hLG]; exact lowN_lt _
  iterate 3 refine aS ?_
  refine s_draw [] mixed ?_
  refine dLd 0 [] ?_
  refine dP 1 ?_
  refine dFa 2 ?_
  refine dFa 3 ?_
  refine dLd 4 [] ?_
  refine dP 5 ?_
  refine d_p 6 rfl (p_indexAddr rfl rfl rfl sl_22 ((freN (pln LG)).1) (by omega) (by omega) rfl) (by kernel_rfl) rfl rfl ?_
  refine d_slot (show _ = Value.pointer (some ⟨g6, (freN (pln LG)).1 * 3, none⟩) from by rw [Nat.zero_add]) ?_
  refine dFa 7 ?_
  refine d_q 8 [] rfl (q_load_at rfl rfl sz_77 (fun w h => HS.nd_cell ho6 h aPk 1 rfl (by decide))) (by kernel_rfl) (by kernel_rfl) (by kernel_rfl) rfl ?_
  refine d_p 9 rfl (p_len_slice rfl rfl Tryz.underlying77) (by kernel_rfl) rfl rfl ?_
  refine dLd 10 [] ?_
  refine dP 11 ?_
  refine dFa 12 ?_
  refine dFa 13 ?_
  refine dLd 14 [] ?_
  refine dP 15 ?_
  refine dNi ?_
  refine s_cond rfl (fun h9 => ?_) fun h9 => ?_
  ·try simp only [decide_eq_true_eq] at h9
   have hbig2 : mo < ((nth (pln L6) (freN (pln LG)).1).es.length : Int) := by rw [pln_nth ho6]; exact h9
   refine s_weaken (L' := [(2, _), (6, _)]) aSx (fun _ h => h) ?_
   iterate 3 refine aS ?_
   refine o_h (h_callF (Cs := [.blk bt 112 6 (tbV (j : Int) mo rm (some ⟨g6, 0, none⟩) (L6).length c6), .blk g6 102 (c6 * 3) ((L6).flatMap LNd.vals), .star ((L6).map (subN 26))]) rfl fn_134 rfl aPs (fun w1 h1 hf => c134 w1 bt j mo rm g6 c6 L6 (freN (pln LG)).1 hf hn6 hm6 (by rw [hL6, hLG]; exact hroot.spl (by rw [← hLG]; exact hbigR) (by rw [← hLG, ← hL6]; exact hbig2)))) rfl (fun ⟨⟨g7, c7⟩, L7⟩ hF7 => ?_)
   refine aS ?_
   exact s_endm rfl aPk (fun w' h' => by first | exact ⟨((g7, c7), L7), rfl, ⟨by rw [grwN, ← hLG, grwR, if_pos hbigR, if_pos (by rw [← hL6]; exact hbig2), ← hL6]; exact hF7.1, hF7.2.1, hF7.2.2⟩, h'.ent aEt⟩ | exact ⟨((g6, c6), L6), rfl, ⟨by rw [grwN, ← hLG, grwR, if_pos hbigR, if_neg (by rw [← hL6]; exact hbig2n), ← hL6], hn6, hm6⟩, h'.ent aEt⟩ | exact ⟨((ga, gc), LG), rfl, ⟨by rw [grwN, ← hLG, grwR, if_neg hsmR], hg3, hg4⟩, h'.ent aEt⟩)
  try simp only [decide_eq_false_iff_not] at h9
  have hbig2n : ¬ mo < ((nth (pln L6) (freN (pln LG)).1).es.length : Int) := by rw [pln_nth ho6]; have hq := h9; simp only [LNd.pl]; omega
  refine aS ?_
  exact s_endm rfl aPk (fun w' h' => by first | exact ⟨((g7, c7), L7), rfl, ⟨by rw [grwN, ← hLG, grwR, if_pos hbigR, if_pos (by rw [← hL6]; exact hbig2), ← hL6]; exact hF7.1, hF7.2.1, hF7.2.2⟩, h'.ent aEt⟩ | exact ⟨((g6, c6), L6), rfl, ⟨by rw [grwN, ← hLG, grwR, if_pos hbigR, if_neg (by rw [← hL6]; exact hbig2n), ← hL6], hn6, hm6⟩, h'.ent aEt⟩ | exact ⟨((ga, gc), LG), rfl, ⟨by rw [grwN, ← hLG, grwR, if_neg hsmR], hg3, hg4⟩, h'.ent aEt⟩)
 try simp only [decide_eq_false_iff_not] at h8
 have hsmR : ¬ rm < ((nth (pln LG) 0).es.length : Int) := by rw [pln_nth hiG]; have hq := h8; simp only [LNd.pl]; omega
 refine aS ?_
 exact s_endm rfl aPk (fun w' h' => by first | exact ⟨((g7, c7), L7), rfl, ⟨by rw [grwN, ← hLG, grwR, if_pos hbigR, if_pos (by rw [← hL6]; exact hbig2), ← hL6]; exact hF7.1, hF7.2.1, hF7.2.2⟩, h'.ent aEt⟩ | exact ⟨((g6, c6), L6), rfl, ⟨by rw [grwN, ← hLG, grwR, if_pos hbigR, if_neg (by rw [← hL6]; exact hbig2n), ← hL6], hn6, hm6⟩, h'.ent aEt⟩ | exact ⟨((ga, gc), LG), rfl, ⟨by rw [grwN, ← hLG, grwR, if_neg hsmR], hg3, hg4⟩, h'.ent aEt⟩)
theorem fn_68 : isFn Tryz.prog 68 = true := by kernel_rfl
theorem fn_97 : isFn Tryz.prog 97 = true := by kernel_rfl
set_option maxHeartbeats 4000000 in
theorem c58 (w : World) (bt : Nat) (j : Nat) (mo rm : Int) (gn cap : Nat) (L : List LNd) (x : TEnt) (hw : HS w (fps [.blk bt 112 6 (tbV (j : Int) mo rm (some ⟨gn, 0, none⟩) (L).length cap), .blk gn 102 (cap * 3) ((L).flatMap LNd.vals), .star ((L).map (subN 26))]) [.blk bt 112 6 (tbV (j : Int) mo rm (some ⟨gn, 0, none⟩) (L).length cap), .blk gn 102 (cap * 3) ((L).flatMap LNd.vals), .star ((L).map (subN 26))] w) (hnc : L.length ≤ cap) (hcm : cap ≤ maxLen) (hj : j ≤ 3) (h0 : 0 < L.length) (hB : Bd (pln L)) (hT : TOk (j : Int) (pln L)) (hk : keyOk (j : Int) x.key = true) (hok : ¬ (pathN (j : Int) (pln L) x.key).2.2 = true → InsOk (j : Int) mo rm (pln L) x) : Calls Tryz.prog 58 #[.pointer (some ⟨bt, 0, none⟩), .agg #[.string (bs x.key), .string (bs x.val)]] w fun en w' => ∃ g : (Nat × Nat) × List LNd, en = .returned (.int .i64 (insE (j : Int) mo rm (pln L) x)) ∧ (pln g.2 = insT (j : Int) mo rm (pln L) x ∧ g.2.length ≤ g.1.2 ∧ g.1.2 ≤ maxLen) ∧ HS w (fps [.blk bt 112 6 (tbV (j : Int) mo rm (some ⟨gn, 0, none⟩) (L).length cap), .blk gn 102 (cap * 3) ((L).flatMap LNd.vals), .star ((L).map (subN 26))]) [.blk bt 112 6 (tbV (j : Int) mo rm (some ⟨g.1.1, 0, none⟩) (g.2).length g.1.2), .blk g.1.1 102 (g.1.2 * 3) ((g.2).flatMap LNd.vals), .star ((g.2).map (subN 26))] w' := by
 have hK : ∀ i, i < L.length → ∀ y ∈ (nth L i).es, keyOk (j : Int) y.key = true ∧ y.key.length ≤ 1000000 := fun i hi y hy => tok_key hT i (by rw [pln_len]; exact hi) y (by rw [pln_nth hi]; exact hy)
 have hkl : x.key.length ≤ 1000000 := by have := keyOk_len hk; omega
 refine enter (args := [_, _]) Tryz.func58 Tryz.ntmps58 rfl rfl hw ?_
 iterate 2 refine aS ?_
 refine oBx fun b1 _ => ?_
 iterate 7 refine aS ?_
 refine o_h (h_call rfl fn_68 rfl (fun w1 h1 => c68 w1 bt j mo rm (some ⟨gn, 0, none⟩) cap L x.key hj h0 hB hT hK hk hkl (HS.nt_at h1 aPk aPk) (HS.tbr h1 aPk))) rfl (fun ⟨pa, pc⟩ _ => ?_)
 dsimp only
 iterate 13 refine aS ?_
 refine s_cond rfl (fun h2 => ?_) fun h2 => ?_
 ·skip
  have hfd : (pathN (j : Int) (pln L) x.key).2.2 = true := h2
  iterate 4 refine aS ?_
  exact s_retv (rs := [.tmp 4]) rfl (.tmp rfl (.nil)) (fun w' h' => ⟨((gn, cap), L), by simp only [retV]; rw [insE, if_pos hfd], ⟨by simp only []; rw [insT, if_pos hfd], hnc, hcm⟩, h'.ent aEt⟩)
 skip
 have hfd : ¬ (pathN (j : Int) (pln L) x.key).2.2 = true := by have hq := h2; simp [hq]
 have hk9 := hok hfd
 have hne := hk9.ne
 have hlen9 := hk9.len
 have hlf := hk9.lf
 rw [pln_len] at hlf
 have hpl := hk9.pl
 rw [pln_nth hlf] at hpl
 have hes9 := hk9.es
 rw [pln_nth hlf] at hes9
 simp only [LNd.pl] at hpl hes9
 have hpn : (pathN (j : Int) (pln L) x.key).1.length - 1 < (pathN (j : Int) (pln L) x.key).1.length := by omega
 refine s_fact (fun w h => HS.kids_some (by rw [iN_len]; omega) h aPk) fun hpa => ?_
 obtain ⟨gp, hpa⟩ := hpa
 iterate 2 refine aS ?_
 refine s_draw [] mixed ?_
 refine dP 0 ?_
 refine dP 1 ?_
 refine dFa 2 ?_
 refine dFa 3 ?_
 refine dLd 4 [] ?_
 refine dP 5 ?_
 refine dP 6 ?_
 refine d_p 7 rfl (p_len_slice rfl rfl Tryz.underlying30) (by kernel_rfl) rfl rfl ?_
 refine dP 8 ?_
 try refine dWr ?_
 refine d_p 9 rfl (p_indexAddr rfl rfl rfl sl_30 ((pathN (j : Int) (pln L) x.key).1.length - 1) (by omega) (by omega) hpa) (by kernel_rfl) rfl rfl ?_
 refine d_q 10 [] rfl (q_load_at rfl rfl sz_3 (fun w h => HS.path_rd hpn hpa h aPk)) (by kernel_rfl) (by kernel_rfl) (by kernel_rfl) rfl ?_
 refine d_slot (show _ = Value.int .i64 (((leafN (j : Int) (pln L) x.key) : Nat) : Int) from rfl) ?_
 refine d_p 11 rfl (p_indexAddr rfl rfl rfl sl_22 ((leafN (j : Int) (pln L) x.key)) (by omega) (by omega) rfl) (by kernel_rfl) rfl rfl ?_
 refine d_slot (show _ = Value.pointer (some ⟨gn, (leafN (j : Int) (pln L) x.key) * 3, none⟩) from by rw [Nat.zero_add]) ?_
 refine dP 12 ?_
 refine dNi ?_
 refine aS ?_
 refine s_class (fun w h => HS.es_take hlf h aPk) ?_
 refine s_draw [8, 11] mixed ?_
 refine dP 0 ?_
 refine dP 1 ?_
 refine dP 2 ?_
 refine dFa 3 ?_
 refine d_q 4 [[], []] rfl (q_load_at rfl rfl sz_77 (fun w h => HS.nd_cell hlf h aPk 1 rfl (by decide))) (by kernel_rfl) (by kernel_rfl) (by kernel_rfl) rfl ?_
 refine dP 5 ?_
 refine dLn 6 [[7], []] ?_
 refine d_h 7 rfl (h_buildSlice (cs := [_, _]) rfl rfl sl_77 zr_26 rfl rfl rfl) (by kernel_rfl) (fun w h => h.ent aEt) rfl (fun b3 _ => ?_)
 refine dBa ?_
 refine d_h 8 rfl (h_callF (Cs := [.own (.slice ((nth L (leafN (j : Int) (pln L) x.key))).ea ((nth L (leafN (j : Int) (pln L) x.key))).es.length ((nth L (leafN (j : Int) (pln L) x.key))).ec) 26 2 ((nth L (leafN (j : Int) (pln L) x.key))).es.length (((nth L (leafN (j : Int) (pln L) x.key))).es.flatMap TEnt.vals), .blk b3 26 2 (TEnt.vals x)]) rfl fn_96 rfl aPs (fun w1 h1 hf => c96e w1 (nth L (leafN (j : Int) (pln L) x.key)).ea (pathN (j : Int) (pln L) x.key).2.1 (nth L (leafN (j : Int) (pln L) x.key)).ec (nth L (leafN (j : Int) (pln L) x.key)).es x b3 1 2 hf (by omega) hpl)) (by kernel_rfl) (fun w h => h.ent aEt) rfl (fun b4 _ => ?_)
 refine dTu [11] ?_
 refine dP 9 ?_
 refine dFa 10 ?_
 refine dSt 11 ?_ (hl := (by rw [flat_length nv3]; show _ + 1 ≤ _; omega))
 refine dTu [] ?_
 refine dNi ?_
 refine aS ?_
 refine s_weaken (L' := [(0, _), (4, _), (5, _)]) aSx (fun _ h => h) ?_
 iterate 2 refine aS ?_
 refine o_ex (fun w h => HS.es_setB (gn := gn) (cap := cap) (ea := b4.1) (ec := b4.2) (es := insAt (nth L (leafN (j : Int) (pln L) x.key)).es (pathN (j : Int) (pln L) x.key).2.1 x) hlf h aPk aPk aPk) fun L2 => ?_
 refine o_fact (fun w h => h.1) fun hS2 => ?_
 refine o_class (fun w h => h.2) ?_
 have hL2 : pln L2 = insB (j : Int) (pln L) x := by rw [hS2.es, insB, pln_nth hlf]; rfl
 refine o_class (C' := HS w (fps [.blk bt 112 6 (tbV (j : Int) mo rm (some ⟨gn, 0, none⟩) (L).length cap), .blk gn 102 (cap * 3) ((L).flatMap LNd.vals), .star ((L).map (subN 26))]) [.blk bt 112 6 (tbV (j : Int) mo rm (some ⟨gn, 0, none⟩) (L2).length cap), .blk gn 102 (cap * 3) ((L2).flatMap LNd.vals), .star ((L2).map (subN 26)), .kids pa pc (iN (pathN (j : Int) (pln L) x.key).1)]) (fun w2 h => by rw [hS2.len]; exact h.ent aEt) ?_
 refine aS ?_
 refine o_h (h_callF (Cs := [.blk bt 112 6 (tbV (j : Int) mo rm (some ⟨gn, 0, none⟩) (L2).length cap), .blk gn 102 (cap * 3) ((L2).flatMap LNd.vals), .star ((L2).map (subN 26))]) rfl fn_97 rfl aPs (fun w1 h1 hf => c97 w1 bt j mo rm gn cap L2 (pathN (j : Int) (pln L) x.key).1 pa pc hf (by rw [hS2.len]; exact hnc) hcm (HS.rw_ownF (n := (iN (pathN (j : Int) (pln L) x.key).1).length) iv1 h1 aPs aPk rfl) (by omega) (by rw [hL2]; exact hk9.grw) (by rw [hL2]; exact hk9.root))) rfl (fun ⟨⟨g5, c5⟩, L5⟩ hF5 => ?_)
 dsimp only
 obtain ⟨hL5, hn5, hm5⟩ := hF5
 simp only [] at hL5 hn5 hm5
 have hI : insT (j : Int) mo rm (pln L) x = pln L5 := by rw [insT, if_neg hfd, hL5, hL2]
 have hIl : (insT (j : Int) mo rm (pln L) x).length = L5.length := by rw [hI, pln_len]
 iterate 10 refine aS ?_
 refine o_q (q_call rfl fn_81 rfl (fun w1 h1 => c81 w1 _ _)) rfl ?_
 iterate 2 refine aS ?_
 exact s_retv (rs := [.tmp 4]) rfl (.tmp rfl (.nil)) (fun w' h' => ⟨((g5, c5), L5), by simp only [retV]; congr 2; rw [insE, if_neg hfd, hIl]; exact (Nat.lt_or_ge 120 L5.length).elim (fun h120 => by rw [if_neg (by omega), decide_eq_false (by omega)]; rfl) (fun h120 => by rw [if_pos h120, decide_eq_true (by omega)]; rfl), ⟨hI.symm, hn5, hm5⟩, h'.ent aEt⟩)
end Go.Proofs
namespace Gx
set_option linter.unusedSimpArgs false
set_option linter.unusedVariables false
set_option linter.unusedSectionVars false
open Go Go.RowKit
theorem set_nth_id {L : List LNd} {i : Nat} (hi : i < L.length) : L.set i (nth L i) = L := by
  apply List.ext_getElem?
  intro j
  rw [List.getElem?_set]
  split
  · rename_i h
    subst h
    rw [nth_get hi]
  · rfl
section
variable {w0 w : World} {M : List Nat} {As A1 A2 A3 : List HA} {et : Nat} {L : List LNd} {i t gn cap nt' : Nat} {y : LNd}
theorem HS.es_rdB {k g : Nat} (hi : i < L.length) (hne : t ≠ i) (hk : k < (nth L i).es.length) (hg : (nth L i).ea = some ⟨g, 0, none⟩) (h : HS w0 M As w) (hp : Pick As (.star ((L.set t y).map (subN et))) A1) : ∀ j v, (TEnt.vals (nth (nth L i).es k))[j]? = some v → Rd w [] g (0 + k * 2 + j) v := by
  have e := nth_set_other (L := L) hi hne y
  have h1 := HS.es_rd (L := L.set t y) (i := i) (k := k) (g := g) (by rw [List.length_set]; exact hi) (by rw [e]; exact hk) (by rw [e]; exact hg) h hp
  rw [e] at h1
  exact h1
theorem HS.cs_rdB {k g : Nat} (hi : i < L.length) (hne : t ≠ i) (hk : k < (nth L i).cs.length) (hg : (nth L i).ca = some ⟨g, 0, none⟩) (h : HS w0 M As w) (hp : Pick As (.star ((L.set t y).map (subN et))) A1) : Rd w [] g (0 + k * 1) (.int .i64 ((nth L i).cs.getD k 0)) := by
  have e := nth_set_other (L := L) hi hne y
  have h1 := HS.cs_rd (L := L.set t y) (i := i) (k := k) (g := g) (by rw [List.length_set]; exact hi) (by rw [e]; exact hk) (by rw [e]; exact hg) h hp
  rw [e] at h1
  exact h1
theorem HS.es_open {g : Nat} (hi : i < L.length) (hn : 0 < (nth L i).es.length) (hg : (nth L i).ea = some ⟨g, 0, none⟩) (h : HS w0 M As w) (hp : Pick As (.star (L.map (subN et))) A1) : HS w0 M (.blk g et ((nth L i).ec * 2) ((nth L i).es.flatMap TEnt.vals) :: .star ((L.set i (nth L i).noE).map (subN et)) :: A1) w := by
  obtain ⟨g', e, _, _, _, _, h1⟩ := HS.own_blk hn .here (HS.es_take hi h hp)
  rw [hg] at e
  injection e with e
  injection e with e
  subst e
  exact h1
theorem set_flat {es : List TEnt} {k : Nat} (hk : k < es.length) (x : TEnt) : setMany (es.flatMap TEnt.vals) (k * 2) (TEnt.vals x) = (es.set k x).flatMap TEnt.vals := by
  have h := flat_set ev2 es k 0 (TEnt.vals x) (nth es k) x (nth_get hk) rfl (by simp [TEnt.vals])
  rw [Nat.add_zero] at h
  exact h
theorem HS.es_upd {g k : Nat} {x : TEnt} (hi : i < L.length) (hk : k < (nth L i).es.length) (hg : (nth L i).ea = some ⟨g, 0, none⟩) (h : HS w0 M As w)
    (hp : Pick As (.blk g et ((nth L i).ec * 2) (setMany ((nth L i).es.flatMap TEnt.vals) (k * 2) (TEnt.vals x))) A1) (hp2 : Pick A1 (.star ((L.set i (nth L i).noE).map (subN et))) A2) (hp3 : Pick A2 (.blk gn nt' (cap * 3) (L.flatMap LNd.vals)) A3) (hc : (nth L i).es.length ≤ (nth L i).ec ∧ (nth L i).ec ≤ maxLen) :
    ∃ L', NdSet L L' i { nth L i with es := (nth L i).es.set k x } ∧ HS w0 M (.blk gn nt' (cap * 3) (L'.flatMap LNd.vals) :: .star (L'.map (subN et)) :: A3) w := by
  refine ⟨_, ⟨hi, rfl⟩, ?_⟩
  have h1 := h.pick hp
  rw [set_flat hk] at h1
  have e1 : ((nth L i).es.set k x).length = (nth L i).es.length := List.length_set
  have h2 := HS.own_shut (n := ((nth L i).es.set k x).length) h1 (flat_length ev2 _) (by rw [e1]; exact hc.1) hc.2
  have h3 := HS.es_back hi (es := (nth L i).es.set k x) h2 .here hp2
  have h4 := h3.pick (.there hp3)
  have e : (L.set i { nth L i with es := (nth L i).es.set k x }).flatMap LNd.vals = L.flatMap LNd.vals := by
    have e2 := node_es hi (nth L i).ea (nth L i).ec ((nth L i).es.set k x)
    rw [e1] at e2
    have e3 := node_es hi (nth L i).ea (nth L i).ec (nth L i).es
    have e4 : L.set i { nth L i with ea := (nth L i).ea, ec := (nth L i).ec, es := (nth L i).es } = L := set_nth_id hi
    rw [e4] at e3
    rw [← e2, e3]
  rw [e]
  have e5 : ({ nth L i with ea := some ⟨g, 0, none⟩, ec := (nth L i).ec, es := (nth L i).es.set k x } : LNd) = { nth L i with es := (nth L i).es.set k x } := by
    show LNd.mk _ _ _ _ _ _ _ = LNd.mk _ _ _ _ _ _ _
    rw [← hg]
  rw [e5] at h4
  exact h4
end
section
variable {w0 w : World} {M : List Nat} {As A1 A2 A3 : List HA} {et : Nat} {L : List LNd} {i gn cap nt' : Nat}
theorem HS.es_setA (hi : i < L.length) {ea : Option Addr} {ec : Nat} {x : TEnt} (h : HS w0 M As w) (hp : Pick As (.blk gn nt' (cap * 3) (setMany (L.flatMap LNd.vals) (i * 3 + 1) [.slice ea ((nth L i).es.length + 1) ec])) A1) (hp2 : Pick A1 (.own (.slice ea ((nth L i).es.length + 1) ec) et 2 ((nth L i).es.length + 1) ((nth L i).es.flatMap TEnt.vals ++ TEnt.vals x)) A2) (hp3 : Pick A2 (.star ((L.set i (nth L i).noE).map (subN et))) A3) :
    ∃ L', NdSet L L' i { nth L i with ea := ea, ec := ec, es := (nth L i).es ++ [x] } ∧ HS w0 M (.blk gn nt' (cap * 3) (L'.flatMap LNd.vals) :: .star (L'.map (subN et)) :: A3) w := by
  have e1 : ((nth L i).es ++ [x]).length = (nth L i).es.length + 1 := by simp
  have e2 : ((nth L i).es ++ [x]).flatMap TEnt.vals = (nth L i).es.flatMap TEnt.vals ++ TEnt.vals x := by simp
  have h1 := h.pick hp
  have h2 := h1.perm (List.Perm.cons _ hp2.perm)
  rw [← e1, ← e2] at h2
  exact HS.es_setB hi (es := (nth L i).es ++ [x]) h2 .here .here hp3
theorem HS.cs_setA (hi : i < L.length) {ca : Option Addr} {cc : Nat} {x : Int} (h : HS w0 M As w) (hp : Pick As (.blk gn nt' (cap * 3) (setMany (L.flatMap LNd.vals) (i * 3 + 2) [.slice ca ((nth L i).cs.length + 1) cc])) A1) (hp2 : Pick A1 (.own (.slice ca ((nth L i).cs.length + 1) cc) 3 1 ((nth L i).cs.length + 1) ((nth L i).cs.flatMap inV ++ inV x)) A2) (hp3 : Pick A2 (.star ((L.set i (nth L i).noC).map (subN et))) A3) :
    ∃ L', NdSet L L' i { nth L i with ca := ca, cc := cc, cs := (nth L i).cs ++ [x] } ∧ HS w0 M (.blk gn nt' (cap * 3) (L'.flatMap LNd.vals) :: .star (L'.map (subN et)) :: A3) w := by
  have e1 : ((nth L i).cs ++ [x]).length = (nth L i).cs.length + 1 := by simp
  have e2 : ((nth L i).cs ++ [x]).flatMap inV = (nth L i).cs.flatMap inV ++ inV x := by simp
  have h1 := h.pick hp
  have h2 := h1.perm (List.Perm.cons _ hp2.perm)
  rw [← e1, ← e2] at h2
  exact HS.cs_setB hi (cs := (nth L i).cs ++ [x]) h2 .here .here hp3
end
def givF (ns : List Nd) (p k f t : Nat) : List Nd :=
  let P := nth ns p; let F := nth ns f; let T := nth ns t
  let n := esN (esN (esN ns t (insAt T.es 0 (nth P.es k))) p (P.es.set k (nth F.es (F.es.length - 1)))) f (F.es.take (F.es.length - 1))
  if F.cs.length = 0 then n else csN (csN n t (insAt T.cs 0 (F.cs.getD (F.cs.length - 1) 0))) f (F.cs.take (F.cs.length - 1))
def givB (ns : List Nd) (p k f t : Nat) : List Nd :=
  let P := nth ns p; let F := nth ns f; let T := nth ns t
  let n := esN (esN (esN ns t (T.es ++ [nth P.es k])) p (P.es.set k (nth F.es 0))) f (others F.es 0)
  if F.cs.length = 0 then n else csN (csN n t (T.cs ++ [F.cs.getD 0 0])) f (others F.cs 0)
theorem givF_0 {ns : List Nd} {p k f t : Nat} {P F T : Nd} (hP : nth ns p = P) (hF : nth ns f = F) (hT : nth ns t = T) (h : F.cs.length = 0) : givF ns p k f t = esN (esN (esN ns t (insAt T.es 0 (nth P.es k))) p (P.es.set k (nth F.es (F.es.length - 1)))) f (F.es.take (F.es.length - 1)) := by
  subst hP hF hT
  exact if_pos h
theorem givF_1 {ns : List Nd} {p k f t : Nat} {P F T : Nd} (hP : nth ns p = P) (hF : nth ns f = F) (hT : nth ns t = T) (h : 0 < F.cs.length) : givF ns p k f t = csN (csN (esN (esN (esN ns t (insAt T.es 0 (nth P.es k))) p (P.es.set k (nth F.es (F.es.length - 1)))) f (F.es.take (F.es.length - 1))) t (insAt T.cs 0 (F.cs.getD (F.cs.length - 1) 0))) f (F.cs.take (F.cs.length - 1)) := by
  subst hP hF hT
  exact if_neg (by omega)
theorem givB_0 {ns : List Nd} {p k f t : Nat} {P F T : Nd} (hP : nth ns p = P) (hF : nth ns f = F) (hT : nth ns t = T) (h : F.cs.length = 0) : givB ns p k f t = esN (esN (esN ns t (T.es ++ [nth P.es k])) p (P.es.set k (nth F.es 0))) f (others F.es 0) := by
  subst hP hF hT
  exact if_pos h
theorem givB_1 {ns : List Nd} {p k f t : Nat} {P F T : Nd} (hP : nth ns p = P) (hF : nth ns f = F) (hT : nth ns t = T) (h : 0 < F.cs.length) : givB ns p k f t = csN (csN (esN (esN (esN ns t (T.es ++ [nth P.es k])) p (P.es.set k (nth F.es 0))) f (others F.es 0)) t (T.cs ++ [F.cs.getD 0 0])) f (others F.cs 0) := by
  subst hP hF hT
  exact if_neg (by omega)
structure GivOk (ns : List Nd) (p k f t : Nat) : Prop where
  pl : p < ns.length
  fl : f < ns.length
  tl : t < ns.length
  pf : p ≠ f
  pt : p ≠ t
  ft : f ≠ t
  ke : k < (nth ns p).es.length
  kc : k + 1 < (nth ns p).cs.length
  fe : 0 < (nth ns f).es.length
  len : ns.length ≤ 900
  sm : Sm 900 ns
end Gx
namespace Go.Proofs
open Go Go.RowKit Gx
set_option linter.unusedVariables false
set_option linter.unusedSimpArgs false
attribute [local irreducible] Go.Calls Gx.S Gx.O Gx.D Gx.OpP Gx.OpQ Gx.OpH
set_option maxRecDepth 20000
theorem c103b (w : World) (gg i j n cap : Nat) (xs : List Value) (M : List Nat) (hw : HS w M [.blk gg 26 (cap * 2) xs] w) (hnc : n ≤ cap) (hcm : cap ≤ maxLen) (hxl : xs.length = n * 2) (hx1 : ∀ u ∈ xs, u.oneCell' = true) (hmx : n ≤ 9223372036854775807) (hij : i < j) (hjn : j ≤ n) : Calls Tryz.prog 103 #[.slice (some ⟨gg, 0, none⟩) n cap, .int .i64 i, .int .i64 j] w fun en w' => en = .returned (.slice (some ⟨gg, 0, none⟩) (n - (j - i)) cap) ∧ HS w M [.own (.slice (some ⟨gg, 0, none⟩) (n - (j - i)) cap) 26 2 (n - (j - i)) (xs.take (i * 2) ++ xs.drop (j * 2))] w' := by
 refine enter (args := [_, _, _]) Tryz.func103 Tryz.ntmps103 rfl rfl hw ?_
 iterate 11 refine aS ?_
 refine o_p (p_slice3 i j n rfl rfl rfl rfl rfl sl_77 rfl rfl rfl (by omega) (by omega) (by omega)) rfl ?_
 iterate 8 refine aS ?_
 refine s_cond rfl (fun h1 => ?_) fun h1 => ?_
 ·try simp only [decide_eq_true_eq] at h1
  exfalso; first | omega | (simp at h1; done) | (simp_all; done)
 try simp only [decide_eq_false_iff_not] at h1
 iterate 8 refine aS ?_
 refine s_draw [6] mixed ?_
 refine dP 0 ?_
 refine dP 1 ?_
 refine d_p 2 rfl (p_slice _ _ 0 i rfl rfl sl_77 rfl ⟨_, _, rfl, rfl⟩ (by omega) (by omega)) (by kernel_rfl) rfl rfl ?_
 refine d_slot (show _ = Value.slice (some ⟨gg, 0, none⟩) i cap from by rw [subA_zero] <;> (congr 1 <;> omega)) ?_
 refine dP 3 ?_
 refine dP 4 ?_
 refine d_p 5 rfl (p_slice _ _ j n rfl rfl sl_77 ⟨_, _, rfl, rfl⟩ rfl (by omega) (by omega)) (by kernel_rfl) rfl rfl ?_
 refine d_h 6 rfl (h_append_in (cut xs (j * 2) ((n - j) * 2)) rfl rfl rfl sl_77 Tryz.underlying77 aPt (by omega) (src_cut (j * 2) ((n - j) * 2) (fun hk => subA_lt (by omega)) aPk) (cut_length _ _ _ (by omega)) (by rw [cut_length _ _ _ (by omega)]; omega) (cut_one hx1 _ _)) (by kernel_rfl) (fun w h => h.ent aEt) rfl (fun _ _ => ?_)
 refine dTu [] ?_
 refine d_slot (show _ = Value.slice (some ⟨gg, 0, none⟩) (n - (j - i)) cap from by first | rfl | (congr 1 <;> first | rfl | omega)) ?_
 refine dP 7 ?_
 refine dNi ?_
 iterate 6 refine aS ?_
 refine o_p (p_slice _ _ (n - (j - i)) n rfl rfl sl_77 ⟨_, _, rfl, (by omega)⟩ ⟨_, _, rfl, rfl⟩ (by omega) (by omega)) rfl ?_
 refine o_slot (show _ = Value.slice (some ⟨gg, (n - (j - i)) * 2, none⟩) (j - i) (cap - (n - (j - i))) from by rw [subA_lt (by omega)] <;> (congr 1 <;> omega)) ?_
 refine o_h0 (h_clear rfl rfl sl_77 zr_26 rfl rfl (by simp) aPt (fun _ => rfl) (by simp only [setMany_length]; omega)) (fun _ _ => ?_)
 iterate 6 refine aS ?_
 exact s_retv (rs := [.tmp 6]) rfl (.tmp rfl (.nil)) (fun w' h' => ⟨rfl, (HS.to_own (n := n - (j - i)) (xs := xs.take (i * 2) ++ xs.drop (j * 2)) (ds := zrow [.string (bs []), .string (bs [])] ((j - i) * 2)) aPk h' (by have hq := del_in (xs := xs) (zs := zrow [.string (bs []), .string (bs [])] ((j - i) * 2)) (p := i * 2) (q := j * 2) (N := n * 2) hxl (by omega) (by omega) (by rw [zrow_length]; omega); rw [show (n - j) * 2 = n * 2 - j * 2 from by omega, show (n - (j - i)) * 2 = n * 2 - (j * 2 - i * 2) from by omega]; exact hq) (by simp only [List.length_append, List.length_take, List.length_drop]; omega) (by omega) (by omega)).ent aEt⟩)
theorem c103 (w : World) (a : Option Addr) (i j n cap : Nat) (xs : List Value) (hw : HS w (fps [.own (.slice a n cap) 26 2 n xs]) [.own (.slice a n cap) 26 2 n xs] w) (hx1 : ∀ u ∈ xs, u.oneCell' = true) (hmx : n ≤ 9223372036854775807) (hij : i < j) (hjn : j ≤ n) : Calls Tryz.prog 103 #[.slice a n cap, .int .i64 i, .int .i64 j] w fun en w' => ∃ g : Unit, en = .returned (.slice a (n - (j - i)) cap) ∧ True ∧ HS w (fps [.own (.slice a n cap) 26 2 n xs]) [.own (.slice a (n - (j - i)) cap) 26 2 (n - (j - i)) (xs.take (i * 2) ++ xs.drop (j * 2))] w' := by
  obtain ⟨gg, rfl, _, hnc, hcm, hxl, hb⟩ := hw.own_blk (by omega) .here
  exact (c103b w gg i j n cap xs _ hb hnc hcm hxl hx1 hmx hij hjn).mono fun en w' h => ⟨(), h.1, trivial, h.2⟩
theorem c152b (w : World) (gg i j n cap : Nat) (xs : List Value) (M : List Nat) (hw : HS w M [.blk gg 3 (cap * 1) xs] w) (hnc : n ≤ cap) (hcm : cap ≤ maxLen) (hxl : xs.length = n * 1) (hx1 : ∀ u ∈ xs, u.oneCell' = true) (hmx : n ≤ 9223372036854775807) (hij : i < j) (hjn : j ≤ n) : Calls Tryz.prog 152 #[.slice (some ⟨gg, 0, none⟩) n cap, .int .i64 i, .int .i64 j] w fun en w' => en = .returned (.slice (some ⟨gg, 0, none⟩) (n - (j - i)) cap) ∧ HS w M [.own (.slice (some ⟨gg, 0, none⟩) (n - (j - i)) cap) 3 1 (n - (j - i)) (xs.take (i * 1) ++ xs.drop (j * 1))] w' := by
 refine enter (args := [_, _, _]) Tryz.func152 Tryz.ntmps152 rfl rfl hw ?_
 iterate 11 refine aS ?_
 refine o_p (p_slice3 i j n rfl rfl rfl rfl rfl sl_30 rfl rfl rfl (by omega) (by omega) (by omega)) rfl ?_
 iterate 8 refine aS ?_
 refine s_cond rfl (fun h1 => ?_) fun h1 => ?_
 ·try simp only [decide_eq_true_eq] at h1
  exfalso; first | omega | (simp at h1; done) | (simp_all; done)
 try simp only [decide_eq_false_iff_not] at h1
 iterate 8 refine aS ?_
 refine s_draw [6] mixed ?_
 refine dP 0 ?_
 refine dP 1 ?_
 refine d_p 2 rfl (p_slice _ _ 0 i rfl rfl sl_30 rfl ⟨_, _, rfl, rfl⟩ (by omega) (by omega)) (by kernel_rfl) rfl rfl ?_
 refine d_slot (show _ = Value.slice (some ⟨gg, 0, none⟩) i cap from by rw [subA_zero] <;> (congr 1 <;> omega)) ?_
 refine dP 3 ?_
 refine dP 4 ?_
 refine d_p 5 rfl (p_slice _ _ j n rfl rfl sl_30 ⟨_, _, rfl, rfl⟩ rfl (by omega) (by omega)) (by kernel_rfl) rfl rfl ?_
 refine d_h 6 rfl (h_append_in (cut xs (j * 1) ((n - j) * 1)) rfl rfl rfl sl_30 Tryz.underlying30 aPt (by omega) (src_cut (j * 1) ((n - j) * 1) (fun hk => subA_lt (by omega)) aPk) (cut_length _ _ _ (by omega)) (by rw [cut_length _ _ _ (by omega)]; omega) (cut_one hx1 _ _)) (by kernel_rfl) (fun w h => h.ent aEt) rfl (fun _ _ => ?_)
 refine dTu [] ?_
 refine d_slot (show _ = Value.slice (some ⟨gg, 0, none⟩) (n - (j - i)) cap from by first | rfl | (congr 1 <;> first | rfl | omega)) ?_
 refine dP 7 ?_
 refine dNi ?_
 iterate 6 refine aS ?_
 refine o_p (p_slice _ _ (n - (j - i)) n rfl rfl sl_30 ⟨_, _, rfl, (by omega)⟩ ⟨_, _, rfl, rfl⟩ (by omega) (by omega)) rfl ?_
 refine o_slot (show _ = Value.slice (some ⟨gg, (n - (j - i)) * 1, none⟩) (j - i) (cap - (n - (j - i))) from by rw [subA_lt (by omega)] <;> (congr 1 <;> omega)) ?_
 refine o_h0 (h_clear rfl rfl sl_30 zr_3 rfl rfl (by simp) aPt (fun _ => rfl) (by simp only [setMany_length]; omega)) (fun _ _ => ?_)
 iterate 6 refine aS ?_
 exact s_retv (rs := [.tmp 6]) rfl (.tmp rfl (.nil)) (fun w' h' => ⟨rfl, (HS.to_own (n := n - (j - i)) (xs := xs.take (i * 1) ++ xs.drop (j * 1)) (ds := zrow [.int .i64 0] ((j - i) * 1)) aPk h' (by have hq := del_in (xs := xs) (zs := zrow [.int .i64 0] ((j - i) * 1)) (p := i * 1) (q := j * 1) (N := n * 1) hxl (by omega) (by omega) (by rw [zrow_length]; omega); rw [show (n - j) * 1 = n * 1 - j * 1 from by omega, show (n - (j - i)) * 1 = n * 1 - (j * 1 - i * 1) from by omega]; exact hq) (by simp only [List.length_append, List.length_take, List.length_drop]; omega) (by omega) (by omega)).ent aEt⟩)
theorem c152 (w : World) (a : Option Addr) (i j n cap : Nat) (xs : List Value) (hw : HS w (fps [.own (.slice a n cap) 3 1 n xs]) [.own (.slice a n cap) 3 1 n xs] w) (hx1 : ∀ u ∈ xs, u.oneCell' = true) (hmx : n ≤ 9223372036854775807) (hij : i < j) (hjn : j ≤ n) : Calls Tryz.prog 152 #[.slice a n cap, .int .i64 i, .int .i64 j] w fun en w' => ∃ g : Unit, en = .returned (.slice a (n - (j - i)) cap) ∧ True ∧ HS w (fps [.own (.slice a n cap) 3 1 n xs]) [.own (.slice a (n - (j - i)) cap) 3 1 (n - (j - i)) (xs.take (i * 1) ++ xs.drop (j * 1))] w' := by
  obtain ⟨gg, rfl, _, hnc, hcm, hxl, hb⟩ := hw.own_blk (by omega) .here
  exact (c152b w gg i j n cap xs _ hb hnc hcm hxl hx1 hmx hij hjn).mono fun en w' h => ⟨(), h.1, trivial, h.2⟩
theorem c103e (w : World) (a : Option Addr) (i cap : Nat) (l : List TEnt) (hw : HS w (fps [.own (.slice a l.length cap) 26 2 l.length (l.flatMap TEnt.vals)]) [.own (.slice a l.length cap) 26 2 l.length (l.flatMap TEnt.vals)] w) (hmax : l.length ≤ 100000) (hi : i < l.length) : Calls Tryz.prog 103 #[.slice a l.length cap, .int .i64 (i : Int), .int .i64 ((i : Int) + 1)] w fun en w' => ∃ g : Unit, en = .returned (.slice a (others l i).length cap) ∧ True ∧ HS w (fps [.own (.slice a l.length cap) 26 2 l.length (l.flatMap TEnt.vals)]) [.own (.slice a (others l i).length cap) 26 2 (others l i).length ((others l i).flatMap TEnt.vals)] w' := by
  have h := c103 w a i (i + 1) l.length cap (l.flatMap TEnt.vals) hw (flat_one ev1 l) (by omega) (by omega) (by omega)
  rw [oth_flat ev2, show l.length - (i + 1 - i) = (others l i).length by rw [oth_len hi]; omega] at h
  exact h
theorem c152e (w : World) (a : Option Addr) (i cap : Nat) (l : List Int) (hw : HS w (fps [.own (.slice a l.length cap) 3 1 l.length (l.flatMap inV)]) [.own (.slice a l.length cap) 3 1 l.length (l.flatMap inV)] w) (hmax : l.length ≤ 100000) (hi : i < l.length) : Calls Tryz.prog 152 #[.slice a l.length cap, .int .i64 (i : Int), .int .i64 ((i : Int) + 1)] w fun en w' => ∃ g : Unit, en = .returned (.slice a (others l i).length cap) ∧ True ∧ HS w (fps [.own (.slice a l.length cap) 3 1 l.length (l.flatMap inV)]) [.own (.slice a (others l i).length cap) 3 1 (others l i).length ((others l i).flatMap inV)] w' := by
  have h := c152 w a i (i + 1) l.length cap (l.flatMap inV) hw (flat_one iv1c l) (by omega) (by omega) (by omega)
  rw [oth_flat iv1, show l.length - (i + 1 - i) = (others l i).length by rw [oth_len hi]; omega] at h
  exact h
theorem fn_103 : isFn Tryz.prog 103 = true := by kernel_rfl
theorem fn_152 : isFn Tryz.prog 152 = true := by kernel_rfl
set_option maxHeartbeats 1000000 in
theorem c143a (w : World) (bt : Nat) (j : Nat) (mo rm : Int) (gn cap : Nat) (L : List LNd) (p k f t : Nat) (hw : HS w (fps [.blk bt 112 6 (tbV (j : Int) mo rm (some ⟨gn, 0, none⟩) (L).length cap), .blk gn 102 (cap * 3) ((L).flatMap LNd.vals), .star ((L).map (subN 26))]) [.blk bt 112 6 (tbV (j : Int) mo rm (some ⟨gn, 0, none⟩) (L).length cap), .blk gn 102 (cap * 3) ((L).flatMap LNd.vals), .star ((L).map (subN 26))] w) (hnc : L.length ≤ cap) (hcm : cap ≤ maxLen) (hok : GivOk (pln L) p k f t) (hcf : (nth (pln L) p).cs.getD k 0 = (f : Int)) (hct : (nth (pln L) p).cs.getD (k + 1) 0 = (t : Int)) : Calls Tryz.prog 143 #[.pointer (some ⟨bt, 0, none⟩), .int .i64 (p : Int), .int .i64 ((k + 1 : Nat) : Int), .bool true] w fun en w' => ∃ g : (Nat × Nat) × List LNd, en = .returned (.tuple #[]) ∧ (pln g.2 = givF (pln L) p k f t ∧ g.2.length ≤ g.1.2 ∧ g.1.2 ≤ maxLen) ∧ HS w (fps [.blk bt 112 6 (tbV (j : Int) mo rm (some ⟨gn, 0, none⟩) (L).length cap), .blk gn 102 (cap * 3) ((L).flatMap LNd.vals), .star ((L).map (subN 26))]) [.blk bt 112 6 (tbV (j : Int) mo rm (some ⟨g.1.1, 0, none⟩) (g.2).length g.1.2), .blk g.1.1 102 (g.1.2 * 3) ((g.2).flatMap LNd.vals), .star ((g.2).map (subN 26))] w' := by
 have hpl := hok.pl
 have hfl := hok.fl
 have htl := hok.tl
 have hln := hok.len
 rw [pln_len] at hpl hfl htl hln
 have hPN := pln_nth hpl
 have hFN := pln_nth hfl
 have hTN := pln_nth htl
 have hke := hok.ke
 have hkc := hok.kc
 have hfe := hok.fe
 have hpf := hok.pf
 have hpt := hok.pt
 have hft := hok.ft
 have hsp := hok.sm p
 have hsf := hok.sm f
 have hst := hok.sm t
 rw [hPN] at hke hkc hcf hct hsp
 rw [hFN] at hfe hsf
 rw [hTN] at hst
 simp only [LNd.pl] at hke hkc hfe hcf hct hsp hsf hst
 refine enter (args := [_, _, _, _]) Tryz.func143 Tryz.ntmps143 rfl rfl hw ?_
 iterate 8 refine aS ?_
 refine o_p (p_indexAddr rfl rfl rfl sl_22 (p) (by omega) (by omega) rfl) rfl ?_
 refine o_slot (show _ = Value.pointer (some ⟨gn, p * 3, none⟩) from by rw [Nat.zero_add]) ?_
 iterate 7 refine aS ?_
 refine s_cond rfl (fun h1 => ?_) fun h1 => ?_
 ·skip
  refine s_fact (fun w h => HS.cs_some hpl (by omega) h aPk) fun hgc => ?_
  obtain ⟨gc9, hgc⟩ := hgc
  refine s_fact (fun w h => HS.es_some hpl (by omega) h aPk) fun hge => ?_
  obtain ⟨gp9, hge⟩ := hge
  refine s_fact (fun w h => HS.es_some hfl (by omega) h aPk) fun hgf => ?_
  obtain ⟨gf9, hgf⟩ := hgf
  refine s_fact (fun w h => HS.es_room hpl h aPk) fun hrP => ?_
  refine s_fact (fun w h => HS.es_room hfl h aPk) fun hrF => ?_
  refine aS ?_
  refine s_draw [] mixed ?_
  refine dP 0 ?_
  refine dP 1 ?_
  refine dFa 2 ?_
  refine dFa 3 ?_
  refine dLd 4 [] ?_
  refine dP 5 ?_
  refine dP 6 ?_
  refine dFa 7 ?_
  refine d_q 8 [] rfl (q_load_at rfl rfl sz_30 (fun w h => HS.nd_cell hpl h aPk 2 rfl (by decide))) (by kernel_rfl) (by kernel_rfl) (by kernel_rfl) rfl ?_
  refine dP 9 ?_
  refine dP 10 ?_
  try refine dWr ?_
  refine d_p 11 rfl (p_indexAddr rfl rfl rfl sl_30 (k) (by omega) (by omega) hgc) (by kernel_rfl) rfl rfl ?_
  refine d_q 12 [] rfl (q_load_at rfl rfl sz_3 (fun w h => HS.cs_rd hpl (by omega) hgc h aPk)) (by kernel_rfl) (by kernel_rfl) (by kernel_rfl) rfl ?_
  refine d_slot (show _ = Value.int .i64 (f : Int) from by rw [hcf]) ?_
  refine d_p 13 rfl (p_indexAddr rfl rfl rfl sl_22 (f) (by omega) (by omega) rfl) (by kernel_rfl) rfl rfl ?_
  refine d_slot (show _ = Value.pointer (some ⟨gn, f * 3, none⟩) from by rw [Nat.zero_add]) ?_
  refine dP 14 ?_
  refine dP 15 ?_
  refine dFa 16 ?_
  refine dFa 17 ?_
  refine dLd 18 [] ?_
  refine dP 19 ?_
  refine dP 20 ?_
  refine dFa 21 ?_
  refine d_q 22 [] rfl (q_load_at rfl rfl sz_30 (fun w h => HS.nd_cell hpl h aPk 2 rfl (by decide))) (by kernel_rfl) (by kernel_rfl) (by kernel_rfl) rfl ?_
  refine dP 23 ?_
  refine d_p 24 rfl (p_indexAddr rfl rfl rfl sl_30 (k + 1) (by omega) (by omega) hgc) (by kernel_rfl) rfl rfl ?_
  refine d_q 25 [] rfl (q_load_at rfl rfl sz_3 (fun w h => HS.cs_rd hpl (by omega) hgc h aPk)) (by kernel_rfl) (by kernel_rfl) (by kernel_rfl) rfl ?_
  refine d_slot (show _ = Value.int .i64 (t : Int) from by rw [hct]) ?_
  refine d_p 26 rfl (p_indexAddr rfl rfl rfl sl_22 (t) (by omega) (by omega) rfl) (by kernel_rfl) rfl rfl ?_
  refine d_slot (show _ = Value.pointer (some ⟨gn, t * 3, none⟩) from by rw [Nat.zero_add]) ?_
  refine dP 27 ?_
  refine dP 28 ?_
  refine dNi ?_
  refine aS ?_
  refine s_weaken (L' := [(0, _), (2, _), (8, _), (9, _), (10, _)]) aSx (fun _ h => h) ?_
  iterate 4 refine aS ?_
  refine o_q (q_load_at rfl rfl sz_77 (fun w h => HS.nd_cell hfl h aPk 1 rfl (by decide))) rfl ?_
  iterate 2 refine aS ?_
  try refine oWr ?_
  iterate 3 refine aS ?_
  refine s_class (fun w h => HS.es_take htl h aPk) ?_
  refine s_draw [14, 17] mixed ?_
  refine dP 0 ?_
  refine dP 1 ?_
  refine dP 2 ?_
  refine dFa 3 ?_
  refine d_q 4 [[], []] rfl (q_load_at rfl rfl sz_77 (fun w h => HS.nd_cell htl h aPk 1 rfl (by decide))) (by kernel_rfl) (by kernel_rfl) (by kernel_rfl) rfl ?_
  refine dP 5 ?_
  refine dP 6 ?_
  refine dFa 7 ?_
  refine d_q 8 [[13, 12, 11], []] rfl (q_load_at rfl rfl sz_77 (fun w h => HS.nd_cell hpl h aPk 1 rfl (by decide))) (by kernel_rfl) (by kernel_rfl) (by kernel_rfl) rfl ?_
  refine dP 9 ?_
  refine dP 10 ?_
  try refine dWr ?_
  refine d_p 11 rfl (p_indexAddr rfl rfl rfl sl_77 (k) (by omega) (by omega) hge) (by kernel_rfl) rfl rfl ?_
  refine d_q 12 [[13], []] rfl (q_load_atn _ rfl rfl sz_26 rfl (fun w h => HS.es_rdB hpl (Ne.symm hpt) (by omega) hge h aPk)) (by kernel_rfl) (by kernel_rfl) (by kernel_rfl) rfl ?_
  refine d_h 13 rfl (h_buildSlice (cs := [_, _]) rfl rfl sl_77 zr_26 rfl rfl rfl) (by kernel_rfl) (fun w h => h.ent aEt) rfl (fun b2 _ => ?_)
  refine dBa ?_
  refine d_h 14 rfl (h_callF (Cs := [.own (.slice ((nth L t)).ea ((nth L t)).es.length ((nth L t)).ec) 26 2 ((nth L t)).es.length (((nth L t)).es.flatMap TEnt.vals), .blk b2 26 2 (TEnt.vals (nth (nth L p).es k))]) rfl fn_96 rfl aPs (fun w1 h1 hf9 => c96e w1 (nth L t).ea 0 (nth L t).ec (nth L t).es (nth (nth L p).es k) b2 1 2 hf9 (by omega) (by omega))) (by kernel_rfl) (fun w h => h.ent aEt) rfl (fun b3 _ => ?_)
  refine dTu [17] ?_
  refine dP 15 ?_
  refine dFa 16 ?_
  refine dSt 17 ?_ (hl := (by rw [flat_length nv3]; show _ + 1 ≤ _; omega))
  refine dTu [] ?_
  refine dNi ?_
  refine aS ?_
  refine s_ex (fun w h => HS.es_setB (gn := gn) (cap := cap) (ea := b3.1) (ec := b3.2) (es := insAt (nth L t).es 0 (nth (nth L p).es k)) htl h aPk aPk aPk) fun L1 => ?_
  refine s_fact (fun w h => h.1) fun hS1 => ?_
  refine s_class (fun w h => h.2) ?_
  have hp1 : p < L1.length := by rw [hS1.len]; exact hpl
  have hf1 : f < L1.length := by rw [hS1.len]; exact hfl
  have ht1 : t < L1.length := by rw [hS1.len]; exact htl
  have hP1 : nth L1 p = nth L p := hS1.other hpl (Ne.symm hpt)
  have hF1 : nth L1 f = nth L f := hS1.other hfl (Ne.symm hft)
  have hT1 := hS1.at_
  have hFl1 : (nth L1 f).es.length = (nth L f).es.length := by rw [hF1]
  have hPl1 : (nth L1 p).es.length = (nth L p).es.length := by rw [hP1]
  have hge1 : (nth L1 p).ea = some ⟨gp9, 0, none⟩ := by rw [hP1]; exact hge
  have hgf1 : (nth L1 f).ea = some ⟨gf9, 0, none⟩ := by rw [hF1]; exact hgf
  refine s_class (fun w h => HS.es_open hp1 (by rw [hP1]; omega) hge1 h aPk) ?_
  refine s_draw [14] mixed ?_
  refine dP 0 ?_
  refine dP 1 ?_
  refine dFa 2 ?_
  refine d_q 3 [[]] rfl (q_load_at rfl rfl sz_77 (fun w h => HS.nd_cell hp1 h aPk 1 rfl (by decide))) (by kernel_rfl) (by kernel_rfl) (by kernel_rfl) rfl ?_
  refine dP 4 ?_
  refine dP 5 ?_
  try refine dWr ?_
  refine dP 6 ?_
  refine dP 7 ?_
  refine dFa 8 ?_
  refine d_q 9 [[]] rfl (q_load_at rfl rfl sz_77 (fun w h => HS.nd_cell hf1 h aPk 1 rfl (by decide))) (by kernel_rfl) (by kernel_rfl) (by kernel_rfl) rfl ?_
  refine dP 10 ?_
  refine d_p 11 rfl (p_indexAddr rfl rfl rfl sl_77 (((nth L f).es.length - 1)) (by omega) (by omega) hgf1) (by kernel_rfl) rfl rfl ?_
  refine d_q 12 [[]] rfl (q_load_atn _ rfl rfl sz_26 rfl (fun w h => HS.es_rdB hf1 hpf (k := ((nth L f).es.length - 1)) (by rw [hF1]; omega) hgf1 h aPk)) (by kernel_rfl) (by kernel_rfl) (by kernel_rfl) rfl ?_
  refine d_p 13 rfl (p_indexAddr rfl rfl rfl sl_77 (k) (by omega) (by omega) hge1) (by kernel_rfl) rfl rfl ?_
  refine d_slot (show _ = Value.pointer (some ⟨gp9, k * 2, none⟩) from by rw [Nat.zero_add]) ?_
  refine dSt 14 ?_ (hl := (by rw [flat_length ev2]; show _ + 2 ≤ _; omega))
  refine dTu [] ?_
  refine dNi ?_
  refine aS ?_
  refine s_weaken (L' := [(0, _), (2, _), (8, _), (9, _), (10, _), (11, _)]) aSx (fun _ h => h) ?_
  iterate 2 refine aS ?_
  refine o_ex (fun w h => HS.es_upd (gn := gn) (cap := cap) (g := gp9) (k := k) (x := nth (nth L1 f).es ((nth L f).es.length - 1)) hp1 (by rw [hP1]; exact hke) hge1 h aPk aPk aPk (by rw [hP1]; exact hrP)) fun L2 => ?_
  refine o_fact (fun w h => h.1) fun hS2 => ?_
  refine o_class (fun w h => h.2) ?_
  have hf2 : f < L2.length := by rw [hS2.len]; exact hf1
  have ht2 : t < L2.length := by rw [hS2.len]; exact ht1
  have hF2 : nth L2 f = nth L f := by rw [hS2.other hf1 hpf, hF1]
  have hT2 := hS2.other ht1 hpt
  have hFl2 : (nth L2 f).es.length = (nth L f).es.length := by rw [hF2]
  have hFe2 : (nth L2 f).ec = (nth L f).ec := by rw [hF2]
  refine o_fact (fun w h => HS.es_form hf2 h aPk) fun hfF2 => ?_
  iterate 3 refine aS ?_
  refine o_q (q_load_at rfl rfl sz_77 (fun w h => HS.nd_cell hf2 h aPk 1 rfl (by decide))) rfl ?_
  refine aS ?_
  refine o_p (p_slice _ _ 0 ((nth L f).es.length - 1) rfl rfl sl_77 rfl ⟨_, _, rfl, (by omega)⟩ (by omega) (by omega)) rfl ?_
  refine o_slot (show _ = Value.slice (nth L2 f).ea ((nth L f).es.length - 1) (nth L2 f).ec from by rw [subA_0 _ _ _ hfF2]; first | rfl | (congr 1 <;> omega)) ?_
  iterate 2 refine aS ?_
  refine o_h0 (h_store rfl rfl rfl sz_77 rfl aPt (by rw [flat_length nv3]; show _ + 1 ≤ _; omega) rfl) (fun _ _ => ?_)
  iterate 5 refine aS ?_
  refine o_ex (fun w h => HS.es_setC (gn := gn) (cap := cap) (m := ((nth L f).es.length - 1)) (c := (nth L2 f).ec) hf2 (by rw [hF2]; omega) (Nat.le_refl _) (by rw [hF2]; omega) (fun _ h9 => by rw [hF2, hgf] at h9; cases h9) h aPk aPk) fun L3 => ?_
  refine o_fact (fun w h => h.1) fun hS3 => ?_
  refine o_class (fun w h => h.2) ?_
  have hf3 : f < L3.length := by rw [hS3.len]; exact hf2
  have ht3 : t < L3.length := by rw [hS3.len]; exact ht2
  have hT3 := (hS3.other ht2 hft).trans (hT2.trans hT1)
  have hF3 := hS3.at_
  have hFc3 : (nth L3 f).cs = (nth L f).cs := by rw [hF3, hF2]
  have hTc3 : (nth L3 t).cs = (nth L t).cs := by rw [hT3]
  have hln3 : L3.length = L.length := by rw [hS3.len, hS2.len, hS1.len]
  have hTl3 : (nth L3 t).cs.length = (nth L t).cs.length := by rw [hTc3]
  have hFl3 : (nth L3 f).cs.length = (nth L f).cs.length := by rw [hFc3]
  iterate 2 refine aS ?_
  refine o_q (q_load_at rfl rfl sz_30 (fun w h => HS.nd_cell hf3 h aPk 2 rfl (by decide))) rfl ?_
  iterate 8 refine aS ?_
  refine s_cond rfl (fun h4 => ?_) fun h4 => ?_
  ·try simp only [decide_eq_true_eq] at h4
   have hcz : 0 < (nth L3 f).cs.length := by have hq := h4; omega
   have hcz0 : 0 < (nth L f).cs.length := by omega
   refine s_fact (fun w h => HS.cs_some hf3 hcz h aPk) fun hgk => ?_
   obtain ⟨gk9, hgk⟩ := hgk
   refine s_fact (fun w h => HS.cs_room hf3 h aPk) fun hrK => ?_
   refine aS ?_
   refine s_class (fun w h => HS.cs_take ht3 h aPk) ?_
   refine s_draw [14, 17] mixed ?_
   refine dP 0 ?_
   refine dP 1 ?_
   refine dP 2 ?_
   refine dFa 3 ?_
   refine d_q 4 [[], []] rfl (q_load_at rfl rfl sz_30 (fun w h => HS.nd_cell ht3 h aPk 2 rfl (by decide))) (by kernel_rfl) (by kernel_rfl) (by kernel_rfl) rfl ?_
   refine dP 5 ?_
   refine dP 6 ?_
   refine dFa 7 ?_
   refine d_q 8 [[13, 12, 11], []] rfl (q_load_at rfl rfl sz_30 (fun w h => HS.nd_cell hf3 h aPk 2 rfl (by decide))) (by kernel_rfl) (by kernel_rfl) (by kernel_rfl) rfl ?_
   refine dP 9 ?_
   refine dP 10 ?_
   try refine dWr ?_
   refine d_p 11 rfl (p_indexAddr rfl rfl rfl sl_30 ((nth L3 f).cs.length - 1) (by omega) (by omega) hgk) (by kernel_rfl) rfl rfl ?_
   refine d_q 12 [[13], []] rfl (q_load_at rfl rfl sz_3 (fun w h => HS.cs_rdB hf3 (Ne.symm hft) (k := (nth L3 f).cs.length - 1) (by omega) hgk h aPk)) (by kernel_rfl) (by kernel_rfl) (by kernel_rfl) rfl ?_
   refine d_h 13 rfl (h_buildSlice (cs := [_]) rfl rfl sl_30 zr_3 rfl rfl rfl) (by kernel_rfl) (fun w h => h.ent aEt) rfl (fun b5 _ => ?_)
   refine dBa ?_
   refine d_h 14 rfl (h_callF (Cs := [.own (.slice ((nth L3 t)).ca ((nth L3 t)).cs.length ((nth L3 t)).cc) 3 1 ((nth L3 t)).cs.length (((nth L3 t)).cs.flatMap inV), .blk b5 3 1 (inV ((nth L3 f).cs.getD ((nth L3 f).cs.length - 1) 0))]) rfl fn_151 rfl aPs (fun w1 h1 hf9 => c151e w1 (nth L3 t).ca 0 (nth L3 t).cc (nth L3 t).cs ((nth L3 f).cs.getD ((nth L3 f).cs.length - 1) 0) b5 1 1 hf9 (by omega) (by omega))) (by kernel_rfl) (fun w h => h.ent aEt) rfl (fun b6 _ => ?_)
   refine dTu [17] ?_
   refine dP 15 ?_
   refine dFa 16 ?_
   refine dSt 17 ?_ (hl := (by rw [flat_length nv3]; show _ + 1 ≤ _; omega))
   refine dTu [] ?_
   refine dNi ?_
   refine s_weaken (L' := [(0, _), (2, _), (8, _), (9, _), (12, _)]) aSx (fun _ h => h) ?_
   iterate 2 refine aS ?_
   refine o_ex (fun w h => HS.cs_setB (gn := gn) (cap := cap) (ca := b6.1) (cc := b6.2) (cs := insAt (nth L3 t).cs 0 ((nth L3 f).cs.getD ((nth L3 f).cs.length - 1) 0)) ht3 h aPk aPk aPk) fun L4 => ?_
   refine o_fact (fun w h => h.1) fun hS4 => ?_
   refine o_class (fun w h => h.2) ?_
   have hf4 : f < L4.length := by rw [hS4.len]; exact hf3
   have hF4 : nth L4 f = nth L3 f := hS4.other hf3 (Ne.symm hft)
   have hFc4 : (nth L4 f).cs = (nth L f).cs := by rw [hF4, hFc3]
   have hFl4 : (nth L4 f).cs.length = (nth L f).cs.length := by rw [hFc4]
   refine o_fact (fun w h => HS.cs_form hf4 h aPk) fun hfK4 => ?_
   refine o_fact (fun w h => HS.cs_room hf4 h aPk) fun hrK4 => ?_
   iterate 3 refine aS ?_
   refine o_q (q_load_at rfl rfl sz_30 (fun w h => HS.nd_cell hf4 h aPk 2 rfl (by decide))) rfl ?_
   iterate 2 refine aS ?_
   try refine oWr ?_
   refine o_p (p_slice _ _ 0 ((nth L4 f).cs.length - 1) rfl rfl sl_30 rfl ⟨_, _, rfl, (by omega)⟩ (by omega) (by omega)) rfl ?_
   refine o_slot (show _ = Value.slice (nth L4 f).ca ((nth L4 f).cs.length - 1) (nth L4 f).cc from by rw [subA_0 _ _ _ hfK4]; first | rfl | (congr 1 <;> omega)) ?_
   iterate 2 refine aS ?_
   refine o_h0 (h_store rfl rfl rfl sz_30 rfl aPt (by rw [flat_length nv3]; show _ + 1 ≤ _; omega) rfl) (fun _ _ => ?_)
   refine aS ?_
   exact s_ret0 rfl (fun w' h' => by first | (obtain ⟨L5, hS5, hC⟩ := HS.cs_setC (gn := gn) (cap := cap) (m := (nth L4 f).cs.length - 1) (c := (nth L4 f).cc) hf4 (by omega) (Nat.le_refl _) (by omega) (fun _ h9 => by rw [hF4, hgk] at h9; cases h9) h' aPk aPk; have hz5 : L5.length = L.length := (by rw [hS5.len, hS4.len, hln3]); exact ⟨((gn, cap), L5), rfl, ⟨by rw [hS5.cs, hFc4, hS4.cs, hFc3, hTc3, hS3.es, hS2.es, hS1.es, hF2, hP1, hF1]; exact (givF_1 hPN hFN hTN hcz0).symm, by simp only []; omega, hcm⟩, by simp only []; rw [hz5]; exact hC.ent aEt⟩) | exact ⟨((gn, cap), L3), rfl, ⟨by rw [hS3.es, hS2.es, hS1.es, hF2, hP1, hF1]; exact (givF_0 hPN hFN hTN hcz).symm, by simp only []; omega, hcm⟩, by simp only []; rw [hln3]; exact h'.ent aEt⟩)
  try simp only [decide_eq_false_iff_not] at h4
  have hcz : (nth L f).cs.length = 0 := by have hq := h4; omega
  refine aS ?_
  exact s_ret0 rfl (fun w' h' => by first | (obtain ⟨L5, hS5, hC⟩ := HS.cs_setC (gn := gn) (cap := cap) (m := (nth L4 f).cs.length - 1) (c := (nth L4 f).cc) hf4 (by omega) (Nat.le_refl _) (by omega) (fun _ h9 => by rw [hF4, hgk] at h9; cases h9) h' aPk aPk; have hz5 : L5.length = L.length := (by rw [hS5.len, hS4.len, hln3]); exact ⟨((gn, cap), L5), rfl, ⟨by rw [hS5.cs, hFc4, hS4.cs, hFc3, hTc3, hS3.es, hS2.es, hS1.es, hF2, hP1, hF1]; exact (givF_1 hPN hFN hTN hcz0).symm, by simp only []; omega, hcm⟩, by simp only []; rw [hz5]; exact hC.ent aEt⟩) | exact ⟨((gn, cap), L3), rfl, ⟨by rw [hS3.es, hS2.es, hS1.es, hF2, hP1, hF1]; exact (givF_0 hPN hFN hTN hcz).symm, by simp only []; omega, hcm⟩, by simp only []; rw [hln3]; exact h'.ent aEt⟩)
 skip
 exfalso; first | omega | (simp at h1; done) | (simp_all; done)
set_option maxHeartbeats 1000000 in
theorem c143b (w : World) (bt : Nat) (j : Nat) (mo rm : Int) (gn cap : Nat) (L : List LNd) (p k f t : Nat) (hw : HS w (fps [.blk bt 112 6 (tbV (j : Int) mo rm (some ⟨gn, 0, none⟩) (L).length cap), .blk gn 102 (cap * 3) ((L).flatMap LNd.vals), .star ((L).map (subN 26))]) [.blk bt 112 6 (tbV (j : Int) mo rm (some ⟨gn, 0, none⟩) (L).length cap), .blk gn 102 (cap * 3) ((L).flatMap LNd.vals), .star ((L).map (subN 26))] w) (hnc : L.length ≤ cap) (hcm : cap ≤ maxLen) (hok : GivOk (pln L) p k f t) (hcf : (nth (pln L) p).cs.getD (k + 1) 0 = (f : Int)) (hct : (nth (pln L) p).cs.getD k 0 = (t : Int)) : Calls Tryz.prog 143 #[.pointer (some ⟨bt, 0, none⟩), .int .i64 (p : Int), .int .i64 (k : Int), .bool false] w fun en w' => ∃ g : (Nat × Nat) × List LNd, en = .returned (.tuple #[]) ∧ (pln g.2 = givB (pln L) p k f t ∧ g.2.length ≤ g.1.2 ∧ g.1.2 ≤ maxLen) ∧ HS w (fps [.blk bt 112 6 (tbV (j : Int) mo rm (some ⟨gn, 0, none⟩) (L).length cap), .blk gn 102 (cap * 3) ((L).flatMap LNd.vals), .star ((L).map (subN 26))]) [.blk bt 112 6 (tbV (j : Int) mo rm (some ⟨g.1.1, 0, none⟩) (g.2).length g.1.2), .blk g.1.1 102 (g.1.2 * 3) ((g.2).flatMap LNd.vals), .star ((g.2).map (subN 26))] w' := by
 have hpl := hok.pl
 have hfl := hok.fl
 have htl := hok.tl
 have hln := hok.len
 rw [pln_len] at hpl hfl htl hln
 have hPN := pln_nth hpl
 have hFN := pln_nth hfl
 have hTN := pln_nth htl
 have hke := hok.ke
 have hkc := hok.kc
 have hfe := hok.fe
 have hpf := hok.pf
 have hpt := hok.pt
 have hft := hok.ft
 have hsp := hok.sm p
 have hsf := hok.sm f
 have hst := hok.sm t
 rw [hPN] at hke hkc hcf hct hsp
 rw [hFN] at hfe hsf
 rw [hTN] at hst
 simp only [LNd.pl] at hke hkc hfe hcf hct hsp hsf hst
 refine enter (args := [_, _, _, _]) Tryz.func143 Tryz.ntmps143 rfl rfl hw ?_
 iterate 8 refine aS ?_
 refine o_p (p_indexAddr rfl rfl rfl sl_22 (p) (by omega) (by omega) rfl) rfl ?_
 refine o_slot (show _ = Value.pointer (some ⟨gn, p * 3, none⟩) from by rw [Nat.zero_add]) ?_
 iterate 7 refine aS ?_
 refine s_cond rfl (fun h1 => ?_) fun h1 => ?_
 ·skip
  exfalso; first | omega | (simp at h1; done) | (simp_all; done)
 skip
 refine s_fact (fun w h => HS.cs_some hpl (by omega) h aPk) fun hgc => ?_
 obtain ⟨gc9, hgc⟩ := hgc
 refine s_fact (fun w h => HS.es_some hpl (by omega) h aPk) fun hge => ?_
 obtain ⟨gp9, hge⟩ := hge
 refine s_fact (fun w h => HS.es_some hfl (by omega) h aPk) fun hgf => ?_
 obtain ⟨gf9, hgf⟩ := hgf
 refine s_fact (fun w h => HS.es_room hpl h aPk) fun hrP => ?_
 iterate 2 refine aS ?_
 refine s_draw [] mixed ?_
 refine dP 0 ?_
 refine dP 1 ?_
 refine dFa 2 ?_
 refine dFa 3 ?_
 refine dLd 4 [] ?_
 refine dP 5 ?_
 refine dP 6 ?_
 refine dFa 7 ?_
 refine d_q 8 [] rfl (q_load_at rfl rfl sz_30 (fun w h => HS.nd_cell hpl h aPk 2 rfl (by decide))) (by kernel_rfl) (by kernel_rfl) (by kernel_rfl) rfl ?_
 refine dP 9 ?_
 refine dP 10 ?_
 try refine dWr ?_
 refine d_p 11 rfl (p_indexAddr rfl rfl rfl sl_30 (k + 1) (by omega) (by omega) hgc) (by kernel_rfl) rfl rfl ?_
 refine d_q 12 [] rfl (q_load_at rfl rfl sz_3 (fun w h => HS.cs_rd hpl (by omega) hgc h aPk)) (by kernel_rfl) (by kernel_rfl) (by kernel_rfl) rfl ?_
 refine d_slot (show _ = Value.int .i64 (f : Int) from by rw [hcf]) ?_
 refine d_p 13 rfl (p_indexAddr rfl rfl rfl sl_22 (f) (by omega) (by omega) rfl) (by kernel_rfl) rfl rfl ?_
 refine d_slot (show _ = Value.pointer (some ⟨gn, f * 3, none⟩) from by rw [Nat.zero_add]) ?_
 refine dP 14 ?_
 refine dP 15 ?_
 refine dFa 16 ?_
 refine dFa 17 ?_
 refine dLd 18 [] ?_
 refine dP 19 ?_
 refine dP 20 ?_
 refine dFa 21 ?_
 refine d_q 22 [] rfl (q_load_at rfl rfl sz_30 (fun w h => HS.nd_cell hpl h aPk 2 rfl (by decide))) (by kernel_rfl) (by kernel_rfl) (by kernel_rfl) rfl ?_
 refine dP 23 ?_
 refine d_p 24 rfl (p_indexAddr rfl rfl rfl sl_30 (k) (by omega) (by omega) hgc) (by kernel_rfl) rfl rfl ?_
 refine d_q 25 [] rfl (q_load_at rfl rfl sz_3 (fun w h => HS.cs_rd hpl (by omega) hgc h aPk)) (by kernel_rfl) (by kernel_rfl) (by kernel_rfl) rfl ?_
 refine d_slot (show _ = Value.int .i64 (t : Int) from by rw [hct]) ?_
 refine d_p 26 rfl (p_indexAddr rfl rfl rfl sl_22 (t) (by omega) (by omega) rfl) (by kernel_rfl) rfl rfl ?_
 refine d_slot (show _ = Value.pointer (some ⟨gn, t * 3, none⟩) from by rw [Nat.zero_add]) ?_
 refine dP 27 ?_
 refine dP 28 ?_
 refine dNi ?_
 refine aS ?_
 refine s_weaken (L' := [(2, _), (8, _), (13, _), (14, _)]) aSx (fun _ h => h) ?_
 refine s_class (fun w h => HS.es_take htl h aPk) ?_
 refine s_draw [13, 16] mixed ?_
 refine dP 0 ?_
 refine dP 1 ?_
 refine dP 2 ?_
 refine dFa 3 ?_
 refine d_q 4 [[], []] rfl (q_load_at rfl rfl sz_77 (fun w h => HS.nd_cell htl h aPk 1 rfl (by decide))) (by kernel_rfl) (by kernel_rfl) (by kernel_rfl) rfl ?_
 refine dP 5 ?_
 refine dP 6 ?_
 refine dFa 7 ?_
 refine d_q 8 [[12, 11, 10], []] rfl (q_load_at rfl rfl sz_77 (fun w h => HS.nd_cell hpl h aPk 1 rfl (by decide))) (by kernel_rfl) (by kernel_rfl) (by kernel_rfl) rfl ?_
 refine dP 9 ?_
 refine d_p 10 rfl (p_indexAddr rfl rfl rfl sl_77 (k) (by omega) (by omega) hge) (by kernel_rfl) rfl rfl ?_
 refine d_q 11 [[12], []] rfl (q_load_atn _ rfl rfl sz_26 rfl (fun w h => HS.es_rdB hpl (Ne.symm hpt) (by omega) hge h aPk)) (by kernel_rfl) (by kernel_rfl) (by kernel_rfl) rfl ?_
 refine d_h 12 rfl (h_buildSlice (cs := [_, _]) rfl rfl sl_77 zr_26 rfl rfl rfl) (by kernel_rfl) (fun w h => h.ent aEt) rfl (fun b2 _ => ?_)
 refine dBa ?_
 refine d_h 13 rfl (h_appendS (TEnt.vals (nth (nth L p).es k)) rfl rfl rfl sl_77 Tryz.underlying77 zr_26 rfl aPk (src_blk aPk) rfl (ev1 _) (by omega) (by simp only [maxLen]; omega)) (by kernel_rfl) (fun w h => h.ent aEt) rfl (fun b3 _ => ?_)
 refine dTu [16] ?_
 refine dP 14 ?_
 refine dFa 15 ?_
 refine dSt 16 ?_ (hl := (by rw [flat_length nv3]; show _ + 1 ≤ _; omega))
 refine dTu [] ?_
 refine dNi ?_
 refine aS ?_
 refine s_ex (fun w h => HS.es_setA (gn := gn) (cap := cap) (ea := b3.1) (ec := b3.2) (x := (nth (nth L p).es k)) htl h aPk aPk aPk) fun L1 => ?_
 refine s_fact (fun w h => h.1) fun hS1 => ?_
 refine s_class (fun w h => h.2) ?_
 have hp1 : p < L1.length := by rw [hS1.len]; exact hpl
 have hf1 : f < L1.length := by rw [hS1.len]; exact hfl
 have ht1 : t < L1.length := by rw [hS1.len]; exact htl
 have hP1 : nth L1 p = nth L p := hS1.other hpl (Ne.symm hpt)
 have hF1 : nth L1 f = nth L f := hS1.other hfl (Ne.symm hft)
 have hT1 := hS1.at_
 have hFl1 : (nth L1 f).es.length = (nth L f).es.length := by rw [hF1]
 have hPl1 : (nth L1 p).es.length = (nth L p).es.length := by rw [hP1]
 have hge1 : (nth L1 p).ea = some ⟨gp9, 0, none⟩ := by rw [hP1]; exact hge
 have hgf1 : (nth L1 f).ea = some ⟨gf9, 0, none⟩ := by rw [hF1]; exact hgf
 refine s_class (fun w h => HS.es_open hp1 (by rw [hP1]; omega) hge1 h aPk) ?_
 refine s_draw [12] mixed ?_
 refine dP 0 ?_
 refine dP 1 ?_
 refine dFa 2 ?_
 refine d_q 3 [[]] rfl (q_load_at rfl rfl sz_77 (fun w h => HS.nd_cell hp1 h aPk 1 rfl (by decide))) (by kernel_rfl) (by kernel_rfl) (by kernel_rfl) rfl ?_
 refine dP 4 ?_
 refine dP 5 ?_
 refine dP 6 ?_
 refine dFa 7 ?_
 refine d_q 8 [[]] rfl (q_load_at rfl rfl sz_77 (fun w h => HS.nd_cell hf1 h aPk 1 rfl (by decide))) (by kernel_rfl) (by kernel_rfl) (by kernel_rfl) rfl ?_
 refine d_p 9 rfl (p_indexAddr rfl rfl rfl sl_77 (0) (by omega) (by omega) hgf1) (by kernel_rfl) rfl rfl ?_
 refine d_q 10 [[]] rfl (q_load_atn _ rfl rfl sz_26 rfl (fun w h => HS.es_rdB hf1 hpf (k := 0) (by rw [hF1]; omega) hgf1 h aPk)) (by kernel_rfl) (by kernel_rfl) (by kernel_rfl) rfl ?_
 refine d_p 11 rfl (p_indexAddr rfl rfl rfl sl_77 (k) (by omega) (by omega) hge1) (by kernel_rfl) rfl rfl ?_
 refine d_slot (show _ = Value.pointer (some ⟨gp9, k * 2, none⟩) from by rw [Nat.zero_add]) ?_
 refine dSt 12 ?_ (hl := (by rw [flat_length ev2]; show _ + 2 ≤ _; omega))
 refine dTu [] ?_
 refine dNi ?_
 refine aS ?_
 refine s_weaken (L' := [(13, _), (14, _)]) aSx (fun _ h => h) ?_
 iterate 2 refine aS ?_
 refine o_ex (fun w h => HS.es_upd (gn := gn) (cap := cap) (g := gp9) (k := k) (x := nth (nth L1 f).es 0) hp1 (by rw [hP1]; exact hke) hge1 h aPk aPk aPk (by rw [hP1]; exact hrP)) fun L2 => ?_
 refine o_fact (fun w h => h.1) fun hS2 => ?_
 refine o_class (fun w h => h.2) ?_
 have hf2 : f < L2.length := by rw [hS2.len]; exact hf1
 have ht2 : t < L2.length := by rw [hS2.len]; exact ht1
 have hF2 : nth L2 f = nth L f := by rw [hS2.other hf1 hpf, hF1]
 have hT2 := hS2.other ht1 hpt
 have hFl2 : (nth L2 f).es.length = (nth L f).es.length := by rw [hF2]
 have hFe2 : (nth L2 f).ec = (nth L f).ec := by rw [hF2]
 refine o_class (fun w h => HS.es_take hf2 h aPk) ?_
 iterate 3 refine aS ?_
 refine o_q (q_load_at rfl rfl sz_77 (fun w h => HS.nd_cell hf2 h aPk 1 rfl (by decide))) rfl ?_
 refine o_h (h_callF (Cs := [.own (.slice ((nth L2 f)).ea ((nth L2 f)).es.length ((nth L2 f)).ec) 26 2 ((nth L2 f)).es.length (((nth L2 f)).es.flatMap TEnt.vals)]) rfl fn_103 rfl aPs (fun w1 h1 hf9 => c103e w1 (nth L2 f).ea 0 (nth L2 f).ec (nth L2 f).es hf9 (by omega) (by omega))) rfl (fun _ _ => ?_)
 iterate 2 refine aS ?_
 refine o_h0 (h_store rfl rfl rfl sz_77 rfl aPt (by rw [flat_length nv3]; show _ + 1 ≤ _; omega) rfl) (fun _ _ => ?_)
 iterate 4 refine aS ?_
 refine o_ex (fun w h => HS.es_setB (gn := gn) (cap := cap) (ea := (nth L2 f).ea) (ec := (nth L2 f).ec) (es := others (nth L2 f).es 0) hf2 h aPk aPk aPk) fun L3 => ?_
 refine o_fact (fun w h => h.1) fun hS3 => ?_
 refine o_class (fun w h => h.2) ?_
 have hf3 : f < L3.length := by rw [hS3.len]; exact hf2
 have ht3 : t < L3.length := by rw [hS3.len]; exact ht2
 have hT3 := (hS3.other ht2 hft).trans (hT2.trans hT1)
 have hF3 := hS3.at_
 have hFc3 : (nth L3 f).cs = (nth L f).cs := by rw [hF3, hF2]
 have hTc3 : (nth L3 t).cs = (nth L t).cs := by rw [hT3]
 have hln3 : L3.length = L.length := by rw [hS3.len, hS2.len, hS1.len]
 have hTl3 : (nth L3 t).cs.length = (nth L t).cs.length := by rw [hTc3]
 have hFl3 : (nth L3 f).cs.length = (nth L f).cs.length := by rw [hFc3]
 iterate 2 refine aS ?_
 refine o_q (q_load_at rfl rfl sz_30 (fun w h => HS.nd_cell hf3 h aPk 2 rfl (by decide))) rfl ?_
 iterate 3 refine aS ?_
 refine s_cond rfl (fun h4 => ?_) fun h4 => ?_
 ·try simp only [decide_eq_true_eq] at h4
  have hcz : 0 < (nth L3 f).cs.length := by have hq := h4; omega
  have hcz0 : 0 < (nth L f).cs.length := by omega
  refine s_fact (fun w h => HS.cs_some hf3 hcz h aPk) fun hgk => ?_
  obtain ⟨gk9, hgk⟩ := hgk
  refine aS ?_
  refine s_class (fun w h => HS.cs_take ht3 h aPk) ?_
  refine s_draw [12, 15] mixed ?_
  refine dP 0 ?_
  refine dP 1 ?_
  refine dP 2 ?_
  refine dFa 3 ?_
  refine d_q 4 [[], []] rfl (q_load_at rfl rfl sz_30 (fun w h => HS.nd_cell ht3 h aPk 2 rfl (by decide))) (by kernel_rfl) (by kernel_rfl) (by kernel_rfl) rfl ?_
  refine dP 5 ?_
  refine dP 6 ?_
  refine dFa 7 ?_
  refine d_q 8 [[11, 10, 9], []] rfl (q_load_at rfl rfl sz_30 (fun w h => HS.nd_cell hf3 h aPk 2 rfl (by decide))) (by kernel_rfl) (by kernel_rfl) (by kernel_rfl) rfl ?_
  refine d_p 9 rfl (p_indexAddr rfl rfl rfl sl_30 (0) (by omega) (by omega) hgk) (by kernel_rfl) rfl rfl ?_
  refine d_q 10 [[11], []] rfl (q_load_at rfl rfl sz_3 (fun w h => HS.cs_rdB hf3 (Ne.symm hft) (k := 0) (by omega) hgk h aPk)) (by kernel_rfl) (by kernel_rfl) (by kernel_rfl) rfl ?_
  refine d_h 11 rfl (h_buildSlice (cs := [_]) rfl rfl sl_30 zr_3 rfl rfl rfl) (by kernel_rfl) (fun w h => h.ent aEt) rfl (fun b5 _ => ?_)
  refine dBa ?_
  refine d_h 12 rfl (h_appendS (inV ((nth L3 f).cs.getD 0 0)) rfl rfl rfl sl_30 Tryz.underlying30 zr_3 rfl aPk (src_blk aPk) rfl (iv1c _) (by omega) (by simp only [maxLen]; omega)) (by kernel_rfl) (fun w h => h.ent aEt) rfl (fun b6 _ => ?_)
  refine dTu [15] ?_
  refine dP 13 ?_
  refine dFa 14 ?_
  refine dSt 15 ?_ (hl := (by rw [flat_length nv3]; show _ + 1 ≤ _; omega))
  refine dTu [] ?_
  refine dNi ?_
  refine s_weaken (L' := [(13, _)]) aSx (fun _ h => h) ?_
  iterate 2 refine aS ?_
  refine o_ex (fun w h => HS.cs_setA (gn := gn) (cap := cap) (ca := b6.1) (cc := b6.2) (x := (nth L3 f).cs.getD 0 0) ht3 h aPk aPk aPk) fun L4 => ?_
  refine o_fact (fun w h => h.1) fun hS4 => ?_
  refine o_class (fun w h => h.2) ?_
  have hf4 : f < L4.length := by rw [hS4.len]; exact hf3
  have hF4 : nth L4 f = nth L3 f := hS4.other hf3 (Ne.symm hft)
  have hFc4 : (nth L4 f).cs = (nth L f).cs := by rw [hF4, hFc3]
  have hFl4 : (nth L4 f).cs.length = (nth L f).cs.length := by rw [hFc4]
  refine o_class (fun w h => HS.cs_take hf4 h aPk) ?_
  iterate 3 refine aS ?_
  refine o_q (q_load_at rfl rfl sz_30 (fun w h => HS.nd_cell hf4 h aPk 2 rfl (by decide))) rfl ?_
  refine o_h (h_callF (Cs := [.own (.slice ((nth L4 f)).ca ((nth L4 f)).cs.length ((nth L4 f)).cc) 3 1 ((nth L4 f)).cs.length (((nth L4 f)).cs.flatMap inV)]) rfl fn_152 rfl aPs (fun w1 h1 hf9 => c152e w1 (nth L4 f).ca 0 (nth L4 f).cc (nth L4 f).cs hf9 (by omega) (by omega))) rfl (fun _ _ => ?_)
  iterate 2 refine aS ?_
  refine o_h0 (h_store rfl rfl rfl sz_30 rfl aPt (by rw [flat_length nv3]; show _ + 1 ≤ _; omega) rfl) (fun _ _ => ?_)
  refine aS ?_
  exact s_end0 rfl (fun w' h' => by first | exact ⟨((gn, cap), L3), rfl, ⟨by rw [hS3.es, hS2.es, hS1.es, hF2, hP1, hF1]; exact (givB_0 hPN hFN hTN hcz).symm, by simp only []; omega, hcm⟩, by simp only []; rw [hln3]; exact h'.ent aEt⟩ | (obtain ⟨L5, hS5, hC⟩ := HS.cs_setB (gn := gn) (cap := cap) (ca := (nth L4 f).ca) (cc := (nth L4 f).cc) (cs := others (nth L4 f).cs 0) hf4 h' aPk aPk aPk; have hz5 : L5.length = L.length := (by rw [hS5.len, hS4.len, hln3]); exact ⟨((gn, cap), L5), rfl, ⟨by rw [hS5.cs, hFc4, hS4.cs, hFc3, hTc3, hS3.es, hS2.es, hS1.es, hF2, hP1, hF1]; exact (givB_1 hPN hFN hTN hcz0).symm, by simp only []; omega, hcm⟩, by simp only []; rw [hz5]; exact hC.ent aEt⟩))
 try simp only [decide_eq_false_iff_not] at h4
 have hcz : (nth L f).cs.length = 0 := by have hq := h4; omega
 refine aS ?_
 exact s_end0 rfl (fun w' h' => by first | exact ⟨((gn, cap), L3), rfl, ⟨by rw [hS3.es, hS2.es, hS1.es, hF2, hP1, hF1]; exact (givB_0 hPN hFN hTN hcz).symm, by simp only []; omega, hcm⟩, by simp only []; rw [hln3]; exact h'.ent aEt⟩ | (obtain ⟨L5, hS5, hC⟩ := HS.cs_setB (gn := gn) (cap := cap) (ca := (nth L4 f).ca) (cc := (nth L4 f).cc) (cs := others (nth L4 f).cs 0) hf4 h' aPk aPk aPk; have hz5 : L5.length = L.length := (by rw [hS5.len, hS4.len, hln3]); exact ⟨((gn, cap), L5), rfl, ⟨by rw [hS5.cs, hFc4, hS4.cs, hFc3, hTc3, hS3.es, hS2.es, hS1.es, hF2, hP1, hF1]; exact (givB_1 hPN hFN hTN hcz0).symm, by simp only []; omega, hcm⟩, by simp only []; rw [hz5]; exact hC.ent aEt⟩))
end Go.Proofs
namespace Gx
set_option linter.unusedSimpArgs false
set_option linter.unusedVariables false
set_option linter.unusedSectionVars false
open Go Go.RowKit
abbrev LNd.gone : LNd := ⟨false, none, 0, [], none, 0, []⟩
theorem node_set3 {l : List LNd} {k : Nat} (hk : k < l.length) (x : LNd) : setMany (l.flatMap LNd.vals) (k * 3) (LNd.vals x) = (l.set k x).flatMap LNd.vals := by
  have h := flat_set nv3 l k 0 (LNd.vals x) (nth l k) x (nth_get hk) rfl (by simp [LNd.vals])
  rw [Nat.add_zero] at h
  exact h
section
variable {w0 w : World} {M : List Nat} {As A1 A2 A3 : List HA} {et : Nat} {L : List LNd} {i j gn cap nt' : Nat}
theorem HS.star_gone (hi : i < L.length) (h : HS w0 M As w) (hp : Pick As (.star (L.map (subN et))) A1) : HS w0 M (.star ((L.set i LNd.gone).map (subN et)) :: A1) w := by
  have h1 := ((h.node_out hi hp).tail.tail.own_nil 3 1).own_nil et 2
  exact HS.node_in hi LNd.gone h1
theorem HS.node_gone (hi : i < L.length) (h : HS w0 M As w)
    (hp : Pick As (.blk gn nt' (cap * 3) (setMany (L.flatMap LNd.vals) (i * 3) [.bool false, .slice none 0 0, .slice none 0 0])) A1) (hp3 : Pick A1 (.star (L.map (subN et))) A3) :
    ∃ L', NdSet L L' i LNd.gone ∧ HS w0 M (.blk gn nt' (cap * 3) (L'.flatMap LNd.vals) :: .star (L'.map (subN et)) :: A3) w := by
  refine ⟨_, ⟨hi, rfl⟩, ?_⟩
  rw [← node_set3 hi]
  exact (HS.star_gone hi (h.pick hp) (.there hp3)).perm (List.Perm.swap ..)
end
def mrgN (ns : List Nd) (p k t f : Nat) : List Nd :=
  (csN (esN (csN (esN ns t ((nth ns t).es ++ nth (nth ns p).es k :: (nth ns f).es)) t ((nth ns t).cs ++ (nth ns f).cs)) p (others (nth ns p).es k)) p (others (nth ns p).cs (k + 1))).set f ⟨false, [], []⟩
structure MrgOk (ns : List Nd) (p k f t : Nat) : Prop where
  pl : p < ns.length
  fl : f < ns.length
  tl : t < ns.length
  pf : p ≠ f
  pt : p ≠ t
  ft : f ≠ t
  ke : k < (nth ns p).es.length
  kc : k + 1 < (nth ns p).cs.length
  len : ns.length ≤ 900
  sm : Sm 900 ns
theorem cat3 {α : Type} (a b c : RowV α) : [a, b, c].flatMap RowV.l = a.l ++ (b.l ++ c.l) := by simp
theorem cat2 {α : Type} (a b : RowV α) : [a, b].flatMap RowV.l = a.l ++ b.l := by simp
end Gx
namespace Go.Proofs
open Go Go.RowKit Gx
set_option linter.unusedVariables false
set_option linter.unusedSimpArgs false
attribute [local irreducible] Go.Calls Gx.S Gx.O Gx.D Gx.OpP Gx.OpQ Gx.OpH
set_option maxRecDepth 20000
theorem sl_199 : tsl Tryz.prog 199 = some (77, 1, 24) := by kernel_rfl
theorem fn_163 : isFn Tryz.prog 163 = true := by kernel_rfl
theorem sl_200 : tsl Tryz.prog 200 = some (30, 1, 24) := by kernel_rfl
theorem fn_164 : isFn Tryz.prog 164 = true := by kernel_rfl
theorem c163 (w : World) (n : Nat) (hn : n ≤ 1000000) : Calls Tryz.prog 163 #[.slice none 0 0, .int .i64 (n : Int)] w fun en w' => ∃ g : Option Addr × Nat, en = .returned (.slice g.1 0 g.2) ∧ True ∧ HS w [] [.own (.slice g.1 0 g.2) 26 2 0 []] w' := by
 refine enter (args := [_, _]) Tryz.func163 Tryz.ntmps163 rfl rfl (HS.refl w []) ?_
 iterate 10 refine aS ?_
 refine s_cond rfl (fun h1 => ?_) fun h1 => ?_
 ·try simp only [decide_eq_true_eq] at h1
  exfalso; first | omega | (simp at h1; done) | (simp_all; done)
 try simp only [decide_eq_false_iff_not] at h1
 iterate 6 refine aS ?_
 refine o_p (p_cap rfl rfl Tryz.underlying77) rfl ?_
 iterate 3 refine aS ?_
 try refine oWr ?_
 refine aS ?_
 try refine oWr ?_
 refine o_slot (show _ = Value.int .i64 (n : Int) from by first | rfl | (congr 1; omega)) ?_
 iterate 7 refine aS ?_
 refine s_cond rfl (fun h2 => ?_) fun h2 => ?_
 ·try simp only [decide_eq_true_eq] at h2
  iterate 3 refine aS ?_
  refine o_p (p_cap rfl rfl Tryz.underlying77) rfl ?_
  refine o_p (p_slice _ _ 0 0 rfl rfl sl_77 rfl ⟨_, _, rfl, rfl⟩ (by omega) (by omega)) rfl ?_
  refine o_slot (show _ = Value.slice none 0 0 from rfl) ?_
  refine aS ?_
  refine o_h (h_append_zeros (m := n) (olds := []) rfl rfl rfl sl_77 ki_3 zr_26 rfl (by decide) (by omega) (by omega) (fun w h hne => absurd rfl hne) rfl (by omega) (by simp only [maxLen]; omega)) rfl (fun ⟨b3, c4⟩ ⟨h5, k6⟩ => ?_)
  iterate 2 refine aS ?_
  refine o_p (p_slice _ _ 0 0 rfl rfl sl_77 rfl ⟨_, _, rfl, rfl⟩ (by omega) (by omega)) rfl ?_
  refine o_slot (show _ = Value.slice (some ⟨b3, 0, none⟩) 0 c4 from by rw [subA_zero] <;> rfl) ?_
  iterate 7 refine aS ?_
  exact s_retv (rs := [.tmp 4]) rfl (.tmp rfl (.nil)) (fun w' h' => by first | exact ⟨(some ⟨b3, 0, none⟩, c4), rfl, trivial, (HS.to_own (n := 0) (xs := []) (ds := zrow [.string (bs []), .string (bs [])] (n * 2)) aPk h' rfl rfl (by omega) (by omega)).ent aEt⟩ | exact ⟨(none, 0), rfl, trivial, (h'.own_nil 26 2).ent aEt⟩)
 try simp only [decide_eq_false_iff_not] at h2
 iterate 6 refine aS ?_
 exact s_retv (rs := [.tmp 4]) rfl (.tmp rfl (.nil)) (fun w' h' => by first | exact ⟨(some ⟨b3, 0, none⟩, c4), rfl, trivial, (HS.to_own (n := 0) (xs := []) (ds := zrow [.string (bs []), .string (bs [])] (n * 2)) aPk h' rfl rfl (by omega) (by omega)).ent aEt⟩ | exact ⟨(none, 0), rfl, trivial, (h'.own_nil 26 2).ent aEt⟩)
theorem c153 (w : World) (a : Option Addr) (cap : Nat) (rs : List (RowV TEnt)) (hs : Vl w a (rs.map RowV.v)) (hr : ∀ r ∈ rs, Rw TEnt.vals 2 w [] r.a r.l) (hm : (rs.flatMap RowV.l).length ≤ 1000000) (hn : rs.length ≤ 1000) : Calls Tryz.prog 153 #[.slice a rs.length cap] w fun en w' => ∃ g : Option Addr × Nat, en = .returned (.slice g.1 (rs.flatMap RowV.l).length g.2) ∧ True ∧ HS w [] [.own (.slice g.1 (rs.flatMap RowV.l).length g.2) 26 2 (rs.flatMap RowV.l).length ((rs.flatMap RowV.l).flatMap TEnt.vals)] w' := by
 refine enter (args := [_]) Tryz.func153 Tryz.ntmps153 rfl rfl (HS.refl w []) ?_
 iterate 16 refine aS ?_
 refine s_loopI (α := Nat) [3, 5, 11, 12, 13, 14, 15, 16, 17, 18, 19, 20, 21, 22] (fun k => [(11, .int .i64 (k : Int)), (3, .int .i64 ((((rs.take k).flatMap RowV.l).length : Nat) : Int))]) (fun _ => HS w [] []) (fun k => k ≤ rs.length) (fun k => rs.length - k) 0 (Nat.zero_le _) aSx (fun w h => h.ent aEt) (fun k hk1 => ?_)
 iterate 5 refine aS ?_
 refine s_cond rfl (fun h1 => ?_) fun h1 => ?_
 ·try simp only [decide_eq_true_eq] at h1
  have hk : k < rs.length := by omega
  have hst := congrArg List.length (rv_succ hk)
  rw [List.length_append] at hst
  have hle := rv_le rs (k + 1)
  iterate 5 refine aS ?_
  refine o_p (p_indexAddr rfl rfl rfl sl_199 (k) (by omega) (by omega) (hs.some (by rw [List.length_map]; omega))) rfl ?_
  refine o_q (q_load_old rfl rfl sz_77 ((hs.rd (rv_get hk)))) rfl ?_
  iterate 8 refine aS ?_
  try refine oWr ?_
  refine o_slot (show _ = Value.int .i64 ((((rs.take k).flatMap RowV.l).length + (rs.getD k default).l.length : Nat) : Int) from by congr 1) ?_
  iterate 7 refine aS ?_
  refine s_cond rfl (fun h2 => ?_) fun h2 => ?_
  ·try simp only [decide_eq_true_eq] at h2
   exfalso; first | omega | (simp at h2; done) | (simp_all; done)
  try simp only [decide_eq_false_iff_not] at h2
  iterate 4 refine aS ?_
  try refine oWr ?_
  iterate 2 refine aS ?_
  exact s_backI (k + 1) (by omega) (by omega) (by rw [hst]; exact aSx) (fun w h => h.ent aEt)
 try simp only [decide_eq_false_iff_not] at h1
 obtain rfl : k = rs.length := by omega
 rw [List.take_length]
 refine s_exit_to rfl ?_
 iterate 3 refine aS ?_
 refine o_h (h_call rfl fn_163 rfl (fun w1 h1 => c163 w1 (rs.flatMap RowV.l).length hm)) rfl (fun gg _ => ?_)
 iterate 10 refine aS ?_
 refine s_loopI (α := Nat × Option Addr × Nat) [6, 8, 27, 28, 29, 30, 31, 32, 33, 34] (fun x => [(27, .int .i64 (x.1 : Int)), (6, .slice x.2.1 ((rs.take x.1).flatMap RowV.l).length x.2.2)]) (fun x => HS w [] [.own (.slice x.2.1 ((rs.take x.1).flatMap RowV.l).length x.2.2) 26 2 ((rs.take x.1).flatMap RowV.l).length (((rs.take x.1).flatMap RowV.l).flatMap TEnt.vals)]) (fun x => x.1 ≤ rs.length) (fun x => rs.length - x.1) (0, gg.1, gg.2) (Nat.zero_le _) aSx (fun w h => h.ent aEt) (fun ⟨k, ga, gc⟩ hk1 => ?_)
 dsimp only
 simp only [] at hk1
 iterate 5 refine aS ?_
 refine s_cond rfl (fun h3 => ?_) fun h3 => ?_
 ·try simp only [decide_eq_true_eq] at h3
  have hk : k < rs.length := by omega
  have hst := rv_succ hk
  have hle := rv_le rs (k + 1)
  rw [hst, List.length_append] at hle
  have hmem : rs.getD k default ∈ rs := getD_mem hk
  iterate 5 refine aS ?_
  refine o_p (p_indexAddr rfl rfl rfl sl_199 (k) (by omega) (by omega) (hs.some (by rw [List.length_map]; omega))) rfl ?_
  refine o_q (q_load_old rfl rfl sz_77 ((hs.rd (rv_get hk)))) rfl ?_
  iterate 5 refine aS ?_
  refine o_h (h_appendS ((rs.getD k default).l.flatMap TEnt.vals) rfl rfl rfl sl_77 Tryz.underlying77 zr_26 rfl aPk (fun w h => Rw.src ev2 (hr _ hmem) h) (flat_length ev2 _) (flat_one ev1 _) (by omega) (by simp only [maxLen]; omega)) rfl (fun b4 _ => ?_)
  iterate 5 refine aS ?_
  try refine oWr ?_
  iterate 2 refine aS ?_
  exact s_backI (k + 1, b4.1, b4.2) (by (try simp only []); omega) (by (try simp only []); omega) (by dsimp only; rw [hst, List.length_append]; exact aSx) (fun w h => by dsimp only; rw [hst, List.length_append, flat_append]; exact h.ent aEt)
 try simp only [decide_eq_false_iff_not] at h3
 obtain rfl : k = rs.length := by omega
 rw [List.take_length]
 refine s_exit_to rfl ?_
 iterate 5 refine aS ?_
 exact s_retv (rs := [.tmp 2]) rfl (.tmp rfl (.nil)) (fun w' h' => ⟨(ga, gc), rfl, trivial, h'.ent aEt⟩)
theorem c164 (w : World) (n : Nat) (hn : n ≤ 1000000) : Calls Tryz.prog 164 #[.slice none 0 0, .int .i64 (n : Int)] w fun en w' => ∃ g : Option Addr × Nat, en = .returned (.slice g.1 0 g.2) ∧ True ∧ HS w [] [.own (.slice g.1 0 g.2) 3 1 0 []] w' := by
 refine enter (args := [_, _]) Tryz.func164 Tryz.ntmps164 rfl rfl (HS.refl w []) ?_
 iterate 10 refine aS ?_
 refine s_cond rfl (fun h1 => ?_) fun h1 => ?_
 ·try simp only [decide_eq_true_eq] at h1
  exfalso; first | omega | (simp at h1; done) | (simp_all; done)
 try simp only [decide_eq_false_iff_not] at h1
 iterate 6 refine aS ?_
 refine o_p (p_cap rfl rfl Tryz.underlying30) rfl ?_
 iterate 3 refine aS ?_
 try refine oWr ?_
 refine aS ?_
 try refine oWr ?_
 refine o_slot (show _ = Value.int .i64 (n : Int) from by first | rfl | (congr 1; omega)) ?_
 iterate 7 refine aS ?_
 refine s_cond rfl (fun h2 => ?_) fun h2 => ?_
 ·try simp only [decide_eq_true_eq] at h2
  iterate 3 refine aS ?_
  refine o_p (p_cap rfl rfl Tryz.underlying30) rfl ?_
  refine o_p (p_slice _ _ 0 0 rfl rfl sl_30 rfl ⟨_, _, rfl, rfl⟩ (by omega) (by omega)) rfl ?_
  refine o_slot (show _ = Value.slice none 0 0 from rfl) ?_
  refine aS ?_
  refine o_h (h_append_zeros (m := n) (olds := []) rfl rfl rfl sl_30 ki_3 zr_3 rfl (by decide) (by omega) (by omega) (fun w h hne => absurd rfl hne) rfl (by omega) (by simp only [maxLen]; omega)) rfl (fun ⟨b3, c4⟩ ⟨h5, k6⟩ => ?_)
  iterate 2 refine aS ?_
  refine o_p (p_slice _ _ 0 0 rfl rfl sl_30 rfl ⟨_, _, rfl, rfl⟩ (by omega) (by omega)) rfl ?_
  refine o_slot (show _ = Value.slice (some ⟨b3, 0, none⟩) 0 c4 from by rw [subA_zero] <;> rfl) ?_
  iterate 7 refine aS ?_
  exact s_retv (rs := [.tmp 4]) rfl (.tmp rfl (.nil)) (fun w' h' => by first | exact ⟨(some ⟨b3, 0, none⟩, c4), rfl, trivial, (HS.to_own (n := 0) (xs := []) (ds := zrow [.int .i64 0] (n * 1)) aPk h' rfl rfl (by omega) (by omega)).ent aEt⟩ | exact ⟨(none, 0), rfl, trivial, (h'.own_nil 3 1).ent aEt⟩)
 try simp only [decide_eq_false_iff_not] at h2
 iterate 6 refine aS ?_
 exact s_retv (rs := [.tmp 4]) rfl (.tmp rfl (.nil)) (fun w' h' => by first | exact ⟨(some ⟨b3, 0, none⟩, c4), rfl, trivial, (HS.to_own (n := 0) (xs := []) (ds := zrow [.int .i64 0] (n * 1)) aPk h' rfl rfl (by omega) (by omega)).ent aEt⟩ | exact ⟨(none, 0), rfl, trivial, (h'.own_nil 3 1).ent aEt⟩)
theorem c154 (w : World) (a : Option Addr) (cap : Nat) (rs : List (RowV Int)) (hs : Vl w a (rs.map RowV.v)) (hr : ∀ r ∈ rs, Rw inV 1 w [] r.a r.l) (hm : (rs.flatMap RowV.l).length ≤ 1000000) (hn : rs.length ≤ 1000) : Calls Tryz.prog 154 #[.slice a rs.length cap] w fun en w' => ∃ g : Option Addr × Nat, en = .returned (.slice g.1 (rs.flatMap RowV.l).length g.2) ∧ True ∧ HS w [] [.own (.slice g.1 (rs.flatMap RowV.l).length g.2) 3 1 (rs.flatMap RowV.l).length ((rs.flatMap RowV.l).flatMap inV)] w' := by
 refine enter (args := [_]) Tryz.func154 Tryz.ntmps154 rfl rfl (HS.refl w []) ?_
 iterate 16 refine aS ?_
 refine s_loopI (α := Nat) [3, 5, 11, 12, 13, 14, 15, 16, 17, 18, 19, 20, 21, 22] (fun k => [(11, .int .i64 (k : Int)), (3, .int .i64 ((((rs.take k).flatMap RowV.l).length : Nat) : Int))]) (fun _ => HS w [] []) (fun k => k ≤ rs.length) (fun k => rs.length - k) 0 (Nat.zero_le _) aSx (fun w h => h.ent aEt) (fun k hk1 => ?_)
 iterate 5 refine aS ?_
 refine s_cond rfl (fun h1 => ?_) fun h1 => ?_
 ·try simp only [decide_eq_true_eq] at h1
  have hk : k < rs.length := by omega
  have hst := congrArg List.length (rv_succ hk)
  rw [List.length_append] at hst
  have hle := rv_le rs (k + 1)
  iterate 5 refine aS ?_
  refine o_p (p_indexAddr rfl rfl rfl sl_200 (k) (by omega) (by omega) (hs.some (by rw [List.length_map]; omega))) rfl ?_
  refine o_q (q_load_old rfl rfl sz_30 ((hs.rd (rv_get hk)))) rfl ?_
  iterate 8 refine aS ?_
  try refine oWr ?_
  refine o_slot (show _ = Value.int .i64 ((((rs.take k).flatMap RowV.l).length + (rs.getD k default).l.length : Nat) : Int) from by congr 1) ?_
  iterate 7 refine aS ?_
  refine s_cond rfl (fun h2 => ?_) fun h2 => ?_
  ·try simp only [decide_eq_true_eq] at h2
   exfalso; first | omega | (simp at h2; done) | (simp_all; done)
  try simp only [decide_eq_false_iff_not] at h2
  iterate 4 refine aS ?_
  try refine oWr ?_
  iterate 2 refine aS ?_
  exact s_backI (k + 1) (by omega) (by omega) (by rw [hst]; exact aSx) (fun w h => h.ent aEt)
 try simp only [decide_eq_false_iff_not] at h1
 obtain rfl : k = rs.length := by omega
 rw [List.take_length]
 refine s_exit_to rfl ?_
 iterate 3 refine aS ?_
 refine o_h (h_call rfl fn_164 rfl (fun w1 h1 => c164 w1 (rs.flatMap RowV.l).length hm)) rfl (fun gg _ => ?_)
 iterate 10 refine aS ?_
 refine s_loopI (α := Nat × Option Addr × Nat) [6, 8, 27, 28, 29, 30, 31, 32, 33, 34] (fun x => [(27, .int .i64 (x.1 : Int)), (6, .slice x.2.1 ((rs.take x.1).flatMap RowV.l).length x.2.2)]) (fun x => HS w [] [.own (.slice x.2.1 ((rs.take x.1).flatMap RowV.l).length x.2.2) 3 1 ((rs.take x.1).flatMap RowV.l).length (((rs.take x.1).flatMap RowV.l).flatMap inV)]) (fun x => x.1 ≤ rs.length) (fun x => rs.length - x.1) (0, gg.1, gg.2) (Nat.zero_le _) aSx (fun w h => h.ent aEt) (fun ⟨k, ga, gc⟩ hk1 => ?_)
 dsimp only
 simp only [] at hk1
 iterate 5 refine aS ?_
 refine s_cond rfl (fun h3 => ?_) fun h3 => ?_
 ·try simp only [decide_eq_true_eq] at h3
  have hk : k < rs.length := by omega
  have hst := rv_succ hk
  have hle := rv_le rs (k + 1)
  rw [hst, List.length_append] at hle
  have hmem : rs.getD k default ∈ rs := getD_mem hk
  iterate 5 refine aS ?_
  refine o_p (p_indexAddr rfl rfl rfl sl_200 (k) (by omega) (by omega) (hs.some (by rw [List.length_map]; omega))) rfl ?_
  refine o_q (q_load_old rfl rfl sz_30 ((hs.rd (rv_get hk)))) rfl ?_
  iterate 5 refine aS ?_
  refine o_h (h_appendS ((rs.getD k default).l.flatMap inV) rfl rfl rfl sl_30 Tryz.underlying30 zr_3 rfl aPk (fun w h => Rw.src iv1 (hr _ hmem) h) (flat_length iv1 _) (flat_one iv1c _) (by omega) (by simp only [maxLen]; omega)) rfl (fun b4 _ => ?_)
  iterate 5 refine aS ?_
  try refine oWr ?_
  iterate 2 refine aS ?_
  exact s_backI (k + 1, b4.1, b4.2) (by (try simp only []); omega) (by (try simp only []); omega) (by dsimp only; rw [hst, List.length_append]; exact aSx) (fun w h => by dsimp only; rw [hst, List.length_append, flat_append]; exact h.ent aEt)
 try simp only [decide_eq_false_iff_not] at h3
 obtain rfl : k = rs.length := by omega
 rw [List.take_length]
 refine s_exit_to rfl ?_
 iterate 5 refine aS ?_
 exact s_retv (rs := [.tmp 2]) rfl (.tmp rfl (.nil)) (fun w' h' => ⟨(ga, gc), rfl, trivial, h'.ent aEt⟩)
theorem fn_153 : isFn Tryz.prog 153 = true := by kernel_rfl
theorem zr_77 : tzero Tryz.prog 77 = some [.slice none 0 0] := by kernel_rfl
theorem fn_154 : isFn Tryz.prog 154 = true := by kernel_rfl
theorem zr_30 : tzero Tryz.prog 30 = some [.slice none 0 0] := by kernel_rfl
set_option maxHeartbeats 1000000 in
theorem c144 (w : World) (bt : Nat) (j : Nat) (mo rm : Int) (gn cap : Nat) (L : List LNd) (p k f t : Nat) (hw : HS w (fps [.blk bt 112 6 (tbV (j : Int) mo rm (some ⟨gn, 0, none⟩) (L).length cap), .blk gn 102 (cap * 3) ((L).flatMap LNd.vals), .star ((L).map (subN 26))]) [.blk bt 112 6 (tbV (j : Int) mo rm (some ⟨gn, 0, none⟩) (L).length cap), .blk gn 102 (cap * 3) ((L).flatMap LNd.vals), .star ((L).map (subN 26))] w) (hnc : L.length ≤ cap) (hcm : cap ≤ maxLen) (hok : MrgOk (pln L) p k f t) (hcf : (nth (pln L) p).cs.getD (k + 1) 0 = (f : Int)) (hct : (nth (pln L) p).cs.getD k 0 = (t : Int)) : Calls Tryz.prog 144 #[.pointer (some ⟨bt, 0, none⟩), .int .i64 (p : Int), .int .i64 (k : Int)] w fun en w' => ∃ g : (Nat × Nat) × List LNd, en = .returned (.tuple #[]) ∧ (pln g.2 = mrgN (pln L) p k t f ∧ g.2.length ≤ g.1.2 ∧ g.1.2 ≤ maxLen) ∧ HS w (fps [.blk bt 112 6 (tbV (j : Int) mo rm (some ⟨gn, 0, none⟩) (L).length cap), .blk gn 102 (cap * 3) ((L).flatMap LNd.vals), .star ((L).map (subN 26))]) [.blk bt 112 6 (tbV (j : Int) mo rm (some ⟨g.1.1, 0, none⟩) (g.2).length g.1.2), .blk g.1.1 102 (g.1.2 * 3) ((g.2).flatMap LNd.vals), .star ((g.2).map (subN 26))] w' := by
 have hpl := hok.pl
 have hfl := hok.fl
 have htl := hok.tl
 have hln := hok.len
 rw [pln_len] at hpl hfl htl hln
 have hPN := pln_nth hpl
 have hFN := pln_nth hfl
 have hTN := pln_nth htl
 have hke := hok.ke
 have hkc := hok.kc
 have hpf := hok.pf
 have hpt := hok.pt
 have hft := hok.ft
 have hsp := hok.sm p
 have hsf := hok.sm f
 have hst := hok.sm t
 rw [hPN] at hke hkc hcf hct hsp
 rw [hFN] at hsf
 rw [hTN] at hst
 simp only [LNd.pl] at hke hkc hcf hct hsp hsf hst
 refine enter (args := [_, _, _]) Tryz.func144 Tryz.ntmps144 rfl rfl hw ?_
 iterate 3 refine aS ?_
 refine o_fact (fun w h => HS.cs_some hpl (by omega) h aPk) fun hgc => ?_
 obtain ⟨gc9, hgc⟩ := hgc
 refine o_fact (fun w h => HS.es_some hpl (by omega) h aPk) fun hge => ?_
 obtain ⟨gp9, hge⟩ := hge
 iterate 5 refine aS ?_
 refine o_p (p_indexAddr rfl rfl rfl sl_22 (p) (by omega) (by omega) rfl) rfl ?_
 refine o_slot (show _ = Value.pointer (some ⟨gn, p * 3, none⟩) from by rw [Nat.zero_add]) ?_
 iterate 7 refine aS ?_
 refine o_q (q_load_at rfl rfl sz_30 (fun w h => HS.nd_cell hpl h aPk 2 rfl (by decide))) rfl ?_
 iterate 2 refine aS ?_
 try refine oWr ?_
 refine o_p (p_indexAddr rfl rfl rfl sl_30 (k + 1) (by omega) (by omega) hgc) rfl ?_
 refine o_q (q_load_at rfl rfl sz_3 (fun w h => HS.cs_rd hpl (by omega) hgc h aPk)) rfl ?_
 refine o_slot (show _ = Value.int .i64 (f : Int) from by rw [hcf]) ?_
 iterate 3 refine aS ?_
 refine s_draw [] mixed ?_
 refine dP 0 ?_
 refine dP 1 ?_
 refine dFa 2 ?_
 refine dFa 3 ?_
 refine dLd 4 [] ?_
 refine dP 5 ?_
 refine dP 6 ?_
 refine dFa 7 ?_
 refine d_q 8 [] rfl (q_load_at rfl rfl sz_30 (fun w h => HS.nd_cell hpl h aPk 2 rfl (by decide))) (by kernel_rfl) (by kernel_rfl) (by kernel_rfl) rfl ?_
 refine dP 9 ?_
 refine d_p 10 rfl (p_indexAddr rfl rfl rfl sl_30 (k) (by omega) (by omega) hgc) (by kernel_rfl) rfl rfl ?_
 refine d_q 11 [] rfl (q_load_at rfl rfl sz_3 (fun w h => HS.cs_rd hpl (by omega) hgc h aPk)) (by kernel_rfl) (by kernel_rfl) (by kernel_rfl) rfl ?_
 refine d_slot (show _ = Value.int .i64 (t : Int) from by rw [hct]) ?_
 refine d_p 12 rfl (p_indexAddr rfl rfl rfl sl_22 (t) (by omega) (by omega) rfl) (by kernel_rfl) rfl rfl ?_
 refine d_slot (show _ = Value.pointer (some ⟨gn, t * 3, none⟩) from by rw [Nat.zero_add]) ?_
 refine dP 13 ?_
 refine dP 14 ?_
 refine dFa 15 ?_
 refine dFa 16 ?_
 refine dLd 17 [] ?_
 refine dP 18 ?_
 refine d_p 19 rfl (p_indexAddr rfl rfl rfl sl_22 (f) (by omega) (by omega) rfl) (by kernel_rfl) rfl rfl ?_
 refine d_slot (show _ = Value.pointer (some ⟨gn, f * 3, none⟩) from by rw [Nat.zero_add]) ?_
 refine dP 20 ?_
 refine dP 21 ?_
 refine dNi ?_
 refine aS ?_
 refine s_weaken (L' := [(0, _), (2, _), (6, _), (7, _), (8, _), (9, _)]) aSx (fun _ h => h) ?_
 refine s_draw [21] mixed ?_
 refine dP 0 ?_
 refine dP 1 ?_
 refine dP 2 ?_
 refine dFa 3 ?_
 refine d_q 4 [[]] rfl (q_load_at rfl rfl sz_77 (fun w h => HS.nd_cell htl h aPk 1 rfl (by decide))) (by kernel_rfl) (by kernel_rfl) (by kernel_rfl) rfl ?_
 refine dP 5 ?_
 refine dP 6 ?_
 refine dFa 7 ?_
 refine d_q 8 [[]] rfl (q_load_at rfl rfl sz_77 (fun w h => HS.nd_cell hpl h aPk 1 rfl (by decide))) (by kernel_rfl) (by kernel_rfl) (by kernel_rfl) rfl ?_
 refine dP 9 ?_
 refine d_p 10 rfl (p_indexAddr rfl rfl rfl sl_77 (k) (by omega) (by omega) hge) (by kernel_rfl) rfl rfl ?_
 refine d_q 11 [[]] rfl (q_load_atn _ rfl rfl sz_26 rfl (fun w h => HS.es_rd hpl (by omega) hge h aPk)) (by kernel_rfl) (by kernel_rfl) (by kernel_rfl) rfl ?_
 refine dP 13 ?_
 refine dP 14 ?_
 refine dFa 15 ?_
 refine d_q 16 [[]] rfl (q_load_at rfl rfl sz_77 (fun w h => HS.nd_cell hfl h aPk 1 rfl (by decide))) (by kernel_rfl) (by kernel_rfl) (by kernel_rfl) rfl ?_
 refine d_h 12 rfl (h_buildSlice (cs := [_, _]) rfl rfl sl_77 zr_26 rfl rfl rfl) (by kernel_rfl) (fun w h => h.ent aEt) rfl (fun b1 _ => ?_)
 refine dBa ?_
 refine d_h 17 rfl (h_buildSlice (cs := [_, _, _]) rfl rfl sl_199 zr_77 rfl rfl rfl) (by kernel_rfl) (fun w h => h.ent aEt) rfl (fun b2 _ => ?_)
 refine dBa ?_
 refine d_h 18 rfl (h_call rfl fn_153 rfl (fun w1 h1 => c153 w1 (some ⟨b2, 0, none⟩) 3 [(⟨(nth L t).ea, (nth L t).ec, (nth L t).es⟩ : RowV TEnt), ⟨some ⟨b1, 0, none⟩, 1, [(nth (nth L p).es k)]⟩, ⟨(nth L f).ea, (nth L f).ec, (nth L f).es⟩] (h1.vl_blk aPk) (by intro r hr; simp only [List.mem_cons, List.mem_nil_iff, or_false] at hr; rcases hr with rfl | rfl | rfl; exact HS.es_row htl h1 aPk; exact h1.rw_blk (l := [(nth (nth L p).es k)]) ev2 (b := b1) (t := 26) (tot := 2) aPk; exact HS.es_row hfl h1 aPk) (by rw [cat3]; simp only [List.length_append, List.length_singleton]; omega) (by simp))) (by kernel_rfl) (fun w h => h.ent aEt) rfl (fun b3 _ => ?_)
 refine dBa ?_
 refine dP 19 ?_
 refine dFa 20 ?_
 refine dSt 21 ?_ (hl := (by rw [flat_length nv3]; show _ + 1 ≤ _; omega))
 refine dTu [] ?_
 refine dNi ?_
 refine aS ?_
 refine s_ex (fun w h => HS.es_set (gn := gn) (cap := cap) (ea := b3.1) (ec := b3.2) (es := ([(⟨(nth L t).ea, (nth L t).ec, (nth L t).es⟩ : RowV TEnt), ⟨some ⟨b1, 0, none⟩, 1, [(nth (nth L p).es k)]⟩, ⟨(nth L f).ea, (nth L f).ec, (nth L f).es⟩]).flatMap RowV.l) htl h aPk aPk aPk) fun L1 => ?_
 refine s_fact (fun w h => h.1) fun hS1 => ?_
 refine s_class (fun w h => h.2) ?_
 have hp1 : p < L1.length := by rw [hS1.len]; exact hpl
 have hf1 : f < L1.length := by rw [hS1.len]; exact hfl
 have ht1 : t < L1.length := by rw [hS1.len]; exact htl
 have hP1 : nth L1 p = nth L p := hS1.other hpl (Ne.symm hpt)
 have hF1 : nth L1 f = nth L f := hS1.other hfl (Ne.symm hft)
 have hT1 := hS1.at_
 have hTc1 : (nth L1 t).cs = (nth L t).cs := by rw [hT1]
 have hTl1 : (nth L1 t).cs.length = (nth L t).cs.length := by rw [hTc1]
 have hFl1 : (nth L1 f).cs.length = (nth L f).cs.length := by rw [hF1]
 refine s_draw [13] mixed ?_
 refine dP 0 ?_
 refine dP 1 ?_
 refine dP 2 ?_
 refine dFa 3 ?_
 refine d_q 4 [[]] rfl (q_load_at rfl rfl sz_30 (fun w h => HS.nd_cell ht1 h aPk 2 rfl (by decide))) (by kernel_rfl) (by kernel_rfl) (by kernel_rfl) rfl ?_
 refine dP 5 ?_
 refine dP 6 ?_
 refine dFa 7 ?_
 refine d_q 8 [[]] rfl (q_load_at rfl rfl sz_30 (fun w h => HS.nd_cell hf1 h aPk 2 rfl (by decide))) (by kernel_rfl) (by kernel_rfl) (by kernel_rfl) rfl ?_
 refine d_h 9 rfl (h_buildSlice (cs := [_, _]) rfl rfl sl_200 zr_30 rfl rfl rfl) (by kernel_rfl) (fun w h => h.ent aEt) rfl (fun b4 _ => ?_)
 refine dBa ?_
 refine d_h 10 rfl (h_call rfl fn_154 rfl (fun w1 h1 => c154 w1 (some ⟨b4, 0, none⟩) 2 [(⟨(nth L1 t).ca, (nth L1 t).cc, (nth L1 t).cs⟩ : RowV Int), ⟨(nth L1 f).ca, (nth L1 f).cc, (nth L1 f).cs⟩] (h1.vl_blk aPk) (by intro r hr; simp only [List.mem_cons, List.mem_nil_iff, or_false] at hr; rcases hr with rfl | rfl; exact HS.cs_row ht1 h1 aPk; exact HS.cs_row hf1 h1 aPk) (by rw [cat2]; simp only [List.length_append]; omega) (by simp))) (by kernel_rfl) (fun w h => h.ent aEt) rfl (fun b5 _ => ?_)
 refine dBa ?_
 refine dP 11 ?_
 refine dFa 12 ?_
 refine dSt 13 ?_ (hl := (by rw [flat_length nv3]; show _ + 1 ≤ _; omega))
 refine dTu [] ?_
 refine dNi ?_
 refine aS ?_
 refine s_weaken (L' := [(0, _), (2, _), (6, _), (7, _)]) aSx (fun _ h => h) ?_
 iterate 2 refine aS ?_
 refine o_ex (fun w h => HS.cs_set (gn := gn) (cap := cap) (ca := b5.1) (cc := b5.2) (cs := ([(⟨(nth L1 t).ca, (nth L1 t).cc, (nth L1 t).cs⟩ : RowV Int), ⟨(nth L1 f).ca, (nth L1 f).cc, (nth L1 f).cs⟩]).flatMap RowV.l) ht1 h aPk aPk aPk) fun L2 => ?_
 refine o_fact (fun w h => h.1) fun hS2 => ?_
 refine o_class (fun w h => h.2) ?_
 have hp2 : p < L2.length := by rw [hS2.len]; exact hp1
 have hf2 : f < L2.length := by rw [hS2.len]; exact hf1
 have hP2 : nth L2 p = nth L p := by rw [hS2.other hp1 (Ne.symm hpt), hP1]
 have hPl2 : (nth L2 p).es.length = (nth L p).es.length := by rw [hP2]
 refine o_class (fun w h => HS.es_take hp2 h aPk) ?_
 iterate 3 refine aS ?_
 refine o_q (q_load_at rfl rfl sz_77 (fun w h => HS.nd_cell hp2 h aPk 1 rfl (by decide))) rfl ?_
 iterate 3 refine aS ?_
 try refine oWr ?_
 refine o_h (h_callF (Cs := [.own (.slice ((nth L2 p)).ea ((nth L2 p)).es.length ((nth L2 p)).ec) 26 2 ((nth L2 p)).es.length (((nth L2 p)).es.flatMap TEnt.vals)]) rfl fn_103 rfl aPs (fun w1 h1 hf9 => c103e w1 (nth L2 p).ea k (nth L2 p).ec (nth L2 p).es hf9 (by omega) (by omega))) rfl (fun _ _ => ?_)
 iterate 2 refine aS ?_
 refine o_h0 (h_store rfl rfl rfl sz_77 rfl aPt (by rw [flat_length nv3]; show _ + 1 ≤ _; omega) rfl) (fun _ _ => ?_)
 iterate 4 refine aS ?_
 refine o_ex (fun w h => HS.es_setB (gn := gn) (cap := cap) (ea := (nth L2 p).ea) (ec := (nth L2 p).ec) (es := others (nth L2 p).es k) hp2 h aPk aPk aPk) fun L3 => ?_
 refine o_fact (fun w h => h.1) fun hS3 => ?_
 refine o_class (fun w h => h.2) ?_
 have hp3 : p < L3.length := by rw [hS3.len]; exact hp2
 have hf3 : f < L3.length := by rw [hS3.len]; exact hf2
 have hPc3 : (nth L3 p).cs = (nth L p).cs := by rw [hS3.at_, hP2]
 have hPl3 : (nth L3 p).cs.length = (nth L p).cs.length := by rw [hPc3]
 refine o_class (fun w h => HS.cs_take hp3 h aPk) ?_
 iterate 3 refine aS ?_
 refine o_q (q_load_at rfl rfl sz_30 (fun w h => HS.nd_cell hp3 h aPk 2 rfl (by decide))) rfl ?_
 iterate 2 refine aS ?_
 try refine oWr ?_
 iterate 2 refine aS ?_
 try refine oWr ?_
 refine o_slot (show _ = Value.int .i64 (((k + 1 : Nat) : Int) + 1) from by congr 1) ?_
 refine o_h (h_callF (Cs := [.own (.slice ((nth L3 p)).ca ((nth L3 p)).cs.length ((nth L3 p)).cc) 3 1 ((nth L3 p)).cs.length (((nth L3 p)).cs.flatMap inV)]) rfl fn_152 rfl aPs (fun w1 h1 hf9 => c152e w1 (nth L3 p).ca (k + 1) (nth L3 p).cc (nth L3 p).cs hf9 (by omega) (by omega))) rfl (fun _ _ => ?_)
 iterate 2 refine aS ?_
 refine o_h0 (h_store rfl rfl rfl sz_30 rfl aPt (by rw [flat_length nv3]; show _ + 1 ≤ _; omega) rfl) (fun _ _ => ?_)
 iterate 3 refine aS ?_
 refine o_ex (fun w h => HS.cs_setB (gn := gn) (cap := cap) (ca := (nth L3 p).ca) (cc := (nth L3 p).cc) (cs := others (nth L3 p).cs (k + 1)) hp3 h aPk aPk aPk) fun L4 => ?_
 refine o_fact (fun w h => h.1) fun hS4 => ?_
 refine o_class (fun w h => h.2) ?_
 have hf4 : f < L4.length := by rw [hS4.len]; exact hf3
 have hl4 : L4.length = L.length := by rw [hS4.len, hS3.len, hS2.len, hS1.len]
 iterate 5 refine aS ?_
 refine o_p (p_build (cs := [_, _, _]) rfl rfl pl_102 zr_102 rfl) rfl ?_
 refine o_p (p_indexAddr rfl rfl rfl sl_22 (f) (by omega) (by omega) rfl) rfl ?_
 refine o_slot (show _ = Value.pointer (some ⟨gn, f * 3, none⟩) from by rw [Nat.zero_add]) ?_
 refine o_h0 (h_store rfl rfl rfl sz_102 rfl aPt (by rw [flat_length nv3]; show _ + 3 ≤ _; omega) rfl) (fun _ _ => ?_)
 refine aS ?_
 exact s_end0 rfl (fun w' h' => by obtain ⟨L5, hS5, hC⟩ := HS.node_gone (i := f) (gn := gn) (cap := cap) hf4 h' aPk aPk; have hz5 : L5.length = L.length := (by rw [hS5.len, hl4]); exact ⟨((gn, cap), L5), rfl, ⟨by rw [hS5.pl, hS4.cs, hS3.es, hS2.cs, hS1.es, hPc3, hP2, cat3, cat2, hTc1, hF1]; unfold mrgN; rw [hPN, hFN, hTN]; rfl, by simp only []; omega, hcm⟩, by simp only []; rw [hz5]; exact hC.ent aEt⟩)
end Go.Proofs
namespace Gx
set_option linter.unusedSimpArgs false
set_option linter.unusedVariables false
set_option linter.unusedSectionVars false
open Go Go.RowKit
def kdN (ns : List Nd) (p k : Nat) : Nat := ((nth ns p).cs.getD k 0).toNat
def richN (mo : Int) (ns : List Nd) (p : Nat) (x : Int) : Bool := (decide (0 ≤ x) && decide (x ≤ ((nth ns p).cs.length : Int) - 1)) && decide (mo / 2 < ((nth ns (kdN ns p x.toNat)).es.length : Int))
def filP (mo : Int) (ns : List Nd) (p k : Nat) : List Nd :=
  if richN mo ns p ((k : Int) - 1) = true then givF ns p (k - 1) (kdN ns p (k - 1)) (kdN ns p k)
  else if richN mo ns p ((k : Int) + 1) = true then givB ns p k (kdN ns p (k + 1)) (kdN ns p k)
  else if 0 < k then mrgN ns p (k - 1) (kdN ns p (k - 1)) (kdN ns p k)
  else if 1 < (nth ns p).cs.length then mrgN ns p k (kdN ns p k) (kdN ns p (k + 1))
  else ns
def filN (mo : Int) (ns : List Nd) (i : Nat) : List Nd := filP mo ns (parN (i : Int) ns 0).1 (parN (i : Int) ns 0).2
structure FilOk (mo : Int) (ns : List Nd) (p k : Nat) : Prop where
  mo0 : 0 ≤ mo ∧ mo ≤ 1000
  pl : p < ns.length
  kl : k < (nth ns p).cs.length
  sh : (nth ns p).cs.length = (nth ns p).es.length + 1
  kid : ∀ x, x < (nth ns p).cs.length → 0 ≤ (nth ns p).cs.getD x 0 ∧ kdN ns p x < ns.length ∧ p ≠ kdN ns p x
  dis : ∀ x y, x < (nth ns p).cs.length → y < (nth ns p).cs.length → x ≠ y → kdN ns p x ≠ kdN ns p y
  len : ns.length ≤ 900
  sm : Sm 900 ns
section
variable {mo : Int} {ns : List Nd} {p k : Nat}
theorem FilOk.kd (h : FilOk mo ns p k) {x : Nat} (hx : x < (nth ns p).cs.length) : (nth ns p).cs.getD x 0 = (kdN ns p x : Int) := (Int.toNat_of_nonneg (h.kid x hx).1).symm
theorem FilOk.giv (h : FilOk mo ns p k) {e x y : Nat} (hx : x < (nth ns p).cs.length) (hy : y < (nth ns p).cs.length) (hxy : x ≠ y) (he : e + 1 < (nth ns p).cs.length) (hf : 0 < (nth ns (kdN ns p x)).es.length) : GivOk ns p e (kdN ns p x) (kdN ns p y) :=
  ⟨h.pl, (h.kid x hx).2.1, (h.kid y hy).2.1, (h.kid x hx).2.2, (h.kid y hy).2.2, h.dis x y hx hy hxy, by have := h.sh; omega, he, hf, h.len, h.sm⟩
theorem FilOk.mrg (h : FilOk mo ns p k) {e x y : Nat} (hx : x < (nth ns p).cs.length) (hy : y < (nth ns p).cs.length) (hxy : x ≠ y) (he : e + 1 < (nth ns p).cs.length) : MrgOk ns p e (kdN ns p x) (kdN ns p y) :=
  ⟨h.pl, (h.kid x hx).2.1, (h.kid y hy).2.1, (h.kid x hx).2.2, (h.kid y hy).2.2, h.dis x y hx hy hxy, by have := h.sh; omega, he, h.len, h.sm⟩
theorem rich_in {x : Int} (h : richN mo ns p x = true) : 0 ≤ x ∧ x ≤ ((nth ns p).cs.length : Int) - 1 ∧ mo / 2 < ((nth ns (kdN ns p x.toNat)).es.length : Int) := by
  unfold richN at h
  simp only [Bool.and_eq_true, decide_eq_true_eq] at h
  exact ⟨h.1.1, h.1.2, h.2⟩
theorem rich_t {P : Nd} {x : Int} (hP : nth ns p = P) (h : 0 ≤ x ∧ x ≤ (P.cs.length : Int) - 1) : richN mo ns p x = decide (mo / 2 < ((nth ns (kdN ns p x.toNat)).es.length : Int)) := by
  subst hP
  unfold richN
  rw [decide_eq_true h.1, decide_eq_true h.2]
  rfl
theorem rich_f {P : Nd} {x : Int} (hP : nth ns p = P) (h : (decide (0 ≤ x) && decide (x ≤ (P.cs.length : Int) - 1)) = false) : richN mo ns p x = false := by
  subst hP
  unfold richN
  rw [h]
  rfl
end
end Gx
