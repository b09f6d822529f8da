/- Contracts of the program's functions, proved by walking them with the rules of the Gx texts; without conditions beyond those that each contract names. -/
import Derived.WalkKit
import Derived.Deep.Draws
import Derived.TacticsIn
import Derived.OrdersIn
import Derived.RangeFuncLeaves
import Derived.Lib.Strings
import Derived.Laws.BytesArg
import Derived.Laws.IdiomStrings
import Derived.Deep.Quiet
import Derived.ProofKit
import Derived.OpenShut
import Derived.Laws.StructEq
import Derived.ChangeKeysEq
import Derived.Laws.Externs
import Derived.Lib.Overlaps
import Derived.Carry
import Derived.Laws.Small
import Derived.Lib.Bytealg
import Derived.Test.YtfappgmkbnddiaaGreatProg
import Derived.KernelRfl
import Derived.Lib.Builder
import Derived.Laws.Pointers
import Derived.RangeFuncRecord
import Derived.Test.YtfappgmkbnddiaaGreatP4
namespace Go.Proofs
open Go Go.RowKit Gx
set_option linter.unusedVariables false
set_option linter.unusedSimpArgs false
attribute [local irreducible] Go.Calls Gx.S Gx.O Gx.D Gx.OpP Gx.OpQ Gx.OpH
set_option maxRecDepth 20000 in
set_option maxHeartbeats 400000 in
theorem c3z (w : World) (co mo rm : Int) (a : Option Addr) (cap : Nat) (L : List LNd) (x : TEnt) (hs : Nt w [] a L) (hz : ¬ (tfewB (pln L) = true ∧ tslimB x = true)) : Calls Tryz.prog 3 #[.agg #[.int .i64 co, .int .i64 mo, .int .i64 rm, .slice a L.length cap], .agg #[.string (bs x.key), .string (bs x.val)]] w fun en w' => en = .returned (.bool true) ∧ Below w.heap.size w w' := by
 refine enter (args := [_, _]) Tryz.func3 Tryz.ntmps3 rfl rfl (HS.refl w []) ?_
 iterate 2 refine aS ?_
 refine o_h (h_box rfl rfl) rfl (fun b1 _ => ?_)
 refine o_h (h_box rfl rfl) rfl (fun b2 _ => ?_)
 iterate 5 refine aS ?_
 refine o_q (q_call rfl fn_13 rfl (fun w1 h1 => c13 w1)) rfl ?_
 iterate 2 refine aS ?_
 refine s_cond rfl (fun h3 => ?_) fun h3 => ?_
 ·try simp only [Bool.not_true] at h3
  exfalso; simp at h3
 ·try simp only [Bool.not_true] at h3
  iterate 5 refine aS ?_
  refine o_q (q_call rfl fn_14 rfl (fun w1 h1 => c14 w1 co mo rm a cap L (hs.later h1.nil))) rfl ?_
  iterate 2 refine aS ?_
  refine o_or 4 17 21 _ _ rfl
   (by
    intro hg4
    have hs5 := hg4; try simp only [Bool.not_eq_false'] at hs5
    refine oOn 17 hg4 ?_
    refine aS ?_
    refine oOn 17 hg4 ?_
    refine o_q (q_call rfl fn_15 rfl (fun w1 h1 => c15 w1 x)) rfl ?_
    refine oOn 17 hg4 ?_
    refine aS ?_
    refine o_p (p_pickf rfl rfl hg4 rfl) rfl ?_
    refine aS ?_
    exact s_joinN 4 21 _ rfl rfl rfl (fun w h => by first | exact h | exact h.ent aEt))
   (by
    intro hg6
    have hs7 := hg6; try simp only [Bool.not_eq_true'] at hs7
    refine oOf 17 hg6 ?_
    refine oOf 17 hg6 ?_
    refine oOf 17 hg6 ?_
    refine o_p (p_pickt rfl rfl hg6 rfl) rfl ?_
    refine aS ?_
    exact s_joinN 4 21 _ rfl rfl rfl (fun w h => by first | exact h | exact h.ent aEt)) ?_
  refine aS ?_
  refine s_cond rfl (fun h8 => ?_) fun h8 => ?_
  ·try simp only [Bool.or_eq_true, Bool.not_eq_true'] at h8
   iterate 4 refine aS ?_
   exact s_retv (rs := [.tmp 4]) rfl (.tmp rfl (.nil)) (fun w' h' => ⟨by rfl, h'.below⟩)
  ·try simp only [Bool.or_eq_false_iff, Bool.not_eq_false'] at h8
   exfalso; have hq := h8; exact hz (by first | exact hq | simpa using hq)
set_option maxRecDepth 20000 in
set_option maxHeartbeats 400000 in
theorem c3e (w : World) (co mo rm : Int) (a : Option Addr) (cap : Nat) (L : List LNd) (x : TEnt) (hs : Nt w [] a L) (hfw : tfewB (pln L) = true) (hsl : tslimB x = true) (he : ¬ (treE (⟨co, mo, rm, pln L⟩ : Tre)).2 = 0) : Calls Tryz.prog 3 #[.agg #[.int .i64 co, .int .i64 mo, .int .i64 rm, .slice a L.length cap], .agg #[.string (bs x.key), .string (bs x.val)]] w fun en w' => en = .returned (.bool true) ∧ Below w.heap.size w w' := by
 have hB := tfew_bd hfw
 have hkl := tfew_keys hfw
 have hsm := tfew_sm hfw
 have hle := hB.len
 rw [pln_len] at hle
 have hkk : x.key.length ≤ 1000000 := by have h9 := hsl; rw [tslimB, decide_eq_true_eq] at h9; omega
 refine enter (args := [_, _]) Tryz.func3 Tryz.ntmps3 rfl rfl (HS.refl w []) ?_
 iterate 2 refine aS ?_
 refine o_h (h_box rfl rfl) rfl (fun b1 _ => ?_)
 refine o_h (h_box rfl rfl) rfl (fun b2 _ => ?_)
 iterate 5 refine aS ?_
 refine o_q (q_call rfl fn_13 rfl (fun w1 h1 => c13 w1)) rfl ?_
 iterate 2 refine aS ?_
 refine s_cond rfl (fun h3 => ?_) fun h3 => ?_
 ·try simp only [Bool.not_true] at h3
  exfalso; simp at h3
 ·try simp only [Bool.not_true] at h3
  iterate 5 refine aS ?_
  refine o_q (q_call rfl fn_14 rfl (fun w1 h1 => c14 w1 co mo rm a cap L (hs.later h1.nil))) rfl ?_
  iterate 2 refine aS ?_
  refine o_or 4 17 21 _ _ rfl
   (by
    intro hg4
    have hs5 := hg4; try simp only [Bool.not_eq_false'] at hs5
    refine oOn 17 hg4 ?_
    refine aS ?_
    refine oOn 17 hg4 ?_
    refine o_q (q_call rfl fn_15 rfl (fun w1 h1 => c15 w1 x)) rfl ?_
    refine oOn 17 hg4 ?_
    refine aS ?_
    refine o_p (p_pickf rfl rfl hg4 rfl) rfl ?_
    refine aS ?_
    exact s_joinN 4 21 _ rfl rfl rfl (fun w h => by first | exact h | exact h.ent aEt))
   (by
    intro hg6
    have hs7 := hg6; try simp only [Bool.not_eq_true'] at hs7
    refine oOf 17 hg6 ?_
    refine oOf 17 hg6 ?_
    refine oOf 17 hg6 ?_
    refine o_p (p_pickt rfl rfl hg6 rfl) rfl ?_
    refine aS ?_
    exact s_joinN 4 21 _ rfl rfl rfl (fun w h => by first | exact h | exact h.ent aEt)) ?_
  refine aS ?_
  refine s_cond rfl (fun h8 => ?_) fun h8 => ?_
  ·try simp only [Bool.or_eq_true, Bool.not_eq_true'] at h8
   exfalso; simp [hfw, hsl] at h8
  ·try simp only [Bool.or_eq_false_iff, Bool.not_eq_false'] at h8
   iterate 2 refine aS ?_
   refine s_cutI (α := Nat) [5, 6, 7, 22, 23, 24, 25, 26, 27, 28, 29] (fun y => [(5, .pointer (some ⟨y, 0, none⟩)), (6, .slice none 0 0), (7, .int .i64 (treE (⟨co, mo, rm, pln L⟩ : Tre)).2)]) (fun y => HS w [] [.blk y 24 4 [.int .i64 0, .int .i64 0, .int .i64 0, .slice none 0 0], .blk b1 24 4 [.int .i64 co, .int .i64 mo, .int .i64 rm, .slice a L.length cap], .blk b2 26 2 (TEnt.vals x)]) (fun _ => True) ?_ ?_
   ·skip
    refine s_draw [9] mixed ?_
    refine dLn 0 [[]] ?_
    refine dLn 2 [[]] ?_
    refine d_two 1 8 rfl rfl  (h_call rfl fn_17 rfl (fun w1 h1 => c17 w1 co mo rm a cap L (hs.later h1.nil) hle hsm)) (h_alloc rfl zr_24) (by kernel_rfl) (fun w h => h.ent aEt) rfl rfl  (fun ⟨⟨ga1, gc1⟩, LC1⟩ hLC1 => ?_) (fun b9 _ => ?_)
    ·skip
     refine dBa ?_
     dsimp only
     refine d_q 3 [[]] rfl (q_call rfl fn_16 rfl (fun w1 h1 => c16e w1 co mo rm ga1 gc1 LC1 x (HS.nt h1 aPk) (by rw [hLC1]; exact hB) (tfew_keys (by rw [hLC1]; exact hfw)) (by rw [hLC1]; exact he))) (by kernel_rfl) (by kernel_rfl) (by kernel_rfl) rfl ?_
     rw [hLC1]
     refine dP 4 ?_
     refine dP 5 ?_
     refine dP 6 ?_
     refine dP 7 ?_
     refine d_h 8 rfl (h_alloc rfl zr_24) (by kernel_rfl) (fun w h => h.ent aEt) rfl (fun b10 _ => ?_)
     refine dBa ?_
     refine d_h0 9 rfl (h_store rfl rfl rfl sz_24 rfl aPt (by simp only [setMany_length, List.length_set, List.length_cons, List.length_nil, List.length_map]; omega) rfl) (by kernel_rfl) (fun w h => h.ent aEt) (fun _ _ => ?_)
     refine d_turn [] (by kernel_rfl) ?_
     refine dP 10 ?_
     refine dP 11 ?_
     refine dNi ?_
     exact s_joinI b10 trivial aSx (fun w h => h.ent aEt)
    ·skip
     refine dBa ?_
     refine d_h 1 rfl (h_call rfl fn_17 rfl (fun w1 h1 => c17 w1 co mo rm a cap L (hs.later h1.nil) hle hsm)) (by kernel_rfl) (fun w h => h.ent aEt) rfl (fun ⟨⟨ga1, gc1⟩, LC1⟩ hLC1 => ?_)
     refine dBa ?_
     dsimp only
     refine d_q 3 [[]] rfl (q_call rfl fn_16 rfl (fun w1 h1 => c16e w1 co mo rm ga1 gc1 LC1 x (HS.nt h1 aPk) (by rw [hLC1]; exact hB) (tfew_keys (by rw [hLC1]; exact hfw)) (by rw [hLC1]; exact he))) (by kernel_rfl) (by kernel_rfl) (by kernel_rfl) rfl ?_
     rw [hLC1]
     refine dP 4 ?_
     refine dP 5 ?_
     refine dP 6 ?_
     refine dP 7 ?_
     refine d_h0 9 rfl (h_store rfl rfl rfl sz_24 rfl aPt (by simp only [setMany_length, List.length_set, List.length_cons, List.length_nil, List.length_map]; omega) rfl) (by kernel_rfl) (fun w h => h.ent aEt) (fun _ _ => ?_)
     refine d_turn [] (by kernel_rfl) ?_
     refine dP 10 ?_
     refine dP 11 ?_
     refine dNi ?_
     exact s_joinI b9 trivial aSx (fun w h => h.ent aEt)
   ·intro y _
    iterate 3 refine aS ?_
    refine o_q (q_call rfl fn_18 rfl (fun w1 h1 => c18 w1 co mo rm a cap L (hs.later h1.nil) hB hkl)) rfl ?_
    iterate 8 refine aS ?_
    refine s_cond rfl (fun h11 => ?_) fun h11 => ?_
    ·try simp only [decide_eq_true_eq] at h11
     exfalso; omega
    ·try simp only [decide_eq_false_iff_not] at h11
     iterate 7 refine aS ?_
     refine s_cond rfl (fun h12 => ?_) fun h12 => ?_
     ·try simp only [decide_eq_true_eq] at h12
      exfalso; omega
     ·try simp only [decide_eq_false_iff_not] at h12
      iterate 7 refine aS ?_
      refine s_cond rfl (fun h13 => ?_) fun h13 => ?_
      ·try simp only [Bool.not_eq_true', decide_eq_false_iff_not] at h13
       iterate 6 refine aS ?_
       refine o_and 4 53 57 _ _ rfl
        (by
         intro hg14
         have hs15 := hg14; try simp only [decide_eq_true_eq] at hs15
         refine oOn 53 hg14 ?_
         refine aS ?_
         refine oOn 53 hg14 ?_
         refine o_p (p_build (cs := [_, _, _, _]) rfl rfl pl_24 zr_24 rfl) rfl ?_
         refine oOn 53 hg14 ?_
         refine o_q (q_call rfl fn_21 rfl (fun w1 h1 => c21 w1 0 0 0 none none 0 0 [] [] nt_nil nt_nil (by decide) (by decide) sm_nil sm_nil rfl)) rfl ?_
         refine o_p (p_pickt rfl rfl hg14 rfl) rfl ?_
         refine aS ?_
         exact s_joinN 4 57 _ rfl rfl rfl (fun w h => by first | exact h | exact h.ent aEt))
        (by
         intro hg16
         have hs17 := hg16; try simp only [decide_eq_false_iff_not] at hs17
         refine oOf 53 hg16 ?_
         refine oOf 53 hg16 ?_
         refine oOf 53 hg16 ?_
         refine o_p (p_pickf rfl rfl hg16 rfl) rfl ?_
         refine aS ?_
         exact s_joinN 4 57 _ rfl rfl rfl (fun w h => by first | exact h | exact h.ent aEt)) ?_
       refine aS ?_
       refine o_and 4 58 62 _ _ rfl
        (by
         intro hg18
         have hs19 := hg18; try simp only [Bool.and_eq_true, decide_eq_true_eq] at hs19
         refine oOn 58 hg18 ?_
         refine aS ?_
         refine oOn 58 hg18 ?_
         refine aS ?_
         refine oOn 58 hg18 ?_
         refine aS ?_
         refine o_p (p_pickt rfl rfl hg18 rfl) rfl ?_
         refine aS ?_
         exact s_joinN 4 62 _ rfl rfl rfl (fun w h => by first | exact h | exact h.ent aEt))
        (by
         intro hg20
         have hs21 := hg20; try simp only [Bool.and_eq_false_iff, decide_eq_false_iff_not] at hs21
         refine oOf 58 hg20 ?_
         refine oOf 58 hg20 ?_
         refine oOf 58 hg20 ?_
         refine o_p (p_pickf rfl rfl hg20 rfl) rfl ?_
         refine aS ?_
         exact s_joinN 4 62 _ rfl rfl rfl (fun w h => by first | exact h | exact h.ent aEt)) ?_
       iterate 2 refine aS ?_
       exact s_retv (rs := [.tmp 4]) rfl (.tmp rfl (.nil)) (fun w' h' => ⟨by simp [retV], h'.below⟩)
      ·try simp only [Bool.not_eq_false', decide_eq_true_eq] at h13
       exfalso; omega
set_option maxRecDepth 20000 in
set_option maxHeartbeats 400000 in
theorem c3x (w : World) (j : Nat) (mo rm : Int) (a : Option Addr) (cap : Nat) (L : List LNd) (x : TEnt) (hs : Nt w [] a L) (hfw : tfewB (pln L) = true) (hsl : tslimB x = true) (h0 : (treE (⟨(j : Int), mo, rm, pln L⟩ : Tre)).2 = 0) (hx : ¬ entE (j : Int) x = 0) : Calls Tryz.prog 3 #[.agg #[.int .i64 (j : Int), .int .i64 mo, .int .i64 rm, .slice a L.length cap], .agg #[.string (bs x.key), .string (bs x.val)]] w fun en w' => en = .returned (.bool true) ∧ Below w.heap.size w w' := by
 have hB := tfew_bd hfw
 have hkl := tfew_keys hfw
 have hsm := tfew_sm hfw
 have hle := hB.len
 rw [pln_len] at hle
 have hkk : x.key.length ≤ 1000000 := by have h9 := hsl; rw [tslimB, decide_eq_true_eq] at h9; omega
 obtain ⟨hc0, hz0, hl0, hl120, hn0, _, _⟩ := treE_0 h0
 rw [show ((⟨(j : Int), mo, rm, pln L⟩ : Tre)).ns = pln L from rfl, pln_len] at hl0 hl120
 have hj : j ≤ 3 := by obtain ⟨j9, e9, hj9⟩ := col_ok hc0; have e8 : ((j : Nat) : Int) = (j9 : Int) := e9; omega
 have hT : TOk (j : Int) (pln L) := tok_of (t := (⟨(j : Int), mo, rm, pln L⟩ : Tre)) hn0
 have hmo := (sizE_0 hz0).1
 simp only [] at hmo
 refine enter (args := [_, _]) Tryz.func3 Tryz.ntmps3 rfl rfl (HS.refl w []) ?_
 iterate 2 refine aS ?_
 refine o_h (h_box rfl rfl) rfl (fun b1 _ => ?_)
 refine o_h (h_box rfl rfl) rfl (fun b2 _ => ?_)
 iterate 5 refine aS ?_
 refine o_q (q_call rfl fn_13 rfl (fun w1 h1 => c13 w1)) rfl ?_
 iterate 2 refine aS ?_
 refine s_cond rfl (fun h3 => ?_) fun h3 => ?_
 ·try simp only [Bool.not_true] at h3
  exfalso; simp at h3
 ·try simp only [Bool.not_true] at h3
  iterate 5 refine aS ?_
  refine o_q (q_call rfl fn_14 rfl (fun w1 h1 => c14 w1 (j : Int) mo rm a cap L (hs.later h1.nil))) rfl ?_
  iterate 2 refine aS ?_
  refine o_or 4 17 21 _ _ rfl
   (by
    intro hg4
    have hs5 := hg4; try simp only [Bool.not_eq_false'] at hs5
    refine oOn 17 hg4 ?_
    refine aS ?_
    refine oOn 17 hg4 ?_
    refine o_q (q_call rfl fn_15 rfl (fun w1 h1 => c15 w1 x)) rfl ?_
    refine oOn 17 hg4 ?_
    refine aS ?_
    refine o_p (p_pickf rfl rfl hg4 rfl) rfl ?_
    refine aS ?_
    exact s_joinN 4 21 _ rfl rfl rfl (fun w h => by first | exact h | exact h.ent aEt))
   (by
    intro hg6
    have hs7 := hg6; try simp only [Bool.not_eq_true'] at hs7
    refine oOf 17 hg6 ?_
    refine oOf 17 hg6 ?_
    refine oOf 17 hg6 ?_
    refine o_p (p_pickt rfl rfl hg6 rfl) rfl ?_
    refine aS ?_
    exact s_joinN 4 21 _ rfl rfl rfl (fun w h => by first | exact h | exact h.ent aEt)) ?_
  refine aS ?_
  refine s_cond rfl (fun h8 => ?_) fun h8 => ?_
  ·try simp only [Bool.or_eq_true, Bool.not_eq_true'] at h8
   exfalso; simp [hfw, hsl] at h8
  ·try simp only [Bool.or_eq_false_iff, Bool.not_eq_false'] at h8
   iterate 2 refine aS ?_
   refine s_cutI (α := Nat) [5, 6, 7, 22, 23, 24, 25, 26, 27, 28, 29] (fun y => [(5, .pointer (some ⟨y, 0, none⟩)), (6, .slice none 0 0), (7, .int .i64 (entE (j : Int) x))]) (fun y => HS w [] [.blk y 24 4 [.int .i64 0, .int .i64 0, .int .i64 0, .slice none 0 0], .blk b1 24 4 [.int .i64 (j : Int), .int .i64 mo, .int .i64 rm, .slice a L.length cap], .blk b2 26 2 (TEnt.vals x)]) (fun _ => True) ?_ ?_
   ·skip
    refine s_draw [9] mixed ?_
    refine dLn 0 [[]] ?_
    refine dLn 2 [[]] ?_
    refine d_two 1 8 rfl rfl  (h_call rfl fn_17 rfl (fun w1 h1 => c17 w1 (j : Int) mo rm a cap L (hs.later h1.nil) hle hsm)) (h_alloc rfl zr_24) (by kernel_rfl) (fun w h => h.ent aEt) rfl rfl  (fun ⟨⟨ga1, gc1⟩, LC1⟩ hLC1 => ?_) (fun b9 _ => ?_)
    ·skip
     refine dBa ?_
     dsimp only
     refine d_q 3 [[]] rfl (q_call rfl fn_16 rfl (fun w1 h1 => c16x w1 j mo rm ga1 gc1 LC1 x (HS.nt h1 aPk) (by rw [hLC1]; exact hB) (tfew_keys (by rw [hLC1]; exact hfw)) hkk (by rw [hLC1]; exact h0) hx)) (by kernel_rfl) (by kernel_rfl) (by kernel_rfl) rfl ?_
     try rw [hLC1]
     refine dP 4 ?_
     refine dP 5 ?_
     refine dP 6 ?_
     refine dP 7 ?_
     refine d_h 8 rfl (h_alloc rfl zr_24) (by kernel_rfl) (fun w h => h.ent aEt) rfl (fun b10 _ => ?_)
     refine dBa ?_
     refine d_h0 9 rfl (h_store rfl rfl rfl sz_24 rfl aPt (by simp only [setMany_length, List.length_set, List.length_cons, List.length_nil, List.length_map]; omega) rfl) (by kernel_rfl) (fun w h => h.ent aEt) (fun _ _ => ?_)
     refine d_turn [] (by kernel_rfl) ?_
     refine dP 10 ?_
     refine dP 11 ?_
     refine dNi ?_
     exact s_joinI b10 trivial aSx (fun w h => h.ent aEt)
    ·skip
     refine dBa ?_
     refine d_h 1 rfl (h_call rfl fn_17 rfl (fun w1 h1 => c17 w1 (j : Int) mo rm a cap L (hs.later h1.nil) hle hsm)) (by kernel_rfl) (fun w h => h.ent aEt) rfl (fun ⟨⟨ga1, gc1⟩, LC1⟩ hLC1 => ?_)
     refine dBa ?_
     dsimp only
     refine d_q 3 [[]] rfl (q_call rfl fn_16 rfl (fun w1 h1 => c16x w1 j mo rm ga1 gc1 LC1 x (HS.nt h1 aPk) (by rw [hLC1]; exact hB) (tfew_keys (by rw [hLC1]; exact hfw)) hkk (by rw [hLC1]; exact h0) hx)) (by kernel_rfl) (by kernel_rfl) (by kernel_rfl) rfl ?_
     try rw [hLC1]
     refine dP 4 ?_
     refine dP 5 ?_
     refine dP 6 ?_
     refine dP 7 ?_
     refine d_h0 9 rfl (h_store rfl rfl rfl sz_24 rfl aPt (by simp only [setMany_length, List.length_set, List.length_cons, List.length_nil, List.length_map]; omega) rfl) (by kernel_rfl) (fun w h => h.ent aEt) (fun _ _ => ?_)
     refine d_turn [] (by kernel_rfl) ?_
     refine dP 10 ?_
     refine dP 11 ?_
     refine dNi ?_
     exact s_joinI b9 trivial aSx (fun w h => h.ent aEt)
   ·intro y _
    iterate 3 refine aS ?_
    refine o_q (q_call rfl fn_18 rfl (fun w1 h1 => c18 w1 (j : Int) mo rm a cap L (hs.later h1.nil) hB hkl)) rfl ?_
    iterate 8 refine aS ?_
    refine s_cond rfl (fun h11 => ?_) fun h11 => ?_
    ·try simp only [decide_eq_true_eq] at h11
     iterate 4 refine aS ?_
     refine o_q (q_call rfl fn_19 rfl (fun w1 h1 => c19 w1 j x hj hkk)) rfl ?_
     iterate 8 refine aS ?_
     refine s_cond rfl (fun h12 => ?_) fun h12 => ?_
     ·try simp only [decide_eq_true_eq] at h12
      exfalso; omega
     ·try simp only [decide_eq_false_iff_not] at h12
      iterate 7 refine aS ?_
      refine s_cond rfl (fun h13 => ?_) fun h13 => ?_
      ·try simp only [Bool.not_eq_true', decide_eq_false_iff_not] at h13
       iterate 6 refine aS ?_
       refine o_and 4 53 57 _ _ rfl
        (by
         intro hg14
         have hs15 := hg14; try simp only [decide_eq_true_eq] at hs15
         refine oOn 53 hg14 ?_
         refine aS ?_
         refine oOn 53 hg14 ?_
         refine o_p (p_build (cs := [_, _, _, _]) rfl rfl pl_24 zr_24 rfl) rfl ?_
         refine oOn 53 hg14 ?_
         refine o_q (q_call rfl fn_21 rfl (fun w1 h1 => c21 w1 0 0 0 none none 0 0 [] [] nt_nil nt_nil (by decide) (by decide) sm_nil sm_nil rfl)) rfl ?_
         refine o_p (p_pickt rfl rfl hg14 rfl) rfl ?_
         refine aS ?_
         exact s_joinN 4 57 _ rfl rfl rfl (fun w h => by first | exact h | exact h.ent aEt))
        (by
         intro hg16
         have hs17 := hg16; try simp only [decide_eq_false_iff_not] at hs17
         refine oOf 53 hg16 ?_
         refine oOf 53 hg16 ?_
         refine oOf 53 hg16 ?_
         refine o_p (p_pickf rfl rfl hg16 rfl) rfl ?_
         refine aS ?_
         exact s_joinN 4 57 _ rfl rfl rfl (fun w h => by first | exact h | exact h.ent aEt)) ?_
       refine aS ?_
       refine o_and 4 58 62 _ _ rfl
        (by
         intro hg18
         have hs19 := hg18; try simp only [Bool.and_eq_true, decide_eq_true_eq] at hs19
         refine oOn 58 hg18 ?_
         refine aS ?_
         refine oOn 58 hg18 ?_
         refine aS ?_
         refine oOn 58 hg18 ?_
         refine aS ?_
         refine o_p (p_pickt rfl rfl hg18 rfl) rfl ?_
         refine aS ?_
         exact s_joinN 4 62 _ rfl rfl rfl (fun w h => by first | exact h | exact h.ent aEt))
        (by
         intro hg20
         have hs21 := hg20; try simp only [Bool.and_eq_false_iff, decide_eq_false_iff_not] at hs21
         refine oOf 58 hg20 ?_
         refine oOf 58 hg20 ?_
         refine oOf 58 hg20 ?_
         refine o_p (p_pickf rfl rfl hg20 rfl) rfl ?_
         refine aS ?_
         exact s_joinN 4 62 _ rfl rfl rfl (fun w h => by first | exact h | exact h.ent aEt)) ?_
       iterate 2 refine aS ?_
       exact s_retv (rs := [.tmp 4]) rfl (.tmp rfl (.nil)) (fun w' h' => ⟨by simp [retV], h'.below⟩)
      ·try simp only [Bool.not_eq_false', decide_eq_true_eq] at h13
       exfalso; omega
    ·try simp only [decide_eq_false_iff_not] at h11
     exfalso; omega
set_option maxRecDepth 20000 in
set_option maxHeartbeats 400000 in
theorem c3m (w : World) (j : Nat) (mo rm : Int) (a : Option Addr) (cap : Nat) (L : List LNd) (x : TEnt) (hs : Nt w [] a L) (hfw : tfewB (pln L) = true) (hsl : tslimB x = true) (h0 : (treE (⟨(j : Int), mo, rm, pln L⟩ : Tre)).2 = 0) (hx0 : entE (j : Int) x = 0) (hx : (pathN (j : Int) (pln L) x.key).2.2 = true) : Calls Tryz.prog 3 #[.agg #[.int .i64 (j : Int), .int .i64 mo, .int .i64 rm, .slice a L.length cap], .agg #[.string (bs x.key), .string (bs x.val)]] w fun en w' => en = .returned (.bool true) ∧ Below w.heap.size w w' := by
 have hB := tfew_bd hfw
 have hkl := tfew_keys hfw
 have hsm := tfew_sm hfw
 have hle := hB.len
 rw [pln_len] at hle
 have hkk : x.key.length ≤ 1000000 := by have h9 := hsl; rw [tslimB, decide_eq_true_eq] at h9; omega
 obtain ⟨hc0, hz0, hl0, hl120, hn0, _, _⟩ := treE_0 h0
 rw [show ((⟨(j : Int), mo, rm, pln L⟩ : Tre)).ns = pln L from rfl, pln_len] at hl0 hl120
 have hj : j ≤ 3 := by obtain ⟨j9, e9, hj9⟩ := col_ok hc0; have e8 : ((j : Nat) : Int) = (j9 : Int) := e9; omega
 have hT : TOk (j : Int) (pln L) := tok_of (t := (⟨(j : Int), mo, rm, pln L⟩ : Tre)) hn0
 have hmo := (sizE_0 hz0).1
 simp only [] at hmo
 have hE : (insE (j : Int) mo rm (pln L) x) = 5 := by rw [insE, if_pos hx]
 refine enter (args := [_, _]) Tryz.func3 Tryz.ntmps3 rfl rfl (HS.refl w []) ?_
 iterate 2 refine aS ?_
 refine o_h (h_box rfl rfl) rfl (fun b1 _ => ?_)
 refine o_h (h_box rfl rfl) rfl (fun b2 _ => ?_)
 iterate 5 refine aS ?_
 refine o_q (q_call rfl fn_13 rfl (fun w1 h1 => c13 w1)) rfl ?_
 iterate 2 refine aS ?_
 refine s_cond rfl (fun h3 => ?_) fun h3 => ?_
 ·try simp only [Bool.not_true] at h3
  exfalso; simp at h3
 ·try simp only [Bool.not_true] at h3
  iterate 5 refine aS ?_
  refine o_q (q_call rfl fn_14 rfl (fun w1 h1 => c14 w1 (j : Int) mo rm a cap L (hs.later h1.nil))) rfl ?_
  iterate 2 refine aS ?_
  refine o_or 4 17 21 _ _ rfl
   (by
    intro hg4
    have hs5 := hg4; try simp only [Bool.not_eq_false'] at hs5
    refine oOn 17 hg4 ?_
    refine aS ?_
    refine oOn 17 hg4 ?_
    refine o_q (q_call rfl fn_15 rfl (fun w1 h1 => c15 w1 x)) rfl ?_
    refine oOn 17 hg4 ?_
    refine aS ?_
    refine o_p (p_pickf rfl rfl hg4 rfl) rfl ?_
    refine aS ?_
    exact s_joinN 4 21 _ rfl rfl rfl (fun w h => by first | exact h | exact h.ent aEt))
   (by
    intro hg6
    have hs7 := hg6; try simp only [Bool.not_eq_true'] at hs7
    refine oOf 17 hg6 ?_
    refine oOf 17 hg6 ?_
    refine oOf 17 hg6 ?_
    refine o_p (p_pickt rfl rfl hg6 rfl) rfl ?_
    refine aS ?_
    exact s_joinN 4 21 _ rfl rfl rfl (fun w h => by first | exact h | exact h.ent aEt)) ?_
  refine aS ?_
  refine s_cond rfl (fun h8 => ?_) fun h8 => ?_
  ·try simp only [Bool.or_eq_true, Bool.not_eq_true'] at h8
   exfalso; simp [hfw, hsl] at h8
  ·try simp only [Bool.or_eq_false_iff, Bool.not_eq_false'] at h8
   iterate 2 refine aS ?_
   refine s_cutI (α := Nat) [5, 6, 7, 22, 23, 24, 25, 26, 27, 28, 29] (fun y => [(5, .pointer (some ⟨y, 0, none⟩)), (6, .slice none 0 0), (7, .int .i64 5)]) (fun y => HS w [] [.blk y 24 4 [.int .i64 0, .int .i64 0, .int .i64 0, .slice none 0 0], .blk b1 24 4 [.int .i64 (j : Int), .int .i64 mo, .int .i64 rm, .slice a L.length cap], .blk b2 26 2 (TEnt.vals x)]) (fun _ => True) ?_ ?_
   ·skip
    refine s_draw [9] mixed ?_
    refine dLn 0 [[]] ?_
    refine dLn 2 [[]] ?_
    refine d_two 1 8 rfl rfl  (h_call rfl fn_17 rfl (fun w1 h1 => c17 w1 (j : Int) mo rm a cap L (hs.later h1.nil) hle hsm)) (h_alloc rfl zr_24) (by kernel_rfl) (fun w h => h.ent aEt) rfl rfl  (fun ⟨⟨ga1, gc1⟩, LC1⟩ hLC1 => ?_) (fun b9 _ => ?_)
    ·skip
     refine dBa ?_
     dsimp only
     refine d_q 3 [[]] rfl (q_call rfl fn_16 rfl (fun w1 h1 => c16c w1 j mo rm ga1 gc1 LC1 x (HS.nt h1 aPk) (by rw [hLC1]; exact hB) (tfew_keys (by rw [hLC1]; exact hfw)) (by rw [hLC1]; exact h0) hkk hx0 (by rw [hLC1]; exact (fun h => absurd hx h)) (by rw [hLC1, hE]; decide))) (by kernel_rfl) (by kernel_rfl) (by kernel_rfl) rfl ?_
     rw [hLC1, hE]
     refine dP 4 ?_
     refine dP 5 ?_
     refine dP 6 ?_
     refine dP 7 ?_
     refine d_h 8 rfl (h_alloc rfl zr_24) (by kernel_rfl) (fun w h => h.ent aEt) rfl (fun b10 _ => ?_)
     refine dBa ?_
     refine d_h0 9 rfl (h_store rfl rfl rfl sz_24 rfl aPt (by simp only [setMany_length, List.length_set, List.length_cons, List.length_nil, List.length_map]; omega) rfl) (by kernel_rfl) (fun w h => h.ent aEt) (fun _ _ => ?_)
     refine d_turn [] (by kernel_rfl) ?_
     refine dP 10 ?_
     refine dP 11 ?_
     refine dNi ?_
     exact s_joinI b10 trivial aSx (fun w h => h.ent aEt)
    ·skip
     refine dBa ?_
     refine d_h 1 rfl (h_call rfl fn_17 rfl (fun w1 h1 => c17 w1 (j : Int) mo rm a cap L (hs.later h1.nil) hle hsm)) (by kernel_rfl) (fun w h => h.ent aEt) rfl (fun ⟨⟨ga1, gc1⟩, LC1⟩ hLC1 => ?_)
     refine dBa ?_
     dsimp only
     refine d_q 3 [[]] rfl (q_call rfl fn_16 rfl (fun w1 h1 => c16c w1 j mo rm ga1 gc1 LC1 x (HS.nt h1 aPk) (by rw [hLC1]; exact hB) (tfew_keys (by rw [hLC1]; exact hfw)) (by rw [hLC1]; exact h0) hkk hx0 (by rw [hLC1]; exact (fun h => absurd hx h)) (by rw [hLC1, hE]; decide))) (by kernel_rfl) (by kernel_rfl) (by kernel_rfl) rfl ?_
     rw [hLC1, hE]
     refine dP 4 ?_
     refine dP 5 ?_
     refine dP 6 ?_
     refine dP 7 ?_
     refine d_h0 9 rfl (h_store rfl rfl rfl sz_24 rfl aPt (by simp only [setMany_length, List.length_set, List.length_cons, List.length_nil, List.length_map]; omega) rfl) (by kernel_rfl) (fun w h => h.ent aEt) (fun _ _ => ?_)
     refine d_turn [] (by kernel_rfl) ?_
     refine dP 10 ?_
     refine dP 11 ?_
     refine dNi ?_
     exact s_joinI b9 trivial aSx (fun w h => h.ent aEt)
   ·intro y _
    iterate 3 refine aS ?_
    refine o_q (q_call rfl fn_18 rfl (fun w1 h1 => c18 w1 (j : Int) mo rm a cap L (hs.later h1.nil) hB hkl)) rfl ?_
    iterate 8 refine aS ?_
    refine s_cond rfl (fun h11 => ?_) fun h11 => ?_
    ·try simp only [decide_eq_true_eq] at h11
     iterate 4 refine aS ?_
     refine o_q (q_call rfl fn_19 rfl (fun w1 h1 => c19 w1 j x hj hkk)) rfl ?_
     iterate 8 refine aS ?_
     refine s_cond rfl (fun h12 => ?_) fun h12 => ?_
     ·try simp only [decide_eq_true_eq] at h12
      iterate 5 refine aS ?_
      refine o_h (h_call rfl fn_20 rfl (fun w1 h1 => c20 w1 j mo rm a cap L x.key hj hl0 hB hT (hs.later h1.nil) (entE_key hx0) hkk)) rfl (fun ⟨pa, pc⟩ _ => ?_)
      dsimp only
      iterate 7 refine aS ?_
      refine s_weaken (L' := [(2, _), (3, _), (4, _), (5, _), (6, _), (7, _), (8, _), (10, _)]) aSx (fun _ h => h) ?_
      iterate 3 refine aS ?_
      refine s_cond rfl (fun h13 => ?_) fun h13 => ?_
      ·skip
       iterate 9 refine aS ?_
       refine s_cond rfl (fun h14 => ?_) fun h14 => ?_
       ·try simp only [Bool.not_eq_true', decide_eq_false_iff_not] at h14
        iterate 6 refine aS ?_
        refine o_and 4 53 57 _ _ rfl
         (by
          intro hg15
          have hs16 := hg15; try simp only [decide_eq_true_eq] at hs16
          refine oOn 53 hg15 ?_
          refine aS ?_
          refine oOn 53 hg15 ?_
          refine o_p (p_build (cs := [_, _, _, _]) rfl rfl pl_24 zr_24 rfl) rfl ?_
          refine oOn 53 hg15 ?_
          refine o_q (q_call rfl fn_21 rfl (fun w1 h1 => c21 w1 0 0 0 none none 0 0 [] [] nt_nil nt_nil (by decide) (by decide) sm_nil sm_nil rfl)) rfl ?_
          refine o_p (p_pickt rfl rfl hg15 rfl) rfl ?_
          refine aS ?_
          exact s_joinN 4 57 _ rfl rfl rfl (fun w h => by first | exact h | exact h.ent aEt))
         (by
          intro hg17
          have hs18 := hg17; try simp only [decide_eq_false_iff_not] at hs18
          refine oOf 53 hg17 ?_
          refine oOf 53 hg17 ?_
          refine oOf 53 hg17 ?_
          refine o_p (p_pickf rfl rfl hg17 rfl) rfl ?_
          refine aS ?_
          exact s_joinN 4 57 _ rfl rfl rfl (fun w h => by first | exact h | exact h.ent aEt)) ?_
        refine aS ?_
        refine o_and 4 58 62 _ _ rfl
         (by
          intro hg19
          have hs20 := hg19; try simp only [Bool.and_eq_true, decide_eq_true_eq] at hs20
          refine oOn 58 hg19 ?_
          refine aS ?_
          refine oOn 58 hg19 ?_
          refine aS ?_
          refine oOn 58 hg19 ?_
          refine aS ?_
          refine o_p (p_pickt rfl rfl hg19 rfl) rfl ?_
          refine aS ?_
          exact s_joinN 4 62 _ rfl rfl rfl (fun w h => by first | exact h | exact h.ent aEt))
         (by
          intro hg21
          have hs22 := hg21; try simp only [Bool.and_eq_false_iff, decide_eq_false_iff_not] at hs22
          refine oOf 58 hg21 ?_
          refine oOf 58 hg21 ?_
          refine oOf 58 hg21 ?_
          refine o_p (p_pickf rfl rfl hg21 rfl) rfl ?_
          refine aS ?_
          exact s_joinN 4 62 _ rfl rfl rfl (fun w h => by first | exact h | exact h.ent aEt)) ?_
        iterate 2 refine aS ?_
        exact s_retv (rs := [.tmp 4]) rfl (.tmp rfl (.nil)) (fun w' h' => ⟨by simp [retV], h'.below⟩)
       ·try simp only [Bool.not_eq_false', decide_eq_true_eq] at h14
        exfalso; omega
      ·skip
       exfalso; first | exact hx h13 | simp_all
     ·try simp only [decide_eq_false_iff_not] at h12
      exfalso; omega
    ·try simp only [decide_eq_false_iff_not] at h11
     exfalso; omega
set_option maxRecDepth 20000 in
set_option maxHeartbeats 400000 in
theorem c3f (w : World) (j : Nat) (mo rm : Int) (a : Option Addr) (cap : Nat) (L : List LNd) (x : TEnt) (hs : Nt w [] a L) (hfw : tfewB (pln L) = true) (hsl : tslimB x = true) (h0 : (treE (⟨(j : Int), mo, rm, pln L⟩ : Tre)).2 = 0) (hx0 : entE (j : Int) x = 0) (hx : ¬ (pathN (j : Int) (pln L) x.key).2.2 = true) (hbig : 120 < (insT (j : Int) mo rm (pln L) x).length) : Calls Tryz.prog 3 #[.agg #[.int .i64 (j : Int), .int .i64 mo, .int .i64 rm, .slice a L.length cap], .agg #[.string (bs x.key), .string (bs x.val)]] w fun en w' => en = .returned (.bool true) ∧ Below w.heap.size w w' := by
 have hB := tfew_bd hfw
 have hkl := tfew_keys hfw
 have hsm := tfew_sm hfw
 have hle := hB.len
 rw [pln_len] at hle
 have hkk : x.key.length ≤ 1000000 := by have h9 := hsl; rw [tslimB, decide_eq_true_eq] at h9; omega
 obtain ⟨hc0, hz0, hl0, hl120, hn0, _, _⟩ := treE_0 h0
 rw [show ((⟨(j : Int), mo, rm, pln L⟩ : Tre)).ns = pln L from rfl, pln_len] at hl0 hl120
 have hj : j ≤ 3 := by obtain ⟨j9, e9, hj9⟩ := col_ok hc0; have e8 : ((j : Nat) : Int) = (j9 : Int) := e9; omega
 have hT : TOk (j : Int) (pln L) := tok_of (t := (⟨(j : Int), mo, rm, pln L⟩ : Tre)) hn0
 have hmo := (sizE_0 hz0).1
 simp only [] at hmo
 have hvt := tre_vt h0
 simp only [] at hvt
 obtain ⟨T9, d9, hR9, hV9, hZ9, hU9⟩ := hvt
 have hI := ins_all hZ9 hR9 hV9 (by rw [pln_len]; omega) hU9 hx0 hx
 obtain ⟨T8, d8, hR8, hV8, _⟩ := hI.tree
 have hsI : Sm 900 (insT (j : Int) mo rm (pln L) x) := (hR8.sm hV8.bel (Nat.le_refl _) (Nat.le_trans hV8.root hZ9.rh)).mono (by have := hZ9.hi8; omega)
 have hlI := hI.len
 rw [pln_len] at hlI
 have hE : (insE (j : Int) mo rm (pln L) x) = 16 := by rw [insE, if_neg hx, if_neg (by omega)]
 refine enter (args := [_, _]) Tryz.func3 Tryz.ntmps3 rfl rfl (HS.refl w []) ?_
 iterate 2 refine aS ?_
 refine o_h (h_box rfl rfl) rfl (fun b1 _ => ?_)
 refine o_h (h_box rfl rfl) rfl (fun b2 _ => ?_)
 iterate 5 refine aS ?_
 refine o_q (q_call rfl fn_13 rfl (fun w1 h1 => c13 w1)) rfl ?_
 iterate 2 refine aS ?_
 refine s_cond rfl (fun h3 => ?_) fun h3 => ?_
 ·try simp only [Bool.not_true] at h3
  exfalso; simp at h3
 ·try simp only [Bool.not_true] at h3
  iterate 5 refine aS ?_
  refine o_q (q_call rfl fn_14 rfl (fun w1 h1 => c14 w1 (j : Int) mo rm a cap L (hs.later h1.nil))) rfl ?_
  iterate 2 refine aS ?_
  refine o_or 4 17 21 _ _ rfl
   (by
    intro hg4
    have hs5 := hg4; try simp only [Bool.not_eq_false'] at hs5
    refine oOn 17 hg4 ?_
    refine aS ?_
    refine oOn 17 hg4 ?_
    refine o_q (q_call rfl fn_15 rfl (fun w1 h1 => c15 w1 x)) rfl ?_
    refine oOn 17 hg4 ?_
    refine aS ?_
    refine o_p (p_pickf rfl rfl hg4 rfl) rfl ?_
    refine aS ?_
    exact s_joinN 4 21 _ rfl rfl rfl (fun w h => by first | exact h | exact h.ent aEt))
   (by
    intro hg6
    have hs7 := hg6; try simp only [Bool.not_eq_true'] at hs7
    refine oOf 17 hg6 ?_
    refine oOf 17 hg6 ?_
    refine oOf 17 hg6 ?_
    refine o_p (p_pickt rfl rfl hg6 rfl) rfl ?_
    refine aS ?_
    exact s_joinN 4 21 _ rfl rfl rfl (fun w h => by first | exact h | exact h.ent aEt)) ?_
  refine aS ?_
  refine s_cond rfl (fun h8 => ?_) fun h8 => ?_
  ·try simp only [Bool.or_eq_true, Bool.not_eq_true'] at h8
   exfalso; simp [hfw, hsl] at h8
  ·try simp only [Bool.or_eq_false_iff, Bool.not_eq_false'] at h8
   iterate 2 refine aS ?_
   refine s_cutI (α := Nat) [5, 6, 7, 22, 23, 24, 25, 26, 27, 28, 29] (fun y => [(5, .pointer (some ⟨y, 0, none⟩)), (6, .slice none 0 0), (7, .int .i64 16)]) (fun y => HS w [] [.blk y 24 4 [.int .i64 0, .int .i64 0, .int .i64 0, .slice none 0 0], .blk b1 24 4 [.int .i64 (j : Int), .int .i64 mo, .int .i64 rm, .slice a L.length cap], .blk b2 26 2 (TEnt.vals x)]) (fun _ => True) ?_ ?_
   ·skip
    refine s_draw [9] mixed ?_
    refine dLn 0 [[]] ?_
    refine dLn 2 [[]] ?_
    refine d_two 1 8 rfl rfl  (h_call rfl fn_17 rfl (fun w1 h1 => c17 w1 (j : Int) mo rm a cap L (hs.later h1.nil) hle hsm)) (h_alloc rfl zr_24) (by kernel_rfl) (fun w h => h.ent aEt) rfl rfl  (fun ⟨⟨ga1, gc1⟩, LC1⟩ hLC1 => ?_) (fun b9 _ => ?_)
    ·skip
     refine dBa ?_
     dsimp only
     refine d_q 3 [[]] rfl (q_call rfl fn_16 rfl (fun w1 h1 => c16c w1 j mo rm ga1 gc1 LC1 x (HS.nt h1 aPk) (by rw [hLC1]; exact hB) (tfew_keys (by rw [hLC1]; exact hfw)) (by rw [hLC1]; exact h0) hkk hx0 (by rw [hLC1]; exact (fun _ => hI.ok)) (by rw [hLC1, hE]; decide))) (by kernel_rfl) (by kernel_rfl) (by kernel_rfl) rfl ?_
     rw [hLC1, hE]
     refine dP 4 ?_
     refine dP 5 ?_
     refine dP 6 ?_
     refine dP 7 ?_
     refine d_h 8 rfl (h_alloc rfl zr_24) (by kernel_rfl) (fun w h => h.ent aEt) rfl (fun b10 _ => ?_)
     refine dBa ?_
     refine d_h0 9 rfl (h_store rfl rfl rfl sz_24 rfl aPt (by simp only [setMany_length, List.length_set, List.length_cons, List.length_nil, List.length_map]; omega) rfl) (by kernel_rfl) (fun w h => h.ent aEt) (fun _ _ => ?_)
     refine d_turn [] (by kernel_rfl) ?_
     refine dP 10 ?_
     refine dP 11 ?_
     refine dNi ?_
     exact s_joinI b10 trivial aSx (fun w h => h.ent aEt)
    ·skip
     refine dBa ?_
     refine d_h 1 rfl (h_call rfl fn_17 rfl (fun w1 h1 => c17 w1 (j : Int) mo rm a cap L (hs.later h1.nil) hle hsm)) (by kernel_rfl) (fun w h => h.ent aEt) rfl (fun ⟨⟨ga1, gc1⟩, LC1⟩ hLC1 => ?_)
     refine dBa ?_
     dsimp only
     refine d_q 3 [[]] rfl (q_call rfl fn_16 rfl (fun w1 h1 => c16c w1 j mo rm ga1 gc1 LC1 x (HS.nt h1 aPk) (by rw [hLC1]; exact hB) (tfew_keys (by rw [hLC1]; exact hfw)) (by rw [hLC1]; exact h0) hkk hx0 (by rw [hLC1]; exact (fun _ => hI.ok)) (by rw [hLC1, hE]; decide))) (by kernel_rfl) (by kernel_rfl) (by kernel_rfl) rfl ?_
     rw [hLC1, hE]
     refine dP 4 ?_
     refine dP 5 ?_
     refine dP 6 ?_
     refine dP 7 ?_
     refine d_h0 9 rfl (h_store rfl rfl rfl sz_24 rfl aPt (by simp only [setMany_length, List.length_set, List.length_cons, List.length_nil, List.length_map]; omega) rfl) (by kernel_rfl) (fun w h => h.ent aEt) (fun _ _ => ?_)
     refine d_turn [] (by kernel_rfl) ?_
     refine dP 10 ?_
     refine dP 11 ?_
     refine dNi ?_
     exact s_joinI b9 trivial aSx (fun w h => h.ent aEt)
   ·intro y _
    iterate 3 refine aS ?_
    refine o_q (q_call rfl fn_18 rfl (fun w1 h1 => c18 w1 (j : Int) mo rm a cap L (hs.later h1.nil) hB hkl)) rfl ?_
    iterate 8 refine aS ?_
    refine s_cond rfl (fun h11 => ?_) fun h11 => ?_
    ·try simp only [decide_eq_true_eq] at h11
     iterate 4 refine aS ?_
     refine o_q (q_call rfl fn_19 rfl (fun w1 h1 => c19 w1 j x hj hkk)) rfl ?_
     iterate 8 refine aS ?_
     refine s_cond rfl (fun h12 => ?_) fun h12 => ?_
     ·try simp only [decide_eq_true_eq] at h12
      iterate 5 refine aS ?_
      refine o_h (h_call rfl fn_20 rfl (fun w1 h1 => c20 w1 j mo rm a cap L x.key hj hl0 hB hT (hs.later h1.nil) (entE_key hx0) hkk)) rfl (fun ⟨pa, pc⟩ _ => ?_)
      dsimp only
      iterate 7 refine aS ?_
      refine s_weaken (L' := [(2, _), (3, _), (4, _), (5, _), (6, _), (7, _), (8, _), (10, _)]) aSx (fun _ h => h) ?_
      iterate 3 refine aS ?_
      refine s_cond rfl (fun h13 => ?_) fun h13 => ?_
      ·skip
       exfalso; first | exact hx h13 | simp_all
      ·skip
       iterate 7 refine aS ?_
       refine s_cond rfl (fun h14 => ?_) fun h14 => ?_
       ·try simp only [Bool.not_eq_true', decide_eq_false_iff_not] at h14
        exfalso; omega
       ·try simp only [Bool.not_eq_false', decide_eq_true_eq] at h14
        iterate 5 refine aS ?_
        refine o_h (h_call rfl fn_22 rfl (fun w1 h1 => c22 w1 j mo rm a cap L x hj hl0 hB hT (hs.later h1.nil) (entE_key hx0) hkk hI.okR)) rfl (fun ⟨⟨gr, cr⟩, LR⟩ hLR => ?_)
        dsimp only
        have hLR2 : pln LR = (insT (j : Int) mo rm (pln L) x) := hLR.trans hI.same
        have hlr : LR.length = (insT (j : Int) mo rm (pln L) x).length := by rw [← hLR2, pln_len]
        refine o_h (h_alloc rfl zr_24) rfl (fun b15 _ => ?_)
        refine o_h0 (h_store rfl rfl rfl sz_24 rfl aPt (by simp only [setMany_length, List.length_set, List.length_cons, List.length_nil, List.length_map]; omega) rfl) (fun _ _ => ?_)
        iterate 9 refine aS ?_
        refine s_cond rfl (fun h16 => ?_) fun h16 => ?_
        ·try simp only [decide_eq_true_eq] at h16
         iterate 5 refine aS ?_
         refine o_and 4 72 76 _ _ rfl
          (by
           intro hg17
           have hs18 := hg17; try simp only [decide_eq_true_eq] at hs18
           refine oOn 72 hg17 ?_
           refine aS ?_
           refine oOn 72 hg17 ?_
           refine o_p (p_build (cs := [_, _, _, _]) rfl rfl pl_24 zr_24 rfl) rfl ?_
           refine oOn 72 hg17 ?_
           refine o_q (q_call rfl fn_21 rfl (fun w1 h1 => c21 w1 0 0 0 none none 0 0 [] [] nt_nil nt_nil (by decide) (by decide) sm_nil sm_nil rfl)) rfl ?_
           refine o_p (p_pickt rfl rfl hg17 rfl) rfl ?_
           refine aS ?_
           exact s_joinN 4 76 _ rfl rfl rfl (fun w h => by first | exact h | exact h.ent aEt))
          (by
           intro hg19
           have hs20 := hg19; try simp only [decide_eq_false_iff_not] at hs20
           refine oOf 72 hg19 ?_
           refine oOf 72 hg19 ?_
           refine oOf 72 hg19 ?_
           refine o_p (p_pickf rfl rfl hg19 rfl) rfl ?_
           refine aS ?_
           exact s_joinN 4 76 _ rfl rfl rfl (fun w h => by first | exact h | exact h.ent aEt)) ?_
         refine aS ?_
         refine o_and 4 77 81 _ _ rfl
          (by
           intro hg21
           have hs22 := hg21; try simp only [Bool.and_eq_true, decide_eq_true_eq] at hs22
           refine oOn 77 hg21 ?_
           refine aS ?_
           refine oOn 77 hg21 ?_
           refine aS ?_
           refine oOn 77 hg21 ?_
           refine aS ?_
           refine o_p (p_pickt rfl rfl hg21 rfl) rfl ?_
           refine aS ?_
           exact s_joinN 4 81 _ rfl rfl rfl (fun w h => by first | exact h | exact h.ent aEt))
          (by
           intro hg23
           have hs24 := hg23; try simp only [Bool.and_eq_false_iff, decide_eq_false_iff_not] at hs24
           refine oOf 77 hg23 ?_
           refine oOf 77 hg23 ?_
           refine oOf 77 hg23 ?_
           refine o_p (p_pickf rfl rfl hg23 rfl) rfl ?_
           refine aS ?_
           exact s_joinN 4 81 _ rfl rfl rfl (fun w h => by first | exact h | exact h.ent aEt)) ?_
         iterate 2 refine aS ?_
         exact s_retv (rs := [.tmp 4]) rfl (.tmp rfl (.nil)) (fun w' h' => ⟨by simp [retV], h'.below⟩)
        ·try simp only [decide_eq_false_iff_not] at h16
         exfalso; omega
     ·try simp only [decide_eq_false_iff_not] at h12
      exfalso; omega
    ·try simp only [decide_eq_false_iff_not] at h11
     exfalso; omega
set_option maxRecDepth 20000 in
set_option maxHeartbeats 400000 in
theorem c3o (w : World) (j : Nat) (mo rm : Int) (a : Option Addr) (cap : Nat) (L : List LNd) (x : TEnt) (hs : Nt w [] a L) (hfw : tfewB (pln L) = true) (hsl : tslimB x = true) (h0 : (treE (⟨(j : Int), mo, rm, pln L⟩ : Tre)).2 = 0) (hx0 : entE (j : Int) x = 0) (hx : ¬ (pathN (j : Int) (pln L) x.key).2.2 = true) (hsmall : (insT (j : Int) mo rm (pln L) x).length ≤ 120) : Calls Tryz.prog 3 #[.agg #[.int .i64 (j : Int), .int .i64 mo, .int .i64 rm, .slice a L.length cap], .agg #[.string (bs x.key), .string (bs x.val)]] w fun en w' => en = .returned (.bool true) ∧ Below w.heap.size w w' := by
 have hB := tfew_bd hfw
 have hkl := tfew_keys hfw
 have hsm := tfew_sm hfw
 have hle := hB.len
 rw [pln_len] at hle
 have hkk : x.key.length ≤ 1000000 := by have h9 := hsl; rw [tslimB, decide_eq_true_eq] at h9; omega
 obtain ⟨hc0, hz0, hl0, hl120, hn0, _, _⟩ := treE_0 h0
 rw [show ((⟨(j : Int), mo, rm, pln L⟩ : Tre)).ns = pln L from rfl, pln_len] at hl0 hl120
 have hj : j ≤ 3 := by obtain ⟨j9, e9, hj9⟩ := col_ok hc0; have e8 : ((j : Nat) : Int) = (j9 : Int) := e9; omega
 have hT : TOk (j : Int) (pln L) := tok_of (t := (⟨(j : Int), mo, rm, pln L⟩ : Tre)) hn0
 have hmo := (sizE_0 hz0).1
 simp only [] at hmo
 have hvt := tre_vt h0
 simp only [] at hvt
 obtain ⟨T9, d9, hR9, hV9, hZ9, hU9⟩ := hvt
 have hI := ins_all hZ9 hR9 hV9 (by rw [pln_len]; omega) hU9 hx0 hx
 obtain ⟨T8, d8, hR8, hV8, _⟩ := hI.tree
 have hsI : Sm 900 (insT (j : Int) mo rm (pln L) x) := (hR8.sm hV8.bel (Nat.le_refl _) (Nat.le_trans hV8.root hZ9.rh)).mono (by have := hZ9.hi8; omega)
 have hlI := hI.len
 rw [pln_len] at hlI
 have hE : (insE (j : Int) mo rm (pln L) x) = 0 := by rw [insE, if_neg hx, if_pos hsmall]
 have hcl : (chgN (pln L) (insT (j : Int) mo rm (pln L) x)).length ≤ 100000 := Nat.le_trans (chgK_len _ _ _) (by rw [pln_len]; omega)
 refine enter (args := [_, _]) Tryz.func3 Tryz.ntmps3 rfl rfl (HS.refl w []) ?_
 iterate 2 refine aS ?_
 refine o_h (h_box rfl rfl) rfl (fun b1 _ => ?_)
 refine o_h (h_box rfl rfl) rfl (fun b2 _ => ?_)
 iterate 5 refine aS ?_
 refine o_q (q_call rfl fn_13 rfl (fun w1 h1 => c13 w1)) rfl ?_
 iterate 2 refine aS ?_
 refine s_cond rfl (fun h3 => ?_) fun h3 => ?_
 ·try simp only [Bool.not_true] at h3
  exfalso; simp at h3
 ·try simp only [Bool.not_true] at h3
  iterate 5 refine aS ?_
  refine o_q (q_call rfl fn_14 rfl (fun w1 h1 => c14 w1 (j : Int) mo rm a cap L (hs.later h1.nil))) rfl ?_
  iterate 2 refine aS ?_
  refine o_or 4 17 21 _ _ rfl
   (by
    intro hg4
    have hs5 := hg4; try simp only [Bool.not_eq_false'] at hs5
    refine oOn 17 hg4 ?_
    refine aS ?_
    refine oOn 17 hg4 ?_
    refine o_q (q_call rfl fn_15 rfl (fun w1 h1 => c15 w1 x)) rfl ?_
    refine oOn 17 hg4 ?_
    refine aS ?_
    refine o_p (p_pickf rfl rfl hg4 rfl) rfl ?_
    refine aS ?_
    exact s_joinN 4 21 _ rfl rfl rfl (fun w h => by first | exact h | exact h.ent aEt))
   (by
    intro hg6
    have hs7 := hg6; try simp only [Bool.not_eq_true'] at hs7
    refine oOf 17 hg6 ?_
    refine oOf 17 hg6 ?_
    refine oOf 17 hg6 ?_
    refine o_p (p_pickt rfl rfl hg6 rfl) rfl ?_
    refine aS ?_
    exact s_joinN 4 21 _ rfl rfl rfl (fun w h => by first | exact h | exact h.ent aEt)) ?_
  refine aS ?_
  refine s_cond rfl (fun h8 => ?_) fun h8 => ?_
  ·try simp only [Bool.or_eq_true, Bool.not_eq_true'] at h8
   exfalso; simp [hfw, hsl] at h8
  ·try simp only [Bool.or_eq_false_iff, Bool.not_eq_false'] at h8
   iterate 2 refine aS ?_
   refine s_cutI (α := Nat × (Nat × Nat) × List LNd × (Option Addr × Nat)) [5, 6, 7, 22, 23, 24, 25, 26, 27, 28, 29] (fun y => [(5, .pointer (some ⟨y.1, 0, none⟩)), (6, .slice y.2.2.2.1 (chgN (pln L) (insT (j : Int) mo rm (pln L) x)).length y.2.2.2.2), (7, .int .i64 0)]) (fun y => HS w [] [.blk y.1 24 4 [.int .i64 (j : Int), .int .i64 mo, .int .i64 rm, .slice (some ⟨y.2.1.1, 0, none⟩) y.2.2.1.length y.2.1.2], .nodes 26 102 (some ⟨y.2.1.1, 0, none⟩) y.2.1.2 y.2.2.1, ownP y.2.2.2.1 y.2.2.2.2 (chgN (pln L) (insT (j : Int) mo rm (pln L) x)), .blk b1 24 4 [.int .i64 (j : Int), .int .i64 mo, .int .i64 rm, .slice a L.length cap], .blk b2 26 2 (TEnt.vals x)]) (fun y => pln y.2.2.1 = (insT (j : Int) mo rm (pln L) x)) ?_ ?_
   ·skip
    refine s_draw [9] mixed ?_
    refine dLn 0 [[]] ?_
    refine dLn 2 [[]] ?_
    refine d_two 1 8 rfl rfl  (h_call rfl fn_17 rfl (fun w1 h1 => c17 w1 (j : Int) mo rm a cap L (hs.later h1.nil) hle hsm)) (h_alloc rfl zr_24) (by kernel_rfl) (fun w h => h.ent aEt) rfl rfl  (fun ⟨⟨ga1, gc1⟩, LC1⟩ hLC1 => ?_) (fun b9 _ => ?_)
    ·skip
     refine dBa ?_
     dsimp only
     refine d_two 3 8 rfl rfl  (h_call rfl fn_16 rfl (fun w1 h1 => c16o w1 j mo rm ga1 gc1 LC1 x (HS.nt h1 aPk) (by rw [hLC1]; exact hB) (tfew_keys (by rw [hLC1]; exact hfw)) (by rw [hLC1]; exact h0) hkk hx0 (by rw [hLC1]; exact fun _ => hI.ok) (by rw [hLC1]; exact hE) (by rw [hLC1]; exact hsI.mono (by decide)))) (h_alloc rfl zr_24) (by kernel_rfl) (fun w h => h.ent aEt) rfl rfl  (fun ⟨⟨⟨gu, cu⟩, LU⟩, ⟨gl, cl⟩⟩ hLU => ?_) (fun b10 _ => ?_)
     ·skip
      refine dBa ?_
      dsimp only
      rw [hLC1]
      have hLU2 : pln LU = (insT (j : Int) mo rm (pln L) x) := by rw [← hLC1]; exact hLU
      refine dP 4 ?_
      refine dP 5 ?_
      refine dP 6 ?_
      refine dP 7 ?_
      refine d_h 8 rfl (h_alloc rfl zr_24) (by kernel_rfl) (fun w h => h.ent aEt) rfl (fun b11 _ => ?_)
      refine dBa ?_
      refine d_h0 9 rfl (h_store rfl rfl rfl sz_24 rfl aPt (by simp only [setMany_length, List.length_set, List.length_cons, List.length_nil, List.length_map]; omega) rfl) (by kernel_rfl) (fun w h => h.ent aEt) (fun _ _ => ?_)
      refine d_turn [] (by kernel_rfl) ?_
      refine dP 10 ?_
      refine dP 11 ?_
      refine dNi ?_
      exact s_joinI (b11, (gu, cu), LU, (gl, cl)) hLU2 aSx (fun w h => h.ent aEt)
     ·skip
      refine dBa ?_
      refine d_h 3 rfl (h_call rfl fn_16 rfl (fun w1 h1 => c16o w1 j mo rm ga1 gc1 LC1 x (HS.nt h1 aPk) (by rw [hLC1]; exact hB) (tfew_keys (by rw [hLC1]; exact hfw)) (by rw [hLC1]; exact h0) hkk hx0 (by rw [hLC1]; exact fun _ => hI.ok) (by rw [hLC1]; exact hE) (by rw [hLC1]; exact hsI.mono (by decide)))) (by kernel_rfl) (fun w h => h.ent aEt) rfl (fun ⟨⟨⟨gu, cu⟩, LU⟩, ⟨gl, cl⟩⟩ hLU => ?_)
      refine dBa ?_
      dsimp only
      rw [hLC1]
      have hLU2 : pln LU = (insT (j : Int) mo rm (pln L) x) := by rw [← hLC1]; exact hLU
      refine dP 4 ?_
      refine dP 5 ?_
      refine dP 6 ?_
      refine dP 7 ?_
      refine d_h0 9 rfl (h_store rfl rfl rfl sz_24 rfl aPt (by simp only [setMany_length, List.length_set, List.length_cons, List.length_nil, List.length_map]; omega) rfl) (by kernel_rfl) (fun w h => h.ent aEt) (fun _ _ => ?_)
      refine d_turn [] (by kernel_rfl) ?_
      refine dP 10 ?_
      refine dP 11 ?_
      refine dNi ?_
      exact s_joinI (b10, (gu, cu), LU, (gl, cl)) hLU2 aSx (fun w h => h.ent aEt)
    ·skip
     refine dBa ?_
     refine d_h 1 rfl (h_call rfl fn_17 rfl (fun w1 h1 => c17 w1 (j : Int) mo rm a cap L (hs.later h1.nil) hle hsm)) (by kernel_rfl) (fun w h => h.ent aEt) rfl (fun ⟨⟨ga1, gc1⟩, LC1⟩ hLC1 => ?_)
     refine dBa ?_
     dsimp only
     refine d_h 3 rfl (h_call rfl fn_16 rfl (fun w1 h1 => c16o w1 j mo rm ga1 gc1 LC1 x (HS.nt h1 aPk) (by rw [hLC1]; exact hB) (tfew_keys (by rw [hLC1]; exact hfw)) (by rw [hLC1]; exact h0) hkk hx0 (by rw [hLC1]; exact fun _ => hI.ok) (by rw [hLC1]; exact hE) (by rw [hLC1]; exact hsI.mono (by decide)))) (by kernel_rfl) (fun w h => h.ent aEt) rfl (fun ⟨⟨⟨gu, cu⟩, LU⟩, ⟨gl, cl⟩⟩ hLU => ?_)
     refine dBa ?_
     dsimp only
     rw [hLC1]
     have hLU2 : pln LU = (insT (j : Int) mo rm (pln L) x) := by rw [← hLC1]; exact hLU
     refine dP 4 ?_
     refine dP 5 ?_
     refine dP 6 ?_
     refine dP 7 ?_
     refine d_h0 9 rfl (h_store rfl rfl rfl sz_24 rfl aPt (by simp only [setMany_length, List.length_set, List.length_cons, List.length_nil, List.length_map]; omega) rfl) (by kernel_rfl) (fun w h => h.ent aEt) (fun _ _ => ?_)
     refine d_turn [] (by kernel_rfl) ?_
     refine dP 10 ?_
     refine dP 11 ?_
     refine dNi ?_
     exact s_joinI (b9, (gu, cu), LU, (gl, cl)) hLU2 aSx (fun w h => h.ent aEt)
   ·intro ⟨b9, ⟨gv, cv⟩, LV, ⟨gl, cl⟩⟩ hV
    dsimp only
    have hLV : pln LV = (insT (j : Int) mo rm (pln L) x) := hV
    have hlv : LV.length = (insT (j : Int) mo rm (pln L) x).length := by rw [← hLV, pln_len]
    iterate 3 refine aS ?_
    refine o_q (q_call rfl fn_18 rfl (fun w1 h1 => c18 w1 (j : Int) mo rm a cap L (hs.later h1.nil) hB hkl)) rfl ?_
    iterate 8 refine aS ?_
    refine s_cond rfl (fun h12 => ?_) fun h12 => ?_
    ·try simp only [decide_eq_true_eq] at h12
     iterate 4 refine aS ?_
     refine o_q (q_call rfl fn_19 rfl (fun w1 h1 => c19 w1 j x hj hkk)) rfl ?_
     iterate 8 refine aS ?_
     refine s_cond rfl (fun h13 => ?_) fun h13 => ?_
     ·try simp only [decide_eq_true_eq] at h13
      iterate 5 refine aS ?_
      refine o_h (h_call rfl fn_20 rfl (fun w1 h1 => c20 w1 j mo rm a cap L x.key hj hl0 hB hT (hs.later h1.nil) (entE_key hx0) hkk)) rfl (fun ⟨pa, pc⟩ _ => ?_)
      dsimp only
      iterate 7 refine aS ?_
      refine s_weaken (L' := [(2, _), (3, _), (4, _), (5, _), (6, _), (7, _), (8, _), (10, _)]) aSx (fun _ h => h) ?_
      iterate 3 refine aS ?_
      refine s_cond rfl (fun h14 => ?_) fun h14 => ?_
      ·skip
       exfalso; first | exact hx h14 | simp_all
      ·skip
       iterate 7 refine aS ?_
       refine s_cond rfl (fun h15 => ?_) fun h15 => ?_
       ·try simp only [Bool.not_eq_true', decide_eq_false_iff_not] at h15
        exfalso; omega
       ·try simp only [Bool.not_eq_false', decide_eq_true_eq] at h15
        iterate 5 refine aS ?_
        refine o_h (h_call rfl fn_22 rfl (fun w1 h1 => c22 w1 j mo rm a cap L x hj hl0 hB hT (hs.later h1.nil) (entE_key hx0) hkk hI.okR)) rfl (fun ⟨⟨gr, cr⟩, LR⟩ hLR => ?_)
        dsimp only
        have hLR2 : pln LR = (insT (j : Int) mo rm (pln L) x) := hLR.trans hI.same
        have hlr : LR.length = (insT (j : Int) mo rm (pln L) x).length := by rw [← hLR2, pln_len]
        refine o_h (h_alloc rfl zr_24) rfl (fun b16 _ => ?_)
        refine o_h0 (h_store rfl rfl rfl sz_24 rfl aPt (by simp only [setMany_length, List.length_set, List.length_cons, List.length_nil, List.length_map]; omega) rfl) (fun _ _ => ?_)
        iterate 9 refine aS ?_
        refine s_cond rfl (fun h17 => ?_) fun h17 => ?_
        ·try simp only [decide_eq_true_eq] at h17
         exfalso; omega
        ·try simp only [decide_eq_false_iff_not] at h17
         iterate 6 refine aS ?_
         refine o_and 4 84 88 _ _ rfl
          (by
           intro hg18
           have hs19 := hg18; try simp only [decide_eq_true_eq] at hs19
           refine oOn 84 hg18 ?_
           refine aS ?_
           refine oOn 84 hg18 ?_
           refine aS ?_
           refine oOn 84 hg18 ?_
           refine o_q (q_call rfl fn_21 rfl (fun w1 h1 => c21 w1 (j : Int) mo rm (some ⟨gv, 0, none⟩) gr cv cr LV LR (HS.nt h1 aPk) (HS.nt h1 aPk) (by omega) (by omega) (by rw [hLV]; exact (hsI.mono (by decide))) (by rw [hLR2]; exact (hsI.mono (by decide))) (by rw [hLV, hLR2]))) rfl ?_
           refine o_p (p_pickt rfl rfl hg18 rfl) rfl ?_
           refine aS ?_
           exact s_joinN 4 88 _ rfl rfl rfl (fun w h => by first | exact h | exact h.ent aEt))
          (by
           intro hg20
           have hs21 := hg20; try simp only [decide_eq_false_iff_not] at hs21
           refine oOf 84 hg20 ?_
           refine oOf 84 hg20 ?_
           refine oOf 84 hg20 ?_
           refine o_p (p_pickf rfl rfl hg20 rfl) rfl ?_
           refine aS ?_
           exact s_joinN 4 88 _ rfl rfl rfl (fun w h => by first | exact h | exact h.ent aEt)) ?_
         refine aS ?_
         refine o_and 6 89 95 _ _ rfl
          (by
           intro hg22
           have hs23 := hg22; try simp only [Bool.and_eq_true, decide_eq_true_eq] at hs23
           refine oOn 89 hg22 ?_
           refine aS ?_
           refine oOn 89 hg22 ?_
           refine aS ?_
           refine oOn 89 hg22 ?_
           refine aS ?_
           refine oOn 89 hg22 ?_
           refine o_h (h_call rfl fn_24 rfl (fun w1 h1 => c24 w1 (j : Int) mo rm (j : Int) mo rm a gr cap cr L LR (hs.later h1.nil) (HS.nt h1 aPk) (by omega) (by omega) (hsm.mono (by decide)) (by rw [hLR2]; exact (hsI.mono (by decide))))) rfl (fun ⟨gq, cq⟩ _ => ?_)
           dsimp only
           rw [hLR2]
           refine oOn 89 hg22 ?_
           refine o_q (q_call rfl fn_23 rfl (fun w1 h1 => c23P w1 gl gq cl cq (chgN (pln L) (insT (j : Int) mo rm (pln L) x)) (chgN (pln L) (insT (j : Int) mo rm (pln L) x)) (HS.pown_row h1 aPk) (HS.pown_row h1 aPk) hcl hcl)) rfl ?_
           refine o_p (p_pickt rfl rfl hg22 rfl) rfl ?_
           refine aS ?_
           exact s_joinN 6 95 _ rfl rfl rfl (fun w h => by first | exact h | exact h.ent aEt))
          (by
           intro hg24
           have hs25 := hg24; try simp only [Bool.and_eq_false_iff, decide_eq_false_iff_not] at hs25
           refine oOf 89 hg24 ?_
           refine oOf 89 hg24 ?_
           refine oOf 89 hg24 ?_
           refine oOf 89 hg24 ?_
           refine oOf 89 hg24 ?_
           refine o_p (p_pickf rfl rfl hg24 rfl) rfl ?_
           refine aS ?_
           exact s_joinN 6 95 _ rfl rfl rfl (fun w h => by first | exact h | exact h.ent aEt)) ?_
         iterate 2 refine aS ?_
         exact s_retv (rs := [.tmp 4]) rfl (.tmp rfl (.nil)) (fun w' h' => ⟨by simp [retV], h'.below⟩)
     ·try simp only [decide_eq_false_iff_not] at h13
      exfalso; omega
    ·try simp only [decide_eq_false_iff_not] at h12
     exfalso; omega
theorem c3 (w : World) (co mo rm : Int) (a : Option Addr) (cap : Nat) (L : List LNd) (x : TEnt) (hs : Nt w [] a L) : Calls Tryz.prog 3 #[.agg #[.int .i64 co, .int .i64 mo, .int .i64 rm, .slice a L.length cap], .agg #[.string (bs x.key), .string (bs x.val)]] w fun en w' => en = .returned (.bool true) ∧ Below w.heap.size w w' := by
  by_cases hz : tfewB (pln L) = true ∧ tslimB x = true
  · by_cases h0 : (treE (⟨co, mo, rm, pln L⟩ : Tre)).2 = 0
    · obtain ⟨j, rfl, hj⟩ := col_ok (treE_0 h0).1
      by_cases hx0 : entE (j : Int) x = 0
      · by_cases hx : (pathN (j : Int) (pln L) x.key).2.2 = true
        · exact c3m w j mo rm a cap L x hs hz.1 hz.2 h0 hx0 hx
        · rcases Nat.lt_or_ge 120 (insT (j : Int) mo rm (pln L) x).length with hb | hb
          · exact c3f w j mo rm a cap L x hs hz.1 hz.2 h0 hx0 hx hb
          · exact c3o w j mo rm a cap L x hs hz.1 hz.2 h0 hx0 hx hb
      · exact c3x w j mo rm a cap L x hs hz.1 hz.2 h0 hx0
    · exact c3e w co mo rm a cap L x hs hz.1 hz.2 h0
  · exact c3z w co mo rm a cap L x hs hz
end Go.Proofs

