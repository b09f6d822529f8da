/- Contracts of the program's functions, proved by walking them with the rules of the Gx texts; without conditions beyond those that each contract names. -/
import Derived.WalkKit
import Derived.Deep.Draws
import Derived.Lib.Strings
import Derived.Laws.BytesArg
import Derived.Laws.IdiomStrings
import Derived.Deep.Quiet
import Derived.Laws.StructEq
import Derived.ChangeKeysEq
import Derived.Laws.Externs
import Derived.Lib.Overlaps
import Derived.Carry
import Derived.Test.YtgdigngojonbhaaProg
import Derived.KernelRfl
import Derived.Laws.Small
import Derived.ProofKit
import Derived.OpenShut
import Derived.Test.YtgdigngojonbhaaP4
namespace Go.Proofs
open Go Go.RowKit Gx
set_option linter.unusedVariables false
set_option linter.unusedSimpArgs false
attribute [local irreducible] Go.Calls Gx.S Gx.O Gx.D Gx.OpP Gx.OpQ Gx.OpH

theorem fn_111 : isFn Try.prog 111 = true := by kernel_rfl
theorem fn_112 : isFn Try.prog 112 = true := by kernel_rfl
theorem fn_113 : isFn Try.prog 113 = true := by kernel_rfl


/-- The first i elements of one list, then the others of another one. -/
def mix {α : Type} (M l : List α) (i : Nat) : List α := M ++ l.drop i
theorem mix_end {α : Type} {M l : List α} {i : Nat} (h : l.length ≤ i) : mix M l i = M := by rw [mix, List.drop_of_length_le h, List.append_nil]
theorem mix_len {α : Type} {M l : List α} {i : Nat} (hM : M.length = i) (hi : i ≤ l.length) : (mix M l i).length = l.length := by
  rw [mix, List.length_append, List.length_drop]
  omega
theorem mix_nth {α : Type} [Inhabited α] {M l : List α} {i : Nat} (hM : M.length = i) (hi : i < l.length) : (mix M l i)[i]? = some (nth l i) := by
  rw [mix, List.getElem?_append_right (by omega), List.getElem?_drop, hM, show i + (i - i) = i by omega, nth_get hi]
theorem mix_get {α : Type} {M l : List α} {x : α} {i : Nat} (hM : M.length = i) : (mix (M ++ [x]) l (i + 1))[i]? = some x := by
  rw [mix, List.append_assoc, List.getElem?_append_right (by omega), hM, Nat.sub_self]
  rfl
theorem mix_set {α : Type} {M l : List α} {x : α} {i : Nat} (hM : M.length = i) (hi : i < l.length) : (mix M l i).set i x = mix (M ++ [x]) l (i + 1) := by
  unfold mix
  rw [List.set_append_right _ _ (by omega), hM, Nat.sub_self, List.drop_eq_getElem_cons hi, List.set_cons_zero, List.append_assoc]
  rfl
theorem mix_store {α : Type} [Inhabited α] {vals : α → List Value} {sz : Nat} (hv : ∀ x, (vals x).length = sz) {M l : List α} {x : α} {i o : Nat} {vs : List Value} (hM : M.length = i) (hi : i < l.length) (he : vals x = setMany (vals (nth l i)) o vs) (ho : o + vs.length ≤ sz) : setMany ((mix M l i).flatMap vals) (i * sz + o) vs = (mix (M ++ [x]) l (i + 1)).flatMap vals := by
  rw [flat_set hv _ i o vs _ _ (mix_nth hM hi) he ho, mix_set hM hi]
theorem mix_same {α : Type} {vals : α → List Value} {M l : List α} {x y : α} {i : Nat} (h : vals x = vals y) : (mix (M ++ [x]) l i).flatMap vals = (mix (M ++ [y]) l i).flatMap vals := by
  unfold mix
  simp only [List.flatMap_append, List.flatMap_cons, List.flatMap_nil, h]
theorem mix_rd {α : Type} [Inhabited α] {vals : α → List Value} {sz : Nat} (hv : ∀ x, (vals x).length = sz) {M l : List α} {i b t tot : Nat} {w0 w : World} {N : List Nat} {As As' : List HA} (hM : M.length = i) (hi : i < l.length) (h : HS w0 N As w) (hp : Pick As (.blk b t tot ((mix M l i).flatMap vals)) As') : ∀ j v, (vals (nth l i))[j]? = some v → Rd w [] b (i * sz + j) v := fun j v hj => by
  have hlt : j < sz := by
    rcases Nat.lt_or_ge j (vals (nth l i)).length with h | h
    · rwa [hv] at h
    · rw [List.getElem?_eq_none h] at hj; cases hj
  exact h.rd_blk (Mc := []) hp (by rw [flat_get hv _ i j _ (mix_nth hM hi) hlt]; exact hj) (by simp)
section
variable {w0 w : World} {N : List Nat} {As As' : List HA} {a : Option Addr} {cap : Nat}
theorem own_to_blk {g t sz n : Nat} {xs : List Value} (hn : 0 < n) (h : HS w0 N As w) (hp : Pick As (.own (.slice (some ⟨g, 0, none⟩) n cap) t sz n xs) As') : HS w0 N (.blk g t (cap * sz) xs :: As') w := by
  obtain ⟨g', e, _, _, _, _, h2⟩ := h.own_blk hn hp
  injection e with e
  injection e with e
  subst e
  exact h2
theorem row_fill {α : Type} [Inhabited α] {sub : α → HA} {K : List α} {x : α} {g t sz n : Nat} {cs xs : List Value} (h : HS w0 N (.blk g t (cap * sz) cs :: sub x :: .star (K.map sub) :: As) w) (hc : cs = xs) (hl : xs.length = n * sz) (hn : n ≤ cap) (hm : cap ≤ maxLen) : HS w0 N (.own (.slice (some ⟨g, 0, none⟩) n cap) t sz n xs :: .star ((K ++ [x]).map sub) :: As) w := by
  subst hc
  have h1 : HS w0 N (sub x :: .star (K.map sub) :: .blk g t (cap * sz) cs :: As) w := h.perm ((List.Perm.swap ..).trans (List.Perm.cons _ (List.Perm.swap ..)))
  have h2 := h1.sub_app
  exact (h2.perm (List.Perm.swap ..)).own_shut hl hn hm
theorem opens_shut {l : List LOpn} {n : Nat} {xs : List Value} (h : HS w0 N (.own (.slice a n cap) 48 5 n xs :: .star (l.map subO) :: As) w) (hn : n = l.length) (hx : xs = l.flatMap LOpn.vals) : HS w0 N (.opens a cap l :: As) w := HS.row_shut h hn hx
end

set_option maxRecDepth 20000 in
set_option maxHeartbeats 1000000 in
theorem c80 (w : World) (next : Int) (a : Option Addr) (cap : Nat) (L : List LFil) (hs : Ft w [] a L) (hm : L.length ≤ 1000) (hmo : ∀ f ∈ L, f.op.length ≤ 1000) (hz : (chkT next (pls L)).2 = 0) : Calls Try.prog 80 #[.agg #[.int .i64 next, .slice a L.length cap]] w fun en w' => ∃ g : Nat × (Option Addr × Nat) × List LFil, en = .returned (.tuple #[.pointer (some ⟨g.1, 0, none⟩), .int .i64 0]) ∧ pls g.2.2 = pls L ∧ HS w [] [.blk g.1 106 2 [.int .i64 next, .slice g.2.1.1 g.2.2.length g.2.1.2], .files g.2.1.1 g.2.1.2 g.2.2] w' := by
  have hok := chk_ok hz
  have hV := hok.vw
  refine enter (args := [_]) Try.func80 Try.ntmps80 rfl rfl (HS.refl w []) ?_
  refine s_seq ?_
  refine s_region ?_
  refine o_h (h_box rfl rfl) rfl (fun b1 _ => ?_)
  refine o_p (p_pure rfl) rfl ?_
  refine o_p (p_pure rfl) rfl ?_
  refine o_nil ?_
  refine s_seq ?_
  refine s_seq ?_
  refine s_region ?_
  first | refine o_q (q_loadn rfl rfl sz_26 (by repeat (first | exact .here | apply Pick.there)) rfl) rfl ?_ | refine o_q (q_load_atn _ rfl rfl sz_26 fun w h => (h.rd_blk (Mc := []) (b := ga) (by repeat (first | exact .here | apply Pick.there)) (by rw [flat_get fv4 _ i 3 _ (mix_get hMl) (by decide)]; rfl) (by simp))) rfl ?_ | refine o_q (q_load_oldn _ rfl rfl sz_26 rfl (Rw.rd (hs.at hil).1 hkl)) rfl ?_
  refine o_q (q_call rfl fn_18 rfl (fun w1 h1 => c18 w1 next a cap L (hs.later h1) hm hmo)) rfl ?_
  refine o_p (p_pure rfl) rfl ?_
  refine o_p (p_pure rfl) rfl ?_
  refine o_p (p_pure rfl) rfl ?_
  refine o_p (p_pure rfl) rfl ?_
  refine o_p (p_pure rfl) rfl ?_
  refine o_nil ?_
  refine s_seq ?_
  refine s_region ?_
  refine o_p (p_pure rfl) rfl ?_
  refine o_p (p_pure rfl) rfl ?_
  refine o_nil ?_
  refine s_cond rfl (fun h2 => ?_) (fun h2 => ?_)
  · try simp only [decide_eq_true_eq, decide_eq_false_iff_not, Bool.not_eq_true', Bool.not_eq_false', Bool.and_eq_true, Bool.or_eq_true, Bool.and_eq_false_iff, Bool.or_eq_false_iff, Bool.not_true, Bool.not_false] at h2
    exfalso; exact absurd hz h2
  · try simp only [decide_eq_true_eq, decide_eq_false_iff_not, Bool.not_eq_true', Bool.not_eq_false', Bool.and_eq_true, Bool.or_eq_true, Bool.and_eq_false_iff, Bool.or_eq_false_iff, Bool.not_true, Bool.not_false] at h2
    refine s_skip ?_
    refine s_seq ?_
    refine s_region ?_
    first | refine o_q (q_loadn rfl rfl sz_26 (by repeat (first | exact .here | apply Pick.there)) rfl) rfl ?_ | refine o_q (q_load_atn _ rfl rfl sz_26 fun w h => (h.rd_blk (Mc := []) (b := ga) (by repeat (first | exact .here | apply Pick.there)) (by rw [flat_get fv4 _ i 3 _ (mix_get hMl) (by decide)]; rfl) (by simp))) rfl ?_ | refine o_q (q_load_oldn _ rfl rfl sz_26 rfl (Rw.rd (hs.at hil).1 hkl)) rfl ?_
    refine o_p (p_build (cs := [_, _]) rfl rfl pl_106 zr_106 rfl) rfl ?_
    refine o_h (h_box rfl rfl) rfl (fun b3 _ => ?_)
    refine o_p (p_pure rfl) rfl ?_
    refine o_nil ?_
    refine s_seq ?_
    refine s_region ?_
    refine o_p (p_pure rfl) rfl ?_
    refine o_p (p_fieldAddr rfl rfl fd_26_1 sz_24 rfl) rfl ?_
    first | refine o_q (q_load rfl rfl sz_24 (by repeat (first | exact .here | apply Pick.there)) rfl) rfl ?_ | refine o_q (q_load_at rfl rfl sz_24 (fun w h => (h.rd_blk (Mc := []) (b := ga) (by repeat (first | exact .here | apply Pick.there)) (by rw [flat_get fv4 _ i 3 _ (mix_get hMl) (by decide)]; rfl) (by simp)))) rfl ?_ | refine o_q (q_load_old rfl rfl sz_24 (rfl (Rw.rd (hs.at hil).1 hkl))) rfl ?_
    refine o_h (h_call rfl fn_111 rfl (fun w1 h1 => c111 w1 a cap L (Rw.later hs.1 h1) (by omega))) rfl (fun ⟨xa, xc⟩ _ => ?_)
    refine o_p (p_pure rfl) rfl ?_
    refine o_p (p_fieldAddr rfl rfl fd_106_0 sz_26 rfl) rfl ?_
    refine o_p (p_fieldAddr rfl rfl fd_26_1 sz_24 rfl) rfl ?_
    refine o_h0 (h_store rfl rfl rfl sz_24 rfl (by repeat (first | exact .here | apply Put.there)) (by show 1 + 1 ≤ 2; omega) rfl) (fun _ _ => ?_)
    refine o_nil ?_
    refine s_seq ?_
    refine s_seq ?_
    refine s_region ?_
    refine o_p (p_pure rfl) rfl ?_
    refine o_p (p_pure rfl) rfl ?_
    refine o_p (p_fieldAddr rfl rfl fd_106_0 sz_26 rfl) rfl ?_
    refine o_p (p_fieldAddr rfl rfl fd_26_1 sz_24 rfl) rfl ?_
    first | refine o_q (q_load rfl rfl sz_24 (by repeat (first | exact .here | apply Pick.there)) rfl) rfl ?_ | refine o_q (q_load_at rfl rfl sz_24 (fun w h => (h.rd_blk (Mc := []) (b := ga) (by repeat (first | exact .here | apply Pick.there)) (by rw [flat_get fv4 _ i 3 _ (mix_get hMl) (by decide)]; rfl) (by simp)))) rfl ?_ | refine o_q (q_load_old rfl rfl sz_24 (rfl (Rw.rd (hs.at hil).1 hkl))) rfl ?_
    first | refine o_p (p_len_slice rfl rfl Try.underlying24) rfl ?_ | refine o_q (q_len_own rfl rfl Try.underlying24 (by repeat (first | exact .here | apply Pick.there))) rfl ?_
    refine o_p (p_pure rfl) rfl ?_
    refine o_nil ?_
    refine s_block ?_
    refine s_weaken (L' := [(2, _), (3, _), (6, _), (33, _), (34, _), (35, _)]) (by repeat (first | exact sl_n | refine sl_c rfl ?_)) (fun _ h => h) ?_
    refine s_loopI (α := Nat × List LFil) [7, 8, 9, 10, 35, 36, 37, 38, 39, 40, 41, 42, 43, 44, 45, 46, 47, 48, 49, 50, 51, 52, 53, 54, 55, 56, 57, 58, 59, 60, 61, 62, 63, 64, 65, 66, 67, 68, 69, 70, 71, 72, 73, 74, 75] (fun y => [(35, .int .i64 (y.1 : Int))]) (fun y => HS w [] [.own (.slice xa L.length xc) 77 4 L.length ((mix y.2 L y.1).flatMap LFil.vals), .star (y.2.map subF), .blk b3 106 2 [.int .i64 next, .slice xa L.length xc], .blk b1 26 2 [.int .i64 next, .slice a L.length cap]]) (fun y => y.1 ≤ L.length ∧ y.2.length = y.1 ∧ pls y.2 = (pls L).take y.1) (fun y => L.length - y.1) (0, []) ⟨Nat.zero_le _, rfl, rfl⟩ (by repeat (first | exact sl_n | refine sl_c rfl ?_)) (fun w h => (HS.star_nil h).ent (by repeat (first | exact .nil | refine .cons (by repeat (first | exact .here | apply Pick.there)) ?_))) (fun ⟨i, M⟩ hy => ?_)
    dsimp only at hy ⊢
    obtain ⟨hi1, hMl, hi2⟩ := hy
    refine s_seq ?_
    refine s_region ?_
    refine o_p (p_pure rfl) rfl ?_
    refine o_nil ?_
    refine s_seq ?_
    refine s_cond rfl (fun h4 => ?_) (fun h4 => ?_)
    · try simp only [decide_eq_true_eq, decide_eq_false_iff_not, Bool.not_eq_true', Bool.not_eq_false', Bool.and_eq_true, Bool.or_eq_true, Bool.and_eq_false_iff, Bool.or_eq_false_iff, Bool.not_true, Bool.not_false] at h4
      have hil : i < L.length := by omega
      have hoi := hmo _ (mem_nth hil)
      refine s_fact (fun w h => own_addr (a := xa) (cap := xc) (xs := (mix M L i).flatMap LFil.vals) (sz := 4) (t := 77) (n := L.length) (by omega) h (by repeat (first | exact .here | apply Pick.there))) (fun hga => ?_)
      obtain ⟨ga, rfl, hcap, hcm⟩ := hga
      refine s_class (fun w h => own_to_blk (g := ga) (t := 77) (sz := 4) (n := L.length) (by omega) h (by repeat (first | exact .here | apply Pick.there))) ?_
      refine s_skip ?_
      refine s_seq ?_
      refine s_block ?_
      refine s_seq ?_
      refine s_region ?_
      refine o_p (p_pure rfl) rfl ?_
      first | refine o_p (p_indexAddr rfl rfl rfl sl_24 (i) (by omega) (by omega) rfl) rfl ?_ | refine o_p (p_indexAddr rfl rfl rfl sl_24 (i) (by omega) (by omega) (Rw.some (hs.at hil).1 (by omega))) rfl ?_
      refine o_slot (show _ = Value.pointer (some ⟨ga, i * 4, none⟩) from by rw [Nat.zero_add]) ?_
      refine o_q (q_load_atn (nth L i).vals rfl rfl sz_77 rfl (fun w h => mix_rd fv4 hMl hil h (by repeat (first | exact .here | apply Pick.there)))) rfl ?_
      refine o_h (h_alloc rfl zr_77) rfl (fun b5 _ => ?_)
      refine o_p (p_pure rfl) rfl ?_
      refine o_h0 (h_store rfl rfl rfl sz_77 rfl (by repeat (first | exact .here | apply Put.there)) (by simp only [setMany_length, List.length_set, List.length_cons, List.length_nil, List.length_map]; omega) rfl) (fun _ _ => ?_)
      refine o_nil ?_
      refine s_seq ?_
      refine s_draw [11] mixed ?_
      refine d_p 0 rfl (p_pure rfl) (by kernel_rfl) rfl rfl ?_
      refine d_p 1 rfl (p_pure rfl) (by kernel_rfl) rfl rfl ?_
      refine d_p 2 rfl (p_fieldAddr rfl rfl fd_106_0 sz_26 rfl) (by kernel_rfl) rfl rfl ?_
      refine d_p 3 rfl (p_fieldAddr rfl rfl fd_26_1 sz_24 rfl) (by kernel_rfl) rfl rfl ?_
      first | refine d_q 4 [[]] rfl (q_load rfl rfl sz_24 (by repeat (first | exact .here | apply Pick.there)) rfl) (by kernel_rfl) (by kernel_rfl) (by kernel_rfl) rfl ?_ | refine d_q 4 [[]] rfl (q_load_at rfl rfl sz_24 (fun w h => (h.rd_blk (Mc := []) (b := ga) (by repeat (first | exact .here | apply Pick.there)) (by rw [flat_get fv4 _ i 3 _ (mix_get hMl) (by decide)]; rfl) (by simp)))) (by kernel_rfl) (by kernel_rfl) (by kernel_rfl) rfl ?_ | refine d_q 4 [[]] rfl (q_load_old rfl rfl sz_24 (rfl (Rw.rd (hs.at hil).1 hkl))) (by kernel_rfl) (by kernel_rfl) (by kernel_rfl) rfl ?_
      refine d_p 5 rfl (p_pure rfl) (by kernel_rfl) rfl rfl ?_
      refine d_p 6 rfl (p_fieldAddr rfl rfl fd_77_2 sz_75 rfl) (by kernel_rfl) rfl rfl ?_
      first | refine d_q 7 [[]] rfl (q_load rfl rfl sz_75 (by repeat (first | exact .here | apply Pick.there)) rfl) (by kernel_rfl) (by kernel_rfl) (by kernel_rfl) rfl ?_ | refine d_q 7 [[]] rfl (q_load_at rfl rfl sz_75 (fun w h => (h.rd_blk (Mc := []) (b := ga) (by repeat (first | exact .here | apply Pick.there)) (by rw [flat_get fv4 _ i 3 _ (mix_get hMl) (by decide)]; rfl) (by simp)))) (by kernel_rfl) (by kernel_rfl) (by kernel_rfl) rfl ?_ | refine d_q 7 [[]] rfl (q_load_old rfl rfl sz_75 (rfl (Rw.rd (hs.at hil).1 hkl))) (by kernel_rfl) (by kernel_rfl) (by kernel_rfl) rfl ?_
      refine d_h 8 rfl (h_call rfl fn_112 rfl (fun w1 h1 => c112 w1 _ _ (nth L i).op (Rw.later (hs.at hil).1 h1) (by omega))) (by kernel_rfl) (fun w h => h.ent (by repeat (first | exact .nil | refine .cons (by repeat (first | exact .here | apply Pick.there)) ?_))) rfl (fun ⟨xo, yo⟩ _ => ?_)
      refine d_base (fun w h => h.ent (by repeat (first | exact .nil | refine .cons (by repeat (first | exact .here | apply Pick.there)) ?_))) ?_
      first | refine d_p 9 rfl (p_indexAddr rfl rfl rfl sl_24 (i) (by omega) (by omega) rfl) (by kernel_rfl) rfl rfl ?_ | refine d_p 9 rfl (p_indexAddr rfl rfl rfl sl_24 (i) (by omega) (by omega) (Rw.some (hs.at hil).1 (by omega))) (by kernel_rfl) rfl rfl ?_
      refine d_slot (show _ = Value.pointer (some ⟨ga, i * 4, none⟩) from by rw [Nat.zero_add]) ?_
      refine d_p 10 rfl (p_fieldAddr rfl rfl fd_77_2 sz_75 rfl) (by kernel_rfl) rfl rfl ?_
      refine d_h0 11 rfl (h_store rfl rfl rfl sz_75 rfl (by repeat (first | exact .here | apply Put.there)) (by rw [flat_length fv4, mix_len hMl hi1]; show i * 4 + 3 + 1 ≤ L.length * 4; omega) rfl) (by kernel_rfl) (fun w h => h.ent (by repeat (first | exact .nil | refine .cons (by repeat (first | exact .here | apply Pick.there)) ?_))) (fun _ _ => ?_)
      refine d_turn [] (by kernel_rfl) ?_
      refine d_nil (by kernel_rfl) (fun w h => h.ent (by repeat (first | exact .nil | refine .cons (by repeat (first | exact .here | apply Pick.there)) ?_))) ?_
      refine s_seq ?_
      refine s_region ?_
      refine o_p (p_fieldAddr rfl rfl fd_77_2 sz_75 rfl) rfl ?_
      first | refine o_q (q_load rfl rfl sz_75 (by repeat (first | exact .here | apply Pick.there)) rfl) rfl ?_ | refine o_q (q_load_at rfl rfl sz_75 (fun w h => (h.rd_blk (Mc := []) (b := ga) (by repeat (first | exact .here | apply Pick.there)) (by rw [flat_get fv4 _ i 3 _ (mix_get hMl) (by decide)]; rfl) (by simp)))) rfl ?_ | refine o_q (q_load_old rfl rfl sz_75 (rfl (Rw.rd (hs.at hil).1 hkl))) rfl ?_
      first | refine o_p (p_len_slice rfl rfl Try.underlying75) rfl ?_ | refine o_q (q_len_own rfl rfl Try.underlying75 (by repeat (first | exact .here | apply Pick.there))) rfl ?_
      refine o_p (p_pure rfl) rfl ?_
      refine o_nil ?_
      refine s_block ?_
      refine s_weaken (L' := [(2, _), (3, _), (6, _), (7, _), (33, _), (34, _), (35, _), (52, _), (53, _), (54, _)]) (by repeat (first | exact sl_n | refine sl_c rfl ?_)) (fun _ h => h) ?_
      refine s_loopI (α := Nat × List LOpn) [9, 10, 54, 55, 56, 57, 58, 59, 60, 61, 62, 63, 64, 65, 66, 67, 68, 69, 70, 71, 72, 73, 74] (fun z => [(54, .int .i64 (z.1 : Int))]) (fun z => HS w [] [.own (.slice xo (nth L i).op.length yo) 48 5 (nth L i).op.length ((mix z.2 (nth L i).op z.1).flatMap LOpn.vals), .star (z.2.map subO), .blk ga 77 (xc * 4) ((mix (M ++ [({ nth L i with oa := xo, oc := yo } : LFil)]) L (i + 1)).flatMap LFil.vals), .star (M.map subF), .blk b5 77 4 (nth L i).vals, .blk b3 106 2 [.int .i64 next, .slice (some ⟨ga, 0, none⟩) L.length xc], .blk b1 26 2 [.int .i64 next, .slice a L.length cap]]) (fun z => z.1 ≤ (nth L i).op.length ∧ z.2.length = z.1 ∧ plo z.2 = (plo (nth L i).op).take z.1) (fun z => (nth L i).op.length - z.1) (0, []) ⟨Nat.zero_le _, rfl, rfl⟩ (by repeat (first | exact sl_n | refine sl_c rfl ?_)) (fun w h => (HS.star_nil (HS.blk_to (b := ga) h (by repeat (first | exact .here | apply Pick.there)) (mix_store fv4 (x := ({ nth L i with oa := xo, oc := yo } : LFil)) hMl hil rfl (by show 3 + 1 ≤ 4; omega)))).ent (by repeat (first | exact .nil | refine .cons (by repeat (first | exact .here | apply Pick.there)) ?_))) (fun ⟨k, K⟩ hz2 => ?_)
      dsimp only at hz2 ⊢
      obtain ⟨hk1, hKl, hk2⟩ := hz2
      refine s_seq ?_
      refine s_region ?_
      refine o_p (p_pure rfl) rfl ?_
      refine o_nil ?_
      refine s_seq ?_
      refine s_cond rfl (fun h6 => ?_) (fun h6 => ?_)
      · try simp only [decide_eq_true_eq, decide_eq_false_iff_not, Bool.not_eq_true', Bool.not_eq_false', Bool.and_eq_true, Bool.or_eq_true, Bool.and_eq_false_iff, Bool.or_eq_false_iff, Bool.not_true, Bool.not_false] at h6
        have hkl : k < (nth L i).op.length := by omega
        have hv9 := VW.at hV hil hkl
        refine s_fact (fun w h => own_addr (a := xo) (cap := yo) (xs := (mix K (nth L i).op k).flatMap LOpn.vals) (sz := 5) (t := 48) (n := (nth L i).op.length) (by omega) h (by repeat (first | exact .here | apply Pick.there))) (fun hgo => ?_)
        obtain ⟨go, rfl, hoc, hom⟩ := hgo
        refine s_class (fun w h => own_to_blk (g := go) (t := 48) (sz := 5) (n := (nth L i).op.length) (by omega) h (by repeat (first | exact .here | apply Pick.there))) ?_
        refine s_skip ?_
        refine s_seq ?_
        refine s_block ?_
        refine s_seq ?_
        refine s_region ?_
        refine o_p (p_pure rfl) rfl ?_
        first | refine o_p (p_indexAddr rfl rfl rfl sl_75 (k) (by omega) (by omega) rfl) rfl ?_ | refine o_p (p_indexAddr rfl rfl rfl sl_75 (k) (by omega) (by omega) (Rw.some (hs.at hil).1 (by omega))) rfl ?_
        first | refine o_q (q_loadn rfl rfl sz_48 (by repeat (first | exact .here | apply Pick.there)) rfl) rfl ?_ | refine o_q (q_load_atn _ rfl rfl sz_48 fun w h => (h.rd_blk (Mc := []) (b := ga) (by repeat (first | exact .here | apply Pick.there)) (by rw [flat_get fv4 _ i 3 _ (mix_get hMl) (by decide)]; rfl) (by simp))) rfl ?_ | refine o_q (q_load_oldn _ rfl rfl sz_48 rfl (Rw.rd (hs.at hil).1 hkl)) rfl ?_
        refine o_h (h_alloc rfl zr_48) rfl (fun b7 _ => ?_)
        refine o_p (p_pure rfl) rfl ?_
        refine o_h0 (h_store rfl rfl rfl sz_48 rfl (by repeat (first | exact .here | apply Put.there)) (by simp only [setMany_length, List.length_set, List.length_cons, List.length_nil, List.length_map]; omega) rfl) (fun _ _ => ?_)
        refine o_nil ?_
        refine s_draw [15] mixed ?_
        refine d_p 0 rfl (p_pure rfl) (by kernel_rfl) rfl rfl ?_
        refine d_p 1 rfl (p_pure rfl) (by kernel_rfl) rfl rfl ?_
        refine d_p 2 rfl (p_fieldAddr rfl rfl fd_106_0 sz_26 rfl) (by kernel_rfl) rfl rfl ?_
        refine d_p 3 rfl (p_fieldAddr rfl rfl fd_26_1 sz_24 rfl) (by kernel_rfl) rfl rfl ?_
        first | refine d_q 4 [[]] rfl (q_load rfl rfl sz_24 (by repeat (first | exact .here | apply Pick.there)) rfl) (by kernel_rfl) (by kernel_rfl) (by kernel_rfl) rfl ?_ | refine d_q 4 [[]] rfl (q_load_at rfl rfl sz_24 (fun w h => (h.rd_blk (Mc := []) (b := ga) (by repeat (first | exact .here | apply Pick.there)) (by rw [flat_get fv4 _ i 3 _ (mix_get hMl) (by decide)]; rfl) (by simp)))) (by kernel_rfl) (by kernel_rfl) (by kernel_rfl) rfl ?_ | refine d_q 4 [[]] rfl (q_load_old rfl rfl sz_24 (rfl (Rw.rd (hs.at hil).1 hkl))) (by kernel_rfl) (by kernel_rfl) (by kernel_rfl) rfl ?_
        refine d_p 5 rfl (p_pure rfl) (by kernel_rfl) rfl rfl ?_
        first | refine d_p 6 rfl (p_indexAddr rfl rfl rfl sl_24 (i) (by omega) (by omega) rfl) (by kernel_rfl) rfl rfl ?_ | refine d_p 6 rfl (p_indexAddr rfl rfl rfl sl_24 (i) (by omega) (by omega) (Rw.some (hs.at hil).1 (by omega))) (by kernel_rfl) rfl rfl ?_
        refine d_slot (show _ = Value.pointer (some ⟨ga, i * 4, none⟩) from by rw [Nat.zero_add]) ?_
        refine d_p 7 rfl (p_fieldAddr rfl rfl fd_77_2 sz_75 rfl) (by kernel_rfl) rfl rfl ?_
        first | refine d_q 8 [[]] rfl (q_load rfl rfl sz_75 (by repeat (first | exact .here | apply Pick.there)) rfl) (by kernel_rfl) (by kernel_rfl) (by kernel_rfl) rfl ?_ | refine d_q 8 [[]] rfl (q_load_at rfl rfl sz_75 (fun w h => (h.rd_blk (Mc := []) (b := ga) (by repeat (first | exact .here | apply Pick.there)) (by rw [flat_get fv4 _ i 3 _ (mix_get hMl) (by decide)]; rfl) (by simp)))) (by kernel_rfl) (by kernel_rfl) (by kernel_rfl) rfl ?_ | refine d_q 8 [[]] rfl (q_load_old rfl rfl sz_75 (rfl (Rw.rd (hs.at hil).1 hkl))) (by kernel_rfl) (by kernel_rfl) (by kernel_rfl) rfl ?_
        refine d_p 9 rfl (p_pure rfl) (by kernel_rfl) rfl rfl ?_
        refine d_p 10 rfl (p_fieldAddr rfl rfl fd_48_4 sz_46 rfl) (by kernel_rfl) rfl rfl ?_
        first | refine d_q 11 [[]] rfl (q_load rfl rfl sz_46 (by repeat (first | exact .here | apply Pick.there)) rfl) (by kernel_rfl) (by kernel_rfl) (by kernel_rfl) rfl ?_ | refine d_q 11 [[]] rfl (q_load_at rfl rfl sz_46 (fun w h => (h.rd_blk (Mc := []) (b := ga) (by repeat (first | exact .here | apply Pick.there)) (by rw [flat_get fv4 _ i 3 _ (mix_get hMl) (by decide)]; rfl) (by simp)))) (by kernel_rfl) (by kernel_rfl) (by kernel_rfl) rfl ?_ | refine d_q 11 [[]] rfl (q_load_old rfl rfl sz_46 (rfl (Rw.rd (hs.at hil).1 hkl))) (by kernel_rfl) (by kernel_rfl) (by kernel_rfl) rfl ?_
        refine d_h 12 rfl (h_call rfl fn_113 rfl (fun w1 h1 => c113 w1 _ _ (nth (nth L i).op k).lk (Rw.later ((hs.at hil).at hkl) h1) (by have := hv9.2.2; omega))) (by kernel_rfl) (fun w h => h.ent (by repeat (first | exact .nil | refine .cons (by repeat (first | exact .here | apply Pick.there)) ?_))) rfl (fun ⟨xl, yl⟩ _ => ?_)
        refine d_base (fun w h => h.ent (by repeat (first | exact .nil | refine .cons (by repeat (first | exact .here | apply Pick.there)) ?_))) ?_
        first | refine d_p 13 rfl (p_indexAddr rfl rfl rfl sl_75 (k) (by omega) (by omega) rfl) (by kernel_rfl) rfl rfl ?_ | refine d_p 13 rfl (p_indexAddr rfl rfl rfl sl_75 (k) (by omega) (by omega) (Rw.some (hs.at hil).1 (by omega))) (by kernel_rfl) rfl rfl ?_
        refine d_slot (show _ = Value.pointer (some ⟨go, k * 5, none⟩) from by rw [Nat.zero_add]) ?_
        refine d_p 14 rfl (p_fieldAddr rfl rfl fd_48_4 sz_46 rfl) (by kernel_rfl) rfl rfl ?_
        refine d_h0 15 rfl (h_store rfl rfl rfl sz_46 rfl (by repeat (first | exact .here | apply Put.there)) (by rw [flat_length ov5, mix_len hKl hk1]; show k * 5 + 4 + 1 ≤ (nth L i).op.length * 5; omega) rfl) (by kernel_rfl) (fun w h => h.ent (by repeat (first | exact .nil | refine .cons (by repeat (first | exact .here | apply Pick.there)) ?_))) (fun _ _ => ?_)
        refine d_turn [] (by kernel_rfl) ?_
        refine d_nil (by kernel_rfl) (fun w h => h.ent (by repeat (first | exact .nil | refine .cons (by repeat (first | exact .here | apply Pick.there)) ?_))) ?_
        refine s_blk ?_
        refine s_weaken (L' := [(2, _), (3, _), (6, _), (7, _), (33, _), (34, _), (35, _), (52, _), (53, _), (54, _)]) (by repeat (first | exact sl_n | refine sl_c rfl ?_)) (fun _ h => h) ?_
        refine s_region ?_
        refine o_p (p_pure rfl) rfl ?_
        try (refine o_slot (i64w (by omega) (by omega)) ?_)
        refine o_p (p_pure rfl) rfl ?_
        refine o_nil ?_
        exact s_backI (k + 1, K ++ [({ (nth (nth L i).op k) with la := xl, lc := yl } : LOpn)]) (by show (nth L i).op.length - (k + 1) < (nth L i).op.length - k; omega) ⟨by show k + 1 ≤ (nth L i).op.length; omega, by simp [hKl], by show plo (K ++ [({ (nth (nth L i).op k) with la := xl, lc := yl } : LOpn)]) = (plo (nth L i).op).take (k + 1); rw [plo_app1, hk2, take_succ_nth (by simpa using hkl), nth_plo hkl]; rfl⟩ (by repeat (first | exact sl_n | refine sl_c rfl ?_)) (fun w h => by have h3 := row_fill (sub := subO) (K := K) (x := ({ (nth (nth L i).op k) with la := xl, lc := yl } : LOpn)) (n := (nth L i).op.length) (xs := (mix (K ++ [({ (nth (nth L i).op k) with la := xl, lc := yl } : LOpn)]) (nth L i).op (k + 1)).flatMap LOpn.vals) (h.ent (Bs := [.blk go 48 (yo * 5) (setMany ((mix K (nth L i).op k).flatMap LOpn.vals) (k * 5 + 4) [.slice xl (nth (nth L i).op k).lk.length yl]), subO ({ (nth (nth L i).op k) with la := xl, lc := yl } : LOpn), .star (K.map subO), .blk ga 77 (xc * 4) ((mix (M ++ [({ nth L i with oa := some ⟨go, 0, none⟩, oc := yo } : LFil)]) L (i + 1)).flatMap LFil.vals), .star (M.map subF), .blk b5 77 4 (nth L i).vals, .blk b3 106 2 [.int .i64 next, .slice (some ⟨ga, 0, none⟩) L.length xc], .blk b1 26 2 [.int .i64 next, .slice a L.length cap]]) (by repeat (first | exact .nil | refine .cons (by repeat (first | exact .here | apply Pick.there)) ?_))) (mix_store ov5 hKl hkl (by simp [LOpn.vals, setMany]) (by simp)) (by rw [flat_length ov5, mix_len (by simp [hKl]) (by omega)]) hoc hom; exact h3.ent (by repeat (first | exact .nil | refine .cons (by repeat (first | exact .here | apply Pick.there)) ?_)))
      · try simp only [decide_eq_true_eq, decide_eq_false_iff_not, Bool.not_eq_true', Bool.not_eq_false', Bool.and_eq_true, Bool.or_eq_true, Bool.and_eq_false_iff, Bool.or_eq_false_iff, Bool.not_true, Bool.not_false] at h6
        refine s_exit_to rfl ?_
        refine s_blk ?_
        refine s_region ?_
        refine o_p (p_pure rfl) rfl ?_
        try (refine o_slot (i64w (by omega) (by omega)) ?_)
        refine o_p (p_pure rfl) rfl ?_
        refine o_nil ?_
        exact s_backI (i + 1, M ++ [({ nth L i with oa := xo, oc := yo, op := K } : LFil)]) (by show L.length - (i + 1) < L.length - i; omega) ⟨by show i + 1 ≤ L.length; omega, by simp [hMl], by show pls (M ++ [({ nth L i with oa := xo, oc := yo, op := K } : LFil)]) = (pls L).take (i + 1); rw [pls_app1, hi2, take_succ_nth (by simpa using hil), nth_pls hil]; have e8 : k = (nth L i).op.length := (by omega); rw [e8, List.take_of_length_le (by simp)] at hk2; simp only [LFil.pl]; rw [show List.map LOpn.pl K = List.map LOpn.pl (nth L i).op from hk2]⟩ (by repeat (first | exact sl_n | refine sl_c rfl ?_)) (fun w h => by have e8 : k = (nth L i).op.length := (by omega); have h2 := opens_shut (l := K) (h.ent (Bs := [.own (.slice xo (nth L i).op.length yo) 48 5 (nth L i).op.length ((mix K (nth L i).op k).flatMap LOpn.vals), .star (K.map subO), .blk ga 77 (xc * 4) ((mix (M ++ [({ nth L i with oa := xo, oc := yo } : LFil)]) L (i + 1)).flatMap LFil.vals), .star (M.map subF), .blk b3 106 2 [.int .i64 next, .slice (some ⟨ga, 0, none⟩) L.length xc], .blk b1 26 2 [.int .i64 next, .slice a L.length cap]]) (by repeat (first | exact .nil | refine .cons (by repeat (first | exact .here | apply Pick.there)) ?_))) (by omega) (by rw [mix_end (by omega)]); have h3 := row_fill (sub := subF) (K := M) (x := ({ nth L i with oa := xo, oc := yo, op := K } : LFil)) (n := L.length) (xs := (mix (M ++ [({ nth L i with oa := xo, oc := yo, op := K } : LFil)]) L (i + 1)).flatMap LFil.vals) (h2.ent (Bs := [.blk ga 77 (xc * 4) ((mix (M ++ [({ nth L i with oa := xo, oc := yo } : LFil)]) L (i + 1)).flatMap LFil.vals), subF ({ nth L i with oa := xo, oc := yo, op := K } : LFil), .star (M.map subF), .blk b3 106 2 [.int .i64 next, .slice (some ⟨ga, 0, none⟩) L.length xc], .blk b1 26 2 [.int .i64 next, .slice a L.length cap]]) (by repeat (first | exact .nil | refine .cons (by repeat (first | exact .here | apply Pick.there)) ?_))) (mix_same (by simp only [LFil.vals]; rw [show K.length = (nth L i).op.length by omega])) (by rw [flat_length fv4, mix_len (by simp [hMl]) (by omega)]) hcap hcm; exact h3.ent (by repeat (first | exact .nil | refine .cons (by repeat (first | exact .here | apply Pick.there)) ?_)))
    · try simp only [decide_eq_true_eq, decide_eq_false_iff_not, Bool.not_eq_true', Bool.not_eq_false', Bool.and_eq_true, Bool.or_eq_true, Bool.and_eq_false_iff, Bool.or_eq_false_iff, Bool.not_true, Bool.not_false] at h4
      refine s_exit_to rfl ?_
      refine s_seq ?_
      refine s_region ?_
      refine o_p (p_pure rfl) rfl ?_
      refine o_p (p_pure rfl) rfl ?_
      refine o_p (p_pure rfl) rfl ?_
      refine o_nil ?_
      exact s_retv (rs := [.tmp 2, .tmp 3]) rfl (.tmp rfl (.tmp rfl (.nil))) (fun w' h' => by have e8 : i = L.length := (by omega); exact ⟨(b3, (xa, xc), M), rfl, by show pls M = pls L; rw [hi2, List.take_of_length_le (by simp; omega)], by have h2 := HS.files_shut (l := M) (h'.ent (Bs := [.own (.slice xa L.length xc) 77 4 L.length ((mix M L i).flatMap LFil.vals), .star (M.map subF), .blk b3 106 2 [.int .i64 next, .slice xa L.length xc]]) (by repeat (first | exact .nil | refine .cons (by repeat (first | exact .here | apply Pick.there)) ?_))) (by omega) (by rw [mix_end (by omega)]); dsimp only; rw [show M.length = L.length by omega]; exact h2.ent (by repeat (first | exact .nil | refine .cons (by repeat (first | exact .here | apply Pick.there)) ?_))⟩)

set_option maxRecDepth 20000 in
theorem d80 (w : World) (next : Int) (a : Option Addr) (cap : Nat) (L : List LFil) (hs : Ft w [] a L) (hm : L.length ≤ 1000) (hmo : ∀ f ∈ L, f.op.length ≤ 1000) (hz : ¬ (chkT next (pls L)).2 = 0) : Calls Try.prog 80 #[.agg #[.int .i64 next, .slice a L.length cap]] w fun en w' => en = .returned (.tuple #[.pointer none, .int .i64 (chkT next (pls L)).2]) ∧ Below w.heap.size w w' := by
  refine enter (args := [_]) Try.func80 Try.ntmps80 rfl rfl (HS.refl w []) ?_
  refine s_seq ?_
  refine s_region ?_
  refine o_h (h_box rfl rfl) rfl (fun b1 _ => ?_)
  refine o_p (p_pure rfl) rfl ?_
  refine o_p (p_pure rfl) rfl ?_
  refine o_nil ?_
  refine s_seq ?_
  refine s_seq ?_
  refine s_region ?_
  refine o_q (q_loadn rfl rfl sz_26 (by repeat (first | exact .here | apply Pick.there)) rfl) rfl ?_
  refine o_q (q_call rfl fn_18 rfl (fun w1 h1 => c18 w1 next a cap L (hs.later h1) hm hmo)) rfl ?_
  refine o_p (p_pure rfl) rfl ?_
  refine o_p (p_pure rfl) rfl ?_
  refine o_p (p_pure rfl) rfl ?_
  refine o_p (p_pure rfl) rfl ?_
  refine o_p (p_pure rfl) rfl ?_
  refine o_nil ?_
  refine s_seq ?_
  refine s_region ?_
  refine o_p (p_pure rfl) rfl ?_
  refine o_p (p_pure rfl) rfl ?_
  refine o_nil ?_
  refine s_cond rfl (fun h2 => ?_) (fun h2 => ?_)
  · try simp only [decide_eq_true_eq, decide_eq_false_iff_not, Bool.not_eq_true', Bool.not_eq_false', Bool.and_eq_true, Bool.or_eq_true, Bool.and_eq_false_iff, Bool.or_eq_false_iff, Bool.not_true, Bool.not_false] at h2
    refine s_seq ?_
    refine s_region ?_
    refine o_p (p_pure rfl) rfl ?_
    refine o_p (p_pure rfl) rfl ?_
    refine o_p (p_pure rfl) rfl ?_
    refine o_nil ?_
    exact s_retv (rs := [.tmp 2, .tmp 3]) rfl (.tmp rfl (.tmp rfl (.nil))) (fun w' h' => ⟨rfl, h'.below⟩)
  · try simp only [decide_eq_true_eq, decide_eq_false_iff_not, Bool.not_eq_true', Bool.not_eq_false', Bool.and_eq_true, Bool.or_eq_true, Bool.and_eq_false_iff, Bool.or_eq_false_iff, Bool.not_true, Bool.not_false] at h2
    exfalso; exact absurd h2 hz

end Go.Proofs

namespace Go.Proofs
open Go Go.RowKit Gx
set_option linter.unusedVariables false
set_option linter.unusedSimpArgs false
attribute [local irreducible] Go.Calls Gx.S Gx.O Gx.D Gx.OpP Gx.OpQ Gx.OpH

theorem fn_80 : isFn Try.prog 80 = true := by kernel_rfl
theorem fn_65 : isFn Try.prog 65 = true := by kernel_rfl


theorem afT_1 {next : Int} {L : List Fil} {r : List Fil × Int} (h1 : ¬ (chkT next L).2 = 0) : afT next L r = (([], 0), (chkT next L).2) := by rw [afT, if_neg h1]
theorem mayR_af {next : Int} {L : List Fil} {h fr cnt : Int} {w : Bool} : (afT next L (L, mayT L h ⟨fr, cnt, false⟩ (bif w then 2 else 1) (kpW w))).2 = mayR next L h fr cnt w := by
  unfold afT mayR
  split
  · split
    · rename_i h2
      exact h2.symm
    · rfl
  · rfl

set_option maxRecDepth 20000 in
theorem e65 (w : World) (next : Int) (a : Option Addr) (cap : Nat) (L : List LFil) (q : Nat) (cv : Array Value) (r : List Fil × Int) (hs : Ft w [] a L) (hm : L.length ≤ 1000) (hmo : ∀ f ∈ L, f.op.length ≤ 1000) (hq : isFn Try.prog q = true) (hc : (chkT next (pls L)).2 = 0 → ∀ (w1 : World) (bt : Nat) (ca : Option Addr) (cc : Nat) (N : List LFil), pls N = pls L → HS w [] [.blk bt 106 2 [.int .i64 next, .slice ca N.length cc], .files ca cc N] w1 → HS w1 (fps [.blk bt 106 2 [.int .i64 next, .slice ca N.length cc], .files ca cc N]) [.blk bt 106 2 [.int .i64 next, .slice ca N.length cc], .files ca cc N] w1 → Calls Try.prog q (#[] ++ [.pointer (some ⟨bt, 0, none⟩)].toArray ++ cv) w1 fun en w2 => ∃ g : (Option Addr × Nat) × List LFil, en = .returned (.int .i64 r.2) ∧ pls g.2 = r.1 ∧ HS w1 (fps [.blk bt 106 2 [.int .i64 next, .slice ca N.length cc], .files ca cc N]) [.blk bt 106 2 [.int .i64 next, .slice g.1.1 g.2.length g.1.2], .files g.1.1 g.1.2 g.2] w2) (hz : (chkT next (pls L)).2 = 0) : Calls Try.prog 65 #[.agg #[.int .i64 next, .slice a L.length cap], .func (.func q) #[] cv] w fun en w' => ∃ g : (Option Addr × Nat) × List LFil, en = .returned (.tuple #[.agg #[.int .i64 (afT next (pls L) r).1.2, .slice g.1.1 g.2.length g.1.2], .int .i64 (afT next (pls L) r).2]) ∧ pls g.2 = (afT next (pls L) r).1.1 ∧ HS w [] [.files g.1.1 g.1.2 g.2] w' := by
  refine enter (args := [_, _]) Try.func65 Try.ntmps65 rfl rfl (HS.refl w []) ?_
  refine s_seq ?_
  refine s_region ?_
  refine o_h (h_box rfl rfl) rfl (fun b1 _ => ?_)
  refine o_h (h_alloc rfl zr_26) rfl (fun b2 _ => ?_)
  refine o_p (p_pure rfl) rfl ?_
  refine o_nil ?_
  refine s_seq ?_
  refine s_region ?_
  refine o_q (q_loadn rfl rfl sz_26 (by repeat (first | exact .here | apply Pick.there)) rfl) rfl ?_
  refine o_h (h_call rfl fn_80 rfl (fun w1 h1 => c80 w1 next a cap L (hs.later h1) hm hmo hz)) rfl (fun ⟨bt, ⟨ca, cc⟩, N⟩ hgc => ?_)
  dsimp only at hgc ⊢
  refine o_p (p_pure rfl) rfl ?_
  refine o_p (p_pure rfl) rfl ?_
  refine o_p (p_pure rfl) rfl ?_
  refine o_p (p_pure rfl) rfl ?_
  refine o_p (p_pure rfl) rfl ?_
  refine o_nil ?_
  refine s_seq ?_
  refine s_seq ?_
  refine s_region ?_
  refine o_p (p_pure rfl) rfl ?_
  refine o_p (p_pure rfl) rfl ?_
  refine o_nil ?_
  refine s_cond rfl (fun h3 => ?_) (fun h3 => ?_)
  · try simp only [decide_eq_true_eq, decide_eq_false_iff_not, Bool.not_eq_true', Bool.not_eq_false', Bool.and_eq_true, Bool.or_eq_true, Bool.and_eq_false_iff, Bool.or_eq_false_iff, Bool.not_true, Bool.not_false] at h3
    refine s_region ?_
    refine o_p (p_pure rfl) rfl ?_
    refine o_p (p_pure rfl) rfl ?_
    refine o_h (h_callvF (Cs := [.blk bt 106 2 [.int .i64 next, .slice ca N.length cc], .files ca cc N]) rfl rfl hq rfl (by repeat (first | exact Picks.nil | (apply Picks.cons; · (repeat (first | exact .here | apply Pick.there))))) (fun w1 h1 hf => hc hz w1 bt ca cc N hgc (h1.ent (by repeat (first | exact .nil | refine .cons (by repeat (first | exact .here | apply Pick.there)) ?_))) hf)) rfl (fun ⟨⟨ga, gc⟩, G⟩ hg9 => ?_)
    dsimp only at hg9 ⊢
    refine o_p (p_pure rfl) rfl ?_
    refine o_nil ?_
    refine s_seq ?_
    refine s_seq ?_
    refine s_region ?_
    refine o_p (p_pure rfl) rfl ?_
    refine o_p (p_pure rfl) rfl ?_
    refine o_nil ?_
    refine s_cond rfl (fun h4 => ?_) (fun h4 => ?_)
    · try simp only [decide_eq_true_eq, decide_eq_false_iff_not, Bool.not_eq_true', Bool.not_eq_false', Bool.and_eq_true, Bool.or_eq_true, Bool.and_eq_false_iff, Bool.or_eq_false_iff, Bool.not_true, Bool.not_false] at h4
      refine s_seq ?_
      refine s_region ?_
      refine o_p (p_build (cs := [_, _]) rfl rfl pl_26 zr_26 rfl) rfl ?_
      refine o_p (p_pure rfl) rfl ?_
      refine o_h0 (h_store rfl rfl rfl sz_26 rfl (by repeat (first | exact .here | apply Put.there)) (by simp only [setMany_length, List.length_set, List.length_cons, List.length_nil, List.length_map]; omega) rfl) (fun _ _ => ?_)
      refine o_p (p_pure rfl) rfl ?_
      refine o_nil ?_
      exact s_retv (rs := [.cell 4 26, .tmp 5]) rfl (.cell rfl sz_26 (by repeat (first | exact .here | apply Pick.there)) rfl (.tmp rfl (.nil))) (fun w' h' => by have hR := afT_e hz h4; exact ⟨((none, 0), []), by rw [hR]; rfl, by rw [hR]; rfl, (HS.files_none h').ent (by repeat (first | exact .nil | refine .cons (by repeat (first | exact .here | apply Pick.there)) ?_))⟩)
    · try simp only [decide_eq_true_eq, decide_eq_false_iff_not, Bool.not_eq_true', Bool.not_eq_false', Bool.and_eq_true, Bool.or_eq_true, Bool.and_eq_false_iff, Bool.or_eq_false_iff, Bool.not_true, Bool.not_false] at h4
      refine s_skip ?_
      refine s_seq ?_
      refine s_region ?_
      refine o_p (p_pure rfl) rfl ?_
      refine o_p (p_pure rfl) rfl ?_
      refine o_p (p_fieldAddr rfl rfl fd_106_0 sz_26 rfl) rfl ?_
      refine o_q (q_loadn rfl rfl sz_26 (by repeat (first | exact .here | apply Pick.there)) rfl) rfl ?_
      refine o_h0 (h_store rfl rfl rfl sz_26 rfl (by repeat (first | exact .here | apply Put.there)) (by simp only [setMany_length, List.length_set, List.length_cons, List.length_nil, List.length_map]; omega) rfl) (fun _ _ => ?_)
      refine o_p (p_pure rfl) rfl ?_
      refine o_nil ?_
      exact s_retv (rs := [.cell 4 26, .tmp 5]) rfl (.cell rfl sz_26 (by repeat (first | exact .here | apply Pick.there)) rfl (.tmp rfl (.nil))) (fun w' h' => by have h9 : r.2 = 0 := h4; have hR := afT_0 (r := r) hz h9; exact ⟨((ga, gc), G), by rw [hR]; rfl, by rw [hR]; exact hg9, h'.ent (by repeat (first | exact .nil | refine .cons (by repeat (first | exact .here | apply Pick.there)) ?_))⟩)
  · try simp only [decide_eq_true_eq, decide_eq_false_iff_not, Bool.not_eq_true', Bool.not_eq_false', Bool.and_eq_true, Bool.or_eq_true, Bool.and_eq_false_iff, Bool.or_eq_false_iff, Bool.not_true, Bool.not_false] at h3
    exfalso; simp at h3

set_option maxRecDepth 20000 in
theorem d65 (w : World) (next : Int) (a : Option Addr) (cap : Nat) (L : List LFil) (q : Nat) (cv : Array Value) (r : List Fil × Int) (hs : Ft w [] a L) (hm : L.length ≤ 1000) (hmo : ∀ f ∈ L, f.op.length ≤ 1000) (hq : isFn Try.prog q = true) (hc : (chkT next (pls L)).2 = 0 → ∀ (w1 : World) (bt : Nat) (ca : Option Addr) (cc : Nat) (N : List LFil), pls N = pls L → HS w [] [.blk bt 106 2 [.int .i64 next, .slice ca N.length cc], .files ca cc N] w1 → HS w1 (fps [.blk bt 106 2 [.int .i64 next, .slice ca N.length cc], .files ca cc N]) [.blk bt 106 2 [.int .i64 next, .slice ca N.length cc], .files ca cc N] w1 → Calls Try.prog q (#[] ++ [.pointer (some ⟨bt, 0, none⟩)].toArray ++ cv) w1 fun en w2 => ∃ g : (Option Addr × Nat) × List LFil, en = .returned (.int .i64 r.2) ∧ pls g.2 = r.1 ∧ HS w1 (fps [.blk bt 106 2 [.int .i64 next, .slice ca N.length cc], .files ca cc N]) [.blk bt 106 2 [.int .i64 next, .slice g.1.1 g.2.length g.1.2], .files g.1.1 g.1.2 g.2] w2) (hz : ¬ (chkT next (pls L)).2 = 0) : Calls Try.prog 65 #[.agg #[.int .i64 next, .slice a L.length cap], .func (.func q) #[] cv] w fun en w' => ∃ g : (Option Addr × Nat) × List LFil, en = .returned (.tuple #[.agg #[.int .i64 (afT next (pls L) r).1.2, .slice g.1.1 g.2.length g.1.2], .int .i64 (afT next (pls L) r).2]) ∧ pls g.2 = (afT next (pls L) r).1.1 ∧ HS w [] [.files g.1.1 g.1.2 g.2] w' := by
  refine enter (args := [_, _]) Try.func65 Try.ntmps65 rfl rfl (HS.refl w []) ?_
  refine s_seq ?_
  refine s_region ?_
  refine o_h (h_box rfl rfl) rfl (fun b1 _ => ?_)
  refine o_h (h_alloc rfl zr_26) rfl (fun b2 _ => ?_)
  refine o_p (p_pure rfl) rfl ?_
  refine o_nil ?_
  refine s_seq ?_
  refine s_region ?_
  refine o_q (q_loadn rfl rfl sz_26 (by repeat (first | exact .here | apply Pick.there)) rfl) rfl ?_
  refine o_q (q_call rfl fn_80 rfl (fun w1 h1 => d80 w1 next a cap L (hs.later h1) hm hmo hz)) rfl ?_
  refine o_p (p_pure rfl) rfl ?_
  refine o_p (p_pure rfl) rfl ?_
  refine o_p (p_pure rfl) rfl ?_
  refine o_p (p_pure rfl) rfl ?_
  refine o_p (p_pure rfl) rfl ?_
  refine o_nil ?_
  refine s_seq ?_
  refine s_seq ?_
  refine s_region ?_
  refine o_p (p_pure rfl) rfl ?_
  refine o_p (p_pure rfl) rfl ?_
  refine o_nil ?_
  refine s_cond rfl (fun h3 => ?_) (fun h3 => ?_)
  · try simp only [decide_eq_true_eq, decide_eq_false_iff_not, Bool.not_eq_true', Bool.not_eq_false', Bool.and_eq_true, Bool.or_eq_true, Bool.and_eq_false_iff, Bool.or_eq_false_iff, Bool.not_true, Bool.not_false] at h3
    exfalso; exact hz h3
  · try simp only [decide_eq_true_eq, decide_eq_false_iff_not, Bool.not_eq_true', Bool.not_eq_false', Bool.and_eq_true, Bool.or_eq_true, Bool.and_eq_false_iff, Bool.or_eq_false_iff, Bool.not_true, Bool.not_false] at h3
    refine s_skip ?_
    refine s_seq ?_
    refine s_seq ?_
    refine s_region ?_
    refine o_p (p_pure rfl) rfl ?_
    refine o_p (p_pure rfl) rfl ?_
    refine o_nil ?_
    refine s_cond rfl (fun h4 => ?_) (fun h4 => ?_)
    · try simp only [decide_eq_true_eq, decide_eq_false_iff_not, Bool.not_eq_true', Bool.not_eq_false', Bool.and_eq_true, Bool.or_eq_true, Bool.and_eq_false_iff, Bool.or_eq_false_iff, Bool.not_true, Bool.not_false] at h4
      refine s_seq ?_
      refine s_region ?_
      refine o_p (p_build (cs := [_, _]) rfl rfl pl_26 zr_26 rfl) rfl ?_
      refine o_p (p_pure rfl) rfl ?_
      refine o_h0 (h_store rfl rfl rfl sz_26 rfl (by repeat (first | exact .here | apply Put.there)) (by simp only [setMany_length, List.length_set, List.length_cons, List.length_nil, List.length_map]; omega) rfl) (fun _ _ => ?_)
      refine o_p (p_pure rfl) rfl ?_
      refine o_nil ?_
      exact s_retv (rs := [.cell 4 26, .tmp 5]) rfl (.cell rfl sz_26 (by repeat (first | exact .here | apply Pick.there)) rfl (.tmp rfl (.nil))) (fun w' h' => by have hR := afT_1 (r := r) hz; exact ⟨((none, 0), []), by rw [hR]; rfl, by rw [hR]; rfl, (HS.files_none h').ent (by repeat (first | exact .nil | refine .cons (by repeat (first | exact .here | apply Pick.there)) ?_))⟩)
    · try simp only [decide_eq_true_eq, decide_eq_false_iff_not, Bool.not_eq_true', Bool.not_eq_false', Bool.and_eq_true, Bool.or_eq_true, Bool.and_eq_false_iff, Bool.or_eq_false_iff, Bool.not_true, Bool.not_false] at h4
      exfalso; exact hz h4

theorem c65 (w : World) (next : Int) (a : Option Addr) (cap : Nat) (L : List LFil) (q : Nat) (cv : Array Value) (r : List Fil × Int) (hs : Ft w [] a L) (hm : L.length ≤ 1000) (hmo : ∀ f ∈ L, f.op.length ≤ 1000) (hq : isFn Try.prog q = true) (hc : (chkT next (pls L)).2 = 0 → ∀ (w1 : World) (bt : Nat) (ca : Option Addr) (cc : Nat) (N : List LFil), pls N = pls L → HS w [] [.blk bt 106 2 [.int .i64 next, .slice ca N.length cc], .files ca cc N] w1 → HS w1 (fps [.blk bt 106 2 [.int .i64 next, .slice ca N.length cc], .files ca cc N]) [.blk bt 106 2 [.int .i64 next, .slice ca N.length cc], .files ca cc N] w1 → Calls Try.prog q (#[] ++ [.pointer (some ⟨bt, 0, none⟩)].toArray ++ cv) w1 fun en w2 => ∃ g : (Option Addr × Nat) × List LFil, en = .returned (.int .i64 r.2) ∧ pls g.2 = r.1 ∧ HS w1 (fps [.blk bt 106 2 [.int .i64 next, .slice ca N.length cc], .files ca cc N]) [.blk bt 106 2 [.int .i64 next, .slice g.1.1 g.2.length g.1.2], .files g.1.1 g.1.2 g.2] w2) : Calls Try.prog 65 #[.agg #[.int .i64 next, .slice a L.length cap], .func (.func q) #[] cv] w fun en w' => ∃ g : (Option Addr × Nat) × List LFil, en = .returned (.tuple #[.agg #[.int .i64 (afT next (pls L) r).1.2, .slice g.1.1 g.2.length g.1.2], .int .i64 (afT next (pls L) r).2]) ∧ pls g.2 = (afT next (pls L) r).1.1 ∧ HS w [] [.files g.1.1 g.1.2 g.2] w' := by
  rcases Classical.em ((chkT next (pls L)).2 = 0) with hz | hz
  · exact e65 w next a cap L q cv r hs hm hmo hq hc hz
  · exact d65 w next a cap L q cv r hs hm hmo hq hc hz

set_option maxRecDepth 20000 in
theorem c66 (w : World) (p1 p2 : Nat) (bt : Nat) (next : Int) (a : Option Addr) (cap : Nat) (L : List LFil) (h : Int) (q : Lock) (hw : HS w (fps [.blk bt 106 2 [.int .i64 (next), .slice a (L).length cap], .files a cap (L)]) [.blk bt 106 2 [.int .i64 (next), .slice a (L).length cap], .files a cap (L)] w) (hV : VW (pls L)) (h1 : Rd w (fps [.blk bt 106 2 [.int .i64 (next), .slice a (L).length cap], .files a cap (L)]) p1 0 (.int .i64 h)) (h2 : ∀ j v, q.vals[j]? = some v → Rd w (fps [.blk bt 106 2 [.int .i64 (next), .slice a (L).length cap], .files a cap (L)]) p2 (0 + j) v) : Calls Try.prog 66 #[.pointer (some ⟨bt, 0, none⟩), .pointer (some ⟨p1, 0, none⟩), .pointer (some ⟨p2, 0, none⟩)] w fun en w' => ∃ g : (Option Addr × Nat) × List LFil, en = .returned (.int .i64 (lockT (pls L) h q).2) ∧ pls g.2 = (lockT (pls L) h q).1 ∧ HS w (fps [.blk bt 106 2 [.int .i64 (next), .slice a (L).length cap], .files a cap (L)]) [.blk bt 106 2 [.int .i64 (next), .slice g.1.1 (g.2).length g.1.2], .files g.1.1 g.1.2 (g.2)] w' := by
  refine enter (args := [_, _, _]) Try.func66 Try.ntmps66 rfl rfl hw ?_
  refine s_seq ?_
  refine s_region ?_
  refine o_p (p_pure rfl) rfl ?_
  refine o_nil ?_
  refine s_seq ?_
  refine s_region ?_
  refine o_p (p_pure rfl) rfl ?_
  first | refine o_q (q_load rfl rfl sz_3 (by repeat (first | exact .here | apply Pick.there)) rfl) rfl ?_ | refine o_q (q_load_old rfl rfl sz_3 (h1)) rfl ?_ | refine o_q (q_load_old rfl rfl sz_3 (rfl h2)) rfl ?_
  first | refine o_q (q_loadn rfl rfl sz_62 (by repeat (first | exact .here | apply Pick.there)) rfl) rfl ?_ | refine o_q (q_load_oldn _ rfl rfl sz_62 h1) rfl ?_ | refine o_q (q_load_oldn _ rfl rfl sz_62 rfl h2) rfl ?_
  refine o_h (h_callF (Cs := [.blk bt 106 2 [.int .i64 (next), .slice a (L).length cap], .files a cap (L)]) rfl fn_67 rfl (by repeat (first | exact Picks.nil | (apply Picks.cons; · (repeat (first | exact .here | apply Pick.there))))) (fun w1 h1 hf => c67 w1 bt next a cap L h q hf hV)) rfl (fun gz hgz => ?_)
  refine o_p (p_pure rfl) rfl ?_
  refine o_nil ?_
  exact s_retv (rs := [.tmp 4]) rfl (.tmp rfl (.nil)) (fun w' h' => ⟨gz, rfl, hgz, h'.ent (by repeat (first | exact .nil | refine .cons (by repeat (first | exact .here | apply Pick.there)) ?_))⟩)

set_option maxRecDepth 20000 in
theorem c73 (w : World) (p1 p2 p3 : Nat) (bt : Nat) (next : Int) (a : Option Addr) (cap : Nat) (L : List LFil) (h fr cnt : Int) (hw : HS w (fps [.blk bt 106 2 [.int .i64 (next), .slice a (L).length cap], .files a cap (L)]) [.blk bt 106 2 [.int .i64 (next), .slice a (L).length cap], .files a cap (L)] w) (hV : VW (pls L)) (h1 : Rd w (fps [.blk bt 106 2 [.int .i64 (next), .slice a (L).length cap], .files a cap (L)]) p1 0 (.int .i64 h)) (h2 : Rd w (fps [.blk bt 106 2 [.int .i64 (next), .slice a (L).length cap], .files a cap (L)]) p2 0 (.int .i64 fr)) (h3 : Rd w (fps [.blk bt 106 2 [.int .i64 (next), .slice a (L).length cap], .files a cap (L)]) p3 0 (.int .i64 cnt)) : Calls Try.prog 73 #[.pointer (some ⟨bt, 0, none⟩), .pointer (some ⟨p1, 0, none⟩), .pointer (some ⟨p2, 0, none⟩), .pointer (some ⟨p3, 0, none⟩)] w fun en w' => ∃ g : (Option Addr × Nat) × List LFil, en = .returned (.int .i64 (unlockT (pls L) h fr cnt).2) ∧ pls g.2 = (unlockT (pls L) h fr cnt).1 ∧ HS w (fps [.blk bt 106 2 [.int .i64 (next), .slice a (L).length cap], .files a cap (L)]) [.blk bt 106 2 [.int .i64 (next), .slice g.1.1 (g.2).length g.1.2], .files g.1.1 g.1.2 (g.2)] w' := by
  refine enter (args := [_, _, _, _]) Try.func73 Try.ntmps73 rfl rfl hw ?_
  refine s_seq ?_
  refine s_region ?_
  refine o_p (p_pure rfl) rfl ?_
  refine o_nil ?_
  refine s_seq ?_
  refine s_region ?_
  refine o_p (p_pure rfl) rfl ?_
  first | refine o_q (q_load rfl rfl sz_3 (by repeat (first | exact .here | apply Pick.there)) rfl) rfl ?_ | refine o_q (q_load_old rfl rfl sz_3 (h1)) rfl ?_ | refine o_q (q_load_old rfl rfl sz_3 (h2)) rfl ?_ | refine o_q (q_load_old rfl rfl sz_3 (h3)) rfl ?_
  first | refine o_q (q_load rfl rfl sz_3 (by repeat (first | exact .here | apply Pick.there)) rfl) rfl ?_ | refine o_q (q_load_old rfl rfl sz_3 (h1)) rfl ?_ | refine o_q (q_load_old rfl rfl sz_3 (h2)) rfl ?_ | refine o_q (q_load_old rfl rfl sz_3 (h3)) rfl ?_
  first | refine o_q (q_load rfl rfl sz_3 (by repeat (first | exact .here | apply Pick.there)) rfl) rfl ?_ | refine o_q (q_load_old rfl rfl sz_3 (h1)) rfl ?_ | refine o_q (q_load_old rfl rfl sz_3 (h2)) rfl ?_ | refine o_q (q_load_old rfl rfl sz_3 (h3)) rfl ?_
  refine o_h (h_callF (Cs := [.blk bt 106 2 [.int .i64 (next), .slice a (L).length cap], .files a cap (L)]) rfl fn_74 rfl (by repeat (first | exact Picks.nil | (apply Picks.cons; · (repeat (first | exact .here | apply Pick.there))))) (fun w1 h1 hf => c74 w1 bt next a cap L h fr cnt hf hV)) rfl (fun gz hgz => ?_)
  refine o_p (p_pure rfl) rfl ?_
  refine o_nil ?_
  exact s_retv (rs := [.tmp 5]) rfl (.tmp rfl (.nil)) (fun w' h' => ⟨gz, rfl, hgz, h'.ent (by repeat (first | exact .nil | refine .cons (by repeat (first | exact .here | apply Pick.there)) ?_))⟩)

set_option maxRecDepth 20000 in
theorem c75 (w : World) (p1 p2 p3 : Nat) (bt : Nat) (next : Int) (a : Option Addr) (cap : Nat) (L : List LFil) (h fr cnt : Int) (hw : HS w (fps [.blk bt 106 2 [.int .i64 (next), .slice a (L).length cap], .files a cap (L)]) [.blk bt 106 2 [.int .i64 (next), .slice a (L).length cap], .files a cap (L)] w) (hV : VW (pls L)) (h1 : Rd w (fps [.blk bt 106 2 [.int .i64 (next), .slice a (L).length cap], .files a cap (L)]) p1 0 (.int .i64 h)) (h2 : Rd w (fps [.blk bt 106 2 [.int .i64 (next), .slice a (L).length cap], .files a cap (L)]) p2 0 (.int .i64 fr)) (h3 : Rd w (fps [.blk bt 106 2 [.int .i64 (next), .slice a (L).length cap], .files a cap (L)]) p3 0 (.int .i64 cnt)) : Calls Try.prog 75 #[.pointer (some ⟨bt, 0, none⟩), .pointer (some ⟨p1, 0, none⟩), .pointer (some ⟨p2, 0, none⟩), .pointer (some ⟨p3, 0, none⟩)] w fun en w' => ∃ g : (Option Addr × Nat) × List LFil, en = .returned (.int .i64 (pls L, mayT (pls L) h ⟨fr, cnt, false⟩ 1 rdK).2) ∧ pls g.2 = (pls L, mayT (pls L) h ⟨fr, cnt, false⟩ 1 rdK).1 ∧ HS w (fps [.blk bt 106 2 [.int .i64 (next), .slice a (L).length cap], .files a cap (L)]) [.blk bt 106 2 [.int .i64 (next), .slice g.1.1 (g.2).length g.1.2], .files g.1.1 g.1.2 (g.2)] w' := by
  refine enter (args := [_, _, _, _]) Try.func75 Try.ntmps75 rfl rfl hw ?_
  refine s_seq ?_
  refine s_region ?_
  refine o_p (p_pure rfl) rfl ?_
  refine o_nil ?_
  refine s_seq ?_
  refine s_region ?_
  refine o_p (p_pure rfl) rfl ?_
  first | refine o_q (q_load rfl rfl sz_3 (by repeat (first | exact .here | apply Pick.there)) rfl) rfl ?_ | refine o_q (q_load_old rfl rfl sz_3 (h1)) rfl ?_ | refine o_q (q_load_old rfl rfl sz_3 (h2)) rfl ?_ | refine o_q (q_load_old rfl rfl sz_3 (h3)) rfl ?_
  first | refine o_q (q_load rfl rfl sz_3 (by repeat (first | exact .here | apply Pick.there)) rfl) rfl ?_ | refine o_q (q_load_old rfl rfl sz_3 (h1)) rfl ?_ | refine o_q (q_load_old rfl rfl sz_3 (h2)) rfl ?_ | refine o_q (q_load_old rfl rfl sz_3 (h3)) rfl ?_
  first | refine o_q (q_load rfl rfl sz_3 (by repeat (first | exact .here | apply Pick.there)) rfl) rfl ?_ | refine o_q (q_load_old rfl rfl sz_3 (h1)) rfl ?_ | refine o_q (q_load_old rfl rfl sz_3 (h2)) rfl ?_ | refine o_q (q_load_old rfl rfl sz_3 (h3)) rfl ?_
  refine o_p (p_build (cs := [_, _, _]) rfl rfl pl_62 zr_62 rfl) rfl ?_
  refine o_q (q_call rfl fn_76 rfl (fun w1 h1 => c76 w1 bt a cap L h ⟨fr, cnt, false⟩ (h1.rd_blk (Mc := []) (b := bt) (by repeat (first | exact .here | apply Pick.there)) rfl (by simp)) (h1.ft (by repeat (first | exact .here | apply Pick.there))) hV)) rfl ?_
  refine o_p (p_pure rfl) rfl ?_
  refine o_nil ?_
  exact s_retv (rs := [.tmp 5]) rfl (.tmp rfl (.nil)) (fun w' h' => ⟨((a, cap), L), rfl, rfl, h'.ent (by repeat (first | exact .nil | refine .cons (by repeat (first | exact .here | apply Pick.there)) ?_))⟩)

set_option maxRecDepth 20000 in
theorem c77 (w : World) (p1 p2 p3 : Nat) (bt : Nat) (next : Int) (a : Option Addr) (cap : Nat) (L : List LFil) (h fr cnt : Int) (hw : HS w (fps [.blk bt 106 2 [.int .i64 (next), .slice a (L).length cap], .files a cap (L)]) [.blk bt 106 2 [.int .i64 (next), .slice a (L).length cap], .files a cap (L)] w) (hV : VW (pls L)) (h1 : Rd w (fps [.blk bt 106 2 [.int .i64 (next), .slice a (L).length cap], .files a cap (L)]) p1 0 (.int .i64 h)) (h2 : Rd w (fps [.blk bt 106 2 [.int .i64 (next), .slice a (L).length cap], .files a cap (L)]) p2 0 (.int .i64 fr)) (h3 : Rd w (fps [.blk bt 106 2 [.int .i64 (next), .slice a (L).length cap], .files a cap (L)]) p3 0 (.int .i64 cnt)) : Calls Try.prog 77 #[.pointer (some ⟨bt, 0, none⟩), .pointer (some ⟨p1, 0, none⟩), .pointer (some ⟨p2, 0, none⟩), .pointer (some ⟨p3, 0, none⟩)] w fun en w' => ∃ g : (Option Addr × Nat) × List LFil, en = .returned (.int .i64 (pls L, mayT (pls L) h ⟨fr, cnt, false⟩ 2 wrK).2) ∧ pls g.2 = (pls L, mayT (pls L) h ⟨fr, cnt, false⟩ 2 wrK).1 ∧ HS w (fps [.blk bt 106 2 [.int .i64 (next), .slice a (L).length cap], .files a cap (L)]) [.blk bt 106 2 [.int .i64 (next), .slice g.1.1 (g.2).length g.1.2], .files g.1.1 g.1.2 (g.2)] w' := by
  refine enter (args := [_, _, _, _]) Try.func77 Try.ntmps77 rfl rfl hw ?_
  refine s_seq ?_
  refine s_region ?_
  refine o_p (p_pure rfl) rfl ?_
  refine o_nil ?_
  refine s_seq ?_
  refine s_region ?_
  refine o_p (p_pure rfl) rfl ?_
  first | refine o_q (q_load rfl rfl sz_3 (by repeat (first | exact .here | apply Pick.there)) rfl) rfl ?_ | refine o_q (q_load_old rfl rfl sz_3 (h1)) rfl ?_ | refine o_q (q_load_old rfl rfl sz_3 (h2)) rfl ?_ | refine o_q (q_load_old rfl rfl sz_3 (h3)) rfl ?_
  first | refine o_q (q_load rfl rfl sz_3 (by repeat (first | exact .here | apply Pick.there)) rfl) rfl ?_ | refine o_q (q_load_old rfl rfl sz_3 (h1)) rfl ?_ | refine o_q (q_load_old rfl rfl sz_3 (h2)) rfl ?_ | refine o_q (q_load_old rfl rfl sz_3 (h3)) rfl ?_
  first | refine o_q (q_load rfl rfl sz_3 (by repeat (first | exact .here | apply Pick.there)) rfl) rfl ?_ | refine o_q (q_load_old rfl rfl sz_3 (h1)) rfl ?_ | refine o_q (q_load_old rfl rfl sz_3 (h2)) rfl ?_ | refine o_q (q_load_old rfl rfl sz_3 (h3)) rfl ?_
  refine o_p (p_build (cs := [_, _, _]) rfl rfl pl_62 zr_62 rfl) rfl ?_
  refine o_q (q_call rfl fn_78 rfl (fun w1 h1 => c78 w1 bt a cap L h ⟨fr, cnt, false⟩ (h1.rd_blk (Mc := []) (b := bt) (by repeat (first | exact .here | apply Pick.there)) rfl (by simp)) (h1.ft (by repeat (first | exact .here | apply Pick.there))) hV)) rfl ?_
  refine o_p (p_pure rfl) rfl ?_
  refine o_nil ?_
  exact s_retv (rs := [.tmp 5]) rfl (.tmp rfl (.nil)) (fun w' h' => ⟨((a, cap), L), rfl, rfl, h'.ent (by repeat (first | exact .nil | refine .cons (by repeat (first | exact .here | apply Pick.there)) ?_))⟩)

set_option maxRecDepth 20000 in
theorem c24 (w : World) (next : Int) (a : Option Addr) (cap : Nat) (L : List LFil) (h : Int) (q : Lock) (hs : Ft w [] a L) (hm : L.length ≤ 1000) (hmo : ∀ f ∈ L, f.op.length ≤ 1000) : Calls Try.prog 24 #[.agg #[.int .i64 next, .slice a L.length cap], .int .i64 h, .agg #[.int .i64 q.fr, .int .i64 q.cnt, .bool q.ex]] w fun en w' => ∃ g : (Option Addr × Nat) × List LFil, en = .returned (.tuple #[.agg #[.int .i64 (afT next (pls L) (lockT (pls L) h q)).1.2, .slice g.1.1 g.2.length g.1.2], .int .i64 (afT next (pls L) (lockT (pls L) h q)).2]) ∧ pls g.2 = (afT next (pls L) (lockT (pls L) h q)).1.1 ∧ HS w [] [.files g.1.1 g.1.2 g.2] w' := by
  refine enter (args := [_, _, _]) Try.func24 Try.ntmps24 rfl rfl (HS.refl w []) ?_
  refine s_seq ?_
  refine s_region ?_
  refine o_h (h_box rfl rfl) rfl (fun b1 _ => ?_)
  refine o_h (h_box rfl rfl) rfl (fun b2 _ => ?_)
  refine o_h (h_box rfl rfl) rfl (fun b3 _ => ?_)
  refine o_h (h_alloc rfl zr_26) rfl (fun b4 _ => ?_)
  refine o_p (p_pure rfl) rfl ?_
  refine o_nil ?_
  refine s_seq ?_
  refine s_region ?_
  refine o_q (q_loadn rfl rfl sz_26 (by repeat (first | exact .here | apply Pick.there)) rfl) rfl ?_
  refine o_p (p_pure rfl) rfl ?_
  refine o_h (h_call rfl fn_65 rfl (fun w1 h1 => c65 w1 next a cap L 66 #[.pointer (some ⟨b2, 0, none⟩), .pointer (some ⟨b3, 0, none⟩)] (lockT (pls L) h q) (hs.later h1) hm hmo (by kernel_rfl) (fun hz9 w2 bt ca cc N hp h2 hf => by have h9 := c66 w2 b2 b3 bt next ca cc N h q hf (by rw [show pls N = pls L from hp]; exact (chk_ok hz9).vw) (HS.keep h2 (h1.rd_blk (Mc := []) (b := b2) (by repeat (first | exact .here | apply Pick.there)) rfl (by simp))) (fun j v hj => HS.keep h2 (h1.rd_blk (Mc := []) (b := b3) (by repeat (first | exact .here | apply Pick.there)) (by rw [Nat.zero_add]; exact hj) (by simp))); rw [show pls N = pls L from hp] at h9; exact h9))) rfl (fun ⟨⟨ca, cc⟩, N⟩ hgc => ?_)
  refine o_p (p_pure rfl) rfl ?_
  refine o_p (p_pure rfl) rfl ?_
  refine o_h0 (h_store rfl rfl rfl sz_26 rfl (by repeat (first | exact .here | apply Put.there)) (by simp only [setMany_length, List.length_set, List.length_cons, List.length_nil, List.length_map]; omega) rfl) (fun _ _ => ?_)
  refine o_p (p_pure rfl) rfl ?_
  refine o_nil ?_
  exact s_retv (rs := [.cell 6 26, .tmp 7]) rfl (.cell rfl sz_26 (by repeat (first | exact .here | apply Pick.there)) rfl (.tmp rfl (.nil))) (fun w' h' => ⟨((ca, cc), N), rfl, hgc, h'.ent (by repeat (first | exact .nil | refine .cons (by repeat (first | exact .here | apply Pick.there)) ?_))⟩)

set_option maxRecDepth 20000 in
theorem c26 (w : World) (next : Int) (a : Option Addr) (cap : Nat) (L : List LFil) (h fr cnt : Int) (hs : Ft w [] a L) (hm : L.length ≤ 1000) (hmo : ∀ f ∈ L, f.op.length ≤ 1000) : Calls Try.prog 26 #[.agg #[.int .i64 next, .slice a L.length cap], .int .i64 h, .int .i64 fr, .int .i64 cnt] w fun en w' => ∃ g : (Option Addr × Nat) × List LFil, en = .returned (.tuple #[.agg #[.int .i64 (afT next (pls L) (unlockT (pls L) h fr cnt)).1.2, .slice g.1.1 g.2.length g.1.2], .int .i64 (afT next (pls L) (unlockT (pls L) h fr cnt)).2]) ∧ pls g.2 = (afT next (pls L) (unlockT (pls L) h fr cnt)).1.1 ∧ HS w [] [.files g.1.1 g.1.2 g.2] w' := by
  refine enter (args := [_, _, _, _]) Try.func26 Try.ntmps26 rfl rfl (HS.refl w []) ?_
  refine s_seq ?_
  refine s_region ?_
  refine o_h (h_box rfl rfl) rfl (fun b1 _ => ?_)
  refine o_h (h_box rfl rfl) rfl (fun b2 _ => ?_)
  refine o_h (h_box rfl rfl) rfl (fun b3 _ => ?_)
  refine o_h (h_box rfl rfl) rfl (fun b4 _ => ?_)
  refine o_h (h_alloc rfl zr_26) rfl (fun b5 _ => ?_)
  refine o_p (p_pure rfl) rfl ?_
  refine o_nil ?_
  refine s_seq ?_
  refine s_region ?_
  refine o_q (q_loadn rfl rfl sz_26 (by repeat (first | exact .here | apply Pick.there)) rfl) rfl ?_
  refine o_p (p_pure rfl) rfl ?_
  refine o_h (h_call rfl fn_65 rfl (fun w1 h1 => c65 w1 next a cap L 73 #[.pointer (some ⟨b2, 0, none⟩), .pointer (some ⟨b3, 0, none⟩), .pointer (some ⟨b4, 0, none⟩)] (unlockT (pls L) h fr cnt) (hs.later h1) hm hmo (by kernel_rfl) (fun hz9 w2 bt ca cc N hp h2 hf => by have h9 := c73 w2 b2 b3 b4 bt next ca cc N h fr cnt hf (by rw [show pls N = pls L from hp]; exact (chk_ok hz9).vw) (HS.keep h2 (h1.rd_blk (Mc := []) (b := b2) (by repeat (first | exact .here | apply Pick.there)) rfl (by simp))) (HS.keep h2 (h1.rd_blk (Mc := []) (b := b3) (by repeat (first | exact .here | apply Pick.there)) rfl (by simp))) (HS.keep h2 (h1.rd_blk (Mc := []) (b := b4) (by repeat (first | exact .here | apply Pick.there)) rfl (by simp))); rw [show pls N = pls L from hp] at h9; exact h9))) rfl (fun ⟨⟨ca, cc⟩, N⟩ hgc => ?_)
  refine o_p (p_pure rfl) rfl ?_
  refine o_p (p_pure rfl) rfl ?_
  refine o_h0 (h_store rfl rfl rfl sz_26 rfl (by repeat (first | exact .here | apply Put.there)) (by simp only [setMany_length, List.length_set, List.length_cons, List.length_nil, List.length_map]; omega) rfl) (fun _ _ => ?_)
  refine o_p (p_pure rfl) rfl ?_
  refine o_nil ?_
  exact s_retv (rs := [.cell 8 26, .tmp 9]) rfl (.cell rfl sz_26 (by repeat (first | exact .here | apply Pick.there)) rfl (.tmp rfl (.nil))) (fun w' h' => ⟨((ca, cc), N), rfl, hgc, h'.ent (by repeat (first | exact .nil | refine .cons (by repeat (first | exact .here | apply Pick.there)) ?_))⟩)

set_option maxRecDepth 20000 in
theorem c28 (w : World) (next : Int) (a : Option Addr) (cap : Nat) (L : List LFil) (h fr cnt : Int) (hs : Ft w [] a L) (hm : L.length ≤ 1000) (hmo : ∀ f ∈ L, f.op.length ≤ 1000) : Calls Try.prog 28 #[.agg #[.int .i64 next, .slice a L.length cap], .int .i64 h, .int .i64 fr, .int .i64 cnt] w fun en w' => en = .returned (.int .i64 (mayR next (pls L) h fr cnt false)) ∧ Below w.heap.size w w' := by
  refine enter (args := [_, _, _, _]) Try.func28 Try.ntmps28 rfl rfl (HS.refl w []) ?_
  refine s_seq ?_
  refine s_region ?_
  refine o_h (h_box rfl rfl) rfl (fun b1 _ => ?_)
  refine o_h (h_box rfl rfl) rfl (fun b2 _ => ?_)
  refine o_h (h_box rfl rfl) rfl (fun b3 _ => ?_)
  refine o_h (h_box rfl rfl) rfl (fun b4 _ => ?_)
  refine o_p (p_pure rfl) rfl ?_
  refine o_nil ?_
  refine s_seq ?_
  refine s_region ?_
  refine o_q (q_loadn rfl rfl sz_26 (by repeat (first | exact .here | apply Pick.there)) rfl) rfl ?_
  refine o_p (p_pure rfl) rfl ?_
  refine o_h (h_call rfl fn_65 rfl (fun w1 h1 => c65 w1 next a cap L 75 #[.pointer (some ⟨b2, 0, none⟩), .pointer (some ⟨b3, 0, none⟩), .pointer (some ⟨b4, 0, none⟩)] (pls L, mayT (pls L) h ⟨fr, cnt, false⟩ 1 rdK) (hs.later h1) hm hmo (by kernel_rfl) (fun hz9 w2 bt ca cc N hp h2 hf => by have h9 := c75 w2 b2 b3 b4 bt next ca cc N h fr cnt hf (by rw [show pls N = pls L from hp]; exact (chk_ok hz9).vw) (HS.keep h2 (h1.rd_blk (Mc := []) (b := b2) (by repeat (first | exact .here | apply Pick.there)) rfl (by simp))) (HS.keep h2 (h1.rd_blk (Mc := []) (b := b3) (by repeat (first | exact .here | apply Pick.there)) rfl (by simp))) (HS.keep h2 (h1.rd_blk (Mc := []) (b := b4) (by repeat (first | exact .here | apply Pick.there)) rfl (by simp))); rw [show pls N = pls L from hp] at h9; exact h9))) rfl (fun ⟨⟨ca, cc⟩, N⟩ hgc => ?_)
  refine o_p (p_pure rfl) rfl ?_
  refine o_p (p_pure rfl) rfl ?_
  refine o_p (p_pure rfl) rfl ?_
  refine o_h (h_alloc rfl zr_26) rfl (fun b5 _ => ?_)
  refine o_h0 (h_store rfl rfl rfl sz_26 rfl (by repeat (first | exact .here | apply Put.there)) (by simp only [setMany_length, List.length_set, List.length_cons, List.length_nil, List.length_map]; omega) rfl) (fun _ _ => ?_)
  refine o_p (p_pure rfl) rfl ?_
  refine o_nil ?_
  refine s_seq ?_
  refine s_region ?_
  refine o_p (p_pure rfl) rfl ?_
  refine o_p (p_pure rfl) rfl ?_
  refine o_nil ?_
  exact s_retv (rs := [.tmp 8]) rfl (.tmp rfl (.nil)) (fun w' h' => ⟨by rw [← mayR_af]; simp only [kpW_f]; rfl, h'.below⟩)

set_option maxRecDepth 20000 in
theorem c29 (w : World) (next : Int) (a : Option Addr) (cap : Nat) (L : List LFil) (h fr cnt : Int) (hs : Ft w [] a L) (hm : L.length ≤ 1000) (hmo : ∀ f ∈ L, f.op.length ≤ 1000) : Calls Try.prog 29 #[.agg #[.int .i64 next, .slice a L.length cap], .int .i64 h, .int .i64 fr, .int .i64 cnt] w fun en w' => en = .returned (.int .i64 (mayR next (pls L) h fr cnt true)) ∧ Below w.heap.size w w' := by
  refine enter (args := [_, _, _, _]) Try.func29 Try.ntmps29 rfl rfl (HS.refl w []) ?_
  refine s_seq ?_
  refine s_region ?_
  refine o_h (h_box rfl rfl) rfl (fun b1 _ => ?_)
  refine o_h (h_box rfl rfl) rfl (fun b2 _ => ?_)
  refine o_h (h_box rfl rfl) rfl (fun b3 _ => ?_)
  refine o_h (h_box rfl rfl) rfl (fun b4 _ => ?_)
  refine o_p (p_pure rfl) rfl ?_
  refine o_nil ?_
  refine s_seq ?_
  refine s_region ?_
  refine o_q (q_loadn rfl rfl sz_26 (by repeat (first | exact .here | apply Pick.there)) rfl) rfl ?_
  refine o_p (p_pure rfl) rfl ?_
  refine o_h (h_call rfl fn_65 rfl (fun w1 h1 => c65 w1 next a cap L 77 #[.pointer (some ⟨b2, 0, none⟩), .pointer (some ⟨b3, 0, none⟩), .pointer (some ⟨b4, 0, none⟩)] (pls L, mayT (pls L) h ⟨fr, cnt, false⟩ 2 wrK) (hs.later h1) hm hmo (by kernel_rfl) (fun hz9 w2 bt ca cc N hp h2 hf => by have h9 := c77 w2 b2 b3 b4 bt next ca cc N h fr cnt hf (by rw [show pls N = pls L from hp]; exact (chk_ok hz9).vw) (HS.keep h2 (h1.rd_blk (Mc := []) (b := b2) (by repeat (first | exact .here | apply Pick.there)) rfl (by simp))) (HS.keep h2 (h1.rd_blk (Mc := []) (b := b3) (by repeat (first | exact .here | apply Pick.there)) rfl (by simp))) (HS.keep h2 (h1.rd_blk (Mc := []) (b := b4) (by repeat (first | exact .here | apply Pick.there)) rfl (by simp))); rw [show pls N = pls L from hp] at h9; exact h9))) rfl (fun ⟨⟨ca, cc⟩, N⟩ hgc => ?_)
  refine o_p (p_pure rfl) rfl ?_
  refine o_p (p_pure rfl) rfl ?_
  refine o_p (p_pure rfl) rfl ?_
  refine o_h (h_alloc rfl zr_26) rfl (fun b5 _ => ?_)
  refine o_h0 (h_store rfl rfl rfl sz_26 rfl (by repeat (first | exact .here | apply Put.there)) (by simp only [setMany_length, List.length_set, List.length_cons, List.length_nil, List.length_map]; omega) rfl) (fun _ _ => ?_)
  refine o_p (p_pure rfl) rfl ?_
  refine o_nil ?_
  refine s_seq ?_
  refine s_region ?_
  refine o_p (p_pure rfl) rfl ?_
  refine o_p (p_pure rfl) rfl ?_
  refine o_nil ?_
  exact s_retv (rs := [.tmp 8]) rfl (.tmp rfl (.nil)) (fun w' h' => ⟨by rw [← mayR_af]; simp only [kpW_t]; rfl, h'.below⟩)

end Go.Proofs

namespace Go.Proofs
open Go Go.RowKit Gx
set_option linter.unusedVariables false
set_option linter.unusedSimpArgs false
attribute [local irreducible] Go.Calls Gx.S Gx.O Gx.D Gx.OpP Gx.OpQ Gx.OpH



def openR (next : Int) (L : List Fil) (rc sq : Int) (x : Opn) : (List Fil × Int) × Int × Int := if (chkT next L).2 = 0 then if (openT next L rc sq x).2.2.2 = 0 then (((openT next L rc sq x).1, (openT next L rc sq x).2.1), (openT next L rc sq x).2.2.1, 0) else (([], 0), 0, (openT next L rc sq x).2.2.2) else (([], 0), 0, (chkT next L).2)
def closeR (next : Int) (L : List Fil) (h : Int) : (List Fil × Int) × Bool × Int := if (chkT next L).2 = 0 then if (closeT L h).2.2 = 0 then (((closeT L h).1, next), (closeT L h).2.1, 0) else (([], 0), false, (closeT L h).2.2) else (([], 0), false, (chkT next L).2)
end Go.Proofs

/- Chapter 25, plain: where a handle of a valid table is, and what its locks keep others from. No program here. -/
namespace Go.Proofs
open Go Go.RowKit Gx
set_option linter.unusedVariables false
set_option linter.unusedSimpArgs false
theorem vw_b {L : List LFil} (hV : VW (pls L)) : L.length ≤ 1000 ∧ (∀ f ∈ L, f.op.length ≤ 1000) ∧ ∀ f ∈ L, ∀ o ∈ f.op, o.lk.length ≤ 1000 := by
  have h := VW.lens hV
  refine ⟨by omega, fun f hf => by have := h.2 f hf; omega, fun f hf o ho => ?_⟩
  obtain ⟨i, hi, rfl⟩ := mem_nth_ex hf
  obtain ⟨k, hk, rfl⟩ := mem_nth_ex ho
  have := (VW.at hV hi hk).2.2
  omega
end Go.Proofs

namespace Go.Proofs
open Go Go.RowKit Gx
set_option linter.unusedVariables false
set_option linter.unusedSimpArgs false
attribute [local irreducible] Go.Calls Gx.S Gx.O Gx.D Gx.OpP Gx.OpQ Gx.OpH

theorem fn_28 : isFn Try.prog 28 = true := by kernel_rfl
theorem fn_29 : isFn Try.prog 29 = true := by kernel_rfl


end Go.Proofs

namespace Go.Proofs
open Go Go.RowKit Gx
set_option linter.unusedVariables false
set_option linter.unusedSimpArgs false
attribute [local irreducible] Go.Calls Gx.S Gx.O Gx.D Gx.OpP Gx.OpQ Gx.OpH



theorem ix_eq {l : List Lock} {fr cnt : Int} {n : Nat} (hn : n < l.length) (h : ∀ m, m < n → eqK fr cnt (nth l m) = false) (h2 : eqK fr cnt (nth l n) = true) : ixB (l.map (eqK fr cnt)) = n := by
  refine ixB_eq (by simp; omega) (fun i hi => ?_) (fun _ => ?_)
  · rw [List.getD_eq_getElem?_getD, List.getElem?_map, nth_get (show i < l.length by omega)]
    exact h i hi
  · rw [List.getD_eq_getElem?_getD, List.getElem?_map, nth_get hn]
    exact h2
theorem ix_no {l : List Lock} {fr cnt : Int} (h : ∀ m, m < l.length → eqK fr cnt (nth l m) = false) : ixB (l.map (eqK fr cnt)) = l.length := by
  refine ixB_eq (by simp) (fun i hi => ?_) (fun hl => absurd hl (by simp))
  rw [List.getD_eq_getElem?_getD, List.getElem?_map, nth_get hi]
  exact h i hi
theorem unlockT_2 {L : List LFil} {h fr cnt : Int} {i k n : Nat} (hi : i < L.length) (hk : k < (nth L i).op.length) (hfe : findF (pls L) h 0 = (i, k, 0)) (h2 : rngE fr cnt = 0) (hx : ixB ((nth (nth L i).op k).lk.map (eqK fr cnt)) = n) (hn : n < (nth (nth L i).op k).lk.length) : unlockT (pls L) h fr cnt = (updO (pls L) i k fun o => { o with lk := others o.lk (ixB (o.lk.map (eqK fr cnt))) }, 0) := by
  have e : (nth (nth (pls L) i).op k).lk = (nth (nth L i).op k).lk := by rw [nth_pls hi, LFil.pl, nth_plo hk]; rfl
  rw [unlockT_l hfe h2, e, hx, if_pos hn]
theorem unlockT_3 {L : List LFil} {h fr cnt : Int} {i k : Nat} (hi : i < L.length) (hk : k < (nth L i).op.length) (hfe : findF (pls L) h 0 = (i, k, 0)) (h2 : rngE fr cnt = 0) (hx : ixB ((nth (nth L i).op k).lk.map (eqK fr cnt)) = (nth (nth L i).op k).lk.length) : unlockT (pls L) h fr cnt = (pls L, 6) := by
  have e : (nth (nth (pls L) i).op k).lk = (nth (nth L i).op k).lk := by rw [nth_pls hi, LFil.pl, nth_plo hk]; rfl
  rw [unlockT_l hfe h2, e, hx, if_neg (Nat.lt_irrefl _)]
theorem cut_others {l : List Lock} {n : Nat} (hn : n < l.length) : n + (l.length - (n + 1)) = (others l n).length ∧ cut (l.flatMap Lock.vals) 0 (n * 3) ++ cut (l.flatMap Lock.vals) ((n + 1) * 3) ((l.length - (n + 1)) * 3) = (others l n).flatMap Lock.vals := by
  refine ⟨?_, ?_⟩
  · rw [others, List.length_append, List.length_take, List.length_drop]
    omega
  · rw [← others_flat lv3, cut, cut, List.drop_zero]
    congr 1
    exact List.take_of_length_le (by rw [List.length_drop, flat_length lv3]; omega)
theorem lk_blk {w0 w : World} {M : List Nat} {As As' : List HA} {a : Option Addr} {cap g : Nat} {l : List Lock} (ha : a = some ⟨g, 0, none⟩) (hn : 0 < l.length) (h : HS w0 M As w) (hp : Pick As (.locks a cap l) As') : HS w0 M (.blk g 62 (cap * 3) (l.flatMap Lock.vals) :: As') w := by
  subst ha
  exact own_to_blk hn h hp
theorem locks_to {w0 w : World} {M : List Nat} {As As' : List HA} {a : Option Addr} {cap n : Nat} {l : List Lock} {xs : List Value} (h : HS w0 M As w) (hp : Pick As (.own (.slice a n cap) 62 3 n xs) As') (hn : n = l.length) (hx : xs = l.flatMap Lock.vals) : HS w0 M (.locks a cap l :: As') w := by
  subst hn hx
  exact h.pick hp

set_option maxRecDepth 20000 in
set_option maxHeartbeats 1000000 in
theorem c27 (w : World) (next : Int) (a : Option Addr) (cap : Nat) (L : List LFil) (h fr cnt : Int) (hs : Ft w [] a L) (hm : L.length ≤ 1000) (hmo : ∀ f ∈ L, f.op.length ≤ 1000) (hml : ∀ f ∈ L, ∀ o ∈ f.op, o.lk.length ≤ 1000) : Calls Try.prog 27 #[.agg #[.int .i64 next, .slice a L.length cap], .int .i64 h, .int .i64 fr, .int .i64 cnt] w fun en w' => ∃ g : (Option Addr × Nat) × List LFil, en = .returned (.tuple #[.agg #[.int .i64 (afT next (pls L) (unlockT (pls L) h fr cnt)).1.2, .slice g.1.1 g.2.length g.1.2], .int .i64 (afT next (pls L) (unlockT (pls L) h fr cnt)).2]) ∧ pls g.2 = (afT next (pls L) (unlockT (pls L) h fr cnt)).1.1 ∧ HS w [] [.files g.1.1 g.1.2 g.2] w' := by
  refine enter (args := [_, _, _, _]) Try.func27 Try.ntmps27 rfl rfl (HS.refl w []) ?_
  refine s_seq ?_
  refine s_region ?_
  refine o_h (h_box rfl rfl) rfl (fun b1 _ => ?_)
  refine o_h (h_alloc rfl zr_26) rfl (fun b2 _ => ?_)
  refine o_p (p_pure rfl) rfl ?_
  refine o_nil ?_
  refine s_seq ?_
  refine s_seq ?_
  refine s_region ?_
  first | refine o_q (q_loadn rfl rfl sz_26 (by repeat (first | exact .here | apply Pick.there)) rfl) rfl ?_ | refine o_q (q_load_atn _ rfl rfl sz_26 fun w h => (h.rd_blk (Mc := []) (b := ga) (by repeat (first | exact .here | apply Pick.there)) (by rw [flat_get fv4 _ i 3 _ (nth_get hiN) (by decide)]; rfl) (by simp))) rfl ?_ | refine o_q (q_load_atn _ rfl rfl sz_26 fun w h => (h.rd_blk (Mc := []) (b := go) (by repeat (first | exact .here | apply Pick.there)) (by rw [flat_get ov5 _ k 4 _ (nth_get hkN) (by decide)]; rfl) (by simp))) rfl ?_ | refine o_q (q_load_atn _ rfl rfl sz_26 fun w h => by have h9 := Rw.rdj (HS.kt (a := (nth (nth N i).op k).la) (cap := (nth (nth N i).op k).lc) (l := (nth (nth N i).op k).lk) h (by repeat (first | exact .here | apply Pick.there))) 0 hnl rfl; rw [hla] at h9; exact h9) rfl ?_ | refine o_q (q_load_atn _ rfl rfl sz_26 fun w h => by have h9 := Rw.rdj (HS.kt (a := (nth (nth N i).op k).la) (cap := (nth (nth N i).op k).lc) (l := (nth (nth N i).op k).lk) h (by repeat (first | exact .here | apply Pick.there))) 1 hnl rfl; rw [hla] at h9; exact h9) rfl ?_
  refine o_p (p_pure rfl) rfl ?_
  refine o_q (q_call rfl fn_68 rfl (fun w1 h1 => c68 w1 next a cap L h (hs.later h1) hm hmo)) rfl ?_
  refine o_p (p_pure rfl) rfl ?_
  refine o_nil ?_
  refine s_seq ?_
  refine s_region ?_
  refine o_p (p_pure rfl) rfl ?_
  refine o_p (p_pure rfl) rfl ?_
  refine o_nil ?_
  refine s_cond rfl (fun h3 => ?_) (fun h3 => ?_)
  · try simp only [decide_eq_true_eq, decide_eq_false_iff_not, Bool.not_eq_true', Bool.not_eq_false', Bool.and_eq_true, Bool.or_eq_true, Bool.and_eq_false_iff, Bool.or_eq_false_iff, Bool.not_true, Bool.not_false] at h3
    have hz : ¬ hErr next (pls L) h = 0 := h3
    refine s_seq ?_
    refine s_region ?_
    refine o_p (p_build (cs := [_, _]) rfl rfl pl_26 zr_26 rfl) rfl ?_
    refine o_p (p_pure rfl) rfl ?_
    refine o_h0 (h_store rfl rfl rfl sz_26 rfl (by repeat (first | exact .here | apply Put.there)) (by simp only [setMany_length, List.length_set, List.length_cons, List.length_nil, List.length_map]; omega) rfl) (fun _ _ => ?_)
    refine o_p (p_pure rfl) rfl ?_
    refine o_nil ?_
    exact s_retv (rs := [.cell 8 26, .tmp 9]) rfl (.cell rfl sz_26 (by repeat (first | exact .here | apply Pick.there)) rfl (.tmp rfl (.nil))) (fun w' h' => by have hR := afT_h (r := (unlockT (pls L) h fr cnt)) hz (fun h9 => unlockT_f h9); exact ⟨((none, 0), []), by rw [hR]; rfl, by rw [hR]; rfl, (HS.files_none h').ent (by repeat (first | exact .nil | refine .cons (by repeat (first | exact .here | apply Pick.there)) ?_))⟩)
  · try simp only [decide_eq_true_eq, decide_eq_false_iff_not, Bool.not_eq_true', Bool.not_eq_false', Bool.and_eq_true, Bool.or_eq_true, Bool.and_eq_false_iff, Bool.or_eq_false_iff, Bool.not_true, Bool.not_false] at h3
    have hz : hErr next (pls L) h = 0 := h3
    obtain ⟨hz1, hz2⟩ := hErr_0 hz
    have hok := chk_ok hz1
    have hV := hok.vw
    obtain ⟨i, k, hfe, hi, hk, hV3⟩ := findF_some hV hz2
    have hfd : fdI (pls L) h = ((i : Int), (k : Int)) := by rw [fdI, hfe]; rfl
    have hoi := hmo _ (mem_nth hi)
    refine s_skip ?_
    refine s_seq ?_
    refine s_seq ?_
    refine s_region ?_
    refine o_p (p_pure rfl) rfl ?_
    refine o_p (p_pure rfl) rfl ?_
    refine o_q (q_call rfl fn_69 rfl (fun w1 h1 => c69 w1 fr cnt)) rfl ?_
    refine o_p (p_pure rfl) rfl ?_
    refine o_nil ?_
    refine s_seq ?_
    refine s_region ?_
    refine o_p (p_pure rfl) rfl ?_
    refine o_p (p_pure rfl) rfl ?_
    refine o_nil ?_
    refine s_cond rfl (fun h4 => ?_) (fun h4 => ?_)
    · try simp only [decide_eq_true_eq, decide_eq_false_iff_not, Bool.not_eq_true', Bool.not_eq_false', Bool.and_eq_true, Bool.or_eq_true, Bool.and_eq_false_iff, Bool.or_eq_false_iff, Bool.not_true, Bool.not_false] at h4
      have hrg : ¬ rngE fr cnt = 0 := h4
      have hut := unlockT_r hz2 hrg
      refine s_seq ?_
      refine s_region ?_
      refine o_p (p_build (cs := [_, _]) rfl rfl pl_26 zr_26 rfl) rfl ?_
      refine o_p (p_pure rfl) rfl ?_
      refine o_h0 (h_store rfl rfl rfl sz_26 rfl (by repeat (first | exact .here | apply Put.there)) (by simp only [setMany_length, List.length_set, List.length_cons, List.length_nil, List.length_map]; omega) rfl) (fun _ _ => ?_)
      refine o_p (p_pure rfl) rfl ?_
      refine o_nil ?_
      exact s_retv (rs := [.cell 8 26, .tmp 9]) rfl (.cell rfl sz_26 (by repeat (first | exact .here | apply Pick.there)) rfl (.tmp rfl (.nil))) (fun w' h' => by have hR := afT_e (r := (unlockT (pls L) h fr cnt)) hz1 (by rw [hut]; show ¬ (rngE fr cnt : Int) = 0; exact hrg); exact ⟨((none, 0), []), by rw [hR, hut]; rfl, by rw [hR, hut]; rfl, (HS.files_none h').ent (by repeat (first | exact .nil | refine .cons (by repeat (first | exact .here | apply Pick.there)) ?_))⟩)
    · try simp only [decide_eq_true_eq, decide_eq_false_iff_not, Bool.not_eq_true', Bool.not_eq_false', Bool.and_eq_true, Bool.or_eq_true, Bool.and_eq_false_iff, Bool.or_eq_false_iff, Bool.not_true, Bool.not_false] at h4
      have hrg : rngE fr cnt = 0 := h4
      have hl32 := (VW.lens hV).2 _ (mem_nth hi)
      refine s_skip ?_
      refine s_seq ?_
      refine s_region ?_
      first | refine o_q (q_loadn rfl rfl sz_26 (by repeat (first | exact .here | apply Pick.there)) rfl) rfl ?_ | refine o_q (q_load_atn _ rfl rfl sz_26 fun w h => (h.rd_blk (Mc := []) (b := ga) (by repeat (first | exact .here | apply Pick.there)) (by rw [flat_get fv4 _ i 3 _ (nth_get hiN) (by decide)]; rfl) (by simp))) rfl ?_ | refine o_q (q_load_atn _ rfl rfl sz_26 fun w h => (h.rd_blk (Mc := []) (b := go) (by repeat (first | exact .here | apply Pick.there)) (by rw [flat_get ov5 _ k 4 _ (nth_get hkN) (by decide)]; rfl) (by simp))) rfl ?_ | refine o_q (q_load_atn _ rfl rfl sz_26 fun w h => by have h9 := Rw.rdj (HS.kt (a := (nth (nth N i).op k).la) (cap := (nth (nth N i).op k).lc) (l := (nth (nth N i).op k).lk) h (by repeat (first | exact .here | apply Pick.there))) 0 hnl rfl; rw [hla] at h9; exact h9) rfl ?_ | refine o_q (q_load_atn _ rfl rfl sz_26 fun w h => by have h9 := Rw.rdj (HS.kt (a := (nth (nth N i).op k).la) (cap := (nth (nth N i).op k).lc) (l := (nth (nth N i).op k).lk) h (by repeat (first | exact .here | apply Pick.there))) 1 hnl rfl; rw [hla] at h9; exact h9) rfl ?_
      refine o_p (p_pure rfl) rfl ?_
      refine o_q (q_call rfl fn_70 rfl (fun w1 h1 => c70 w1 next a cap L h (hs.later h1) hm hmo)) rfl ?_
      rw [hfd]
      refine o_p (p_pure rfl) rfl ?_
      refine o_p (p_pure rfl) rfl ?_
      refine o_p (p_pure rfl) rfl ?_
      refine o_p (p_pure rfl) rfl ?_
      refine o_p (p_pure rfl) rfl ?_
      refine o_nil ?_
      refine s_seq ?_
      refine s_region ?_
      first | refine o_q (q_loadn rfl rfl sz_26 (by repeat (first | exact .here | apply Pick.there)) rfl) rfl ?_ | refine o_q (q_load_atn _ rfl rfl sz_26 fun w h => (h.rd_blk (Mc := []) (b := ga) (by repeat (first | exact .here | apply Pick.there)) (by rw [flat_get fv4 _ i 3 _ (nth_get hiN) (by decide)]; rfl) (by simp))) rfl ?_ | refine o_q (q_load_atn _ rfl rfl sz_26 fun w h => (h.rd_blk (Mc := []) (b := go) (by repeat (first | exact .here | apply Pick.there)) (by rw [flat_get ov5 _ k 4 _ (nth_get hkN) (by decide)]; rfl) (by simp))) rfl ?_ | refine o_q (q_load_atn _ rfl rfl sz_26 fun w h => by have h9 := Rw.rdj (HS.kt (a := (nth (nth N i).op k).la) (cap := (nth (nth N i).op k).lc) (l := (nth (nth N i).op k).lk) h (by repeat (first | exact .here | apply Pick.there))) 0 hnl rfl; rw [hla] at h9; exact h9) rfl ?_ | refine o_q (q_load_atn _ rfl rfl sz_26 fun w h => by have h9 := Rw.rdj (HS.kt (a := (nth (nth N i).op k).la) (cap := (nth (nth N i).op k).lc) (l := (nth (nth N i).op k).lk) h (by repeat (first | exact .here | apply Pick.there))) 1 hnl rfl; rw [hla] at h9; exact h9) rfl ?_
      refine o_h (h_call rfl fn_19 rfl (fun w1 h1 => c19 w1 next a cap L (hs.later h1) hm hmo hml)) rfl (fun ⟨⟨ca, cc⟩, N⟩ hgc => ?_)
      dsimp only at hgc ⊢
      obtain ⟨hiN, hpN⟩ := same_nth hgc hi
      obtain ⟨hkN, hoN, hqN⟩ := same_op hpN hk
      have hlN : (nth (nth N i).op k).lk = (nth (nth L i).op k).lk := congrArg Opn.lk hqN
      have hlk16 : (nth (nth N i).op k).lk.length ≤ 16 := by rw [hlN]; exact hV3.2.2
      refine o_h (h_alloc rfl zr_26) rfl (fun b5 _ => ?_)
      refine o_fact (fun w h => files_addr (l := N) (a := ca) (cap := cc) (by omega) h (by repeat (first | exact .here | apply Pick.there))) (fun hga => ?_)
      obtain ⟨ga, rfl, hcap, hcm⟩ := hga
      refine o_fact (fun w h => file_addr (l := N) (i := i) hiN (by omega) h (by repeat (first | exact .here | apply Pick.there))) (fun hgo => ?_)
      obtain ⟨go, hoa, hoc, hom⟩ := hgo
      refine o_class (fun w h => HS.lock_at hiN hkN hoa h (by repeat (first | exact .here | apply Pick.there))) ?_
      refine o_h0 (h_store rfl rfl rfl sz_26 rfl (by repeat (first | exact .here | apply Put.there)) (by simp only [setMany_length, List.length_set, List.length_cons, List.length_nil, List.length_map]; omega) rfl) (fun _ _ => ?_)
      refine o_nil ?_
      refine s_seq ?_
      refine s_weaken (L' := [(2, _), (3, _), (8, _), (9, _), (12, _), (13, _), (14, _)]) (by repeat (first | exact sl_n | refine sl_c rfl ?_)) (fun _ h => h) ?_
      refine s_region ?_
      refine o_p (p_fieldAddr rfl rfl fd_26_1 sz_24 rfl) rfl ?_
      first | refine o_q (q_load rfl rfl sz_24 (by repeat (first | exact .here | apply Pick.there)) rfl) rfl ?_ | refine o_q (q_load_at rfl rfl sz_24 (fun w h => (h.rd_blk (Mc := []) (b := ga) (by repeat (first | exact .here | apply Pick.there)) (by rw [flat_get fv4 _ i 3 _ (nth_get hiN) (by decide)]; rfl) (by simp)))) rfl ?_ | refine o_q (q_load_at rfl rfl sz_24 (fun w h => (h.rd_blk (Mc := []) (b := go) (by repeat (first | exact .here | apply Pick.there)) (by rw [flat_get ov5 _ k 4 _ (nth_get hkN) (by decide)]; rfl) (by simp)))) rfl ?_ | refine o_q (q_load_at rfl rfl sz_24 (fun w h => by have h9 := Rw.rdj (HS.kt (a := (nth (nth N i).op k).la) (cap := (nth (nth N i).op k).lc) (l := (nth (nth N i).op k).lk) h (by repeat (first | exact .here | apply Pick.there))) 0 hnl rfl; rw [hla] at h9; exact h9)) rfl ?_ | refine o_q (q_load_at rfl rfl sz_24 (fun w h => by have h9 := Rw.rdj (HS.kt (a := (nth (nth N i).op k).la) (cap := (nth (nth N i).op k).lc) (l := (nth (nth N i).op k).lk) h (by repeat (first | exact .here | apply Pick.there))) 1 hnl rfl; rw [hla] at h9; exact h9)) rfl ?_
      refine o_p (p_pure rfl) rfl ?_
      first | refine o_p (p_indexAddr rfl rfl rfl sl_24 (i) (by omega) (by omega) rfl) rfl ?_ | refine o_p (p_indexAddr rfl rfl rfl sl_24 (i) (by omega) (by omega) hoa) rfl ?_ | refine o_p (p_indexAddr rfl rfl rfl sl_24 (i) (by omega) (by omega) hla) rfl ?_
      refine o_slot (show _ = Value.pointer (some ⟨ga, i * 4, none⟩) from by rw [Nat.zero_add]) ?_
      refine o_p (p_fieldAddr rfl rfl fd_77_2 sz_75 rfl) rfl ?_
      first | refine o_q (q_load rfl rfl sz_75 (by repeat (first | exact .here | apply Pick.there)) rfl) rfl ?_ | refine o_q (q_load_at rfl rfl sz_75 (fun w h => (h.rd_blk (Mc := []) (b := ga) (by repeat (first | exact .here | apply Pick.there)) (by rw [flat_get fv4 _ i 3 _ (nth_get hiN) (by decide)]; rfl) (by simp)))) rfl ?_ | refine o_q (q_load_at rfl rfl sz_75 (fun w h => (h.rd_blk (Mc := []) (b := go) (by repeat (first | exact .here | apply Pick.there)) (by rw [flat_get ov5 _ k 4 _ (nth_get hkN) (by decide)]; rfl) (by simp)))) rfl ?_ | refine o_q (q_load_at rfl rfl sz_75 (fun w h => by have h9 := Rw.rdj (HS.kt (a := (nth (nth N i).op k).la) (cap := (nth (nth N i).op k).lc) (l := (nth (nth N i).op k).lk) h (by repeat (first | exact .here | apply Pick.there))) 0 hnl rfl; rw [hla] at h9; exact h9)) rfl ?_ | refine o_q (q_load_at rfl rfl sz_75 (fun w h => by have h9 := Rw.rdj (HS.kt (a := (nth (nth N i).op k).la) (cap := (nth (nth N i).op k).lc) (l := (nth (nth N i).op k).lk) h (by repeat (first | exact .here | apply Pick.there))) 1 hnl rfl; rw [hla] at h9; exact h9)) rfl ?_
      refine o_p (p_pure rfl) rfl ?_
      first | refine o_p (p_indexAddr rfl rfl rfl sl_75 (k) (by omega) (by omega) rfl) rfl ?_ | refine o_p (p_indexAddr rfl rfl rfl sl_75 (k) (by omega) (by omega) hoa) rfl ?_ | refine o_p (p_indexAddr rfl rfl rfl sl_75 (k) (by omega) (by omega) hla) rfl ?_
      refine o_slot (show _ = Value.pointer (some ⟨go, k * 5, none⟩) from by rw [Nat.zero_add]) ?_
      refine o_p (p_fieldAddr rfl rfl fd_48_4 sz_46 rfl) rfl ?_
      first | refine o_q (q_load rfl rfl sz_46 (by repeat (first | exact .here | apply Pick.there)) rfl) rfl ?_ | refine o_q (q_load_at rfl rfl sz_46 (fun w h => (h.rd_blk (Mc := []) (b := ga) (by repeat (first | exact .here | apply Pick.there)) (by rw [flat_get fv4 _ i 3 _ (nth_get hiN) (by decide)]; rfl) (by simp)))) rfl ?_ | refine o_q (q_load_at rfl rfl sz_46 (fun w h => (h.rd_blk (Mc := []) (b := go) (by repeat (first | exact .here | apply Pick.there)) (by rw [flat_get ov5 _ k 4 _ (nth_get hkN) (by decide)]; rfl) (by simp)))) rfl ?_ | refine o_q (q_load_at rfl rfl sz_46 (fun w h => by have h9 := Rw.rdj (HS.kt (a := (nth (nth N i).op k).la) (cap := (nth (nth N i).op k).lc) (l := (nth (nth N i).op k).lk) h (by repeat (first | exact .here | apply Pick.there))) 0 hnl rfl; rw [hla] at h9; exact h9)) rfl ?_ | refine o_q (q_load_at rfl rfl sz_46 (fun w h => by have h9 := Rw.rdj (HS.kt (a := (nth (nth N i).op k).la) (cap := (nth (nth N i).op k).lc) (l := (nth (nth N i).op k).lk) h (by repeat (first | exact .here | apply Pick.there))) 1 hnl rfl; rw [hla] at h9; exact h9)) rfl ?_
      refine o_p (p_pure rfl) rfl ?_
      refine o_nil ?_
      refine s_seq ?_
      refine s_seq ?_
      refine s_region ?_
      refine o_p (p_pure rfl) rfl ?_
      refine o_nil ?_
      refine s_block ?_
      refine s_weaken (L' := [(2, _), (3, _), (8, _), (9, _), (12, _), (13, _), (14, _), (15, _), (16, _)]) (by repeat (first | exact sl_n | refine sl_c rfl ?_)) (fun _ h => h) ?_
      refine s_loopI (α := Nat) [9, 16, 49, 50, 51, 52, 53, 54, 55, 56, 57, 58, 59, 60, 61, 62, 63, 64, 65, 66, 67, 68, 69, 70, 71, 72, 73, 74, 75, 76, 77, 78, 79, 80, 81, 82, 83, 84, 85, 86, 87, 88, 89, 90] (fun n => [(16, .int .i64 (n : Int))]) (fun _ => HS w [] [.blk go 48 ((nth N i).oc * 5) ((nth N i).op.flatMap LOpn.vals), .locks (nth (nth N i).op k).la (nth (nth N i).op k).lc (nth (nth N i).op k).lk, .star ((others (nth N i).op k).map subO), .blk ga 77 (cc * 4) (N.flatMap LFil.vals), .star ((others N i).map subF), .blk b5 26 2 [.int .i64 next, .slice (some ⟨ga, 0, none⟩) N.length cc], .blk b1 26 2 [.int .i64 next, .slice a L.length cap], .blk b2 26 2 [.int .i64 0, .slice none 0 0]]) (fun n => n ≤ (nth (nth N i).op k).lk.length ∧ ∀ m, m < n → eqK fr cnt (nth (nth (nth N i).op k).lk m) = false) (fun n => (nth (nth N i).op k).lk.length - n) 0 ⟨Nat.zero_le _, fun m p => absurd p (Nat.not_lt_zero m)⟩ (by repeat (first | exact sl_n | refine sl_c rfl ?_)) (fun w h => h.ent (by repeat (first | exact .nil | refine .cons (by repeat (first | exact .here | apply Pick.there)) ?_))) (fun n hn => ?_)
      obtain ⟨hn1, hn2⟩ := hn
      refine s_seq ?_
      refine s_seq ?_
      refine s_region ?_
      refine o_p (p_pure rfl) rfl ?_
      refine o_p (p_pure rfl) rfl ?_
      first | refine o_p (p_len_slice rfl rfl Try.underlying46) rfl ?_ | refine o_q (q_len_own rfl rfl Try.underlying46 (by repeat (first | exact .here | apply Pick.there))) rfl ?_
      refine o_p (p_pure rfl) rfl ?_
      refine o_nil ?_
      refine s_cond rfl (fun h6 => ?_) (fun h6 => ?_)
      · try simp only [decide_eq_true_eq, decide_eq_false_iff_not, Bool.not_eq_true', Bool.not_eq_false', Bool.and_eq_true, Bool.or_eq_true, Bool.and_eq_false_iff, Bool.or_eq_false_iff, Bool.not_true, Bool.not_false] at h6
        have hnl : n < (nth (nth N i).op k).lk.length := by omega
        refine s_fact (fun w h => own_addr (a := (nth (nth N i).op k).la) (cap := (nth (nth N i).op k).lc) (xs := (nth (nth N i).op k).lk.flatMap Lock.vals) (sz := 3) (t := 62) (n := (nth (nth N i).op k).lk.length) (by omega) h (by repeat (first | exact .here | apply Pick.there))) (fun hla => ?_)
        obtain ⟨gl, hla, hlc, hlm⟩ := hla
        refine s_skip ?_
        refine s_seq ?_
        refine s_block ?_
        refine s_seq ?_
        refine s_region ?_
        refine o_p (p_pure rfl) rfl ?_
        refine o_p (p_pure rfl) rfl ?_
        first | refine o_p (p_indexAddr rfl rfl rfl sl_46 (n) (by omega) (by omega) rfl) rfl ?_ | refine o_p (p_indexAddr rfl rfl rfl sl_46 (n) (by omega) (by omega) hoa) rfl ?_ | refine o_p (p_indexAddr rfl rfl rfl sl_46 (n) (by omega) (by omega) hla) rfl ?_
        refine o_p (p_fieldAddr rfl rfl fd_62_0 sz_3 rfl) rfl ?_
        first | refine o_q (q_load rfl rfl sz_3 (by repeat (first | exact .here | apply Pick.there)) rfl) rfl ?_ | refine o_q (q_load_at rfl rfl sz_3 (fun w h => (h.rd_blk (Mc := []) (b := ga) (by repeat (first | exact .here | apply Pick.there)) (by rw [flat_get fv4 _ i 3 _ (nth_get hiN) (by decide)]; rfl) (by simp)))) rfl ?_ | refine o_q (q_load_at rfl rfl sz_3 (fun w h => (h.rd_blk (Mc := []) (b := go) (by repeat (first | exact .here | apply Pick.there)) (by rw [flat_get ov5 _ k 4 _ (nth_get hkN) (by decide)]; rfl) (by simp)))) rfl ?_ | refine o_q (q_load_at rfl rfl sz_3 (fun w h => by have h9 := Rw.rdj (HS.kt (a := (nth (nth N i).op k).la) (cap := (nth (nth N i).op k).lc) (l := (nth (nth N i).op k).lk) h (by repeat (first | exact .here | apply Pick.there))) 0 hnl rfl; rw [hla] at h9; exact h9)) rfl ?_ | refine o_q (q_load_at rfl rfl sz_3 (fun w h => by have h9 := Rw.rdj (HS.kt (a := (nth (nth N i).op k).la) (cap := (nth (nth N i).op k).lc) (l := (nth (nth N i).op k).lk) h (by repeat (first | exact .here | apply Pick.there))) 1 hnl rfl; rw [hla] at h9; exact h9)) rfl ?_
        refine o_p (p_pure rfl) rfl ?_
        refine o_p (p_pure rfl) rfl ?_
        refine o_p (p_pure rfl) rfl ?_
        refine o_and 8 62 70 _ _ rfl
          (by
            intro hg7
            have hs8 := hg7; try simp only [decide_eq_true_eq, decide_eq_false_iff_not, Bool.not_eq_true', Bool.not_eq_false', Bool.and_eq_true, Bool.or_eq_true, Bool.and_eq_false_iff, Bool.or_eq_false_iff, Bool.not_true, Bool.not_false] at hs8
            refine o_on 62 _ rfl rfl hg7 ?_
            refine o_p (p_pure rfl) rfl ?_
            refine o_on 62 _ rfl rfl hg7 ?_
            refine o_p (p_pure rfl) rfl ?_
            refine o_on 62 _ rfl rfl hg7 ?_
            first | refine o_p (p_indexAddr rfl rfl rfl sl_46 (n) (by omega) (by omega) rfl) rfl ?_ | refine o_p (p_indexAddr rfl rfl rfl sl_46 (n) (by omega) (by omega) hoa) rfl ?_ | refine o_p (p_indexAddr rfl rfl rfl sl_46 (n) (by omega) (by omega) hla) rfl ?_
            refine o_on 62 _ rfl rfl hg7 ?_
            refine o_p (p_fieldAddr rfl rfl fd_62_1 sz_3 rfl) rfl ?_
            refine o_on 62 _ rfl rfl hg7 ?_
            first | refine o_q (q_load rfl rfl sz_3 (by repeat (first | exact .here | apply Pick.there)) rfl) rfl ?_ | refine o_q (q_load_at rfl rfl sz_3 (fun w h => (h.rd_blk (Mc := []) (b := ga) (by repeat (first | exact .here | apply Pick.there)) (by rw [flat_get fv4 _ i 3 _ (nth_get hiN) (by decide)]; rfl) (by simp)))) rfl ?_ | refine o_q (q_load_at rfl rfl sz_3 (fun w h => (h.rd_blk (Mc := []) (b := go) (by repeat (first | exact .here | apply Pick.there)) (by rw [flat_get ov5 _ k 4 _ (nth_get hkN) (by decide)]; rfl) (by simp)))) rfl ?_ | refine o_q (q_load_at rfl rfl sz_3 (fun w h => by have h9 := Rw.rdj (HS.kt (a := (nth (nth N i).op k).la) (cap := (nth (nth N i).op k).lc) (l := (nth (nth N i).op k).lk) h (by repeat (first | exact .here | apply Pick.there))) 0 hnl rfl; rw [hla] at h9; exact h9)) rfl ?_ | refine o_q (q_load_at rfl rfl sz_3 (fun w h => by have h9 := Rw.rdj (HS.kt (a := (nth (nth N i).op k).la) (cap := (nth (nth N i).op k).lc) (l := (nth (nth N i).op k).lk) h (by repeat (first | exact .here | apply Pick.there))) 1 hnl rfl; rw [hla] at h9; exact h9)) rfl ?_
            refine o_on 62 _ rfl rfl hg7 ?_
            refine o_p (p_pure rfl) rfl ?_
            refine o_on 62 _ rfl rfl hg7 ?_
            refine o_p (p_pure rfl) rfl ?_
            refine o_p (p_pickt rfl rfl hg7 rfl) rfl ?_
            refine o_nil ?_
            exact s_joinN 8 70 _ rfl rfl rfl (fun w h => by first | exact h | exact h.ent (by repeat (first | exact .nil | refine .cons (by repeat (first | exact .here | apply Pick.there)) ?_))))
          (by
            intro hg9
            have hs10 := hg9; try simp only [decide_eq_true_eq, decide_eq_false_iff_not, Bool.not_eq_true', Bool.not_eq_false', Bool.and_eq_true, Bool.or_eq_true, Bool.and_eq_false_iff, Bool.or_eq_false_iff, Bool.not_true, Bool.not_false] at hs10
            refine o_off 62 _ rfl rfl hg9 rfl ?_
            refine o_off 62 _ rfl rfl hg9 rfl ?_
            refine o_off 62 _ rfl rfl hg9 rfl ?_
            refine o_off 62 _ rfl rfl hg9 rfl ?_
            refine o_off 62 _ rfl rfl hg9 rfl ?_
            refine o_off 62 _ rfl rfl hg9 rfl ?_
            refine o_off 62 _ rfl rfl hg9 rfl ?_
            refine o_p (p_pickf rfl rfl hg9 rfl) rfl ?_
            refine o_nil ?_
            exact s_joinN 8 70 _ rfl rfl rfl (fun w h => by first | exact h | exact h.ent (by repeat (first | exact .nil | refine .cons (by repeat (first | exact .here | apply Pick.there)) ?_)))) ?_
        refine o_nil ?_
        refine s_cond rfl (fun h11 => ?_) (fun h11 => ?_)
        · try simp only [decide_eq_true_eq, decide_eq_false_iff_not, Bool.not_eq_true', Bool.not_eq_false', Bool.and_eq_true, Bool.or_eq_true, Bool.and_eq_false_iff, Bool.or_eq_false_iff, Bool.not_true, Bool.not_false] at h11
          have heq : eqK fr cnt (nth (nth (nth N i).op k).lk n) = true := by have hq := h11; unfold eqK; simp at hq ⊢; exact hq
          have hixN := ix_eq hnl hn2 heq
          have hix := hixN
          rw [hlN] at hix
          have hut := unlockT_2 hi hk hfe hrg hix (by rw [← hlN]; exact hnl)
          refine s_class (fun w h => lk_blk (a := (nth (nth N i).op k).la) (cap := (nth (nth N i).op k).lc) (l := (nth (nth N i).op k).lk) hla (by omega) h (by repeat (first | exact .here | apply Pick.there))) ?_
          refine s_seq ?_
          refine s_drawB [.blk go 48 ((nth N i).oc * 5) ((nth N i).op.flatMap LOpn.vals), .blk gl 62 ((nth (nth N i).op k).lc * 3) ((nth (nth N i).op k).lk.flatMap Lock.vals), .star ((others (nth N i).op k).map subO), .blk ga 77 (cc * 4) (N.flatMap LFil.vals), .star ((others N i).map subF), .blk b5 26 2 [.int .i64 next, .slice (some ⟨ga, 0, none⟩) N.length cc], .blk b1 26 2 [.int .i64 next, .slice a L.length cap], .blk b2 26 2 [.int .i64 0, .slice none 0 0]] [19] mixed ?_
          refine d_p 0 rfl (p_fieldAddr rfl rfl fd_26_1 sz_24 rfl) (by kernel_rfl) rfl rfl ?_
          first | refine d_q 1 [[]] rfl (q_load rfl rfl sz_24 (by repeat (first | exact .here | apply Pick.there)) rfl) (by kernel_rfl) (by kernel_rfl) (by kernel_rfl) rfl ?_ | refine d_q 1 [[]] rfl (q_load_at rfl rfl sz_24 (fun w h => (h.rd_blk (Mc := []) (b := ga) (by repeat (first | exact .here | apply Pick.there)) (by rw [flat_get fv4 _ i 3 _ (nth_get hiN) (by decide)]; rfl) (by simp)))) (by kernel_rfl) (by kernel_rfl) (by kernel_rfl) rfl ?_ | refine d_q 1 [[]] rfl (q_load_at rfl rfl sz_24 (fun w h => (h.rd_blk (Mc := []) (b := go) (by repeat (first | exact .here | apply Pick.there)) (by rw [flat_get ov5 _ k 4 _ (nth_get hkN) (by decide)]; rfl) (by simp)))) (by kernel_rfl) (by kernel_rfl) (by kernel_rfl) rfl ?_ | refine d_q 1 [[]] rfl (q_load_at rfl rfl sz_24 (fun w h => by have h9 := Rw.rdj (HS.kt (a := (nth (nth N i).op k).la) (cap := (nth (nth N i).op k).lc) (l := (nth (nth N i).op k).lk) h (by repeat (first | exact .here | apply Pick.there))) 0 hnl rfl; rw [hla] at h9; exact h9)) (by kernel_rfl) (by kernel_rfl) (by kernel_rfl) rfl ?_ | refine d_q 1 [[]] rfl (q_load_at rfl rfl sz_24 (fun w h => by have h9 := Rw.rdj (HS.kt (a := (nth (nth N i).op k).la) (cap := (nth (nth N i).op k).lc) (l := (nth (nth N i).op k).lk) h (by repeat (first | exact .here | apply Pick.there))) 1 hnl rfl; rw [hla] at h9; exact h9)) (by kernel_rfl) (by kernel_rfl) (by kernel_rfl) rfl ?_
          refine d_p 2 rfl (p_pure rfl) (by kernel_rfl) rfl rfl ?_
          first | refine d_p 3 rfl (p_indexAddr rfl rfl rfl sl_24 (i) (by omega) (by omega) rfl) (by kernel_rfl) rfl rfl ?_ | refine d_p 3 rfl (p_indexAddr rfl rfl rfl sl_24 (i) (by omega) (by omega) hoa) (by kernel_rfl) rfl rfl ?_ | refine d_p 3 rfl (p_indexAddr rfl rfl rfl sl_24 (i) (by omega) (by omega) hla) (by kernel_rfl) rfl rfl ?_
          refine d_slot (show _ = Value.pointer (some ⟨ga, i * 4, none⟩) from by rw [Nat.zero_add]) ?_
          refine d_p 4 rfl (p_fieldAddr rfl rfl fd_77_2 sz_75 rfl) (by kernel_rfl) rfl rfl ?_
          first | refine d_q 5 [[]] rfl (q_load rfl rfl sz_75 (by repeat (first | exact .here | apply Pick.there)) rfl) (by kernel_rfl) (by kernel_rfl) (by kernel_rfl) rfl ?_ | refine d_q 5 [[]] rfl (q_load_at rfl rfl sz_75 (fun w h => (h.rd_blk (Mc := []) (b := ga) (by repeat (first | exact .here | apply Pick.there)) (by rw [flat_get fv4 _ i 3 _ (nth_get hiN) (by decide)]; rfl) (by simp)))) (by kernel_rfl) (by kernel_rfl) (by kernel_rfl) rfl ?_ | refine d_q 5 [[]] rfl (q_load_at rfl rfl sz_75 (fun w h => (h.rd_blk (Mc := []) (b := go) (by repeat (first | exact .here | apply Pick.there)) (by rw [flat_get ov5 _ k 4 _ (nth_get hkN) (by decide)]; rfl) (by simp)))) (by kernel_rfl) (by kernel_rfl) (by kernel_rfl) rfl ?_ | refine d_q 5 [[]] rfl (q_load_at rfl rfl sz_75 (fun w h => by have h9 := Rw.rdj (HS.kt (a := (nth (nth N i).op k).la) (cap := (nth (nth N i).op k).lc) (l := (nth (nth N i).op k).lk) h (by repeat (first | exact .here | apply Pick.there))) 0 hnl rfl; rw [hla] at h9; exact h9)) (by kernel_rfl) (by kernel_rfl) (by kernel_rfl) rfl ?_ | refine d_q 5 [[]] rfl (q_load_at rfl rfl sz_75 (fun w h => by have h9 := Rw.rdj (HS.kt (a := (nth (nth N i).op k).la) (cap := (nth (nth N i).op k).lc) (l := (nth (nth N i).op k).lk) h (by repeat (first | exact .here | apply Pick.there))) 1 hnl rfl; rw [hla] at h9; exact h9)) (by kernel_rfl) (by kernel_rfl) (by kernel_rfl) rfl ?_
          refine d_p 6 rfl (p_pure rfl) (by kernel_rfl) rfl rfl ?_
          refine d_p 8 rfl (p_pure rfl) (by kernel_rfl) rfl rfl ?_
          refine d_p 9 rfl (p_pure rfl) (by kernel_rfl) rfl rfl ?_
          refine d_p 10 rfl (p_slice _ _ 0 n rfl rfl sl_46 rfl ⟨_, _, rfl, rfl⟩ (by omega) (by omega)) (by kernel_rfl) rfl rfl ?_
          refine d_slot (show _ = Value.slice (some ⟨gl, 0, none⟩) n (nth (nth N i).op k).lc from by rw [hla, subA_zero]; rfl) ?_
          refine d_p 12 rfl (p_pure rfl) (by kernel_rfl) rfl rfl ?_
          refine d_p 13 rfl (p_pure rfl) (by kernel_rfl) rfl rfl ?_
          refine d_p 14 rfl (p_pure rfl) (by kernel_rfl) rfl rfl ?_
          try (refine d_slot (i64w (by omega) (by omega)) ?_)
          refine d_p 15 rfl (p_slice _ _ (n + 1) (nth (nth N i).op k).lk.length rfl rfl sl_46 ⟨_, _, rfl, (by omega)⟩ rfl (by omega) (by omega)) (by kernel_rfl) rfl rfl ?_
          refine d_h 7 rfl (h_buildSlice0 rfl sl_46) (by kernel_rfl) (fun w h => h.ent (by repeat (first | exact .nil | refine .cons (by repeat (first | exact .here | apply Pick.there)) ?_))) rfl (fun b12 _ => ?_)
          refine d_h 11 rfl (h_appendS (n := 0) (cut ((nth (nth N i).op k).lk.flatMap Lock.vals) (0) (n * 3)) rfl rfl rfl sl_46 Try.underlying46 zr_62 rfl (by repeat (first | exact .here | apply Pick.there)) (src_cut (b := gl) (0) (n * 3) (fun hk9 => rfl) (by repeat (first | exact .here | apply Pick.there))) (cut_length _ _ _ (by rw [flat_length lv3]; omega)) (cut_one (flat_one lv1 _) _ _) (by omega) (by simp only [maxLen]; omega)) (by kernel_rfl) (fun w h => h.ent (by repeat (first | exact .nil | refine .cons (by repeat (first | exact .here | apply Pick.there)) ?_))) rfl (fun b13 _ => ?_)
          simp only [Nat.zero_add, List.nil_append]
          refine d_h 16 rfl (h_appendS (n := n) (cut ((nth (nth N i).op k).lk.flatMap Lock.vals) ((n + 1) * 3) (((nth (nth N i).op k).lk.length - (n + 1)) * 3)) rfl rfl rfl sl_46 Try.underlying46 zr_62 rfl (by repeat (first | exact .here | apply Pick.there)) (src_cut (b := gl) ((n + 1) * 3) (((nth (nth N i).op k).lk.length - (n + 1)) * 3) (fun hk9 => by rw [hla]; exact subA_lt (by omega)) (by repeat (first | exact .here | apply Pick.there))) (cut_length _ _ _ (by rw [flat_length lv3]; omega)) (cut_one (flat_one lv1 _) _ _) (by omega) (by simp only [maxLen]; omega)) (by kernel_rfl) (fun w h => h.ent (by repeat (first | exact .nil | refine .cons (by repeat (first | exact .here | apply Pick.there)) ?_))) rfl (fun b14 _ => ?_)
          first | refine d_p 17 rfl (p_indexAddr rfl rfl rfl sl_75 (k) (by omega) (by omega) rfl) (by kernel_rfl) rfl rfl ?_ | refine d_p 17 rfl (p_indexAddr rfl rfl rfl sl_75 (k) (by omega) (by omega) hoa) (by kernel_rfl) rfl rfl ?_ | refine d_p 17 rfl (p_indexAddr rfl rfl rfl sl_75 (k) (by omega) (by omega) hla) (by kernel_rfl) rfl rfl ?_
          refine d_slot (show _ = Value.pointer (some ⟨go, k * 5, none⟩) from by rw [Nat.zero_add]) ?_
          refine d_p 18 rfl (p_fieldAddr rfl rfl fd_48_4 sz_46 rfl) (by kernel_rfl) rfl rfl ?_
          refine d_h0 19 rfl (h_store rfl rfl rfl sz_46 rfl (by repeat (first | exact .here | apply Put.there)) (by rw [flat_length ov5]; omega) rfl) (by kernel_rfl) (fun w h => h.ent (by repeat (first | exact .nil | refine .cons (by repeat (first | exact .here | apply Pick.there)) ?_))) (fun _ _ => ?_)
          refine d_turn [] (by kernel_rfl) ?_
          refine d_nil (by kernel_rfl) (fun w h => h.ent (by repeat (first | exact .nil | refine .cons (by repeat (first | exact .here | apply Pick.there)) ?_))) ?_
          refine s_seq ?_
          refine s_weaken (L' := [(2, _), (3, _), (8, _), (12, _), (13, _), (14, _), (15, _), (16, _)]) (by repeat (first | exact sl_n | refine sl_c rfl ?_)) (fun _ h => h) ?_
          refine s_region ?_
          first | refine o_q (q_loadn rfl rfl sz_26 (by repeat (first | exact .here | apply Pick.there)) rfl) rfl ?_ | refine o_q (q_load_atn _ rfl rfl sz_26 fun w h => (h.rd_blk (Mc := []) (b := ga) (by repeat (first | exact .here | apply Pick.there)) (by rw [flat_get fv4 _ i 3 _ (nth_get hiN) (by decide)]; rfl) (by simp))) rfl ?_ | refine o_q (q_load_atn _ rfl rfl sz_26 fun w h => (h.rd_blk (Mc := []) (b := go) (by repeat (first | exact .here | apply Pick.there)) (by rw [flat_get ov5 _ k 4 _ (nth_get hkN) (by decide)]; rfl) (by simp))) rfl ?_ | refine o_q (q_load_atn _ rfl rfl sz_26 fun w h => by have h9 := Rw.rdj (HS.kt (a := (nth (nth N i).op k).la) (cap := (nth (nth N i).op k).lc) (l := (nth (nth N i).op k).lk) h (by repeat (first | exact .here | apply Pick.there))) 0 hnl rfl; rw [hla] at h9; exact h9) rfl ?_ | refine o_q (q_load_atn _ rfl rfl sz_26 fun w h => by have h9 := Rw.rdj (HS.kt (a := (nth (nth N i).op k).la) (cap := (nth (nth N i).op k).lc) (l := (nth (nth N i).op k).lk) h (by repeat (first | exact .here | apply Pick.there))) 1 hnl rfl; rw [hla] at h9; exact h9) rfl ?_
          refine o_h0 (h_store rfl rfl rfl sz_26 rfl (by repeat (first | exact .here | apply Put.there)) (by simp only [setMany_length, List.length_set, List.length_cons, List.length_nil, List.length_map]; omega) rfl) (fun _ _ => ?_)
          refine o_p (p_pure rfl) rfl ?_
          refine o_nil ?_
          exact s_retv (rs := [.cell 8 26, .tmp 9]) rfl (.cell rfl sz_26 (by repeat (first | exact .here | apply Pick.there)) rfl (.tmp rfl (.nil))) (fun w' h' => by have hR := afT_0 (r := (unlockT (pls L) h fr cnt)) hz1 (by rw [hut]); obtain ⟨hc1, hc2⟩ := cut_others hnl; exact ⟨((some ⟨ga, 0, none⟩, cc), N.set i { nth N i with op := (nth N i).op.set k { (nth (nth N i).op k) with la := b14.1, lc := b14.2, lk := others (nth (nth N i).op k).lk n } }), by rw [hR, List.length_set]; rfl, by rw [hR, hut]; have h7 := upd_lk (o := { (nth (nth N i).op k) with la := b14.1, lc := b14.2, lk := others (nth (nth N i).op k).lk n }) (u := fun o => { o with lk := others o.lk (ixB (o.lk.map (eqK fr cnt))) }) hiN hkN (by simp only [LOpn.pl]; rw [hixN]); rw [hgc] at h7; exact h7, HS.lock_put (o := { (nth (nth N i).op k) with la := b14.1, lc := b14.2, lk := others (nth (nth N i).op k).lk n }) hiN hkN hoa ((locks_to (l := others (nth (nth N i).op k).lk n) h' (by repeat (first | exact .here | apply Pick.there)) hc1 hc2).ent (by repeat (first | exact .nil | refine .cons (by repeat (first | exact .here | apply Pick.there)) ?_))) (flat_set ov5 (nth N i).op k 4 [.slice b14.1 (n + ((nth (nth N i).op k).lk.length - (n + 1))) b14.2] (nth (nth N i).op k) _ (nth_get hkN) (by simp [LOpn.vals, setMany, hc1]) (by simp)) hoc hom hcap hcm⟩)
        · try simp only [decide_eq_true_eq, decide_eq_false_iff_not, Bool.not_eq_true', Bool.not_eq_false', Bool.and_eq_true, Bool.or_eq_true, Bool.and_eq_false_iff, Bool.or_eq_false_iff, Bool.not_true, Bool.not_false] at h11
          have hne : eqK fr cnt (nth (nth (nth N i).op k).lk n) = false := by have hq := h11; unfold eqK; simp at hq ⊢; grind
          refine s_skip ?_
          refine s_blk ?_
          refine s_region ?_
          refine o_p (p_pure rfl) rfl ?_
          refine o_p (p_pure rfl) rfl ?_
          try (refine o_slot (i64w (by omega) (by omega)) ?_)
          refine o_p (p_pure rfl) rfl ?_
          refine o_nil ?_
          exact s_backI (n + 1) (by omega) ⟨by omega, fun m p => (Nat.lt_or_ge m n).elim (hn2 m) (fun h3 => by have e9 : m = n := (by omega); rw [e9]; exact hne)⟩ (by repeat (first | exact sl_n | refine sl_c rfl ?_)) (fun w h => h.ent (by repeat (first | exact .nil | refine .cons (by repeat (first | exact .here | apply Pick.there)) ?_)))
      · try simp only [decide_eq_true_eq, decide_eq_false_iff_not, Bool.not_eq_true', Bool.not_eq_false', Bool.and_eq_true, Bool.or_eq_true, Bool.and_eq_false_iff, Bool.or_eq_false_iff, Bool.not_true, Bool.not_false] at h6
        have hix := ix_no (l := (nth (nth N i).op k).lk) (fr := fr) (cnt := cnt) (fun m hm9 => hn2 m (by omega))
        rw [hlN] at hix
        have hut := unlockT_3 hi hk hfe hrg hix
        refine s_exit_to rfl ?_
        refine s_seq ?_
        refine s_region ?_
        refine o_p (p_build (cs := [_, _]) rfl rfl pl_26 zr_26 rfl) rfl ?_
        refine o_h0 (h_store rfl rfl rfl sz_26 rfl (by repeat (first | exact .here | apply Put.there)) (by simp only [setMany_length, List.length_set, List.length_cons, List.length_nil, List.length_map]; omega) rfl) (fun _ _ => ?_)
        refine o_p (p_pure rfl) rfl ?_
        refine o_nil ?_
        exact s_retv (rs := [.cell 8 26, .tmp 9]) rfl (.cell rfl sz_26 (by repeat (first | exact .here | apply Pick.there)) rfl (.tmp rfl (.nil))) (fun w' h' => by have hR := afT_e (r := (unlockT (pls L) h fr cnt)) hz1 (by rw [hut]; show ¬ (6 : Int) = 0; exact by decide); exact ⟨((none, 0), []), by rw [hR, hut]; rfl, by rw [hR, hut]; rfl, (HS.files_none h').ent (by repeat (first | exact .nil | refine .cons (by repeat (first | exact .here | apply Pick.there)) ?_))⟩)

end Go.Proofs

/- Proof steps that are alike everywhere, as defaults of arguments. Nothing of a program is named here. -/
namespace Gx
open Go Go.RowKit
theorem aPk {As As' : List HA} {A : HA} (h : Pick As A As' := by repeat (first | exact .here | apply Pick.there)) : Pick As A As' := h
theorem aPt {As As' : List HA} {A B : HA} (h : Put As A B As' := by repeat (first | exact .here | apply Put.there)) : Put As A B As' := h
theorem aEt {As Bs : List HA} (h : Ent As Bs := by repeat (first | exact .nil | refine .cons (by repeat (first | exact .here | apply Pick.there)) ?_)) : Ent As Bs := h
theorem aSx {L L' : Slots} (h : subL L L' := by repeat (first | exact sl_n | refine sl_c rfl ?_)) : subL L L' := h
end Gx

namespace Go.Proofs
open Go Go.RowKit Gx
set_option linter.unusedVariables false
set_option linter.unusedSimpArgs false
attribute [local irreducible] Go.Calls Gx.S Gx.O Gx.D Gx.OpP Gx.OpQ Gx.OpH

theorem fd_64_3 : tfd Try.prog 64 3 = some (10, 3) := by kernel_rfl
theorem fd_64_2 : tfd Try.prog 64 2 = some (7, 62) := by kernel_rfl
theorem fn_24 : isFn Try.prog 24 = true := by kernel_rfl
theorem fn_25 : isFn Try.prog 25 = true := by kernel_rfl
theorem fn_14 : isFn Try.prog 14 = true := by kernel_rfl
theorem fn_26 : isFn Try.prog 26 = true := by kernel_rfl
theorem fn_27 : isFn Try.prog 27 = true := by kernel_rfl
theorem fn_30 : isFn Try.prog 30 = true := by kernel_rfl


theorem afT_b {next : Int} {L : List Fil} {r : List Fil × Int} {G : List LFil} (hr : (chkT next L).2 = 0 → VW r.1) (hG : pls G = (afT next L r).1.1) : G.length ≤ 1000 ∧ (∀ f ∈ G, f.op.length ≤ 1000) ∧ ∀ f ∈ G, ∀ o ∈ f.op, o.lk.length ≤ 1000 := by
  have h0 : pls G = [] → G.length ≤ 1000 ∧ (∀ f ∈ G, f.op.length ≤ 1000) ∧ ∀ f ∈ G, ∀ o ∈ f.op, o.lk.length ≤ 1000 := fun h => by
    obtain rfl : G = [] := by simpa using h
    exact ⟨by simp, fun f hf => (by cases hf), fun f hf => (by cases hf)⟩
  unfold afT at hG
  split at hG
  · split at hG
    · rename_i h1 h2
      have h3 := hr h1
      rw [← show pls G = r.1 from hG] at h3
      exact vw_b h3
    · exact h0 hG
  · exact h0 hG

set_option maxRecDepth 20000 in
set_option maxHeartbeats 2000000 in
theorem c6 (w : World) (next : Int) (a : Option Addr) (cap : Nat) (L : List LFil) (rc sq : Int) (x : LOpn) (q : Lock) (hd : Int) (fl : Bool) (hs : Ft w [] a L) : Calls Try.prog 6 #[.agg #[.int .i64 next, .slice a L.length cap], .agg #[.int .i64 rc, .int .i64 sq, .int .i64 x.hd, .int .i64 x.ac, .int .i64 x.sh, .bool x.dl, .slice x.la x.lk.length x.lc, .int .i64 q.fr, .int .i64 q.cnt, .bool q.ex, .int .i64 hd, .bool fl]] w fun en w' => en = .returned (.bool true) ∧ Below w.heap.size w w' := by
  refine enter (args := [_, _]) Try.func6 Try.ntmps6 rfl rfl (HS.refl w []) ?_
  refine s_seq ?_
  refine s_region ?_
  refine o_h (h_box rfl rfl) rfl (fun b1 _ => ?_)
  refine o_h (h_box rfl rfl) rfl (fun b2 _ => ?_)
  refine o_p (p_pure rfl) rfl ?_
  refine o_nil ?_
  refine s_seq ?_
  refine s_seq ?_
  refine s_region ?_
  refine o_q (q_call rfl fn_11 rfl (fun w1 h1 => c11 w1)) rfl ?_
  refine o_p (p_pure rfl) rfl ?_
  refine o_nil ?_
  refine s_cond rfl (fun h3 => ?_) (fun h3 => ?_)
  · try simp only [decide_eq_true_eq, decide_eq_false_iff_not, Bool.not_eq_true', Bool.not_eq_false', Bool.and_eq_true, Bool.or_eq_true, Bool.and_eq_false_iff, Bool.or_eq_false_iff, Bool.not_true, Bool.not_false] at h3
    exfalso; first | omega | (simp at h3; done) | (simp_all; done)
  · try simp only [decide_eq_true_eq, decide_eq_false_iff_not, Bool.not_eq_true', Bool.not_eq_false', Bool.and_eq_true, Bool.or_eq_true, Bool.and_eq_false_iff, Bool.or_eq_false_iff, Bool.not_true, Bool.not_false] at h3
    refine s_skip ?_
    refine s_seq ?_
    refine s_seq ?_
    refine s_region ?_
    refine o_q (q_loadn rfl rfl sz_26 aPk rfl) rfl ?_
    refine o_q (q_call rfl fn_17 rfl (fun w1 h1 => c17 w1 next a cap L (hs.later h1))) rfl ?_
    refine o_p (p_pure rfl) rfl ?_
    refine o_nil ?_
    refine s_cond rfl (fun h4 => ?_) (fun h4 => ?_)
    · try simp only [decide_eq_true_eq, decide_eq_false_iff_not, Bool.not_eq_true', Bool.not_eq_false', Bool.and_eq_true, Bool.or_eq_true, Bool.and_eq_false_iff, Bool.or_eq_false_iff, Bool.not_true, Bool.not_false] at h4
      refine s_seq ?_
      refine s_region ?_
      refine o_p (p_pure rfl) rfl ?_
      refine o_nil ?_
      exact s_retv (rs := [.tmp 4]) rfl (.tmp rfl (.nil)) (fun w' h' => ⟨by rfl, h'.below⟩)
    · try simp only [decide_eq_true_eq, decide_eq_false_iff_not, Bool.not_eq_true', Bool.not_eq_false', Bool.and_eq_true, Bool.or_eq_true, Bool.and_eq_false_iff, Bool.or_eq_false_iff, Bool.not_true, Bool.not_false] at h4
      have hfw : fewT L = true := by have hq := h4; simpa using hq
      have hb := fewT_b hfw
      refine s_skip ?_
      refine s_seq ?_
      refine s_cutI (α := Nat × (Option Addr × Nat) × List LFil) [5, 6, 17, 18, 19, 20, 21, 22, 23, 24, 25, 26] (fun y => [(5, .pointer (some ⟨y.1, 0, none⟩)), (6, .int .i64 (afT next (pls L) (lockT (pls L) hd q)).2)]) (fun y => HS w [] [.blk y.1 26 2 [.int .i64 (afT next (pls L) (lockT (pls L) hd q)).1.2, .slice y.2.1.1 y.2.2.length y.2.1.2], .files y.2.1.1 y.2.1.2 y.2.2, .blk b1 26 2 [.int .i64 next, .slice a L.length cap], .blk b2 64 12 [.int .i64 rc, .int .i64 sq, .int .i64 x.hd, .int .i64 x.ac, .int .i64 x.sh, .bool x.dl, .slice x.la x.lk.length x.lc, .int .i64 q.fr, .int .i64 q.cnt, .bool q.ex, .int .i64 hd, .bool fl]]) (fun y => pls y.2.2 = (afT next (pls L) (lockT (pls L) hd q)).1.1) ?_ ?_
      · skip
        refine s_draw [11] mixed ?_
        refine d_q 0 [[]] rfl (q_loadn rfl rfl sz_26 aPk rfl) (by kernel_rfl) (by kernel_rfl) (by kernel_rfl) rfl ?_
        refine d_p 2 rfl (p_fieldAddr rfl rfl fd_64_3 sz_3 rfl) (by kernel_rfl) rfl rfl ?_
        refine d_q 3 [[]] rfl (q_load rfl rfl sz_3 aPk rfl) (by kernel_rfl) (by kernel_rfl) (by kernel_rfl) rfl ?_
        refine d_p 4 rfl (p_fieldAddr rfl rfl fd_64_2 sz_62 rfl) (by kernel_rfl) rfl rfl ?_
        refine d_q 5 [[]] rfl (q_loadn rfl rfl sz_62 aPk rfl) (by kernel_rfl) (by kernel_rfl) (by kernel_rfl) rfl ?_
        refine d_two 1 10 rfl rfl  (h_call rfl fn_19 rfl (fun w1 h1 => c19 w1 next a cap L (hs.later h1) hb.1 hb.2.1 hb.2.2)) (h_alloc rfl zr_26) (by kernel_rfl) (fun w h => h.ent aEt) rfl rfl  (fun ⟨⟨ca, cc⟩, N⟩ hgc => ?_) (fun b5 _ => ?_)
        · skip
          refine d_base (fun w h => h.ent aEt) ?_
          dsimp only at hgc ⊢
          have nb := same_b hgc hb
          refine d_two 6 10 rfl rfl  (h_call rfl fn_24 rfl (fun w1 h1 => c24 w1 next ca cc N hd q (HS.ft (a := ca) (cap := cc) (l := N) h1 aPk) nb.1 nb.2.1)) (h_alloc rfl zr_26) (by kernel_rfl) (fun w h => h.ent aEt) rfl rfl  (fun ⟨⟨ga, gc⟩, G⟩ hgL => ?_) (fun b6 _ => ?_)
          · skip
            refine d_base (fun w h => h.ent aEt) ?_
            dsimp only at hgL ⊢
            rw [hgc] at hgL ⊢
            refine d_p 7 rfl (p_pure rfl) (by kernel_rfl) rfl rfl ?_
            refine d_p 8 rfl (p_pure rfl) (by kernel_rfl) rfl rfl ?_
            refine d_p 9 rfl (p_pure rfl) (by kernel_rfl) rfl rfl ?_
            refine d_h 10 rfl (h_alloc rfl zr_26) (by kernel_rfl) (fun w h => h.ent aEt) rfl (fun b7 _ => ?_)
            refine d_base (fun w h => h.ent aEt) ?_
            refine d_h0 11 rfl (h_store rfl rfl rfl sz_26 rfl aPt (by simp only [setMany_length, List.length_set, List.length_cons, List.length_nil, List.length_map]; omega) rfl) (by kernel_rfl) (fun w h => h.ent aEt) (fun _ _ => ?_)
            refine d_turn [] (by kernel_rfl) ?_
            refine d_p 12 rfl (p_pure rfl) (by kernel_rfl) rfl rfl ?_
            refine d_nil (by kernel_rfl) (fun w h => h.ent aEt) ?_
            exact s_joinI (_, (ga, gc), G) hgL aSx (fun w h => h.ent aEt)
          · skip
            refine d_base (fun w h => h.ent aEt) ?_
            refine d_h 6 rfl (h_call rfl fn_24 rfl (fun w1 h1 => c24 w1 next ca cc N hd q (HS.ft (a := ca) (cap := cc) (l := N) h1 aPk) nb.1 nb.2.1)) (by kernel_rfl) (fun w h => h.ent aEt) rfl (fun ⟨⟨ga, gc⟩, G⟩ hgL => ?_)
            refine d_base (fun w h => h.ent aEt) ?_
            dsimp only at hgL ⊢
            rw [hgc] at hgL ⊢
            refine d_p 7 rfl (p_pure rfl) (by kernel_rfl) rfl rfl ?_
            refine d_p 8 rfl (p_pure rfl) (by kernel_rfl) rfl rfl ?_
            refine d_p 9 rfl (p_pure rfl) (by kernel_rfl) rfl rfl ?_
            refine d_h0 11 rfl (h_store rfl rfl rfl sz_26 rfl aPt (by simp only [setMany_length, List.length_set, List.length_cons, List.length_nil, List.length_map]; omega) rfl) (by kernel_rfl) (fun w h => h.ent aEt) (fun _ _ => ?_)
            refine d_turn [] (by kernel_rfl) ?_
            refine d_p 12 rfl (p_pure rfl) (by kernel_rfl) rfl rfl ?_
            refine d_nil (by kernel_rfl) (fun w h => h.ent aEt) ?_
            exact s_joinI (_, (ga, gc), G) hgL aSx (fun w h => h.ent aEt)
        · skip
          refine d_base (fun w h => h.ent aEt) ?_
          refine d_h 1 rfl (h_call rfl fn_19 rfl (fun w1 h1 => c19 w1 next a cap L (hs.later h1) hb.1 hb.2.1 hb.2.2)) (by kernel_rfl) (fun w h => h.ent aEt) rfl (fun ⟨⟨ca, cc⟩, N⟩ hgc => ?_)
          refine d_base (fun w h => h.ent aEt) ?_
          dsimp only at hgc ⊢
          have nb := same_b hgc hb
          refine d_h 6 rfl (h_call rfl fn_24 rfl (fun w1 h1 => c24 w1 next ca cc N hd q (HS.ft (a := ca) (cap := cc) (l := N) h1 aPk) nb.1 nb.2.1)) (by kernel_rfl) (fun w h => h.ent aEt) rfl (fun ⟨⟨ga, gc⟩, G⟩ hgL => ?_)
          refine d_base (fun w h => h.ent aEt) ?_
          dsimp only at hgL ⊢
          rw [hgc] at hgL ⊢
          refine d_p 7 rfl (p_pure rfl) (by kernel_rfl) rfl rfl ?_
          refine d_p 8 rfl (p_pure rfl) (by kernel_rfl) rfl rfl ?_
          refine d_p 9 rfl (p_pure rfl) (by kernel_rfl) rfl rfl ?_
          refine d_h0 11 rfl (h_store rfl rfl rfl sz_26 rfl aPt (by simp only [setMany_length, List.length_set, List.length_cons, List.length_nil, List.length_map]; omega) rfl) (by kernel_rfl) (fun w h => h.ent aEt) (fun _ _ => ?_)
          refine d_turn [] (by kernel_rfl) ?_
          refine d_p 12 rfl (p_pure rfl) (by kernel_rfl) rfl rfl ?_
          refine d_nil (by kernel_rfl) (fun w h => h.ent aEt) ?_
          exact s_joinI (_, (ga, gc), G) hgL aSx (fun w h => h.ent aEt)
      · intro ⟨p5, ⟨ga, gc⟩, G⟩ hG
        dsimp only at hG ⊢
        refine s_seq ?_
        refine s_region ?_
        refine o_q (q_loadn rfl rfl sz_26 aPk rfl) rfl ?_
        refine o_p (p_fieldAddr rfl rfl fd_64_3 sz_3 rfl) rfl ?_
        refine o_q (q_load rfl rfl sz_3 aPk rfl) rfl ?_
        refine o_p (p_fieldAddr rfl rfl fd_64_2 sz_62 rfl) rfl ?_
        refine o_q (q_loadn rfl rfl sz_62 aPk rfl) rfl ?_
        refine o_h (h_call rfl fn_25 rfl (fun w1 h1 => c25 w1 next a cap L hd q (hs.later h1) hb.1 hb.2.1 hb.2.2)) rfl (fun ⟨⟨ra, rc2⟩, RG⟩ hRG => ?_)
        dsimp only at hRG ⊢
        refine o_p (p_pure rfl) rfl ?_
        refine o_p (p_pure rfl) rfl ?_
        refine o_p (p_pure rfl) rfl ?_
        refine o_h (h_alloc rfl zr_26) rfl (fun b8 _ => ?_)
        refine o_h0 (h_store rfl rfl rfl sz_26 rfl aPt (by simp only [setMany_length, List.length_set, List.length_cons, List.length_nil, List.length_map]; omega) rfl) (fun _ _ => ?_)
        refine o_p (p_pure rfl) rfl ?_
        refine o_nil ?_
        refine s_seq ?_
        refine s_seq ?_
        refine s_region ?_
        refine o_p (p_pure rfl) rfl ?_
        refine o_p (p_pure rfl) rfl ?_
        refine o_p (p_pure rfl) rfl ?_
        refine o_p (p_pure rfl) rfl ?_
        refine o_or 5 39 44 _ _ rfl
          (by
            intro hg9
            have hs10 := hg9; try simp only [decide_eq_true_eq, decide_eq_false_iff_not, Bool.not_eq_true', Bool.not_eq_false', Bool.and_eq_true, Bool.or_eq_true, Bool.and_eq_false_iff, Bool.or_eq_false_iff, Bool.not_true, Bool.not_false] at hs10
            refine o_on 39 _ rfl rfl hg9 ?_
            refine o_q (q_loadn rfl rfl sz_26 aPk rfl) rfl ?_
            refine o_on 39 _ rfl rfl hg9 ?_
            refine o_q (q_loadn rfl rfl sz_26 aPk rfl) rfl ?_
            refine o_on 39 _ rfl rfl hg9 ?_
            refine o_q (q_call rfl fn_14 rfl (fun w1 h1 => by have gb := afT_b (fun hz => (lock_ok (chk_ok hz)).vw) hG; exact c14 w1 (afT next (pls L) (lockT (pls L) hd q)).1.2 ga ra gc rc2 G RG (HS.ft (a := ga) (cap := gc) (l := G) h1 aPk) (HS.ft (a := ra) (cap := rc2) (l := RG) h1 aPk) (hRG.trans hG.symm) gb.1 gb.2.1 gb.2.2)) rfl ?_
            refine o_on 39 _ rfl rfl hg9 ?_
            refine o_p (p_pure rfl) rfl ?_
            refine o_p (p_pickf rfl rfl hg9 rfl) rfl ?_
            refine o_nil ?_
            exact s_joinN 5 44 _ rfl rfl rfl (fun w h => by first | exact h | exact h.ent aEt))
          (by
            intro hg11
            have hs12 := hg11; try simp only [decide_eq_true_eq, decide_eq_false_iff_not, Bool.not_eq_true', Bool.not_eq_false', Bool.and_eq_true, Bool.or_eq_true, Bool.and_eq_false_iff, Bool.or_eq_false_iff, Bool.not_true, Bool.not_false] at hs12
            refine o_off 39 _ rfl rfl hg11 rfl ?_
            refine o_off 39 _ rfl rfl hg11 rfl ?_
            refine o_off 39 _ rfl rfl hg11 rfl ?_
            refine o_off 39 _ rfl rfl hg11 rfl ?_
            refine o_p (p_pickt rfl rfl hg11 rfl) rfl ?_
            refine o_nil ?_
            exact s_joinN 5 44 _ rfl rfl rfl (fun w h => by first | exact h | exact h.ent aEt)) ?_
        refine o_nil ?_
        refine s_cond rfl (fun h13 => ?_) (fun h13 => ?_)
        · try simp only [decide_eq_true_eq, decide_eq_false_iff_not, Bool.not_eq_true', Bool.not_eq_false', Bool.and_eq_true, Bool.or_eq_true, Bool.and_eq_false_iff, Bool.or_eq_false_iff, Bool.not_true, Bool.not_false] at h13
          exfalso; simp at h13
        · try simp only [decide_eq_true_eq, decide_eq_false_iff_not, Bool.not_eq_true', Bool.not_eq_false', Bool.and_eq_true, Bool.or_eq_true, Bool.and_eq_false_iff, Bool.or_eq_false_iff, Bool.not_true, Bool.not_false] at h13
          refine s_skip ?_
          refine s_seq ?_
          refine s_draw [14] mixed ?_
          refine d_q 0 [[]] rfl (q_loadn rfl rfl sz_26 aPk rfl) (by kernel_rfl) (by kernel_rfl) (by kernel_rfl) rfl ?_
          refine d_p 2 rfl (p_fieldAddr rfl rfl fd_64_3 sz_3 rfl) (by kernel_rfl) rfl rfl ?_
          refine d_q 3 [[]] rfl (q_load rfl rfl sz_3 aPk rfl) (by kernel_rfl) (by kernel_rfl) (by kernel_rfl) rfl ?_
          refine d_p 4 rfl (p_fieldAddr rfl rfl fd_64_2 sz_62 rfl) (by kernel_rfl) rfl rfl ?_
          refine d_p 5 rfl (p_fieldAddr rfl rfl fd_62_0 sz_3 rfl) (by kernel_rfl) rfl rfl ?_
          refine d_q 6 [[]] rfl (q_load rfl rfl sz_3 aPk rfl) (by kernel_rfl) (by kernel_rfl) (by kernel_rfl) rfl ?_
          refine d_p 7 rfl (p_fieldAddr rfl rfl fd_64_2 sz_62 rfl) (by kernel_rfl) rfl rfl ?_
          refine d_p 8 rfl (p_fieldAddr rfl rfl fd_62_1 sz_3 rfl) (by kernel_rfl) rfl rfl ?_
          refine d_q 9 [[]] rfl (q_load rfl rfl sz_3 aPk rfl) (by kernel_rfl) (by kernel_rfl) (by kernel_rfl) rfl ?_
          refine d_h 1 rfl (h_call rfl fn_19 rfl (fun w1 h1 => c19 w1 next a cap L (hs.later h1) hb.1 hb.2.1 hb.2.2)) (by kernel_rfl) (fun w h => h.ent aEt) rfl (fun ⟨⟨ca, cc⟩, N⟩ hgc => ?_)
          refine d_base (fun w h => h.ent aEt) ?_
          dsimp only at hgc ⊢
          have nb := same_b hgc hb
          refine d_h 10 rfl (h_call rfl fn_26 rfl (fun w1 h1 => c26 w1 next ca cc N hd q.fr q.cnt (HS.ft (a := ca) (cap := cc) (l := N) h1 aPk) nb.1 nb.2.1)) (by kernel_rfl) (fun w h => h.ent aEt) rfl (fun ⟨⟨ga2, gc2⟩, G2⟩ hgL => ?_)
          refine d_base (fun w h => h.ent aEt) ?_
          dsimp only at hgL ⊢
          rw [hgc] at hgL ⊢
          refine d_p 11 rfl (p_pure rfl) (by kernel_rfl) rfl rfl ?_
          refine d_p 12 rfl (p_pure rfl) (by kernel_rfl) rfl rfl ?_
          refine d_p 13 rfl (p_pure rfl) (by kernel_rfl) rfl rfl ?_
          refine d_h0 14 rfl (h_store rfl rfl rfl sz_26 rfl aPt (by simp only [setMany_length, List.length_set, List.length_cons, List.length_nil, List.length_map]; omega) rfl) (by kernel_rfl) (fun w h => h.ent aEt) (fun _ _ => ?_)
          refine d_turn [] (by kernel_rfl) ?_
          refine d_p 15 rfl (p_pure rfl) (by kernel_rfl) rfl rfl ?_
          refine d_nil (by kernel_rfl) (fun w h => h.ent aEt) ?_
          refine s_seq ?_
          refine s_weaken (L' := [(2, _), (3, _), (4, _), (5, _), (7, _), (8, _), (9, _)]) aSx (fun _ h => h) ?_
          refine s_region ?_
          refine o_q (q_loadn rfl rfl sz_26 aPk rfl) rfl ?_
          refine o_p (p_fieldAddr rfl rfl fd_64_3 sz_3 rfl) rfl ?_
          refine o_q (q_load rfl rfl sz_3 aPk rfl) rfl ?_
          refine o_p (p_fieldAddr rfl rfl fd_64_2 sz_62 rfl) rfl ?_
          refine o_p (p_fieldAddr rfl rfl fd_62_0 sz_3 rfl) rfl ?_
          refine o_q (q_load rfl rfl sz_3 aPk rfl) rfl ?_
          refine o_p (p_fieldAddr rfl rfl fd_64_2 sz_62 rfl) rfl ?_
          refine o_p (p_fieldAddr rfl rfl fd_62_1 sz_3 rfl) rfl ?_
          refine o_q (q_load rfl rfl sz_3 aPk rfl) rfl ?_
          refine o_h (h_call rfl fn_27 rfl (fun w1 h1 => c27 w1 next a cap L hd q.fr q.cnt (hs.later h1) hb.1 hb.2.1 hb.2.2)) rfl (fun ⟨⟨ra2, rc3⟩, RG2⟩ hRG2 => ?_)
          dsimp only at hRG2 ⊢
          refine o_p (p_pure rfl) rfl ?_
          refine o_p (p_pure rfl) rfl ?_
          refine o_p (p_pure rfl) rfl ?_
          refine o_h0 (h_store rfl rfl rfl sz_26 rfl aPt (by simp only [setMany_length, List.length_set, List.length_cons, List.length_nil, List.length_map]; omega) rfl) (fun _ _ => ?_)
          refine o_p (p_pure rfl) rfl ?_
          refine o_nil ?_
          refine s_seq ?_
          refine s_seq ?_
          refine s_region ?_
          refine o_p (p_pure rfl) rfl ?_
          refine o_p (p_pure rfl) rfl ?_
          refine o_p (p_pure rfl) rfl ?_
          refine o_p (p_pure rfl) rfl ?_
          refine o_or 5 75 80 _ _ rfl
            (by
              intro hg14
              have hs15 := hg14; try simp only [decide_eq_true_eq, decide_eq_false_iff_not, Bool.not_eq_true', Bool.not_eq_false', Bool.and_eq_true, Bool.or_eq_true, Bool.and_eq_false_iff, Bool.or_eq_false_iff, Bool.not_true, Bool.not_false] at hs15
              refine o_on 75 _ rfl rfl hg14 ?_
              refine o_q (q_loadn rfl rfl sz_26 aPk rfl) rfl ?_
              refine o_on 75 _ rfl rfl hg14 ?_
              refine o_q (q_loadn rfl rfl sz_26 aPk rfl) rfl ?_
              refine o_on 75 _ rfl rfl hg14 ?_
              refine o_q (q_call rfl fn_14 rfl (fun w1 h1 => by have gb := afT_b (fun hz => (unlock_ok (chk_ok hz)).vw) hgL; exact c14 w1 (afT next (pls L) (unlockT (pls L) hd q.fr q.cnt)).1.2 ga2 ra2 gc2 rc3 G2 RG2 (HS.ft (a := ga2) (cap := gc2) (l := G2) h1 aPk) (HS.ft (a := ra2) (cap := rc3) (l := RG2) h1 aPk) (hRG2.trans hgL.symm) gb.1 gb.2.1 gb.2.2)) rfl ?_
              refine o_on 75 _ rfl rfl hg14 ?_
              refine o_p (p_pure rfl) rfl ?_
              refine o_p (p_pickf rfl rfl hg14 rfl) rfl ?_
              refine o_nil ?_
              exact s_joinN 5 80 _ rfl rfl rfl (fun w h => by first | exact h | exact h.ent aEt))
            (by
              intro hg16
              have hs17 := hg16; try simp only [decide_eq_true_eq, decide_eq_false_iff_not, Bool.not_eq_true', Bool.not_eq_false', Bool.and_eq_true, Bool.or_eq_true, Bool.and_eq_false_iff, Bool.or_eq_false_iff, Bool.not_true, Bool.not_false] at hs17
              refine o_off 75 _ rfl rfl hg16 rfl ?_
              refine o_off 75 _ rfl rfl hg16 rfl ?_
              refine o_off 75 _ rfl rfl hg16 rfl ?_
              refine o_off 75 _ rfl rfl hg16 rfl ?_
              refine o_p (p_pickt rfl rfl hg16 rfl) rfl ?_
              refine o_nil ?_
              exact s_joinN 5 80 _ rfl rfl rfl (fun w h => by first | exact h | exact h.ent aEt)) ?_
          refine o_nil ?_
          refine s_cond rfl (fun h18 => ?_) (fun h18 => ?_)
          · try simp only [decide_eq_true_eq, decide_eq_false_iff_not, Bool.not_eq_true', Bool.not_eq_false', Bool.and_eq_true, Bool.or_eq_true, Bool.and_eq_false_iff, Bool.or_eq_false_iff, Bool.not_true, Bool.not_false] at h18
            exfalso; simp at h18
          · try simp only [decide_eq_true_eq, decide_eq_false_iff_not, Bool.not_eq_true', Bool.not_eq_false', Bool.and_eq_true, Bool.or_eq_true, Bool.and_eq_false_iff, Bool.or_eq_false_iff, Bool.not_true, Bool.not_false] at h18
            refine s_skip ?_
            refine s_seq ?_
            refine s_draw [] mixed ?_
            refine d_q 0 [] rfl (q_loadn rfl rfl sz_26 aPk rfl) (by kernel_rfl) (by kernel_rfl) (by kernel_rfl) rfl ?_
            refine d_p 2 rfl (p_fieldAddr rfl rfl fd_64_3 sz_3 rfl) (by kernel_rfl) rfl rfl ?_
            refine d_q 3 [] rfl (q_load rfl rfl sz_3 aPk rfl) (by kernel_rfl) (by kernel_rfl) (by kernel_rfl) rfl ?_
            refine d_p 4 rfl (p_fieldAddr rfl rfl fd_64_2 sz_62 rfl) (by kernel_rfl) rfl rfl ?_
            refine d_p 5 rfl (p_fieldAddr rfl rfl fd_62_0 sz_3 rfl) (by kernel_rfl) rfl rfl ?_
            refine d_q 6 [] rfl (q_load rfl rfl sz_3 aPk rfl) (by kernel_rfl) (by kernel_rfl) (by kernel_rfl) rfl ?_
            refine d_p 7 rfl (p_fieldAddr rfl rfl fd_64_2 sz_62 rfl) (by kernel_rfl) rfl rfl ?_
            refine d_p 8 rfl (p_fieldAddr rfl rfl fd_62_1 sz_3 rfl) (by kernel_rfl) rfl rfl ?_
            refine d_q 9 [] rfl (q_load rfl rfl sz_3 aPk rfl) (by kernel_rfl) (by kernel_rfl) (by kernel_rfl) rfl ?_
            refine d_h 1 rfl (h_call rfl fn_19 rfl (fun w1 h1 => c19 w1 next a cap L (hs.later h1) hb.1 hb.2.1 hb.2.2)) (by kernel_rfl) (fun w h => h.ent aEt) rfl (fun ⟨⟨ca, cc⟩, N⟩ hgc => ?_)
            refine d_base (fun w h => h.ent aEt) ?_
            dsimp only at hgc ⊢
            have nb := same_b hgc hb
            refine d_q 10 [] rfl (q_call rfl fn_28 rfl (fun w1 h1 => by have h9 := c28 w1 next ca cc N hd q.fr q.cnt (HS.ft (a := ca) (cap := cc) (l := N) h1 aPk) nb.1 nb.2.1; rw [hgc] at h9; exact h9)) (by kernel_rfl) (by kernel_rfl) (by kernel_rfl) rfl ?_
            refine d_p 11 rfl (p_pure rfl) (by kernel_rfl) rfl rfl ?_
            refine d_nil (by kernel_rfl) (fun w h => h.ent aEt) ?_
            refine s_seq ?_
            refine s_weaken (L' := [(2, _), (3, _), (4, _), (10, _)]) aSx (fun _ h => h) ?_
            refine s_draw [] mixed ?_
            refine d_q 0 [] rfl (q_loadn rfl rfl sz_26 aPk rfl) (by kernel_rfl) (by kernel_rfl) (by kernel_rfl) rfl ?_
            refine d_p 2 rfl (p_fieldAddr rfl rfl fd_64_3 sz_3 rfl) (by kernel_rfl) rfl rfl ?_
            refine d_q 3 [] rfl (q_load rfl rfl sz_3 aPk rfl) (by kernel_rfl) (by kernel_rfl) (by kernel_rfl) rfl ?_
            refine d_p 4 rfl (p_fieldAddr rfl rfl fd_64_2 sz_62 rfl) (by kernel_rfl) rfl rfl ?_
            refine d_p 5 rfl (p_fieldAddr rfl rfl fd_62_0 sz_3 rfl) (by kernel_rfl) rfl rfl ?_
            refine d_q 6 [] rfl (q_load rfl rfl sz_3 aPk rfl) (by kernel_rfl) (by kernel_rfl) (by kernel_rfl) rfl ?_
            refine d_p 7 rfl (p_fieldAddr rfl rfl fd_64_2 sz_62 rfl) (by kernel_rfl) rfl rfl ?_
            refine d_p 8 rfl (p_fieldAddr rfl rfl fd_62_1 sz_3 rfl) (by kernel_rfl) rfl rfl ?_
            refine d_q 9 [] rfl (q_load rfl rfl sz_3 aPk rfl) (by kernel_rfl) (by kernel_rfl) (by kernel_rfl) rfl ?_
            refine d_h 1 rfl (h_call rfl fn_19 rfl (fun w1 h1 => c19 w1 next a cap L (hs.later h1) hb.1 hb.2.1 hb.2.2)) (by kernel_rfl) (fun w h => h.ent aEt) rfl (fun ⟨⟨ca, cc⟩, N⟩ hgc => ?_)
            refine d_base (fun w h => h.ent aEt) ?_
            dsimp only at hgc ⊢
            have nb := same_b hgc hb
            refine d_q 10 [] rfl (q_call rfl fn_29 rfl (fun w1 h1 => by have h9 := c29 w1 next ca cc N hd q.fr q.cnt (HS.ft (a := ca) (cap := cc) (l := N) h1 aPk) nb.1 nb.2.1; rw [hgc] at h9; exact h9)) (by kernel_rfl) (by kernel_rfl) (by kernel_rfl) rfl ?_
            refine d_p 11 rfl (p_pure rfl) (by kernel_rfl) rfl rfl ?_
            refine d_nil (by kernel_rfl) (fun w h => h.ent aEt) ?_
            refine s_seq ?_
            refine s_region ?_
            refine o_p (p_pure rfl) rfl ?_
            refine o_q (q_loadn rfl rfl sz_26 aPk rfl) rfl ?_
            refine o_p (p_fieldAddr rfl rfl fd_64_3 sz_3 rfl) rfl ?_
            refine o_q (q_load rfl rfl sz_3 aPk rfl) rfl ?_
            refine o_p (p_fieldAddr rfl rfl fd_64_2 sz_62 rfl) rfl ?_
            refine o_p (p_fieldAddr rfl rfl fd_62_0 sz_3 rfl) rfl ?_
            refine o_q (q_load rfl rfl sz_3 aPk rfl) rfl ?_
            refine o_p (p_fieldAddr rfl rfl fd_64_2 sz_62 rfl) rfl ?_
            refine o_p (p_fieldAddr rfl rfl fd_62_1 sz_3 rfl) rfl ?_
            refine o_q (q_load rfl rfl sz_3 aPk rfl) rfl ?_
            refine o_q (q_call rfl fn_30 rfl (fun w1 h1 => c30 w1 next a cap L hd q.fr q.cnt false (hs.later h1) hb.1 hb.2.1)) rfl ?_
            refine o_p (p_pure rfl) rfl ?_
            refine o_p (p_pure rfl) rfl ?_
            refine o_and 13 115 128 _ _ rfl
              (by
                intro hg19
                have hs20 := hg19; try simp only [decide_eq_true_eq, decide_eq_false_iff_not, Bool.not_eq_true', Bool.not_eq_false', Bool.and_eq_true, Bool.or_eq_true, Bool.and_eq_false_iff, Bool.or_eq_false_iff, Bool.not_true, Bool.not_false] at hs20
                refine o_on 115 _ rfl rfl hg19 ?_
                refine o_p (p_pure rfl) rfl ?_
                refine o_on 115 _ rfl rfl hg19 ?_
                refine o_q (q_loadn rfl rfl sz_26 aPk rfl) rfl ?_
                refine o_on 115 _ rfl rfl hg19 ?_
                refine o_p (p_fieldAddr rfl rfl fd_64_3 sz_3 rfl) rfl ?_
                refine o_on 115 _ rfl rfl hg19 ?_
                refine o_q (q_load rfl rfl sz_3 aPk rfl) rfl ?_
                refine o_on 115 _ rfl rfl hg19 ?_
                refine o_p (p_fieldAddr rfl rfl fd_64_2 sz_62 rfl) rfl ?_
                refine o_on 115 _ rfl rfl hg19 ?_
                refine o_p (p_fieldAddr rfl rfl fd_62_0 sz_3 rfl) rfl ?_
                refine o_on 115 _ rfl rfl hg19 ?_
                refine o_q (q_load rfl rfl sz_3 aPk rfl) rfl ?_
                refine o_on 115 _ rfl rfl hg19 ?_
                refine o_p (p_fieldAddr rfl rfl fd_64_2 sz_62 rfl) rfl ?_
                refine o_on 115 _ rfl rfl hg19 ?_
                refine o_p (p_fieldAddr rfl rfl fd_62_1 sz_3 rfl) rfl ?_
                refine o_on 115 _ rfl rfl hg19 ?_
                refine o_q (q_load rfl rfl sz_3 aPk rfl) rfl ?_
                refine o_on 115 _ rfl rfl hg19 ?_
                refine o_q (q_call rfl fn_30 rfl (fun w1 h1 => c30 w1 next a cap L hd q.fr q.cnt true (hs.later h1) hb.1 hb.2.1)) rfl ?_
                refine o_on 115 _ rfl rfl hg19 ?_
                refine o_p (p_pure rfl) rfl ?_
                refine o_p (p_pickt rfl rfl hg19 rfl) rfl ?_
                refine o_nil ?_
                exact s_joinN 13 128 _ rfl rfl rfl (fun w h => by first | exact h | exact h.ent aEt))
              (by
                intro hg21
                have hs22 := hg21; try simp only [decide_eq_true_eq, decide_eq_false_iff_not, Bool.not_eq_true', Bool.not_eq_false', Bool.and_eq_true, Bool.or_eq_true, Bool.and_eq_false_iff, Bool.or_eq_false_iff, Bool.not_true, Bool.not_false] at hs22
                refine o_off 115 _ rfl rfl hg21 rfl ?_
                refine o_off 115 _ rfl rfl hg21 rfl ?_
                refine o_off 115 _ rfl rfl hg21 rfl ?_
                refine o_off 115 _ rfl rfl hg21 rfl ?_
                refine o_off 115 _ rfl rfl hg21 rfl ?_
                refine o_off 115 _ rfl rfl hg21 rfl ?_
                refine o_off 115 _ rfl rfl hg21 rfl ?_
                refine o_off 115 _ rfl rfl hg21 rfl ?_
                refine o_off 115 _ rfl rfl hg21 rfl ?_
                refine o_off 115 _ rfl rfl hg21 rfl ?_
                refine o_off 115 _ rfl rfl hg21 rfl ?_
                refine o_off 115 _ rfl rfl hg21 rfl ?_
                refine o_p (p_pickf rfl rfl hg21 rfl) rfl ?_
                refine o_nil ?_
                exact s_joinN 13 128 _ rfl rfl rfl (fun w h => by first | exact h | exact h.ent aEt)) ?_
            refine o_p (p_pure rfl) rfl ?_
            refine o_nil ?_
            exact s_retv (rs := [.tmp 4]) rfl (.tmp rfl (.nil)) (fun w' h' => ⟨by (try simp only [retV]); simp, h'.below⟩)

end Go.Proofs

