/- Contracts of the program's functions, proved by walking them with the rules of the Gx texts; without conditions beyond those that each contract names. -/
import Derived.Test.YtgdigngojonbhaaC25B
namespace Go.Proofs
open Go Go.RowKit Gx
set_option linter.unusedVariables false
set_option linter.unusedSimpArgs false
attribute [local irreducible] Go.Calls Gx.S Gx.O Gx.D Gx.OpP Gx.OpQ Gx.OpH

theorem fn_103 : isFn Try.prog 103 = true := by kernel_rfl
theorem fn_94 : isFn Try.prog 94 = true := by kernel_rfl
theorem fn_63 : isFn Try.prog 63 = true := by kernel_rfl
theorem sz_46 : tsz Try.prog 46 = some (1, false) := by kernel_rfl
theorem fn_87 : isFn Try.prog 87 = true := by kernel_rfl


theorem subA0 {a : Option Addr} {cap sz : Nat} (h : a = some ⟨ab a, ao a, none⟩) : subA a cap 0 sz = a := by
  unfold subA
  split
  · rfl
  · rw [h]; simp [addr_add]
def okL (l : List Lock) : Prop := ∀ k ∈ l, rngE k.fr k.cnt = 0
theorem okL_nth {l : List Lock} (h : okL l) {i : Nat} (hi : i < l.length) : rngE (nth l i).fr (nth l i).cnt = 0 := h _ (mem_nth hi)
theorem rngs_ok {l : List Lock} (h : rngsE l = 0) : okL l := by
  intro k hk
  exact eachF_0.1 h _ (List.mem_map.2 ⟨k, hk, rfl⟩)
theorem rngs_of {l : List Lock} (h : okL l) : rngsE l = 0 := eachF_0.2 fun e he => by
  obtain ⟨k, hk, rfl⟩ := List.mem_map.1 he
  exact h k hk
theorem map_getD_nth {α : Type} [Inhabited α] {l : List α} {f : α → Int} {k : Nat} (h : k < l.length) : (l.map f).getD k 0 = f (nth l k) := by
  simp only [nth, List.getD_eq_getElem?_getD, List.getElem?_map, List.getElem?_eq_getElem h, Option.map_some, Option.getD_some]
theorem map_getD_nthB {α : Type} [Inhabited α] {l : List α} {f : α → Bool} {k : Nat} (h : k < l.length) : (l.map f).getD k false = f (nth l k) := by
  simp only [nth, List.getD_eq_getElem?_getD, List.getElem?_map, List.getElem?_eq_getElem h, Option.map_some, Option.getD_some]
theorem any_map_id {α : Type} (l : List α) (f : α → Bool) : (l.map f).any id = l.any f := by simp [List.any_map]
theorem take_succ_nth {α : Type} [Inhabited α] {l : List α} {k : Nat} (h : k < l.length) : l.take (k + 1) = l.take k ++ [nth l k] := by
  rw [List.take_succ_eq_append_getElem h, nth, List.getD_eq_getElem?_getD, List.getElem?_eq_getElem h]; rfl
theorem drop_nth {α : Type} [Inhabited α] {l : List α} {k : Nat} (h : k < l.length) : l.drop k = nth l k :: l.drop (k + 1) := by
  rw [List.drop_eq_getElem_cons h, nth, List.getD_eq_getElem?_getD, List.getElem?_eq_getElem h]; rfl
def heldK (l : List LOpn) (k : Nat) : List Lock := (l.take k).flatMap LOpn.lk
theorem heldK_succ {l : List LOpn} {k : Nat} (h : k < l.length) : heldK l (k + 1) = heldK l k ++ (nth l k).lk := by
  unfold heldK
  rw [take_succ_nth h, List.flatMap_append]
  simp
theorem heldK_all (l : List LOpn) : heldK l l.length = (plo l).flatMap Opn.lk := by
  unfold heldK
  rw [List.take_length, List.flatMap_map]
  rfl
def lkA (H : List Lock) (k : Lock) : List Lock := if H.any (clsh · k) = true then H else H ++ [k]

set_option maxRecDepth 20000 in
theorem c122 (w : World) (b : Nat) (h k : Lock) (hr : ∀ j v, k.vals[j]? = some v → Rd w [] b (0 + j) v) (ha : rngE h.fr h.cnt = 0) (hb : rngE k.fr k.cnt = 0) : Calls Try.prog 122 #[.agg #[.int .i64 h.fr, .int .i64 h.cnt, .bool h.ex], .pointer (some ⟨b, 0, none⟩)] w fun en w' => en = .returned (.bool (clsh h k)) ∧ Below w.heap.size w w' := by
  refine enter (args := [_, _]) Try.func122 Try.ntmps122 rfl rfl (HS.refl w []) ?_
  refine s_seq ?_
  refine s_region ?_
  refine o_h (h_box rfl rfl) rfl (fun b1 _ => ?_)
  refine o_p (p_pure rfl) rfl ?_
  refine o_nil ?_
  refine s_seq ?_
  refine s_region ?_
  first | refine o_q (q_loadn rfl rfl sz_62 (by repeat (first | exact .here | apply Pick.there)) rfl) rfl ?_ | refine o_q (q_load_oldn _ rfl rfl sz_62 rfl hr) rfl ?_
  first | refine o_q (q_loadn rfl rfl sz_62 (by repeat (first | exact .here | apply Pick.there)) rfl) rfl ?_ | refine o_q (q_load_oldn _ rfl rfl sz_62 rfl hr) rfl ?_
  refine o_q (q_call rfl fn_103 rfl (fun w1 h1 => c103 w1 h k ha hb)) rfl ?_
  refine o_p (p_pure rfl) rfl ?_
  refine o_nil ?_
  exact s_retv (rs := [.tmp 3]) rfl (.tmp rfl (.nil)) (fun w' h' => ⟨rfl, h'.below⟩)

set_option maxRecDepth 20000 in
theorem c93 (w : World) (i : Int) (k : Lock) : Calls Try.prog 93 #[.int .i64 i, .agg #[.int .i64 k.fr, .int .i64 k.cnt, .bool k.ex]] w fun en w' => en = .returned (.int .i64 (rngE k.fr k.cnt)) ∧ Below w.heap.size w w' := by
  refine enter (args := [_, _]) Try.func93 Try.ntmps93 rfl rfl (HS.refl w []) ?_
  refine s_seq ?_
  refine s_region ?_
  refine o_h (h_box rfl rfl) rfl (fun b1 _ => ?_)
  refine o_p (p_pure rfl) rfl ?_
  refine o_nil ?_
  refine s_seq ?_
  refine s_region ?_
  refine o_p (p_fieldAddr rfl rfl fd_62_0 sz_3 rfl) rfl ?_
  refine o_q (q_load rfl rfl sz_3 (by repeat (first | exact .here | apply Pick.there)) rfl) rfl ?_
  refine o_p (p_fieldAddr rfl rfl fd_62_1 sz_3 rfl) rfl ?_
  refine o_q (q_load rfl rfl sz_3 (by repeat (first | exact .here | apply Pick.there)) rfl) rfl ?_
  refine o_q (q_call rfl fn_94 rfl (fun w1 h1 => c94 w1 _ _)) rfl ?_
  refine o_p (p_pure rfl) rfl ?_
  refine o_nil ?_
  exact s_retv (rs := [.tmp 4]) rfl (.tmp rfl (.nil)) (fun w' h' => ⟨rfl, h'.below⟩)

set_option maxRecDepth 20000 in
theorem c96 (w : World) (b : Nat) (y x : LOpn) (hr : ∀ j v, x.vals[j]? = some v → Rd w [] b (0 + j) v) (hx : openE x.ac x.sh = 0) (hy : openE y.ac y.sh = 0) : Calls Try.prog 96 #[.agg #[.int .i64 y.hd, .int .i64 y.ac, .int .i64 y.sh, .bool y.dl, .slice y.la y.lk.length y.lc], .pointer (some ⟨b, 0, none⟩)] w fun en w' => en = .returned (.bool (cfl x.pl y.pl)) ∧ Below w.heap.size w w' := by
  refine enter (args := [_, _]) Try.func96 Try.ntmps96 rfl rfl (HS.refl w []) ?_
  refine s_seq ?_
  refine s_region ?_
  refine o_h (h_box rfl rfl) rfl (fun b1 _ => ?_)
  refine o_p (p_pure rfl) rfl ?_
  refine o_nil ?_
  refine s_seq ?_
  refine s_region ?_
  first | refine o_q (q_loadn rfl rfl sz_48 (by repeat (first | exact .here | apply Pick.there)) rfl) rfl ?_ | refine o_q (q_load_oldn _ rfl rfl sz_48 rfl hr) rfl ?_
  first | refine o_q (q_loadn rfl rfl sz_48 (by repeat (first | exact .here | apply Pick.there)) rfl) rfl ?_ | refine o_q (q_load_oldn _ rfl rfl sz_48 rfl hr) rfl ?_
  refine o_q (q_call rfl fn_63 rfl (fun w1 h1 => c63 w1 x y hx hy)) rfl ?_
  refine o_p (p_pure rfl) rfl ?_
  refine o_nil ?_
  exact s_retv (rs := [.tmp 3]) rfl (.tmp rfl (.nil)) (fun w' h' => ⟨rfl, h'.below⟩)

set_option maxRecDepth 20000 in
theorem c121 (w : World) (b : Nat) (i : Int) (k : Lock) (g : Option Addr × Nat) (H : List Lock) (hw : HS w (fps [.blk b 46 1 [.slice g.1 H.length g.2], .own (.slice g.1 H.length g.2) 62 3 H.length (H.flatMap Lock.vals)]) [.blk b 46 1 [.slice g.1 H.length g.2], .own (.slice g.1 H.length g.2) 62 3 H.length (H.flatMap Lock.vals)] w) (hH : okL H) (hk : rngE k.fr k.cnt = 0) (hm : H.length ≤ 100000) : Calls Try.prog 121 #[.int .i64 i, .agg #[.int .i64 k.fr, .int .i64 k.cnt, .bool k.ex], .pointer (some ⟨b, 0, none⟩)] w fun en w' => ∃ g2 : Option Addr × Nat, en = .returned (.int .i64 (if H.any (clsh · k) = true then 29 else 0)) ∧ True ∧ HS w (fps [.blk b 46 1 [.slice g.1 H.length g.2], .own (.slice g.1 H.length g.2) 62 3 H.length (H.flatMap Lock.vals)]) [.blk b 46 1 [.slice g2.1 (lkA H k).length g2.2], .own (.slice g2.1 (lkA H k).length g2.2) 62 3 (lkA H k).length ((lkA H k).flatMap Lock.vals)] w' := by
  refine enter (args := [_, _, _]) Try.func121 Try.ntmps121 rfl rfl hw ?_
  refine s_seq ?_
  refine s_region ?_
  refine o_h (h_box rfl rfl) rfl (fun b1 _ => ?_)
  refine o_p (p_pure rfl) rfl ?_
  refine o_nil ?_
  refine s_seq ?_
  refine s_seq ?_
  refine s_region ?_
  refine o_q (q_load rfl rfl sz_46 (by repeat (first | exact .here | apply Pick.there)) rfl) rfl ?_
  refine o_p (p_pure rfl) rfl ?_
  refine o_q (q_call rfl fn_87 rfl (fun w1 h1 => by have h9 := c87 w1 g.1 g.2 H 122 #[.pointer (some ⟨b1, 0, none⟩)] (H.map (clsh · k)) (h1.rw_own lv3 (by repeat (first | exact .here | apply Pick.there)) rfl) (by omega) (by kernel_rfl) (by simp) (fun j w2 hj h2 => by rw [map_getD_nthB hj]; exact c122 w2 b1 (nth H j) k (fun q v hv => by rw [Nat.zero_add]; exact (h1.rd_blk (Mc := []) (by repeat (first | exact .here | apply Pick.there)) hv (by simp)).later h2 (by simp)) (okL_nth hH hj) hk); rw [any_map_id] at h9; exact h9)) rfl ?_
  refine o_nil ?_
  refine s_cond rfl (fun h2 => ?_) (fun h2 => ?_)
  · try simp only [decide_eq_true_eq, decide_eq_false_iff_not, Bool.not_eq_true', Bool.not_eq_false', Bool.and_eq_true, Bool.or_eq_true, Bool.and_eq_false_iff, Bool.or_eq_false_iff, Bool.not_true, Bool.not_false] at h2
    refine s_seq ?_
    refine s_region ?_
    refine o_p (p_pure rfl) rfl ?_
    refine o_nil ?_
    exact s_retv (rs := [.tmp 5]) rfl (.tmp rfl (.nil)) (fun w' h' => ⟨g, by rw [if_pos h2]; rfl, trivial, by rw [lkA, if_pos h2]; exact h'.ent (by repeat (first | exact .nil | refine .cons (by repeat (first | exact .here | apply Pick.there)) ?_))⟩)
  · try simp only [decide_eq_true_eq, decide_eq_false_iff_not, Bool.not_eq_true', Bool.not_eq_false', Bool.and_eq_true, Bool.or_eq_true, Bool.and_eq_false_iff, Bool.or_eq_false_iff, Bool.not_true, Bool.not_false] at h2
    refine s_skip ?_
    refine s_seq ?_
    refine s_region ?_
    refine o_q (q_load rfl rfl sz_46 (by repeat (first | exact .here | apply Pick.there)) rfl) rfl ?_
    refine o_q (q_loadn rfl rfl sz_62 (by repeat (first | exact .here | apply Pick.there)) rfl) rfl ?_
    refine o_h (h_buildSlice (cs := [_, _, _]) rfl rfl sl_46 zr_62 rfl rfl rfl) rfl (fun b3 _ => ?_)
    refine o_h (h_appendS (n := H.length) k.vals rfl rfl rfl sl_46 Try.underlying46 zr_62 rfl (by repeat (first | exact .here | apply Pick.there)) (src_blk (by repeat (first | exact .here | apply Pick.there))) rfl (lv1 k) (by omega) (by simp only [maxLen]; omega)) rfl (fun b4 _ => ?_)
    refine o_h0 (h_store rfl rfl rfl sz_46 rfl (by repeat (first | exact .here | apply Put.there)) (by simp only [setMany_length, List.length_set, List.length_cons, List.length_nil, List.length_map]; omega) rfl) (fun _ _ => ?_)
    refine o_nil ?_
    refine s_seq ?_
    refine s_region ?_
    refine o_p (p_pure rfl) rfl ?_
    refine o_nil ?_
    exact s_retv (rs := [.tmp 5]) rfl (.tmp rfl (.nil)) (fun w' h' => ⟨b4, by rw [if_neg (by simpa using h2)]; rfl, trivial, by rw [lkA, if_neg (by simpa using h2), List.flatMap_append, List.length_append]; simp only [List.flatMap_cons, List.flatMap_nil, List.append_nil]; exact h'.ent (by repeat (first | exact .nil | refine .cons (by repeat (first | exact .here | apply Pick.there)) ?_))⟩)

end Go.Proofs
