/- Contracts of the program's functions, proved by walking them with the rules of the Gx texts; without conditions beyond those that each contract names. -/
import Derived.Test.YtaffndpaehiafaaC07C
namespace Go.Proofs
open Go Go.RowKit Gx
set_option linter.unusedVariables false
set_option linter.unusedSimpArgs false
attribute [local irreducible] Go.Calls Gx.S Gx.O Gx.D Gx.OpP Gx.OpQ Gx.OpH

theorem zr_22 : tzero Try.prog 22 = some [.int .i64 0, .int .i64 0, .int .i64 0, .int .i64 0] := by kernel_rfl
theorem ar_22 : tar Try.prog 22 = some (4, 3, 1) := by kernel_rfl
theorem fn_58 : isFn Try.prog 58 = true := by kernel_rfl
theorem fn_57 : isFn Try.prog 57 = true := by kernel_rfl
theorem sz_22 : tsz Try.prog 22 = some (4, true) := by kernel_rfl
theorem sz_101 : tsz Try.prog 101 = some (1, false) := by kernel_rfl
theorem sz_57 : tsz Try.prog 57 = some (1, false) := by kernel_rfl
theorem fn_98 : isFn Try.prog 98 = true := by kernel_rfl
theorem fn_97 : isFn Try.prog 97 = true := by kernel_rfl
theorem zr_99 : tzero Try.prog 99 = some [.int .u16 0, .int .u16 0, .int .u16 0, .int .u16 0] := by kernel_rfl
theorem fn_55 : isFn Try.prog 55 = true := by kernel_rfl
theorem ki_57 : tki Try.prog 57 = some .u16 := by kernel_rfl
theorem ar_99 : tar Try.prog 99 = some (4, 57, 1) := by kernel_rfl
theorem fn_56 : isFn Try.prog 56 = true := by kernel_rfl
theorem sz_99 : tsz Try.prog 99 = some (4, true) := by kernel_rfl


set_option maxRecDepth 20000 in
theorem c15 (w : World) (q : Q4) : Calls Try.prog 15 #[.agg #[.int .i64 (q.a.toNat : Int), .int .i64 (q.b.toNat : Int), .int .i64 (q.c.toNat : Int), .int .i64 (q.d.toNat : Int)]] w fun en w' => en = .returned (.agg #[.int .i64 ((quarter4 q).a.toNat : Int), .int .i64 ((quarter4 q).b.toNat : Int), .int .i64 ((quarter4 q).c.toNat : Int), .int .i64 ((quarter4 q).d.toNat : Int)]) ∧ Below w.heap.size w w' := by
  have ha := q.a.toNat_lt
  have hb := q.b.toNat_lt
  have hc := q.c.toNat_lt
  have hd := q.d.toNat_lt
  refine enter (args := [_]) Try.func15 Try.ntmps15 rfl rfl (HS.refl w []) ?_
  refine s_seq ?_
  refine s_region ?_
  refine o_h (h_box rfl rfl) rfl (fun b1 _ => ?_)
  refine o_h (h_alloc rfl zr_22) rfl (fun b2 _ => ?_)
  refine o_nil ?_
  refine s_seq ?_
  refine s_draw [] mixed ?_
  refine d_p 0 rfl (p_indexAddr_arr rfl rfl rfl ar_22 0 rfl (by omega)) (by kernel_rfl) rfl rfl ?_
  refine d_q 1 [] rfl (q_load rfl rfl sz_3 (by repeat (first | exact .here | apply Pick.there)) rfl) (by kernel_rfl) (by kernel_rfl) (by kernel_rfl) rfl ?_
  refine d_p 2 rfl (p_indexAddr_arr rfl rfl rfl ar_22 1 rfl (by omega)) (by kernel_rfl) rfl rfl ?_
  refine d_q 3 [] rfl (q_load rfl rfl sz_3 (by repeat (first | exact .here | apply Pick.there)) rfl) (by kernel_rfl) (by kernel_rfl) (by kernel_rfl) rfl ?_
  refine d_p 4 rfl (p_indexAddr_arr rfl rfl rfl ar_22 2 rfl (by omega)) (by kernel_rfl) rfl rfl ?_
  refine d_q 5 [] rfl (q_load rfl rfl sz_3 (by repeat (first | exact .here | apply Pick.there)) rfl) (by kernel_rfl) (by kernel_rfl) (by kernel_rfl) rfl ?_
  refine d_p 6 rfl (p_indexAddr_arr rfl rfl rfl ar_22 3 rfl (by omega)) (by kernel_rfl) rfl rfl ?_
  refine d_q 7 [] rfl (q_load rfl rfl sz_3 (by repeat (first | exact .here | apply Pick.there)) rfl) (by kernel_rfl) (by kernel_rfl) (by kernel_rfl) rfl ?_
  refine d_p 8 rfl (p_pure rfl) (by kernel_rfl) rfl rfl ?_
  refine d_p 9 rfl (p_pure rfl) (by kernel_rfl) rfl rfl ?_
  refine d_p 10 rfl (p_pure rfl) (by kernel_rfl) rfl rfl ?_
  refine d_p 11 rfl (p_pure rfl) (by kernel_rfl) rfl rfl ?_
  refine d_nil (by kernel_rfl) (fun w h => h.ent (by repeat (first | exact .nil | refine .cons (by repeat (first | exact .here | apply Pick.there)) ?_))) ?_
  refine s_seq ?_
  refine s_region ?_
  refine o_p (p_pure rfl) rfl ?_
  refine o_p (p_pure rfl) rfl ?_
  refine o_p (p_pure rfl) rfl ?_
  try (refine o_slot (i64w (by omega) (by omega)) ?_)
  try (refine o_slot (u16add64 _ _) ?_)
  first | refine o_p (p_rem_nn rfl rfl rfl (by omega) (by omega)) rfl ?_ | refine o_p (p_rem rfl rfl rfl (by decide)) rfl ?_ | refine o_p (p_rem rfl rfl rfl (by omega)) rfl ?_
  refine o_slot (u16mod _ _) ?_
  refine o_p (p_pure rfl) rfl ?_
  refine o_nil ?_
  refine s_seq ?_
  refine s_region ?_
  refine o_p (p_pure rfl) rfl ?_
  refine o_p (p_pure rfl) rfl ?_
  refine o_q (q_call rfl fn_58 rfl (fun w1 h1 => x58w w1 _ _)) rfl ?_
  refine o_q (q_call rfl fn_57 rfl (fun w1 h1 => x57_8 w1 _)) rfl ?_
  refine o_p (p_pure rfl) rfl ?_
  refine o_nil ?_
  refine s_seq ?_
  refine s_region ?_
  refine o_p (p_pure rfl) rfl ?_
  refine o_p (p_pure rfl) rfl ?_
  refine o_p (p_pure rfl) rfl ?_
  try (refine o_slot (i64w (by omega) (by omega)) ?_)
  try (refine o_slot (u16add64 _ _) ?_)
  first | refine o_p (p_rem_nn rfl rfl rfl (by omega) (by omega)) rfl ?_ | refine o_p (p_rem rfl rfl rfl (by decide)) rfl ?_ | refine o_p (p_rem rfl rfl rfl (by omega)) rfl ?_
  refine o_slot (u16mod _ _) ?_
  refine o_p (p_pure rfl) rfl ?_
  refine o_nil ?_
  refine s_seq ?_
  refine s_region ?_
  refine o_p (p_pure rfl) rfl ?_
  refine o_p (p_pure rfl) rfl ?_
  refine o_q (q_call rfl fn_58 rfl (fun w1 h1 => x58w w1 _ _)) rfl ?_
  refine o_q (q_call rfl fn_57 rfl (fun w1 h1 => x57_6 w1 _)) rfl ?_
  refine o_p (p_pure rfl) rfl ?_
  refine o_nil ?_
  refine s_seq ?_
  refine s_region ?_
  refine o_p (p_pure rfl) rfl ?_
  refine o_p (p_pure rfl) rfl ?_
  refine o_p (p_pure rfl) rfl ?_
  try (refine o_slot (i64w (by omega) (by omega)) ?_)
  try (refine o_slot (u16add64 _ _) ?_)
  first | refine o_p (p_rem_nn rfl rfl rfl (by omega) (by omega)) rfl ?_ | refine o_p (p_rem rfl rfl rfl (by decide)) rfl ?_ | refine o_p (p_rem rfl rfl rfl (by omega)) rfl ?_
  refine o_slot (u16mod _ _) ?_
  refine o_p (p_pure rfl) rfl ?_
  refine o_nil ?_
  refine s_seq ?_
  refine s_region ?_
  refine o_p (p_pure rfl) rfl ?_
  refine o_p (p_pure rfl) rfl ?_
  refine o_q (q_call rfl fn_58 rfl (fun w1 h1 => x58w w1 _ _)) rfl ?_
  refine o_q (q_call rfl fn_57 rfl (fun w1 h1 => x57_4 w1 _)) rfl ?_
  refine o_p (p_pure rfl) rfl ?_
  refine o_nil ?_
  refine s_seq ?_
  refine s_region ?_
  refine o_p (p_pure rfl) rfl ?_
  refine o_p (p_pure rfl) rfl ?_
  refine o_p (p_pure rfl) rfl ?_
  try (refine o_slot (i64w (by omega) (by omega)) ?_)
  try (refine o_slot (u16add64 _ _) ?_)
  first | refine o_p (p_rem_nn rfl rfl rfl (by omega) (by omega)) rfl ?_ | refine o_p (p_rem rfl rfl rfl (by decide)) rfl ?_ | refine o_p (p_rem rfl rfl rfl (by omega)) rfl ?_
  refine o_slot (u16mod _ _) ?_
  refine o_p (p_pure rfl) rfl ?_
  refine o_nil ?_
  refine s_seq ?_
  refine s_region ?_
  refine o_p (p_pure rfl) rfl ?_
  refine o_p (p_pure rfl) rfl ?_
  refine o_q (q_call rfl fn_58 rfl (fun w1 h1 => x58w w1 _ _)) rfl ?_
  refine o_q (q_call rfl fn_57 rfl (fun w1 h1 => x57_3 w1 _)) rfl ?_
  refine o_p (p_pure rfl) rfl ?_
  refine o_nil ?_
  refine s_seq ?_
  refine s_region ?_
  refine o_p (p_pure rfl) rfl ?_
  refine o_p (p_pure rfl) rfl ?_
  refine o_p (p_pure rfl) rfl ?_
  refine o_p (p_pure rfl) rfl ?_
  refine o_p (p_build_arr (cs := [_, _, _, _]) rfl rfl ar_22 zr_22 rfl) rfl ?_
  refine o_h0 (h_store rfl rfl rfl sz_22 rfl (by repeat (first | exact .here | apply Put.there)) (by simp only [setMany_length, List.length_set, List.length_cons, List.length_nil, List.length_map]; omega) rfl) (fun _ _ => ?_)
  refine o_nil ?_
  exact s_retv (rs := [.cell 2 22]) rfl (.cell rfl sz_22 (by repeat (first | exact .here | apply Pick.there)) rfl (.nil)) (fun w' h' => ⟨rfl, h'.below⟩)

set_option maxRecDepth 20000 in
theorem c97 (w : World) (l r b oa ob oc od pa pb pc pd tot : Nat) (t : TypeId) (cs : List Value) (q : Q4) (hl : 1 ≤ l) (hl2 : l ≤ 15) (hr : 1 ≤ r) (hr2 : r ≤ 15) (hb : BlkOk b t tot cs w) (hra : Rd w [b] pa 0 (.pointer (some ⟨b, oa, none⟩))) (hrb : Rd w [b] pb 0 (.pointer (some ⟨b, ob, none⟩))) (hrc : Rd w [b] pc 0 (.pointer (some ⟨b, oc, none⟩))) (hrd : Rd w [b] pd 0 (.pointer (some ⟨b, od, none⟩))) (ha : cs[oa]? = some (wv q.a)) (hbb : cs[ob]? = some (wv q.b)) (hc : cs[oc]? = some (wv q.c)) (hd : cs[od]? = some (wv q.d)) (h12 : oa ≠ ob) (h13 : oa ≠ oc) (h14 : oa ≠ od) (h23 : ob ≠ oc) (h24 : ob ≠ od) (h34 : oc ≠ od) : Calls Try.prog 97 #[.int .i64 (l : Int), .int .i64 (r : Int), .pointer (some ⟨pa, 0, none⟩), .pointer (some ⟨pb, 0, none⟩), .pointer (some ⟨pd, 0, none⟩), .pointer (some ⟨pc, 0, none⟩)] w fun en w' => ∃ _ : Unit, en = .returned (.tuple #[]) ∧ True ∧ HS w [b] [.blk b t tot (setQ cs oa ob oc od (half q l r))] w' := by
  have la : oa < cs.length := (List.getElem?_eq_some_iff.1 ha).1
  have lb : ob < cs.length := (List.getElem?_eq_some_iff.1 hbb).1
  have lc : oc < cs.length := (List.getElem?_eq_some_iff.1 hc).1
  have ld : od < cs.length := (List.getElem?_eq_some_iff.1 hd).1
  refine enter (args := [_, _, _, _, _, _]) Try.func97 Try.ntmps97 rfl rfl (HS.enter_blk hb) ?_
  refine s_seq ?_
  refine s_draw [8] mixed ?_
  refine d_q 0 [[]] rfl (q_load_old rfl rfl sz_101 hra) (by kernel_rfl) (by kernel_rfl) (by kernel_rfl) rfl ?_
  refine d_p 1 rfl (p_pure rfl) (by kernel_rfl) rfl rfl ?_
  refine d_q 2 [[]] rfl (q_load (v := wv (q.a)) rfl rfl sz_57 (by repeat (first | exact .here | apply Pick.there)) (ha)) (by kernel_rfl) (by kernel_rfl) (by kernel_rfl) rfl ?_
  refine d_q 3 [[]] rfl (q_load_old rfl rfl sz_101 hrb) (by kernel_rfl) (by kernel_rfl) (by kernel_rfl) rfl ?_
  refine d_p 4 rfl (p_pure rfl) (by kernel_rfl) rfl rfl ?_
  refine d_q 5 [[]] rfl (q_load (v := wv (q.b)) rfl rfl sz_57 (by repeat (first | exact .here | apply Pick.there)) (hbb)) (by kernel_rfl) (by kernel_rfl) (by kernel_rfl) rfl ?_
  refine d_p 6 rfl (p_pure rfl) (by kernel_rfl) rfl rfl ?_
  try (refine d_slot (u16add _ _) ?_)
  refine d_p 7 rfl (p_pure rfl) (by kernel_rfl) rfl rfl ?_
  refine d_h0 8 rfl (h_store rfl rfl rfl sz_57 rfl (by repeat (first | exact .here | apply Put.there)) (by (try simp only [setMany_length]); omega) rfl) (by kernel_rfl) (fun w h => h.ent (by repeat (first | exact .nil | refine .cons (by repeat (first | exact .here | apply Pick.there)) ?_))) (fun _ _ => ?_)
  refine d_turn [] (by kernel_rfl) ?_
  refine d_nil (by kernel_rfl) (fun w h => h.ent (by repeat (first | exact .nil | refine .cons (by repeat (first | exact .here | apply Pick.there)) ?_))) ?_
  refine s_seq ?_
  refine s_draw [11] mixed ?_
  refine d_q 0 [[]] rfl (q_load_old rfl rfl sz_101 hrd) (by kernel_rfl) (by kernel_rfl) (by kernel_rfl) rfl ?_
  refine d_q 1 [[]] rfl (q_load_old rfl rfl sz_101 hrd) (by kernel_rfl) (by kernel_rfl) (by kernel_rfl) rfl ?_
  refine d_p 2 rfl (p_pure rfl) (by kernel_rfl) rfl rfl ?_
  refine d_q 3 [[]] rfl (q_load (v := wv (q.d)) rfl rfl sz_57 (by repeat (first | exact .here | apply Pick.there)) (get_set_ne hd h14)) (by kernel_rfl) (by kernel_rfl) (by kernel_rfl) rfl ?_
  refine d_q 4 [[]] rfl (q_load_old rfl rfl sz_101 hra) (by kernel_rfl) (by kernel_rfl) (by kernel_rfl) rfl ?_
  refine d_p 5 rfl (p_pure rfl) (by kernel_rfl) rfl rfl ?_
  refine d_q 6 [[]] rfl (q_load (v := wv (q.a + q.b)) rfl rfl sz_57 (by repeat (first | exact .here | apply Pick.there)) (get_set_eq ha)) (by kernel_rfl) (by kernel_rfl) (by kernel_rfl) rfl ?_
  refine d_p 7 rfl (p_pure rfl) (by kernel_rfl) rfl rfl ?_
  try (refine d_slot (u16xor _ _) ?_)
  refine d_p 8 rfl (p_pure rfl) (by kernel_rfl) rfl rfl ?_
  refine d_q 9 [[]] rfl (q_call rfl fn_98 rfl (fun w1 h1 => c98 w1 _ _ (by omega) (by omega))) (by kernel_rfl) (by kernel_rfl) (by kernel_rfl) rfl ?_
  refine d_p 10 rfl (p_pure rfl) (by kernel_rfl) rfl rfl ?_
  refine d_h0 11 rfl (h_store rfl rfl rfl sz_57 rfl (by repeat (first | exact .here | apply Put.there)) (by (try simp only [setMany_length]); omega) rfl) (by kernel_rfl) (fun w h => h.ent (by repeat (first | exact .nil | refine .cons (by repeat (first | exact .here | apply Pick.there)) ?_))) (fun _ _ => ?_)
  refine d_turn [] (by kernel_rfl) ?_
  refine d_nil (by kernel_rfl) (fun w h => h.ent (by repeat (first | exact .nil | refine .cons (by repeat (first | exact .here | apply Pick.there)) ?_))) ?_
  refine s_seq ?_
  refine s_draw [8] mixed ?_
  refine d_q 0 [[]] rfl (q_load_old rfl rfl sz_101 hrc) (by kernel_rfl) (by kernel_rfl) (by kernel_rfl) rfl ?_
  refine d_p 1 rfl (p_pure rfl) (by kernel_rfl) rfl rfl ?_
  refine d_q 2 [[]] rfl (q_load (v := wv (q.c)) rfl rfl sz_57 (by repeat (first | exact .here | apply Pick.there)) (get_set_ne (get_set_ne hc h13) h34.symm)) (by kernel_rfl) (by kernel_rfl) (by kernel_rfl) rfl ?_
  refine d_q 3 [[]] rfl (q_load_old rfl rfl sz_101 hrd) (by kernel_rfl) (by kernel_rfl) (by kernel_rfl) rfl ?_
  refine d_p 4 rfl (p_pure rfl) (by kernel_rfl) rfl rfl ?_
  refine d_q 5 [[]] rfl (q_load (v := wv (rotl (q.d ^^^ (q.a + q.b)) l)) rfl rfl sz_57 (by repeat (first | exact .here | apply Pick.there)) (get_set_eq (get_set_ne hd h14))) (by kernel_rfl) (by kernel_rfl) (by kernel_rfl) rfl ?_
  refine d_p 6 rfl (p_pure rfl) (by kernel_rfl) rfl rfl ?_
  try (refine d_slot (u16add _ _) ?_)
  refine d_p 7 rfl (p_pure rfl) (by kernel_rfl) rfl rfl ?_
  refine d_h0 8 rfl (h_store rfl rfl rfl sz_57 rfl (by repeat (first | exact .here | apply Put.there)) (by (try simp only [setMany_length]); omega) rfl) (by kernel_rfl) (fun w h => h.ent (by repeat (first | exact .nil | refine .cons (by repeat (first | exact .here | apply Pick.there)) ?_))) (fun _ _ => ?_)
  refine d_turn [] (by kernel_rfl) ?_
  refine d_nil (by kernel_rfl) (fun w h => h.ent (by repeat (first | exact .nil | refine .cons (by repeat (first | exact .here | apply Pick.there)) ?_))) ?_
  refine s_draw [11] mixed ?_
  refine d_q 0 [[]] rfl (q_load_old rfl rfl sz_101 hrb) (by kernel_rfl) (by kernel_rfl) (by kernel_rfl) rfl ?_
  refine d_q 1 [[]] rfl (q_load_old rfl rfl sz_101 hrb) (by kernel_rfl) (by kernel_rfl) (by kernel_rfl) rfl ?_
  refine d_p 2 rfl (p_pure rfl) (by kernel_rfl) rfl rfl ?_
  refine d_q 3 [[]] rfl (q_load (v := wv (q.b)) rfl rfl sz_57 (by repeat (first | exact .here | apply Pick.there)) (get_set_ne (get_set_ne (get_set_ne hbb h12) h24.symm) h23.symm)) (by kernel_rfl) (by kernel_rfl) (by kernel_rfl) rfl ?_
  refine d_q 4 [[]] rfl (q_load_old rfl rfl sz_101 hrc) (by kernel_rfl) (by kernel_rfl) (by kernel_rfl) rfl ?_
  refine d_p 5 rfl (p_pure rfl) (by kernel_rfl) rfl rfl ?_
  refine d_q 6 [[]] rfl (q_load (v := wv (q.c + rotl (q.d ^^^ (q.a + q.b)) l)) rfl rfl sz_57 (by repeat (first | exact .here | apply Pick.there)) (get_set_eq (get_set_ne (get_set_ne hc h13) h34.symm))) (by kernel_rfl) (by kernel_rfl) (by kernel_rfl) rfl ?_
  refine d_p 7 rfl (p_pure rfl) (by kernel_rfl) rfl rfl ?_
  try (refine d_slot (u16xor _ _) ?_)
  refine d_p 8 rfl (p_pure rfl) (by kernel_rfl) rfl rfl ?_
  refine d_q 9 [[]] rfl (q_call rfl fn_98 rfl (fun w1 h1 => c98 w1 _ _ (by omega) (by omega))) (by kernel_rfl) (by kernel_rfl) (by kernel_rfl) rfl ?_
  refine d_p 10 rfl (p_pure rfl) (by kernel_rfl) rfl rfl ?_
  refine d_h0 11 rfl (h_store rfl rfl rfl sz_57 rfl (by repeat (first | exact .here | apply Put.there)) (by (try simp only [setMany_length]); omega) rfl) (by kernel_rfl) (fun w h => h.ent (by repeat (first | exact .nil | refine .cons (by repeat (first | exact .here | apply Pick.there)) ?_))) (fun _ _ => ?_)
  refine d_turn [] (by kernel_rfl) ?_
  refine d_nil (by kernel_rfl) (fun w h => h.ent (by repeat (first | exact .nil | refine .cons (by repeat (first | exact .here | apply Pick.there)) ?_))) ?_
  exact s_end0 rfl (fun w' h' => ⟨(), rfl, trivial, h'⟩)

set_option maxRecDepth 20000 in
theorem c56 (w : World) (b oa ob oc od tot : Nat) (t : TypeId) (cs : List Value) (q : Q4) (hb : BlkOk b t tot cs w) (ha : cs[oa]? = some (wv q.a)) (hbb : cs[ob]? = some (wv q.b)) (hc : cs[oc]? = some (wv q.c)) (hd : cs[od]? = some (wv q.d)) (h12 : oa ≠ ob) (h13 : oa ≠ oc) (h14 : oa ≠ od) (h23 : ob ≠ oc) (h24 : ob ≠ od) (h34 : oc ≠ od) : Calls Try.prog 56 #[.pointer (some ⟨b, oa, none⟩), .pointer (some ⟨b, ob, none⟩), .pointer (some ⟨b, oc, none⟩), .pointer (some ⟨b, od, none⟩)] w fun en w' => ∃ _ : Unit, en = .returned (.tuple #[]) ∧ True ∧ HS w [b] [.blk b t tot (setQ cs oa ob oc od (quarter4 q))] w' := by
  have la : oa < cs.length := (List.getElem?_eq_some_iff.1 ha).1
  have lb : ob < cs.length := (List.getElem?_eq_some_iff.1 hbb).1
  have lc : oc < cs.length := (List.getElem?_eq_some_iff.1 hc).1
  have ld : od < cs.length := (List.getElem?_eq_some_iff.1 hd).1
  refine enter (args := [_, _, _, _]) Try.func56 Try.ntmps56 rfl rfl (HS.enter_blk hb) ?_
  refine s_seq ?_
  refine s_region ?_
  refine o_h (h_box rfl rfl) rfl (fun b1 _ => ?_)
  refine o_h (h_box rfl rfl) rfl (fun b2 _ => ?_)
  refine o_h (h_box rfl rfl) rfl (fun b3 _ => ?_)
  refine o_h (h_box rfl rfl) rfl (fun b4 _ => ?_)
  refine o_nil ?_
  refine s_seq ?_
  refine s_region ?_
  refine o_p (p_pure rfl) rfl ?_
  refine o_p (p_pure rfl) rfl ?_
  refine o_nil ?_
  refine s_seq ?_
  refine s_region ?_
  refine o_p (p_pure rfl) rfl ?_
  refine o_h (h_callv1 rfl rfl fn_97 rfl (by repeat (first | exact .here | apply Pick.there)) (fun w1 h1 => c97 w1 8 6 b oa ob oc od b1 b2 b3 b4 tot t (cs) (q) (by omega) (by omega) (by omega) (by omega) (h1.blk_get (by repeat (first | exact .here | apply Pick.there))) (h1.rd_other (by repeat (first | exact .here | apply Pick.there)) (by repeat (first | exact .here | apply Pick.there)) rfl) (h1.rd_other (by repeat (first | exact .here | apply Pick.there)) (by repeat (first | exact .here | apply Pick.there)) rfl) (h1.rd_other (by repeat (first | exact .here | apply Pick.there)) (by repeat (first | exact .here | apply Pick.there)) rfl) (h1.rd_other (by repeat (first | exact .here | apply Pick.there)) (by repeat (first | exact .here | apply Pick.there)) rfl) ha hbb hc hd h12 h13 h14 h23 h24 h34)) rfl (fun b5 _ => ?_)
  refine o_nil ?_
  refine s_region ?_
  refine o_p (p_pure rfl) rfl ?_
  refine o_h (h_callv1 rfl rfl fn_97 rfl (by repeat (first | exact .here | apply Pick.there)) (fun w1 h1 => c97 w1 4 3 b oa ob oc od b1 b2 b3 b4 tot t (setQ cs oa ob oc od (half q 8 6)) (half q 8 6) (by omega) (by omega) (by omega) (by omega) (h1.blk_get (by repeat (first | exact .here | apply Pick.there))) (h1.rd_other (by repeat (first | exact .here | apply Pick.there)) (by repeat (first | exact .here | apply Pick.there)) rfl) (h1.rd_other (by repeat (first | exact .here | apply Pick.there)) (by repeat (first | exact .here | apply Pick.there)) rfl) (h1.rd_other (by repeat (first | exact .here | apply Pick.there)) (by repeat (first | exact .here | apply Pick.there)) rfl) (h1.rd_other (by repeat (first | exact .here | apply Pick.there)) (by repeat (first | exact .here | apply Pick.there)) rfl) (setQ_a la h12 h13 h14) (setQ_b lb) (setQ_c lc h23) (setQ_d ld h24 h34) h12 h13 h14 h23 h24 h34)) rfl (fun b6 _ => ?_)
  refine o_nil ?_
  exact s_end0 rfl (fun w' h' => ⟨(), rfl, trivial, by rw [← setQ_setQ (q := half q 8 6) h12 h13 h14 h23 h24 h34]; exact h'.ent (by repeat (first | exact .nil | refine .cons (by repeat (first | exact .here | apply Pick.there)) ?_))⟩)

def wk13 (n0 n1 n2 n3 : Int) (k : Nat) : List Value := match k with | 0 => [.int .u16 0, .int .u16 0, .int .u16 0, .int .u16 0] | 1 => [.int .u16 n0, .int .u16 0, .int .u16 0, .int .u16 0] | 2 => [.int .u16 n0, .int .u16 n1, .int .u16 0, .int .u16 0] | 3 => [.int .u16 n0, .int .u16 n1, .int .u16 n2, .int .u16 0] | _ => [.int .u16 n0, .int .u16 n1, .int .u16 n2, .int .u16 n3]
def rk13 (n0 n1 n2 n3 : Int) (k : Nat) : List Value := match k with | 0 => [.int .i64 n0, .int .i64 n1, .int .i64 n2, .int .i64 n3] | 1 => [.int .i64 ((quarter4 ⟨wd n0, wd n1, wd n2, wd n3⟩).a.toNat : Int), .int .i64 n1, .int .i64 n2, .int .i64 n3] | 2 => [.int .i64 ((quarter4 ⟨wd n0, wd n1, wd n2, wd n3⟩).a.toNat : Int), .int .i64 ((quarter4 ⟨wd n0, wd n1, wd n2, wd n3⟩).b.toNat : Int), .int .i64 n2, .int .i64 n3] | 3 => [.int .i64 ((quarter4 ⟨wd n0, wd n1, wd n2, wd n3⟩).a.toNat : Int), .int .i64 ((quarter4 ⟨wd n0, wd n1, wd n2, wd n3⟩).b.toNat : Int), .int .i64 ((quarter4 ⟨wd n0, wd n1, wd n2, wd n3⟩).c.toNat : Int), .int .i64 n3] | _ => [.int .i64 ((quarter4 ⟨wd n0, wd n1, wd n2, wd n3⟩).a.toNat : Int), .int .i64 ((quarter4 ⟨wd n0, wd n1, wd n2, wd n3⟩).b.toNat : Int), .int .i64 ((quarter4 ⟨wd n0, wd n1, wd n2, wd n3⟩).c.toNat : Int), .int .i64 ((quarter4 ⟨wd n0, wd n1, wd n2, wd n3⟩).d.toNat : Int)]

set_option maxRecDepth 20000 in
theorem c13 (w : World) (n0 n1 n2 n3 : Int) : Calls Try.prog 13 #[.agg #[.int .i64 n0, .int .i64 n1, .int .i64 n2, .int .i64 n3]] w fun en w' => en = .returned (qof n0 n1 n2 n3) ∧ Below w.heap.size w w' := by
  refine enter (args := [_]) Try.func13 Try.ntmps13 rfl rfl (HS.refl w []) ?_
  refine s_seq ?_
  refine s_region ?_
  refine o_h (h_box rfl rfl) rfl (fun b1 _ => ?_)
  refine o_h (h_alloc rfl zr_22) rfl (fun b2 _ => ?_)
  refine o_p (p_pure rfl) rfl ?_
  refine o_nil ?_
  refine s_seq ?_
  refine s_region ?_
  refine o_h (h_alloc rfl zr_99) rfl (fun b3 _ => ?_)
  refine o_nil ?_
  refine s_seq ?_
  refine s_seq ?_
  refine s_region ?_
  refine o_q (q_loadn rfl rfl sz_22 (by repeat (first | exact .here | apply Pick.there)) rfl) rfl ?_
  refine o_p (p_pure rfl) rfl ?_
  refine o_nil ?_
  refine s_block ?_
  refine s_loopI (α := Nat) [3, 5, 6, 10, 11, 12, 13, 14, 15, 16, 17, 18, 19, 20, 21, 22] (fun k => [(10, .int .i64 (k : Int))]) (fun k => HS w [] [.blk b3 99 4 (wk13 n0 n1 n2 n3 k), .blk b2 22 4 [.int .i64 0, .int .i64 0, .int .i64 0, .int .i64 0], .blk b1 22 4 [.int .i64 n0, .int .i64 n1, .int .i64 n2, .int .i64 n3]]) (fun k => k ≤ 4 ∧ (0 < k → isWd n0) ∧ (1 < k → isWd n1) ∧ (2 < k → isWd n2) ∧ (3 < k → isWd n3)) (fun k => 4 - k) 0 (by simp) (by repeat (first | exact sl_n | refine sl_c rfl ?_)) (fun w h => h.ent (by repeat (first | exact .nil | refine .cons (by repeat (first | exact .here | apply Pick.there)) ?_))) (fun k hk => ?_)
  obtain ⟨hk0, hk1, hk2, hk3, hk4⟩ := hk
  rcases k with _ | _ | _ | _ | _ | k
  · skip
    refine s_seq ?_
    refine s_region ?_
    refine o_p (p_pure rfl) rfl ?_
    refine o_nil ?_
    refine s_seq ?_
    refine s_cond rfl (fun h4 => ?_) (fun h4 => ?_)
    · try simp only [decide_eq_true_eq, decide_eq_false_iff_not, Bool.not_eq_true', Bool.not_eq_false', Bool.and_eq_true, Bool.or_eq_true, Bool.and_eq_false_iff, Bool.or_eq_false_iff, Bool.not_true, Bool.not_false] at h4
      refine s_skip ?_
      refine s_seq ?_
      refine s_block ?_
      refine s_seq ?_
      refine s_region ?_
      refine o_p (p_pure rfl) rfl ?_
      first | refine o_p (p_index1 rfl rfl rfl ar_22 sz_3 _ rfl (by omega) rfl) rfl ?_ | refine o_p (p_index1 rfl rfl rfl ar_22 sz_3 (Int.toNat _) (Int.toNat_of_nonneg (by omega)).symm (by omega) rfl) rfl ?_
      refine o_p (p_pure rfl) rfl ?_
      refine o_p (p_pure rfl) rfl ?_
      refine o_nil ?_
      refine s_seq ?_
      refine s_seq ?_
      refine s_region ?_
      refine o_p (p_pure rfl) rfl ?_
      refine o_q (q_call rfl fn_55 rfl (fun w1 h1 => c55 w1 _)) rfl ?_
      refine o_p (p_pure rfl) rfl ?_
      refine o_nil ?_
      refine s_cond rfl (fun h5 => ?_) (fun h5 => ?_)
      · try simp only [decide_eq_true_eq, decide_eq_false_iff_not, Bool.not_eq_true', Bool.not_eq_false', Bool.and_eq_true, Bool.or_eq_true, Bool.and_eq_false_iff, Bool.or_eq_false_iff, Bool.not_true, Bool.not_false] at h5
        refine s_seq ?_
        refine s_region ?_
        refine o_p (p_build_arr (cs := [_, _, _, _]) rfl rfl ar_22 zr_22 rfl) rfl ?_
        refine o_h0 (h_store rfl rfl rfl sz_22 rfl (by repeat (first | exact .here | apply Put.there)) (by simp) rfl) (fun _ _ => ?_)
        refine o_p (p_pure rfl) rfl ?_
        refine o_nil ?_
        exact s_retv (rs := [.cell 2 22, .tmp 3]) rfl (.cell rfl sz_22 (by repeat (first | exact .here | apply Pick.there)) rfl (.tmp rfl (.nil))) (fun w' h' => ⟨by unfold qof; rw [if_neg]; rfl; intro hq; obtain ⟨q0, q1, q2, q3⟩ := hq; simp only [isWd] at q0 q1 q2 q3; omega, h'.below⟩)
      · try simp only [decide_eq_true_eq, decide_eq_false_iff_not, Bool.not_eq_true', Bool.not_eq_false', Bool.and_eq_true, Bool.or_eq_true, Bool.and_eq_false_iff, Bool.or_eq_false_iff, Bool.not_true, Bool.not_false] at h5
        refine s_skip ?_
        refine s_region ?_
        refine o_p (p_pure rfl) rfl ?_
        refine o_p (p_pure rfl) rfl ?_
        refine o_p (p_conv_int rfl rfl ki_3 ki_57) rfl ?_
        refine o_slot (u16wI (by first | assumption | (constructor <;> omega))) ?_
        first | refine o_p (p_indexAddr_arr rfl rfl rfl ar_99 _ rfl (by omega)) rfl ?_ | refine o_p (p_indexAddr_arr rfl rfl rfl ar_99 (Int.toNat _) (Int.toNat_of_nonneg (by omega)).symm (by omega)) rfl ?_
        refine o_h0 (h_store rfl rfl rfl sz_57 rfl (by repeat (first | exact .here | apply Put.there)) (by (try simp only [setMany_length]); simp [wk13, rk13]) rfl) (fun _ _ => ?_)
        refine o_nil ?_
        refine s_blk ?_
        refine s_region ?_
        refine o_p (p_pure rfl) rfl ?_
        try (refine o_slot (i64w (by omega) (by omega)) ?_)
        refine o_p (p_pure rfl) rfl ?_
        refine o_nil ?_
        exact s_backI 1 (by omega) (by refine ⟨by omega, ?_, ?_, ?_, ?_⟩ <;> intro _ <;> first | (exfalso; omega) | assumption | (exact hk1 (by omega)) | (exact hk2 (by omega)) | (exact hk3 (by omega)) | (exact hk4 (by omega))) (by repeat (first | exact sl_n | refine sl_c rfl ?_)) (fun w h => h.ent (by repeat (first | exact .nil | refine .cons (by repeat (first | exact .here | apply Pick.there)) ?_)))
    · try simp only [decide_eq_true_eq, decide_eq_false_iff_not, Bool.not_eq_true', Bool.not_eq_false', Bool.and_eq_true, Bool.or_eq_true, Bool.and_eq_false_iff, Bool.or_eq_false_iff, Bool.not_true, Bool.not_false] at h4
      exfalso; first | omega | (simp at h4; done) | (simp_all; done)
  · skip
    refine s_seq ?_
    refine s_region ?_
    refine o_p (p_pure rfl) rfl ?_
    refine o_nil ?_
    refine s_seq ?_
    refine s_cond rfl (fun h6 => ?_) (fun h6 => ?_)
    · try simp only [decide_eq_true_eq, decide_eq_false_iff_not, Bool.not_eq_true', Bool.not_eq_false', Bool.and_eq_true, Bool.or_eq_true, Bool.and_eq_false_iff, Bool.or_eq_false_iff, Bool.not_true, Bool.not_false] at h6
      refine s_skip ?_
      refine s_seq ?_
      refine s_block ?_
      refine s_seq ?_
      refine s_region ?_
      refine o_p (p_pure rfl) rfl ?_
      first | refine o_p (p_index1 rfl rfl rfl ar_22 sz_3 _ rfl (by omega) rfl) rfl ?_ | refine o_p (p_index1 rfl rfl rfl ar_22 sz_3 (Int.toNat _) (Int.toNat_of_nonneg (by omega)).symm (by omega) rfl) rfl ?_
      refine o_p (p_pure rfl) rfl ?_
      refine o_p (p_pure rfl) rfl ?_
      refine o_nil ?_
      refine s_seq ?_
      refine s_seq ?_
      refine s_region ?_
      refine o_p (p_pure rfl) rfl ?_
      refine o_q (q_call rfl fn_55 rfl (fun w1 h1 => c55 w1 _)) rfl ?_
      refine o_p (p_pure rfl) rfl ?_
      refine o_nil ?_
      refine s_cond rfl (fun h7 => ?_) (fun h7 => ?_)
      · try simp only [decide_eq_true_eq, decide_eq_false_iff_not, Bool.not_eq_true', Bool.not_eq_false', Bool.and_eq_true, Bool.or_eq_true, Bool.and_eq_false_iff, Bool.or_eq_false_iff, Bool.not_true, Bool.not_false] at h7
        refine s_seq ?_
        refine s_region ?_
        refine o_p (p_build_arr (cs := [_, _, _, _]) rfl rfl ar_22 zr_22 rfl) rfl ?_
        refine o_h0 (h_store rfl rfl rfl sz_22 rfl (by repeat (first | exact .here | apply Put.there)) (by simp) rfl) (fun _ _ => ?_)
        refine o_p (p_pure rfl) rfl ?_
        refine o_nil ?_
        exact s_retv (rs := [.cell 2 22, .tmp 3]) rfl (.cell rfl sz_22 (by repeat (first | exact .here | apply Pick.there)) rfl (.tmp rfl (.nil))) (fun w' h' => ⟨by unfold qof; rw [if_neg]; rfl; intro hq; obtain ⟨q0, q1, q2, q3⟩ := hq; simp only [isWd] at q0 q1 q2 q3; omega, h'.below⟩)
      · try simp only [decide_eq_true_eq, decide_eq_false_iff_not, Bool.not_eq_true', Bool.not_eq_false', Bool.and_eq_true, Bool.or_eq_true, Bool.and_eq_false_iff, Bool.or_eq_false_iff, Bool.not_true, Bool.not_false] at h7
        refine s_skip ?_
        refine s_region ?_
        refine o_p (p_pure rfl) rfl ?_
        refine o_p (p_pure rfl) rfl ?_
        refine o_p (p_conv_int rfl rfl ki_3 ki_57) rfl ?_
        refine o_slot (u16wI (by first | assumption | (constructor <;> omega))) ?_
        first | refine o_p (p_indexAddr_arr rfl rfl rfl ar_99 _ rfl (by omega)) rfl ?_ | refine o_p (p_indexAddr_arr rfl rfl rfl ar_99 (Int.toNat _) (Int.toNat_of_nonneg (by omega)).symm (by omega)) rfl ?_
        refine o_h0 (h_store rfl rfl rfl sz_57 rfl (by repeat (first | exact .here | apply Put.there)) (by (try simp only [setMany_length]); simp [wk13, rk13]) rfl) (fun _ _ => ?_)
        refine o_nil ?_
        refine s_blk ?_
        refine s_region ?_
        refine o_p (p_pure rfl) rfl ?_
        try (refine o_slot (i64w (by omega) (by omega)) ?_)
        refine o_p (p_pure rfl) rfl ?_
        refine o_nil ?_
        exact s_backI 2 (by omega) (by refine ⟨by omega, ?_, ?_, ?_, ?_⟩ <;> intro _ <;> first | (exfalso; omega) | assumption | (exact hk1 (by omega)) | (exact hk2 (by omega)) | (exact hk3 (by omega)) | (exact hk4 (by omega))) (by repeat (first | exact sl_n | refine sl_c rfl ?_)) (fun w h => h.ent (by repeat (first | exact .nil | refine .cons (by repeat (first | exact .here | apply Pick.there)) ?_)))
    · try simp only [decide_eq_true_eq, decide_eq_false_iff_not, Bool.not_eq_true', Bool.not_eq_false', Bool.and_eq_true, Bool.or_eq_true, Bool.and_eq_false_iff, Bool.or_eq_false_iff, Bool.not_true, Bool.not_false] at h6
      exfalso; first | omega | (simp at h6; done) | (simp_all; done)
  · skip
    refine s_seq ?_
    refine s_region ?_
    refine o_p (p_pure rfl) rfl ?_
    refine o_nil ?_
    refine s_seq ?_
    refine s_cond rfl (fun h8 => ?_) (fun h8 => ?_)
    · try simp only [decide_eq_true_eq, decide_eq_false_iff_not, Bool.not_eq_true', Bool.not_eq_false', Bool.and_eq_true, Bool.or_eq_true, Bool.and_eq_false_iff, Bool.or_eq_false_iff, Bool.not_true, Bool.not_false] at h8
      refine s_skip ?_
      refine s_seq ?_
      refine s_block ?_
      refine s_seq ?_
      refine s_region ?_
      refine o_p (p_pure rfl) rfl ?_
      first | refine o_p (p_index1 rfl rfl rfl ar_22 sz_3 _ rfl (by omega) rfl) rfl ?_ | refine o_p (p_index1 rfl rfl rfl ar_22 sz_3 (Int.toNat _) (Int.toNat_of_nonneg (by omega)).symm (by omega) rfl) rfl ?_
      refine o_p (p_pure rfl) rfl ?_
      refine o_p (p_pure rfl) rfl ?_
      refine o_nil ?_
      refine s_seq ?_
      refine s_seq ?_
      refine s_region ?_
      refine o_p (p_pure rfl) rfl ?_
      refine o_q (q_call rfl fn_55 rfl (fun w1 h1 => c55 w1 _)) rfl ?_
      refine o_p (p_pure rfl) rfl ?_
      refine o_nil ?_
      refine s_cond rfl (fun h9 => ?_) (fun h9 => ?_)
      · try simp only [decide_eq_true_eq, decide_eq_false_iff_not, Bool.not_eq_true', Bool.not_eq_false', Bool.and_eq_true, Bool.or_eq_true, Bool.and_eq_false_iff, Bool.or_eq_false_iff, Bool.not_true, Bool.not_false] at h9
        refine s_seq ?_
        refine s_region ?_
        refine o_p (p_build_arr (cs := [_, _, _, _]) rfl rfl ar_22 zr_22 rfl) rfl ?_
        refine o_h0 (h_store rfl rfl rfl sz_22 rfl (by repeat (first | exact .here | apply Put.there)) (by simp) rfl) (fun _ _ => ?_)
        refine o_p (p_pure rfl) rfl ?_
        refine o_nil ?_
        exact s_retv (rs := [.cell 2 22, .tmp 3]) rfl (.cell rfl sz_22 (by repeat (first | exact .here | apply Pick.there)) rfl (.tmp rfl (.nil))) (fun w' h' => ⟨by unfold qof; rw [if_neg]; rfl; intro hq; obtain ⟨q0, q1, q2, q3⟩ := hq; simp only [isWd] at q0 q1 q2 q3; omega, h'.below⟩)
      · try simp only [decide_eq_true_eq, decide_eq_false_iff_not, Bool.not_eq_true', Bool.not_eq_false', Bool.and_eq_true, Bool.or_eq_true, Bool.and_eq_false_iff, Bool.or_eq_false_iff, Bool.not_true, Bool.not_false] at h9
        refine s_skip ?_
        refine s_region ?_
        refine o_p (p_pure rfl) rfl ?_
        refine o_p (p_pure rfl) rfl ?_
        refine o_p (p_conv_int rfl rfl ki_3 ki_57) rfl ?_
        refine o_slot (u16wI (by first | assumption | (constructor <;> omega))) ?_
        first | refine o_p (p_indexAddr_arr rfl rfl rfl ar_99 _ rfl (by omega)) rfl ?_ | refine o_p (p_indexAddr_arr rfl rfl rfl ar_99 (Int.toNat _) (Int.toNat_of_nonneg (by omega)).symm (by omega)) rfl ?_
        refine o_h0 (h_store rfl rfl rfl sz_57 rfl (by repeat (first | exact .here | apply Put.there)) (by (try simp only [setMany_length]); simp [wk13, rk13]) rfl) (fun _ _ => ?_)
        refine o_nil ?_
        refine s_blk ?_
        refine s_region ?_
        refine o_p (p_pure rfl) rfl ?_
        try (refine o_slot (i64w (by omega) (by omega)) ?_)
        refine o_p (p_pure rfl) rfl ?_
        refine o_nil ?_
        exact s_backI 3 (by omega) (by refine ⟨by omega, ?_, ?_, ?_, ?_⟩ <;> intro _ <;> first | (exfalso; omega) | assumption | (exact hk1 (by omega)) | (exact hk2 (by omega)) | (exact hk3 (by omega)) | (exact hk4 (by omega))) (by repeat (first | exact sl_n | refine sl_c rfl ?_)) (fun w h => h.ent (by repeat (first | exact .nil | refine .cons (by repeat (first | exact .here | apply Pick.there)) ?_)))
    · try simp only [decide_eq_true_eq, decide_eq_false_iff_not, Bool.not_eq_true', Bool.not_eq_false', Bool.and_eq_true, Bool.or_eq_true, Bool.and_eq_false_iff, Bool.or_eq_false_iff, Bool.not_true, Bool.not_false] at h8
      exfalso; first | omega | (simp at h8; done) | (simp_all; done)
  · skip
    refine s_seq ?_
    refine s_region ?_
    refine o_p (p_pure rfl) rfl ?_
    refine o_nil ?_
    refine s_seq ?_
    refine s_cond rfl (fun h10 => ?_) (fun h10 => ?_)
    · try simp only [decide_eq_true_eq, decide_eq_false_iff_not, Bool.not_eq_true', Bool.not_eq_false', Bool.and_eq_true, Bool.or_eq_true, Bool.and_eq_false_iff, Bool.or_eq_false_iff, Bool.not_true, Bool.not_false] at h10
      refine s_skip ?_
      refine s_seq ?_
      refine s_block ?_
      refine s_seq ?_
      refine s_region ?_
      refine o_p (p_pure rfl) rfl ?_
      first | refine o_p (p_index1 rfl rfl rfl ar_22 sz_3 _ rfl (by omega) rfl) rfl ?_ | refine o_p (p_index1 rfl rfl rfl ar_22 sz_3 (Int.toNat _) (Int.toNat_of_nonneg (by omega)).symm (by omega) rfl) rfl ?_
      refine o_p (p_pure rfl) rfl ?_
      refine o_p (p_pure rfl) rfl ?_
      refine o_nil ?_
      refine s_seq ?_
      refine s_seq ?_
      refine s_region ?_
      refine o_p (p_pure rfl) rfl ?_
      refine o_q (q_call rfl fn_55 rfl (fun w1 h1 => c55 w1 _)) rfl ?_
      refine o_p (p_pure rfl) rfl ?_
      refine o_nil ?_
      refine s_cond rfl (fun h11 => ?_) (fun h11 => ?_)
      · try simp only [decide_eq_true_eq, decide_eq_false_iff_not, Bool.not_eq_true', Bool.not_eq_false', Bool.and_eq_true, Bool.or_eq_true, Bool.and_eq_false_iff, Bool.or_eq_false_iff, Bool.not_true, Bool.not_false] at h11
        refine s_seq ?_
        refine s_region ?_
        refine o_p (p_build_arr (cs := [_, _, _, _]) rfl rfl ar_22 zr_22 rfl) rfl ?_
        refine o_h0 (h_store rfl rfl rfl sz_22 rfl (by repeat (first | exact .here | apply Put.there)) (by simp) rfl) (fun _ _ => ?_)
        refine o_p (p_pure rfl) rfl ?_
        refine o_nil ?_
        exact s_retv (rs := [.cell 2 22, .tmp 3]) rfl (.cell rfl sz_22 (by repeat (first | exact .here | apply Pick.there)) rfl (.tmp rfl (.nil))) (fun w' h' => ⟨by unfold qof; rw [if_neg]; rfl; intro hq; obtain ⟨q0, q1, q2, q3⟩ := hq; simp only [isWd] at q0 q1 q2 q3; omega, h'.below⟩)
      · try simp only [decide_eq_true_eq, decide_eq_false_iff_not, Bool.not_eq_true', Bool.not_eq_false', Bool.and_eq_true, Bool.or_eq_true, Bool.and_eq_false_iff, Bool.or_eq_false_iff, Bool.not_true, Bool.not_false] at h11
        refine s_skip ?_
        refine s_region ?_
        refine o_p (p_pure rfl) rfl ?_
        refine o_p (p_pure rfl) rfl ?_
        refine o_p (p_conv_int rfl rfl ki_3 ki_57) rfl ?_
        refine o_slot (u16wI (by first | assumption | (constructor <;> omega))) ?_
        first | refine o_p (p_indexAddr_arr rfl rfl rfl ar_99 _ rfl (by omega)) rfl ?_ | refine o_p (p_indexAddr_arr rfl rfl rfl ar_99 (Int.toNat _) (Int.toNat_of_nonneg (by omega)).symm (by omega)) rfl ?_
        refine o_h0 (h_store rfl rfl rfl sz_57 rfl (by repeat (first | exact .here | apply Put.there)) (by (try simp only [setMany_length]); simp [wk13, rk13]) rfl) (fun _ _ => ?_)
        refine o_nil ?_
        refine s_blk ?_
        refine s_region ?_
        refine o_p (p_pure rfl) rfl ?_
        try (refine o_slot (i64w (by omega) (by omega)) ?_)
        refine o_p (p_pure rfl) rfl ?_
        refine o_nil ?_
        exact s_backI 4 (by omega) (by refine ⟨by omega, ?_, ?_, ?_, ?_⟩ <;> intro _ <;> first | (exfalso; omega) | assumption | (exact hk1 (by omega)) | (exact hk2 (by omega)) | (exact hk3 (by omega)) | (exact hk4 (by omega))) (by repeat (first | exact sl_n | refine sl_c rfl ?_)) (fun w h => h.ent (by repeat (first | exact .nil | refine .cons (by repeat (first | exact .here | apply Pick.there)) ?_)))
    · try simp only [decide_eq_true_eq, decide_eq_false_iff_not, Bool.not_eq_true', Bool.not_eq_false', Bool.and_eq_true, Bool.or_eq_true, Bool.and_eq_false_iff, Bool.or_eq_false_iff, Bool.not_true, Bool.not_false] at h10
      exfalso; first | omega | (simp at h10; done) | (simp_all; done)
  · skip
    refine s_seq ?_
    refine s_region ?_
    refine o_p (p_pure rfl) rfl ?_
    refine o_nil ?_
    refine s_seq ?_
    refine s_cond rfl (fun h12 => ?_) (fun h12 => ?_)
    · try simp only [decide_eq_true_eq, decide_eq_false_iff_not, Bool.not_eq_true', Bool.not_eq_false', Bool.and_eq_true, Bool.or_eq_true, Bool.and_eq_false_iff, Bool.or_eq_false_iff, Bool.not_true, Bool.not_false] at h12
      exfalso; first | omega | (simp at h12; done) | (simp_all; done)
    · try simp only [decide_eq_true_eq, decide_eq_false_iff_not, Bool.not_eq_true', Bool.not_eq_false', Bool.and_eq_true, Bool.or_eq_true, Bool.and_eq_false_iff, Bool.or_eq_false_iff, Bool.not_true, Bool.not_false] at h12
      refine s_exit_to rfl ?_
      refine s_seq ?_
      refine s_region ?_
      first | refine o_p (p_indexAddr_arr rfl rfl rfl ar_99 _ rfl (by omega)) rfl ?_ | refine o_p (p_indexAddr_arr rfl rfl rfl ar_99 (Int.toNat _) (Int.toNat_of_nonneg (by omega)).symm (by omega)) rfl ?_
      first | refine o_p (p_indexAddr_arr rfl rfl rfl ar_99 _ rfl (by omega)) rfl ?_ | refine o_p (p_indexAddr_arr rfl rfl rfl ar_99 (Int.toNat _) (Int.toNat_of_nonneg (by omega)).symm (by omega)) rfl ?_
      first | refine o_p (p_indexAddr_arr rfl rfl rfl ar_99 _ rfl (by omega)) rfl ?_ | refine o_p (p_indexAddr_arr rfl rfl rfl ar_99 (Int.toNat _) (Int.toNat_of_nonneg (by omega)).symm (by omega)) rfl ?_
      first | refine o_p (p_indexAddr_arr rfl rfl rfl ar_99 _ rfl (by omega)) rfl ?_ | refine o_p (p_indexAddr_arr rfl rfl rfl ar_99 (Int.toNat _) (Int.toNat_of_nonneg (by omega)).symm (by omega)) rfl ?_
      refine o_h (h_call1 rfl fn_56 rfl (by repeat (first | exact .here | apply Pick.there)) (fun w1 h1 => c56 w1 b3 0 1 2 3 4 99 [wv (wd n0), wv (wd n1), wv (wd n2), wv (wd n3)] ⟨wd n0, wd n1, wd n2, wd n3⟩ (by have := h1.blk_get (by repeat (first | exact .here | apply Pick.there)); rw [wv_wd (hk1 (by omega)), wv_wd (hk2 (by omega)), wv_wd (hk3 (by omega)), wv_wd (hk4 (by omega))]; exact this) rfl rfl rfl rfl (by decide) (by decide) (by decide) (by decide) (by decide) (by decide))) rfl (fun b13 _ => ?_)
      refine o_nil ?_
      refine s_seq ?_
      refine s_seq ?_
      refine s_region ?_
      refine o_q (q_loadn rfl rfl sz_99 (by repeat (first | exact .here | apply Pick.there)) rfl) rfl ?_
      refine o_p (p_pure rfl) rfl ?_
      refine o_nil ?_
      refine s_block ?_
      refine s_loopI (α := Nat) [7, 8, 29, 30, 31, 32, 33, 34, 35, 36, 37] (fun k => [(29, .int .i64 (k : Int))]) (fun k => HS w [] [.blk b1 22 4 (rk13 n0 n1 n2 n3 k), .blk b2 22 4 [.int .i64 0, .int .i64 0, .int .i64 0, .int .i64 0]]) (fun k => k ≤ 4) (fun k => 4 - k) 0 (by omega) (by repeat (first | exact sl_n | refine sl_c rfl ?_)) (fun w h => h.ent (by repeat (first | exact .nil | refine .cons (by repeat (first | exact .here | apply Pick.there)) ?_))) (fun k hk => ?_)
      rcases k with _ | _ | _ | _ | _ | k
      · skip
        refine s_seq ?_
        refine s_region ?_
        refine o_p (p_pure rfl) rfl ?_
        refine o_nil ?_
        refine s_seq ?_
        refine s_cond rfl (fun h14 => ?_) (fun h14 => ?_)
        · try simp only [decide_eq_true_eq, decide_eq_false_iff_not, Bool.not_eq_true', Bool.not_eq_false', Bool.and_eq_true, Bool.or_eq_true, Bool.and_eq_false_iff, Bool.or_eq_false_iff, Bool.not_true, Bool.not_false] at h14
          refine s_skip ?_
          refine s_seq ?_
          refine s_block ?_
          refine s_seq ?_
          refine s_region ?_
          refine o_p (p_pure rfl) rfl ?_
          first | refine o_p (p_index1 rfl rfl rfl ar_99 sz_57 _ rfl (by omega) rfl) rfl ?_ | refine o_p (p_index1 rfl rfl rfl ar_99 sz_57 (Int.toNat _) (Int.toNat_of_nonneg (by omega)).symm (by omega) rfl) rfl ?_
          refine o_p (p_pure rfl) rfl ?_
          refine o_p (p_pure rfl) rfl ?_
          refine o_nil ?_
          refine s_region ?_
          refine o_p (p_pure rfl) rfl ?_
          refine o_p (p_pure rfl) rfl ?_
          refine o_p (p_conv_int rfl rfl ki_57 ki_3) rfl ?_
          try (refine o_slot (i64w (by omega) (by omega)) ?_)
          try (refine o_slot (u16toI _) ?_)
          first | refine o_p (p_indexAddr_arr rfl rfl rfl ar_22 _ rfl (by omega)) rfl ?_ | refine o_p (p_indexAddr_arr rfl rfl rfl ar_22 (Int.toNat _) (Int.toNat_of_nonneg (by omega)).symm (by omega)) rfl ?_
          refine o_h0 (h_store rfl rfl rfl sz_3 rfl (by repeat (first | exact .here | apply Put.there)) (by (try simp only [setMany_length]); simp [wk13, rk13]) rfl) (fun _ _ => ?_)
          refine o_nil ?_
          refine s_blk ?_
          refine s_region ?_
          refine o_p (p_pure rfl) rfl ?_
          try (refine o_slot (i64w (by omega) (by omega)) ?_)
          refine o_p (p_pure rfl) rfl ?_
          refine o_nil ?_
          exact s_backI 1 (by omega) (by omega) (by repeat (first | exact sl_n | refine sl_c rfl ?_)) (fun w h => h.ent (by repeat (first | exact .nil | refine .cons (by repeat (first | exact .here | apply Pick.there)) ?_)))
        · try simp only [decide_eq_true_eq, decide_eq_false_iff_not, Bool.not_eq_true', Bool.not_eq_false', Bool.and_eq_true, Bool.or_eq_true, Bool.and_eq_false_iff, Bool.or_eq_false_iff, Bool.not_true, Bool.not_false] at h14
          exfalso; first | omega | (simp at h14; done) | (simp_all; done)
      · skip
        refine s_seq ?_
        refine s_region ?_
        refine o_p (p_pure rfl) rfl ?_
        refine o_nil ?_
        refine s_seq ?_
        refine s_cond rfl (fun h15 => ?_) (fun h15 => ?_)
        · try simp only [decide_eq_true_eq, decide_eq_false_iff_not, Bool.not_eq_true', Bool.not_eq_false', Bool.and_eq_true, Bool.or_eq_true, Bool.and_eq_false_iff, Bool.or_eq_false_iff, Bool.not_true, Bool.not_false] at h15
          refine s_skip ?_
          refine s_seq ?_
          refine s_block ?_
          refine s_seq ?_
          refine s_region ?_
          refine o_p (p_pure rfl) rfl ?_
          first | refine o_p (p_index1 rfl rfl rfl ar_99 sz_57 _ rfl (by omega) rfl) rfl ?_ | refine o_p (p_index1 rfl rfl rfl ar_99 sz_57 (Int.toNat _) (Int.toNat_of_nonneg (by omega)).symm (by omega) rfl) rfl ?_
          refine o_p (p_pure rfl) rfl ?_
          refine o_p (p_pure rfl) rfl ?_
          refine o_nil ?_
          refine s_region ?_
          refine o_p (p_pure rfl) rfl ?_
          refine o_p (p_pure rfl) rfl ?_
          refine o_p (p_conv_int rfl rfl ki_57 ki_3) rfl ?_
          try (refine o_slot (i64w (by omega) (by omega)) ?_)
          try (refine o_slot (u16toI _) ?_)
          first | refine o_p (p_indexAddr_arr rfl rfl rfl ar_22 _ rfl (by omega)) rfl ?_ | refine o_p (p_indexAddr_arr rfl rfl rfl ar_22 (Int.toNat _) (Int.toNat_of_nonneg (by omega)).symm (by omega)) rfl ?_
          refine o_h0 (h_store rfl rfl rfl sz_3 rfl (by repeat (first | exact .here | apply Put.there)) (by (try simp only [setMany_length]); simp [wk13, rk13]) rfl) (fun _ _ => ?_)
          refine o_nil ?_
          refine s_blk ?_
          refine s_region ?_
          refine o_p (p_pure rfl) rfl ?_
          try (refine o_slot (i64w (by omega) (by omega)) ?_)
          refine o_p (p_pure rfl) rfl ?_
          refine o_nil ?_
          exact s_backI 2 (by omega) (by omega) (by repeat (first | exact sl_n | refine sl_c rfl ?_)) (fun w h => h.ent (by repeat (first | exact .nil | refine .cons (by repeat (first | exact .here | apply Pick.there)) ?_)))
        · try simp only [decide_eq_true_eq, decide_eq_false_iff_not, Bool.not_eq_true', Bool.not_eq_false', Bool.and_eq_true, Bool.or_eq_true, Bool.and_eq_false_iff, Bool.or_eq_false_iff, Bool.not_true, Bool.not_false] at h15
          exfalso; first | omega | (simp at h15; done) | (simp_all; done)
      · skip
        refine s_seq ?_
        refine s_region ?_
        refine o_p (p_pure rfl) rfl ?_
        refine o_nil ?_
        refine s_seq ?_
        refine s_cond rfl (fun h16 => ?_) (fun h16 => ?_)
        · try simp only [decide_eq_true_eq, decide_eq_false_iff_not, Bool.not_eq_true', Bool.not_eq_false', Bool.and_eq_true, Bool.or_eq_true, Bool.and_eq_false_iff, Bool.or_eq_false_iff, Bool.not_true, Bool.not_false] at h16
          refine s_skip ?_
          refine s_seq ?_
          refine s_block ?_
          refine s_seq ?_
          refine s_region ?_
          refine o_p (p_pure rfl) rfl ?_
          first | refine o_p (p_index1 rfl rfl rfl ar_99 sz_57 _ rfl (by omega) rfl) rfl ?_ | refine o_p (p_index1 rfl rfl rfl ar_99 sz_57 (Int.toNat _) (Int.toNat_of_nonneg (by omega)).symm (by omega) rfl) rfl ?_
          refine o_p (p_pure rfl) rfl ?_
          refine o_p (p_pure rfl) rfl ?_
          refine o_nil ?_
          refine s_region ?_
          refine o_p (p_pure rfl) rfl ?_
          refine o_p (p_pure rfl) rfl ?_
          refine o_p (p_conv_int rfl rfl ki_57 ki_3) rfl ?_
          try (refine o_slot (i64w (by omega) (by omega)) ?_)
          try (refine o_slot (u16toI _) ?_)
          first | refine o_p (p_indexAddr_arr rfl rfl rfl ar_22 _ rfl (by omega)) rfl ?_ | refine o_p (p_indexAddr_arr rfl rfl rfl ar_22 (Int.toNat _) (Int.toNat_of_nonneg (by omega)).symm (by omega)) rfl ?_
          refine o_h0 (h_store rfl rfl rfl sz_3 rfl (by repeat (first | exact .here | apply Put.there)) (by (try simp only [setMany_length]); simp [wk13, rk13]) rfl) (fun _ _ => ?_)
          refine o_nil ?_
          refine s_blk ?_
          refine s_region ?_
          refine o_p (p_pure rfl) rfl ?_
          try (refine o_slot (i64w (by omega) (by omega)) ?_)
          refine o_p (p_pure rfl) rfl ?_
          refine o_nil ?_
          exact s_backI 3 (by omega) (by omega) (by repeat (first | exact sl_n | refine sl_c rfl ?_)) (fun w h => h.ent (by repeat (first | exact .nil | refine .cons (by repeat (first | exact .here | apply Pick.there)) ?_)))
        · try simp only [decide_eq_true_eq, decide_eq_false_iff_not, Bool.not_eq_true', Bool.not_eq_false', Bool.and_eq_true, Bool.or_eq_true, Bool.and_eq_false_iff, Bool.or_eq_false_iff, Bool.not_true, Bool.not_false] at h16
          exfalso; first | omega | (simp at h16; done) | (simp_all; done)
      · skip
        refine s_seq ?_
        refine s_region ?_
        refine o_p (p_pure rfl) rfl ?_
        refine o_nil ?_
        refine s_seq ?_
        refine s_cond rfl (fun h17 => ?_) (fun h17 => ?_)
        · try simp only [decide_eq_true_eq, decide_eq_false_iff_not, Bool.not_eq_true', Bool.not_eq_false', Bool.and_eq_true, Bool.or_eq_true, Bool.and_eq_false_iff, Bool.or_eq_false_iff, Bool.not_true, Bool.not_false] at h17
          refine s_skip ?_
          refine s_seq ?_
          refine s_block ?_
          refine s_seq ?_
          refine s_region ?_
          refine o_p (p_pure rfl) rfl ?_
          first | refine o_p (p_index1 rfl rfl rfl ar_99 sz_57 _ rfl (by omega) rfl) rfl ?_ | refine o_p (p_index1 rfl rfl rfl ar_99 sz_57 (Int.toNat _) (Int.toNat_of_nonneg (by omega)).symm (by omega) rfl) rfl ?_
          refine o_p (p_pure rfl) rfl ?_
          refine o_p (p_pure rfl) rfl ?_
          refine o_nil ?_
          refine s_region ?_
          refine o_p (p_pure rfl) rfl ?_
          refine o_p (p_pure rfl) rfl ?_
          refine o_p (p_conv_int rfl rfl ki_57 ki_3) rfl ?_
          try (refine o_slot (i64w (by omega) (by omega)) ?_)
          try (refine o_slot (u16toI _) ?_)
          first | refine o_p (p_indexAddr_arr rfl rfl rfl ar_22 _ rfl (by omega)) rfl ?_ | refine o_p (p_indexAddr_arr rfl rfl rfl ar_22 (Int.toNat _) (Int.toNat_of_nonneg (by omega)).symm (by omega)) rfl ?_
          refine o_h0 (h_store rfl rfl rfl sz_3 rfl (by repeat (first | exact .here | apply Put.there)) (by (try simp only [setMany_length]); simp [wk13, rk13]) rfl) (fun _ _ => ?_)
          refine o_nil ?_
          refine s_blk ?_
          refine s_region ?_
          refine o_p (p_pure rfl) rfl ?_
          try (refine o_slot (i64w (by omega) (by omega)) ?_)
          refine o_p (p_pure rfl) rfl ?_
          refine o_nil ?_
          exact s_backI 4 (by omega) (by omega) (by repeat (first | exact sl_n | refine sl_c rfl ?_)) (fun w h => h.ent (by repeat (first | exact .nil | refine .cons (by repeat (first | exact .here | apply Pick.there)) ?_)))
        · try simp only [decide_eq_true_eq, decide_eq_false_iff_not, Bool.not_eq_true', Bool.not_eq_false', Bool.and_eq_true, Bool.or_eq_true, Bool.and_eq_false_iff, Bool.or_eq_false_iff, Bool.not_true, Bool.not_false] at h17
          exfalso; first | omega | (simp at h17; done) | (simp_all; done)
      · skip
        refine s_seq ?_
        refine s_region ?_
        refine o_p (p_pure rfl) rfl ?_
        refine o_nil ?_
        refine s_seq ?_
        refine s_cond rfl (fun h18 => ?_) (fun h18 => ?_)
        · try simp only [decide_eq_true_eq, decide_eq_false_iff_not, Bool.not_eq_true', Bool.not_eq_false', Bool.and_eq_true, Bool.or_eq_true, Bool.and_eq_false_iff, Bool.or_eq_false_iff, Bool.not_true, Bool.not_false] at h18
          exfalso; first | omega | (simp at h18; done) | (simp_all; done)
        · try simp only [decide_eq_true_eq, decide_eq_false_iff_not, Bool.not_eq_true', Bool.not_eq_false', Bool.and_eq_true, Bool.or_eq_true, Bool.and_eq_false_iff, Bool.or_eq_false_iff, Bool.not_true, Bool.not_false] at h18
          refine s_exit_to rfl ?_
          refine s_seq ?_
          refine s_region ?_
          refine o_q (q_loadn rfl rfl sz_22 (by repeat (first | exact .here | apply Pick.there)) rfl) rfl ?_
          refine o_h0 (h_store rfl rfl rfl sz_22 rfl (by repeat (first | exact .here | apply Put.there)) (by simp) rfl) (fun _ _ => ?_)
          refine o_p (p_pure rfl) rfl ?_
          refine o_nil ?_
          exact s_retv (rs := [.cell 2 22, .tmp 3]) rfl (.cell rfl sz_22 (by repeat (first | exact .here | apply Pick.there)) rfl (.tmp rfl (.nil))) (fun w' h' => ⟨by unfold qof; rw [if_pos ⟨hk1 (by omega), hk2 (by omega), hk3 (by omega), hk4 (by omega)⟩]; rfl, h'.below⟩)
      · exfalso; omega
  · exfalso; omega

end Go.Proofs
