/- Contracts of the program's functions, proved by walking them with the rules of the Gx texts; without conditions beyond those that each contract names. -/
import Derived.Test.YtgdigngojonbhaaC25J
namespace Go.Proofs
open Go Go.RowKit Gx
set_option linter.unusedVariables false
set_option linter.unusedSimpArgs false
attribute [local irreducible] Go.Calls Gx.S Gx.O Gx.D Gx.OpP Gx.OpQ Gx.OpH

theorem fn_114 : isFn Try.prog 114 = true := by kernel_rfl
theorem pl_77 : tplaces Try.prog 77 = some [(0, 2), (2, 1), (3, 1)] := by kernel_rfl
theorem fn_116 : isFn Try.prog 116 = true := by kernel_rfl


section
variable {w0 w : World} {M : List Nat} {As As' : List HA} {a : Option Addr} {cap : Nat}
theorem HS.opens_none (h : HS w0 M As w) : HS w0 M (.opens none 0 [] :: As) w := HS.row_shut (n := 0) (xs := []) (h.star_nil.own_nil 48 5) rfl rfl
theorem HS.locks_none (h : HS w0 M As w) : HS w0 M (.locks none 0 [] :: As) w := h.own_nil 62 3
def newF (rc sq : Int) : LFil := ⟨rc, sq, false, none, 0, []⟩
def newO (x : LOpn) (next : Int) : LOpn := { x with hd := next, la := none, lc := 0, lk := [] }
theorem HS.files_ins {l : List LFil} {i n : Nat} {rc sq : Int} {xs : List Value} (h : HS w0 M (.own (.slice a n cap) 77 4 n xs :: .star (l.map subF) :: As) w) (hn : n = (insAt l i (newF rc sq)).length) (hx : xs = (insAt l i (newF rc sq)).flatMap LFil.vals) : HS w0 M (.files a cap (insAt l i (newF rc sq)) :: As) w := by
  have h1 : HS w0 M (subF (newF rc sq) :: .own (.slice a n cap) 77 4 n xs :: .star (l.map subF) :: As) w := HS.opens_none h
  have h2 : HS w0 M (.star ((insAt l i (newF rc sq)).map subF) :: .own (.slice a n cap) 77 4 n xs :: As) w := HS.sub_ins i (h1.perm (List.Perm.cons _ (List.Perm.swap ..)))
  exact HS.files_shut (h2.perm (List.Perm.swap ..)) hn hx
theorem HS.opens_app {l : List LOpn} {x : LOpn} {next : Int} {n : Nat} {xs : List Value} (h : HS w0 M (.own (.slice a n cap) 48 5 n xs :: .star (l.map subO) :: As) w) (hn : n = (l ++ [newO x next]).length) (hx : xs = (l ++ [newO x next]).flatMap LOpn.vals) : HS w0 M (.opens a cap (l ++ [newO x next]) :: As) w := by
  have h1 : HS w0 M (subO (newO x next) :: .own (.slice a n cap) 48 5 n xs :: .star (l.map subO) :: As) w := HS.locks_none h
  exact HS.opens_more (h1.perm ((List.Perm.swap ..).trans (List.Perm.cons _ (List.Perm.swap ..)))) hn hx
end
theorem ins_len {α : Type} {l : List α} {i : Nat} {x : α} (h : i ≤ l.length) : (insAt l i x).length = l.length + 1 := by
  simp only [insAt, List.length_append, List.length_take, List.length_cons, List.length_drop]
  omega
theorem ins_nth {α : Type} [Inhabited α] {l : List α} {i : Nat} {x : α} (h : i ≤ l.length) : nth (insAt l i x) i = x := nth_eq (by
  unfold insAt
  rw [List.getElem?_append_right (by rw [List.length_take]; omega), List.length_take, Nat.min_eq_left h, Nat.sub_self]
  rfl)
theorem ins_set {α : Type} {l : List α} {i : Nat} {x y : α} (h : i ≤ l.length) : (insAt l i x).set i y = insAt l i y := by
  unfold insAt
  rw [List.set_append_right _ _ (by rw [List.length_take]; omega), List.length_take, Nat.min_eq_left h, Nat.sub_self]
  rfl
theorem ins_flat {α : Type} {vals : α → List Value} {sz : Nat} (hv : ∀ x, (vals x).length = sz) (l : List α) (i : Nat) (x : α) : (l.flatMap vals).take (i * sz) ++ vals x ++ (l.flatMap vals).drop (i * sz) = (insAt l i x).flatMap vals := by
  rw [flat_take hv, flat_drop hv, insAt, flat_append, List.flatMap_cons, List.append_assoc]
theorem pls_ins {l : List LFil} {i : Nat} {x : LFil} : pls (insAt l i x) = insAt (pls l) i x.pl := by simp [pls, insAt, List.map_take, List.map_drop]
theorem ins_le {α : Type} {l : List α} {i : Nat} {x : α} : ∀ y ∈ insAt l i x, y = x ∨ y ∈ l := by
  intro y hy
  unfold insAt at hy
  rcases List.mem_append.1 hy with h | h
  · exact .inr (List.mem_of_mem_take h)
  · rcases List.mem_cons.1 h with h | h
    · exact .inl h
    · exact .inr (List.mem_of_mem_drop h)
theorem bsC_le (cs : List Int) : ∀ (n lo hi : Nat), lo ≤ hi → hi ≤ cs.length → bsC cs n lo hi ≤ cs.length
  | 0, lo, hi, h, h2 => by rw [bsC]; omega
  | n + 1, lo, hi, h, h2 => by
    rw [bsC]
    split
    · split
      · exact bsC_le cs n _ _ (by omega) h2
      · exact bsC_le cs n _ _ (by omega) (by omega)
    · omega
theorem bsL_le {L : List LFil} {rc sq : Int} : bsL (cmps (pls L) rc sq) ≤ L.length := by
  have h := bsC_le (cmps (pls L) rc sq) (cmps (pls L) rc sq).length 0 (cmps (pls L) rc sq).length (by omega) (by omega)
  have e : (cmps (pls L) rc sq).length = L.length := by simp [cmps, pls]
  unfold bsL
  omega
theorem bsF_lt {L : List LFil} {rc sq : Int} (h : bsF' (cmps (pls L) rc sq) = true) : bsL (cmps (pls L) rc sq) < L.length := by
  unfold bsF' at h
  simp only [Bool.and_eq_true, decide_eq_true_eq] at h
  have e : (cmps (pls L) rc sq).length = L.length := by simp [cmps, pls]
  omega
def oldE (f : Fil) (x : Opn) : Int := if f.pd = true then 30 else if f.op.any (cfl x) = true then 28 else 0
def putO (f : Fil) (x : Opn) (next : Int) : Fil := { f with op := f.op ++ [{ x with hd := next, lk := [] }] }
def opnE (next : Int) (L : List Fil) (rc sq : Int) (x : Opn) : Int := if refE rc sq = 0 then if openE x.ac x.sh = 0 then if cntT L < 32 ∧ next < 2147483647 then 0 else 16 else openE x.ac x.sh else refE rc sq
/-- The files, the next number, the handle, the error. -/
def openT (next : Int) (L : List Fil) (rc sq : Int) (x : Opn) : List Fil × Int × Int × Int :=
  if opnE next L rc sq x = 0 then
    if bsF' (cmps L rc sq) = true then
      if oldE (nth L (bsL (cmps L rc sq))) x = 0 then (updF L (bsL (cmps L rc sq)) fun f => putO f x next, next + 1, next, 0) else (L, next, 0, oldE (nth L (bsL (cmps L rc sq))) x)
    else (insAt L (bsL (cmps L rc sq)) (putO ⟨rc, sq, false, []⟩ x next), next + 1, next, 0)
  else (L, next, 0, opnE next L rc sq x)
theorem opnE_first {next : Int} {L : List Fil} {rc sq : Int} {x : Opn} : firstV [.int .i64 (refE rc sq), .int .i64 (openE x.ac x.sh), .int .i64 (bif decide ((cntT L : Int) < 32) && decide (next < 2147483647) then 0 else 16)] = opnE next L rc sq x := by
  simp only [firstV, opnE, cond_eq_ite]
  grind
theorem oldE_first {f : LFil} {x : LOpn} : firstV [.int .i64 (bif !f.pd then 0 else 30), .int .i64 (bif !(f.op.any fun y => cfl x.pl y.pl) then 0 else 28)] = oldE f.pl x.pl := by
  simp only [firstV, oldE, LFil.pl, cond_eq_ite, List.any_map, Function.comp_def]
  grind
theorem opnE_pos {next : Int} {L : List Fil} {rc sq : Int} {x : Opn} (h : opnE next L rc sq x = 0) : refE rc sq = 0 ∧ openE x.ac x.sh = 0 ∧ cntT L < 32 ∧ next < 2147483647 := by
  unfold opnE at h
  grind
theorem openT_old {next : Int} {L : List LFil} {rc sq : Int} {x : LOpn} {f : LFil} (h : opnE next (pls L) rc sq x.pl = 0) (hb : bsF' (cmps (pls L) rc sq) = true) (ho : oldE (nth L (bsL (cmps (pls L) rc sq))).pl x.pl = 0) (hf : f.pl = putO (nth L (bsL (cmps (pls L) rc sq))).pl x.pl next) : openT next (pls L) rc sq x.pl = (pls (L.set (bsL (cmps (pls L) rc sq)) f), next + 1, next, 0) := by
  have hi := bsF_lt hb
  unfold openT
  rw [if_pos h, if_pos hb, nth_pls hi, if_pos ho, updF, nth_pls hi, pls_set, hf]
theorem openT_new {next : Int} {L : List LFil} {rc sq : Int} {x : LOpn} {f : LFil} (h : opnE next (pls L) rc sq x.pl = 0) (hb : ¬ bsF' (cmps (pls L) rc sq) = true) (hf : f.pl = putO (newF rc sq).pl x.pl next) : openT next (pls L) rc sq x.pl = (pls ((insAt L (bsL (cmps (pls L) rc sq)) (newF rc sq)).set (bsL (cmps (pls L) rc sq)) f), next + 1, next, 0) := by
  unfold openT
  rw [if_pos h, if_neg hb, ins_set bsL_le, pls_ins, hf]
  rfl

set_option maxRecDepth 20000 in
theorem c115 (w : World) (b : Nat) (x y : LOpn) (hr : ∀ j v, x.vals[j]? = some v → Rd w [] b (0 + j) v) (ha : openE x.ac x.sh = 0) (hb : openE y.ac y.sh = 0) : Calls Try.prog 115 #[.agg #[.int .i64 y.hd, .int .i64 y.ac, .int .i64 y.sh, .bool y.dl, .slice y.la y.lk.length y.lc], .pointer (some ⟨b, 0, none⟩)] w fun en w' => en = .returned (.bool (cfl x.pl y.pl)) ∧ Below w.heap.size w w' := by
  refine enter (args := [_, _]) Try.func115 Try.ntmps115 rfl rfl (HS.refl w []) ?_
  refine s_seq ?_
  refine s_region ?_
  refine o_h (h_box rfl rfl) rfl (fun b1 _ => ?_)
  refine o_p (p_pure rfl) rfl ?_
  refine o_nil ?_
  refine s_seq ?_
  refine s_region ?_
  first | refine o_q (q_loadn rfl rfl sz_48 (by repeat (first | exact .here | apply Pick.there)) rfl) rfl ?_ | refine o_q (q_load_oldn _ rfl rfl sz_48 rfl hr) rfl ?_
  first | refine o_q (q_loadn rfl rfl sz_48 (by repeat (first | exact .here | apply Pick.there)) rfl) rfl ?_ | refine o_q (q_load_oldn _ rfl rfl sz_48 rfl hr) rfl ?_
  refine o_q (q_call rfl fn_63 rfl (fun w1 h1 => c63 w1 x y ha hb)) rfl ?_
  refine o_p (p_pure rfl) rfl ?_
  refine o_nil ?_
  exact s_retv (rs := [.tmp 3]) rfl (.tmp rfl (.nil)) (fun w' h' => ⟨rfl, h'.below⟩)

set_option maxRecDepth 20000 in
set_option maxHeartbeats 1000000 in
theorem c81 (w : World) (bt : Nat) (next : Int) (a : Option Addr) (cap : Nat) (L : List LFil) (rc sq : Int) (x : LOpn) (hw : HS w (fps [.blk bt 106 2 [.int .i64 (next), .slice a (L).length cap], .files a cap (L)]) [.blk bt 106 2 [.int .i64 (next), .slice a (L).length cap], .files a cap (L)] w) (hV : VW (pls L)) (hn0 : 0 ≤ next ∧ next ≤ 2147483647) : Calls Try.prog 81 #[.pointer (some ⟨bt, 0, none⟩), .agg #[.int .i64 rc, .int .i64 sq], .agg #[.int .i64 x.hd, .int .i64 x.ac, .int .i64 x.sh, .bool x.dl, .slice x.la x.lk.length x.lc]] w fun en w' => ∃ g : (Option Addr × Nat) × List LFil, en = .returned (.tuple #[.int .i64 (openT next (pls L) rc sq x.pl).2.2.1, .int .i64 (openT next (pls L) rc sq x.pl).2.2.2]) ∧ pls g.2 = (openT next (pls L) rc sq x.pl).1 ∧ HS w (fps [.blk bt 106 2 [.int .i64 (next), .slice a (L).length cap], .files a cap (L)]) [.blk bt 106 2 [.int .i64 ((openT next (pls L) rc sq x.pl).2.1), .slice g.1.1 (g.2).length g.1.2], .files g.1.1 g.1.2 (g.2)] w' := by
  have hL32 := (VW.lens hV).1
  have hll := (VW.lens hV).2
  have hcl := cntT_le (fun f hf => by have := hll f hf; omega) L.length (Nat.le_refl _)
  have hpl : (pls L).length = L.length := by simp
  refine enter (args := [_, _, _]) Try.func81 Try.ntmps81 rfl rfl hw ?_
  refine s_seq ?_
  refine s_region ?_
  refine o_h (h_box rfl rfl) rfl (fun b1 _ => ?_)
  refine o_h (h_box rfl rfl) rfl (fun b2 _ => ?_)
  refine o_p (p_pure rfl) rfl ?_
  refine o_p (p_pure rfl) rfl ?_
  refine o_nil ?_
  refine s_seq ?_
  refine s_region ?_
  refine o_p (p_pure rfl) rfl ?_
  refine o_nil ?_
  refine s_seq ?_
  refine s_seq ?_
  refine s_region ?_
  refine o_p (p_pure rfl) rfl ?_
  refine o_p (p_pure rfl) rfl ?_
  refine o_p (p_fieldAddr rfl rfl fd_106_0 sz_26 rfl) rfl ?_
  refine o_p (p_fieldAddr rfl rfl fd_26_1 sz_24 rfl) rfl ?_
  first | refine o_q (q_load rfl rfl sz_24 (by repeat (first | exact .here | apply Pick.there)) rfl) rfl ?_ | refine o_q (q_load_at rfl rfl sz_24 (fun w h => (h.rd_blk (Mc := []) (b := bt) (by repeat (first | exact .here | apply Pick.there)) rfl (by simp)))) rfl ?_ | refine o_q (q_load_at rfl rfl sz_24 (rfl (fun w h => Rw.rd (HS.ft (a := some ⟨ga, 0, none⟩) (cap := cap) (l := L) h (by repeat (first | exact .here | apply Pick.there))).1 hkl))) rfl ?_ | refine o_q (q_load_at rfl rfl sz_24 (rfl (fun w h => Rw.rd (HS.ft (a := some ⟨ga, 0, none⟩) (cap := cap) (l := L) h (by repeat (first | exact .here | apply Pick.there))).1 hi))) rfl ?_ | refine o_q (q_load_at rfl rfl sz_24 (fun w h => (h.rd_blk (Mc := []) (b := ga) (by repeat (first | exact .here | apply Pick.there)) (by rw [flat_get fv4 _ (bsL (cmps (pls L) rc sq)) 3 _ (nth_get hy1) (by decide)]; rfl) (by simp)))) rfl ?_
  first | refine o_p (p_len_slice rfl rfl Try.underlying24) rfl ?_ | refine o_q (q_len_own rfl rfl Try.underlying24 (by repeat (first | exact .here | apply Pick.there))) rfl ?_
  refine o_p (p_pure rfl) rfl ?_
  refine o_nil ?_
  refine s_block ?_
  refine s_loopI (α := Nat) [8, 10, 23, 24, 25, 26, 27, 28, 29, 30, 31, 32] (fun k => [(23, .int .i64 (k : Int)), (8, .int .i64 (cntT (pls (L.take k)) : Int))]) (fun _ => HS w (fps [.blk bt 106 2 [.int .i64 (next), .slice a (L).length cap], .files a cap (L)]) [.blk bt 106 2 [.int .i64 (next), .slice a (L).length cap], .files a cap (L), .blk b2 48 5 x.vals, .blk b1 42 2 [.int .i64 rc, .int .i64 sq]]) (fun k => k ≤ L.length) (fun k => L.length - k) 0 (by simp) (sl_c rfl (sl_c (congrArg (fun e => some (Value.int .i64 e)) (by simp [cntT, pls])) (by repeat (first | exact sl_n | refine sl_c rfl ?_)))) (fun w h => h.ent (by repeat (first | exact .nil | refine .cons (by repeat (first | exact .here | apply Pick.there)) ?_))) (fun k hk => ?_)
  have hck := cntT_le (fun f hf => by have := hll f hf; omega) k hk
  refine s_seq ?_
  refine s_region ?_
  refine o_p (p_pure rfl) rfl ?_
  refine o_nil ?_
  refine s_seq ?_
  refine s_cond rfl (fun h3 => ?_) (fun h3 => ?_)
  · try simp only [decide_eq_true_eq, decide_eq_false_iff_not, Bool.not_eq_true', Bool.not_eq_false', Bool.and_eq_true, Bool.or_eq_true, Bool.and_eq_false_iff, Bool.or_eq_false_iff, Bool.not_true, Bool.not_false] at h3
    have hkl : k < L.length := by omega
    have hlk9 := hll _ (mem_nth hkl)
    refine s_fact (fun w h => files_addr (l := L) (a := a) (cap := cap) (by omega) h (by repeat (first | exact .here | apply Pick.there))) (fun hga => ?_)
    obtain ⟨ga, rfl, hcap, hcm⟩ := hga
    refine s_skip ?_
    refine s_seq ?_
    refine s_block ?_
    refine s_seq ?_
    refine s_region ?_
    refine o_p (p_indexAddr rfl rfl rfl sl_24 (k) (by omega) (by omega) rfl) rfl ?_
    first | refine o_q (q_loadn rfl rfl sz_77 (by repeat (first | exact .here | apply Pick.there)) rfl) rfl ?_ | refine o_q (q_load_atn _ rfl rfl sz_77 fun w h => (h.rd_blk (Mc := []) (b := bt) (by repeat (first | exact .here | apply Pick.there)) rfl (by simp))) rfl ?_ | refine o_q (q_load_atn _ rfl rfl sz_77 rfl (fun w h => Rw.rd (HS.ft (a := some ⟨ga, 0, none⟩) (cap := cap) (l := L) h (by repeat (first | exact .here | apply Pick.there))).1 hkl)) rfl ?_ | refine o_q (q_load_atn _ rfl rfl sz_77 rfl (fun w h => Rw.rd (HS.ft (a := some ⟨ga, 0, none⟩) (cap := cap) (l := L) h (by repeat (first | exact .here | apply Pick.there))).1 hi)) rfl ?_ | refine o_q (q_load_atn _ rfl rfl sz_77 fun w h => (h.rd_blk (Mc := []) (b := ga) (by repeat (first | exact .here | apply Pick.there)) (by rw [flat_get fv4 _ (bsL (cmps (pls L) rc sq)) 3 _ (nth_get hy1) (by decide)]; rfl) (by simp))) rfl ?_
    refine o_h (h_alloc rfl zr_77) rfl (fun b4 _ => ?_)
    refine o_h0 (h_store rfl rfl rfl sz_77 rfl (by repeat (first | exact .here | apply Put.there)) (by simp only [setMany_length, List.length_set, List.length_cons, List.length_nil, List.length_map]; omega) rfl) (fun _ _ => ?_)
    refine o_nil ?_
    refine s_region ?_
    refine o_p (p_pure rfl) rfl ?_
    refine o_p (p_fieldAddr rfl rfl fd_77_2 sz_75 rfl) rfl ?_
    first | refine o_q (q_load rfl rfl sz_75 (by repeat (first | exact .here | apply Pick.there)) rfl) rfl ?_ | refine o_q (q_load_at rfl rfl sz_75 (fun w h => (h.rd_blk (Mc := []) (b := bt) (by repeat (first | exact .here | apply Pick.there)) rfl (by simp)))) rfl ?_ | refine o_q (q_load_at rfl rfl sz_75 (rfl (fun w h => Rw.rd (HS.ft (a := some ⟨ga, 0, none⟩) (cap := cap) (l := L) h (by repeat (first | exact .here | apply Pick.there))).1 hkl))) rfl ?_ | refine o_q (q_load_at rfl rfl sz_75 (rfl (fun w h => Rw.rd (HS.ft (a := some ⟨ga, 0, none⟩) (cap := cap) (l := L) h (by repeat (first | exact .here | apply Pick.there))).1 hi))) rfl ?_ | refine o_q (q_load_at rfl rfl sz_75 (fun w h => (h.rd_blk (Mc := []) (b := ga) (by repeat (first | exact .here | apply Pick.there)) (by rw [flat_get fv4 _ (bsL (cmps (pls L) rc sq)) 3 _ (nth_get hy1) (by decide)]; rfl) (by simp)))) rfl ?_
    first | refine o_p (p_len_slice rfl rfl Try.underlying75) rfl ?_ | refine o_q (q_len_own rfl rfl Try.underlying75 (by repeat (first | exact .here | apply Pick.there))) rfl ?_
    refine o_p (p_pure rfl) rfl ?_
    try (refine o_slot (i64w (by omega) (by omega)) ?_)
    refine o_p (p_pure rfl) rfl ?_
    refine o_nil ?_
    refine s_blk ?_
    refine s_region ?_
    refine o_p (p_pure rfl) rfl ?_
    try (refine o_slot (i64w (by omega) (by omega)) ?_)
    refine o_p (p_pure rfl) rfl ?_
    refine o_nil ?_
    exact s_backI (k + 1) (by omega) (by omega) (sl_c rfl (sl_c (congrArg (fun e => some (Value.int .i64 e)) (by rw [cntT_succ (by omega)]; omega)) (by repeat (first | exact sl_n | refine sl_c rfl ?_)))) (fun w h => h.ent (by repeat (first | exact .nil | refine .cons (by repeat (first | exact .here | apply Pick.there)) ?_)))
  · try simp only [decide_eq_true_eq, decide_eq_false_iff_not, Bool.not_eq_true', Bool.not_eq_false', Bool.and_eq_true, Bool.or_eq_true, Bool.and_eq_false_iff, Bool.or_eq_false_iff, Bool.not_true, Bool.not_false] at h3
    obtain rfl : k = L.length := by omega
    rw [List.take_length]
    refine s_exit_to rfl ?_
    refine s_seq ?_
    refine s_seq ?_
    refine s_cutI (α := Unit) [11, 33, 34, 35, 36, 37, 38, 39, 40, 41, 42, 43, 44, 45, 46, 47, 48, 49] (fun _ => [(11, .int .i64 (opnE next (pls L) rc sq x.pl))]) (fun _ => HS w (fps [.blk bt 106 2 [.int .i64 (next), .slice a (L).length cap], .files a cap (L)]) [.blk bt 106 2 [.int .i64 (next), .slice a (L).length cap], .files a cap (L), .blk b2 48 5 x.vals, .blk b1 42 2 [.int .i64 rc, .int .i64 sq]]) (fun _ => True) ?_ ?_
    · skip
      refine s_draw [] mixed ?_
      first | refine d_q 0 [] rfl (q_loadn rfl rfl sz_42 (by repeat (first | exact .here | apply Pick.there)) rfl) (by kernel_rfl) (by kernel_rfl) (by kernel_rfl) rfl ?_ | refine d_q 0 [] rfl (q_load_atn _ rfl rfl sz_42 fun w h => (h.rd_blk (Mc := []) (b := bt) (by repeat (first | exact .here | apply Pick.there)) rfl (by simp))) (by kernel_rfl) (by kernel_rfl) (by kernel_rfl) rfl ?_ | refine d_q 0 [] rfl (q_load_atn _ rfl rfl sz_42 rfl (fun w h => Rw.rd (HS.ft (a := some ⟨ga, 0, none⟩) (cap := cap) (l := L) h (by repeat (first | exact .here | apply Pick.there))).1 hkl)) (by kernel_rfl) (by kernel_rfl) (by kernel_rfl) rfl ?_ | refine d_q 0 [] rfl (q_load_atn _ rfl rfl sz_42 rfl (fun w h => Rw.rd (HS.ft (a := some ⟨ga, 0, none⟩) (cap := cap) (l := L) h (by repeat (first | exact .here | apply Pick.there))).1 hi)) (by kernel_rfl) (by kernel_rfl) (by kernel_rfl) rfl ?_ | refine d_q 0 [] rfl (q_load_atn _ rfl rfl sz_42 fun w h => (h.rd_blk (Mc := []) (b := ga) (by repeat (first | exact .here | apply Pick.there)) (by rw [flat_get fv4 _ (bsL (cmps (pls L) rc sq)) 3 _ (nth_get hy1) (by decide)]; rfl) (by simp))) (by kernel_rfl) (by kernel_rfl) (by kernel_rfl) rfl ?_
      refine d_q 1 [] rfl (q_call rfl fn_55 rfl (fun w1 h1 => c55 w1 rc sq)) (by kernel_rfl) (by kernel_rfl) (by kernel_rfl) rfl ?_
      first | refine d_q 2 [] rfl (q_loadn rfl rfl sz_48 (by repeat (first | exact .here | apply Pick.there)) rfl) (by kernel_rfl) (by kernel_rfl) (by kernel_rfl) rfl ?_ | refine d_q 2 [] rfl (q_load_atn _ rfl rfl sz_48 fun w h => (h.rd_blk (Mc := []) (b := bt) (by repeat (first | exact .here | apply Pick.there)) rfl (by simp))) (by kernel_rfl) (by kernel_rfl) (by kernel_rfl) rfl ?_ | refine d_q 2 [] rfl (q_load_atn _ rfl rfl sz_48 rfl (fun w h => Rw.rd (HS.ft (a := some ⟨ga, 0, none⟩) (cap := cap) (l := L) h (by repeat (first | exact .here | apply Pick.there))).1 hkl)) (by kernel_rfl) (by kernel_rfl) (by kernel_rfl) rfl ?_ | refine d_q 2 [] rfl (q_load_atn _ rfl rfl sz_48 rfl (fun w h => Rw.rd (HS.ft (a := some ⟨ga, 0, none⟩) (cap := cap) (l := L) h (by repeat (first | exact .here | apply Pick.there))).1 hi)) (by kernel_rfl) (by kernel_rfl) (by kernel_rfl) rfl ?_ | refine d_q 2 [] rfl (q_load_atn _ rfl rfl sz_48 fun w h => (h.rd_blk (Mc := []) (b := ga) (by repeat (first | exact .here | apply Pick.there)) (by rw [flat_get fv4 _ (bsL (cmps (pls L) rc sq)) 3 _ (nth_get hy1) (by decide)]; rfl) (by simp))) (by kernel_rfl) (by kernel_rfl) (by kernel_rfl) rfl ?_
      refine d_q 3 [] rfl (q_call rfl fn_62 rfl (fun w1 h1 => c62 w1 x)) (by kernel_rfl) (by kernel_rfl) (by kernel_rfl) rfl ?_
      refine d_p 4 rfl (p_pure rfl) (by kernel_rfl) rfl rfl ?_
      refine d_p 5 rfl (p_pure rfl) (by kernel_rfl) rfl rfl ?_
      refine d_p 6 rfl (p_pure rfl) (by kernel_rfl) rfl rfl ?_
      apply d_split 39
      · exact rfl
      · intro hg5
        have hs6 := hg5; try simp only [decide_eq_true_eq, decide_eq_false_iff_not, Bool.not_eq_true', Bool.not_eq_false', Bool.and_eq_true, Bool.or_eq_true, Bool.and_eq_false_iff, Bool.or_eq_false_iff, Bool.not_true, Bool.not_false] at hs6
        refine d_pon 7 39 rfl rfl rfl hg5 (p_pure rfl) (by kernel_rfl) rfl rfl ?_
        refine d_pon 8 39 rfl rfl rfl hg5 (p_pure rfl) (by kernel_rfl) rfl rfl ?_
        refine d_pon 9 39 rfl rfl rfl hg5 (p_fieldAddr rfl rfl fd_106_0 sz_26 rfl) (by kernel_rfl) rfl rfl ?_
        refine d_pon 10 39 rfl rfl rfl hg5 (p_fieldAddr rfl rfl fd_26_0 sz_3 rfl) (by kernel_rfl) rfl rfl ?_
        first | refine d_qon 11 39 [] rfl rfl rfl hg5 (q_load rfl rfl sz_3 (by repeat (first | exact .here | apply Pick.there)) rfl) (by kernel_rfl) (by kernel_rfl) (by kernel_rfl) rfl ?_ | refine d_qon 11 39 [] rfl rfl rfl hg5 (q_load_at rfl rfl sz_3 (fun w h => (h.rd_blk (Mc := []) (b := bt) (by repeat (first | exact .here | apply Pick.there)) rfl (by simp)))) (by kernel_rfl) (by kernel_rfl) (by kernel_rfl) rfl ?_ | refine d_qon 11 39 [] rfl rfl rfl hg5 (q_load_at rfl rfl sz_3 (rfl (fun w h => Rw.rd (HS.ft (a := some ⟨ga, 0, none⟩) (cap := cap) (l := L) h (by repeat (first | exact .here | apply Pick.there))).1 hkl))) (by kernel_rfl) (by kernel_rfl) (by kernel_rfl) rfl ?_ | refine d_qon 11 39 [] rfl rfl rfl hg5 (q_load_at rfl rfl sz_3 (rfl (fun w h => Rw.rd (HS.ft (a := some ⟨ga, 0, none⟩) (cap := cap) (l := L) h (by repeat (first | exact .here | apply Pick.there))).1 hi))) (by kernel_rfl) (by kernel_rfl) (by kernel_rfl) rfl ?_ | refine d_qon 11 39 [] rfl rfl rfl hg5 (q_load_at rfl rfl sz_3 (fun w h => (h.rd_blk (Mc := []) (b := ga) (by repeat (first | exact .here | apply Pick.there)) (by rw [flat_get fv4 _ (bsL (cmps (pls L) rc sq)) 3 _ (nth_get hy1) (by decide)]; rfl) (by simp)))) (by kernel_rfl) (by kernel_rfl) (by kernel_rfl) rfl ?_
        refine d_pon 12 39 rfl rfl rfl hg5 (p_pure rfl) (by kernel_rfl) rfl rfl ?_
        refine d_p 13 rfl (p_pickt rfl rfl hg5 rfl) (by kernel_rfl) rfl rfl ?_
        refine d_q 14 [] rfl (q_call rfl fn_48 rfl (fun w1 h1 => c48 w1 _ _)) (by kernel_rfl) (by kernel_rfl) (by kernel_rfl) rfl ?_
        refine d_h 15 rfl (h_buildSlice (cs := [_, _, _]) rfl rfl sl_146 zr_28 rfl rfl rfl) (by kernel_rfl) (fun w h => h.ent (by repeat (first | exact .nil | refine .cons (by repeat (first | exact .here | apply Pick.there)) ?_))) rfl (fun b7 _ => ?_)
        refine d_base (fun w h => h.ent (by repeat (first | exact .nil | refine .cons (by repeat (first | exact .here | apply Pick.there)) ?_))) ?_
        refine d_q 16 [] rfl (q_call rfl fn_52 rfl (fun w1 h1 => f52 h1 (by repeat (first | exact .here | apply Pick.there)) (by rfl) (by rfl) (by decide))) (by kernel_rfl) (by kernel_rfl) (by kernel_rfl) rfl ?_
        refine d_p 17 rfl (p_pure rfl) (by kernel_rfl) rfl rfl ?_
        refine d_nil (by kernel_rfl) (fun w h => h.ent (by repeat (first | exact .nil | refine .cons (by repeat (first | exact .here | apply Pick.there)) ?_))) ?_
        exact s_joinI () trivial (sl_c (congrArg (fun e => some (Value.int .i64 e)) (by rw [← opnE_first (x := x.pl), hg5]; rfl)) (by repeat (first | exact sl_n | refine sl_c rfl ?_))) (fun w h => h.ent (by repeat (first | exact .nil | refine .cons (by repeat (first | exact .here | apply Pick.there)) ?_)))
      · intro hg8
        have hs9 := hg8; try simp only [decide_eq_true_eq, decide_eq_false_iff_not, Bool.not_eq_true', Bool.not_eq_false', Bool.and_eq_true, Bool.or_eq_true, Bool.and_eq_false_iff, Bool.or_eq_false_iff, Bool.not_true, Bool.not_false] at hs9
        refine d_off 7 39 rfl rfl rfl hg8 (by kernel_rfl) rfl rfl ?_
        refine d_off 8 39 rfl rfl rfl hg8 (by kernel_rfl) rfl rfl ?_
        refine d_off 9 39 rfl rfl rfl hg8 (by kernel_rfl) rfl rfl ?_
        refine d_off 10 39 rfl rfl rfl hg8 (by kernel_rfl) rfl rfl ?_
        refine d_off 11 39 rfl rfl rfl hg8 (by kernel_rfl) rfl rfl ?_
        refine d_off 12 39 rfl rfl rfl hg8 (by kernel_rfl) rfl rfl ?_
        refine d_p 13 rfl (p_pickf rfl rfl hg8 rfl) (by kernel_rfl) rfl rfl ?_
        refine d_q 14 [] rfl (q_call rfl fn_48 rfl (fun w1 h1 => c48 w1 _ _)) (by kernel_rfl) (by kernel_rfl) (by kernel_rfl) rfl ?_
        refine d_h 15 rfl (h_buildSlice (cs := [_, _, _]) rfl rfl sl_146 zr_28 rfl rfl rfl) (by kernel_rfl) (fun w h => h.ent (by repeat (first | exact .nil | refine .cons (by repeat (first | exact .here | apply Pick.there)) ?_))) rfl (fun b10 _ => ?_)
        refine d_base (fun w h => h.ent (by repeat (first | exact .nil | refine .cons (by repeat (first | exact .here | apply Pick.there)) ?_))) ?_
        refine d_q 16 [] rfl (q_call rfl fn_52 rfl (fun w1 h1 => f52 h1 (by repeat (first | exact .here | apply Pick.there)) (by rfl) (by rfl) (by decide))) (by kernel_rfl) (by kernel_rfl) (by kernel_rfl) rfl ?_
        refine d_p 17 rfl (p_pure rfl) (by kernel_rfl) rfl rfl ?_
        refine d_nil (by kernel_rfl) (fun w h => h.ent (by repeat (first | exact .nil | refine .cons (by repeat (first | exact .here | apply Pick.there)) ?_))) ?_
        exact s_joinI () trivial (sl_c (congrArg (fun e => some (Value.int .i64 e)) (by rw [← opnE_first (x := x.pl), hg8]; rfl)) (by repeat (first | exact sl_n | refine sl_c rfl ?_))) (fun w h => h.ent (by repeat (first | exact .nil | refine .cons (by repeat (first | exact .here | apply Pick.there)) ?_)))
    · intro _ _
      refine s_seq ?_
      refine s_region ?_
      refine o_p (p_pure rfl) rfl ?_
      refine o_p (p_pure rfl) rfl ?_
      refine o_nil ?_
      refine s_cond rfl (fun h11 => ?_) (fun h11 => ?_)
      · try simp only [decide_eq_true_eq, decide_eq_false_iff_not, Bool.not_eq_true', Bool.not_eq_false', Bool.and_eq_true, Bool.or_eq_true, Bool.and_eq_false_iff, Bool.or_eq_false_iff, Bool.not_true, Bool.not_false] at h11
        have hne : ¬ opnE next (pls L) rc sq x.pl = 0 := h11
        refine s_seq ?_
        refine s_region ?_
        refine o_p (p_pure rfl) rfl ?_
        refine o_p (p_pure rfl) rfl ?_
        refine o_p (p_pure rfl) rfl ?_
        refine o_nil ?_
        exact s_retv (rs := [.tmp 6, .tmp 7]) rfl (.tmp rfl (.tmp rfl (.nil))) (fun w' h' => ⟨((a, cap), L), by rw [openT, if_neg hne]; rfl, by rw [openT, if_neg hne], by rw [openT, if_neg hne]; exact h'.ent (by repeat (first | exact .nil | refine .cons (by repeat (first | exact .here | apply Pick.there)) ?_))⟩)
      · try simp only [decide_eq_true_eq, decide_eq_false_iff_not, Bool.not_eq_true', Bool.not_eq_false', Bool.and_eq_true, Bool.or_eq_true, Bool.and_eq_false_iff, Bool.or_eq_false_iff, Bool.not_true, Bool.not_false] at h11
        have hz : opnE next (pls L) rc sq x.pl = 0 := h11
        obtain ⟨hz1, hz2, hz3, hz4⟩ := opnE_pos hz
        refine s_skip ?_
        refine s_seq ?_
        refine s_region ?_
        refine o_p (p_pure rfl) rfl ?_
        first | refine o_q (q_loadn rfl rfl sz_42 (by repeat (first | exact .here | apply Pick.there)) rfl) rfl ?_ | refine o_q (q_load_atn _ rfl rfl sz_42 fun w h => (h.rd_blk (Mc := []) (b := bt) (by repeat (first | exact .here | apply Pick.there)) rfl (by simp))) rfl ?_ | refine o_q (q_load_atn _ rfl rfl sz_42 rfl (fun w h => Rw.rd (HS.ft (a := some ⟨ga, 0, none⟩) (cap := cap) (l := L) h (by repeat (first | exact .here | apply Pick.there))).1 hkl)) rfl ?_ | refine o_q (q_load_atn _ rfl rfl sz_42 rfl (fun w h => Rw.rd (HS.ft (a := some ⟨ga, 0, none⟩) (cap := cap) (l := L) h (by repeat (first | exact .here | apply Pick.there))).1 hi)) rfl ?_ | refine o_q (q_load_atn _ rfl rfl sz_42 fun w h => (h.rd_blk (Mc := []) (b := ga) (by repeat (first | exact .here | apply Pick.there)) (by rw [flat_get fv4 _ (bsL (cmps (pls L) rc sq)) 3 _ (nth_get hy1) (by decide)]; rfl) (by simp))) rfl ?_
        refine o_q (q_call rfl fn_114 rfl (fun w1 h1 => c114 w1 bt a cap L rc sq (h1.rd_blk (Mc := []) (b := bt) (by repeat (first | exact .here | apply Pick.there)) rfl (by simp)) (h1.ft (by repeat (first | exact .here | apply Pick.there))) (by omega) (fun f hf => by have := hll f hf; omega))) rfl ?_
        refine o_p (p_pure rfl) rfl ?_
        refine o_p (p_pure rfl) rfl ?_
        refine o_p (p_pure rfl) rfl ?_
        refine o_p (p_pure rfl) rfl ?_
        refine o_p (p_pure rfl) rfl ?_
        refine o_nil ?_
        refine s_seq ?_
        refine s_seq ?_
        refine s_region ?_
        refine o_p (p_pure rfl) rfl ?_
        refine o_nil ?_
        refine s_weaken (L' := [(0, _), (1, _), (2, _), (4, _), (5, _), (6, _), (7, _), (8, _), (12, _), (17, _), (18, _), (19, _), (20, _), (21, _), (22, _), (23, _), (59, _)]) (by repeat (first | exact sl_n | refine sl_c rfl ?_)) (fun _ h => h) ?_
        refine s_cutI (α := (Option Addr × Nat) × List LFil) [6, 7, 14, 15, 16, 60, 61, 62, 63, 64, 65, 66, 67, 68, 69, 70, 71, 72, 73, 74, 75, 76, 77, 78, 79, 80, 81, 82, 83, 84, 85, 86, 87, 88, 89, 90, 91, 92, 93, 94, 95, 96, 97] (fun _ => []) (fun y : (Option Addr × Nat) × List LFil => HS w (fps [.blk bt 106 2 [.int .i64 (next), .slice a (L).length cap], .files a cap (L)]) [.blk bt 106 2 [.int .i64 (next), .slice y.1.1 y.2.length y.1.2], .files y.1.1 y.1.2 y.2, .blk b2 48 5 x.vals]) (fun y : (Option Addr × Nat) × List LFil => (bsL (cmps (pls L) rc sq)) < y.2.length ∧ (nth y.2 (bsL (cmps (pls L) rc sq))).op.length ≤ 32 ∧ y.2.length ≤ 33 ∧ opnE next (pls L) rc sq x.pl = 0 ∧ ∀ f : LFil, f.pl = putO (nth y.2 (bsL (cmps (pls L) rc sq))).pl x.pl next → (openT next (pls L) rc sq x.pl) = (pls (y.2.set (bsL (cmps (pls L) rc sq)) f), next + 1, next, 0)) ?_ ?_
        · skip
          refine s_cond rfl (fun h12 => ?_) (fun h12 => ?_)
          · try simp only [decide_eq_true_eq, decide_eq_false_iff_not, Bool.not_eq_true', Bool.not_eq_false', Bool.and_eq_true, Bool.or_eq_true, Bool.and_eq_false_iff, Bool.or_eq_false_iff, Bool.not_true, Bool.not_false] at h12
            have hbF := h12
            have hi := bsF_lt h12
            obtain ⟨ga, rfl, hcap, hcm⟩ := files_addr (by omega) hw (.there .here)
            refine s_seq ?_
            refine s_region ?_
            refine o_p (p_pure rfl) rfl ?_
            refine o_p (p_pure rfl) rfl ?_
            refine o_p (p_fieldAddr rfl rfl fd_106_0 sz_26 rfl) rfl ?_
            refine o_p (p_fieldAddr rfl rfl fd_26_1 sz_24 rfl) rfl ?_
            first | refine o_q (q_load rfl rfl sz_24 (by repeat (first | exact .here | apply Pick.there)) rfl) rfl ?_ | refine o_q (q_load_at rfl rfl sz_24 (fun w h => (h.rd_blk (Mc := []) (b := bt) (by repeat (first | exact .here | apply Pick.there)) rfl (by simp)))) rfl ?_ | refine o_q (q_load_at rfl rfl sz_24 (rfl (fun w h => Rw.rd (HS.ft (a := some ⟨ga, 0, none⟩) (cap := cap) (l := L) h (by repeat (first | exact .here | apply Pick.there))).1 hkl))) rfl ?_ | refine o_q (q_load_at rfl rfl sz_24 (rfl (fun w h => Rw.rd (HS.ft (a := some ⟨ga, 0, none⟩) (cap := cap) (l := L) h (by repeat (first | exact .here | apply Pick.there))).1 hi))) rfl ?_ | refine o_q (q_load_at rfl rfl sz_24 (fun w h => (h.rd_blk (Mc := []) (b := ga) (by repeat (first | exact .here | apply Pick.there)) (by rw [flat_get fv4 _ (bsL (cmps (pls L) rc sq)) 3 _ (nth_get hy1) (by decide)]; rfl) (by simp)))) rfl ?_
            refine o_p (p_pure rfl) rfl ?_
            refine o_p (p_indexAddr rfl rfl rfl sl_24 ((bsL (cmps (pls L) rc sq))) (by omega) (by omega) rfl) rfl ?_
            first | refine o_q (q_loadn rfl rfl sz_77 (by repeat (first | exact .here | apply Pick.there)) rfl) rfl ?_ | refine o_q (q_load_atn _ rfl rfl sz_77 fun w h => (h.rd_blk (Mc := []) (b := bt) (by repeat (first | exact .here | apply Pick.there)) rfl (by simp))) rfl ?_ | refine o_q (q_load_atn _ rfl rfl sz_77 rfl (fun w h => Rw.rd (HS.ft (a := some ⟨ga, 0, none⟩) (cap := cap) (l := L) h (by repeat (first | exact .here | apply Pick.there))).1 hkl)) rfl ?_ | refine o_q (q_load_atn _ rfl rfl sz_77 rfl (fun w h => Rw.rd (HS.ft (a := some ⟨ga, 0, none⟩) (cap := cap) (l := L) h (by repeat (first | exact .here | apply Pick.there))).1 hi)) rfl ?_ | refine o_q (q_load_atn _ rfl rfl sz_77 fun w h => (h.rd_blk (Mc := []) (b := ga) (by repeat (first | exact .here | apply Pick.there)) (by rw [flat_get fv4 _ (bsL (cmps (pls L) rc sq)) 3 _ (nth_get hy1) (by decide)]; rfl) (by simp))) rfl ?_
            refine o_h (h_alloc rfl zr_77) rfl (fun b13 _ => ?_)
            refine o_h0 (h_store rfl rfl rfl sz_77 rfl (by repeat (first | exact .here | apply Put.there)) (by simp only [setMany_length, List.length_set, List.length_cons, List.length_nil, List.length_map]; omega) rfl) (fun _ _ => ?_)
            refine o_nil ?_
            refine s_seq ?_
            refine s_region ?_
            refine o_p (p_fieldAddr rfl rfl fd_77_2 sz_75 rfl) rfl ?_
            first | refine o_q (q_load rfl rfl sz_75 (by repeat (first | exact .here | apply Pick.there)) rfl) rfl ?_ | refine o_q (q_load_at rfl rfl sz_75 (fun w h => (h.rd_blk (Mc := []) (b := bt) (by repeat (first | exact .here | apply Pick.there)) rfl (by simp)))) rfl ?_ | refine o_q (q_load_at rfl rfl sz_75 (rfl (fun w h => Rw.rd (HS.ft (a := some ⟨ga, 0, none⟩) (cap := cap) (l := L) h (by repeat (first | exact .here | apply Pick.there))).1 hkl))) rfl ?_ | refine o_q (q_load_at rfl rfl sz_75 (rfl (fun w h => Rw.rd (HS.ft (a := some ⟨ga, 0, none⟩) (cap := cap) (l := L) h (by repeat (first | exact .here | apply Pick.there))).1 hi))) rfl ?_ | refine o_q (q_load_at rfl rfl sz_75 (fun w h => (h.rd_blk (Mc := []) (b := ga) (by repeat (first | exact .here | apply Pick.there)) (by rw [flat_get fv4 _ (bsL (cmps (pls L) rc sq)) 3 _ (nth_get hy1) (by decide)]; rfl) (by simp)))) rfl ?_
            refine o_p (p_pure rfl) rfl ?_
            refine o_q (q_call rfl fn_95 rfl (fun w1 h1 => by have hot := (HS.ft (a := some ⟨ga, 0, none⟩) (cap := cap) (l := L) h1 (by repeat (first | exact .here | apply Pick.there))).at hi; have h9 := c95 w1 _ (nth L (bsL (cmps (pls L) rc sq))).oc (nth L (bsL (cmps (pls L) rc sq))).op 115 #[.pointer (some ⟨b2, 0, none⟩)] ((nth L (bsL (cmps (pls L) rc sq))).op.map fun y => cfl x.pl y.pl) hot.1 (by have := hll _ (mem_nth hi); omega) (by kernel_rfl) (by simp) (fun j w2 hj h2 => by rw [map_getD_nthB hj]; exact c115 w2 b2 x _ (fun p v hv => by rw [Nat.zero_add]; exact (h1.rd_blk (Mc := []) (by repeat (first | exact .here | apply Pick.there)) hv (by simp)).next h2) hz2 (VW.at hV hi hj).1); rw [any_map_id] at h9; exact h9)) rfl ?_
            refine o_p (p_pure rfl) rfl ?_
            refine o_p (p_pure rfl) rfl ?_
            refine o_nil ?_
            refine s_seq ?_
            refine s_weaken (L' := [(0, _), (1, _), (2, _), (4, _), (5, _), (6, _), (7, _), (8, _), (12, _), (14, _), (15, _), (17, _), (18, _), (19, _), (20, _), (21, _), (22, _), (23, _), (59, _)]) (by repeat (first | exact sl_n | refine sl_c rfl ?_)) (fun _ h => h) ?_
            refine s_region ?_
            refine o_p (p_fieldAddr rfl rfl fd_77_1 sz_4 rfl) rfl ?_
            first | refine o_q (q_load rfl rfl sz_4 (by repeat (first | exact .here | apply Pick.there)) rfl) rfl ?_ | refine o_q (q_load_at rfl rfl sz_4 (fun w h => (h.rd_blk (Mc := []) (b := bt) (by repeat (first | exact .here | apply Pick.there)) rfl (by simp)))) rfl ?_ | refine o_q (q_load_at rfl rfl sz_4 (rfl (fun w h => Rw.rd (HS.ft (a := some ⟨ga, 0, none⟩) (cap := cap) (l := L) h (by repeat (first | exact .here | apply Pick.there))).1 hkl))) rfl ?_ | refine o_q (q_load_at rfl rfl sz_4 (rfl (fun w h => Rw.rd (HS.ft (a := some ⟨ga, 0, none⟩) (cap := cap) (l := L) h (by repeat (first | exact .here | apply Pick.there))).1 hi))) rfl ?_ | refine o_q (q_load_at rfl rfl sz_4 (fun w h => (h.rd_blk (Mc := []) (b := ga) (by repeat (first | exact .here | apply Pick.there)) (by rw [flat_get fv4 _ (bsL (cmps (pls L) rc sq)) 3 _ (nth_get hy1) (by decide)]; rfl) (by simp)))) rfl ?_
            refine o_p (p_pure rfl) rfl ?_
            refine o_q (q_call rfl fn_48 rfl (fun w1 h1 => c48 w1 _ _)) rfl ?_
            refine o_p (p_pure rfl) rfl ?_
            refine o_q (q_call rfl fn_48 rfl (fun w1 h1 => c48 w1 _ _)) rfl ?_
            refine o_h (h_buildSlice (cs := [_, _]) rfl rfl sl_146 zr_28 rfl rfl rfl) rfl (fun b14 _ => ?_)
            refine o_q (q_call rfl fn_52 rfl (fun w1 h1 => f52 h1 (by repeat (first | exact .here | apply Pick.there)) (by rfl) (by rfl) (by decide))) rfl ?_
            refine o_p (p_pure rfl) rfl ?_
            refine o_nil ?_
            refine s_seq ?_
            refine s_region ?_
            refine o_p (p_pure rfl) rfl ?_
            refine o_p (p_pure rfl) rfl ?_
            refine o_nil ?_
            refine s_cond rfl (fun h15 => ?_) (fun h15 => ?_)
            · try simp only [decide_eq_true_eq, decide_eq_false_iff_not, Bool.not_eq_true', Bool.not_eq_false', Bool.and_eq_true, Bool.or_eq_true, Bool.and_eq_false_iff, Bool.or_eq_false_iff, Bool.not_true, Bool.not_false] at h15
              have hold : ¬ oldE (nth L (bsL (cmps (pls L) rc sq))).pl x.pl = 0 := by rw [← oldE_first]; exact h15
              refine s_seq ?_
              refine s_weaken (L' := [(0, _), (1, _), (2, _), (4, _), (5, _), (6, _), (7, _), (8, _), (12, _), (16, _), (17, _), (18, _), (19, _), (20, _), (21, _), (22, _), (23, _), (59, _)]) (by repeat (first | exact sl_n | refine sl_c rfl ?_)) (fun _ h => h) ?_
              refine s_region ?_
              refine o_p (p_pure rfl) rfl ?_
              refine o_p (p_pure rfl) rfl ?_
              refine o_p (p_pure rfl) rfl ?_
              refine o_nil ?_
              exact s_retv (rs := [.tmp 6, .tmp 7]) rfl (.tmp rfl (.tmp rfl (.nil))) (fun w' h' => ⟨((some ⟨ga, 0, none⟩, cap), L), by rw [openT, if_pos hz, if_pos hbF, nth_pls hi, if_neg hold, oldE_first]; rfl, by rw [openT, if_pos hz, if_pos hbF, nth_pls hi, if_neg hold], by rw [openT, if_pos hz, if_pos hbF, nth_pls hi, if_neg hold]; exact h'.ent (by repeat (first | exact .nil | refine .cons (by repeat (first | exact .here | apply Pick.there)) ?_))⟩)
            · try simp only [decide_eq_true_eq, decide_eq_false_iff_not, Bool.not_eq_true', Bool.not_eq_false', Bool.and_eq_true, Bool.or_eq_true, Bool.and_eq_false_iff, Bool.or_eq_false_iff, Bool.not_true, Bool.not_false] at h15
              have hold : oldE (nth L (bsL (cmps (pls L) rc sq))).pl x.pl = 0 := by rw [← oldE_first]; exact h15
              refine s_skip ?_
              exact s_joinI ((some ⟨ga, 0, none⟩, cap), L) ⟨hi, hll _ (mem_nth hi), by show L.length ≤ 33; omega, hz, fun f hf => openT_old hz hbF hold hf⟩ (by repeat (first | exact sl_n | refine sl_c rfl ?_)) (fun w h => h.ent (by repeat (first | exact .nil | refine .cons (by repeat (first | exact .here | apply Pick.there)) ?_)))
          · try simp only [decide_eq_true_eq, decide_eq_false_iff_not, Bool.not_eq_true', Bool.not_eq_false', Bool.and_eq_true, Bool.or_eq_true, Bool.and_eq_false_iff, Bool.or_eq_false_iff, Bool.not_true, Bool.not_false] at h12
            have hnF := h12
            have hib : (bsL (cmps (pls L) rc sq)) ≤ L.length := bsL_le
            refine s_class (fun w h => HS.files_open h (by repeat (first | exact .here | apply Pick.there))) ?_
            refine s_draw [10, 14] mixed ?_
            refine d_p 0 rfl (p_pure rfl) (by kernel_rfl) rfl rfl ?_
            refine d_p 1 rfl (p_pure rfl) (by kernel_rfl) rfl rfl ?_
            refine d_p 2 rfl (p_pure rfl) (by kernel_rfl) rfl rfl ?_
            refine d_p 3 rfl (p_fieldAddr rfl rfl fd_106_0 sz_26 rfl) (by kernel_rfl) rfl rfl ?_
            refine d_p 4 rfl (p_fieldAddr rfl rfl fd_26_1 sz_24 rfl) (by kernel_rfl) rfl rfl ?_
            first | refine d_q 5 [[], []] rfl (q_load rfl rfl sz_24 (by repeat (first | exact .here | apply Pick.there)) rfl) (by kernel_rfl) (by kernel_rfl) (by kernel_rfl) rfl ?_ | refine d_q 5 [[], []] rfl (q_load_at rfl rfl sz_24 (fun w h => (h.rd_blk (Mc := []) (b := bt) (by repeat (first | exact .here | apply Pick.there)) rfl (by simp)))) (by kernel_rfl) (by kernel_rfl) (by kernel_rfl) rfl ?_ | refine d_q 5 [[], []] rfl (q_load_at rfl rfl sz_24 (rfl (fun w h => Rw.rd (HS.ft (a := some ⟨ga, 0, none⟩) (cap := cap) (l := L) h (by repeat (first | exact .here | apply Pick.there))).1 hkl))) (by kernel_rfl) (by kernel_rfl) (by kernel_rfl) rfl ?_ | refine d_q 5 [[], []] rfl (q_load_at rfl rfl sz_24 (rfl (fun w h => Rw.rd (HS.ft (a := some ⟨ga, 0, none⟩) (cap := cap) (l := L) h (by repeat (first | exact .here | apply Pick.there))).1 hi))) (by kernel_rfl) (by kernel_rfl) (by kernel_rfl) rfl ?_ | refine d_q 5 [[], []] rfl (q_load_at rfl rfl sz_24 (fun w h => (h.rd_blk (Mc := []) (b := ga) (by repeat (first | exact .here | apply Pick.there)) (by rw [flat_get fv4 _ (bsL (cmps (pls L) rc sq)) 3 _ (nth_get hy1) (by decide)]; rfl) (by simp)))) (by kernel_rfl) (by kernel_rfl) (by kernel_rfl) rfl ?_
            refine d_p 6 rfl (p_pure rfl) (by kernel_rfl) rfl rfl ?_
            first | refine d_q 7 [[9, 8], []] rfl (q_loadn rfl rfl sz_42 (by repeat (first | exact .here | apply Pick.there)) rfl) (by kernel_rfl) (by kernel_rfl) (by kernel_rfl) rfl ?_ | refine d_q 7 [[9, 8], []] rfl (q_load_atn _ rfl rfl sz_42 fun w h => (h.rd_blk (Mc := []) (b := bt) (by repeat (first | exact .here | apply Pick.there)) rfl (by simp))) (by kernel_rfl) (by kernel_rfl) (by kernel_rfl) rfl ?_ | refine d_q 7 [[9, 8], []] rfl (q_load_atn _ rfl rfl sz_42 rfl (fun w h => Rw.rd (HS.ft (a := some ⟨ga, 0, none⟩) (cap := cap) (l := L) h (by repeat (first | exact .here | apply Pick.there))).1 hkl)) (by kernel_rfl) (by kernel_rfl) (by kernel_rfl) rfl ?_ | refine d_q 7 [[9, 8], []] rfl (q_load_atn _ rfl rfl sz_42 rfl (fun w h => Rw.rd (HS.ft (a := some ⟨ga, 0, none⟩) (cap := cap) (l := L) h (by repeat (first | exact .here | apply Pick.there))).1 hi)) (by kernel_rfl) (by kernel_rfl) (by kernel_rfl) rfl ?_ | refine d_q 7 [[9, 8], []] rfl (q_load_atn _ rfl rfl sz_42 fun w h => (h.rd_blk (Mc := []) (b := ga) (by repeat (first | exact .here | apply Pick.there)) (by rw [flat_get fv4 _ (bsL (cmps (pls L) rc sq)) 3 _ (nth_get hy1) (by decide)]; rfl) (by simp))) (by kernel_rfl) (by kernel_rfl) (by kernel_rfl) rfl ?_
            refine d_p 8 rfl (p_build (cs := [_, _, _, _]) rfl rfl pl_77 zr_77 rfl) (by kernel_rfl) rfl rfl ?_
            refine d_h 9 rfl (h_buildSlice (cs := [_, _, _, _]) rfl rfl sl_24 zr_77 rfl rfl rfl) (by kernel_rfl) (fun w h => h.ent (by repeat (first | exact .nil | refine .cons (by repeat (first | exact .here | apply Pick.there)) ?_))) rfl (fun b16 _ => ?_)
            refine d_base (fun w h => h.ent (by repeat (first | exact .nil | refine .cons (by repeat (first | exact .here | apply Pick.there)) ?_))) ?_
            refine d_h 10 rfl (h_callF (Cs := [.own (.slice a L.length cap) 77 4 L.length (L.flatMap LFil.vals), .blk b16 77 4 (newF rc sq).vals]) rfl fn_116 rfl (by repeat (first | exact Picks.nil | (apply Picks.cons; · (repeat (first | exact .here | apply Pick.there))))) (fun w1 h1 hf => c116 w1 a (bsL (cmps (pls L) rc sq)) L.length 1 cap _ _ b16 1 4 hf (by omega) rfl (fv1 (newF rc sq)) (flat_one fv1 _) (by omega) hib)) (by kernel_rfl) (fun w h => h.ent (by repeat (first | exact .nil | refine .cons (by repeat (first | exact .here | apply Pick.there)) ?_))) rfl (fun gn _ => ?_)
            refine d_turn [14] (by kernel_rfl) ?_
            refine d_p 11 rfl (p_pure rfl) (by kernel_rfl) rfl rfl ?_
            refine d_p 12 rfl (p_fieldAddr rfl rfl fd_106_0 sz_26 rfl) (by kernel_rfl) rfl rfl ?_
            refine d_p 13 rfl (p_fieldAddr rfl rfl fd_26_1 sz_24 rfl) (by kernel_rfl) rfl rfl ?_
            refine d_h0 14 rfl (h_store rfl rfl rfl sz_24 rfl (by repeat (first | exact .here | apply Put.there)) (by simp only [setMany_length, List.length_set, List.length_cons, List.length_nil, List.length_map]; omega) rfl) (by kernel_rfl) (fun w h => h.ent (by repeat (first | exact .nil | refine .cons (by repeat (first | exact .here | apply Pick.there)) ?_))) (fun _ _ => ?_)
            refine d_turn [] (by kernel_rfl) ?_
            refine d_nil (by kernel_rfl) (fun w h => h.ent (by repeat (first | exact .nil | refine .cons (by repeat (first | exact .here | apply Pick.there)) ?_))) ?_
            exact s_joinI ((gn.1, gn.2), insAt L (bsL (cmps (pls L) rc sq)) (newF rc sq)) ⟨by rw [ins_len hib]; omega, by rw [ins_nth hib]; simp [newF], by rw [ins_len hib]; omega, hz, fun f hf => openT_new hz (by rw [hnF]; decide) (by rw [ins_nth hib] at hf; exact hf)⟩ (by repeat (first | exact sl_n | refine sl_c rfl ?_)) (fun w h => by have h2 := HS.files_ins (i := (bsL (cmps (pls L) rc sq))) (rc := rc) (sq := sq) (h.ent (Bs := [.own (.slice gn.1 (L.length + 1) gn.2) 77 4 (L.length + 1) _, .star (L.map subF), .blk bt 106 2 _, .blk b2 48 5 x.vals]) (by repeat (first | exact .nil | refine .cons (by repeat (first | exact .here | apply Pick.there)) ?_))) (by rw [ins_len hib]) (ins_flat fv4 L (bsL (cmps (pls L) rc sq)) (newF rc sq)); rw [ins_len hib]; exact h2.ent (by repeat (first | exact .nil | refine .cons (by repeat (first | exact .here | apply Pick.there)) ?_)))
        · intro ⟨⟨ya, yc⟩, N⟩ hy
          dsimp only at hy ⊢
          obtain ⟨hy1, hy2, hy3, hz, hy4⟩ := hy
          obtain ⟨_, hz2, _, hz4⟩ := opnE_pos hz
          refine s_fact (fun w h => files_addr (l := N) (a := ya) (cap := yc) (by omega) h (by repeat (first | exact .here | apply Pick.there))) (fun hga => ?_)
          obtain ⟨ga, rfl, hcap, hcm⟩ := hga
          refine s_class (fun w h => HS.file_at hy1 h (by repeat (first | exact .here | apply Pick.there))) ?_
          refine s_class (fun w h => HS.opens_split (a := (nth N (bsL (cmps (pls L) rc sq))).oa) (cap := (nth N (bsL (cmps (pls L) rc sq))).oc) (l := (nth N (bsL (cmps (pls L) rc sq))).op) h (by repeat (first | exact .here | apply Pick.there))) ?_
          refine s_seq ?_
          refine s_region ?_
          refine o_p (p_pure rfl) rfl ?_
          refine o_p (p_pure rfl) rfl ?_
          refine o_p (p_fieldAddr rfl rfl fd_106_0 sz_26 rfl) rfl ?_
          refine o_p (p_fieldAddr rfl rfl fd_26_0 sz_3 rfl) rfl ?_
          first | refine o_q (q_load rfl rfl sz_3 (by repeat (first | exact .here | apply Pick.there)) rfl) rfl ?_ | refine o_q (q_load_at rfl rfl sz_3 (fun w h => (h.rd_blk (Mc := []) (b := bt) (by repeat (first | exact .here | apply Pick.there)) rfl (by simp)))) rfl ?_ | refine o_q (q_load_at rfl rfl sz_3 (rfl (fun w h => Rw.rd (HS.ft (a := some ⟨ga, 0, none⟩) (cap := cap) (l := L) h (by repeat (first | exact .here | apply Pick.there))).1 hkl))) rfl ?_ | refine o_q (q_load_at rfl rfl sz_3 (rfl (fun w h => Rw.rd (HS.ft (a := some ⟨ga, 0, none⟩) (cap := cap) (l := L) h (by repeat (first | exact .here | apply Pick.there))).1 hi))) rfl ?_ | refine o_q (q_load_at rfl rfl sz_3 (fun w h => (h.rd_blk (Mc := []) (b := ga) (by repeat (first | exact .here | apply Pick.there)) (by rw [flat_get fv4 _ (bsL (cmps (pls L) rc sq)) 3 _ (nth_get hy1) (by decide)]; rfl) (by simp)))) rfl ?_
          refine o_p (p_fieldAddr rfl rfl fd_48_0 sz_3 rfl) rfl ?_
          refine o_h0 (h_store rfl rfl rfl sz_3 rfl (by repeat (first | exact .here | apply Put.there)) (by first | (rw [ov5]; omega) | (rw [setMany_length, ov5]; omega) | decide) rfl) (fun _ _ => ?_)
          refine o_p (p_fieldAddr rfl rfl fd_48_4 sz_46 rfl) rfl ?_
          refine o_h0 (h_store rfl rfl rfl sz_46 rfl (by repeat (first | exact .here | apply Put.there)) (by first | (rw [ov5]; omega) | (rw [setMany_length, ov5]; omega) | decide) rfl) (fun _ _ => ?_)
          refine o_nil ?_
          refine s_seq ?_
          refine s_region ?_
          refine o_p (p_pure rfl) rfl ?_
          refine o_class (fun w h => HS.blk_to h (b := b2) (by repeat (first | exact .here | apply Pick.there)) (show _ = (newO x next).vals from rfl)) ?_
          refine o_p (p_pure rfl) rfl ?_
          refine o_p (p_fieldAddr rfl rfl fd_106_0 sz_26 rfl) rfl ?_
          refine o_p (p_fieldAddr rfl rfl fd_26_0 sz_3 rfl) rfl ?_
          first | refine o_q (q_load rfl rfl sz_3 (by repeat (first | exact .here | apply Pick.there)) rfl) rfl ?_ | refine o_q (q_load_at rfl rfl sz_3 (fun w h => (h.rd_blk (Mc := []) (b := bt) (by repeat (first | exact .here | apply Pick.there)) rfl (by simp)))) rfl ?_ | refine o_q (q_load_at rfl rfl sz_3 (rfl (fun w h => Rw.rd (HS.ft (a := some ⟨ga, 0, none⟩) (cap := cap) (l := L) h (by repeat (first | exact .here | apply Pick.there))).1 hkl))) rfl ?_ | refine o_q (q_load_at rfl rfl sz_3 (rfl (fun w h => Rw.rd (HS.ft (a := some ⟨ga, 0, none⟩) (cap := cap) (l := L) h (by repeat (first | exact .here | apply Pick.there))).1 hi))) rfl ?_ | refine o_q (q_load_at rfl rfl sz_3 (fun w h => (h.rd_blk (Mc := []) (b := ga) (by repeat (first | exact .here | apply Pick.there)) (by rw [flat_get fv4 _ (bsL (cmps (pls L) rc sq)) 3 _ (nth_get hy1) (by decide)]; rfl) (by simp)))) rfl ?_
          refine o_p (p_pure rfl) rfl ?_
          try (refine o_slot (i64w (by omega) (by omega)) ?_)
          refine o_p (p_pure rfl) rfl ?_
          refine o_p (p_fieldAddr rfl rfl fd_106_0 sz_26 rfl) rfl ?_
          refine o_p (p_fieldAddr rfl rfl fd_26_0 sz_3 rfl) rfl ?_
          refine o_h0 (h_store rfl rfl rfl sz_3 rfl (by repeat (first | exact .here | apply Put.there)) (by simp only [setMany_length, List.length_set, List.length_cons, List.length_nil, List.length_map]; omega) rfl) (fun _ _ => ?_)
          refine o_nil ?_
          refine s_seq ?_
          refine s_weaken (L' := [(0, _), (1, _), (2, _), (4, _), (5, _), (8, _), (12, _), (17, _), (18, _), (19, _), (20, _), (21, _), (22, _), (23, _)]) (by repeat (first | exact sl_n | refine sl_c rfl ?_)) (fun _ h => h) ?_
          refine s_drawB [.blk bt 106 2 [.int .i64 (next + 1), .slice (some ⟨ga, 0, none⟩) N.length yc], .blk ga 77 (yc * 4) (N.flatMap LFil.vals), .blk b2 48 5 (newO x next).vals, .star ((others N (bsL (cmps (pls L) rc sq))).map subF)] [20] mixed ?_
          refine d_p 0 rfl (p_pure rfl) (by kernel_rfl) rfl rfl ?_
          refine d_p 1 rfl (p_pure rfl) (by kernel_rfl) rfl rfl ?_
          refine d_p 2 rfl (p_fieldAddr rfl rfl fd_106_0 sz_26 rfl) (by kernel_rfl) rfl rfl ?_
          refine d_p 3 rfl (p_fieldAddr rfl rfl fd_26_1 sz_24 rfl) (by kernel_rfl) rfl rfl ?_
          first | refine d_q 4 [[]] rfl (q_load rfl rfl sz_24 (by repeat (first | exact .here | apply Pick.there)) rfl) (by kernel_rfl) (by kernel_rfl) (by kernel_rfl) rfl ?_ | refine d_q 4 [[]] rfl (q_load_at rfl rfl sz_24 (fun w h => (h.rd_blk (Mc := []) (b := bt) (by repeat (first | exact .here | apply Pick.there)) rfl (by simp)))) (by kernel_rfl) (by kernel_rfl) (by kernel_rfl) rfl ?_ | refine d_q 4 [[]] rfl (q_load_at rfl rfl sz_24 (rfl (fun w h => Rw.rd (HS.ft (a := some ⟨ga, 0, none⟩) (cap := cap) (l := L) h (by repeat (first | exact .here | apply Pick.there))).1 hkl))) (by kernel_rfl) (by kernel_rfl) (by kernel_rfl) rfl ?_ | refine d_q 4 [[]] rfl (q_load_at rfl rfl sz_24 (rfl (fun w h => Rw.rd (HS.ft (a := some ⟨ga, 0, none⟩) (cap := cap) (l := L) h (by repeat (first | exact .here | apply Pick.there))).1 hi))) (by kernel_rfl) (by kernel_rfl) (by kernel_rfl) rfl ?_ | refine d_q 4 [[]] rfl (q_load_at rfl rfl sz_24 (fun w h => (h.rd_blk (Mc := []) (b := ga) (by repeat (first | exact .here | apply Pick.there)) (by rw [flat_get fv4 _ (bsL (cmps (pls L) rc sq)) 3 _ (nth_get hy1) (by decide)]; rfl) (by simp)))) (by kernel_rfl) (by kernel_rfl) (by kernel_rfl) rfl ?_
          refine d_p 5 rfl (p_pure rfl) (by kernel_rfl) rfl rfl ?_
          refine d_p 6 rfl (p_pure rfl) (by kernel_rfl) rfl rfl ?_
          refine d_p 7 rfl (p_pure rfl) (by kernel_rfl) rfl rfl ?_
          refine d_p 8 rfl (p_fieldAddr rfl rfl fd_106_0 sz_26 rfl) (by kernel_rfl) rfl rfl ?_
          refine d_p 9 rfl (p_fieldAddr rfl rfl fd_26_1 sz_24 rfl) (by kernel_rfl) rfl rfl ?_
          first | refine d_q 10 [[]] rfl (q_load rfl rfl sz_24 (by repeat (first | exact .here | apply Pick.there)) rfl) (by kernel_rfl) (by kernel_rfl) (by kernel_rfl) rfl ?_ | refine d_q 10 [[]] rfl (q_load_at rfl rfl sz_24 (fun w h => (h.rd_blk (Mc := []) (b := bt) (by repeat (first | exact .here | apply Pick.there)) rfl (by simp)))) (by kernel_rfl) (by kernel_rfl) (by kernel_rfl) rfl ?_ | refine d_q 10 [[]] rfl (q_load_at rfl rfl sz_24 (rfl (fun w h => Rw.rd (HS.ft (a := some ⟨ga, 0, none⟩) (cap := cap) (l := L) h (by repeat (first | exact .here | apply Pick.there))).1 hkl))) (by kernel_rfl) (by kernel_rfl) (by kernel_rfl) rfl ?_ | refine d_q 10 [[]] rfl (q_load_at rfl rfl sz_24 (rfl (fun w h => Rw.rd (HS.ft (a := some ⟨ga, 0, none⟩) (cap := cap) (l := L) h (by repeat (first | exact .here | apply Pick.there))).1 hi))) (by kernel_rfl) (by kernel_rfl) (by kernel_rfl) rfl ?_ | refine d_q 10 [[]] rfl (q_load_at rfl rfl sz_24 (fun w h => (h.rd_blk (Mc := []) (b := ga) (by repeat (first | exact .here | apply Pick.there)) (by rw [flat_get fv4 _ (bsL (cmps (pls L) rc sq)) 3 _ (nth_get hy1) (by decide)]; rfl) (by simp)))) (by kernel_rfl) (by kernel_rfl) (by kernel_rfl) rfl ?_
          refine d_p 11 rfl (p_pure rfl) (by kernel_rfl) rfl rfl ?_
          refine d_p 12 rfl (p_indexAddr rfl rfl rfl sl_24 ((bsL (cmps (pls L) rc sq))) (by omega) (by omega) rfl) (by kernel_rfl) rfl rfl ?_
          refine d_slot (show _ = Value.pointer (some ⟨ga, (bsL (cmps (pls L) rc sq)) * 4, none⟩) from by rw [Nat.zero_add]) ?_
          refine d_p 13 rfl (p_fieldAddr rfl rfl fd_77_2 sz_75 rfl) (by kernel_rfl) rfl rfl ?_
          first | refine d_q 14 [[]] rfl (q_load rfl rfl sz_75 (by repeat (first | exact .here | apply Pick.there)) rfl) (by kernel_rfl) (by kernel_rfl) (by kernel_rfl) rfl ?_ | refine d_q 14 [[]] rfl (q_load_at rfl rfl sz_75 (fun w h => (h.rd_blk (Mc := []) (b := bt) (by repeat (first | exact .here | apply Pick.there)) rfl (by simp)))) (by kernel_rfl) (by kernel_rfl) (by kernel_rfl) rfl ?_ | refine d_q 14 [[]] rfl (q_load_at rfl rfl sz_75 (rfl (fun w h => Rw.rd (HS.ft (a := some ⟨ga, 0, none⟩) (cap := cap) (l := L) h (by repeat (first | exact .here | apply Pick.there))).1 hkl))) (by kernel_rfl) (by kernel_rfl) (by kernel_rfl) rfl ?_ | refine d_q 14 [[]] rfl (q_load_at rfl rfl sz_75 (rfl (fun w h => Rw.rd (HS.ft (a := some ⟨ga, 0, none⟩) (cap := cap) (l := L) h (by repeat (first | exact .here | apply Pick.there))).1 hi))) (by kernel_rfl) (by kernel_rfl) (by kernel_rfl) rfl ?_ | refine d_q 14 [[]] rfl (q_load_at rfl rfl sz_75 (fun w h => (h.rd_blk (Mc := []) (b := ga) (by repeat (first | exact .here | apply Pick.there)) (by rw [flat_get fv4 _ (bsL (cmps (pls L) rc sq)) 3 _ (nth_get hy1) (by decide)]; rfl) (by simp)))) (by kernel_rfl) (by kernel_rfl) (by kernel_rfl) rfl ?_
          first | refine d_q 15 [[]] rfl (q_loadn rfl rfl sz_48 (by repeat (first | exact .here | apply Pick.there)) rfl) (by kernel_rfl) (by kernel_rfl) (by kernel_rfl) rfl ?_ | refine d_q 15 [[]] rfl (q_load_atn _ rfl rfl sz_48 fun w h => (h.rd_blk (Mc := []) (b := bt) (by repeat (first | exact .here | apply Pick.there)) rfl (by simp))) (by kernel_rfl) (by kernel_rfl) (by kernel_rfl) rfl ?_ | refine d_q 15 [[]] rfl (q_load_atn _ rfl rfl sz_48 rfl (fun w h => Rw.rd (HS.ft (a := some ⟨ga, 0, none⟩) (cap := cap) (l := L) h (by repeat (first | exact .here | apply Pick.there))).1 hkl)) (by kernel_rfl) (by kernel_rfl) (by kernel_rfl) rfl ?_ | refine d_q 15 [[]] rfl (q_load_atn _ rfl rfl sz_48 rfl (fun w h => Rw.rd (HS.ft (a := some ⟨ga, 0, none⟩) (cap := cap) (l := L) h (by repeat (first | exact .here | apply Pick.there))).1 hi)) (by kernel_rfl) (by kernel_rfl) (by kernel_rfl) rfl ?_ | refine d_q 15 [[]] rfl (q_load_atn _ rfl rfl sz_48 fun w h => (h.rd_blk (Mc := []) (b := ga) (by repeat (first | exact .here | apply Pick.there)) (by rw [flat_get fv4 _ (bsL (cmps (pls L) rc sq)) 3 _ (nth_get hy1) (by decide)]; rfl) (by simp))) (by kernel_rfl) (by kernel_rfl) (by kernel_rfl) rfl ?_
          refine d_h 16 rfl (h_buildSlice (cs := [_, _, _, _, _]) rfl rfl sl_75 zr_48 rfl rfl rfl) (by kernel_rfl) (fun w h => h.ent (by repeat (first | exact .nil | refine .cons (by repeat (first | exact .here | apply Pick.there)) ?_))) rfl (fun b17 _ => ?_)
          refine d_h 17 rfl (h_appendS (n := (nth N (bsL (cmps (pls L) rc sq))).op.length) (newO x next).vals rfl rfl rfl sl_75 Try.underlying75 zr_48 rfl (by repeat (first | exact .here | apply Pick.there)) (src_blk (by repeat (first | exact .here | apply Pick.there))) rfl (ov1 (newO x next)) (by omega) (by simp only [maxLen]; omega)) (by kernel_rfl) (fun w h => h.ent (by repeat (first | exact .nil | refine .cons (by repeat (first | exact .here | apply Pick.there)) ?_))) rfl (fun b18 _ => ?_)
          refine d_p 18 rfl (p_indexAddr rfl rfl rfl sl_24 ((bsL (cmps (pls L) rc sq))) (by omega) (by omega) rfl) (by kernel_rfl) rfl rfl ?_
          refine d_slot (show _ = Value.pointer (some ⟨ga, (bsL (cmps (pls L) rc sq)) * 4, none⟩) from by rw [Nat.zero_add]) ?_
          refine d_p 19 rfl (p_fieldAddr rfl rfl fd_77_2 sz_75 rfl) (by kernel_rfl) rfl rfl ?_
          refine d_h0 20 rfl (h_store rfl rfl rfl sz_75 rfl (by repeat (first | exact .here | apply Put.there)) (by rw [flat_length fv4]; omega) rfl) (by kernel_rfl) (fun w h => h.ent (by repeat (first | exact .nil | refine .cons (by repeat (first | exact .here | apply Pick.there)) ?_))) (fun _ _ => ?_)
          refine d_turn [] (by kernel_rfl) ?_
          refine d_nil (by kernel_rfl) (fun w h => h.ent (by repeat (first | exact .nil | refine .cons (by repeat (first | exact .here | apply Pick.there)) ?_))) ?_
          refine s_seq ?_
          refine s_weaken (L' := [(0, _), (1, _), (2, _), (4, _), (5, _), (8, _), (17, _), (18, _), (19, _), (20, _), (21, _), (22, _), (23, _)]) (by repeat (first | exact sl_n | refine sl_c rfl ?_)) (fun _ h => h) ?_
          refine s_region ?_
          refine o_p (p_fieldAddr rfl rfl fd_48_0 sz_3 rfl) rfl ?_
          first | refine o_q (q_load rfl rfl sz_3 (by repeat (first | exact .here | apply Pick.there)) rfl) rfl ?_ | refine o_q (q_load_at rfl rfl sz_3 (fun w h => (h.rd_blk (Mc := []) (b := bt) (by repeat (first | exact .here | apply Pick.there)) rfl (by simp)))) rfl ?_ | refine o_q (q_load_at rfl rfl sz_3 (rfl (fun w h => Rw.rd (HS.ft (a := some ⟨ga, 0, none⟩) (cap := cap) (l := L) h (by repeat (first | exact .here | apply Pick.there))).1 hkl))) rfl ?_ | refine o_q (q_load_at rfl rfl sz_3 (rfl (fun w h => Rw.rd (HS.ft (a := some ⟨ga, 0, none⟩) (cap := cap) (l := L) h (by repeat (first | exact .here | apply Pick.there))).1 hi))) rfl ?_ | refine o_q (q_load_at rfl rfl sz_3 (fun w h => (h.rd_blk (Mc := []) (b := ga) (by repeat (first | exact .here | apply Pick.there)) (by rw [flat_get fv4 _ (bsL (cmps (pls L) rc sq)) 3 _ (nth_get hy1) (by decide)]; rfl) (by simp)))) rfl ?_
          refine o_p (p_pure rfl) rfl ?_
          refine o_p (p_pure rfl) rfl ?_
          refine o_nil ?_
          exact s_retv (rs := [.tmp 6, .tmp 7]) rfl (.tmp rfl (.tmp rfl (.nil))) (fun w' h' => by have hf := hy4 { nth N (bsL (cmps (pls L) rc sq)) with oa := b18.1, oc := b18.2, op := (nth N (bsL (cmps (pls L) rc sq))).op ++ [newO x next] } (by simp [LFil.pl, putO, newO, LOpn.pl]); exact ⟨((some ⟨ga, 0, none⟩, yc), N.set (bsL (cmps (pls L) rc sq)) { nth N (bsL (cmps (pls L) rc sq)) with oa := b18.1, oc := b18.2, op := (nth N (bsL (cmps (pls L) rc sq))).op ++ [newO x next] }), by rw [hf]; rfl, by rw [hf], by rw [hf]; have h2 := HS.opens_app (next := next) (x := x) (l := (nth N (bsL (cmps (pls L) rc sq))).op) (h'.ent (Bs := [.own (.slice b18.1 ((nth N (bsL (cmps (pls L) rc sq))).op.length + 1) b18.2) 48 5 ((nth N (bsL (cmps (pls L) rc sq))).op.length + 1) _, .star ((nth N (bsL (cmps (pls L) rc sq))).op.map subO), .blk ga 77 (yc * 4) _, .star ((others N (bsL (cmps (pls L) rc sq))).map subF), .blk bt 106 2 [.int .i64 (next + 1), .slice (some ⟨ga, 0, none⟩) N.length yc]]) (by repeat (first | exact .nil | refine .cons (by repeat (first | exact .here | apply Pick.there)) ?_))) (by simp) (by rw [flat_append]; rfl); have h3 := HS.file_put (f := { nth N (bsL (cmps (pls L) rc sq)) with oa := b18.1, oc := b18.2, op := (nth N (bsL (cmps (pls L) rc sq))).op ++ [newO x next] }) hy1 (h2.perm (List.Perm.swap ..)) (flat_set fv4 N (bsL (cmps (pls L) rc sq)) 3 [.slice b18.1 ((nth N (bsL (cmps (pls L) rc sq))).op.length + 1) b18.2] (nth N (bsL (cmps (pls L) rc sq))) { nth N (bsL (cmps (pls L) rc sq)) with oa := b18.1, oc := b18.2, op := (nth N (bsL (cmps (pls L) rc sq))).op ++ [newO x next] } (nth_get hy1) (by simp [LFil.vals, setMany]) (by simp)) hcap hcm; rw [List.length_set]; exact h3.ent (by repeat (first | exact .nil | refine .cons (by repeat (first | exact .here | apply Pick.there)) ?_))⟩)

end Go.Proofs
