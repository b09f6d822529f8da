/- Chapter 25: what owns a table, opened at a file and at a handle, and shut again; loads of what a class owns. Nothing of a program is named here. -/
import Derived.Test.YtgdigngojonbhaaGxSearch
import Derived.Laws.Small
namespace Gx
set_option linter.unusedSimpArgs false
set_option linter.unusedVariables false
set_option linter.unusedSectionVars false
open Go Go.RowKit
section
variable {P : Program} {o : Oper} {L : Slots} {w0 : World} {M : List Nat} {As As' : List HA}
theorem q_load_at {t x b i : Nat} {v : Value} (ho : o.op = .load t (.tmp x)) (hx : Slots.get L x = some (.pointer (some ⟨b, i, none⟩))) (hs : tsz P t = some (1, false)) (hr : ∀ w, HS w0 M As w → Rd w [] b i v) : OpQ P o L (HS w0 M As) v := by
  intro ρ w hρ hw
  simp only [execOp, ho, Sem.run_bind, hρ (.tmp x) _ hx, loadAt_run1 hs (hr w hw).2.2, Result.andThen_ok, Sem.run_pure]
  exact ⟨rfl, Below.refl _ _⟩
theorem q_load_atn {t x b i n : Nat} (vs : List Value) (ho : o.op = .load t (.tmp x)) (hx : Slots.get L x = some (.pointer (some ⟨b, i, none⟩))) (hs : tsz P t = some (n, true)) (hl : vs.length = n) (hr : ∀ w, HS w0 M As w → ∀ j v, vs[j]? = some v → Rd w [] b (i + j) v) : OpQ P o L (HS w0 M As) (.agg vs.toArray) := by
  intro ρ w hρ hw
  simp only [execOp, ho, Sem.run_bind, hρ (.tmp x) _ hx, loadAt_runn hs hl (fun j v hv => (hr w hw j v hv).2.2), Result.andThen_ok, Sem.run_pure]
  exact ⟨rfl, Below.refl _ _⟩
end
/-- A region whose order is open, its base weaker than the class. -/
theorem s_drawB {X : Ctx} {k : List KI} {L : Slots} {w0 : World} {M : List Nat} {As : List HA} {id : Nat} {l : List Oper} (Bs : List HA) (F : List Nat) (hm : X.P.follows .mixedOrders = true) (h : D X l.toArray F (HS w0 M Bs) l.length (Array.replicate l.length false) k L (HS w0 M As)) : S X (.c (.region id l.toArray true) :: k) L (HS w0 M As) := by
  intro a w ha hw
  refine wp_region_any hm ?_
  have := h (closed_none _ _) a ha
  simpa using wpAny_of_WG (Q' := post X k) (fun _ _ h => h) _ _ a (HS w0 M As) _ hw.drew this
theorem p_neq_bool {P : Program} {o : Oper} {L : Slots} {t t' : TypeId} {x y : Operand} {a b : Bool} (ho : o.op = .binOp .neq t x y t') (hx : ev L x = some (.bool a)) (hy : ev L y = some (.bool b)) (ht : P.underlying t = some .bool) : OpP P o L (.bool (!(a == b))) := by
  intro ρ w hρ
  have hg : (eqGuard .neq t x y (.bool a) (.bool b)).run P w = .ok () w := by unfold eqGuard; simp
  have hb : (binOp .neq t (.bool a) (.bool b)).run P w = .ok (.bool (!(a == b))) w := by simp [binOp, Go.run_equal_bool w t a b ht]
  simp only [execOp, ho, hρ _ _ hx, hρ _ _ hy, Sem.run_bind, hg, hb, Result.andThen_ok, Sem.run_pure]
theorem p_eql_bool {P : Program} {o : Oper} {L : Slots} {t t' : TypeId} {x y : Operand} {a b : Bool} (ho : o.op = .binOp .eql t x y t') (hx : ev L x = some (.bool a)) (hy : ev L y = some (.bool b)) (ht : P.underlying t = some .bool) : OpP P o L (.bool (a == b)) := by
  intro ρ w hρ
  have hg : (eqGuard .eql t x y (.bool a) (.bool b)).run P w = .ok () w := by unfold eqGuard; simp
  have hb : (binOp .eql t (.bool a) (.bool b)).run P w = .ok (.bool (a == b)) w := by simp [binOp, Go.run_equal_bool w t a b ht]
  simp only [execOp, ho, hρ _ _ hx, hρ _ _ hy, Sem.run_bind, hg, hb, Result.andThen_ok, Sem.run_pure]
/-- Two makers beside each other, the second one without a result (a store). -/
theorem d_two0 {X : Ctx} {ops : Array Oper} {F : List Nat} {fuel : Nat} {listed : Array Bool} {k : List KI} {L : Slots} {w0 : World} {M : List Nat} {As : List HA} {B : World → Prop} {d ty ty' : Nat} {op op' : Op} {pos pos' : String} {aft aft' : Array Edge} {G G' : Type} {V : G → Value} {Fg : G → Prop} {C : G → World → Prop} {V' : G' → Value} {Fg' : G' → Prop} {C' : G' → World → Prop} (i j : Nat)
    (hi : ops[i]? = some ⟨some d, op, ty, pos, aft, none⟩) (hj : ops[j]? = some ⟨none, op', ty', pos', aft', none⟩) (h : OpH X.P ⟨some d, op, ty, pos, aft, none⟩ L (HS w0 M As) V Fg C) (h' : OpH X.P ⟨none, op', ty', pos', aft', none⟩ L (HS w0 M As) V' Fg' C')
    (hr : (Region.ready .any ops listed == [i, j]) = true) (hB : ∀ w, HS w0 M As w → B w) (hd : Nat.blt d X.n = true)
    (next : ∀ g, Fg g → D X ops F B fuel (listed.setIfInBounds i true) k ((d, V g) :: L) (C g)) (next' : ∀ g, Fg' g → D X ops F B fuel (listed.setIfInBounds j true) k L (C' g)) : D X ops F B (fuel + 1) listed k L (HS w0 M As) := by
  intro hcl a ha
  have hr' : Region.ready .any ops listed = [i, j] := by simpa using hr
  have mi : i ∈ Region.ready .any ops listed := by rw [hr']; exact List.mem_cons_self ..
  have mj : j ∈ Region.ready .any ops listed := by rw [hr']; exact List.mem_cons_of_mem _ (List.mem_singleton.2 rfl)
  refine ⟨fun _ => ⟨hB, HS.stab _ _ _⟩, fun h0 => (by rw [hr'] at h0; cases h0), fun q hq => ?_⟩
  rw [hr'] at hq
  have hq' : q = i ∨ q = j := by simpa using hq
  rcases hq' with e | e
  · subst e
    unfold StepA
    simp only [hi]
    rw [if_pos (by simp [Region.wanted])]
    exact ⟨G, V, Fg, C, fun w hw => h a.eval w ha.agr hw, fun g hg => next g hg (hcl.set mi) _ (ha.put d _ hd)⟩
  · subst e
    unfold StepA
    simp only [hj]
    rw [if_pos (by simp [Region.wanted])]
    exact ⟨G', V', Fg', C', fun w hw => h' a.eval w ha.agr hw, fun g hg => next' g hg (hcl.set mj) a ha⟩
theorem set_nth_eq {α : Type} [Inhabited α] {l : List α} {i : Nat} {x : α} (h : i < l.length) : nth (l.set i x) i = x := nth_eq (by rw [List.getElem?_set_self h])
theorem set_vals {α : Type} [Inhabited α] {vals : α → List Value} : ∀ {l : List α} {i : Nat} {x : α}, i < l.length → vals x = vals (nth l i) → (l.set i x).flatMap vals = l.flatMap vals
  | [], i, x, h, _ => by cases h
  | y :: l, 0, x, h, e => by
    rw [List.set_cons_zero, List.flatMap_cons, List.flatMap_cons, e]
    rfl
  | y :: l, i + 1, x, h, e => by
    rw [List.set_cons_succ, List.flatMap_cons, List.flatMap_cons, set_vals (l := l) (i := i) (x := x) (by simpa using h) e]
section
variable {w0 w : World} {M : List Nat} {As As' : List HA} {a : Option Addr} {cap : Nat}
theorem own_addr {t sz n : Nat} {xs : List Value} (hn : 0 < n) (h : HS w0 M As w) (hp : Pick As (.own (.slice a n cap) t sz n xs) As') : ∃ g, a = some ⟨g, 0, none⟩ ∧ n ≤ cap ∧ cap ≤ maxLen := by
  obtain ⟨g, e, _, h1, h2, _⟩ := h.own_blk hn hp
  exact ⟨g, e, h1, h2⟩
theorem files_addr {l : List LFil} (hn : 0 < l.length) (h : HS w0 M As w) (hp : Pick As (.files a cap l) As') : ∃ g, a = some ⟨g, 0, none⟩ ∧ l.length ≤ cap ∧ cap ≤ maxLen := own_addr hn (HS.row_open (h.pick hp)) .here
theorem files_cap {l : List LFil} (h : HS w0 M As w) (hp : Pick As (.files a cap l) As') : l.length ≤ cap ∧ cap ≤ maxLen := by
  have := (HS.row_open (h.pick hp)).own_facts .here
  exact ⟨this.2.1, this.2.2.1⟩
def subF (f : LFil) : HA := .opens f.oa f.oc f.op
def subO (o : LOpn) : HA := .locks o.la o.lc o.lk
theorem HS.files_open {l : List LFil} (h : HS w0 M As w) (hp : Pick As (.files a cap l) As') : HS w0 M (.own (.slice a l.length cap) 77 4 l.length (l.flatMap LFil.vals) :: .star (l.map subF) :: As') w := HS.row_open (h.pick hp)
theorem HS.files_shut {l : List LFil} {n : Nat} {xs : List Value} (h : HS w0 M (.own (.slice a n cap) 77 4 n xs :: .star (l.map subF) :: As) w) (hn : n = l.length) (hx : xs = l.flatMap LFil.vals) : HS w0 M (.files a cap l :: As) w := HS.row_shut h hn hx
/-- At file i: the row of the files as a block, the opens of this file, the others'. -/
theorem HS.file_at {l : List LFil} {i g : Nat} (hi : i < l.length) (h : HS w0 M As w) (hp : Pick As (.files (some ⟨g, 0, none⟩) cap l) As') : HS w0 M (.blk g 77 (cap * 4) (l.flatMap LFil.vals) :: .opens (nth l i).oa (nth l i).oc (nth l i).op :: .star ((others l i).map subF) :: As') w := by
  have h1 := HS.files_open h hp
  obtain ⟨g', e, _, _, _, _, h2⟩ := h1.own_blk (by omega) .here
  injection e with e
  injection e with e
  subst e
  have h3 : HS w0 M (.star (l.map subF) :: .blk g 77 (cap * 4) (l.flatMap LFil.vals) :: As') w := h2.perm (List.Perm.swap ..)
  have h4 := h3.sub_open hi
  exact h4.perm ((List.Perm.cons _ (List.Perm.swap ..)).trans (List.Perm.swap ..))
theorem HS.file_put {l : List LFil} {i g : Nat} {f : LFil} {cs : List Value} (hi : i < l.length) (h : HS w0 M (.blk g 77 (cap * 4) cs :: .opens f.oa f.oc f.op :: .star ((others l i).map subF) :: As) w) (hc : cs = (l.set i f).flatMap LFil.vals) (hn : l.length ≤ cap) (hm : cap ≤ maxLen) : HS w0 M (.files (some ⟨g, 0, none⟩) cap (l.set i f) :: As) w := by
  have h1 : HS w0 M (subF f :: .star ((others l i).map subF) :: .blk g 77 (cap * 4) cs :: As) w := h.perm ((List.Perm.swap ..).trans (List.Perm.cons _ (List.Perm.swap ..)))
  have h2 := HS.sub_shut hi h1
  have h3 : HS w0 M (.blk g 77 (cap * 4) cs :: .star ((l.set i f).map subF) :: As) w := h2.perm (List.Perm.swap ..)
  refine HS.files_shut (n := (l.set i f).length) (h3.own_shut (by rw [hc, flat_length fv4]) (by rw [List.length_set]; exact hn) hm) rfl hc
/-- At handle k of the opens of a file. -/
theorem HS.open_at {l : List LOpn} {k g : Nat} (hk : k < l.length) (h : HS w0 M As w) (hp : Pick As (.opens (some ⟨g, 0, none⟩) cap l) As') : HS w0 M (.blk g 48 (cap * 5) (l.flatMap LOpn.vals) :: .locks (nth l k).la (nth l k).lc (nth l k).lk :: .star ((others l k).map subO) :: As') w := by
  have h1 := HS.row_open (h.pick hp)
  obtain ⟨g', e, _, _, _, _, h2⟩ := h1.own_blk (by omega) .here
  injection e with e
  injection e with e
  subst e
  have h3 : HS w0 M (.star (l.map subO) :: .blk g 48 (cap * 5) (l.flatMap LOpn.vals) :: As') w := h2.perm (List.Perm.swap ..)
  have h4 := h3.sub_open hk
  exact h4.perm ((List.Perm.cons _ (List.Perm.swap ..)).trans (List.Perm.swap ..))
theorem HS.open_put {l : List LOpn} {k g : Nat} {o : LOpn} {cs : List Value} (hk : k < l.length) (h : HS w0 M (.blk g 48 (cap * 5) cs :: .locks o.la o.lc o.lk :: .star ((others l k).map subO) :: As) w) (hc : cs = (l.set k o).flatMap LOpn.vals) (hn : l.length ≤ cap) (hm : cap ≤ maxLen) : HS w0 M (.opens (some ⟨g, 0, none⟩) cap (l.set k o) :: As) w := by
  have h1 : HS w0 M (subO o :: .star ((others l k).map subO) :: .blk g 48 (cap * 5) cs :: As) w := h.perm ((List.Perm.swap ..).trans (List.Perm.cons _ (List.Perm.swap ..)))
  have h2 := HS.sub_shut hk h1
  have h3 : HS w0 M (.blk g 48 (cap * 5) cs :: .star ((l.set k o).map subO) :: As) w := h2.perm (List.Perm.swap ..)
  exact HS.row_shut (n := (l.set k o).length) (h3.own_shut (by rw [hc, flat_length ov5]) (by rw [List.length_set]; exact hn) hm) rfl hc
theorem opens_addr {l : List LOpn} (hn : 0 < l.length) (h : HS w0 M As w) (hp : Pick As (.opens a cap l) As') : ∃ g, a = some ⟨g, 0, none⟩ ∧ l.length ≤ cap ∧ cap ≤ maxLen := own_addr hn (HS.row_open (h.pick hp)) .here
/-- At the locks of handle k of file i. -/
theorem HS.lock_at {l : List LFil} {i k g go : Nat} (hi : i < l.length) (hk : k < (nth l i).op.length) (hoa : (nth l i).oa = some ⟨go, 0, none⟩) (h : HS w0 M As w) (hp : Pick As (.files (some ⟨g, 0, none⟩) cap l) As') : HS w0 M (.blk go 48 ((nth l i).oc * 5) ((nth l i).op.flatMap LOpn.vals) :: .locks (nth (nth l i).op k).la (nth (nth l i).op k).lc (nth (nth l i).op k).lk :: .star ((others (nth l i).op k).map subO) :: .blk g 77 (cap * 4) (l.flatMap LFil.vals) :: .star ((others l i).map subF) :: As') w := by
  have h1 := HS.file_at hi h hp
  rw [hoa] at h1
  exact HS.open_at hk h1 (.there .here)
theorem HS.lock_put {l : List LFil} {i k g go : Nat} {o : LOpn} {cs : List Value} (hi : i < l.length) (hk : k < (nth l i).op.length) (hoa : (nth l i).oa = some ⟨go, 0, none⟩) (h : HS w0 M (.blk go 48 ((nth l i).oc * 5) cs :: .locks o.la o.lc o.lk :: .star ((others (nth l i).op k).map subO) :: .blk g 77 (cap * 4) (l.flatMap LFil.vals) :: .star ((others l i).map subF) :: As) w) (hc : cs = ((nth l i).op.set k o).flatMap LOpn.vals) (hoc : (nth l i).op.length ≤ (nth l i).oc) (hom : (nth l i).oc ≤ maxLen) (hn : l.length ≤ cap) (hm : cap ≤ maxLen) : HS w0 M (.files (some ⟨g, 0, none⟩) cap (l.set i { nth l i with op := (nth l i).op.set k o }) :: As) w := by
  have h1 := HS.open_put hk h hc hoc hom
  rw [← hoa] at h1
  refine HS.file_put (f := { nth l i with op := (nth l i).op.set k o }) hi (h1.perm (List.Perm.swap ..)) ?_ hn hm
  exact (set_vals hi (by simp [LFil.vals])).symm
theorem HS.blk_to {b t tot : Nat} {cs cs' : List Value} (h : HS w0 M As w) (hp : Pick As (.blk b t tot cs) As') (he : cs = cs') : HS w0 M (.blk b t tot cs' :: As') w := by
  subst he
  exact h.pick hp
theorem HS.opens_split {l : List LOpn} (h : HS w0 M As w) (hp : Pick As (.opens a cap l) As') : HS w0 M (.own (.slice a l.length cap) 48 5 l.length (l.flatMap LOpn.vals) :: .star (l.map subO) :: As') w := HS.row_open (h.pick hp)
theorem HS.opens_less {l : List LOpn} {k n : Nat} {xs : List Value} (hk : k < l.length) (h : HS w0 M (.own (.slice a n cap) 48 5 n xs :: .star (l.map subO) :: As) w) (hn : n = (others l k).length) (hx : xs = (others l k).flatMap LOpn.vals) : HS w0 M (.opens a cap (others l k) :: As) w := by
  have h1 : HS w0 M (.star (l.map subO) :: .own (.slice a n cap) 48 5 n xs :: As) w := h.perm (List.Perm.swap ..)
  exact HS.row_shut ((h1.sub_drop hk).perm (List.Perm.swap ..)) hn hx
theorem HS.opens_more {l : List LOpn} {o : LOpn} {n : Nat} {xs : List Value} (h : HS w0 M (.own (.slice a n cap) 48 5 n xs :: .star (l.map subO) :: subO o :: As) w) (hn : n = (l ++ [o]).length) (hx : xs = (l ++ [o]).flatMap LOpn.vals) : HS w0 M (.opens a cap (l ++ [o]) :: As) w := by
  have h1 : HS w0 M (subO o :: .star (l.map subO) :: .own (.slice a n cap) 48 5 n xs :: As) w := h.perm ((List.Perm.swap ..).trans ((List.Perm.cons _ (List.Perm.swap ..)).trans (List.Perm.swap ..)))
  exact HS.row_shut (h1.sub_app.perm (List.Perm.swap ..)) hn hx
/-- The address of a file's opens in a table. -/
theorem file_addr {l : List LFil} {i : Nat} (hi : i < l.length) (hn : 0 < (nth l i).op.length) (h : HS w0 M As w) (hp : Pick As (.files a cap l) As') : ∃ g, (nth l i).oa = some ⟨g, 0, none⟩ ∧ (nth l i).op.length ≤ (nth l i).oc ∧ (nth l i).oc ≤ maxLen := by
  have h1 := (HS.files_open h hp).tail.sub_open hi
  exact opens_addr hn h1 .here
end
/-! ## Plain acts -/
/-- Few files, handles and locks, all in their ranges. -/
structure VW (L : List Fil) : Prop where
  len : L.length ≤ 32
  cnt : cntT L ≤ 32
  op : ∀ f ∈ L, ∀ o ∈ f.op, openE o.ac o.sh = 0 ∧ (∀ k ∈ o.lk, rngE k.fr k.cnt = 0) ∧ o.lk.length ≤ 16
end Gx
