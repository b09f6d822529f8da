/- Chapter 25, plain: valid tables stay valid. No program here. -/
import Derived.Test.YtgdigngojonbhaaC25L
namespace Go.Proofs
open Go Go.RowKit Gx
set_option linter.unusedVariables false
set_option linter.unusedSimpArgs false

structure FOk (next : Int) (f : Fil) : Prop where
  rf : refE f.rc f.sq = 0
  ne : 0 < f.op.length
  hd : ∀ o ∈ f.op, 1 ≤ o.hd ∧ o.hd ≤ next - 1
  op : ∀ o ∈ f.op, openE o.ac o.sh = 0 ∧ (∀ k ∈ o.lk, rngE k.fr k.cnt = 0) ∧ o.lk.length ≤ 16
  hs : f.op.Pairwise (fun a b => a.hd < b.hd)
  cf : f.op.Pairwise (fun a b => cfl a b = false)
  lk : (f.op.flatMap Opn.lk).Pairwise (fun a b => clsh a b = false)
structure Ok (next : Int) (L : List Fil) : Prop where
  nx : 1 ≤ next ∧ next ≤ 2147483647
  cnt : cntT L ≤ 32
  fl : ∀ f ∈ L, FOk next f
  sr : L.Pairwise (fun f g => refLt (f.rc, f.sq) (g.rc, g.sq) = true)
  ds : L.Pairwise (fun f g => ∀ o ∈ f.op, ∀ p ∈ g.op, o.hd ≠ p.hd)
theorem cntT_cons (f : Fil) (L : List Fil) : cntT (f :: L) = f.op.length + cntT L := by simp [cntT]
theorem cntT_app (L M : List Fil) : cntT (L ++ M) = cntT L + cntT M := by simp [cntT]
theorem len_cnt : ∀ {L : List Fil}, (∀ f ∈ L, 0 < f.op.length) → L.length ≤ cntT L
  | [], _ => by simp
  | f :: L, h => by
    have h1 := len_cnt (fun g hg => h g (List.mem_cons_of_mem _ hg))
    have h2 := h f List.mem_cons_self
    rw [cntT_cons, List.length_cons]
    omega
theorem Ok.vw {next : Int} {L : List Fil} (h : Ok next L) : VW L := by
  refine ⟨?_, h.cnt, fun f hf o ho => (h.fl f hf).op o ho⟩
  have := len_cnt (fun f hf => (h.fl f hf).ne)
  have := h.cnt
  omega
theorem Ok.nil : Ok 1 [] := ⟨by omega, by simp [cntT], fun f hf => (by cases hf), .nil, .nil⟩
theorem others_sub {α : Type} (l : List α) (i : Nat) : (others l i).Sublist l := by
  have h : l = l.take i ++ l.drop i := (List.take_append_drop i l).symm
  conv => rhs; rw [h]
  unfold others
  exact (List.Sublist.refl _).append (by rw [← List.drop_drop]; exact List.drop_sublist _ _)
theorem cnt_sub {L M : List Fil} (h : L.Sublist M) : cntT L ≤ cntT M := by
  induction h with
  | slnil => exact Nat.le_refl _
  | cons a _ ih => rw [cntT_cons]; omega
  | cons_cons a _ ih => rw [cntT_cons, cntT_cons]; omega
theorem Ok.sub {next : Int} {L M : List Fil} (h : Ok next M) (hs : L.Sublist M) : Ok next L :=
  ⟨h.nx, Nat.le_trans (cnt_sub hs) h.cnt, fun f hf => h.fl f (hs.subset hf), h.sr.sublist hs, h.ds.sublist hs⟩
theorem pw_map_set {α β : Type} [Inhabited α] {R : β → β → Prop} {g : α → β} {l : List α} {k : Nat} {x : α} (hx : g x = g (nth l k)) (h : l.Pairwise (fun a b => R (g a) (g b))) : (l.set k x).Pairwise (fun a b => R (g a) (g b)) := by
  rw [← List.pairwise_map] at h ⊢
  have e : (l.set k x).map g = l.map g := by
    apply List.ext_getElem?
    intro j
    rw [List.getElem?_map, List.getElem?_map, List.getElem?_set]
    split
    · rename_i e
      subst e
      split
      · rename_i h2
        rw [nth_get h2, Option.map_some, Option.map_some, hx]
      · rename_i h2
        rw [List.getElem?_eq_none (by omega)]
    · rfl
  rw [e]
  exact h
theorem mem_set_or {α : Type} {l : List α} {k : Nat} {x y : α} (h : y ∈ l.set k x) : y = x ∨ y ∈ l := (List.mem_or_eq_of_mem_set h).symm
theorem pw_set {α : Type} [Inhabited α] {R : α → α → Prop} {l : List α} {k : Nat} {x : α} (h : l.Pairwise R) (h1 : ∀ y ∈ l, R y (nth l k) → R y x) (h2 : ∀ y ∈ l, R (nth l k) y → R x y) : (l.set k x).Pairwise R := by
  rw [List.pairwise_iff_getElem] at h ⊢
  intro i j hi hj hij
  rw [List.length_set] at hi hj
  have h9 := h i j hi hj hij
  rw [List.getElem_set, List.getElem_set]
  split
  · rename_i e
    subst e
    rw [if_neg (by omega)]
    have e2 : nth l k = l[k] := nth_eq (by rw [List.getElem?_eq_getElem hi])
    exact h2 _ (List.getElem_mem hj) (by rw [e2]; exact h9)
  · split
    · rename_i e
      subst e
      have e2 : nth l k = l[k] := nth_eq (by rw [List.getElem?_eq_getElem hj])
      exact h1 _ (List.getElem_mem hi) (by rw [e2]; exact h9)
    · exact h9
theorem cnt_set : ∀ {L : List Fil} {i : Nat} {f : Fil}, i < L.length → cntT (L.set i f) + (nth L i).op.length = cntT L + f.op.length
  | [], i, f, h => by cases h
  | g :: L, 0, f, h => by
    rw [List.set_cons_zero, cntT_cons, cntT_cons]
    show _ + g.op.length = _
    omega
  | g :: L, i + 1, f, h => by
    have h1 := cnt_set (L := L) (i := i) (f := f) (by simpa using h)
    rw [List.set_cons_succ, cntT_cons, cntT_cons]
    have e : nth (g :: L) (i + 1) = nth L i := by simp [nth]
    rw [e]
    omega
theorem Ok.set {next : Int} {L : List Fil} {i : Nat} {f : Fil} (h : Ok next L) (hi : i < L.length) (hf : FOk next f) (h1 : f.rc = (nth L i).rc) (h2 : f.sq = (nth L i).sq) (h3 : ∀ o ∈ f.op, ∃ p ∈ (nth L i).op, p.hd = o.hd) (h4 : f.op.length ≤ (nth L i).op.length) : Ok next (L.set i f) := by
  refine ⟨h.nx, ?_, fun g hg => ?_, ?_, ?_⟩
  · have := cnt_set (L := L) (f := f) hi
    have := h.cnt
    omega
  · rcases mem_set_or hg with rfl | h9
    · exact hf
    · exact h.fl g h9
  · exact pw_map_set (g := fun f : Fil => (f.rc, f.sq)) (R := fun a b => refLt a b = true) (by rw [h1, h2]) h.sr
  · refine pw_set h.ds (fun y hy hR o ho p hp => ?_) (fun y hy hR o ho p hp => ?_)
    · obtain ⟨q, hq, e⟩ := h3 p hp
      rw [← e]
      exact hR o ho q hq
    · obtain ⟨q, hq, e⟩ := h3 o ho
      rw [← e]
      exact hR q hq p hp
theorem nth_Ok {next : Int} {L : List Fil} {i : Nat} (h : Ok next L) (hi : i < L.length) : FOk next (nth L i) := h.fl _ (mem_nth hi)
theorem sub_flat {α β : Type} {g : α → List β} {l m : List α} (h : l.Sublist m) : (l.flatMap g).Sublist (m.flatMap g) := by
  induction h with
  | slnil => exact List.Sublist.refl _
  | cons a _ ih => rw [List.flatMap_cons]; exact ih.trans (List.sublist_append_right _ _)
  | cons_cons a _ ih => rw [List.flatMap_cons, List.flatMap_cons]; exact List.Sublist.append (List.Sublist.refl _) ih
theorem FOk.less {next : Int} {f : Fil} {k : Nat} {pd : Bool} (h : FOk next f) (hn : 0 < (others f.op k).length) : FOk next { f with pd := pd, op := others f.op k } := by
  have hs := others_sub f.op k
  exact ⟨h.rf, hn, fun o ho => h.hd o (hs.subset ho), fun o ho => h.op o (hs.subset ho), h.hs.sublist hs, h.cf.sublist hs, h.lk.sublist (sub_flat hs)⟩
theorem flat_set_sub : ∀ {l : List Opn} {k : Nat} {o : Opn}, o.lk.Sublist (nth l k).lk → ((l.set k o).flatMap Opn.lk).Sublist (l.flatMap Opn.lk)
  | [], k, o, h => by simp
  | x :: l, 0, o, h => by
    rw [List.set_cons_zero, List.flatMap_cons, List.flatMap_cons]
    exact List.Sublist.append h (List.Sublist.refl _)
  | x :: l, k + 1, o, h => by
    rw [List.set_cons_succ, List.flatMap_cons, List.flatMap_cons]
    exact List.Sublist.append (List.Sublist.refl _) (flat_set_sub (by simpa [nth] using h))
theorem flat_set_perm : ∀ {l : List Opn} {k : Nat} {o : Opn} {q : Lock}, k < l.length → o.lk = (nth l k).lk ++ [q] → ((l.set k o).flatMap Opn.lk).Perm (q :: l.flatMap Opn.lk)
  | [], k, o, q, h, _ => by cases h
  | x :: l, 0, o, q, _, h => by
    rw [List.set_cons_zero, List.flatMap_cons, List.flatMap_cons, h]
    show (x.lk ++ [q] ++ _).Perm (q :: (x.lk ++ _))
    rw [List.append_assoc]
    exact List.perm_middle
  | x :: l, k + 1, o, q, hk, h => by
    rw [List.set_cons_succ, List.flatMap_cons, List.flatMap_cons]
    exact ((flat_set_perm (l := l) (k := k) (by simpa using hk) (by simpa [nth] using h)).append_left _).trans List.perm_middle
theorem FOk.locks {next : Int} {f : Fil} {k : Nat} {o : Opn} (h : FOk next f) (hk : k < f.op.length) (h1 : o.hd = (nth f.op k).hd) (h2 : o.ac = (nth f.op k).ac) (h3 : o.sh = (nth f.op k).sh) (h4 : (∀ k ∈ o.lk, rngE k.fr k.cnt = 0) ∧ o.lk.length ≤ 16) (h5 : ((f.op.set k o).flatMap Opn.lk).Pairwise (fun a b => clsh a b = false)) : FOk next { f with op := f.op.set k o } := by
  refine ⟨h.rf, by show 0 < (f.op.set k o).length; rw [List.length_set]; exact h.ne, fun p hp => ?_, fun p hp => ?_, ?_, ?_, h5⟩
  · rcases mem_set_or hp with rfl | h9
    · rw [h1]; exact h.hd _ (mem_nth hk)
    · exact h.hd p h9
  · rcases mem_set_or hp with rfl | h9
    · exact ⟨by rw [h2, h3]; exact (h.op _ (mem_nth hk)).1, h4⟩
    · exact h.op p h9
  · exact pw_map_set (g := Opn.hd) (R := fun a b => a < b) h1 h.hs
  · exact pw_map_set (g := fun o : Opn => (o.ac, o.sh)) (R := fun (a b : Int × Int) => (missN a.1.toNat b.2.toNat || missN b.1.toNat a.2.toNat) = false) (by rw [h2, h3]) h.cf
theorem hd_set {f : Fil} {k : Nat} {o : Opn} (hk : k < f.op.length) (h1 : o.hd = (nth f.op k).hd) : ∀ p ∈ f.op.set k o, ∃ q ∈ f.op, q.hd = p.hd := by
  intro p hp
  rcases mem_set_or hp with rfl | h9
  · exact ⟨_, mem_nth hk, h1.symm⟩
  · exact ⟨p, h9, rfl⟩
theorem mark_ok {next : Int} {L : List Fil} {h : Int} {d : Bool} (hk : Ok next L) : Ok next (markT L h d).1 := by
  unfold markT
  split
  · rename_i e
    obtain ⟨i, k, e2, hi, hk2, _⟩ := findF_spec e
    rw [e2]
    split
    · simp only [Nat.zero_add, updF]
      have hf := nth_Ok hk hi
      exact hk.set hi ⟨hf.rf, hf.ne, hf.hd, hf.op, hf.hs, hf.cf, hf.lk⟩ rfl rfl (fun o ho => ⟨o, ho, rfl⟩) (Nat.le_refl _)
    · exact hk
  · exact hk
theorem lock_ok {next : Int} {L : List Fil} {h : Int} {q : Lock} (hk : Ok next L) : Ok next (lockT L h q).1 := by
  unfold lockT
  split
  · rename_i e
    split
    · rename_i hr
      split
      · rename_i hle
        obtain ⟨i, k, e2, hi, hk2, _⟩ := findF_spec e
        rw [e2] at hle ⊢
        simp only [Nat.zero_add, updO, updF] at hle ⊢
        have hp := lockE_pos hle
        have hf := nth_Ok hk hi
        have ho := hf.op _ (mem_nth hk2)
        refine hk.set hi (hf.locks hk2 rfl rfl rfl ⟨?_, ?_⟩ ?_) rfl rfl (hd_set hk2 rfl) (by show (List.set _ _ _).length ≤ _; rw [List.length_set]; exact Nat.le_refl _)
        · intro c hc
          rcases List.mem_append.1 hc with h9 | h9
          · exact ho.2.1 c h9
          · rw [List.mem_singleton.1 h9]; exact hr
        · show (_ ++ [q]).length ≤ 16
          rw [List.length_append]
          have := hp.1
          simp only [List.length_singleton]
          omega
        · refine ((flat_set_perm (q := q) hk2 rfl).pairwise_iff (fun {x y} e => by rw [clsh_comm]; exact e)).2 ?_
          refine List.pairwise_cons.2 ⟨fun c hc => ?_, hf.lk⟩
          obtain ⟨o, ho1, ho2⟩ := List.mem_flatMap.1 hc
          have h9 := hp.2
          unfold anyK at h9
          rw [List.any_eq_false] at h9
          have h8 := h9 o ho1
          rw [Bool.not_eq_true, List.any_eq_false] at h8
          have h7 := h8 c ho2
          rw [clsh_comm]
          simpa using h7
      · exact hk
    · exact hk
  · exact hk
theorem unlock_ok {next : Int} {L : List Fil} {h fr cnt : Int} (hk : Ok next L) : Ok next (unlockT L h fr cnt).1 := by
  unfold unlockT
  split
  · rename_i e
    split
    · split
      · rename_i hle
        obtain ⟨i, k, e2, hi, hk2, _⟩ := findF_spec e
        rw [e2] at hle ⊢
        simp only [Nat.zero_add, updO, updF] at hle ⊢
        have hf := nth_Ok hk hi
        have ho := hf.op _ (mem_nth hk2)
        have hs := others_sub (nth (nth L i).op k).lk (ixB ((nth (nth L i).op k).lk.map (eqK fr cnt)))
        refine hk.set hi (hf.locks hk2 rfl rfl rfl ⟨fun c hc => ho.2.1 c (hs.subset hc), Nat.le_trans hs.length_le ho.2.2⟩ (hf.lk.sublist (flat_set_sub hs))) rfl rfl (hd_set hk2 rfl) (by show (List.set _ _ _).length ≤ _; rw [List.length_set]; exact Nat.le_refl _)
      · exact hk
    · exact hk
  · exact hk
theorem close_ok {next : Int} {L : List Fil} {h : Int} (hk : Ok next L) : Ok next (closeT L h).1 := by
  unfold closeT
  split
  · rename_i e
    obtain ⟨i, k, e2, hi, hk2, _⟩ := findF_spec e
    rw [e2]
    simp only [Nat.zero_add]
    split
    · rename_i hn
      have hs := others_sub (nth L i).op k
      exact hk.set hi ((nth_Ok hk hi).less hn) rfl rfl (fun o ho => ⟨o, hs.subset ho, rfl⟩) hs.length_le
    · exact hk.sub (others_sub L i)
  · exact hk
theorem FOk.mono {next next' : Int} {f : Fil} (h : FOk next f) (hn : next ≤ next') : FOk next' f := ⟨h.rf, h.ne, fun o ho => by have := h.hd o ho; omega, h.op, h.hs, h.cf, h.lk⟩
theorem Ok.mono {next next' : Int} {L : List Fil} (h : Ok next L) (hn : next ≤ next' ∧ next' ≤ 2147483647) : Ok next' L := ⟨by have := h.nx; omega, h.cnt, fun f hf => (h.fl f hf).mono hn.1, h.sr, h.ds⟩
theorem refLt_tr {a b c : Int × Int} (h1 : refLt a b = true) (h2 : refLt b c = true) : refLt a c = true := by
  unfold refLt at *
  simp only [Bool.or_eq_true, Bool.and_eq_true, decide_eq_true_eq] at *
  omega
/-- Where a row changes from 'less' to 'not less'. -/
theorem turn {α : Type} [Inhabited α] {P : α → Prop} [DecidablePred P] : ∀ {l : List α}, l.Pairwise (fun a b => P b → P a) → ∃ p, p ≤ l.length ∧ (∀ i, i < p → P (nth l i)) ∧ ∀ i, p ≤ i → i < l.length → ¬ P (nth l i)
  | [], _ => ⟨0, Nat.le_refl _, fun i h => absurd h (Nat.not_lt_zero i), fun i _ h => absurd h (Nat.not_lt_zero i)⟩
  | x :: l, h => by
    have hc := List.pairwise_cons.1 h
    by_cases hx : P x
    · obtain ⟨p, h1, h2, h3⟩ := turn hc.2
      refine ⟨p + 1, by simpa using h1, fun i hi => ?_, fun i hi hl => ?_⟩
      · cases i with
        | zero => exact hx
        | succ i => exact h2 i (by omega)
      · cases i with
        | zero => omega
        | succ i => exact h3 i (by omega) (by simpa using hl)
    · refine ⟨0, Nat.zero_le _, fun i h => absurd h (Nat.not_lt_zero i), fun i _ hl => ?_⟩
      cases i with
      | zero => exact hx
      | succ i =>
        have hl' : i < l.length := by simpa using hl
        exact fun hp => hx (hc.1 _ (mem_nth hl') hp)
theorem cmps_get {L : List Fil} {rc sq : Int} {i : Nat} (h : i < L.length) : (cmps L rc sq).getD i 0 = cmp2 ((nth L i).rc, (nth L i).sq) (rc, sq) := by
  unfold cmps
  exact map_getD_nth h
theorem place_spec {next : Int} {L : List Fil} {rc sq : Int} (h : Ok next L) : bsL (cmps L rc sq) ≤ L.length ∧ (∀ i, i < bsL (cmps L rc sq) → refLt ((nth L i).rc, (nth L i).sq) (rc, sq) = true) ∧ ∀ i, bsL (cmps L rc sq) ≤ i → i < L.length → refLt ((nth L i).rc, (nth L i).sq) (rc, sq) = false := by
  obtain ⟨p, h1, h2, h3⟩ := turn (P := fun f : Fil => refLt (f.rc, f.sq) (rc, sq) = true) (l := L) (h.sr.imp fun hab hb => refLt_tr hab hb)
  have e : bsL (cmps L rc sq) = p := by
    refine bsL_spec (by simpa [cmps] using h1) (fun i hi => ?_) (fun i hi hl => ?_)
    · rw [cmps_get (by omega)]
      have := h2 i hi
      rw [← cmp2_lt] at this
      simpa using this
    · have hl' : i < L.length := by simpa [cmps] using hl
      rw [cmps_get hl']
      have := h3 i hi hl'
      rw [← cmp2_lt] at this
      simpa using this
  rw [e]
  exact ⟨h1, h2, fun i a b => by simpa using h3 i a b⟩
theorem put_ok {next : Int} {f : Fil} {x : Opn} (h : FOk next f) (hn : 1 ≤ next) (hx : openE x.ac x.sh = 0) (ho : oldE f x = 0) : FOk (next + 1) (putO f x next) := by
  have h9 : ∀ y ∈ f.op, cfl x y = false := by
    intro y hy
    unfold oldE at ho
    split at ho
    · exact absurd ho (by decide)
    · split at ho
      · exact absurd ho (by decide)
      · rename_i h8
        rw [Bool.not_eq_true, List.any_eq_false] at h8
        simpa using h8 y hy
  refine ⟨h.rf, by simp [putO], fun o ho => ?_, fun o ho => ?_, ?_, ?_, ?_⟩
  · rcases List.mem_append.1 ho with h1 | h1
    · have := h.hd o h1; omega
    · rw [List.mem_singleton.1 h1]
      show 1 ≤ next ∧ next ≤ next + 1 - 1
      omega
  · rcases List.mem_append.1 ho with h1 | h1
    · exact h.op o h1
    · rw [List.mem_singleton.1 h1]
      exact ⟨hx, fun k hk => (by cases hk), by simp⟩
  · refine List.pairwise_append.2 ⟨h.hs, List.pairwise_singleton _ _, fun a ha b hb => ?_⟩
    rw [List.mem_singleton.1 hb]
    have := h.hd a ha
    show a.hd < next
    omega
  · refine List.pairwise_append.2 ⟨h.cf, List.pairwise_singleton _ _, fun a ha b hb => ?_⟩
    rw [List.mem_singleton.1 hb, cfl_comm]
    exact h9 a ha
  · show ((f.op ++ [_]).flatMap Opn.lk).Pairwise _
    rw [List.flatMap_append]
    simpa using h.lk
theorem new_ok {next rc sq : Int} {x : Opn} (hn : 1 ≤ next) (hr : refE rc sq = 0) (hx : openE x.ac x.sh = 0) : FOk (next + 1) (putO ⟨rc, sq, false, []⟩ x next) := by
  refine ⟨hr, by simp [putO], fun o ho => ?_, fun o ho => ?_, List.pairwise_singleton _ _, List.pairwise_singleton _ _, by simp [putO]⟩
  · rw [List.mem_singleton.1 ho]
    show 1 ≤ next ∧ next ≤ next + 1 - 1
    omega
  · rw [List.mem_singleton.1 ho]
    exact ⟨hx, fun k hk => (by cases hk), by simp⟩
theorem refLt_tri {a b : Int × Int} (h1 : refLt a b = false) (h2 : a ≠ b) : refLt b a = true := by
  obtain ⟨a1, a2⟩ := a
  obtain ⟨b1, b2⟩ := b
  unfold refLt at *
  simp only [Bool.or_eq_false_iff, Bool.and_eq_false_iff, decide_eq_false_iff_not, Bool.or_eq_true, Bool.and_eq_true, decide_eq_true_eq, ne_eq, Prod.mk.injEq, not_and] at *
  omega
theorem bsF_iff {next : Int} {L : List Fil} {rc sq : Int} (h : Ok next L) : bsF' (cmps L rc sq) = true ↔ bsL (cmps L rc sq) < L.length ∧ ((nth L (bsL (cmps L rc sq))).rc, (nth L (bsL (cmps L rc sq))).sq) = (rc, sq) := by
  unfold bsF'
  rw [Bool.and_eq_true, decide_eq_true_eq, decide_eq_true_eq]
  have e : (cmps L rc sq).length = L.length := by simp [cmps]
  constructor
  · rintro ⟨h1, h2⟩
    rw [e] at h1
    rw [cmps_get h1, cmp2_eq] at h2
    exact ⟨h1, h2⟩
  · rintro ⟨h1, h2⟩
    refine ⟨by rw [e]; exact h1, ?_⟩
    rw [cmps_get h1, cmp2_eq]
    exact h2
theorem not_at {next : Int} {L : List Fil} {rc sq : Int} (h : Ok next L) (hn : ¬ bsF' (cmps L rc sq) = true) : ∀ f ∈ L, (f.rc, f.sq) ≠ (rc, sq) := by
  intro f hf he
  obtain ⟨i, hi, e⟩ := List.getElem_of_mem hf
  have e2 : nth L i = f := nth_eq (by rw [List.getElem?_eq_getElem hi, e])
  obtain ⟨p1, p2, p3⟩ := place_spec (rc := rc) (sq := sq) h
  have irr : refLt (rc, sq) (rc, sq) = false := by simp [refLt]
  rcases Nat.lt_trichotomy i (bsL (cmps L rc sq)) with h1 | h1 | h1
  · have := p2 i h1
    rw [e2, he, irr] at this
    cases this
  · exact hn ((bsF_iff h).2 ⟨by omega, by rw [← h1, e2]; exact he⟩)
  · have hp : bsL (cmps L rc sq) < L.length := by omega
    have h4 := List.pairwise_iff_getElem.1 h.sr (bsL (cmps L rc sq)) i hp hi h1
    have e3 : nth L (bsL (cmps L rc sq)) = L[bsL (cmps L rc sq)] := nth_eq (by rw [List.getElem?_eq_getElem hp])
    rw [← e3, e, he] at h4
    rw [p3 _ (Nat.le_refl _) hp] at h4
    cases h4
theorem cnt_ins {L : List Fil} {i : Nat} {f : Fil} : cntT (insAt L i f) = cntT L + f.op.length := by
  have h : cntT L = cntT (L.take i) + cntT (L.drop i) := by rw [← cntT_app, List.take_append_drop]
  rw [insAt, cntT_app, cntT_cons, h]
  omega
theorem nth_mem_take {α : Type} [Inhabited α] {l : List α} {i : Nat} {y : α} (h : y ∈ l.take i) : ∃ j, j < i ∧ j < l.length ∧ nth l j = y := by
  obtain ⟨j, hj, e⟩ := List.getElem_of_mem h
  rw [List.length_take] at hj
  refine ⟨j, by omega, by omega, nth_eq ?_⟩
  rw [List.getElem_take] at e
  rw [List.getElem?_eq_getElem (by omega), e]
theorem nth_mem_drop {α : Type} [Inhabited α] {l : List α} {i : Nat} {y : α} (h : y ∈ l.drop i) : ∃ j, i ≤ j ∧ j < l.length ∧ nth l j = y := by
  obtain ⟨j, hj, e⟩ := List.getElem_of_mem h
  rw [List.length_drop] at hj
  refine ⟨i + j, by omega, by omega, nth_eq ?_⟩
  rw [List.getElem_drop] at e
  rw [List.getElem?_eq_getElem (by omega), e]
theorem pw_ins {α : Type} {R : α → α → Prop} {l : List α} {i : Nat} {x : α} (h : l.Pairwise R) (h1 : ∀ y ∈ l.take i, R y x) (h2 : ∀ y ∈ l.drop i, R x y) : (insAt l i x).Pairwise R := by
  rw [← List.take_append_drop i l, List.pairwise_append] at h
  unfold insAt
  refine List.pairwise_append.2 ⟨h.1, List.pairwise_cons.2 ⟨h2, h.2.1⟩, fun a ha b hb => ?_⟩
  rcases List.mem_cons.1 hb with rfl | hb
  · exact h1 a ha
  · exact h.2.2 a ha b hb
theorem open_ok {next : Int} {L : List Fil} {rc sq : Int} {x : Opn} (hk : Ok next L) : Ok (openT next L rc sq x).2.1 (openT next L rc sq x).1 := by
  unfold openT
  split
  · rename_i hz
    obtain ⟨z1, z2, z3, z4⟩ := opnE_pos hz
    have hk' := hk.mono (next' := next + 1) (by omega)
    split
    · rename_i hb
      obtain ⟨hi, he⟩ := (bsF_iff hk).1 hb
      split
      · rename_i ho
        have hf := put_ok (nth_Ok hk hi) hk.nx.1 z2 ho
        refine ⟨hk'.nx, ?_, fun g hg => ?_, ?_, ?_⟩
        · have := cnt_set (L := L) (f := putO (nth L (bsL (cmps L rc sq))) x next) hi
          have e : (putO (nth L (bsL (cmps L rc sq))) x next).op.length = (nth L (bsL (cmps L rc sq))).op.length + 1 := by simp [putO]
          show cntT (L.set (bsL (cmps L rc sq)) (putO (nth L (bsL (cmps L rc sq))) x next)) ≤ 32
          omega
        · rcases mem_set_or hg with rfl | h9
          · exact hf
          · exact hk'.fl g h9
        · exact pw_map_set (g := fun f : Fil => (f.rc, f.sq)) (R := fun a b => refLt a b = true) rfl hk.sr
        · refine pw_set hk.ds (fun y hy hR o ho p hp => ?_) (fun y hy hR o ho p hp => ?_)
          · rcases List.mem_append.1 hp with h1 | h1
            · exact hR o ho p h1
            · have := (hk.fl y hy).hd o ho
              rw [List.mem_singleton.1 h1]
              show o.hd ≠ next
              omega
          · rcases List.mem_append.1 ho with h1 | h1
            · exact hR o h1 p hp
            · have := (hk.fl y hy).hd p hp
              rw [List.mem_singleton.1 h1]
              show next ≠ p.hd
              omega
      · exact hk
    · rename_i hb
      have hna := not_at hk hb
      obtain ⟨p1, p2, p3⟩ := place_spec (rc := rc) (sq := sq) hk
      refine ⟨hk'.nx, ?_, fun g hg => ?_, ?_, ?_⟩
      · show cntT (insAt _ _ _) ≤ 32
        rw [cnt_ins]
        show cntT L + 1 ≤ 32
        omega
      · rcases ins_le g hg with rfl | h9
        · exact new_ok hk.nx.1 z1 z2
        · exact hk'.fl g h9
      · refine pw_ins hk.sr (fun y hy => ?_) (fun y hy => ?_)
        · obtain ⟨j, h1, h2, rfl⟩ := nth_mem_take hy
          exact p2 j h1
        · obtain ⟨j, h1, h2, rfl⟩ := nth_mem_drop hy
          exact refLt_tri (p3 j h1 h2) (hna _ (mem_nth h2))
      · refine pw_ins hk.ds (fun y hy o ho p hp => ?_) (fun y hy o ho p hp => ?_)
        · have := (hk.fl y (List.mem_of_mem_take hy)).hd o ho
          rw [List.mem_singleton.1 hp]
          show o.hd ≠ next
          omega
        · have := (hk.fl y (List.mem_of_mem_drop hy)).hd p hp
          rw [List.mem_singleton.1 ho]
          show next ≠ p.hd
          omega
  · exact hk
theorem doT_ok {next : Int} {L : List Fil} {a : HAct} (hk : Ok next L) : Ok (doT next L a).2.1 (doT next L a).1 := by
  unfold doT
  by_cases h0 : a.kd = 0
  · rw [if_pos h0]; exact open_ok hk
  rw [if_neg h0]
  by_cases h1 : a.kd = 1
  · rw [if_pos h1]; exact close_ok hk
  rw [if_neg h1]
  by_cases h2 : a.kd = 2
  · rw [if_pos h2]; exact mark_ok hk
  rw [if_neg h2]
  by_cases h3 : a.kd = 3
  · rw [if_pos h3]; exact lock_ok hk
  rw [if_neg h3]
  by_cases h4 : a.kd = 4
  · rw [if_pos h4]; exact unlock_ok hk
  rw [if_neg h4]
  repeat' split
  all_goals exact hk
end Go.Proofs
