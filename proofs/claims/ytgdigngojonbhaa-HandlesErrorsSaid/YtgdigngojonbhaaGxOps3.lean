/- The engine's rules for append, slicing of slices, make, copy, min, max; what one class says of another one; contracts. -/
import Derived.Test.YtgdigngojonbhaaGxOps2
namespace Gx
open Go Go.RowKit

/-! ## One class out of another one -/
def Ent (As Bs : List HA) : Prop := ∃ Cs, As.Perm (Bs ++ Cs)
theorem Ent.nil {As : List HA} : Ent As [] := ⟨As, .refl _⟩
theorem Ent.cons {As As' Bs : List HA} {A : HA} (h : Pick As A As') (r : Ent As' Bs) : Ent As (A :: Bs) := by
  obtain ⟨Cs, hc⟩ := r
  exact ⟨Cs, h.perm.trans (List.Perm.cons _ hc)⟩
theorem HS.ent {w0 w : World} {M : List Nat} {As Bs : List HA} (he : Ent As Bs) (h : HS w0 M As w) : HS w0 M Bs w := by
  obtain ⟨Cs, hc⟩ := he
  exact (h.perm hc).sub (List.sublist_append_left _ _)
theorem Ent.refl (As : List HA) : Ent As As := ⟨[], by simp⟩

/-! ## append -/
/-- A block's known part is written on. -/
theorem extend_run {P : Program} {b : Nat} {t : TypeId} {tot : Nat} : ∀ (vs : List Value) (cs : List Value) (w : World), BlkOk b t tot cs w → cs.length + vs.length ≤ tot → (∀ v ∈ vs, v.oneCell' = true) → ∀ (o j : Nat), o + j = cs.length →
    ∃ w', (storeCells ⟨b, o, none⟩ vs j).run P w = .ok () w' ∧ BlkOk b t tot (cs ++ vs) w' ∧ w'.os = w.os ∧ w'.tape = w.tape ∧ w'.output = w.output ∧ w'.heap.size = w.heap.size ∧ ∀ k, k ≠ b → w'.heap[k]? = w.heap[k]?
  | [], cs, w, h, _, _, o, j, _ => ⟨w, rfl, by simpa using h, rfl, rfl, rfl, rfl, fun _ _ => rfl⟩
  | v :: vs, cs, w, h, hl, h1, o, j, hj => by
    simp only [List.length_cons] at hl
    obtain ⟨u, hu⟩ := h.cellsome (i := cs.length) (by omega)
    have hf := h.frozen (i := cs.length) (by omega)
    have hst : (store ((⟨b, o, none⟩ : Addr).add j) v).run P w = .ok () (w.setCell ⟨b, cs.length, none⟩ v) := by
      rw [addr_add, hj, run_store P w _ v _ (h1 v (List.mem_cons_self ..)), hu]
      simp [hf]
    have h2 : BlkOk b t tot (cs ++ [v]) (w.setCell ⟨b, cs.length, none⟩ v) := by
      obtain ⟨cur, fr, e1, e2, e3, e4, e5⟩ := h
      refine ⟨cur.setIfInBounds cs.length v, fr, by simp [World.setCell, Array.getElem?_modify, e1], by simpa using e2, by simp; omega, fun i hi => ?_, e5⟩
      simp only [List.length_append, List.length_cons, List.length_nil] at hi
      rw [Array.getElem?_setIfInBounds]
      by_cases e : cs.length = i
      · subst e
        rw [if_pos rfl, if_pos (by omega)]
        simp
      · rw [if_neg e, e4 i (by omega), List.getElem?_append_left (by omega)]
    obtain ⟨w', hr, hb, r1, r2, r3, r4, r5⟩ := extend_run (P := P) vs (cs ++ [v]) _ h2 (by simp; omega) (fun v hv => h1 v (List.mem_cons_of_mem _ hv)) o (j + 1) (by simp; omega)
    refine ⟨w', ?_, by simpa using hb, by rw [r1]; rfl, by rw [r2]; rfl, by rw [r3]; rfl, by rw [r4]; simp, fun k hk => (r5 k hk).trans (heap_setCell_ne w b _ v k hk)⟩
    rw [storeCells]
    simp only [Sem.run_bind, hst, Result.andThen_ok, hr]
/-- The source of an append: a slice that reads as these cells. -/
def Src (a : Option Addr) (news : List Value) (w : World) : Prop := news ≠ [] → ∃ b i, a = some ⟨b, i, none⟩ ∧ ∀ j u, news[j]? = some u → w.cell? ⟨b, i + j, none⟩ = some u
theorem firstCells_run {P : Program} {sz m c : Nat} {a : Option Addr} {news : List Value} {w : World} (hl : news.length = m * sz) (h : Src a news w) : (Builtin.firstCells sz m (.slice a m c)).run P w = .ok news.toArray w := by
  cases news with
  | nil =>
    cases a with
    | none => simp [Builtin.firstCells]
    | some ad => exact run_firstCells_some w sz m ad m c [] hl (fun j v hv => by simp at hv)
  | cons u us =>
    obtain ⟨b, i, rfl, h2⟩ := h (by simp)
    exact run_firstCells_some w sz m ⟨b, i, none⟩ m c _ hl (fun j v hv => by rw [addr_add]; exact h2 j v hv)
theorem grow_run {P : Program} {t xt ty e n m cap : Nat} {inf : TypeInfo} {zv x : Value} {a : Option Addr} {olds news : List Value} {w : World} (hu : P.underlying t = some (.slice e)) (hxt : P.underlying xt = some .string ∨ ∃ e', P.underlying xt = some (.slice e')) (hi : P.info? e = some inf) (hz : inf.zero = some zv)
    (hlen : (Builtin.lenOf x).run P w = .ok m w) (hfc : (Builtin.firstCells inf.size m x).run P w.drew = .ok news.toArray w.drew) (hfo : (Builtin.firstCells inf.size n (.slice a n cap)).run P w.drew = .ok olds.toArray w.drew)
    (hg : cap < n + m) (h63 : ((n + m : Nat) : Int) ≤ 9223372036854775807) (hfit : Builtin.nextslicecap (n + m) cap * inf.bytes ≤ 281474976710656) :
    (Builtin.append_ #[t, xt] ty #[.slice a n cap, x]).run P w = .ok (.slice (some ⟨w.heap.size, 0, none⟩) (n + m) (grownCap w (n + m) cap e)) (w.drew.alloc (.cells (olds.toArray ++ news.toArray ++ Builtin.zeroCells zv.cells (grownCap w (n + m) cap e - (n + m))) e)) := by
  have hn : ¬ (n + m ≤ cap) := by omega
  have h63' : ¬ (9223372036854775807 < ((n : Int) + (m : Int))) := by omega
  have h48' : ¬ (281474976710656 < Builtin.nextslicecap (n + m) cap * inf.bytes) := by omega
  rcases hxt with hxd | ⟨e', hxd⟩
  · simp [Builtin.append_, run_underlying hu, run_underlying hxd, Go.sizeOf, typeInfo, zeroValue, hi, hz, hlen, hn, h63', h48', Question.forced, hfc, hfo, newRow, grownCap]
    congr 2
    apply Array.ext'
    simp [List.append_assoc]
  · simp [Builtin.append_, run_underlying hu, run_underlying hxd, Go.sizeOf, typeInfo, zeroValue, hi, hz, hlen, hn, h63', h48', Question.forced, hfc, hfo, newRow, grownCap]
    congr 2
    apply Array.ext'
    simp [List.append_assoc]
theorem room_run {P : Program} {t xt ty e n m cap g : Nat} {inf : TypeInfo} {x : Value} {news : List Value} {w w' : World} (hu : P.underlying t = some (.slice e)) (hxt : P.underlying xt = some .string ∨ ∃ e', P.underlying xt = some (.slice e')) (hi : P.info? e = some inf)
    (hlen : (Builtin.lenOf x).run P w = .ok m w) (hfc : (Builtin.firstCells inf.size m x).run P w = .ok news.toArray w) (hst : (storeCells ((⟨g, 0, none⟩ : Addr).add (n * inf.size)) news).run P w = .ok () w')
    (hg : n + m ≤ cap) :
    (Builtin.append_ #[t, xt] ty #[.slice (some ⟨g, 0, none⟩) n cap, x]).run P w = .ok (.slice (some ⟨g, 0, none⟩) (n + m) cap) w' := by
  rcases hxt with hxd | ⟨e', hxd⟩
  · simp [Builtin.append_, run_underlying hu, run_underlying hxd, Go.sizeOf, typeInfo, hi, hlen, hg, hfc, hst]
  · simp [Builtin.append_, run_underlying hu, run_underlying hxd, Go.sizeOf, typeInfo, hi, hlen, hg, hfc, hst]
theorem none_run {P : Program} {t xt ty e : Nat} {inf : TypeInfo} {x : Value} {w : World} (hu : P.underlying t = some (.slice e)) (hxt : P.underlying xt = some .string ∨ ∃ e', P.underlying xt = some (.slice e')) (hi : P.info? e = some inf)
    (hlen : (Builtin.lenOf x).run P w = .ok 0 w) (hfc : (Builtin.firstCells inf.size 0 x).run P w = .ok #[] w) :
    (Builtin.append_ #[t, xt] ty #[.slice none 0 0, x]).run P w = .ok (.slice none 0 0) w := by
  rcases hxt with hxd | ⟨e', hxd⟩
  · simp [Builtin.append_, run_underlying hu, run_underlying hxd, Go.sizeOf, typeInfo, hi, hlen, hfc]
  · simp [Builtin.append_, run_underlying hu, run_underlying hxd, Go.sizeOf, typeInfo, hi, hlen, hfc]
/-- What an append of these cells comes to, wherever they are read from. -/
theorem append_run {P : Program} {t xt ty e sz by' n m : Nat} {v x : Value} {z xs news : List Value} {w w0 : World} {M : List Nat} {As As' : List HA} (ht : tsl P t = some (e, sz, by')) (hxt : P.underlying xt = some .string ∨ ∃ e', P.underlying xt = some (.slice e')) (hz : tzero P e = some z) (hzs : z.length = sz)
    (hw : HS w0 M As w) (hp : Pick As (.own v e sz n xs) As') (hlen : (Builtin.lenOf x).run P w = .ok m w) (hfc : (Builtin.firstCells sz m x).run P w = .ok news.toArray w) (hfc' : (Builtin.firstCells sz m x).run P w.drew = .ok news.toArray w.drew) (hl : news.length = m * sz) (h1 : ∀ u ∈ news, u.oneCell' = true)
    (hroom : (n + m) * by' ≤ 140737488355328) (hmax : n + m ≤ maxLen) :
    ∃ v' w', (Builtin.append_ #[t, xt] ty #[v, x]).run P w = .ok v' w' ∧ HS w0 M (.own v' e sz (n + m) (xs ++ news) :: As') w' := by
  obtain ⟨hu, inf, hi, hs1, hs2⟩ := tsl_slice ht
  obtain ⟨inf', zv, h4, h5, h6⟩ := tzero_some hz
  rw [hi] at h4
  injection h4 with h4
  subst h4
  subst hs1
  subst hs2
  have hpk := hw.pick hp
  obtain ⟨hxl, hown⟩ := hpk.head
  have hlx : (xs ++ news).length = (n + m) * inf.size := by rw [List.length_append, hxl, hl, Nat.add_mul]
  have hmx : ((n + m : Nat) : Int) ≤ 9223372036854775807 := by simp only [maxLen] at hmax; omega
  -- it grows
  have grow : ∀ (a : Option Addr) (cap : Nat), v = .slice a n cap → cap < n + m → (Builtin.firstCells inf.size n (.slice a n cap)).run P w.drew = .ok xs.toArray w.drew →
      ∃ v' w', (Builtin.append_ #[t, xt] ty #[v, x]).run P w = .ok v' w' ∧ HS w0 M (.own v' e inf.size (n + m) (xs ++ news) :: As') w' := by
    intro a cap hv hcap hold
    subst hv
    have hfit := growslice_fits hcap hroom
    have hge := grownCap_ge w (n + m) cap e
    have hle := grownCap_le_maxLen w (n + m) cap e hmax
    refine ⟨_, _, grow_run hu hxt hi h5 hlen hfc' hold hcap hmx hfit, ?_⟩
    generalize grownCap w (n + m) cap e = N at *
    refine ((hw.drew.pick hp).tail).alloc _ _ rfl ⟨hlx, .inr ⟨_, N, rfl, hge, hle, _, _, heap_alloc_new _ _, ?_, ?_, fun i hi => ?_, fun _ _ h => absurd h (Nat.not_lt_zero _)⟩⟩
    · simp only [Array.size_append, List.size_toArray, size_zeroCells]
      have hzl : zv.cells.size = inf.size := by rw [← hzs, ← h6]; simp
      rw [hzl, hxl, hl, ← Nat.add_mul, ← Nat.add_mul]
      congr 1
      omega
    · rw [hlx]; exact Nat.mul_le_mul_right _ hge
    · rw [Array.getElem?_append_left (by simpa using hi)]
      simp
  rcases hown with ⟨rfl, rfl⟩ | ⟨g, cap, rfl, hnc, hcm, hblk⟩
  · have hx0 : xs = [] := List.eq_nil_of_length_eq_zero (by simpa using hxl)
    subst hx0
    rcases Nat.eq_zero_or_pos m with rfl | hm
    · have hn0 : news = [] := List.eq_nil_of_length_eq_zero (by simpa using hl)
      subst hn0
      exact ⟨.slice none 0 0, w, none_run hu hxt hi hlen hfc, by simpa using hpk⟩
    · exact grow none 0 rfl (by omega) (by simp [Builtin.firstCells])
  · by_cases hr : n + m ≤ cap
    · obtain ⟨w', hst, hb, r1, r2, r3, r4, r5⟩ := extend_run (P := P) news xs w hblk (by rw [hxl, hl, ← Nat.add_mul]; exact Nat.mul_le_mul_right _ hr) h1 (n * inf.size) 0 (by omega)
      refine ⟨_, w', room_run hu hxt hi hlen hfc (by rw [addr_add, Nat.zero_add]; exact hst) hr, HS.swap hpk (B := .own (.slice (some ⟨g, 0, none⟩) (n + m) cap) e inf.size (n + m) (xs ++ news)) (fun _ h => h) r1 r2 r3 r4 (fun k hk => r5 k (by simpa [HA.fp_own, HA.fp_blk, Value.ownBlock] using hk)) ⟨hlx, .inr ⟨g, cap, rfl, hr, hcm, hb⟩⟩⟩
    · refine grow _ cap rfl (by omega) ?_
      exact firstCells_run (w := w.drew) hxl fun _ => ⟨g, 0, rfl, fun j u hu => by
        have := hblk.cell hu
        simpa using this⟩
section
variable {P : Program} {o : Oper} {L : Slots} {w0 : World} {M : List Nat} {As As' : List HA}
/-- append of a slice's cells to a slice value of the call's own. -/
theorem h_append {t xt e e' sz by' n m c : Nat} {s x : Operand} {v : Value} {a : Option Addr} {z xs : List Value} (news : List Value) (ho : o.op = .call { callee := .builtin .append, args := #[s, x], argTypes := #[t, xt] }) (hs : ev L s = some v) (hx : ev L x = some (.slice a m c)) (ht : tsl P t = some (e, sz, by')) (hxt : P.underlying xt = some (.slice e')) (hz : tzero P e = some z) (hzs : z.length = sz)
    (hp : Pick As (.own v e sz n xs) As') (hsrc : ∀ w, HS w0 M As w → Src a news w) (hl : news.length = m * sz) (h1 : ∀ u ∈ news, u.oneCell' = true) (hroom : (n + m) * by' ≤ 140737488355328) (hmax : n + m ≤ maxLen) :
    OpH P o L (HS w0 M As) (fun v' : Value => v') (fun _ => True) (fun v' => HS w0 M (.own v' e sz (n + m) (xs ++ news) :: As')) := by
  intro ρ w hρ hw
  obtain ⟨v', w', hr, hw'⟩ := append_run (P := P) (ty := o.type) ht (.inr ⟨e', hxt⟩) hz hzs hw hp (x := .slice a m c) rfl (firstCells_run hl (hsrc w hw)) (firstCells_run (w := w.drew) hl (hsrc w hw)) hl h1 hroom hmax
  simp only [execOp, ho, resolve, Sem.run_bind, Sem.run_pure, Result.andThen_ok, invoke, builtin, List.map_toArray, List.map_cons, List.map_nil, hρ _ _ hs, hρ _ _ hx, hr]
  exact ⟨v', rfl, trivial, hw'⟩
theorem h_append_str {t xt e by' n : Nat} {s x : Operand} {v : Value} {z xs : List Value} {l : List UInt8} (ho : o.op = .call { callee := .builtin .append, args := #[s, x], argTypes := #[t, xt] }) (hs : ev L s = some v) (hx : ev L x = some (.string (bs l))) (ht : tsl P t = some (e, 1, by')) (hxt : P.underlying xt = some .string) (hz : tzero P e = some z) (hzs : z.length = 1)
    (hp : Pick As (.own v e 1 n xs) As') (hroom : (n + l.length) * by' ≤ 140737488355328) (hmax : n + l.length ≤ maxLen) :
    OpH P o L (HS w0 M As) (fun v' : Value => v') (fun _ => True) (fun v' => HS w0 M (.own v' e 1 (n + l.length) (xs ++ l.map fun b => .int .u8 (b.toNat : Int)) :: As')) := by
  intro ρ w hρ hw
  have hfc : ∀ w, (Builtin.firstCells 1 l.length (.string (bs l))).run P w = .ok (l.map fun b => Value.int .u8 (b.toNat : Int)).toArray w := fun w => by
    have hx : (bs l).extract 0 l.length = bs l := (bs_of _).trans (congrArg bs (by rw [Lib.extract_data]; simp))
    simp only [Builtin.firstCells, hx, Sem.run_pure]
    congr 1
    simp [bs]
  obtain ⟨v', w', hr, hw'⟩ := append_run (P := P) (ty := o.type) ht (.inl hxt) hz hzs hw hp (x := .string (bs l)) rfl (hfc _) (hfc _) (by simp) (fun u hu => by
    obtain ⟨b, _, rfl⟩ := List.mem_map.1 hu; rfl) hroom hmax
  simp only [execOp, ho, resolve, Sem.run_bind, Sem.run_pure, Result.andThen_ok, invoke, builtin, List.map_toArray, List.map_cons, List.map_nil, hρ _ _ hs, hρ _ _ hx, hr]
  exact ⟨v', rfl, trivial, hw'⟩
theorem src_blk {b tot : Nat} {bt : TypeId} {cs : List Value} (hp : Pick As (.blk b bt tot cs) As') : ∀ w, HS w0 M As w → Src (some ⟨b, 0, none⟩) cs w :=
  fun _ hw _ => ⟨b, 0, rfl, fun j u hu => by simpa using (hw.blk_get hp).cell hu⟩

/-! ## Picks whose test is known -/
theorem p_pickt {c x y : Operand} {b : Bool} {v : Value} (ho : o.op = .pick c x y) (hc : ev L c = some (.bool b)) (hb : b = true) (hx : ev L x = some v) : OpP P o L v := by
  intro ρ w hρ
  subst hb
  simp [execOp, ho, hρ _ _ hc, asBool, hρ _ _ hx]
theorem p_pickf {c x y : Operand} {b : Bool} {v : Value} (ho : o.op = .pick c x y) (hc : ev L c = some (.bool b)) (hb : b = false) (hy : ev L y = some v) : OpP P o L v := by
  intro ρ w hρ
  subst hb
  simp [execOp, ho, hρ _ _ hc, asBool, hρ _ _ hy]
end
/-- A number that fits its kind. -/
theorem i64w {e : Int} (h1 : -9223372036854775808 ≤ e) (h2 : e ≤ 9223372036854775807) : Value.int .i64 (IntKind.i64.wrap e) = Value.int .i64 e := by rw [IntWalk.i64_in _ ⟨h1, h2⟩]

/-! ## Loops, with what stays known -/
def dropL : List Nat → Slots → Slots
  | _, [] => []
  | md, (k, v) :: r => bif md.any (Nat.beq k) then dropL md r else (k, v) :: dropL (k :: md) r
def BackI (n : Nat) {α : Type} (LJ : α → Slots) (CJ : α → World → Prop) (I : α → Prop) (m : α → Nat) (x : α) (a : Act) (w : World) : Prop := ∃ y, m y < m x ∧ I y ∧ FR n (LJ y) a ∧ CJ y w
section
variable {X : Ctx} {k : List KI} {L : Slots} {C : World → Prop}
theorem s_loopI {α : Type} {c : Code} (md : List Nat) (Lm : α → Slots) (CJ : α → World → Prop) (I : α → Prop) (m : α → Nat) (x0 : α) (hI : I x0) (hL : subL L (Lm x0 ++ dropL md L)) (hC : ∀ w, C w → CJ x0 w)
    (h : ∀ x, I x → S X (.c c :: .join (BackI X.n (fun x => Lm x ++ dropL md L) CJ I m x) :: k) (Lm x ++ dropL md L) (CJ x)) : S X (.c (.loop c) :: k) L C := by
  refine s_loop (α := { x : α // I x }) (fun x => Lm x.1 ++ dropL md L) (fun x => CJ x.1) (fun x => m x.1) ⟨x0, hI⟩ hL hC fun x => ?_
  intro a w ha hw
  refine wp_mono (h x.1 x.2 a w ha hw) fun e a w he => ?_
  cases e with
  | normal =>
    obtain ⟨y, hm, hy, hf, hc⟩ := he
    exact ⟨⟨y, hy⟩, hm, hf, hc⟩
  | _ => exact he
theorem s_backI {α : Type} {LJ : α → Slots} {CJ : α → World → Prop} {I : α → Prop} {m : α → Nat} {x : α} (y : α) (hm : m y < m x) (hI : I y) (hL : subL L (LJ y)) (hC : ∀ w, C w → CJ y w) : S X (.join (BackI X.n LJ CJ I m x) :: k) L C :=
  fun _ w ha hw => ⟨y, hm, hI, ha.sub hL.all, hC w hw⟩
/-- A place where ways meet, with what stays known. -/
def AtI (n : Nat) {α : Type} (LJ : α → Slots) (CJ : α → World → Prop) (I : α → Prop) (a : Act) (w : World) : Prop := ∃ x, I x ∧ FR n (LJ x) a ∧ CJ x w
theorem s_cutI {α : Type} {c : Code} (md : List Nat) (Lm : α → Slots) (CJ : α → World → Prop) (I : α → Prop) (h1 : S X (.c c :: .join (AtI X.n (fun x => Lm x ++ dropL md L) CJ I) :: k) L C) (h2 : ∀ x, I x → S X k (Lm x ++ dropL md L) (CJ x)) : S X (.c c :: k) L C := by
  intro a w ha hw
  refine wp_mono (h1 a w ha hw) fun e a w he => ?_
  cases e with
  | normal => obtain ⟨x, hx, hf, hc⟩ := he; exact h2 x hx a w hf hc
  | _ => exact he
theorem s_joinI {α : Type} {LJ : α → Slots} {CJ : α → World → Prop} {I : α → Prop} (x : α) (hI : I x) (hL : subL L (LJ x)) (hC : ∀ w, C w → CJ x w) : S X (.join (AtI X.n LJ CJ I) :: k) L C :=
  fun _ w ha hw => ⟨x, hI, ha.sub hL.all, hC w hw⟩
end
end Gx
