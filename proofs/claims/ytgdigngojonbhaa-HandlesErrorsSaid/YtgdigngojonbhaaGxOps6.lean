/- The engine's rules, continued: calls that are handed assertions of their own; copy, clear, cap, append in place, slices.overlaps. -/
import Derived.Test.YtgdigngojonbhaaGxOps5
import Derived.Laws.Externs
import Derived.Lib.Overlaps
namespace Gx
set_option linter.unusedSimpArgs false
set_option linter.unusedVariables false
open Go Go.RowKit

/-! ## Contracts over assertions -/
def fps (As : List HA) : List Nat := As.flatMap HA.fp
/-- The first assertions alone, as a callee sees them. -/
theorem HS.focus {w0 w : World} {M : List Nat} {Cs Ds : List HA} (h : HS w0 M (Cs ++ Ds) w) : HS w (fps Cs) Cs w := by
  refine ⟨rfl, rfl, rfl, Nat.le_refl _, fun _ _ _ => rfl, fun A hA => h.ok A (List.mem_append_left _ hA), fun A hA b hb => ⟨(h.lt A (List.mem_append_left _ hA) b hb).1, fun _ => List.mem_flatMap.2 ⟨A, hA, hb⟩⟩, (List.pairwise_append.1 h.sep).1⟩
def Picks (As Cs Ds : List HA) : Prop := As.Perm (Cs ++ Ds)
theorem Picks.nil {As : List HA} : Picks As [] As := .refl _
theorem Picks.cons {As As' Cs Ds : List HA} {A : HA} (h : Pick As A As') (r : Picks As' Cs Ds) : Picks As (A :: Cs) Ds := h.perm.trans (List.Perm.cons _ r)
/-- A callee that is handed assertions, and answers with others. -/
def CF (P : Program) (f : FuncId) (args : Array Value) {G : Type} (V : G → Value) (F : G → Prop) (Cs : List HA) (Bs : G → List HA) : Prop :=
  ∀ w, HS w (fps Cs) Cs w → Calls P f args w fun e w' => ∃ g, e = .returned (V g) ∧ F g ∧ HS w (fps Cs) (Bs g) w'
section
variable {P : Program} {o : Oper} {L : Slots} {w0 : World} {M : List Nat} {As As' : List HA}
theorem h_callF {G : Type} {V : G → Value} {F : G → Prop} {Bs : G → List HA} {Cs Ds : List HA} {f : FuncId} {args : Array Operand} {vs : List Value} {at' : Array TypeId} (ho : o.op = .call { callee := .value (.func f), args := args, argTypes := at' }) (hf : isFn P f = true) (ha : evs L args.toList = some vs)
    (hp : Picks As Cs Ds) (hc : ∀ w, HS w0 M As w → HS w (fps Cs) Cs w → Calls P f vs.toArray w fun e w' => ∃ g, e = .returned (V g) ∧ F g ∧ HS w (fps Cs) (Bs g) w') : OpH P o L (HS w0 M As) V F (fun g => HS w0 M (Bs g ++ Ds)) :=
  h_callM ho hf ha hp (fun b hb => by obtain ⟨A, hA, hb⟩ := List.mem_flatMap.1 hb; exact ⟨A, hA, hb⟩) (fun w hw => hc w hw (HS.focus (hw.perm hp)))
theorem h_callvF {G : Type} {V : G → Value} {F : G → Prop} {Bs : G → List HA} {Cs Ds : List HA} {f : FuncId} {c : Operand} {args : Array Operand} {vs : List Value} {first cap : Array Value} {at' : Array TypeId} (ho : o.op = .call { callee := .value c, args := args, argTypes := at' }) (hcv : ev L c = some (.func (.func f) first cap)) (hf : isFn P f = true) (ha : evs L args.toList = some vs)
    (hp : Picks As Cs Ds) (hc : ∀ w, HS w0 M As w → HS w (fps Cs) Cs w → Calls P f (first ++ vs.toArray ++ cap) w fun e w' => ∃ g, e = .returned (V g) ∧ F g ∧ HS w (fps Cs) (Bs g) w') : OpH P o L (HS w0 M As) V F (fun g => HS w0 M (Bs g ++ Ds)) :=
  h_callvM ho hcv hf ha hp (fun b hb => by obtain ⟨A, hA, hb⟩ := List.mem_flatMap.1 hb; exact ⟨A, hA, hb⟩) (fun w hw => hc w hw (HS.focus (hw.perm hp)))

/-! ## What is known of a block, more and less -/
theorem BlkOk.full {b t tot : Nat} {cs : List Value} {w : World} (h : BlkOk b t tot cs w) : ∃ ds, cs.length + ds.length = tot ∧ BlkOk b t tot (cs ++ ds) w := by
  obtain ⟨cur, fr, h1, h2, h3, h4, h5⟩ := h
  refine ⟨cur.toList.drop cs.length, by simp; omega, cur, fr, h1, h2, by simp; omega, fun i hi => ?_, h5⟩
  rcases Nat.lt_or_ge i cs.length with hl | hl
  · rw [List.getElem?_append_left hl]; exact h4 i hl
  · rw [List.getElem?_append_right hl, List.getElem?_drop, ← Array.getElem?_toList]
    congr 1
    omega
theorem HS.blk_full {w : World} {b t tot : Nat} {cs : List Value} (hp : Pick As (.blk b t tot cs) As') (h : HS w0 M As w) : ∃ ds, cs.length + ds.length = tot ∧ HS w0 M (.blk b t tot (cs ++ ds) :: As') w := by
  obtain ⟨ds, h1, h2⟩ := (h.pick hp).head.full
  exact ⟨ds, h1, (h.pick hp).turn (fun _ h => h) fun _ => h2⟩
theorem BlkOk.less {b t tot : Nat} {cs ds : List Value} {w : World} (h : BlkOk b t tot (cs ++ ds) w) : BlkOk b t tot cs w := by
  obtain ⟨cur, fr, h1, h2, h3, h4, h5⟩ := h
  simp only [List.length_append] at h3
  exact ⟨cur, fr, h1, h2, by omega, fun i hi => by rw [h4 i (by simp; omega), List.getElem?_append_left hi], h5⟩
theorem HS.blk_less {w : World} {b t tot : Nat} {cs ds : List Value} (hp : Pick As (.blk b t tot (cs ++ ds)) As') (h : HS w0 M As w) : HS w0 M (.blk b t tot cs :: As') w :=
  (h.pick hp).turn (fun _ h => h) fun hb => hb.less
/-- A block that is a row of its own from here on. -/
theorem HS.to_own {w : World} {g cap t sz n : Nat} {cs xs ds : List Value} (hp : Pick As (.blk g t (cap * sz) cs) As') (h : HS w0 M As w) (he : cs = xs ++ ds) (hl : xs.length = n * sz) (hn : n ≤ cap) (hc : cap ≤ maxLen) : HS w0 M (.own (.slice (some ⟨g, 0, none⟩) n cap) t sz n xs :: As') w := by
  subst he
  have h2 := h.blk_less hp
  exact h2.own_shut hl hn hc
/-- A row of its own whose value is at hand, as a block. -/
theorem HS.own_blk {w : World} {a : Option Addr} {t sz n n' cap : Nat} {xs : List Value} (hn : 0 < n) (hp : Pick As (.own (.slice a n' cap) t sz n xs) As') (h : HS w0 M As w) : ∃ g, a = some ⟨g, 0, none⟩ ∧ n' = n ∧ n ≤ cap ∧ cap ≤ maxLen ∧ xs.length = n * sz ∧ HS w0 M (.blk g t (cap * sz) xs :: As') w := by
  obtain ⟨g, cap', e, h1, h2, h3, h4⟩ := (h.pick hp).own_open' hn
  injection e with e1 e2 e3
  subst e1 e2 e3
  exact ⟨g, rfl, rfl, h1, h2, h3, h4⟩
theorem HS.own_facts {w : World} {a : Option Addr} {t sz n n' cap : Nat} {xs : List Value} (hp : Pick As (.own (.slice a n' cap) t sz n xs) As') (h : HS w0 M As w) : n' = n ∧ n ≤ cap ∧ cap ≤ maxLen ∧ xs.length = n * sz := by
  obtain ⟨hl, h1 | ⟨g, cap', e, h2, h3, _⟩⟩ := (h.pick hp).head
  · obtain ⟨e, rfl⟩ := h1
    injection e with e1 e2 e3
    subst e2 e3
    exact ⟨rfl, Nat.le_refl _, Nat.zero_le _, hl⟩
  · injection e with e1 e2 e3
    subst e2 e3
    exact ⟨rfl, h2, h3, hl⟩
theorem setMany_eq : ∀ (vs cs : List Value) (i : Nat), i + vs.length ≤ cs.length → setMany cs i vs = cs.take i ++ vs ++ cs.drop (i + vs.length)
  | [], cs, i, h => by simp [setMany]
  | v :: vs, cs, i, h => by
    simp only [List.length_cons] at h
    rw [setMany, setMany_eq vs (cs.set i v) (i + 1) (by simp; omega)]
    rw [List.drop_set_of_lt (by omega), List.take_add_one, List.take_set_of_le (Nat.le_refl i), List.getElem?_set_self (by omega)]
    simp only [Option.toList_some, List.append_assoc, List.cons_append, List.nil_append, List.length_cons]
    congr 4
    omega
theorem subA_zero (g cap sz : Nat) : subA (some ⟨g, 0, none⟩) cap 0 sz = some ⟨g, 0, none⟩ := by
  unfold subA
  split <;> simp [addr_add]
theorem subA_lt {g cap i sz : Nat} (h : i < cap) : subA (some ⟨g, 0, none⟩) cap i sz = some ⟨g, i * sz, none⟩ := by
  unfold subA
  rw [if_neg (by omega)]
  simp [addr_add]
theorem src_cut {b tot : Nat} {bt : TypeId} {cs : List Value} {a : Option Addr} (i k : Nat) (ha : 0 < k → a = some ⟨b, i, none⟩) (hp : Pick As (.blk b bt tot cs) As') : ∀ w, HS w0 M As w → Src a (cut cs i k) w :=
  fun _ hw hne => by
    have hk : 0 < k := by
      rcases Nat.eq_zero_or_pos k with e | h
      · subst e; exact absurd (by simp [cut]) hne
      · exact h
    exact ⟨b, i, ha hk, fun j u hu => (hw.blk_get hp).cell (by
      unfold cut at hu
      rw [List.getElem?_take] at hu
      split at hu
      · rw [List.getElem?_drop] at hu; exact hu
      · cases hu)⟩

/-! ## cap, copy, clear -/
theorem p_cap {t e : TypeId} {x : Operand} {a : Option Addr} {n cap : Nat} (ho : o.op = .call { callee := .builtin .cap, args := #[x], argTypes := #[t] }) (hx : ev L x = some (.slice a n cap)) (h : P.underlying t = some (.slice e)) : OpP P o L (.int .i64 cap) := by
  intro ρ w hρ
  simp [execOp, ho, resolve, invoke, builtin, Builtin.cap_, hρ _ _ hx, run_underlying h, goInt]
theorem firstCells_run' {sz k m c : Nat} {a : Option Addr} {news : List Value} {w : World} (hl : news.length = k * sz) (h : Src a news w) : (Builtin.firstCells sz k (.slice a m c)).run P w = .ok news.toArray w := by
  cases news with
  | nil =>
    cases a with
    | none => simp [Builtin.firstCells]
    | some ad => exact run_firstCells_some w sz k ad m c [] hl (fun j v hv => by simp at hv)
  | cons u us =>
    obtain ⟨b, i, rfl, h2⟩ := h (by simp)
    exact run_firstCells_some w sz k ⟨b, i, none⟩ m c _ hl (fun j v hv => by rw [addr_add]; exact h2 j v hv)
theorem h_copy {dt st e sz by' n m cd cs' b tot i : Nat} {d s : Operand} {ad as_ : Option Addr} {bt : TypeId} {cs : List Value} (k : Nat) (news : List Value) (ho : o.op = .call { callee := .builtin .copy, args := #[d, s], argTypes := #[dt, st] }) (hd : ev L d = some (.slice ad n cd)) (hs : ev L s = some (.slice as_ m cs')) (ht : tsl P dt = some (e, sz, by'))
    (hp : Put As (.blk b bt tot cs) (.blk b bt tot (setMany cs i news)) As') (hk : min m n = k) (hl : news.length = k * sz) (ha : 0 < k → ad = some ⟨b, i, none⟩) (hr : i + news.length ≤ cs.length) (hsrc : ∀ w, HS w0 M As w → Src as_ news w) (h1 : ∀ u ∈ news, u.oneCell' = true) :
    OpH P o L (HS w0 M As) (fun _ : Unit => .int .i64 (k : Int)) (fun _ => True) (fun _ => HS w0 M As') := by
  intro ρ w hρ hw
  obtain ⟨hu, inf, hi, hs1, hs2⟩ := tsl_slice ht
  have hk' : Nat.min m n = k := hk
  have hsz : (Go.sizeOf e).run P w = .ok sz w := by simp [Go.sizeOf, typeInfo, hi, hs1]
  have hfc := firstCells_run' (P := P) (m := m) (c := cs') hl (hsrc w hw)
  obtain ⟨Rs, h3, h4⟩ := hp.ex
  have hpk := hw.pick h3
  rcases Nat.eq_zero_or_pos k with hk0 | hk0
  · subst hk0
    have hn0 : news = [] := List.eq_nil_of_length_eq_zero (by simpa using hl)
    subst hn0
    have he : (Builtin.copy_ #[dt, st] o.type #[.slice ad n cd, .slice as_ m cs']).run P w = .ok (.int .i64 0) w := by
      unfold Builtin.copy_
      cases ad <;> simp [run_underlying hu, Builtin.lenOf, hk', hsz, hfc, goInt, storeCells]
    simp only [execOp, ho, resolve, Sem.run_bind, Sem.run_pure, Result.andThen_ok, invoke, builtin, List.map_toArray, List.map_cons, List.map_nil, hρ _ _ hd, hρ _ _ hs, he]
    exact ⟨(), rfl, trivial, hpk.perm (by simpa [setMany] using h4)⟩
  · obtain ⟨w', hst, hb, r1, r2, r3, r4, r5⟩ := storeCells_run (P := P) news 0 cs w hpk.head (by simpa using hr) h1 (i := i)
    rw [ha hk0] at hd
    have he : (Builtin.copy_ #[dt, st] o.type #[.slice (some ⟨b, i, none⟩) n cd, .slice as_ m cs']).run P w = .ok (.int .i64 (k : Int)) w' := by
      unfold Builtin.copy_
      simp [run_underlying hu, Builtin.lenOf, hk', hsz, hfc, goInt, hst]
    simp only [execOp, ho, resolve, Sem.run_bind, Sem.run_pure, Result.andThen_ok, invoke, builtin, List.map_toArray, List.map_cons, List.map_nil, hρ _ _ hd, hρ _ _ hs, he]
    exact ⟨(), rfl, trivial, (HS.swap hpk (B := .blk b bt tot (setMany cs i news)) (fun _ h => h) r1 r2 r3 r4 (fun k hk => r5 k (by simpa [HA.fp_blk] using hk)) (show BlkOk b bt tot (setMany cs i news) w' by simpa using hb)).perm h4⟩
theorem zeroCells_zrow (zv : Array Value) (n : Nat) : Builtin.zeroCells zv n = (zrow zv.toList (n * zv.size)).toArray := by
  unfold Builtin.zeroCells zrow
  apply Array.ext'
  simp [Array.toList_map, Array.toList_range]
theorem zrow_cells {z : List Value} (hz : z.all (·.oneCell') = true) (hz0 : z ≠ []) (n : Nat) : ∀ u ∈ zrow z n, u.oneCell' = true := by
  intro u hu
  simp only [zrow, List.mem_map, List.mem_range] at hu
  obtain ⟨i, _, rfl⟩ := hu
  have hp : 0 < z.length := List.length_pos_iff.2 hz0
  have hm : i % z.length < z.length := Nat.mod_lt _ hp
  rw [List.getElem!_toArray, List.getElem!_eq_getElem?_getD, List.getElem?_eq_getElem hm]
  exact List.all_eq_true.1 hz _ (List.getElem_mem hm)
theorem h_clear0 {t e : TypeId} {x : Operand} {a : Option Addr} {cap : Nat} (ho : o.op = .call { callee := .builtin .clear, args := #[x], argTypes := #[t] }) (hx : ev L x = some (.slice a 0 cap)) (h : P.underlying t = some (.slice e)) : OpH P o L (HS w0 M As) (fun _ : Unit => .tuple #[]) (fun _ => True) (fun _ => HS w0 M As) := by
  intro ρ w hρ hw
  have he : (Builtin.clear_ #[t] o.type #[.slice a 0 cap]).run P w = .ok (.tuple #[]) w := by
    unfold Builtin.clear_
    cases a <;> simp [run_underlying h]
  simp only [execOp, ho, resolve, Sem.run_bind, Sem.run_pure, Result.andThen_ok, invoke, builtin, List.map_toArray, List.map_cons, List.map_nil, hρ _ _ hx, he]
  exact ⟨(), rfl, trivial, hw⟩
theorem h_clear {t e sz by' n cap b tot i : Nat} {bt : TypeId} {x : Operand} {a : Option Addr} {z cs : List Value} (ho : o.op = .call { callee := .builtin .clear, args := #[x], argTypes := #[t] }) (hx : ev L x = some (.slice a n cap)) (ht : tsl P t = some (e, sz, by')) (hz : tzero P e = some z) (hzs : z.length = sz) (hz1 : z.all (·.oneCell') = true) (hz0 : z ≠ [])
    (hp : Put As (.blk b bt tot cs) (.blk b bt tot (setMany cs i (zrow z (n * sz)))) As') (ha : 0 < n → a = some ⟨b, i, none⟩) (hr : i + n * sz ≤ cs.length) : OpH P o L (HS w0 M As) (fun _ : Unit => .tuple #[]) (fun _ => True) (fun _ => HS w0 M As') := by
  rcases Nat.eq_zero_or_pos n with hn | hn
  · subst hn
    intro ρ w hρ hw
    have e0 : setMany cs i (zrow z (0 * sz)) = cs := by simp [zrow, setMany]
    rw [e0] at hp
    obtain ⟨Rs, h3, h4⟩ := hp.ex
    obtain ⟨hu, _⟩ := tsl_slice ht
    have h := h_clear0 (P := P) (o := o) (w0 := w0) (M := M) (As := As) ho hx hu ρ w hρ hw
    refine h.mono fun v w' hh => ?_
    obtain ⟨g, hv, _, hc⟩ := hh
    exact ⟨g, hv, trivial, (hc.pick h3).perm h4⟩
  · rw [ha hn] at hx
    intro ρ w hρ hw
    obtain ⟨hu, inf, hi, hs1, hs2⟩ := tsl_slice ht
    obtain ⟨inf', zv, h4, h5, h6⟩ := tzero_some hz
    rw [hi] at h4; injection h4 with h4; subst h4
    have hzr : ∀ w, (zeroValue e).run P w = .ok zv w := fun w => by simp [zeroValue, typeInfo, hi, h5]
    obtain ⟨Rs, h3, h7⟩ := hp.ex
    have hpk := hw.pick h3
    have hzs' : zv.cells.size = sz := by rw [← hzs, ← h6]; simp
    obtain ⟨w', hst, hb, r1, r2, r3, r4, r5⟩ := storeCells_run (P := P) (zrow z (n * sz)) 0 cs w hpk.head (by rw [zrow_length]; simpa using hr) (zrow_cells hz1 hz0 _) (i := i)
    have he : (Builtin.clear_ #[t] o.type #[.slice (some ⟨b, i, none⟩) n cap]).run P w = .ok (.tuple #[]) w' := by
      obtain ⟨m, rfl⟩ : ∃ m, n = m + 1 := ⟨n - 1, by omega⟩
      unfold Builtin.clear_
      simp [run_underlying hu, hzr, zeroCells_zrow, h6, hzs', hst]
    simp only [execOp, ho, resolve, Sem.run_bind, Sem.run_pure, Result.andThen_ok, invoke, builtin, List.map_toArray, List.map_cons, List.map_nil, hρ _ _ hx, he]
    exact ⟨(), rfl, trivial, (HS.swap hpk (B := .blk b bt tot (setMany cs i (zrow z (n * sz)))) (fun _ h => h) r1 r2 r3 r4 (fun k hk => r5 k (by simpa [HA.fp_blk] using hk)) (show BlkOk b bt tot (setMany cs i (zrow z (n * sz))) w' by simpa using hb)).perm h7⟩

/-! ## append within a block, append of zeros -/
theorem h_append_in {t xt e e' sz by' n m c cap b tot : Nat} {bt : TypeId} {s x : Operand} {a : Option Addr} {cs : List Value} (news : List Value) (ho : o.op = .call { callee := .builtin .append, args := #[s, x], argTypes := #[t, xt] }) (hs : ev L s = some (.slice (some ⟨b, 0, none⟩) n cap)) (hx : ev L x = some (.slice a m c)) (ht : tsl P t = some (e, sz, by')) (hxt : P.underlying xt = some (.slice e'))
    (hp : Put As (.blk b bt tot cs) (.blk b bt tot (setMany cs (n * sz) news)) As') (hfit : n + m ≤ cap) (hsrc : ∀ w, HS w0 M As w → Src a news w) (hl : news.length = m * sz) (hr : n * sz + news.length ≤ cs.length) (h1 : ∀ u ∈ news, u.oneCell' = true) :
    OpH P o L (HS w0 M As) (fun _ : Unit => .slice (some ⟨b, 0, none⟩) (n + m) cap) (fun _ => True) (fun _ => HS w0 M As') := by
  intro ρ w hρ hw
  obtain ⟨hu, inf, hi, hs1, hs2⟩ := tsl_slice ht
  subst hs1
  obtain ⟨Rs, h3, h4⟩ := hp.ex
  have hpk := hw.pick h3
  obtain ⟨w', hst, hb, r1, r2, r3, r4, r5⟩ := storeCells_run (P := P) news 0 cs w hpk.head (by simpa using hr) h1 (i := n * inf.size)
  have he := room_run (P := P) (ty := o.type) (x := .slice a m c) (w' := w') hu (.inr ⟨e', hxt⟩) hi rfl (firstCells_run hl (hsrc w hw)) (by rw [addr_add, Nat.zero_add]; exact hst) hfit
  simp only [execOp, ho, resolve, Sem.run_bind, Sem.run_pure, Result.andThen_ok, invoke, builtin, List.map_toArray, List.map_cons, List.map_nil, hρ _ _ hs, hρ _ _ hx, he]
  exact ⟨(), rfl, trivial, (HS.swap hpk (B := .blk b bt tot (setMany cs (n * inf.size) news)) (fun _ h => h) r1 r2 r3 r4 (fun k hk => r5 k (by simpa [HA.fp_blk] using hk)) (show BlkOk b bt tot (setMany cs (n * inf.size) news) w' by simpa using hb)).perm h4⟩
theorem h_append_zeros {t xt e sz by' n m cap : Nat} {s x : Operand} {a : Option Addr} {z olds : List Value} (ho : o.op = .call { callee := .builtin .append, args := #[s, x], argTypes := #[t, xt] }) (hs : ev L s = some (.slice a n cap)) (hx : ev L x = some (.int .i64 (m : Int))) (ht : tsl P t = some (e, sz, by')) (hxt : tki P xt = some .i64) (hz : tzero P e = some z) (hzs : z.length = sz) (hsz : 0 < sz)
    (hm : 0 < m) (hg : cap < n + m) (hold : ∀ w, HS w0 M As w → Src a olds w) (hl : olds.length = n * sz) (hroom : (n + m) * by' ≤ 140737488355328) (hmax : n + m ≤ maxLen) :
    OpH P o L (HS w0 M As) (fun p : Nat × Nat => .slice (some ⟨p.1, 0, none⟩) (n + m) p.2) (fun p => n + m ≤ p.2 ∧ p.2 ≤ maxLen) (fun p => HS w0 M (.blk p.1 e (p.2 * sz) (olds ++ zrow z (m * sz)) :: As)) := by
  intro ρ w hρ hw
  obtain ⟨hu, inf, hi, hs1, hs2⟩ := tsl_slice ht
  obtain ⟨inf', zv, h4, h5, h6⟩ := tzero_some hz
  rw [hi] at h4; injection h4 with h4; subst h4
  have hxk := tki_int hxt
  have hti : ∀ w, (typeInfo e).run P w = .ok inf w := fun w => by simp [typeInfo, hi]
  have hsz' : ∀ w, (Go.sizeOf e).run P w = .ok sz w := fun w => by simp [Go.sizeOf, typeInfo, hi, hs1]
  have hzr : ∀ w, (zeroValue e).run P w = .ok zv w := fun w => by simp [zeroValue, typeInfo, hi, h5]
  have hzs' : zv.cells.size = sz := by rw [← hzs, ← h6]; simp
  have hmx : n + m ≤ 9223372036854775807 := by simp only [maxLen] at hmax; omega
  have hwr : IntKind.i64.wrap (m : Int) = m := IntWalk.i64_in _ ⟨by omega, by omega⟩
  have hai : ∀ w, (asInt (.int .i64 (m : Int))).run P w = .ok (m : Int) w := fun w => by simp [asInt, asIntOf]
  have e2 : (2 : Int) ^ 48 = 281474976710656 := by decide
  have hm2 : m * by' ≤ (n + m) * by' := Nat.mul_le_mul_right _ (by omega)
  have d1 : ¬ (m : Int) * ((inf.bytes : Nat) : Int) > 2 ^ 48 := by rw [e2, hs2, ← Int.natCast_mul]; omega
  have d2 : ¬ (m : Int) < 0 := by omega
  have d3 : ¬ n + m ≤ cap := by omega
  have hfit := growslice_fits hg hroom
  have d4 : ¬ ((Builtin.nextslicecap (n + m) cap * inf.bytes : Nat) > 2 ^ 48) := by rw [hs2]; have : (2 : Nat) ^ 48 = 281474976710656 := by decide
                                                                                    omega
  have d5 : ¬ (((n + m : Nat) : Int) > IntKind.i64.max) := by
    have : IntKind.i64.max = 9223372036854775807 := by decide
    omega
  have hge := grownCap_ge w (n + m) cap e
  have hle := grownCap_le_maxLen w (n + m) cap e hmax
  have hnz : ¬ m * sz = 0 := by
    have := Nat.mul_pos hm hsz
    omega
  have hfo : (Builtin.firstCells sz n (.slice a n cap)).run P w.drew = .ok olds.toArray w.drew := firstCells_run hl (hold w.drew hw.drew)
  have he : (Builtin.append_ #[t, xt] o.type #[.slice a n cap, .int .i64 (m : Int)]).run P w = .ok (.slice (some ⟨w.heap.size, 0, none⟩) (n + m) (grownCap w (n + m) cap e)) (w.drew.alloc (.cells (olds.toArray ++ Builtin.zeroCells zv.cells m ++ Builtin.zeroCells zv.cells (grownCap w (n + m) cap e - (n + m))) e)) := by
    unfold Builtin.append_
    simp only [List.getElem?_toArray, List.getElem?_cons_zero, List.getElem?_cons_succ, Sem.run_bind, Sem.run_pure, run_underlying hu, run_underlying hxk, Result.andThen_ok, hsz', if_true, hai, hwr, d2, if_false, hti, d1, Int.toNat_natCast, d3, d5, false_and, d4, Bool.not_true, Bool.false_eq_true, hnz]
    simp [Question.forced, hfo, newRow, grownCap, hzr, hti, d2, d3, d4, d5, hnz, hs2]
  simp only [execOp, ho, resolve, Sem.run_bind, Sem.run_pure, Result.andThen_ok, invoke, builtin, List.map_toArray, List.map_cons, List.map_nil, hρ _ _ hs, hρ _ _ hx, he]
  generalize grownCap w (n + m) cap e = N at *
  refine ⟨(w.heap.size, N), rfl, ⟨hge, hle⟩, (hw.drew).alloc _ _ rfl ⟨_, _, heap_alloc_new _ _, ?_, ?_, fun i hi => ?_, fun _ _ h => absurd h (Nat.not_lt_zero _)⟩⟩
  · simp only [Array.size_append, List.size_toArray, size_zeroCells, hzs', hl]
    rw [← Nat.add_mul, ← Nat.add_mul]
    congr 1
    omega
  · rw [List.length_append, hl, zrow_length, ← Nat.add_mul]
    exact Nat.mul_le_mul_right _ hge
  · rw [zeroCells_zrow zv.cells m, hzs', h6, Array.getElem?_append_left (by simpa using hi)]
    simp

/-! ## slices.overlaps of rows of which one is the call's own -/
def isOv (P : Program) (f : FuncId) (t r : TypeId) : Prop := ∃ fn, P.funcs[f]? = some fn ∧ (fn.name == "runtime.NumGoroutine") = false ∧ fn.body.isNone = true ∧ Extern.findNext fn = none ∧ Extern.find fn = some (Extern.SlicesOverlaps.overlaps #[t, t] #[r])
theorem q_overlaps {f t r e sz by' n m c c' b b' tot tot' i j : Nat} {bt bt' : TypeId} {x y : Operand} {at' : Array TypeId} {cs cs' : List Value} {As1 As2 : List HA} (ho : o.op = .call { callee := .value (.func f), args := #[x, y], argTypes := at' }) (hf : isOv P f t r) (hx : ev L x = some (.slice (some ⟨b, i, none⟩) n c)) (hy : ev L y = some (.slice (some ⟨b', j, none⟩) m c')) (ht : tsl P t = some (e, sz, by'))
    (hp : Pick As (.blk b bt tot cs) As1) (hp' : Pick As1 (.blk b' bt' tot' cs') As2) (hb : bt ≠ u8T) (hi : i < tot) (hj : 0 < tot') : OpQ P o L (HS w0 M As) (.bool false) := by
  intro ρ w hρ hw
  obtain ⟨fn, h1, h2, h3, h4, h5⟩ := hf
  obtain ⟨hu, inf, hi', hs1, hs2⟩ := tsl_slice ht
  have hne := hw.ne hp hp'
  have g1 := hw.blk_get hp
  have g2 := (hw.pick hp).tail.blk_get hp'
  have hsz : ∀ w, (Go.sizeOf e).run P w = .ok sz w := fun w => by simp [Go.sizeOf, typeInfo, hi', hs1]
  have hrun := Lib.run_overlaps_apart w t r e hu sz hsz ⟨b, i, none⟩ ⟨b', j, none⟩ n c m c' hne bt bt' tot tot' g1.shape g2.shape (by omega) (g1.frozen hi) (g1.unmarked hb)
  have hcall := run_callFunc_extern h1 h2 h3 h4 h5 #[.slice (some ⟨b, i, none⟩) n c, .slice (some ⟨b', j, none⟩) m c'] w
  rw [hrun] at hcall
  have : (execOp ρ o).run P w = .ok (.value (.bool false)) w := by
    unfold execOp
    simp only [ho, resolve, Sem.run_bind, hρ (.func f) _ rfl, Deferred.ofValue, Sem.run_pure, Result.andThen_ok, invoke, List.map_toArray, List.map_cons, List.map_nil, hρ _ _ hx, hρ _ _ hy, Array.empty_append, Array.append_empty, hcall]
  rw [this]
  exact ⟨rfl, Below.refl _ _⟩
/-! ## Slices with three bounds; what an insertion and a deletion leave -/
theorem p_slice3 {t e sz by' : Nat} {x lo hi mx : Operand} {a : Option Addr} {n cap : Nat} {k1 k2 k3 : IntKind} {i1 i2 i3 : Int} (i j m : Nat) (ho : o.op = .slice t x (some lo) (some hi) (some mx)) (hx : ev L x = some (.slice a n cap)) (hl : ev L lo = some (.int k1 i1)) (hh : ev L hi = some (.int k2 i2)) (hm : ev L mx = some (.int k3 i3)) (ht : tsl P t = some (e, sz, by')) (e1 : i1 = (i : Int)) (e2 : i2 = (j : Int)) (e3 : i3 = (m : Int)) (hij : i ≤ j) (hjm : j ≤ m) (hmc : m ≤ cap) :
    OpP P o L (.slice (subA a m i sz) (j - i) (m - i)) := by
  intro ρ w hρ
  obtain ⟨hu, inf, h1, h2, _⟩ := tsl_slice ht
  subst e1 e2 e3
  simp [execOp, ho, hρ _ _ hx, hρ _ _ hl, hρ _ _ hh, hρ _ _ hm, Instr.sliceAt, Instr.slice, Instr.sliceBounds, Instr.sliceBound, asIntOf, run_underlying hu, hij, hjm, hmc, Go.sizeOf, typeInfo, h1, h2, subA]
end
theorem cut_length (cs : List Value) (i k : Nat) (h : i + k ≤ cs.length) : (cut cs i k).length = k := by
  simp only [cut, List.length_take, List.length_drop]; omega
theorem cut_one {cs : List Value} (h : ∀ u ∈ cs, u.oneCell' = true) (i k : Nat) : ∀ u ∈ cut cs i k, u.oneCell' = true := fun u hu => h u (List.mem_of_mem_drop (List.mem_of_mem_take hu))
theorem setMany_get : ∀ (vs cs : List Value) (i j : Nat), (setMany cs i vs)[j]? = if i ≤ j ∧ j < i + vs.length ∧ j < cs.length then vs[j - i]? else cs[j]?
  | [], cs, i, j => by rw [setMany, if_neg (by simp only [List.length_nil]; omega)]
  | v :: vs, cs, i, j => by
    rw [setMany, setMany_get vs (cs.set i v) (i + 1) j]
    simp only [List.length_set, List.length_cons]
    by_cases e : i = j
    · subst e
      rw [if_neg (by omega)]
      by_cases h : i < cs.length
      · rw [if_pos (by omega), List.getElem?_set_self h]; simp
      · rw [if_neg (by omega), List.getElem?_eq_none (by simp; omega), List.getElem?_eq_none (by omega)]
    · rw [List.getElem?_set_ne e]
      by_cases h : i ≤ j ∧ j < i + (vs.length + 1) ∧ j < cs.length
      · rw [if_pos (by omega), if_pos h, show j - i = (j - (i + 1)) + 1 by omega, List.getElem?_cons_succ]
      · rw [if_neg (by omega), if_neg h]
theorem cut_get (cs : List Value) (i k j : Nat) : (cut cs i k)[j]? = if j < k then cs[i + j]? else none := by
  unfold cut
  rw [List.getElem?_take]
  split
  · rw [List.getElem?_drop]
  · rfl
theorem ins_one {xs ds : List Value} {i k : Nat} (h : ∀ u ∈ xs, u.oneCell' = true) (hk : i + k ≤ xs.length) : ∀ u ∈ cut (xs ++ ds) i k, u.oneCell' = true := by
  have e1 : cut (xs ++ ds) i k = cut xs i k := by
    unfold cut
    rw [List.drop_append_of_le_length (by omega), List.take_append_of_le_length (by simp; omega)]
  rw [e1]
  exact cut_one h i k
theorem ins_grow {xs news z : List Value} {p q N : Nat} (hx : xs.length = N) (hp : p ≤ N) (hn : news.length = q) (hz : z.length = N + q - p) : setMany (setMany (cut xs 0 p ++ z) p news) (p + q) (cut xs p (N - p)) = xs.take p ++ news ++ xs.drop p := by
  have h1 : (cut xs 0 p).length = p := cut_length _ _ _ (by omega)
  have h2 : (cut xs p (N - p)).length = N - p := cut_length _ _ _ (by omega)
  apply List.ext_getElem?
  intro j
  simp only [setMany_get, List.getElem?_append, List.getElem?_take, List.getElem?_drop, cut_get, setMany_length, List.length_append, List.length_take, List.length_drop, h1, h2, hx, hn, hz]
  grind
theorem ins_in {xs ds news : List Value} {p q N : Nat} (hx : xs.length = N) (hp : p ≤ N) (hn : news.length = q) (hd : q ≤ ds.length) : setMany (setMany (xs ++ ds) (p + q) (cut (xs ++ ds) p (N - p))) p news = (xs.take p ++ news ++ xs.drop p) ++ ds.drop q := by
  have h2 : (cut (xs ++ ds) p (N - p)).length = N - p := cut_length _ _ _ (by simp; omega)
  apply List.ext_getElem?
  intro j
  simp only [setMany_get, List.getElem?_append, List.getElem?_take, List.getElem?_drop, cut_get, setMany_length, List.length_append, List.length_take, List.length_drop, h2, hx, hn]
  grind
theorem del_in {xs zs : List Value} {p q N : Nat} (hx : xs.length = N) (hpq : p ≤ q) (hq : q ≤ N) (hz : zs.length = q - p) : setMany (setMany xs p (cut xs q (N - q))) (N - (q - p)) zs = (xs.take p ++ xs.drop q) ++ zs := by
  have h2 : (cut xs q (N - q)).length = N - q := cut_length _ _ _ (by omega)
  apply List.ext_getElem?
  intro j
  simp only [setMany_get, List.getElem?_append, List.getElem?_take, List.getElem?_drop, cut_get, setMany_length, List.length_append, List.length_take, List.length_drop, h2, hx, hz]
  grind
theorem BlkOk.len_le {b t tot : Nat} {cs : List Value} {w : World} (h : BlkOk b t tot cs w) : cs.length ≤ tot := by
  obtain ⟨_, _, _, _, h3, _⟩ := h
  exact h3
/-! ## Slots that were written more than once -/
theorem dropL_get : ∀ {L : Slots} {md : List Nat} {t : Nat} {v : Value}, Slots.get (dropL md L) t = some v → Slots.get L t = some v ∧ ¬ md.any (Nat.beq t) = true
  | [], _, _, _, h => by cases h
  | (k, u) :: L, md, t, v, h => by
    unfold dropL at h
    rw [Slots.get_cons]
    cases hm : md.any (Nat.beq k) with
    | true =>
      rw [hm] at h
      obtain ⟨h1, h2⟩ := dropL_get h
      refine ⟨?_, h2⟩
      by_cases e : k = t
      · subst e; exact absurd hm h2
      · rw [if_neg e]; exact h1
    | false =>
      rw [hm] at h
      simp only [cond_false] at h
      rw [Slots.get_cons] at h
      by_cases e : k = t
      · subst e
        rw [if_pos rfl] at h ⊢
        exact ⟨h, by rw [hm]; decide⟩
      · rw [if_neg e] at h ⊢
        obtain ⟨h1, h2⟩ := dropL_get h
        refine ⟨h1, fun hh => h2 ?_⟩
        simp [hh]
theorem o_clean {X : Ctx} {ops : Array Oper} {rest : List Oper} {k : List KI} {L : Slots} {C : World → Prop} (h : O X ops rest k (dropL [] L) C) : O X ops rest k L C :=
  fun a w ha hw => h a w ⟨ha.defers, ha.size, fun t v hv => ha.slot t v (dropL_get hv).1⟩ hw
/-- The first m slots are of names that the others do not have. -/
def freshL (L : Slots) (m : Nat) : Bool := (L.take m).all fun p => (Slots.get (L.drop m) p.1).isNone
theorem get_drop : ∀ (m : Nat) (L : Slots) (t : Nat) (v : Value), freshL L m = true → Slots.get (L.drop m) t = some v → Slots.get L t = some v
  | 0, L, t, v, _, h => h
  | m + 1, [], t, v, _, h => by cases h
  | m + 1, (k, u) :: L, t, v, hf, h => by
    simp only [freshL, List.take_succ_cons, List.drop_succ_cons, List.all_cons, Bool.and_eq_true] at hf
    simp only [List.drop_succ_cons] at h
    rw [Slots.get_cons]
    by_cases e : k = t
    · subst e
      rw [h] at hf
      exact absurd hf.1 (by simp)
    · rw [if_neg e]
      exact get_drop m L t v hf.2 h
theorem s_joinN {X : Ctx} {k : List KI} {L : Slots} {LJ : Unit → Slots} {C : World → Prop} {CJ : Unit → World → Prop} (m dp : Nat) (v : Value) (hJ : LJ () = (dp, v) :: L.drop m) (hv : Slots.get L dp = some v) (hf : freshL L m = true) (hC : ∀ w, C w → CJ () w) : S X (.join (At X.n LJ CJ) :: k) L C :=
  fun a w ha hw => ⟨(), ⟨ha.defers, ha.size, fun t u hu => by
    rw [hJ, Slots.get_cons] at hu
    by_cases e : dp = t
    · subst e
      rw [if_pos rfl] at hu
      injection hu with hu
      subst hu
      exact ha.slot _ _ hv
    · rw [if_neg e] at hu
      exact ha.slot _ _ (get_drop m L t u hf hu)⟩, hC w hw⟩
/-! ## Three operations may come up, all of which make or change memory -/
section
variable {X : Ctx} {ops : Array Oper} {F : List Nat} {fuel : Nat} {listed : Array Bool} {k : List KI} {L : Slots} {w0 : World} {M : List Nat} {As : List HA}
theorem d_three {B : World → Prop} {d d' d'' ty ty' ty'' : Nat} {op op' op'' : Op} {pos pos' pos'' : String} {aft aft' aft'' : Array Edge} {G G' G'' : Type} {V : G → Value} {Fg : G → Prop} {C : G → World → Prop} {V' : G' → Value} {Fg' : G' → Prop} {C' : G' → World → Prop} {V'' : G'' → Value} {Fg'' : G'' → Prop} {C'' : G'' → World → Prop} (i j m : Nat)
    (hi : ops[i]? = some ⟨some d, op, ty, pos, aft, none⟩) (hj : ops[j]? = some ⟨some d', op', ty', pos', aft', none⟩) (hm : ops[m]? = some ⟨some d'', op'', ty'', pos'', aft'', none⟩) (h : OpH X.P ⟨some d, op, ty, pos, aft, none⟩ L (HS w0 M As) V Fg C) (h' : OpH X.P ⟨some d', op', ty', pos', aft', none⟩ L (HS w0 M As) V' Fg' C') (h'' : OpH X.P ⟨some d'', op'', ty'', pos'', aft'', none⟩ L (HS w0 M As) V'' Fg'' C'')
    (hr : (Region.ready .any ops listed == [i, j, m]) = true) (hB : ∀ w, HS w0 M As w → B w) (hd : Nat.blt d X.n = true) (hd' : Nat.blt d' X.n = true) (hd'' : Nat.blt d'' X.n = true)
    (next : ∀ g, Fg g → D X ops F B fuel (listed.setIfInBounds i true) k ((d, V g) :: L) (C g)) (next' : ∀ g, Fg' g → D X ops F B fuel (listed.setIfInBounds j true) k ((d', V' g) :: L) (C' g)) (next'' : ∀ g, Fg'' g → D X ops F B fuel (listed.setIfInBounds m true) k ((d'', V'' g) :: L) (C'' g)) : D X ops F B (fuel + 1) listed k L (HS w0 M As) := by
  intro hcl a ha
  have hr' : Region.ready .any ops listed = [i, j, m] := by simpa using hr
  have mi : i ∈ Region.ready .any ops listed := by rw [hr']; simp
  have mj : j ∈ Region.ready .any ops listed := by rw [hr']; simp
  have mm : m ∈ Region.ready .any ops listed := by rw [hr']; simp
  refine ⟨fun _ => ⟨hB, HS.stab _ _ _⟩, fun h0 => (by rw [hr'] at h0; cases h0), fun q hq => ?_⟩
  rw [hr'] at hq
  have hq' : q = i ∨ q = j ∨ q = m := by simpa using hq
  rcases hq' with e | e | e
  · subst e
    unfold StepA
    simp only [hi]
    rw [if_pos (by simp [Region.wanted])]
    exact ⟨G, V, Fg, C, fun w hw => h a.eval w ha.agr hw, fun g hg => next g hg (hcl.set mi) _ (ha.put d _ hd)⟩
  · subst e
    unfold StepA
    simp only [hj]
    rw [if_pos (by simp [Region.wanted])]
    exact ⟨G', V', Fg', C', fun w hw => h' a.eval w ha.agr hw, fun g hg => next' g hg (hcl.set mj) _ (ha.put d' _ hd')⟩
  · subst e
    unfold StepA
    simp only [hm]
    rw [if_pos (by simp [Region.wanted])]
    exact ⟨G'', V'', Fg'', C'', fun w hw => h'' a.eval w ha.agr hw, fun g hg => next'' g hg (hcl.set mm) _ (ha.put d'' _ hd'')⟩
end
end Gx
