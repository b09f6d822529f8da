/- Maps that are sets: of keys of one kind, each with true. Nothing of a program is named here. -/
import Derived.Test.YtgdigngojonbhaaGxRow
import Derived.Carry
namespace Gx
set_option linter.unusedSimpArgs false
set_option linter.unusedVariables false
set_option linter.unusedSectionVars false
open Go Go.RowKit

/-- Keys that are held against each other by themselves. -/
structure KeyK (P : Program) (kt : TypeId) {α : Type} (K : α → Value) : Prop where
  und : ∃ d, P.underlying kt = some d ∧ (∀ a b, (Instr.sameNow d (K a) (K b) = some true ↔ a = b) ∧ (Instr.sameNow d (K a) (K b) = some false ↔ a ≠ b))
  chk : ∀ a e w, (Instr.checkKey e 10000 kt (K a)).run P w = .ok () w
  bits : ∀ a, Instr.sameBits 10000 (K a) (K a) = true
theorem key_int {P : Program} {kt : TypeId} (h : tki P kt = some .i64) : KeyK P kt (fun n : Int => Value.int .i64 n) := by
  have hu := tki_int h
  refine ⟨⟨_, hu, fun a b => ?_⟩, fun a e w => ?_, fun a => ?_⟩
  · simp [Instr.sameNow]
  · rw [show (10000 : Nat) = 9999 + 1 by rfl, Instr.checkKey]
    simp [run_underlying hu]
  · rw [show (10000 : Nat) = 9999 + 1 by rfl, Instr.sameBits]
    simp
theorem bs_beq (a b : List UInt8) : (bs a == bs b) = decide (a = b) := by
  rw [beq_toListBytes, ByteArray.toList_eq, ByteArray.toList_eq]
  show (a == b) = _
  by_cases e : a = b
  · simp [e]
  · rw [decide_eq_false e]
    exact beq_eq_false_iff_ne.2 e
theorem key_str {P : Program} {kt : TypeId} (h : P.underlying kt = some .string) : KeyK P kt (fun l : List UInt8 => Value.string (bs l)) := by
  refine ⟨⟨_, h, fun a b => ?_⟩, fun a e w => ?_, fun a => ?_⟩
  · have := bs_beq a b
    simp [Instr.sameNow, this]
  · rw [show (10000 : Nat) = 9999 + 1 by rfl, Instr.checkKey]
    simp [run_underlying h]
  · have := bs_beq a a
    show Instr.sameBits (9999 + 1) (.string (bs a)) (.string (bs a)) = true
    simp [Instr.sameBits, this]
def setO (w : World) (r : Nat) (o : Obj) : World := { w with heap := w.heap.setIfInBounds r o }
theorem getObj_run {P : Program} {w : World} {r : Nat} {es : Array MapEntry} {clock : Nat} (h : w.heap[r]? = some (.map es clock)) : (getObj r).run P w = .ok (.map es clock) w := by simp [getObj, Sem.run, h]
theorem setObj_run {P : Program} {w : World} {r : Nat} {es : Array MapEntry} {clock : Nat} (o : Obj) (h : w.heap[r]? = some (.map es clock)) : (setObj r o).run P w = .ok () (setO w r o) := by simp [setObj, Sem.run, h, setO]
section
variable {α : Type} {K : α → Value}
def MpOk (r : Nat) (K : α → Value) (ks : List α) (w : World) : Prop := ∃ es clock, w.heap[r]? = some (.map es clock) ∧ es.toList.map (fun e => (e.key, e.val)) = ks.map fun a => (K a, Value.bool true)
def HA.mp (r : Nat) (K : α → Value) (ks : List α) : HA := ⟨[r], MpOk r K ks, fun w w' h ha => by
  obtain ⟨es, clock, h1, h2⟩ := ha
  exact ⟨es, clock, (h r (List.mem_singleton.2 rfl)).trans h1, h2⟩⟩
theorem HA.fp_mp (r : Nat) (ks : List α) : (HA.mp r K ks).fp = [r] := rfl
theorem findNow_keys {d : TypeDesc} (hd : ∀ a b, (Instr.sameNow d (K a) (K b) = some true ↔ a = b) ∧ (Instr.sameNow d (K a) (K b) = some false ↔ a ≠ b)) (a : α) : ∀ (es : List MapEntry) (ks : List α) (i : Nat), es.map (fun e => (e.key, e.val)) = ks.map (fun a => (K a, Value.bool true)) →
    (a ∉ ks ∧ Instr.findNow d (K a) es i = some none) ∨ (a ∈ ks ∧ ∃ j, es[j]? ≠ none ∧ ks[j]? = some a ∧ Instr.findNow d (K a) es i = some (some (i + j, .bool true)))
  | [], [], i, _ => .inl ⟨by simp, rfl⟩
  | [], _ :: _, i, h => by cases h
  | _ :: _, [], i, h => by cases h
  | e :: es, k :: ks, i, h => by
    simp only [List.map_cons, List.cons.injEq, Prod.mk.injEq] at h
    obtain ⟨⟨hk, hv⟩, hr⟩ := h
    by_cases e1 : a = k
    · subst e1
      refine .inr ⟨List.mem_cons_self .., 0, by simp, rfl, ?_⟩
      rw [Instr.findNow, hk, (hd a a).1.2 rfl, hv]
      rfl
    · have h1 := (hd a k).2.2 e1
      rcases findNow_keys hd a es ks (i + 1) hr with ⟨h2, h3⟩ | ⟨h2, j, h4, h6, h5⟩
      · refine .inl ⟨by simp [e1, h2], ?_⟩
        rw [Instr.findNow, hk, h1]
        exact h3
      · refine .inr ⟨List.mem_cons_of_mem _ h2, j + 1, by simpa using h4, by simpa using h6, ?_⟩
        rw [Instr.findNow, hk, h1]
        simp only []
        rw [h5]
        congr 3
        omega
variable {P : Program} {o : Oper} {L : Slots} {w0 : World} {M : List Nat} {As As' : List HA}
theorem h_makeMap {t : TypeId} (ho : o.op = .makeMap t none) (K : α → Value) : OpH P o L (HS w0 M As) (fun r : Nat => .map (some r)) (fun _ => True) (fun r => HS w0 M (.mp r K [] :: As)) := by
  intro ρ w hρ hw
  simp only [execOp, ho, Option.map_none, run_makeMap, Sem.run_bind, Result.andThen_ok, Sem.run_pure]
  exact ⟨w.heap.size, rfl, trivial, hw.alloc (.map #[] 0) (.mp w.heap.size K []) rfl ⟨#[], 0, heap_alloc_new w _, rfl⟩⟩
def tzv (P : Program) (t : TypeId) : Option Value := (P.info? t).bind (·.zero)
open Classical in
theorem q_lookup {t kt et r : Nat} {m x : Operand} {ks : List α} {a : α} (ho : o.op = .lookup t m x false) (hm : ev L m = some (.map (some r))) (hx : ev L x = some (K a)) (ht : P.underlying t = some (.map kt et)) (hz : tzv P et = some (.bool false)) (hK : KeyK P kt K) (hp : Pick As (.mp r K ks) As') : OpQ P o L (HS w0 M As) (.bool (decide (a ∈ ks))) := by
  intro ρ w hρ hw
  obtain ⟨es, clock, h1, h2⟩ := (hw.pick hp).head
  obtain ⟨d, hd, hs⟩ := hK.und
  have hzr : (zeroValue et).run P w = .ok (.bool false) w := by
    unfold tzv at hz
    cases hi : P.info? et with
    | none => rw [hi] at hz; cases hz
    | some inf =>
      rw [hi] at hz
      have hz' : inf.zero = some (.bool false) := hz
      simp [zeroValue, typeInfo, hi, hz']
  have hl : (Instr.lookup t (.map (some r)) (K a) false).run P w = .ok (.bool (decide (a ∈ ks))) w := by
    unfold Instr.lookup
    rcases findNow_keys hs a es.toList ks 0 h2 with ⟨h3, h4⟩ | ⟨h3, j, _, _, h4⟩
    · simp [run_underlying ht, getObj_run h1, hK.chk, Instr.findKey, run_underlying hd, h4, hzr, h3]
    · simp [run_underlying ht, getObj_run h1, hK.chk, Instr.findKey, run_underlying hd, h4, h3]
  simp only [execOp, ho, hρ _ _ hm, hρ _ _ hx, Sem.run_bind, hl, Result.andThen_ok, Sem.run_pure]
  exact ⟨rfl, Below.refl _ _⟩
open Classical in
noncomputable def insK' (ks : List α) (a : α) : List α := if a ∈ ks then ks else ks ++ [a]
theorem h_mapUpdate {t kt et r : Nat} {m x y : Operand} {ks : List α} {a : α} (ho : o.op = .mapUpdate t m x y ∨ o.op = .insert t m x y) (hm : ev L m = some (.map (some r))) (hx : ev L x = some (K a)) (hy : ev L y = some (.bool true)) (ht : P.underlying t = some (.map kt et)) (hK : KeyK P kt K) (hp : Put As (.mp r K ks) (.mp r K (insK' ks a)) As') :
    OpH P o L (HS w0 M As) (fun _ : Unit => undef) (fun _ => True) (fun _ => HS w0 M As') := by
  intro ρ w hρ hw
  obtain ⟨Rs, hp1, hp2⟩ := hp.ex
  have hpk := hw.pick hp1
  obtain ⟨es, clock, h1, h2⟩ := hpk.head
  obtain ⟨d, hd, hs⟩ := hK.und
  have hl : ∃ (es' : Array MapEntry) (clock' : Nat), (Instr.mapUpdate t (.map (some r)) (K a) (.bool true)).run P w = .ok () (setO w r (.map es' clock')) ∧ es'.toList.map (fun e => (e.key, e.val)) = (insK' ks a).map fun a => (K a, Value.bool true) := by
    unfold Instr.mapUpdate
    rcases findNow_keys hs a es.toList ks 0 h2 with ⟨h3, h4⟩ | ⟨h3, j, h5, h6, h4⟩
    · refine ⟨es.push { key := K a, val := .bool true, born := clock }, clock + 1, ?_, ?_⟩
      · simp [run_underlying ht, getObj_run h1, setObj_run _ h1, hK.chk, Instr.findKey, run_underlying hd, h4]
      · rw [insK', if_neg h3]
        simp [h2]
    · rw [Nat.zero_add] at h4
      have hj : (es[j]?).map (·.key) = some (K a) := by
        have := congrArg (fun l : List (Value × Value) => (l[j]?).map (·.1)) h2
        simp only [List.getElem?_map, h6, Option.map_some, Option.map_map] at this
        rw [← Array.getElem?_toList]
        exact this
      refine ⟨es.modify j fun e => { e with key := K a, val := .bool true }, clock, ?_, ?_⟩
      · simp [run_underlying ht, getObj_run h1, setObj_run _ h1, hK.chk, Instr.findKey, run_underlying hd, h4, hj, Instr.keyThatStays, hK.bits]
      · rw [insK', if_pos h3, ← h2]
        apply List.ext_getElem?
        intro i
        simp only [List.getElem?_map, Array.getElem?_toList, Array.getElem?_modify]
        by_cases e : j = i
        · subst e
          rw [if_pos rfl]
          have h7 := congrArg (fun l : List (Value × Value) => l[j]?) h2
          simp only [List.getElem?_map, h6, Option.map_some, Array.getElem?_toList] at h7
          cases hq : es[j]? with
          | none => rw [hq] at h7; cases h7
          | some e => rw [hq] at h7; simpa using h7.symm
        · rw [if_neg e]
  obtain ⟨es', clock', hr, he⟩ := hl
  have hex : (execOp ρ o).run P w = .ok (.value undef) (setO w r (.map es' clock')) ∨ (execOp ρ o).run P w = .ok .skip (setO w r (.map es' clock')) := by
    rcases ho with ho | ho <;> simp [execOp, ho, hρ _ _ hm, hρ _ _ hx, hρ _ _ hy, hr]
  have hc : HS w0 M As' (setO w r (.map es' clock')) := (HS.swap hpk (w' := setO w r (.map es' clock')) (B := .mp r K (insK' ks a)) (fun _ h => h) rfl rfl rfl (by simp [setO]) (fun b hb => by
    have hb' : b ≠ r := by simpa [HA.fp_mp] using hb
    simp [setO, Array.getElem?_setIfInBounds, Ne.symm hb']) ⟨es', clock', by
      have hlt : r < w.heap.size := by
        rcases Nat.lt_or_ge r w.heap.size with h | h
        · exact h
        · rw [Array.getElem?_eq_none h] at h1; cases h1
      simp [setO, Array.getElem?_setIfInBounds, hlt], he⟩).perm hp2
  rcases hex with hex | hex <;> rw [hex] <;> exact ⟨(), rfl, trivial, hc⟩
theorem q_len_map {t kt et r : Nat} {x : Operand} {ks : List α} (ho : o.op = .call { callee := .builtin .len, args := #[x], argTypes := #[t] }) (hx : ev L x = some (.map (some r))) (ht : P.underlying t = some (.map kt et)) (hp : Pick As (.mp r K ks) As') : OpQ P o L (HS w0 M As) (.int .i64 ks.length) := by
  intro ρ w hρ hw
  obtain ⟨es, clock, h1, h2⟩ := (hw.pick hp).head
  have hl : es.size = ks.length := by
    have := congrArg List.length h2
    simpa using this
  have : (Builtin.len_ #[t] o.type #[.map (some r)]).run P w = .ok (.int .i64 ks.length) w := by
    unfold Builtin.len_
    simp [run_underlying ht, getObj_run h1, goInt, hl]
  simp only [execOp, ho, resolve, Sem.run_bind, Sem.run_pure, Result.andThen_ok, invoke, builtin, List.map_toArray, List.map_cons, List.map_nil, hρ _ _ hx, this]
  exact ⟨rfl, Below.refl _ _⟩
/-- A set that was there before. -/
def MpR (w : World) (M : List Nat) (r : Nat) (K : α → Value) (ks : List α) : Prop := r < w.heap.size ∧ r ∉ M ∧ MpOk r K ks w
theorem MpR.later {w w' : World} {M : List Nat} {r : Nat} {ks : List α} (h : MpR w M r K ks) (hs : HS w M As w') : MpR w' [] r K ks := by
  obtain ⟨h1, h2, es, clock, h3, h4⟩ := h
  exact ⟨Nat.lt_of_lt_of_le h1 hs.size, by simp, es, clock, (hs.old r h1 h2).trans h3, h4⟩
theorem HS.mpr {w0 w : World} {M : List Nat} {r : Nat} {ks : List α} (h : HS w0 M As w) (hp : Pick As (.mp r K ks) As') : MpR w [] r K ks := by
  obtain ⟨es, clock, h1, h2⟩ := (h.pick hp).head
  refine ⟨?_, by simp, es, clock, h1, h2⟩
  rcases Nat.lt_or_ge r w.heap.size with h | h
  · exact h
  · rw [Array.getElem?_eq_none h] at h1; cases h1
open Classical in
theorem q_lookup_old {t kt et r : Nat} {m x : Operand} {ks : List α} {a : α} (ho : o.op = .lookup t m x false) (hm : ev L m = some (.map (some r))) (hx : ev L x = some (K a)) (ht : P.underlying t = some (.map kt et)) (hz : tzv P et = some (.bool false)) (hK : KeyK P kt K) (hr : MpR w0 M r K ks) : OpQ P o L (HS w0 M As) (.bool (decide (a ∈ ks))) := by
  intro ρ w hρ hw
  obtain ⟨h1, h2, es, clock, h3, h4⟩ := hr
  have hb : w.heap[r]? = some (.map es clock) := (hw.old r h1 h2).trans h3
  have hlt : r < w.heap.size := Nat.lt_of_lt_of_le h1 hw.size
  have hq : HS w [r] [.mp r K ks] w := by
    refine HS.enter (fun A hA => ?_) (fun A hA b hb' => ?_) (.cons (fun _ h => (by cases h)) .nil)
    · rw [List.mem_singleton.1 hA]
      exact ⟨es, clock, hb, h4⟩
    · rw [List.mem_singleton.1 hA] at hb'
      have e : b = r := by simpa [HA.fp_mp] using hb'
      rw [e]
      exact ⟨hlt, List.mem_singleton.2 rfl⟩
  exact q_lookup ho hm hx ht hz hK (w0 := w) (M := [r]) (As := [.mp r K ks]) .here ρ w hρ hq
end
end Gx
