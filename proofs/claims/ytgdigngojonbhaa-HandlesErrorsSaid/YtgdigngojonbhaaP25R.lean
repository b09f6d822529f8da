/- Chapter 25: arguments that read as tables of handles, as rows of plain data. -/
import Derived.Test.YtgdigngojonbhaaC25B
import Derived.Test.YtgdigngojonbhaaGxHandles2
import Derived.Test.YtgdigngojonbhaaGxOpen
namespace Go.Proofs
open Go Go.RowKit Gx
set_option linter.unusedVariables false
set_option linter.unusedSimpArgs false
theorem rw_of {α : Type} [Inhabited α] {vals : α → List Value} {sz n : Nat} {W : World} {a : Option Addr} {cell : Nat → List Value} {Q : α → Prop} (hs : Sl W [] a sz n cell) (hr : ∀ i, i < n → ∃ x, cell i = vals x ∧ Q x) : ∃ l : List α, n = l.length ∧ Rw vals sz W [] a l ∧ (∀ x ∈ l, Q x) ∧ ∀ i, i < n → cell i = vals (nth l i) := by
  have hr2 : ∀ i, ∃ x, i < n → cell i = vals x ∧ Q x := fun i => by
    by_cases hi : i < n
    · obtain ⟨x, h⟩ := hr i hi
      exact ⟨x, fun _ => h⟩
    · exact ⟨default, fun h => absurd h hi⟩
  obtain ⟨f, hf⟩ := Classical.axiomOfChoice hr2
  have hg : ∀ i, i < n → nth ((List.range n).map f) i = f i := fun i hi => by
    simp only [nth, List.getD_eq_getElem?_getD, List.getElem?_map, List.getElem?_range hi, Option.map_some, Option.getD_some]
  refine ⟨(List.range n).map f, by simp, ⟨fun hn => ?_⟩, fun x hx => ?_, fun i hi => ?_⟩
  · rw [List.length_map, List.length_range] at hn
    obtain ⟨b, o, e, h2⟩ := hs.at_ hn
    refine ⟨b, o, e, fun i hi => ?_⟩
    rw [List.length_map, List.length_range] at hi
    have h3 := h2 i hi
    rw [(hf i hi).1] at h3
    rw [hg i hi]
    exact h3
  · obtain ⟨i, hi, rfl⟩ := List.mem_map.1 hx
    exact (hf i (List.mem_range.1 hi)).2
  · rw [hg i hi]
    exact (hf i hi).1
theorem tcells3 : Try.prog.cellsOf 3 = 1 := by kernel_rfl
theorem tcells4 : Try.prog.cellsOf 4 = 1 := by kernel_rfl
theorem tcells42 : Try.prog.cellsOf 42 = 2 := by kernel_rfl
theorem tcells46 : Try.prog.cellsOf 46 = 1 := by kernel_rfl
theorem tcells75 : Try.prog.cellsOf 75 = 1 := by kernel_rfl
theorem tcells62 : Try.prog.cellsOf 62 = 3 := by kernel_rfl
theorem tcells48 : Try.prog.cellsOf 48 = 5 := by kernel_rfl
theorem tcells77 : Try.prog.cellsOf 77 = 4 := by kernel_rfl
section
variable {W : World} {d : Nat}
theorem ln2 {cs : List Value} (h : cs.length = 2) : ∃ x0 x1, cs = [x0, x1] := by
  match cs, h with
  | [x0, x1], _ => exact ⟨x0, x1, rfl⟩
theorem ln3 {cs : List Value} (h : cs.length = 3) : ∃ x0 x1 x2, cs = [x0, x1, x2] := by
  match cs, h with
  | [x0, x1, x2], _ => exact ⟨x0, x1, x2, rfl⟩
theorem ln4 {cs : List Value} (h : cs.length = 4) : ∃ x0 x1 x2 x3, cs = [x0, x1, x2, x3] := by
  match cs, h with
  | [x0, x1, x2, x3], _ => exact ⟨x0, x1, x2, x3, rfl⟩
theorem ln5 {cs : List Value} (h : cs.length = 5) : ∃ x0 x1 x2 x3 x4, cs = [x0, x1, x2, x3, x4] := by
  match cs, h with
  | [x0, x1, x2, x3, x4], _ => exact ⟨x0, x1, x2, x3, x4, rfl⟩
theorem int_of {x : Value} (h : okT Try.prog W d 3 [x]) : ∃ n, x = .int .i64 n := by
  obtain ⟨n, e, _⟩ := okT_int h Try.underlying3
  cases e
  exact ⟨n, rfl⟩
theorem bool_of {x : Value} (h : okT Try.prog W d 4 [x]) : ∃ n, x = .bool n := by
  obtain ⟨n, e⟩ := okT_bool h Try.underlying4
  cases e
  exact ⟨n, rfl⟩
theorem lock_of {cs : List Value} (h : okT Try.prog W d 62 cs) : ∃ k : Lock, cs = k.vals := by
  obtain ⟨d2, l, o⟩ := okT_st h Try.underlying62
  rw [tcells62] at l
  obtain ⟨x0, x1, x2, rfl⟩ := ln3 l
  simp only [List.mem_cons, List.mem_nil_iff, or_false, forall_eq_or_imp, forall_eq] at o
  rw [tcells3, tcells4] at o
  obtain ⟨n0, rfl⟩ := int_of (x := x0) o.1
  obtain ⟨n1, rfl⟩ := int_of (x := x1) o.2.1
  obtain ⟨n2, rfl⟩ := bool_of (x := x2) o.2.2
  exact ⟨⟨n0, n1, n2⟩, rfl⟩
theorem locks_of {x : Value} (h : okT Try.prog W d 46 [x]) : ∃ a c l, x = .slice a (List.length (α := Lock) l) c ∧ Kt W [] a l := by
  obtain ⟨d2, a, n, cap, cell, e, h1, h2, sl, rows⟩ := okT_sl h Try.underlying46 (by rw [tcells62]; decide)
  rw [tcells62] at sl
  cases e
  obtain ⟨l, rfl, hl, _⟩ := rw_of (vals := Lock.vals) (Q := fun _ => True) sl fun i hi => (lock_of (rows i hi)).imp fun _ h => ⟨h, trivial⟩
  exact ⟨a, cap, l, rfl, hl⟩
theorem opn_of {cs : List Value} (h : okT Try.prog W d 48 cs) : ∃ k : LOpn, cs = k.vals ∧ Kt W [] k.la k.lk := by
  obtain ⟨d2, l, o⟩ := okT_st h Try.underlying48
  rw [tcells48] at l
  obtain ⟨x0, x1, x2, x3, x4, rfl⟩ := ln5 l
  simp only [List.mem_cons, List.mem_nil_iff, or_false, forall_eq_or_imp, forall_eq] at o
  rw [tcells3, tcells4, tcells46] at o
  obtain ⟨n0, rfl⟩ := int_of (x := x0) o.1
  obtain ⟨n1, rfl⟩ := int_of (x := x1) o.2.1
  obtain ⟨n2, rfl⟩ := int_of (x := x2) o.2.2.1
  obtain ⟨n3, rfl⟩ := bool_of (x := x3) o.2.2.2.1
  obtain ⟨a, c, k, rfl, hk⟩ := locks_of (x := x4) o.2.2.2.2
  exact ⟨⟨n0, n1, n2, n3, a, c, k⟩, rfl, hk⟩
theorem opens_of {x : Value} (h : okT Try.prog W d 75 [x]) : ∃ a c l, x = .slice a (List.length (α := LOpn) l) c ∧ Ot W [] a l ∧ l.length ≤ c := by
  obtain ⟨d2, a, n, cap, cell, e, h1, h2, sl, rows⟩ := okT_sl h Try.underlying75 (by rw [tcells48]; decide)
  rw [tcells48] at sl
  cases e
  obtain ⟨l, rfl, hl, hk, _⟩ := rw_of (vals := LOpn.vals) (Q := fun o => Kt W [] o.la o.lk) sl fun i hi => opn_of (rows i hi)
  exact ⟨a, cap, l, rfl, ⟨hl, hk⟩, h1⟩
theorem ref_of {x y : Value} (h : okT Try.prog W d 42 [x, y]) : ∃ n m, x = .int .i64 n ∧ y = .int .i64 m := by
  obtain ⟨d2, l, o⟩ := okT_st h Try.underlying42
  simp only [List.mem_cons, List.mem_nil_iff, or_false, forall_eq_or_imp, forall_eq] at o
  rw [tcells3] at o
  obtain ⟨n0, rfl⟩ := int_of (x := x) o.1
  obtain ⟨n1, rfl⟩ := int_of (x := y) o.2
  exact ⟨n0, n1, rfl, rfl⟩
theorem fil_of {cs : List Value} (h : okT Try.prog W d 77 cs) : ∃ k : LFil, cs = k.vals ∧ Ot W [] k.oa k.op ∧ k.op.length ≤ k.oc := by
  obtain ⟨d2, l, o⟩ := okT_st h Try.underlying77
  rw [tcells77] at l
  obtain ⟨x0, x1, x2, x3, rfl⟩ := ln4 l
  simp only [List.mem_cons, List.mem_nil_iff, or_false, forall_eq_or_imp, forall_eq] at o
  rw [tcells42, tcells4, tcells75] at o
  obtain ⟨n0, n1, rfl, rfl⟩ := ref_of (x := x0) (y := x1) o.1
  obtain ⟨n2, rfl⟩ := bool_of (x := x2) o.2.1
  obtain ⟨a, c, k, rfl, hk, hc⟩ := opens_of (x := x3) o.2.2
  exact ⟨⟨n0, n1, n2, a, c, k⟩, rfl, hk, hc⟩
/-- A slice of files reads as a table's files. -/
theorem files_of {n : Nat} {a : Option Addr} {cell : Nat → List Value} (sl : Sl W [] a 4 n cell) (rows : ∀ i, i < n → okT Try.prog W d 77 (cell i)) : ∃ l : List LFil, n = l.length ∧ Ft W [] a l := by
  obtain ⟨l, rfl, hl, hk, _⟩ := rw_of (vals := LFil.vals) (Q := fun f => Ot W [] f.oa f.op ∧ f.op.length ≤ f.oc) sl fun i hi => fil_of (rows i hi)
  exact ⟨l, rfl, hl, hk⟩
theorem kt_of {n : Nat} {a : Option Addr} {cell : Nat → List Value} (sl : Sl W [] a 3 n cell) (rows : ∀ i, i < n → okT Try.prog W d 62 (cell i)) : ∃ l : List Lock, n = l.length ∧ Kt W [] a l := by
  obtain ⟨l, rfl, hl, _⟩ := rw_of (vals := Lock.vals) (Q := fun _ => True) sl fun i hi => (lock_of (rows i hi)).imp fun _ h => ⟨h, trivial⟩
  exact ⟨l, rfl, hl⟩
end
end Go.Proofs
