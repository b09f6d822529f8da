/- Plain data: what small helpers compute. -/
import Derived.Test.YtgdigngojonbhaaGxOps4
namespace Gx
open Go Go.RowKit
/-- The first number that is not zero, or zero. -/
def firstI : List Int → Int
  | [] => 0
  | e :: r => if e = 0 then firstI r else e
theorem firstI_drop {es : List Int} {k : Nat} (h : k < es.length) : firstI (es.drop k) = if es.getD k 0 = 0 then firstI (es.drop (k + 1)) else es.getD k 0 := by
  rw [List.drop_eq_getElem_cons h, firstI, List.getD_eq_getElem?_getD, List.getElem?_eq_getElem h]
  rfl
theorem firstI_end {es : List Int} {k : Nat} (h : es.length ≤ k) : firstI (es.drop k) = 0 := by
  rw [List.drop_eq_nil_of_le h]; rfl
def isI64 : Value → Bool
  | .int .i64 _ => true
  | _ => false
def firstV : List Value → Int
  | .int _ n :: r => if n = 0 then firstV r else n
  | _ => 0
theorem firstV_eq : ∀ {cs : List Value}, cs.all isI64 = true → firstI (cs.map intOf) = firstV cs
  | [], _ => rfl
  | v :: cs, h => by
    simp only [List.all_cons, Bool.and_eq_true] at h
    cases v with
    | int k n =>
      simp only [List.map_cons, firstI, firstV, intOf, firstV_eq h.2]
    | _ => cases h.1
theorem isI64_getD {cs : List Value} (h : cs.all isI64 = true) {i : Nat} (hi : i < cs.length) : cs[i]? = some (.int .i64 ((cs.map intOf).getD i 0)) := by
  have h1 := List.all_eq_true.1 h cs[i] (List.getElem_mem hi)
  rw [List.getElem?_eq_getElem hi]
  simp only [List.getD_eq_getElem?_getD, List.getElem?_map, List.getElem?_eq_getElem hi, Option.map_some, Option.getD_some]
  cases hc : cs[i] with
  | int k n => rw [hc] at h1; cases k <;> first | rfl | cases h1
  | _ => rw [hc] at h1; cases h1
/-- A row of numbers of the caller's, for a callee. -/
theorem HS.sl_ints {w0 w : World} {M : List Nat} {As As' : List HA} {b : Nat} {t : TypeId} {tot : Nat} {cs : List Value} (h : HS w0 M As w) (hp : Pick As (.blk b t tot cs) As') (hc : cs.all isI64 = true) : Sl w [] (some ⟨b, 0, none⟩) 1 cs.length (fun i => [.int .i64 ((cs.map intOf).getD i 0)]) :=
  h.sl_blk hp fun i hi => ⟨rfl, fun j v hv => by
    have hj : j = 0 := by
      rcases j with _ | j
      · rfl
      · simp at hv
    subst hj
    simp only [List.getElem?_cons_zero, Option.some.injEq] at hv
    subst hv
    rw [Nat.mul_one, Nat.add_zero]
    exact isI64_getD hc hi⟩
end Gx
