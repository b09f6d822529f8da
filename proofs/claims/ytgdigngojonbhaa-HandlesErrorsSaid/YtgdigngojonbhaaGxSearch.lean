/- A binary search over a list of answers. Nothing of a program is named here. -/
import Derived.Test.YtgdigngojonbhaaGxHandles
namespace Gx
set_option linter.unusedVariables false
open Go Go.RowKit
theorem u64w32 (n : Nat) (h : n < 4294967296) : IntKind.u64.wrap (n : Int) = n := by
  rw [IntKind.wrap_u64]; omega
def bsC (cs : List Int) : Nat → Nat → Nat → Nat
  | 0, lo, _ => lo
  | m + 1, lo, hi => if lo < hi then if cs.getD ((lo + hi) / 2) 0 < 0 then bsC cs m ((lo + hi) / 2 + 1) hi else bsC cs m lo ((lo + hi) / 2) else lo
def bsL (cs : List Int) : Nat := bsC cs cs.length 0 cs.length
def bsF' (cs : List Int) : Bool := decide (bsL cs < cs.length) && decide (cs.getD (bsL cs) 0 = 0)
theorem bsC_step {cs : List Int} {m lo hi : Nat} (hl : lo < hi) (hn : hi - lo ≤ m) : ∃ q, m = q + 1 ∧ (bsC cs m lo hi = if cs.getD ((lo + hi) / 2) 0 < 0 then bsC cs q ((lo + hi) / 2 + 1) hi else bsC cs q lo ((lo + hi) / 2)) := by
  cases m with
  | zero => omega
  | succ q => exact ⟨q, rfl, by rw [bsC, if_pos hl]⟩
theorem bsC_end (cs : List Int) : ∀ (n lo hi : Nat), ¬ lo < hi → bsC cs n lo hi = lo
  | 0, _, _, _ => rfl
  | n + 1, lo, hi, h => by rw [bsC, if_neg h]
/-- Where the answers below 0 come first, the search ends behind them. -/
theorem bsC_spec {cs : List Int} {p : Nat} (hp : p ≤ cs.length) (h1 : ∀ i, i < p → cs.getD i 0 < 0) (h2 : ∀ i, p ≤ i → i < cs.length → ¬ cs.getD i 0 < 0) : ∀ (n lo hi : Nat), hi - lo ≤ n → lo ≤ p → p ≤ hi → hi ≤ cs.length → bsC cs n lo hi = p
  | 0, lo, hi, hn, a, b, c => by rw [bsC]; omega
  | n + 1, lo, hi, hn, a, b, c => by
    rw [bsC]
    by_cases hl : lo < hi
    · rw [if_pos hl]
      by_cases hx : cs.getD ((lo + hi) / 2) 0 < 0
      · rw [if_pos hx]
        have : (lo + hi) / 2 < p := by
          rcases Nat.lt_or_ge ((lo + hi) / 2) p with h | h
          · exact h
          · exact absurd hx (h2 _ h (by omega))
        exact bsC_spec hp h1 h2 n _ _ (by omega) (by omega) b c
      · rw [if_neg hx]
        have : p ≤ (lo + hi) / 2 := by
          rcases Nat.lt_or_ge ((lo + hi) / 2) p with h | h
          · exact absurd (h1 _ h) hx
          · exact h
        exact bsC_spec hp h1 h2 n _ _ (by omega) a this (by omega)
    · rw [if_neg hl]; omega
theorem bsL_spec {cs : List Int} {p : Nat} (hp : p ≤ cs.length) (h1 : ∀ i, i < p → cs.getD i 0 < 0) (h2 : ∀ i, p ≤ i → i < cs.length → ¬ cs.getD i 0 < 0) : bsL cs = p :=
  bsC_spec hp h1 h2 _ _ _ (by omega) (Nat.zero_le _) hp (Nat.le_refl _)
end Gx
