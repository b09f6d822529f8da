/- Contracts of the program's functions, proved by walking them with the rules of the Gx texts; without conditions beyond those that each contract names. -/
import Derived.Test.YtgdigngojonbhaaC25V
namespace Go.Proofs
open Go Go.RowKit Gx
set_option linter.unusedVariables false
set_option linter.unusedSimpArgs false
attribute [local irreducible] Go.Calls Gx.S Gx.O Gx.D Gx.OpP Gx.OpQ Gx.OpH



theorem unlockT_f {L : List Fil} {h fr cnt : Int} (hn : ¬ (findF L h 0).2.2 = 0) : (unlockT L h fr cnt).2 = (findF L h 0).2.2 := by rw [unlockT, if_neg hn]
theorem unlockT_r {L : List Fil} {h fr cnt : Int} (hn : (findF L h 0).2.2 = 0) (h2 : ¬ rngE fr cnt = 0) : unlockT L h fr cnt = (L, rngE fr cnt) := by rw [unlockT, if_pos hn, if_neg h2]
theorem unlockT_l {L : List Fil} {h fr cnt : Int} {i k : Nat} (hfe : findF L h 0 = (i, k, 0)) (h2 : rngE fr cnt = 0) : unlockT L h fr cnt = if ixB ((nth (nth L i).op k).lk.map (eqK fr cnt)) < (nth (nth L i).op k).lk.length then (updO L i k fun o => { o with lk := others o.lk (ixB (o.lk.map (eqK fr cnt))) }, 0) else (L, 6) := by
  rw [unlockT, hfe]
  simp only [if_true]
  rw [if_pos h2]

end Go.Proofs
