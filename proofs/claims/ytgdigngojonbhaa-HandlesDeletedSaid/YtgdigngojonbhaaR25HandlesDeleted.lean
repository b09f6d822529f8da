/- It is proved that HandlesDeleted answers true for every input and leaves its arguments as they read; there are no conditions. -/
import Derived.WalkKit
import Derived.Deep.Draws
import Derived.Lib.Strings
import Derived.Laws.BytesArg
import Derived.Laws.IdiomStrings
import Derived.Deep.Quiet
import Derived.Laws.StructEq
import Derived.ChangeKeysEq
import Derived.Laws.Externs
import Derived.Lib.Overlaps
import Derived.Carry
import Derived.Laws.Small
import Derived.Test.YtgdigngojonbhaaProg
import Derived.KernelRfl
import Derived.ProofKit
import Derived.OpenShut
import Derived.Test.YtgdigngojonbhaaRows
import Derived.Test.YtgdigngojonbhaaP5
namespace Go.Proofs.Ytgdigngojonbhaa
open Go Go.RowKit Go.ChangeShapes Go.WideShapes Go.ChangeAt Gx Go.Proofs
set_option linter.unusedVariables false

theorem cells44 : Try.prog.cellsOf 44 = 9 := by kernel_rfl
theorem own4 : ownKnob Try.prog.godebug = none := by kernel_rfl
theorem laid4 : laidOutB Try.prog = true := by kernel_rfl
theorem slice_inj {a a2 : Option Addr} {n n2 c c2 : Nat} (h : [Value.slice a n c] = [Value.slice a2 n2 c2]) : a = a2 ∧ n = n2 ∧ c = c2 := by cases h; exact ⟨rfl, rfl, rfl⟩
set_option maxRecDepth 100000 in
theorem lifted4 (os : Os) (started : os.Started) (H : Type) (enc : TypeId × Value → H) :
    ReturnsInHanded {} Try.checked os 4 .any (Rows.handlesDeletedSpec.pre6 enc Try.prog Try.f4 Rows.handlesDeletedRow.domain false) (Rows.handlesDeletedSpec.post enc Try.prog Try.f4 false true false false) := by
  refine returnsInHanded_of_change (C := Try.checked) own4 started (by kernel_rfl) Try.func4
    (ChangeSpec.witness6 (enc := enc) (C := Try.checked) false ⟨#[], #[.slice none 0 0], []⟩ 8 (by kernel_rfl) (by kernel_rfl) (by kernel_rfl) (by kernel_rfl)) ?_
  intro W base args ds gs before hval0 hW hcnd _
  have hval : ∀ (j : Nat) t v, Try.f4.params[j]? = some t → args[j]? = some v → Value.okWide Try.prog W .any base t v := hval0
  have hW' := hW
  obtain ⟨p, q, hA0, hV, rfl, hfz, hnd⟩ := hW
  have hA : DataW.TrodAll enc Try.prog W 0 (fun _ => true) true Try.f4.params.toList args.toList ds p := hA0
  rw [Try.params4] at hA hval
  obtain ⟨v0, vs0, d0, ds0, p0, q0, hargs0, rfl, rfl, h0, r0⟩ := trodAll_cons hA
  obtain ⟨rfl, rfl, rfl⟩ := trodAll_nil r0
  obtain rfl : args = #[v0] := by cases args; simp_all
  obtain ⟨d2, o1⟩ := okT_trod h0
  obtain ⟨x3, x4, x5, rfl⟩ := okWide_slice Try.underlying22 (hval 0 22 v0 rfl rfl)
  obtain ⟨d15, a6, n7, cap8, cell9, e10, hn11, hcap12, sl13, rows14⟩ := okT_sl o1 Try.underlying22 (by rw [cells44]; decide)
  rw [cells44] at sl13
  obtain ⟨q16, q17, q18⟩ := slice_inj e10
  subst x3 x4 x5
  obtain ⟨xs, hn_xs, hA_xs⟩ := acts_of sl13 rows14
  subst hn_xs
  have hcall := c4 W a6 cap8 xs hA_xs
  refine (hcall).mono fun e W' ⟨he, hb⟩ => ?_
  subst he
  exact ⟨_, rfl, post_true laid4 (by kernel_rfl) rfl Try.underlying4 rfl rfl hW' hb⟩
set_option maxRecDepth 100000 in
theorem handlesDeleted_holds : Rows.HandlesDeletedSaid :=
  OpenClaim.holds_of_wide 4 Try.f4 rfl rfl rfl rfl rfl rfl rfl ⟨rfl, rfl, rfl, rfl, rfl⟩ rfl rfl rfl rfl rfl (by kernel_rfl) Try.func4 (by kernel_rfl)
    (of_decide_eq_true (by kernel_rfl)) (by unfold Func.isWrapper; first | (rw [if_pos (by decide +kernel)]; kernel_rfl) | (rw [if_neg (by decide +kernel)]; exact ⟨rfl, rfl⟩))
    (fun os started H enc _ => lifted4 os started H enc)
end Go.Proofs.Ytgdigngojonbhaa
