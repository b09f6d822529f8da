/- It is proved that CipherQuarters answers true for every input and leaves its arguments as they read; there are no conditions. -/
import Derived.Test.YtaffndpaehiafaaRows
import Derived.Test.YtaffndpaehiafaaGxOpen
import Derived.Test.YtaffndpaehiafaaC07L
namespace Go.Proofs.Ytaffndpaehiafaa
open Go Go.RowKit Go.ChangeShapes Go.WideShapes Go.ChangeAt Gx Go.Proofs
set_option linter.unusedVariables false

theorem len4 {cs : List Value} (h : cs.length = 4) : ∃ x0 x1 x2 x3, cs = [x0, x1, x2, x3] := by
  match cs, h with
  | [x0, x1, x2, x3], _ => exact ⟨x0, x1, x2, x3, rfl⟩
theorem cells3 : Try.prog.cellsOf 3 = 1 := by kernel_rfl
theorem cells22 : Try.prog.cellsOf 22 = 4 := by kernel_rfl
theorem own3 : ownKnob Try.prog.godebug = none := by kernel_rfl
theorem laid3 : laidOutB Try.prog = true := by kernel_rfl
set_option maxRecDepth 100000 in
theorem lifted3 (os : Os) (started : os.Started) (H : Type) (enc : TypeId × Value → H) :
    ReturnsInHanded {} Try.checked os 3 .any (Rows.cipherQuartersSpec.pre6 enc Try.prog Try.f3 Rows.cipherQuartersRow.domain false) (Rows.cipherQuartersSpec.post enc Try.prog Try.f3 false true false false) := by
  refine returnsInHanded_of_change (C := Try.checked) own3 started (by kernel_rfl) Try.func3
    (ChangeSpec.witness6 (enc := enc) (C := Try.checked) false ⟨#[], #[.agg #[.int .i64 0, .int .i64 0, .int .i64 0, .int .i64 0]], []⟩ 8 (by kernel_rfl) (by kernel_rfl) (by kernel_rfl) (by kernel_rfl)) ?_
  intro W base args ds gs before hval0 hW hcnd _
  have hval : ∀ (j : Nat) t v, Try.f3.params[j]? = some t → args[j]? = some v → Value.okWide Try.prog W .any base t v := hval0
  have hW' := hW
  obtain ⟨p, q, hA0, hV, rfl, hfz, hnd⟩ := hW
  have hA : DataW.TrodAll enc Try.prog W 0 (fun _ => true) true Try.f3.params.toList args.toList ds p := hA0
  rw [Try.params3] at hA hval
  obtain ⟨v0, vs0, d0, ds0, p0, q0, hargs0, rfl, rfl, h0, r0⟩ := trodAll_cons hA
  obtain ⟨rfl, rfl, rfl⟩ := trodAll_nil r0
  obtain rfl : args = #[v0] := by cases args; simp_all
  obtain ⟨d2, o1⟩ := okT_trod h0
  obtain ⟨cs3, rfl, hc4⟩ := agg_of (hval 0 22 v0 rfl rfl) (by rw [Try.underlying22])
  rw [hc4] at o1
  obtain ⟨d6, len5, o7⟩ := okT_ar o1 Try.underlying22
  rw [cells22] at len5
  obtain ⟨x8, x9, x10, x11, rfl⟩ := len4 len5
  have h12 := o7 0 (by decide)
  rw [cells3] at h12
  change okT _ _ _ 3 [x8] at h12
  obtain ⟨n13, e14, g15⟩ := okT_int h12 Try.underlying3
  have wf16 := wf_i64 g15
  cases e14
  have h17 := o7 1 (by decide)
  rw [cells3] at h17
  change okT _ _ _ 3 [x9] at h17
  obtain ⟨n18, e19, g20⟩ := okT_int h17 Try.underlying3
  have wf21 := wf_i64 g20
  cases e19
  have h22 := o7 2 (by decide)
  rw [cells3] at h22
  change okT _ _ _ 3 [x10] at h22
  obtain ⟨n23, e24, g25⟩ := okT_int h22 Try.underlying3
  have wf26 := wf_i64 g25
  cases e24
  have h27 := o7 3 (by decide)
  rw [cells3] at h27
  change okT _ _ _ 3 [x11] at h27
  obtain ⟨n28, e29, g30⟩ := okT_int h27 Try.underlying3
  have wf31 := wf_i64 g30
  cases e29
  have hcall := c3 W n13 n18 n23 n28
  refine (hcall).mono fun e W' ⟨he, hb⟩ => ?_
  subst he
  exact ⟨_, rfl, post_true laid3 (by kernel_rfl) rfl Try.underlying4 rfl rfl hW' hb⟩
set_option maxRecDepth 100000 in
theorem cipherQuarters_holds : Rows.CipherQuartersSaid :=
  OpenClaim.holds_of_wide 3 Try.f3 rfl rfl rfl rfl rfl rfl rfl ⟨rfl, rfl, rfl, rfl, rfl⟩ rfl rfl rfl rfl rfl (by kernel_rfl) Try.func3 (by kernel_rfl)
    (of_decide_eq_true (by kernel_rfl)) (by unfold Func.isWrapper; first | (rw [if_pos (by decide +kernel)]; kernel_rfl) | (rw [if_neg (by decide +kernel)]; exact ⟨rfl, rfl⟩))
    (fun os started H enc _ => lifted3 os started H enc)
end Go.Proofs.Ytaffndpaehiafaa
