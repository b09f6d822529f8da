/- It is proved that CipherWraps answers true for every input and leaves its arguments as they read; there are no conditions. -/
import Derived.Test.YtaffndpaehiafaaRows
import Derived.Test.YtaffndpaehiafaaGxOpen
import Derived.Test.YtaffndpaehiafaaC07Q
namespace Go.Proofs.Ytaffndpaehiafaa
open Go Go.RowKit Go.ChangeShapes Go.WideShapes Go.ChangeAt Gx Go.Proofs
set_option linter.unusedVariables false

theorem len2 {cs : List Value} (h : cs.length = 2) : ∃ x0 x1, cs = [x0, x1] := by
  match cs, h with
  | [x0, x1], _ => exact ⟨x0, x1, rfl⟩
theorem cells3 : Try.prog.cellsOf 3 = 1 := by kernel_rfl
theorem cells9 : Try.prog.cellsOf 9 = 1 := by kernel_rfl
theorem cells31 : Try.prog.cellsOf 31 = 2 := by kernel_rfl
theorem own4 : ownKnob Try.prog.godebug = none := by kernel_rfl
theorem laid4 : laidOutB Try.prog = true := by kernel_rfl
set_option maxRecDepth 100000 in
theorem lifted4 (os : Os) (started : os.Started) (H : Type) (enc : TypeId × Value → H) :
    ReturnsInHanded {} Try.checked os 4 .any (Rows.cipherWrapsSpec.pre6 enc Try.prog Try.f4 Rows.cipherWrapsRow.domain false) (Rows.cipherWrapsSpec.post enc Try.prog Try.f4 false true false false) := by
  refine returnsInHanded_of_change (C := Try.checked) own4 started (by kernel_rfl) Try.func4
    (ChangeSpec.witness6 (enc := enc) (C := Try.checked) false ⟨#[], #[.agg #[.int .i64 0, .string (bs [])], .string (bs []), .string (bs [])], []⟩ 8 (by kernel_rfl) (by kernel_rfl) (by kernel_rfl) (by kernel_rfl)) ?_
  intro W base args ds gs before hval0 hW hcnd _
  have hval : ∀ (j : Nat) t v, Try.f4.params[j]? = some t → args[j]? = some v → Value.okWide Try.prog W .any base t v := hval0
  have hW' := hW
  obtain ⟨p, q, hA0, hV, rfl, hfz, hnd⟩ := hW
  have hA : DataW.TrodAll enc Try.prog W 0 (fun _ => true) true Try.f4.params.toList args.toList ds p := hA0
  rw [Try.params4] at hA hval
  obtain ⟨v0, vs0, d0, ds0, p0, q0, hargs0, rfl, rfl, h0, r0⟩ := trodAll_cons hA
  obtain ⟨v1, vs1, d1, ds1, p1, q1, hargs1, rfl, rfl, h1, r1⟩ := trodAll_cons r0
  obtain ⟨v2, vs2, d2, ds2, p2, q2, hargs2, rfl, rfl, h2, r2⟩ := trodAll_cons r1
  obtain ⟨rfl, rfl, rfl⟩ := trodAll_nil r2
  obtain rfl : args = #[v0, v1, v2] := by cases args; simp_all
  obtain ⟨d2, o1⟩ := okT_trod h0
  obtain ⟨cs3, rfl, hc4⟩ := agg_of (hval 0 31 v0 rfl rfl) (by rw [Try.underlying31])
  rw [hc4] at o1
  obtain ⟨d6, len5, o7⟩ := okT_st o1 Try.underlying31
  rw [cells31] at len5
  obtain ⟨x8, x9, rfl⟩ := len2 len5
  simp only [List.mem_cons, List.mem_nil_iff, or_false, forall_eq_or_imp, forall_eq] at o7
  have h10 := o7.1
  rw [cells3] at h10
  change okT _ _ _ 3 [x8] at h10
  obtain ⟨n11, e12, g13⟩ := okT_int h10 Try.underlying3
  have wf14 := wf_i64 g13
  cases e12
  have h15 := o7.2
  rw [cells9] at h15
  change okT _ _ _ 9 [x9] at h15
  obtain ⟨l16, e17, g18⟩ := okT_str h15 Try.underlying9
  cases e17
  obtain ⟨d20, o19⟩ := okT_trod h1
  obtain ⟨x21, rfl⟩ := okWide_string Try.underlying9 (hval 1 9 v1 rfl rfl)
  obtain ⟨l22, e23, g24⟩ := okT_str o19 Try.underlying9
  cases e23
  obtain ⟨d26, o25⟩ := okT_trod h2
  obtain ⟨x27, rfl⟩ := okWide_string Try.underlying9 (hval 2 9 v2 rfl rfl)
  obtain ⟨l28, e29, g30⟩ := okT_str o25 Try.underlying9
  cases e29
  have hcall := c4 W n11 l16 l22 l28
  refine (hcall).mono fun e W' ⟨he, hb⟩ => ?_
  subst he
  exact ⟨_, rfl, post_true laid4 (by kernel_rfl) rfl Try.underlying4 rfl rfl hW' hb⟩
set_option maxRecDepth 100000 in
theorem cipherWraps_holds : Rows.CipherWrapsSaid :=
  OpenClaim.holds_of_wide 4 Try.f4 rfl rfl rfl rfl rfl rfl rfl ⟨rfl, rfl, rfl, rfl, rfl⟩ rfl rfl rfl rfl rfl (by kernel_rfl) Try.func4 (by kernel_rfl)
    (of_decide_eq_true (by kernel_rfl)) (by unfold Func.isWrapper; first | (rw [if_pos (by decide +kernel)]; kernel_rfl) | (rw [if_neg (by decide +kernel)]; exact ⟨rfl, rfl⟩))
    (fun os started H enc _ => lifted4 os started H enc)
end Go.Proofs.Ytaffndpaehiafaa
