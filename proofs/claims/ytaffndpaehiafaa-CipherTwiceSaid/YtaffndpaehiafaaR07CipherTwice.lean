/- It is proved that CipherTwice answers true for every input and leaves its arguments as they read; there are no conditions. -/
import Derived.Test.YtaffndpaehiafaaRows
import Derived.Test.YtaffndpaehiafaaGxOpen
import Derived.Test.YtaffndpaehiafaaC07R
namespace Go.Proofs.Ytaffndpaehiafaa
open Go Go.RowKit Go.ChangeShapes Go.WideShapes Go.ChangeAt Gx Go.Proofs
set_option linter.unusedVariables false

theorem len3 {cs : List Value} (h : cs.length = 3) : ∃ x0 x1 x2, cs = [x0, x1, x2] := by
  match cs, h with
  | [x0, x1, x2], _ => exact ⟨x0, x1, x2, rfl⟩
theorem cells57 : Try.prog.cellsOf 57 = 1 := by kernel_rfl
theorem cells58 : Try.prog.cellsOf 58 = 3 := by kernel_rfl
theorem own6 : ownKnob Try.prog.godebug = none := by kernel_rfl
theorem laid6 : laidOutB Try.prog = true := by kernel_rfl
set_option maxRecDepth 100000 in
theorem lifted6 (os : Os) (started : os.Started) (H : Type) (enc : TypeId × Value → H) :
    ReturnsInHanded {} Try.checked os 6 .any (Rows.cipherTwiceSpec.pre6 enc Try.prog Try.f6 Rows.cipherTwiceRow.domain false) (Rows.cipherTwiceSpec.post enc Try.prog Try.f6 false true false false) := by
  refine returnsInHanded_of_change (C := Try.checked) own6 started (by kernel_rfl) Try.func6
    (ChangeSpec.witness6 (enc := enc) (C := Try.checked) false ⟨#[], #[.string (bs []), .string (bs []), .agg #[.int .u16 0, .int .u16 0, .int .u16 0]], []⟩ 8 (by kernel_rfl) (by kernel_rfl) (by kernel_rfl) (by kernel_rfl)) ?_
  intro W base args ds gs before hval0 hW hcnd _
  have hval : ∀ (j : Nat) t v, Try.f6.params[j]? = some t → args[j]? = some v → Value.okWide Try.prog W .any base t v := hval0
  have hW' := hW
  obtain ⟨p, q, hA0, hV, rfl, hfz, hnd⟩ := hW
  have hA : DataW.TrodAll enc Try.prog W 0 (fun _ => true) true Try.f6.params.toList args.toList ds p := hA0
  rw [Try.params6] at hA hval
  obtain ⟨v0, vs0, d0, ds0, p0, q0, hargs0, rfl, rfl, h0, r0⟩ := trodAll_cons hA
  obtain ⟨v1, vs1, d1, ds1, p1, q1, hargs1, rfl, rfl, h1, r1⟩ := trodAll_cons r0
  obtain ⟨v2, vs2, d2, ds2, p2, q2, hargs2, rfl, rfl, h2, r2⟩ := trodAll_cons r1
  obtain ⟨rfl, rfl, rfl⟩ := trodAll_nil r2
  obtain rfl : args = #[v0, v1, v2] := by cases args; simp_all
  obtain ⟨d2, o1⟩ := okT_trod h0
  obtain ⟨x3, rfl⟩ := okWide_string Try.underlying9 (hval 0 9 v0 rfl rfl)
  obtain ⟨l4, e5, g6⟩ := okT_str o1 Try.underlying9
  cases e5
  obtain ⟨d8, o7⟩ := okT_trod h1
  obtain ⟨x9, rfl⟩ := okWide_string Try.underlying9 (hval 1 9 v1 rfl rfl)
  obtain ⟨l10, e11, g12⟩ := okT_str o7 Try.underlying9
  cases e11
  obtain ⟨d14, o13⟩ := okT_trod h2
  obtain ⟨cs15, rfl, hc16⟩ := agg_of (hval 2 58 v2 rfl rfl) (by rw [Try.underlying58])
  rw [hc16] at o13
  obtain ⟨d18, len17, o19⟩ := okT_ar o13 Try.underlying58
  rw [cells58] at len17
  obtain ⟨x20, x21, x22, rfl⟩ := len3 len17
  have h23 := o19 0 (by decide)
  rw [cells57] at h23
  change okT _ _ _ 57 [x20] at h23
  obtain ⟨n24, e25, g26⟩ := okT_int h23 Try.underlying57
  cases e25
  have h27 := o19 1 (by decide)
  rw [cells57] at h27
  change okT _ _ _ 57 [x21] at h27
  obtain ⟨n28, e29, g30⟩ := okT_int h27 Try.underlying57
  cases e29
  have h31 := o19 2 (by decide)
  rw [cells57] at h31
  change okT _ _ _ 57 [x22] at h31
  obtain ⟨n32, e33, g34⟩ := okT_int h31 Try.underlying57
  cases e33
  obtain ⟨c0, rfl⟩ := u16_of g26
  obtain ⟨c1, rfl⟩ := u16_of g30
  obtain ⟨c2, rfl⟩ := u16_of g34
  have hcall := c6 W l4 l10 c0 c1 c2
  refine (hcall).mono fun e W' ⟨he, hb⟩ => ?_
  subst he
  exact ⟨_, rfl, post_true laid6 (by kernel_rfl) rfl Try.underlying4 rfl rfl hW' hb⟩
set_option maxRecDepth 100000 in
theorem cipherTwice_holds : Rows.CipherTwiceSaid :=
  OpenClaim.holds_of_wide 6 Try.f6 rfl rfl rfl rfl rfl rfl rfl ⟨rfl, rfl, rfl, rfl, rfl⟩ rfl rfl rfl rfl rfl (by kernel_rfl) Try.func6 (by kernel_rfl)
    (of_decide_eq_true (by kernel_rfl)) (by unfold Func.isWrapper; first | (rw [if_pos (by decide +kernel)]; kernel_rfl) | (rw [if_neg (by decide +kernel)]; exact ⟨rfl, rfl⟩))
    (fun os started H enc _ => lifted6 os started H enc)
end Go.Proofs.Ytaffndpaehiafaa
