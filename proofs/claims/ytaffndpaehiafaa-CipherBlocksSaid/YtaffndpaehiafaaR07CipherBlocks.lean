/- It is proved that CipherBlocks answers true for every input and leaves its arguments as they read; there are no conditions. -/
import Derived.Test.YtaffndpaehiafaaRows
import Derived.Test.YtaffndpaehiafaaGxOpen
import Derived.Test.YtaffndpaehiafaaC07Q
namespace Go.Proofs.Ytaffndpaehiafaa
open Go Go.RowKit Go.ChangeShapes Go.WideShapes Go.ChangeAt Gx Go.Proofs
set_option linter.unusedVariables false

theorem len3 {cs : List Value} (h : cs.length = 3) : ∃ x0 x1 x2, cs = [x0, x1, x2] := by
  match cs, h with
  | [x0, x1, x2], _ => exact ⟨x0, x1, x2, rfl⟩
theorem cells3 : Try.prog.cellsOf 3 = 1 := by kernel_rfl
theorem cells62 : Try.prog.cellsOf 62 = 3 := by kernel_rfl
theorem own7 : ownKnob Try.prog.godebug = none := by kernel_rfl
theorem laid7 : laidOutB Try.prog = true := by kernel_rfl
set_option maxRecDepth 100000 in
theorem lifted7 (os : Os) (started : os.Started) (H : Type) (enc : TypeId × Value → H) :
    ReturnsInHanded {} Try.checked os 7 .any (Rows.cipherBlocksSpec.pre6 enc Try.prog Try.f7 Rows.cipherBlocksRow.domain false) (Rows.cipherBlocksSpec.post enc Try.prog Try.f7 false true false false) := by
  refine returnsInHanded_of_change (C := Try.checked) own7 started (by kernel_rfl) Try.func7
    (ChangeSpec.witness6 (enc := enc) (C := Try.checked) false ⟨#[], #[.string (bs []), .agg #[.int .i64 0, .int .i64 0, .int .i64 0], .string (bs [])], []⟩ 8 (by kernel_rfl) (by kernel_rfl) (by kernel_rfl) (by kernel_rfl)) ?_
  intro W base args ds gs before hval0 hW hcnd _
  have hval : ∀ (j : Nat) t v, Try.f7.params[j]? = some t → args[j]? = some v → Value.okWide Try.prog W .any base t v := hval0
  have hW' := hW
  obtain ⟨p, q, hA0, hV, rfl, hfz, hnd⟩ := hW
  have hA : DataW.TrodAll enc Try.prog W 0 (fun _ => true) true Try.f7.params.toList args.toList ds p := hA0
  rw [Try.params7] at hA hval
  obtain ⟨v0, vs0, d0, ds0, p0, q0, hargs0, rfl, rfl, h0, r0⟩ := trodAll_cons hA
  obtain ⟨v1, vs1, d1, ds1, p1, q1, hargs1, rfl, rfl, h1, r1⟩ := trodAll_cons r0
  obtain ⟨v2, vs2, d2, ds2, p2, q2, hargs2, rfl, rfl, h2, r2⟩ := trodAll_cons r1
  obtain ⟨rfl, rfl, rfl⟩ := trodAll_nil r2
  obtain rfl : args = #[v0, v1, v2] := by cases args; simp_all
  obtain ⟨d2, o1⟩ := okT_trod h0
  obtain ⟨x3, rfl⟩ := okWide_string Try.underlying9 (hval 0 9 v0 rfl rfl)
  obtain ⟨l4, e5, g6⟩ := okT_str o1 Try.underlying9
  cases e5
  obtain ⟨d8, o7⟩ := okT_trod h1
  obtain ⟨cs9, rfl, hc10⟩ := agg_of (hval 1 62 v1 rfl rfl) (by rw [Try.underlying62])
  rw [hc10] at o7
  obtain ⟨d12, len11, o13⟩ := okT_ar o7 Try.underlying62
  rw [cells62] at len11
  obtain ⟨x14, x15, x16, rfl⟩ := len3 len11
  have h17 := o13 0 (by decide)
  rw [cells3] at h17
  change okT _ _ _ 3 [x14] at h17
  obtain ⟨n18, e19, g20⟩ := okT_int h17 Try.underlying3
  have wf21 := wf_i64 g20
  cases e19
  have h22 := o13 1 (by decide)
  rw [cells3] at h22
  change okT _ _ _ 3 [x15] at h22
  obtain ⟨n23, e24, g25⟩ := okT_int h22 Try.underlying3
  have wf26 := wf_i64 g25
  cases e24
  have h27 := o13 2 (by decide)
  rw [cells3] at h27
  change okT _ _ _ 3 [x16] at h27
  obtain ⟨n28, e29, g30⟩ := okT_int h27 Try.underlying3
  have wf31 := wf_i64 g30
  cases e29
  obtain ⟨d33, o32⟩ := okT_trod h2
  obtain ⟨x34, rfl⟩ := okWide_string Try.underlying9 (hval 2 9 v2 rfl rfl)
  obtain ⟨l35, e36, g37⟩ := okT_str o32 Try.underlying9
  cases e36
  have hcall := c7 W l4 l35 n18 n23 n28 (by have hm := g37; simp only [maxLen] at hm; omega)
  refine (hcall).mono fun e W' ⟨he, hb⟩ => ?_
  subst he
  exact ⟨_, rfl, post_true laid7 (by kernel_rfl) rfl Try.underlying4 rfl rfl hW' hb⟩
set_option maxRecDepth 100000 in
theorem cipherBlocks_holds : Rows.CipherBlocksSaid :=
  OpenClaim.holds_of_wide 7 Try.f7 rfl rfl rfl rfl rfl rfl rfl ⟨rfl, rfl, rfl, rfl, rfl⟩ rfl rfl rfl rfl rfl (by kernel_rfl) Try.func7 (by kernel_rfl)
    (of_decide_eq_true (by kernel_rfl)) (by unfold Func.isWrapper; first | (rw [if_pos (by decide +kernel)]; kernel_rfl) | (rw [if_neg (by decide +kernel)]; exact ⟨rfl, rfl⟩))
    (fun os started H enc _ => lifted7 os started H enc)
end Go.Proofs.Ytaffndpaehiafaa
