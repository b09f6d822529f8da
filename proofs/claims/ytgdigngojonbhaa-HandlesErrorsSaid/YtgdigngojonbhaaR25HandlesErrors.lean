/- It is proved that HandlesErrors answers true for every input and leaves its arguments as they read; there are no conditions. -/
import Derived.Test.YtgdigngojonbhaaRows
import Derived.Test.YtgdigngojonbhaaP25R
import Derived.Test.YtgdigngojonbhaaC25ZB
namespace Go.Proofs.Ytgdigngojonbhaa
open Go Go.RowKit Go.ChangeShapes Go.WideShapes Go.ChangeAt Gx Go.Proofs
set_option linter.unusedVariables false

theorem len2 {cs : List Value} (h : cs.length = 2) : ∃ x0 x1, cs = [x0, x1] := by
  match cs, h with
  | [x0, x1], _ => exact ⟨x0, x1, rfl⟩
theorem len10 {cs : List Value} (h : cs.length = 10) : ∃ x0 x1 x2 x3 x4 x5 x6 x7 x8 x9, cs = [x0, x1, x2, x3, x4, x5, x6, x7, x8, x9] := by
  match cs, h with
  | [x0, x1, x2, x3, x4, x5, x6, x7, x8, x9], _ => exact ⟨x0, x1, x2, x3, x4, x5, x6, x7, x8, x9, rfl⟩
theorem cells3 : Try.prog.cellsOf 3 = 1 := by kernel_rfl
theorem cells4 : Try.prog.cellsOf 4 = 1 := by kernel_rfl
theorem cells24 : Try.prog.cellsOf 24 = 1 := by kernel_rfl
theorem cells26 : Try.prog.cellsOf 26 = 2 := by kernel_rfl
theorem cells46 : Try.prog.cellsOf 46 = 1 := by kernel_rfl
theorem cells48 : Try.prog.cellsOf 48 = 5 := by kernel_rfl
theorem cells49 : Try.prog.cellsOf 49 = 10 := by kernel_rfl
theorem cells62 : Try.prog.cellsOf 62 = 3 := by kernel_rfl
theorem cells77 : Try.prog.cellsOf 77 = 4 := by kernel_rfl
theorem own5 : ownKnob Try.prog.godebug = none := by kernel_rfl
theorem laid5 : laidOutB Try.prog = true := by kernel_rfl
theorem slice_inj {a a2 : Option Addr} {n n2 c c2 : Nat} (h : [Value.slice a n c] = [Value.slice a2 n2 c2]) : a = a2 ∧ n = n2 ∧ c = c2 := by cases h; exact ⟨rfl, rfl, rfl⟩
set_option maxRecDepth 100000 in
theorem lifted5 (os : Os) (started : os.Started) (H : Type) (enc : TypeId × Value → H) :
    ReturnsInHanded {} Try.checked os 5 .any (Rows.handlesErrorsSpec.pre6 enc Try.prog Try.f5 Rows.handlesErrorsRow.domain false) (Rows.handlesErrorsSpec.post enc Try.prog Try.f5 false true false false) := by
  refine returnsInHanded_of_change (C := Try.checked) own5 started (by kernel_rfl) Try.func5
    (ChangeSpec.witness6 (enc := enc) (C := Try.checked) false ⟨#[], #[.agg #[.int .i64 0, .slice none 0 0], .agg #[.int .i64 0, .int .i64 0, .int .i64 0, .bool false, .slice none 0 0, .int .i64 0, .int .i64 0, .int .i64 0, .bool false, .slice none 0 0]], []⟩ 8 (by kernel_rfl) (by kernel_rfl) (by kernel_rfl) (by kernel_rfl)) ?_
  intro W base args ds gs before hval0 hW hcnd _
  have hval : ∀ (j : Nat) t v, Try.f5.params[j]? = some t → args[j]? = some v → Value.okWide Try.prog W .any base t v := hval0
  have hW' := hW
  obtain ⟨p, q, hA0, hV, rfl, hfz, hnd⟩ := hW
  have hA : DataW.TrodAll enc Try.prog W 0 (fun _ => true) true Try.f5.params.toList args.toList ds p := hA0
  rw [Try.params5] at hA hval
  obtain ⟨v0, vs0, d0, ds0, p0, q0, hargs0, rfl, rfl, h0, r0⟩ := trodAll_cons hA
  obtain ⟨v1, vs1, d1, ds1, p1, q1, hargs1, rfl, rfl, h1, r1⟩ := trodAll_cons r0
  obtain ⟨rfl, rfl, rfl⟩ := trodAll_nil r1
  obtain rfl : args = #[v0, v1] := by cases args; simp_all
  obtain ⟨d2, o1⟩ := okT_trod h0
  obtain ⟨cs3, rfl, hc4⟩ := agg_of (hval 0 26 v0 rfl rfl) (by rw [Try.underlying26])
  rw [hc4] at o1
  obtain ⟨d6, len5, o7⟩ := okT_st o1 Try.underlying26
  rw [cells26] at len5
  obtain ⟨x8, x9, rfl⟩ := len2 len5
  simp only [List.mem_cons, List.mem_nil_iff, or_false, forall_eq_or_imp, forall_eq] at o7
  have h10 := o7.1
  rw [cells3] at h10
  change okT _ _ _ 3 [x8] at h10
  obtain ⟨n11, e12, g13⟩ := okT_int h10 Try.underlying3
  have wf14 := wf_i64 g13
  cases e12
  have h15 := o7.2
  rw [cells24] at h15
  change okT _ _ _ 24 [x9] at h15
  obtain ⟨d25, a16, n17, cap18, cell19, e20, hn21, hcap22, sl23, rows24⟩ := okT_sl h15 Try.underlying24 (by rw [cells77]; decide)
  rw [cells77] at sl23
  cases e20
  obtain ⟨d27, o26⟩ := okT_trod h1
  obtain ⟨cs28, rfl, hc29⟩ := agg_of (hval 1 49 v1 rfl rfl) (by rw [Try.underlying49])
  rw [hc29] at o26
  obtain ⟨d31, len30, o32⟩ := okT_ar o26 Try.underlying49
  rw [cells49] at len30
  obtain ⟨x33, x34, x35, x36, x37, x38, x39, x40, x41, x42, rfl⟩ := len10 len30
  have h43 := o32 0 (by decide)
  rw [cells48] at h43
  change okT _ _ _ 48 [x33, x34, x35, x36, x37] at h43
  obtain ⟨d45, len44, o46⟩ := okT_st h43 Try.underlying48
  simp only [List.mem_cons, List.mem_nil_iff, or_false, forall_eq_or_imp, forall_eq] at o46
  have h47 := o46.1
  rw [cells3] at h47
  change okT _ _ _ 3 [x33] at h47
  obtain ⟨n48, e49, g50⟩ := okT_int h47 Try.underlying3
  have wf51 := wf_i64 g50
  cases e49
  have h52 := o46.2.1
  rw [cells3] at h52
  change okT _ _ _ 3 [x34] at h52
  obtain ⟨n53, e54, g55⟩ := okT_int h52 Try.underlying3
  have wf56 := wf_i64 g55
  cases e54
  have h57 := o46.2.2.1
  rw [cells3] at h57
  change okT _ _ _ 3 [x35] at h57
  obtain ⟨n58, e59, g60⟩ := okT_int h57 Try.underlying3
  have wf61 := wf_i64 g60
  cases e59
  have h62 := o46.2.2.2.1
  rw [cells4] at h62
  change okT _ _ _ 4 [x36] at h62
  obtain ⟨b63, e64⟩ := okT_bool h62 Try.underlying4
  cases e64
  have h65 := o46.2.2.2.2
  rw [cells46] at h65
  change okT _ _ _ 46 [x37] at h65
  obtain ⟨d75, a66, n67, cap68, cell69, e70, hn71, hcap72, sl73, rows74⟩ := okT_sl h65 Try.underlying46 (by rw [cells62]; decide)
  rw [cells62] at sl73
  cases e70
  have h76 := o32 1 (by decide)
  rw [cells48] at h76
  change okT _ _ _ 48 [x38, x39, x40, x41, x42] at h76
  obtain ⟨d78, len77, o79⟩ := okT_st h76 Try.underlying48
  simp only [List.mem_cons, List.mem_nil_iff, or_false, forall_eq_or_imp, forall_eq] at o79
  have h80 := o79.1
  rw [cells3] at h80
  change okT _ _ _ 3 [x38] at h80
  obtain ⟨n81, e82, g83⟩ := okT_int h80 Try.underlying3
  have wf84 := wf_i64 g83
  cases e82
  have h85 := o79.2.1
  rw [cells3] at h85
  change okT _ _ _ 3 [x39] at h85
  obtain ⟨n86, e87, g88⟩ := okT_int h85 Try.underlying3
  have wf89 := wf_i64 g88
  cases e87
  have h90 := o79.2.2.1
  rw [cells3] at h90
  change okT _ _ _ 3 [x40] at h90
  obtain ⟨n91, e92, g93⟩ := okT_int h90 Try.underlying3
  have wf94 := wf_i64 g93
  cases e92
  have h95 := o79.2.2.2.1
  rw [cells4] at h95
  change okT _ _ _ 4 [x41] at h95
  obtain ⟨b96, e97⟩ := okT_bool h95 Try.underlying4
  cases e97
  have h98 := o79.2.2.2.2
  rw [cells46] at h98
  change okT _ _ _ 46 [x42] at h98
  obtain ⟨d108, a99, n100, cap101, cell102, e103, hn104, hcap105, sl106, rows107⟩ := okT_sl h98 Try.underlying46 (by rw [cells62]; decide)
  rw [cells62] at sl106
  cases e103
  obtain ⟨L, hn_L, hF_L⟩ := files_of sl23 rows24
  subst hn_L
  obtain ⟨kx, hn_kx, hK_kx⟩ := kt_of sl73 rows74
  subst hn_kx
  obtain ⟨ky, hn_ky, hK_ky⟩ := kt_of sl106 rows107
  subst hn_ky
  have hcall := c5 W n11 a16 cap18 L ⟨n48, n53, n58, b63, a66, cap68, kx⟩ ⟨n81, n86, n91, b96, a99, cap101, ky⟩ hF_L
  refine (hcall).mono fun e W' ⟨he, hb⟩ => ?_
  subst he
  exact ⟨_, rfl, post_true laid5 (by kernel_rfl) rfl Try.underlying4 rfl rfl hW' hb⟩
set_option maxRecDepth 100000 in
theorem handlesErrors_holds : Rows.HandlesErrorsSaid :=
  OpenClaim.holds_of_wide 5 Try.f5 rfl rfl rfl rfl rfl rfl rfl ⟨rfl, rfl, rfl, rfl, rfl⟩ rfl rfl rfl rfl rfl (by kernel_rfl) Try.func5 (by kernel_rfl)
    (of_decide_eq_true (by kernel_rfl)) (by unfold Func.isWrapper; first | (rw [if_pos (by decide +kernel)]; kernel_rfl) | (rw [if_neg (by decide +kernel)]; exact ⟨rfl, rfl⟩))
    (fun os started H enc _ => lifted5 os started H enc)
end Go.Proofs.Ytgdigngojonbhaa
