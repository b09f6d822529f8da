/- It is proved that CipherShared answers true for every input and leaves its arguments as they read; there are no conditions. -/
import Derived.Test.YtaffndpaehiafaaRows
import Derived.Test.YtaffndpaehiafaaGxOpen
import Derived.Test.YtaffndpaehiafaaC07ZI
namespace Go.Proofs.Ytaffndpaehiafaa
open Go Go.RowKit Go.ChangeShapes Go.WideShapes Go.ChangeAt Gx Go.Proofs
set_option linter.unusedVariables false

theorem len2 {cs : List Value} (h : cs.length = 2) : ∃ x0 x1, cs = [x0, x1] := by
  match cs, h with
  | [x0, x1], _ => exact ⟨x0, x1, rfl⟩
theorem len3 {cs : List Value} (h : cs.length = 3) : ∃ x0 x1 x2, cs = [x0, x1, x2] := by
  match cs, h with
  | [x0, x1, x2], _ => exact ⟨x0, x1, x2, rfl⟩
theorem len4 {cs : List Value} (h : cs.length = 4) : ∃ x0 x1 x2 x3, cs = [x0, x1, x2, x3] := by
  match cs, h with
  | [x0, x1, x2, x3], _ => exact ⟨x0, x1, x2, x3, rfl⟩
theorem cells3 : Try.prog.cellsOf 3 = 1 := by kernel_rfl
theorem cells9 : Try.prog.cellsOf 9 = 1 := by kernel_rfl
theorem cells31 : Try.prog.cellsOf 31 = 2 := by kernel_rfl
theorem cells45 : Try.prog.cellsOf 45 = 3 := by kernel_rfl
theorem cells93 : Try.prog.cellsOf 93 = 4 := by kernel_rfl
theorem cells94 : Try.prog.cellsOf 94 = 2 := by kernel_rfl
theorem own11 : ownKnob Try.prog.godebug = none := by kernel_rfl
theorem laid11 : laidOutB Try.prog = true := by kernel_rfl
theorem slice_inj {a a2 : Option Addr} {n n2 c c2 : Nat} (h : [Value.slice a n c] = [Value.slice a2 n2 c2]) : a = a2 ∧ n = n2 ∧ c = c2 := by cases h; exact ⟨rfl, rfl, rfl⟩
set_option maxRecDepth 100000 in
theorem lifted11 (os : Os) (started : os.Started) (H : Type) (enc : TypeId × Value → H) :
    ReturnsInHanded {} Try.checked os 11 .any (Rows.cipherSharedSpec.pre6 enc Try.prog Try.f11 Rows.cipherSharedRow.domain false) (Rows.cipherSharedSpec.post enc Try.prog Try.f11 false true false false) := by
  refine returnsInHanded_of_change (C := Try.checked) own11 started (by kernel_rfl) Try.func11
    (ChangeSpec.witness6 (enc := enc) (C := Try.checked) false ⟨#[], #[.agg #[.int .i64 0, .string (bs []), .int .i64 0, .string (bs [])], .agg #[.string (bs []), .string (bs [])], .agg #[.int .i64 0, .int .i64 0, .string (bs [])]], []⟩ 8 (by kernel_rfl) (by kernel_rfl) (by kernel_rfl) (by kernel_rfl)) ?_
  intro W base args ds gs before hval0 hW hcnd _
  have hval : ∀ (j : Nat) t v, Try.f11.params[j]? = some t → args[j]? = some v → Value.okWide Try.prog W .any base t v := hval0
  have hW' := hW
  obtain ⟨p, q, hA0, hV, rfl, hfz, hnd⟩ := hW
  have hA : DataW.TrodAll enc Try.prog W 0 (fun _ => true) true Try.f11.params.toList args.toList ds p := hA0
  rw [Try.params11] at hA hval
  obtain ⟨v0, vs0, d0, ds0, p0, q0, hargs0, rfl, rfl, h0, r0⟩ := trodAll_cons hA
  obtain ⟨v1, vs1, d1, ds1, p1, q1, hargs1, rfl, rfl, h1, r1⟩ := trodAll_cons r0
  obtain ⟨v2, vs2, d2, ds2, p2, q2, hargs2, rfl, rfl, h2, r2⟩ := trodAll_cons r1
  obtain ⟨rfl, rfl, rfl⟩ := trodAll_nil r2
  obtain rfl : args = #[v0, v1, v2] := by cases args; simp_all
  obtain ⟨d2, o1⟩ := okT_trod h0
  obtain ⟨cs3, rfl, hc4⟩ := agg_of (hval 0 93 v0 rfl rfl) (by rw [Try.underlying93])
  rw [hc4] at o1
  obtain ⟨d6, len5, o7⟩ := okT_ar o1 Try.underlying93
  rw [cells93] at len5
  obtain ⟨x8, x9, x10, x11, rfl⟩ := len4 len5
  have h12 := o7 0 (by decide)
  rw [cells31] at h12
  change okT _ _ _ 31 [x8, x9] at h12
  obtain ⟨d14, len13, o15⟩ := okT_st h12 Try.underlying31
  simp only [List.mem_cons, List.mem_nil_iff, or_false, forall_eq_or_imp, forall_eq] at o15
  have h16 := o15.1
  rw [cells3] at h16
  change okT _ _ _ 3 [x8] at h16
  obtain ⟨n17, e18, g19⟩ := okT_int h16 Try.underlying3
  have wf20 := wf_i64 g19
  cases e18
  have h21 := o15.2
  rw [cells9] at h21
  change okT _ _ _ 9 [x9] at h21
  obtain ⟨l22, e23, g24⟩ := okT_str h21 Try.underlying9
  cases e23
  have h25 := o7 1 (by decide)
  rw [cells31] at h25
  change okT _ _ _ 31 [x10, x11] at h25
  obtain ⟨d27, len26, o28⟩ := okT_st h25 Try.underlying31
  simp only [List.mem_cons, List.mem_nil_iff, or_false, forall_eq_or_imp, forall_eq] at o28
  have h29 := o28.1
  rw [cells3] at h29
  change okT _ _ _ 3 [x10] at h29
  obtain ⟨n30, e31, g32⟩ := okT_int h29 Try.underlying3
  have wf33 := wf_i64 g32
  cases e31
  have h34 := o28.2
  rw [cells9] at h34
  change okT _ _ _ 9 [x11] at h34
  obtain ⟨l35, e36, g37⟩ := okT_str h34 Try.underlying9
  cases e36
  obtain ⟨d39, o38⟩ := okT_trod h1
  obtain ⟨cs40, rfl, hc41⟩ := agg_of (hval 1 94 v1 rfl rfl) (by rw [Try.underlying94])
  rw [hc41] at o38
  obtain ⟨d43, len42, o44⟩ := okT_ar o38 Try.underlying94
  rw [cells94] at len42
  obtain ⟨x45, x46, rfl⟩ := len2 len42
  have h47 := o44 0 (by decide)
  rw [cells9] at h47
  change okT _ _ _ 9 [x45] at h47
  obtain ⟨l48, e49, g50⟩ := okT_str h47 Try.underlying9
  cases e49
  have h51 := o44 1 (by decide)
  rw [cells9] at h51
  change okT _ _ _ 9 [x46] at h51
  obtain ⟨l52, e53, g54⟩ := okT_str h51 Try.underlying9
  cases e53
  obtain ⟨d56, o55⟩ := okT_trod h2
  obtain ⟨cs57, rfl, hc58⟩ := agg_of (hval 2 45 v2 rfl rfl) (by rw [Try.underlying45])
  rw [hc58] at o55
  obtain ⟨d60, len59, o61⟩ := okT_st o55 Try.underlying45
  rw [cells45] at len59
  obtain ⟨x62, x63, x64, rfl⟩ := len3 len59
  simp only [List.mem_cons, List.mem_nil_iff, or_false, forall_eq_or_imp, forall_eq] at o61
  have h65 := o61.1
  rw [cells3] at h65
  change okT _ _ _ 3 [x62] at h65
  obtain ⟨n66, e67, g68⟩ := okT_int h65 Try.underlying3
  have wf69 := wf_i64 g68
  cases e67
  have h70 := o61.2.1
  rw [cells3] at h70
  change okT _ _ _ 3 [x63] at h70
  obtain ⟨n71, e72, g73⟩ := okT_int h70 Try.underlying3
  have wf74 := wf_i64 g73
  cases e72
  have h75 := o61.2.2
  rw [cells9] at h75
  change okT _ _ _ 9 [x64] at h75
  obtain ⟨l76, e77, g78⟩ := okT_str h75 Try.underlying9
  cases e77
  have hcall := c11 W n17 n30 l22 l35 l48 l52 n66 n71 l76 (by have hm := g78; simp only [maxLen] at hm; omega)
  refine (hcall).mono fun e W' ⟨he, hb⟩ => ?_
  subst he
  exact ⟨_, rfl, post_true laid11 (by kernel_rfl) rfl Try.underlying4 rfl rfl hW' hb⟩
set_option maxRecDepth 100000 in
theorem cipherShared_holds : Rows.CipherSharedSaid :=
  OpenClaim.holds_of_wide 11 Try.f11 rfl rfl rfl rfl rfl rfl rfl ⟨rfl, rfl, rfl, rfl, rfl⟩ rfl rfl rfl rfl rfl (by kernel_rfl) Try.func11 (by kernel_rfl)
    (of_decide_eq_true (by kernel_rfl)) (by unfold Func.isWrapper; first | (rw [if_pos (by decide +kernel)]; kernel_rfl) | (rw [if_neg (by decide +kernel)]; exact ⟨rfl, rfl⟩))
    (fun os started H enc _ => lifted11 os started H enc)
end Go.Proofs.Ytaffndpaehiafaa
