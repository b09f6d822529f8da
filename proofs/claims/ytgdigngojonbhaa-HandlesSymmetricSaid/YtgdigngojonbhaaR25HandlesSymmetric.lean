/- It is proved that HandlesSymmetric answers true for every input and leaves its arguments as they read; there are no conditions. -/
import Derived.WalkKit
import Derived.Deep.Draws
import Derived.Lib.Strings
import Derived.Laws.BytesArg
import Derived.Laws.IdiomStrings
import Derived.Deep.Quiet
import Derived.Laws.StructEq
import Derived.ChangeKeysEq
import Derived.Laws.Externs
import Derived.Lib.Overlaps
import Derived.Carry
import Derived.Laws.Small
import Derived.Test.YtgdigngojonbhaaProg
import Derived.KernelRfl
import Derived.ProofKit
import Derived.OpenShut
import Derived.Test.YtgdigngojonbhaaRows
import Derived.Test.YtgdigngojonbhaaP4
namespace Go.Proofs.Ytgdigngojonbhaa
open Go Go.RowKit Go.ChangeShapes Go.WideShapes Go.ChangeAt Gx Go.Proofs
set_option linter.unusedVariables false

theorem len2 {cs : List Value} (h : cs.length = 2) : ∃ x0 x1, cs = [x0, x1] := by
  match cs, h with
  | [x0, x1], _ => exact ⟨x0, x1, rfl⟩
theorem len10 {cs : List Value} (h : cs.length = 10) : ∃ x0 x1 x2 x3 x4 x5 x6 x7 x8 x9, cs = [x0, x1, x2, x3, x4, x5, x6, x7, x8, x9] := by
  match cs, h with
  | [x0, x1, x2, x3, x4, x5, x6, x7, x8, x9], _ => exact ⟨x0, x1, x2, x3, x4, x5, x6, x7, x8, x9, rfl⟩
theorem cells3 : Try.prog.cellsOf 3 = 1 := by kernel_rfl
theorem cells4 : Try.prog.cellsOf 4 = 1 := by kernel_rfl
theorem cells24 : Try.prog.cellsOf 24 = 1 := by kernel_rfl
theorem cells26 : Try.prog.cellsOf 26 = 2 := by kernel_rfl
theorem cells42 : Try.prog.cellsOf 42 = 2 := by kernel_rfl
theorem cells46 : Try.prog.cellsOf 46 = 1 := by kernel_rfl
theorem cells48 : Try.prog.cellsOf 48 = 5 := by kernel_rfl
theorem cells49 : Try.prog.cellsOf 49 = 10 := by kernel_rfl
theorem cells62 : Try.prog.cellsOf 62 = 3 := by kernel_rfl
theorem cells77 : Try.prog.cellsOf 77 = 4 := by kernel_rfl
theorem own8 : ownKnob Try.prog.godebug = none := by kernel_rfl
theorem laid8 : laidOutB Try.prog = true := by kernel_rfl
theorem slice_inj {a a2 : Option Addr} {n n2 c c2 : Nat} (h : [Value.slice a n c] = [Value.slice a2 n2 c2]) : a = a2 ∧ n = n2 ∧ c = c2 := by cases h; exact ⟨rfl, rfl, rfl⟩
set_option maxRecDepth 100000 in
theorem lifted8 (os : Os) (started : os.Started) (H : Type) (enc : TypeId × Value → H) :
    ReturnsInHanded {} Try.checked os 8 .any (Rows.handlesSymmetricSpec.pre6 enc Try.prog Try.f8 Rows.handlesSymmetricRow.domain false) (Rows.handlesSymmetricSpec.post enc Try.prog Try.f8 false true false false) := by
  refine returnsInHanded_of_change (C := Try.checked) own8 started (by kernel_rfl) Try.func8
    (ChangeSpec.witness6 (enc := enc) (C := Try.checked) false ⟨#[], #[.agg #[.int .i64 0, .slice none 0 0], .agg #[.int .i64 0, .int .i64 0], .agg #[.int .i64 0, .int .i64 0, .int .i64 0, .bool false, .slice none 0 0, .int .i64 0, .int .i64 0, .int .i64 0, .bool false, .slice none 0 0]], []⟩ 8 (by kernel_rfl) (by kernel_rfl) (by kernel_rfl) (by kernel_rfl)) ?_
  intro W base args ds gs before hval0 hW hcnd _
  have hval : ∀ (j : Nat) t v, Try.f8.params[j]? = some t → args[j]? = some v → Value.okWide Try.prog W .any base t v := hval0
  have hW' := hW
  obtain ⟨p, q, hA0, hV, rfl, hfz, hnd⟩ := hW
  have hA : DataW.TrodAll enc Try.prog W 0 (fun _ => true) true Try.f8.params.toList args.toList ds p := hA0
  rw [Try.params8] at hA hval
  obtain ⟨v0, vs0, d0, ds0, p0, q0, hargs0, rfl, rfl, h0, r0⟩ := trodAll_cons hA
  obtain ⟨v1, vs1, d1, ds1, p1, q1, hargs1, rfl, rfl, h1, r1⟩ := trodAll_cons r0
  obtain ⟨v2, vs2, d2, ds2, p2, q2, hargs2, rfl, rfl, h2, r2⟩ := trodAll_cons r1
  obtain ⟨rfl, rfl, rfl⟩ := trodAll_nil r2
  obtain rfl : args = #[v0, v1, v2] := by cases args; simp_all
  obtain ⟨d2, o1⟩ := okT_trod h0
  obtain ⟨cs3, rfl, hc4⟩ := agg_of (hval 0 26 v0 rfl rfl) (by rw [Try.underlying26])
  rw [hc4] at o1
  obtain ⟨d6, len5, o7⟩ := okT_st o1 Try.underlying26
  rw [cells26] at len5
  obtain ⟨x8, x9, rfl⟩ := len2 len5
  simp only [List.mem_cons, List.mem_nil_iff, or_false, forall_eq_or_imp, forall_eq] at o7
  have h10 := o7.1
  rw [cells3] at h10
  change okT _ _ _ 3 [x8] at h10
  obtain ⟨n11, e12, g13⟩ := okT_int h10 Try.underlying3
  have wf14 := wf_i64 g13
  cases e12
  have h15 := o7.2
  rw [cells24] at h15
  change okT _ _ _ 24 [x9] at h15
  obtain ⟨d25, a16, n17, cap18, cell19, e20, hn21, hcap22, sl23, rows24⟩ := okT_sl h15 Try.underlying24 (by rw [cells77]; decide)
  rw [cells77] at sl23
  cases e20
  obtain ⟨d27, o26⟩ := okT_trod h1
  obtain ⟨cs28, rfl, hc29⟩ := agg_of (hval 1 42 v1 rfl rfl) (by rw [Try.underlying42])
  rw [hc29] at o26
  obtain ⟨d31, len30, o32⟩ := okT_st o26 Try.underlying42
  rw [cells42] at len30
  obtain ⟨x33, x34, rfl⟩ := len2 len30
  simp only [List.mem_cons, List.mem_nil_iff, or_false, forall_eq_or_imp, forall_eq] at o32
  have h35 := o32.1
  rw [cells3] at h35
  change okT _ _ _ 3 [x33] at h35
  obtain ⟨n36, e37, g38⟩ := okT_int h35 Try.underlying3
  have wf39 := wf_i64 g38
  cases e37
  have h40 := o32.2
  rw [cells3] at h40
  change okT _ _ _ 3 [x34] at h40
  obtain ⟨n41, e42, g43⟩ := okT_int h40 Try.underlying3
  have wf44 := wf_i64 g43
  cases e42
  obtain ⟨d46, o45⟩ := okT_trod h2
  obtain ⟨cs47, rfl, hc48⟩ := agg_of (hval 2 49 v2 rfl rfl) (by rw [Try.underlying49])
  rw [hc48] at o45
  obtain ⟨d50, len49, o51⟩ := okT_ar o45 Try.underlying49
  rw [cells49] at len49
  obtain ⟨x52, x53, x54, x55, x56, x57, x58, x59, x60, x61, rfl⟩ := len10 len49
  have h62 := o51 0 (by decide)
  rw [cells48] at h62
  change okT _ _ _ 48 [x52, x53, x54, x55, x56] at h62
  obtain ⟨d64, len63, o65⟩ := okT_st h62 Try.underlying48
  simp only [List.mem_cons, List.mem_nil_iff, or_false, forall_eq_or_imp, forall_eq] at o65
  have h66 := o65.1
  rw [cells3] at h66
  change okT _ _ _ 3 [x52] at h66
  obtain ⟨n67, e68, g69⟩ := okT_int h66 Try.underlying3
  have wf70 := wf_i64 g69
  cases e68
  have h71 := o65.2.1
  rw [cells3] at h71
  change okT _ _ _ 3 [x53] at h71
  obtain ⟨n72, e73, g74⟩ := okT_int h71 Try.underlying3
  have wf75 := wf_i64 g74
  cases e73
  have h76 := o65.2.2.1
  rw [cells3] at h76
  change okT _ _ _ 3 [x54] at h76
  obtain ⟨n77, e78, g79⟩ := okT_int h76 Try.underlying3
  have wf80 := wf_i64 g79
  cases e78
  have h81 := o65.2.2.2.1
  rw [cells4] at h81
  change okT _ _ _ 4 [x55] at h81
  obtain ⟨b82, e83⟩ := okT_bool h81 Try.underlying4
  cases e83
  have h84 := o65.2.2.2.2
  rw [cells46] at h84
  change okT _ _ _ 46 [x56] at h84
  obtain ⟨d94, a85, n86, cap87, cell88, e89, hn90, hcap91, sl92, rows93⟩ := okT_sl h84 Try.underlying46 (by rw [cells62]; decide)
  rw [cells62] at sl92
  cases e89
  have h95 := o51 1 (by decide)
  rw [cells48] at h95
  change okT _ _ _ 48 [x57, x58, x59, x60, x61] at h95
  obtain ⟨d97, len96, o98⟩ := okT_st h95 Try.underlying48
  simp only [List.mem_cons, List.mem_nil_iff, or_false, forall_eq_or_imp, forall_eq] at o98
  have h99 := o98.1
  rw [cells3] at h99
  change okT _ _ _ 3 [x57] at h99
  obtain ⟨n100, e101, g102⟩ := okT_int h99 Try.underlying3
  have wf103 := wf_i64 g102
  cases e101
  have h104 := o98.2.1
  rw [cells3] at h104
  change okT _ _ _ 3 [x58] at h104
  obtain ⟨n105, e106, g107⟩ := okT_int h104 Try.underlying3
  have wf108 := wf_i64 g107
  cases e106
  have h109 := o98.2.2.1
  rw [cells3] at h109
  change okT _ _ _ 3 [x59] at h109
  obtain ⟨n110, e111, g112⟩ := okT_int h109 Try.underlying3
  have wf113 := wf_i64 g112
  cases e111
  have h114 := o98.2.2.2.1
  rw [cells4] at h114
  change okT _ _ _ 4 [x60] at h114
  obtain ⟨b115, e116⟩ := okT_bool h114 Try.underlying4
  cases e116
  have h117 := o98.2.2.2.2
  rw [cells46] at h117
  change okT _ _ _ 46 [x61] at h117
  obtain ⟨d127, a118, n119, cap120, cell121, e122, hn123, hcap124, sl125, rows126⟩ := okT_sl h117 Try.underlying46 (by rw [cells62]; decide)
  rw [cells62] at sl125
  cases e122
  obtain ⟨L, hn_L, hF_L⟩ := files_of sl23 rows24
  subst hn_L
  obtain ⟨kx, hn_kx, hK_kx⟩ := kt_of sl92 rows93
  subst hn_kx
  obtain ⟨ky, hn_ky, hK_ky⟩ := kt_of sl125 rows126
  subst hn_ky
  have hcall := c8 W n11 a16 cap18 L n36 n41 ⟨n67, n72, n77, b82, a85, cap87, kx⟩ ⟨n100, n105, n110, b115, a118, cap120, ky⟩ hF_L
  refine (hcall).mono fun e W' ⟨he, hb⟩ => ?_
  subst he
  exact ⟨_, rfl, post_true laid8 (by kernel_rfl) rfl Try.underlying4 rfl rfl hW' hb⟩
set_option maxRecDepth 100000 in
theorem handlesSymmetric_holds : Rows.HandlesSymmetricSaid :=
  OpenClaim.holds_of_wide 8 Try.f8 rfl rfl rfl rfl rfl rfl rfl ⟨rfl, rfl, rfl, rfl, rfl⟩ rfl rfl rfl rfl rfl (by kernel_rfl) Try.func8 (by kernel_rfl)
    (of_decide_eq_true (by kernel_rfl)) (by unfold Func.isWrapper; first | (rw [if_pos (by decide +kernel)]; kernel_rfl) | (rw [if_neg (by decide +kernel)]; exact ⟨rfl, rfl⟩))
    (fun os started H enc _ => lifted8 os started H enc)
end Go.Proofs.Ytgdigngojonbhaa
