/- It is proved that HandlesOpens answers true for every input and leaves its arguments as they read; there are no conditions. -/
import Derived.WalkKit
import Derived.Deep.Draws
import Derived.Lib.Strings
import Derived.Laws.BytesArg
import Derived.Laws.IdiomStrings
import Derived.Deep.Quiet
import Derived.Laws.StructEq
import Derived.ChangeKeysEq
import Derived.Laws.Externs
import Derived.Lib.Overlaps
import Derived.Carry
import Derived.Laws.Small
import Derived.Test.YtgdigngojonbhaaProg
import Derived.KernelRfl
import Derived.ProofKit
import Derived.OpenShut
import Derived.Test.YtgdigngojonbhaaRows
import Derived.Test.YtgdigngojonbhaaP4
namespace Go.Proofs.Ytgdigngojonbhaa
open Go Go.RowKit Go.ChangeShapes Go.WideShapes Go.ChangeAt Gx Go.Proofs
set_option linter.unusedVariables false

theorem len2 {cs : List Value} (h : cs.length = 2) : ∃ x0 x1, cs = [x0, x1] := by
  match cs, h with
  | [x0, x1], _ => exact ⟨x0, x1, rfl⟩
theorem len12 {cs : List Value} (h : cs.length = 12) : ∃ x0 x1 x2 x3 x4 x5 x6 x7 x8 x9 x10 x11, cs = [x0, x1, x2, x3, x4, x5, x6, x7, x8, x9, x10, x11] := by
  match cs, h with
  | [x0, x1, x2, x3, x4, x5, x6, x7, x8, x9, x10, x11], _ => exact ⟨x0, x1, x2, x3, x4, x5, x6, x7, x8, x9, x10, x11, rfl⟩
theorem cells3 : Try.prog.cellsOf 3 = 1 := by kernel_rfl
theorem cells4 : Try.prog.cellsOf 4 = 1 := by kernel_rfl
theorem cells24 : Try.prog.cellsOf 24 = 1 := by kernel_rfl
theorem cells26 : Try.prog.cellsOf 26 = 2 := by kernel_rfl
theorem cells42 : Try.prog.cellsOf 42 = 2 := by kernel_rfl
theorem cells46 : Try.prog.cellsOf 46 = 1 := by kernel_rfl
theorem cells48 : Try.prog.cellsOf 48 = 5 := by kernel_rfl
theorem cells62 : Try.prog.cellsOf 62 = 3 := by kernel_rfl
theorem cells64 : Try.prog.cellsOf 64 = 12 := by kernel_rfl
theorem cells77 : Try.prog.cellsOf 77 = 4 := by kernel_rfl
theorem own9 : ownKnob Try.prog.godebug = none := by kernel_rfl
theorem laid9 : laidOutB Try.prog = true := by kernel_rfl
theorem slice_inj {a a2 : Option Addr} {n n2 c c2 : Nat} (h : [Value.slice a n c] = [Value.slice a2 n2 c2]) : a = a2 ∧ n = n2 ∧ c = c2 := by cases h; exact ⟨rfl, rfl, rfl⟩
set_option maxRecDepth 100000 in
theorem lifted9 (os : Os) (started : os.Started) (H : Type) (enc : TypeId × Value → H) :
    ReturnsInHanded {} Try.checked os 9 .any (Rows.handlesOpensSpec.pre6 enc Try.prog Try.f9 Rows.handlesOpensRow.domain false) (Rows.handlesOpensSpec.post enc Try.prog Try.f9 false true false false) := by
  refine returnsInHanded_of_change (C := Try.checked) own9 started (by kernel_rfl) Try.func9
    (ChangeSpec.witness6 (enc := enc) (C := Try.checked) false ⟨#[], #[.agg #[.int .i64 0, .slice none 0 0], .agg #[.int .i64 0, .int .i64 0, .int .i64 0, .int .i64 0, .int .i64 0, .bool false, .slice none 0 0, .int .i64 0, .int .i64 0, .bool false, .int .i64 0, .bool false]], []⟩ 8 (by kernel_rfl) (by kernel_rfl) (by kernel_rfl) (by kernel_rfl)) ?_
  intro W base args ds gs before hval0 hW hcnd _
  have hval : ∀ (j : Nat) t v, Try.f9.params[j]? = some t → args[j]? = some v → Value.okWide Try.prog W .any base t v := hval0
  have hW' := hW
  obtain ⟨p, q, hA0, hV, rfl, hfz, hnd⟩ := hW
  have hA : DataW.TrodAll enc Try.prog W 0 (fun _ => true) true Try.f9.params.toList args.toList ds p := hA0
  rw [Try.params9] at hA hval
  obtain ⟨v0, vs0, d0, ds0, p0, q0, hargs0, rfl, rfl, h0, r0⟩ := trodAll_cons hA
  obtain ⟨v1, vs1, d1, ds1, p1, q1, hargs1, rfl, rfl, h1, r1⟩ := trodAll_cons r0
  obtain ⟨rfl, rfl, rfl⟩ := trodAll_nil r1
  obtain rfl : args = #[v0, v1] := by cases args; simp_all
  obtain ⟨d2, o1⟩ := okT_trod h0
  obtain ⟨cs3, rfl, hc4⟩ := agg_of (hval 0 26 v0 rfl rfl) (by rw [Try.underlying26])
  rw [hc4] at o1
  obtain ⟨d6, len5, o7⟩ := okT_st o1 Try.underlying26
  rw [cells26] at len5
  obtain ⟨x8, x9, rfl⟩ := len2 len5
  simp only [List.mem_cons, List.mem_nil_iff, or_false, forall_eq_or_imp, forall_eq] at o7
  have h10 := o7.1
  rw [cells3] at h10
  change okT _ _ _ 3 [x8] at h10
  obtain ⟨n11, e12, g13⟩ := okT_int h10 Try.underlying3
  have wf14 := wf_i64 g13
  cases e12
  have h15 := o7.2
  rw [cells24] at h15
  change okT _ _ _ 24 [x9] at h15
  obtain ⟨d25, a16, n17, cap18, cell19, e20, hn21, hcap22, sl23, rows24⟩ := okT_sl h15 Try.underlying24 (by rw [cells77]; decide)
  rw [cells77] at sl23
  cases e20
  obtain ⟨d27, o26⟩ := okT_trod h1
  obtain ⟨cs28, rfl, hc29⟩ := agg_of (hval 1 64 v1 rfl rfl) (by rw [Try.underlying64])
  rw [hc29] at o26
  obtain ⟨d31, len30, o32⟩ := okT_st o26 Try.underlying64
  rw [cells64] at len30
  obtain ⟨x33, x34, x35, x36, x37, x38, x39, x40, x41, x42, x43, x44, rfl⟩ := len12 len30
  simp only [List.mem_cons, List.mem_nil_iff, or_false, forall_eq_or_imp, forall_eq] at o32
  have h45 := o32.1
  rw [cells42] at h45
  change okT _ _ _ 42 [x33, x34] at h45
  obtain ⟨d47, len46, o48⟩ := okT_st h45 Try.underlying42
  simp only [List.mem_cons, List.mem_nil_iff, or_false, forall_eq_or_imp, forall_eq] at o48
  have h49 := o48.1
  rw [cells3] at h49
  change okT _ _ _ 3 [x33] at h49
  obtain ⟨n50, e51, g52⟩ := okT_int h49 Try.underlying3
  have wf53 := wf_i64 g52
  cases e51
  have h54 := o48.2
  rw [cells3] at h54
  change okT _ _ _ 3 [x34] at h54
  obtain ⟨n55, e56, g57⟩ := okT_int h54 Try.underlying3
  have wf58 := wf_i64 g57
  cases e56
  have h59 := o32.2.1
  rw [cells48] at h59
  change okT _ _ _ 48 [x35, x36, x37, x38, x39] at h59
  obtain ⟨d61, len60, o62⟩ := okT_st h59 Try.underlying48
  simp only [List.mem_cons, List.mem_nil_iff, or_false, forall_eq_or_imp, forall_eq] at o62
  have h63 := o62.1
  rw [cells3] at h63
  change okT _ _ _ 3 [x35] at h63
  obtain ⟨n64, e65, g66⟩ := okT_int h63 Try.underlying3
  have wf67 := wf_i64 g66
  cases e65
  have h68 := o62.2.1
  rw [cells3] at h68
  change okT _ _ _ 3 [x36] at h68
  obtain ⟨n69, e70, g71⟩ := okT_int h68 Try.underlying3
  have wf72 := wf_i64 g71
  cases e70
  have h73 := o62.2.2.1
  rw [cells3] at h73
  change okT _ _ _ 3 [x37] at h73
  obtain ⟨n74, e75, g76⟩ := okT_int h73 Try.underlying3
  have wf77 := wf_i64 g76
  cases e75
  have h78 := o62.2.2.2.1
  rw [cells4] at h78
  change okT _ _ _ 4 [x38] at h78
  obtain ⟨b79, e80⟩ := okT_bool h78 Try.underlying4
  cases e80
  have h81 := o62.2.2.2.2
  rw [cells46] at h81
  change okT _ _ _ 46 [x39] at h81
  obtain ⟨d91, a82, n83, cap84, cell85, e86, hn87, hcap88, sl89, rows90⟩ := okT_sl h81 Try.underlying46 (by rw [cells62]; decide)
  rw [cells62] at sl89
  cases e86
  have h92 := o32.2.2.1
  rw [cells62] at h92
  change okT _ _ _ 62 [x40, x41, x42] at h92
  obtain ⟨d94, len93, o95⟩ := okT_st h92 Try.underlying62
  simp only [List.mem_cons, List.mem_nil_iff, or_false, forall_eq_or_imp, forall_eq] at o95
  have h96 := o95.1
  rw [cells3] at h96
  change okT _ _ _ 3 [x40] at h96
  obtain ⟨n97, e98, g99⟩ := okT_int h96 Try.underlying3
  have wf100 := wf_i64 g99
  cases e98
  have h101 := o95.2.1
  rw [cells3] at h101
  change okT _ _ _ 3 [x41] at h101
  obtain ⟨n102, e103, g104⟩ := okT_int h101 Try.underlying3
  have wf105 := wf_i64 g104
  cases e103
  have h106 := o95.2.2
  rw [cells4] at h106
  change okT _ _ _ 4 [x42] at h106
  obtain ⟨b107, e108⟩ := okT_bool h106 Try.underlying4
  cases e108
  have h109 := o32.2.2.2.1
  rw [cells3] at h109
  change okT _ _ _ 3 [x43] at h109
  obtain ⟨n110, e111, g112⟩ := okT_int h109 Try.underlying3
  have wf113 := wf_i64 g112
  cases e111
  have h114 := o32.2.2.2.2
  rw [cells4] at h114
  change okT _ _ _ 4 [x44] at h114
  obtain ⟨b115, e116⟩ := okT_bool h114 Try.underlying4
  cases e116
  obtain ⟨L, hn_L, hF_L⟩ := files_of sl23 rows24
  subst hn_L
  obtain ⟨kx, hn_kx, hK_kx⟩ := kt_of sl89 rows90
  subst hn_kx
  have hcall := c9 W n11 a16 cap18 L n50 n55 ⟨n64, n69, n74, b79, a82, cap84, kx⟩ ⟨n97, n102, b107⟩ n110 b115 hF_L
  refine (hcall).mono fun e W' ⟨he, hb⟩ => ?_
  subst he
  exact ⟨_, rfl, post_true laid9 (by kernel_rfl) rfl Try.underlying4 rfl rfl hW' hb⟩
set_option maxRecDepth 100000 in
theorem handlesOpens_holds : Rows.HandlesOpensSaid :=
  OpenClaim.holds_of_wide 9 Try.f9 rfl rfl rfl rfl rfl rfl rfl ⟨rfl, rfl, rfl, rfl, rfl⟩ rfl rfl rfl rfl rfl (by kernel_rfl) Try.func9 (by kernel_rfl)
    (of_decide_eq_true (by kernel_rfl)) (by unfold Func.isWrapper; first | (rw [if_pos (by decide +kernel)]; kernel_rfl) | (rw [if_neg (by decide +kernel)]; exact ⟨rfl, rfl⟩))
    (fun os started H enc _ => lifted9 os started H enc)
end Go.Proofs.Ytgdigngojonbhaa
