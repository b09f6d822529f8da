/- It is proved that HandlesStates answers true for every input and leaves its arguments as they read; there are no conditions. -/
import Derived.WalkKit
import Derived.Deep.Draws
import Derived.Lib.Strings
import Derived.Laws.BytesArg
import Derived.Laws.IdiomStrings
import Derived.Deep.Quiet
import Derived.Laws.StructEq
import Derived.ChangeKeysEq
import Derived.Laws.Externs
import Derived.Lib.Overlaps
import Derived.Carry
import Derived.Laws.Small
import Derived.Test.YtgdigngojonbhaaProg
import Derived.KernelRfl
import Derived.ProofKit
import Derived.OpenShut
import Derived.Test.YtgdigngojonbhaaRows
import Derived.Test.YtgdigngojonbhaaP4
namespace Go.Proofs.Ytgdigngojonbhaa
open Go Go.RowKit Go.ChangeShapes Go.WideShapes Go.ChangeAt Gx Go.Proofs
set_option linter.unusedVariables false

theorem len2 {cs : List Value} (h : cs.length = 2) : ∃ x0 x1, cs = [x0, x1] := by
  match cs, h with
  | [x0, x1], _ => exact ⟨x0, x1, rfl⟩
theorem cells3 : Try.prog.cellsOf 3 = 1 := by kernel_rfl
theorem cells24 : Try.prog.cellsOf 24 = 1 := by kernel_rfl
theorem cells26 : Try.prog.cellsOf 26 = 2 := by kernel_rfl
theorem cells42 : Try.prog.cellsOf 42 = 2 := by kernel_rfl
theorem cells77 : Try.prog.cellsOf 77 = 4 := by kernel_rfl
theorem own10 : ownKnob Try.prog.godebug = none := by kernel_rfl
theorem laid10 : laidOutB Try.prog = true := by kernel_rfl
theorem slice_inj {a a2 : Option Addr} {n n2 c c2 : Nat} (h : [Value.slice a n c] = [Value.slice a2 n2 c2]) : a = a2 ∧ n = n2 ∧ c = c2 := by cases h; exact ⟨rfl, rfl, rfl⟩
set_option maxRecDepth 100000 in
theorem lifted10 (os : Os) (started : os.Started) (H : Type) (enc : TypeId × Value → H) :
    ReturnsInHanded {} Try.checked os 10 .any (Rows.handlesStatesSpec.pre6 enc Try.prog Try.f10 Rows.handlesStatesRow.domain false) (Rows.handlesStatesSpec.post enc Try.prog Try.f10 false true false false) := by
  refine returnsInHanded_of_change (C := Try.checked) own10 started (by kernel_rfl) Try.func10
    (ChangeSpec.witness6 (enc := enc) (C := Try.checked) false ⟨#[], #[.agg #[.int .i64 0, .slice none 0 0], .agg #[.int .i64 0, .int .i64 0]], []⟩ 8 (by kernel_rfl) (by kernel_rfl) (by kernel_rfl) (by kernel_rfl)) ?_
  intro W base args ds gs before hval0 hW hcnd _
  have hval : ∀ (j : Nat) t v, Try.f10.params[j]? = some t → args[j]? = some v → Value.okWide Try.prog W .any base t v := hval0
  have hW' := hW
  obtain ⟨p, q, hA0, hV, rfl, hfz, hnd⟩ := hW
  have hA : DataW.TrodAll enc Try.prog W 0 (fun _ => true) true Try.f10.params.toList args.toList ds p := hA0
  rw [Try.params10] at hA hval
  obtain ⟨v0, vs0, d0, ds0, p0, q0, hargs0, rfl, rfl, h0, r0⟩ := trodAll_cons hA
  obtain ⟨v1, vs1, d1, ds1, p1, q1, hargs1, rfl, rfl, h1, r1⟩ := trodAll_cons r0
  obtain ⟨rfl, rfl, rfl⟩ := trodAll_nil r1
  obtain rfl : args = #[v0, v1] := by cases args; simp_all
  obtain ⟨d2, o1⟩ := okT_trod h0
  obtain ⟨cs3, rfl, hc4⟩ := agg_of (hval 0 26 v0 rfl rfl) (by rw [Try.underlying26])
  rw [hc4] at o1
  obtain ⟨d6, len5, o7⟩ := okT_st o1 Try.underlying26
  rw [cells26] at len5
  obtain ⟨x8, x9, rfl⟩ := len2 len5
  simp only [List.mem_cons, List.mem_nil_iff, or_false, forall_eq_or_imp, forall_eq] at o7
  have h10 := o7.1
  rw [cells3] at h10
  change okT _ _ _ 3 [x8] at h10
  obtain ⟨n11, e12, g13⟩ := okT_int h10 Try.underlying3
  have wf14 := wf_i64 g13
  cases e12
  have h15 := o7.2
  rw [cells24] at h15
  change okT _ _ _ 24 [x9] at h15
  obtain ⟨d25, a16, n17, cap18, cell19, e20, hn21, hcap22, sl23, rows24⟩ := okT_sl h15 Try.underlying24 (by rw [cells77]; decide)
  rw [cells77] at sl23
  cases e20
  obtain ⟨d27, o26⟩ := okT_trod h1
  obtain ⟨cs28, rfl, hc29⟩ := agg_of (hval 1 42 v1 rfl rfl) (by rw [Try.underlying42])
  rw [hc29] at o26
  obtain ⟨d31, len30, o32⟩ := okT_st o26 Try.underlying42
  rw [cells42] at len30
  obtain ⟨x33, x34, rfl⟩ := len2 len30
  simp only [List.mem_cons, List.mem_nil_iff, or_false, forall_eq_or_imp, forall_eq] at o32
  have h35 := o32.1
  rw [cells3] at h35
  change okT _ _ _ 3 [x33] at h35
  obtain ⟨n36, e37, g38⟩ := okT_int h35 Try.underlying3
  have wf39 := wf_i64 g38
  cases e37
  have h40 := o32.2
  rw [cells3] at h40
  change okT _ _ _ 3 [x34] at h40
  obtain ⟨n41, e42, g43⟩ := okT_int h40 Try.underlying3
  have wf44 := wf_i64 g43
  cases e42
  obtain ⟨L, hn_L, hF_L⟩ := files_of sl23 rows24
  subst hn_L
  have hcall := c10 W n11 a16 cap18 L n36 n41 hF_L
  refine (hcall).mono fun e W' ⟨he, hb⟩ => ?_
  subst he
  exact ⟨_, rfl, post_true laid10 (by kernel_rfl) rfl Try.underlying4 rfl rfl hW' hb⟩
set_option maxRecDepth 100000 in
theorem handlesStates_holds : Rows.HandlesStatesSaid :=
  OpenClaim.holds_of_wide 10 Try.f10 rfl rfl rfl rfl rfl rfl rfl ⟨rfl, rfl, rfl, rfl, rfl⟩ rfl rfl rfl rfl rfl (by kernel_rfl) Try.func10 (by kernel_rfl)
    (of_decide_eq_true (by kernel_rfl)) (by unfold Func.isWrapper; first | (rw [if_pos (by decide +kernel)]; kernel_rfl) | (rw [if_neg (by decide +kernel)]; exact ⟨rfl, rfl⟩))
    (fun os started H enc _ => lifted10 os started H enc)
end Go.Proofs.Ytgdigngojonbhaa
