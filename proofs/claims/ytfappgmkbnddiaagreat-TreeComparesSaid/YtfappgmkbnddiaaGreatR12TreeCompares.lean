/- It is proved that TreeCompares answers true for every input and leaves its arguments as they read; there are no conditions. -/
import Derived.WalkKit
import Derived.Deep.Draws
import Derived.TacticsIn
import Derived.OrdersIn
import Derived.RangeFuncLeaves
import Derived.Lib.Strings
import Derived.Laws.BytesArg
import Derived.Laws.IdiomStrings
import Derived.Deep.Quiet
import Derived.ProofKit
import Derived.OpenShut
import Derived.Laws.StructEq
import Derived.ChangeKeysEq
import Derived.Laws.Externs
import Derived.Lib.Overlaps
import Derived.Carry
import Derived.Laws.Small
import Derived.Lib.Bytealg
import Derived.Test.YtfappgmkbnddiaaGreatProg
import Derived.KernelRfl
import Derived.Lib.Builder
import Derived.Laws.Pointers
import Derived.RangeFuncRecord
import Derived.Test.YtfappgmkbnddiaaGreatRows
import Derived.Test.YtfappgmkbnddiaaGreatP5
namespace Go.Proofs.YtfappgmkbnddiaaGreat
open Go Go.RowKit Go.ChangeShapes Go.WideShapes Go.ChangeAt Gx Go.Proofs
set_option linter.unusedVariables false

theorem len2 {cs : List Value} (h : cs.length = 2) : ∃ x0 x1, cs = [x0, x1] := by
  match cs, h with
  | [x0, x1], _ => exact ⟨x0, x1, rfl⟩
theorem cells3 : Tryz.prog.cellsOf 3 = 1 := by kernel_rfl
theorem cells9 : Tryz.prog.cellsOf 9 = 1 := by kernel_rfl
theorem cells48 : Tryz.prog.cellsOf 48 = 2 := by kernel_rfl
theorem cells49 : Tryz.prog.cellsOf 49 = 2 := by kernel_rfl
theorem own5 : ownKnob Tryz.prog.godebug = none := by kernel_rfl
theorem laid5 : laidOutB Tryz.prog = true := by kernel_rfl
theorem slice_inj {a a2 : Option Addr} {n n2 c c2 : Nat} (h : [Value.slice a n c] = [Value.slice a2 n2 c2]) : a = a2 ∧ n = n2 ∧ c = c2 := by cases h; exact ⟨rfl, rfl, rfl⟩
set_option maxRecDepth 100000 in
theorem lifted5 (os : Os) (started : os.Started) (H : Type) (enc : TypeId × Value → H) :
    ReturnsInHanded {} Tryz.checked os 5 .any (Rows.treeComparesSpec.pre6 enc Tryz.prog Tryz.f5 Rows.treeComparesRow.domain false) (Rows.treeComparesSpec.post enc Tryz.prog Tryz.f5 false true false false) := by
  refine returnsInHanded_of_change (C := Tryz.checked) own5 started (by kernel_rfl) Tryz.func5
    (ChangeSpec.witness6 (enc := enc) (C := Tryz.checked) false ⟨#[], #[.int .i64 0, .agg #[.string (bs []), .string (bs [])], .agg #[.int .i64 0, .int .i64 0]], []⟩ 8 (by kernel_rfl) (by kernel_rfl) (by kernel_rfl) (by kernel_rfl)) ?_
  intro W base args ds gs before hval0 hW hcnd _
  have hval : ∀ (j : Nat) t v, Tryz.f5.params[j]? = some t → args[j]? = some v → Value.okWide Tryz.prog W .any base t v := hval0
  have hW' := hW
  obtain ⟨p, q, hA0, hV, rfl, hfz, hnd⟩ := hW
  have hA : DataW.TrodAll enc Tryz.prog W 0 (fun _ => true) true Tryz.f5.params.toList args.toList ds p := hA0
  rw [Tryz.params5] at hA hval
  obtain ⟨v0, vs0, d0, ds0, p0, q0, hargs0, rfl, rfl, h0, r0⟩ := trodAll_cons hA
  obtain ⟨v1, vs1, d1, ds1, p1, q1, hargs1, rfl, rfl, h1, r1⟩ := trodAll_cons r0
  obtain ⟨v2, vs2, d2, ds2, p2, q2, hargs2, rfl, rfl, h2, r2⟩ := trodAll_cons r1
  obtain ⟨rfl, rfl, rfl⟩ := trodAll_nil r2
  obtain rfl : args = #[v0, v1, v2] := by cases args; simp_all
  obtain ⟨d2, o1⟩ := okT_trod h0
  obtain ⟨x3, rfl⟩ := okWide_int Tryz.underlying3 (hval 0 3 v0 rfl rfl)
  obtain ⟨n4, e5, g6⟩ := okT_int o1 Tryz.underlying3
  have wf7 := wf_i64 g6
  cases e5
  obtain ⟨d9, o8⟩ := okT_trod h1
  obtain ⟨cs10, rfl, hc11⟩ := agg_of (hval 1 48 v1 rfl rfl) (by rw [Tryz.underlying48])
  rw [hc11] at o8
  obtain ⟨d13, len12, o14⟩ := okT_ar o8 Tryz.underlying48
  rw [cells48] at len12
  obtain ⟨x15, x16, rfl⟩ := len2 len12
  have h17 := o14 0 (by decide)
  rw [cells9] at h17
  change okT _ _ _ 9 [x15] at h17
  obtain ⟨l18, e19, g20⟩ := okT_str h17 Tryz.underlying9
  cases e19
  have h21 := o14 1 (by decide)
  rw [cells9] at h21
  change okT _ _ _ 9 [x16] at h21
  obtain ⟨l22, e23, g24⟩ := okT_str h21 Tryz.underlying9
  cases e23
  obtain ⟨d26, o25⟩ := okT_trod h2
  obtain ⟨cs27, rfl, hc28⟩ := agg_of (hval 2 49 v2 rfl rfl) (by rw [Tryz.underlying49])
  rw [hc28] at o25
  obtain ⟨d30, len29, o31⟩ := okT_ar o25 Tryz.underlying49
  rw [cells49] at len29
  obtain ⟨x32, x33, rfl⟩ := len2 len29
  have h34 := o31 0 (by decide)
  rw [cells3] at h34
  change okT _ _ _ 3 [x32] at h34
  obtain ⟨n35, e36, g37⟩ := okT_int h34 Tryz.underlying3
  have wf38 := wf_i64 g37
  cases e36
  have h39 := o31 1 (by decide)
  rw [cells3] at h39
  change okT _ _ _ 3 [x33] at h39
  obtain ⟨n40, e41, g42⟩ := okT_int h39 Tryz.underlying3
  have wf43 := wf_i64 g42
  cases e41
  have hcall := c5 W x3 n35 n40 l18 l22
  refine (hcall).mono fun e W' ⟨he, hb⟩ => ?_
  subst he
  exact ⟨_, rfl, post_true laid5 (by kernel_rfl) rfl Tryz.underlying4 rfl rfl hW' hb⟩
set_option maxRecDepth 100000 in
theorem treeCompares_holds : Rows.TreeComparesSaid :=
  OpenClaim.holds_of_wide 5 Tryz.f5 rfl rfl rfl rfl rfl rfl rfl ⟨rfl, rfl, rfl, rfl, rfl⟩ rfl rfl rfl rfl rfl (by kernel_rfl) Tryz.func5 (by kernel_rfl)
    (of_decide_eq_true (by kernel_rfl)) (by unfold Func.isWrapper; first | (rw [if_pos (by decide +kernel)]; kernel_rfl) | (rw [if_neg (by decide +kernel)]; exact ⟨rfl, rfl⟩))
    (fun os started H enc _ => lifted5 os started H enc)
end Go.Proofs.YtfappgmkbnddiaaGreat
