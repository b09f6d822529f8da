/- It is proved that TreeSorts answers true for every input and leaves its arguments as they read; there are no conditions. -/
import Derived.WalkKit
import Derived.Deep.Draws
import Derived.TacticsIn
import Derived.OrdersIn
import Derived.RangeFuncLeaves
import Derived.Lib.Strings
import Derived.Laws.BytesArg
import Derived.Laws.IdiomStrings
import Derived.Deep.Quiet
import Derived.ProofKit
import Derived.OpenShut
import Derived.Laws.StructEq
import Derived.ChangeKeysEq
import Derived.Laws.Externs
import Derived.Lib.Overlaps
import Derived.Carry
import Derived.Laws.Small
import Derived.Lib.Bytealg
import Derived.Test.YtfappgmkbnddiaaGreatProg
import Derived.KernelRfl
import Derived.Lib.Builder
import Derived.Laws.Pointers
import Derived.RangeFuncRecord
import Derived.Test.YtfappgmkbnddiaaGreatRows
import Derived.Test.YtfappgmkbnddiaaGreatP5
namespace Go.Proofs.YtfappgmkbnddiaaGreat
open Go Go.RowKit Go.ChangeShapes Go.WideShapes Go.ChangeAt Gx Go.Proofs
set_option linter.unusedVariables false

theorem len2 {cs : List Value} (h : cs.length = 2) : ∃ x0 x1, cs = [x0, x1] := by
  match cs, h with
  | [x0, x1], _ => exact ⟨x0, x1, rfl⟩
theorem cells3 : Tryz.prog.cellsOf 3 = 1 := by kernel_rfl
theorem cells49 : Tryz.prog.cellsOf 49 = 2 := by kernel_rfl
theorem cells85 : Tryz.prog.cellsOf 85 = 3 := by kernel_rfl
theorem own12 : ownKnob Tryz.prog.godebug = none := by kernel_rfl
theorem laid12 : laidOutB Tryz.prog = true := by kernel_rfl
theorem slice_inj {a a2 : Option Addr} {n n2 c c2 : Nat} (h : [Value.slice a n c] = [Value.slice a2 n2 c2]) : a = a2 ∧ n = n2 ∧ c = c2 := by cases h; exact ⟨rfl, rfl, rfl⟩
set_option maxRecDepth 100000 in
theorem lifted12 (os : Os) (started : os.Started) (H : Type) (enc : TypeId × Value → H) :
    ReturnsInHanded {} Tryz.checked os 12 .any (Rows.treeSortsSpec.pre6 enc Tryz.prog Tryz.f12 Rows.treeSortsRow.domain false) (Rows.treeSortsSpec.post enc Tryz.prog Tryz.f12 false true false false) := by
  refine returnsInHanded_of_change (C := Tryz.checked) own12 started (by kernel_rfl) Tryz.func12
    (ChangeSpec.witness6 (enc := enc) (C := Tryz.checked) false ⟨#[], #[.int .i64 0, .agg #[.int .i64 0, .int .i64 0], .slice none 0 0], []⟩ 8 (by kernel_rfl) (by kernel_rfl) (by kernel_rfl) (by kernel_rfl)) ?_
  intro W base args ds gs before hval0 hW hcnd _
  have hval : ∀ (j : Nat) t v, Tryz.f12.params[j]? = some t → args[j]? = some v → Value.okWide Tryz.prog W .any base t v := hval0
  have hW' := hW
  obtain ⟨p, q, hA0, hV, rfl, hfz, hnd⟩ := hW
  have hA : DataW.TrodAll enc Tryz.prog W 0 (fun _ => true) true Tryz.f12.params.toList args.toList ds p := hA0
  rw [Tryz.params12] at hA hval
  obtain ⟨v0, vs0, d0, ds0, p0, q0, hargs0, rfl, rfl, h0, r0⟩ := trodAll_cons hA
  obtain ⟨v1, vs1, d1, ds1, p1, q1, hargs1, rfl, rfl, h1, r1⟩ := trodAll_cons r0
  obtain ⟨v2, vs2, d2, ds2, p2, q2, hargs2, rfl, rfl, h2, r2⟩ := trodAll_cons r1
  obtain ⟨rfl, rfl, rfl⟩ := trodAll_nil r2
  obtain rfl : args = #[v0, v1, v2] := by cases args; simp_all
  obtain ⟨d2, o1⟩ := okT_trod h0
  obtain ⟨x3, rfl⟩ := okWide_int Tryz.underlying3 (hval 0 3 v0 rfl rfl)
  obtain ⟨n4, e5, g6⟩ := okT_int o1 Tryz.underlying3
  have wf7 := wf_i64 g6
  cases e5
  obtain ⟨d9, o8⟩ := okT_trod h1
  obtain ⟨cs10, rfl, hc11⟩ := agg_of (hval 1 49 v1 rfl rfl) (by rw [Tryz.underlying49])
  rw [hc11] at o8
  obtain ⟨d13, len12, o14⟩ := okT_ar o8 Tryz.underlying49
  rw [cells49] at len12
  obtain ⟨x15, x16, rfl⟩ := len2 len12
  have h17 := o14 0 (by decide)
  rw [cells3] at h17
  change okT _ _ _ 3 [x15] at h17
  obtain ⟨n18, e19, g20⟩ := okT_int h17 Tryz.underlying3
  have wf21 := wf_i64 g20
  cases e19
  have h22 := o14 1 (by decide)
  rw [cells3] at h22
  change okT _ _ _ 3 [x16] at h22
  obtain ⟨n23, e24, g25⟩ := okT_int h22 Tryz.underlying3
  have wf26 := wf_i64 g25
  cases e24
  obtain ⟨d28, o27⟩ := okT_trod h2
  obtain ⟨x29, x30, x31, rfl⟩ := okWide_slice Tryz.underlying82 (hval 2 82 v2 rfl rfl)
  obtain ⟨d41, a32, n33, cap34, cell35, e36, hn37, hcap38, sl39, rows40⟩ := okT_sl o27 Tryz.underlying82 (by rw [cells85]; decide)
  rw [cells85] at sl39
  obtain ⟨q42, q43, q44⟩ := slice_inj e36
  subst x29 x30 x31
  obtain ⟨l, hn_l, hR_l⟩ := acts_of sl39 rows40
  subst hn_l
  have hcall := c12 W x3 n18 n23 a32 cap34 l hR_l
  refine (hcall).mono fun e W' ⟨he, hb⟩ => ?_
  subst he
  exact ⟨_, rfl, post_true laid12 (by kernel_rfl) rfl Tryz.underlying4 rfl rfl hW' hb⟩
set_option maxRecDepth 100000 in
theorem treeSorts_holds : Rows.TreeSortsSaid :=
  OpenClaim.holds_of_wide 12 Tryz.f12 rfl rfl rfl rfl rfl rfl rfl ⟨rfl, rfl, rfl, rfl, rfl⟩ rfl rfl rfl rfl rfl (by kernel_rfl) Tryz.func12 (by kernel_rfl)
    (of_decide_eq_true (by kernel_rfl)) (by unfold Func.isWrapper; first | (rw [if_pos (by decide +kernel)]; kernel_rfl) | (rw [if_neg (by decide +kernel)]; exact ⟨rfl, rfl⟩))
    (fun os started H enc _ => lifted12 os started H enc)
end Go.Proofs.YtfappgmkbnddiaaGreat
