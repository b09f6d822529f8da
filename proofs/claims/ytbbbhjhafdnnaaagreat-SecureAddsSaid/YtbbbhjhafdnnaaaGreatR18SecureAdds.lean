/- It is proved that SecureAdds answers true for every input and leaves its arguments as they read; there are no conditions. -/
import Derived.WalkKit
import Derived.Deep.Draws
import Derived.TacticsIn
import Derived.OrdersIn
import Derived.RangeFuncLeaves
import Derived.Lib.Strings
import Derived.Laws.BytesArg
import Derived.Laws.IdiomStrings
import Derived.Deep.Quiet
import Derived.Laws.StructEq
import Derived.ChangeKeysEq
import Derived.Laws.Externs
import Derived.Lib.Overlaps
import Derived.Carry
import Derived.Laws.Small
import Derived.Lib.Bytealg
import Derived.Test.YtbbbhjhafdnnaaaGreatProg
import Derived.KernelRfl
import Derived.RangeFuncRecord
import Derived.ProofKit
import Derived.OpenShut
import Derived.Lib.Builder
import Derived.Lib.UnsafeStr
import Derived.Laws.Pointers
import Derived.LaidEqlPtr
import Derived.Shelf.Strings.Builder1
import Derived.Shelf.Strings.Builder2
import Derived.Shelf.Strings.BuilderF
import Derived.Shelf.Strings.Prefix
import Derived.Shelf.Bits.Mul64
import Derived.Shelf.Strings.Repeat
import Derived.Test.YtbbbhjhafdnnaaaGreatRows
import Derived.Test.YtbbbhjhafdnnaaaGreatP3
namespace Go.Proofs.YtbbbhjhafdnnaaaGreat
open Go Go.RowKit Go.ChangeShapes Go.WideShapes Go.ChangeAt Gx Go.Proofs
set_option linter.unusedVariables false

theorem len2 {cs : List Value} (h : cs.length = 2) : ∃ x0 x1, cs = [x0, x1] := by
  match cs, h with
  | [x0, x1], _ => exact ⟨x0, x1, rfl⟩
theorem len6 {cs : List Value} (h : cs.length = 6) : ∃ x0 x1 x2 x3 x4 x5, cs = [x0, x1, x2, x3, x4, x5] := by
  match cs, h with
  | [x0, x1, x2, x3, x4, x5], _ => exact ⟨x0, x1, x2, x3, x4, x5, rfl⟩
theorem cells3 : Tryz.prog.cellsOf 3 = 1 := by kernel_rfl
theorem cells4 : Tryz.prog.cellsOf 4 = 1 := by kernel_rfl
theorem cells22 : Tryz.prog.cellsOf 22 = 1 := by kernel_rfl
theorem cells24 : Tryz.prog.cellsOf 24 = 2 := by kernel_rfl
theorem cells40 : Tryz.prog.cellsOf 40 = 1 := by kernel_rfl
theorem cells42 : Tryz.prog.cellsOf 42 = 6 := by kernel_rfl
theorem cells77 : Tryz.prog.cellsOf 77 = 2 := by kernel_rfl
theorem cells98 : Tryz.prog.cellsOf 98 = 4 := by kernel_rfl
theorem own5 : ownKnob Tryz.prog.godebug = none := by kernel_rfl
theorem laid5 : laidOutB Tryz.prog = true := by kernel_rfl
theorem slice_inj {a a2 : Option Addr} {n n2 c c2 : Nat} (h : [Value.slice a n c] = [Value.slice a2 n2 c2]) : a = a2 ∧ n = n2 ∧ c = c2 := by cases h; exact ⟨rfl, rfl, rfl⟩
set_option maxRecDepth 100000 in
theorem lifted5 (os : Os) (started : os.Started) (H : Type) (enc : TypeId × Value → H) :
    ReturnsInHanded {} Tryz.checked os 5 .any (Rows.secureAddsSpec.pre6 enc Tryz.prog Tryz.f5 Rows.secureAddsRow.domain false) (Rows.secureAddsSpec.post enc Tryz.prog Tryz.f5 false true false false) := by
  refine returnsInHanded_of_change (C := Tryz.checked) own5 started (by kernel_rfl) Tryz.func5
    (ChangeSpec.witness6 (enc := enc) (C := Tryz.checked) false ⟨#[], #[.agg #[.int .i64 0, .slice none 0 0], .agg #[.int .i64 0, .int .i64 0, .bool false, .bool false, .slice none 0 0, .slice none 0 0], .int .i64 0], []⟩ 8 (by kernel_rfl) (by kernel_rfl) (by kernel_rfl) (by kernel_rfl)) ?_
  intro W base args ds gs before hval0 hW hcnd _
  have hval : ∀ (j : Nat) t v, Tryz.f5.params[j]? = some t → args[j]? = some v → Value.okWide Tryz.prog W .any base t v := hval0
  have hW' := hW
  obtain ⟨p, q, hA0, hV, rfl, hfz, hnd⟩ := hW
  have hA : DataW.TrodAll enc Tryz.prog W 0 (fun _ => true) true Tryz.f5.params.toList args.toList ds p := hA0
  rw [Tryz.params5] at hA hval
  obtain ⟨v0, vs0, d0, ds0, p0, q0, hargs0, rfl, rfl, h0, r0⟩ := trodAll_cons hA
  obtain ⟨v1, vs1, d1, ds1, p1, q1, hargs1, rfl, rfl, h1, r1⟩ := trodAll_cons r0
  obtain ⟨v2, vs2, d2, ds2, p2, q2, hargs2, rfl, rfl, h2, r2⟩ := trodAll_cons r1
  obtain ⟨rfl, rfl, rfl⟩ := trodAll_nil r2
  obtain rfl : args = #[v0, v1, v2] := by cases args; simp_all
  obtain ⟨d2, o1⟩ := okT_trod h0
  obtain ⟨cs3, rfl, hc4⟩ := agg_of (hval 0 24 v0 rfl rfl) (by rw [Tryz.underlying24])
  rw [hc4] at o1
  obtain ⟨d6, len5, o7⟩ := okT_st o1 Tryz.underlying24
  rw [cells24] at len5
  obtain ⟨x8, x9, rfl⟩ := len2 len5
  simp only [List.mem_cons, List.mem_nil_iff, or_false, forall_eq_or_imp, forall_eq] at o7
  have h10 := o7.1
  rw [cells3] at h10
  change okT _ _ _ 3 [x8] at h10
  obtain ⟨n11, e12, g13⟩ := okT_int h10 Tryz.underlying3
  have wf14 := wf_i64 g13
  cases e12
  have h15 := o7.2
  rw [cells22] at h15
  change okT _ _ _ 22 [x9] at h15
  obtain ⟨d25, a16, n17, cap18, cell19, e20, hn21, hcap22, sl23, rows24⟩ := okT_sl h15 Tryz.underlying22 (by rw [cells77]; decide)
  rw [cells77] at sl23
  cases e20
  obtain ⟨d27, o26⟩ := okT_trod h1
  obtain ⟨cs28, rfl, hc29⟩ := agg_of (hval 1 42 v1 rfl rfl) (by rw [Tryz.underlying42])
  rw [hc29] at o26
  obtain ⟨d31, len30, o32⟩ := okT_st o26 Tryz.underlying42
  rw [cells42] at len30
  obtain ⟨x33, x34, x35, x36, x37, x38, rfl⟩ := len6 len30
  simp only [List.mem_cons, List.mem_nil_iff, or_false, forall_eq_or_imp, forall_eq] at o32
  have h39 := o32.1
  rw [cells3] at h39
  change okT _ _ _ 3 [x33] at h39
  obtain ⟨n40, e41, g42⟩ := okT_int h39 Tryz.underlying3
  have wf43 := wf_i64 g42
  cases e41
  have h44 := o32.2.1
  rw [cells3] at h44
  change okT _ _ _ 3 [x34] at h44
  obtain ⟨n45, e46, g47⟩ := okT_int h44 Tryz.underlying3
  have wf48 := wf_i64 g47
  cases e46
  have h49 := o32.2.2.1
  rw [cells4] at h49
  change okT _ _ _ 4 [x35] at h49
  obtain ⟨b50, e51⟩ := okT_bool h49 Tryz.underlying4
  cases e51
  have h52 := o32.2.2.2.1
  rw [cells4] at h52
  change okT _ _ _ 4 [x36] at h52
  obtain ⟨b53, e54⟩ := okT_bool h52 Tryz.underlying4
  cases e54
  have h55 := o32.2.2.2.2.1
  rw [cells40] at h55
  change okT _ _ _ 40 [x37] at h55
  obtain ⟨d65, a56, n57, cap58, cell59, e60, hn61, hcap62, sl63, rows64⟩ := okT_sl h55 Tryz.underlying40 (by rw [cells98]; decide)
  rw [cells98] at sl63
  cases e60
  have h66 := o32.2.2.2.2.2
  rw [cells40] at h66
  change okT _ _ _ 40 [x38] at h66
  obtain ⟨d76, a67, n68, cap69, cell70, e71, hn72, hcap73, sl74, rows75⟩ := okT_sl h66 Tryz.underlying40 (by rw [cells98]; decide)
  rw [cells98] at sl74
  cases e71
  obtain ⟨d78, o77⟩ := okT_trod h2
  obtain ⟨x79, rfl⟩ := okWide_int Tryz.underlying3 (hval 2 3 v2 rfl rfl)
  obtain ⟨n80, e81, g82⟩ := okT_int o77 Tryz.underlying3
  have wf83 := wf_i64 g82
  cases e81
  obtain ⟨l, hn_l, hR_l, hB_l⟩ := items_of sl23 rows24
  subst hn_l
  obtain ⟨de, hn_de, hR_de⟩ := aces_of sl63 rows64
  subst hn_de
  obtain ⟨da, hn_da, hR_da⟩ := aces_of sl74 rows75
  subst hn_da
  have hcall := c5 W n11 a16 cap18 l ⟨n40, n45, b50, b53, de, da⟩ a56 cap58 a67 cap69 x79 hR_l (Nat.le_trans hn21 hcap22) hB_l hR_de hR_da
  refine (hcall).mono fun e W' ⟨he, hb⟩ => ?_
  subst he
  exact ⟨_, rfl, post_true laid5 (by kernel_rfl) rfl Tryz.underlying4 rfl rfl hW' hb⟩
set_option maxRecDepth 100000 in
theorem secureAdds_holds : Rows.SecureAddsSaid :=
  OpenClaim.holds_of_wide 5 Tryz.f5 rfl rfl rfl rfl rfl rfl rfl ⟨rfl, rfl, rfl, rfl, rfl⟩ rfl rfl rfl rfl rfl (by kernel_rfl) Tryz.func5 (by kernel_rfl)
    (of_decide_eq_true (by kernel_rfl)) (by unfold Func.isWrapper; first | (rw [if_pos (by decide +kernel)]; kernel_rfl) | (rw [if_neg (by decide +kernel)]; exact ⟨rfl, rfl⟩))
    (fun os started H enc _ => lifted5 os started H enc)
end Go.Proofs.YtbbbhjhafdnnaaaGreat
