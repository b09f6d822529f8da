/- It is proved that CipherFields answers true for every input and leaves its arguments as they read; there are no conditions. -/
import Derived.Test.YtaffndpaehiafaaRows
import Derived.Test.YtaffndpaehiafaaGxOpen
import Derived.Test.YtaffndpaehiafaaC07ZH
namespace Go.Proofs.Ytaffndpaehiafaa
open Go Go.RowKit Go.ChangeShapes Go.WideShapes Go.ChangeAt Gx Go.Proofs
set_option linter.unusedVariables false

theorem len2 {cs : List Value} (h : cs.length = 2) : ∃ x0 x1, cs = [x0, x1] := by
  match cs, h with
  | [x0, x1], _ => exact ⟨x0, x1, rfl⟩
theorem cells3 : Try.prog.cellsOf 3 = 1 := by kernel_rfl
theorem cells9 : Try.prog.cellsOf 9 = 1 := by kernel_rfl
theorem cells31 : Try.prog.cellsOf 31 = 2 := by kernel_rfl
theorem cells96 : Try.prog.cellsOf 96 = 2 := by kernel_rfl
theorem own9 : ownKnob Try.prog.godebug = none := by kernel_rfl
theorem laid9 : laidOutB Try.prog = true := by kernel_rfl
theorem slice_inj {a a2 : Option Addr} {n n2 c c2 : Nat} (h : [Value.slice a n c] = [Value.slice a2 n2 c2]) : a = a2 ∧ n = n2 ∧ c = c2 := by cases h; exact ⟨rfl, rfl, rfl⟩
set_option maxRecDepth 100000 in
theorem lifted9 (os : Os) (started : os.Started) (H : Type) (enc : TypeId × Value → H) :
    ReturnsInHanded {} Try.checked os 9 .any (Rows.cipherFieldsSpec.pre6 enc Try.prog Try.f9 Rows.cipherFieldsRow.domain false) (Rows.cipherFieldsSpec.post enc Try.prog Try.f9 false true false false) := by
  refine returnsInHanded_of_change (C := Try.checked) own9 started (by kernel_rfl) Try.func9
    (ChangeSpec.witness6 (enc := enc) (C := Try.checked) false ⟨#[], #[.slice none 0 0, .agg #[.int .i64 0, .string (bs [])], .string (bs [])], []⟩ 8 (by kernel_rfl) (by kernel_rfl) (by kernel_rfl) (by kernel_rfl)) ?_
  intro W base args ds gs before hval0 hW hcnd _
  have hval : ∀ (j : Nat) t v, Try.f9.params[j]? = some t → args[j]? = some v → Value.okWide Try.prog W .any base t v := hval0
  have hW' := hW
  obtain ⟨p, q, hA0, hV, rfl, hfz, hnd⟩ := hW
  have hA : DataW.TrodAll enc Try.prog W 0 (fun _ => true) true Try.f9.params.toList args.toList ds p := hA0
  rw [Try.params9] at hA hval
  obtain ⟨v0, vs0, d0, ds0, p0, q0, hargs0, rfl, rfl, h0, r0⟩ := trodAll_cons hA
  obtain ⟨v1, vs1, d1, ds1, p1, q1, hargs1, rfl, rfl, h1, r1⟩ := trodAll_cons r0
  obtain ⟨v2, vs2, d2, ds2, p2, q2, hargs2, rfl, rfl, h2, r2⟩ := trodAll_cons r1
  obtain ⟨rfl, rfl, rfl⟩ := trodAll_nil r2
  obtain rfl : args = #[v0, v1, v2] := by cases args; simp_all
  obtain ⟨d2, o1⟩ := okT_trod h0
  obtain ⟨x3, x4, x5, rfl⟩ := okWide_slice Try.underlying41 (hval 0 41 v0 rfl rfl)
  obtain ⟨d15, a6, n7, cap8, cell9, e10, hn11, hcap12, sl13, rows14⟩ := okT_sl o1 Try.underlying41 (by rw [cells96]; decide)
  rw [cells96] at sl13
  obtain ⟨q16, q17, q18⟩ := slice_inj e10
  subst x3 x4 x5
  obtain ⟨d20, o19⟩ := okT_trod h1
  obtain ⟨cs21, rfl, hc22⟩ := agg_of (hval 1 31 v1 rfl rfl) (by rw [Try.underlying31])
  rw [hc22] at o19
  obtain ⟨d24, len23, o25⟩ := okT_st o19 Try.underlying31
  rw [cells31] at len23
  obtain ⟨x26, x27, rfl⟩ := len2 len23
  simp only [List.mem_cons, List.mem_nil_iff, or_false, forall_eq_or_imp, forall_eq] at o25
  have h28 := o25.1
  rw [cells3] at h28
  change okT _ _ _ 3 [x26] at h28
  obtain ⟨n29, e30, g31⟩ := okT_int h28 Try.underlying3
  have wf32 := wf_i64 g31
  cases e30
  have h33 := o25.2
  rw [cells9] at h33
  change okT _ _ _ 9 [x27] at h33
  obtain ⟨l34, e35, g36⟩ := okT_str h33 Try.underlying9
  cases e35
  obtain ⟨d38, o37⟩ := okT_trod h2
  obtain ⟨x39, rfl⟩ := okWide_string Try.underlying9 (hval 2 9 v2 rfl rfl)
  obtain ⟨l40, e41, g42⟩ := okT_str o37 Try.underlying9
  cases e41
  have hr_fs : ∀ i, i < n7 → ∃ u s, cell9 i = [.int .i64 u, .string (bs s)] := fun i hi => by
    obtain ⟨dd, ll, oo⟩ := okT_st (rows14 i hi) Try.underlying96
    rw [cells96] at ll
    obtain ⟨y0, y1, ey⟩ := len2 ll
    rw [ey] at oo
    simp only [List.mem_cons, List.mem_nil_iff, or_false, forall_eq_or_imp, forall_eq] at oo
    have g0 := oo.1
    rw [cells3] at g0
    change okT _ _ _ 3 [y0] at g0
    obtain ⟨u, hu, _⟩ := okT_int g0 Try.underlying3
    cases hu
    have g1 := oo.2
    rw [cells9] at g1
    change okT _ _ _ 9 [y1] at g1
    obtain ⟨l, hl, _⟩ := okT_str g1 Try.underlying9
    cases hl
    exact ⟨_, _, ey⟩
  obtain ⟨fs, hn_fs, hF_fs, _⟩ := fl_of sl13 hr_fs
  subst hn_fs
  have hcall := c9 W a6 cap8 fs n29 l34 l40 hF_fs (by have hm := hn11; have hm2 := hcap12; simp only [maxLen] at hm2; omega) (by omega)
  refine (hcall).mono fun e W' ⟨he, hb⟩ => ?_
  subst he
  exact ⟨_, rfl, post_true laid9 (by kernel_rfl) rfl Try.underlying4 rfl rfl hW' hb⟩
set_option maxRecDepth 100000 in
theorem cipherFields_holds : Rows.CipherFieldsSaid :=
  OpenClaim.holds_of_wide 9 Try.f9 rfl rfl rfl rfl rfl rfl rfl ⟨rfl, rfl, rfl, rfl, rfl⟩ rfl rfl rfl rfl rfl (by kernel_rfl) Try.func9 (by kernel_rfl)
    (of_decide_eq_true (by kernel_rfl)) (by unfold Func.isWrapper; first | (rw [if_pos (by decide +kernel)]; kernel_rfl) | (rw [if_neg (by decide +kernel)]; exact ⟨rfl, rfl⟩))
    (fun os started H enc _ => lifted9 os started H enc)
end Go.Proofs.Ytaffndpaehiafaa
