/- It is proved that CipherRekeys answers true for every input and leaves its arguments as they read; there are no conditions. -/
import Derived.Test.YtaffndpaehiafaaRows
import Derived.Test.YtaffndpaehiafaaGxOpen
import Derived.Test.YtaffndpaehiafaaC07ZC
namespace Go.Proofs.Ytaffndpaehiafaa
open Go Go.RowKit Go.ChangeShapes Go.WideShapes Go.ChangeAt Gx Go.Proofs
set_option linter.unusedVariables false

theorem len2 {cs : List Value} (h : cs.length = 2) : ∃ x0 x1, cs = [x0, x1] := by
  match cs, h with
  | [x0, x1], _ => exact ⟨x0, x1, rfl⟩
theorem len3 {cs : List Value} (h : cs.length = 3) : ∃ x0 x1 x2, cs = [x0, x1, x2] := by
  match cs, h with
  | [x0, x1, x2], _ => exact ⟨x0, x1, x2, rfl⟩
theorem cells3 : Try.prog.cellsOf 3 = 1 := by kernel_rfl
theorem cells9 : Try.prog.cellsOf 9 = 1 := by kernel_rfl
theorem cells31 : Try.prog.cellsOf 31 = 2 := by kernel_rfl
theorem cells41 : Try.prog.cellsOf 41 = 1 := by kernel_rfl
theorem cells43 : Try.prog.cellsOf 43 = 3 := by kernel_rfl
theorem cells96 : Try.prog.cellsOf 96 = 2 := by kernel_rfl
theorem own8 : ownKnob Try.prog.godebug = none := by kernel_rfl
theorem laid8 : laidOutB Try.prog = true := by kernel_rfl
theorem slice_inj {a a2 : Option Addr} {n n2 c c2 : Nat} (h : [Value.slice a n c] = [Value.slice a2 n2 c2]) : a = a2 ∧ n = n2 ∧ c = c2 := by cases h; exact ⟨rfl, rfl, rfl⟩
set_option maxRecDepth 100000 in
theorem lifted8 (os : Os) (started : os.Started) (H : Type) (enc : TypeId × Value → H) :
    ReturnsInHanded {} Try.checked os 8 .any (Rows.cipherRekeysSpec.pre6 enc Try.prog Try.f8 Rows.cipherRekeysRow.domain false) (Rows.cipherRekeysSpec.post enc Try.prog Try.f8 false true false false) := by
  refine returnsInHanded_of_change (C := Try.checked) own8 started (by kernel_rfl) Try.func8
    (ChangeSpec.witness6 (enc := enc) (C := Try.checked) false ⟨#[], #[.agg #[.slice none 0 0, .int .i64 0, .string (bs [])], .slice none 0 0, .string (bs [])], []⟩ 8 (by kernel_rfl) (by kernel_rfl) (by kernel_rfl) (by kernel_rfl)) ?_
  intro W base args ds gs before hval0 hW hcnd _
  have hval : ∀ (j : Nat) t v, Try.f8.params[j]? = some t → args[j]? = some v → Value.okWide Try.prog W .any base t v := hval0
  have hW' := hW
  obtain ⟨p, q, hA0, hV, rfl, hfz, hnd⟩ := hW
  have hA : DataW.TrodAll enc Try.prog W 0 (fun _ => true) true Try.f8.params.toList args.toList ds p := hA0
  rw [Try.params8] at hA hval
  obtain ⟨v0, vs0, d0, ds0, p0, q0, hargs0, rfl, rfl, h0, r0⟩ := trodAll_cons hA
  obtain ⟨v1, vs1, d1, ds1, p1, q1, hargs1, rfl, rfl, h1, r1⟩ := trodAll_cons r0
  obtain ⟨v2, vs2, d2, ds2, p2, q2, hargs2, rfl, rfl, h2, r2⟩ := trodAll_cons r1
  obtain ⟨rfl, rfl, rfl⟩ := trodAll_nil r2
  obtain rfl : args = #[v0, v1, v2] := by cases args; simp_all
  obtain ⟨d2, o1⟩ := okT_trod h0
  obtain ⟨cs3, rfl, hc4⟩ := agg_of (hval 0 43 v0 rfl rfl) (by rw [Try.underlying43])
  rw [hc4] at o1
  obtain ⟨d6, len5, o7⟩ := okT_st o1 Try.underlying43
  rw [cells43] at len5
  obtain ⟨x8, x9, x10, rfl⟩ := len3 len5
  simp only [List.mem_cons, List.mem_nil_iff, or_false, forall_eq_or_imp, forall_eq] at o7
  have h11 := o7.1
  rw [cells41] at h11
  change okT _ _ _ 41 [x8] at h11
  obtain ⟨d21, a12, n13, cap14, cell15, e16, hn17, hcap18, sl19, rows20⟩ := okT_sl h11 Try.underlying41 (by rw [cells96]; decide)
  rw [cells96] at sl19
  cases e16
  have h22 := o7.2.1
  rw [cells3] at h22
  change okT _ _ _ 3 [x9] at h22
  obtain ⟨n23, e24, g25⟩ := okT_int h22 Try.underlying3
  have wf26 := wf_i64 g25
  cases e24
  have h27 := o7.2.2
  rw [cells9] at h27
  change okT _ _ _ 9 [x10] at h27
  obtain ⟨l28, e29, g30⟩ := okT_str h27 Try.underlying9
  cases e29
  obtain ⟨d32, o31⟩ := okT_trod h1
  obtain ⟨x33, x34, x35, rfl⟩ := okWide_slice Try.underlying69 (hval 1 69 v1 rfl rfl)
  obtain ⟨d45, a36, n37, cap38, cell39, e40, hn41, hcap42, sl43, rows44⟩ := okT_sl o31 Try.underlying69 (by rw [cells31]; decide)
  rw [cells31] at sl43
  obtain ⟨q46, q47, q48⟩ := slice_inj e40
  subst x33 x34 x35
  obtain ⟨d50, o49⟩ := okT_trod h2
  obtain ⟨x51, rfl⟩ := okWide_string Try.underlying9 (hval 2 9 v2 rfl rfl)
  obtain ⟨l52, e53, g54⟩ := okT_str o49 Try.underlying9
  cases e53
  have hr_fs : ∀ i, i < n13 → ∃ u s, cell15 i = [.int .i64 u, .string (bs s)] := fun i hi => by
    obtain ⟨dd, ll, oo⟩ := okT_st (rows20 i hi) Try.underlying96
    rw [cells96] at ll
    obtain ⟨y0, y1, ey⟩ := len2 ll
    rw [ey] at oo
    simp only [List.mem_cons, List.mem_nil_iff, or_false, forall_eq_or_imp, forall_eq] at oo
    have g0 := oo.1
    rw [cells3] at g0
    change okT _ _ _ 3 [y0] at g0
    obtain ⟨u, hu, _⟩ := okT_int g0 Try.underlying3
    cases hu
    have g1 := oo.2
    rw [cells9] at g1
    change okT _ _ _ 9 [y1] at g1
    obtain ⟨l, hl, _⟩ := okT_str g1 Try.underlying9
    cases hl
    exact ⟨_, _, ey⟩
  obtain ⟨fs, hn_fs, hF_fs, _⟩ := fl_of sl19 hr_fs
  subst hn_fs
  have hr_hd : ∀ i, i < n37 → ∃ u s, cell39 i = [.int .i64 u, .string (bs s)] := fun i hi => by
    obtain ⟨dd, ll, oo⟩ := okT_st (rows44 i hi) Try.underlying31
    rw [cells31] at ll
    obtain ⟨y0, y1, ey⟩ := len2 ll
    rw [ey] at oo
    simp only [List.mem_cons, List.mem_nil_iff, or_false, forall_eq_or_imp, forall_eq] at oo
    have g0 := oo.1
    rw [cells3] at g0
    change okT _ _ _ 3 [y0] at g0
    obtain ⟨u, hu, _⟩ := okT_int g0 Try.underlying3
    cases hu
    have g1 := oo.2
    rw [cells9] at g1
    change okT _ _ _ 9 [y1] at g1
    obtain ⟨l, hl, _⟩ := okT_str g1 Try.underlying9
    cases hl
    exact ⟨_, _, ey⟩
  obtain ⟨hd, hn_hd, hF_hd, _⟩ := fl_of sl43 hr_hd
  subst hn_hd
  have hcall := c8 W a12 a36 cap14 cap38 fs n23 l28 hd l52 hF_fs hF_hd (by have hm := hn17; have hm2 := hcap18; simp only [maxLen] at hm2; omega) (by have hm := g30; simp only [maxLen] at hm; omega) (by have hm := hn41; have hm2 := hcap42; simp only [maxLen] at hm2; omega)
  refine (hcall).mono fun e W' ⟨he, hb⟩ => ?_
  subst he
  exact ⟨_, rfl, post_true laid8 (by kernel_rfl) rfl Try.underlying4 rfl rfl hW' hb⟩
set_option maxRecDepth 100000 in
theorem cipherRekeys_holds : Rows.CipherRekeysSaid :=
  OpenClaim.holds_of_wide 8 Try.f8 rfl rfl rfl rfl rfl rfl rfl ⟨rfl, rfl, rfl, rfl, rfl⟩ rfl rfl rfl rfl rfl (by kernel_rfl) Try.func8 (by kernel_rfl)
    (of_decide_eq_true (by kernel_rfl)) (by unfold Func.isWrapper; first | (rw [if_pos (by decide +kernel)]; kernel_rfl) | (rw [if_neg (by decide +kernel)]; exact ⟨rfl, rfl⟩))
    (fun os started H enc _ => lifted8 os started H enc)
end Go.Proofs.Ytaffndpaehiafaa
