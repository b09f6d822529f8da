/- It is proved that SecureCopies answers true for every input and leaves its arguments as they read; there are no conditions. -/
import Derived.WalkKit
import Derived.Deep.Draws
import Derived.TacticsIn
import Derived.OrdersIn
import Derived.RangeFuncLeaves
import Derived.Lib.Strings
import Derived.Laws.BytesArg
import Derived.Laws.IdiomStrings
import Derived.Deep.Quiet
import Derived.Laws.StructEq
import Derived.ChangeKeysEq
import Derived.Laws.Externs
import Derived.Lib.Overlaps
import Derived.Carry
import Derived.Laws.Small
import Derived.Lib.Bytealg
import Derived.Test.YtbbbhjhafdnnaaaGreatDoorProg
import Derived.KernelRfl
import Derived.RangeFuncRecord
import Derived.ProofKit
import Derived.OpenShut
import Derived.Lib.Builder
import Derived.Lib.UnsafeStr
import Derived.Laws.Pointers
import Derived.LaidEqlPtr
import Derived.Shelf.Strings.Builder1
import Derived.Shelf.Strings.Builder2
import Derived.Shelf.Small.Utf8
import Derived.Shelf.Small.Strs
import Derived.Shelf.Strings.BuilderF
import Derived.Shelf.Strings.Search1
import Derived.Shelf.Strings.Prefix
import Derived.Shelf.Unicode.Decode
import Derived.Shelf.Strings.Runes
import Derived.Shelf.Strings.AsciiSet
import Derived.Shelf.Bits.Mul64
import Derived.Shelf.Strings.Repeat
import Derived.Shelf.Unicode.DecodeSlow
import Derived.Shelf.Unicode.DecodeAny
import Derived.Shelf.Unicode.DecodeLast
import Derived.Test.YtbbbhjhafdnnaaaGreatDoorRows
import Derived.Test.YtbbbhjhafdnnaaaGreatDoorTie
import Derived.Test.YtbbbhjhafdnnaaaGreatDoorCards
import Derived.SevenTiedAt
import Derived.LaidMore
import Derived.Lay
import Derived.Stop.Joined
import Derived.Test.YtbbbhjhafdnnaaaGreatDoorP4
namespace Go.Proofs.YtbbbhjhafdnnaaaGreatDoor
open Go Go.RowKit Go.ChangeShapes Go.WideShapes Go.ChangeAt Gx Go.Proofs
set_option linter.unusedVariables false

theorem len2 {cs : List Value} (h : cs.length = 2) : ∃ x0 x1, cs = [x0, x1] := by
  match cs, h with
  | [x0, x1], _ => exact ⟨x0, x1, rfl⟩
theorem cells3 : Tryz.prog.cellsOf 3 = 1 := by kernel_rfl
theorem cells22 : Tryz.prog.cellsOf 22 = 1 := by kernel_rfl
theorem cells24 : Tryz.prog.cellsOf 24 = 2 := by kernel_rfl
theorem cells46 : Tryz.prog.cellsOf 46 = 2 := by kernel_rfl
theorem cells50 : Tryz.prog.cellsOf 50 = 2 := by kernel_rfl
theorem own4 : ownKnob Tryz.prog.godebug = none := by kernel_rfl
theorem laid4 : laidOutB Tryz.prog = true := by kernel_rfl
theorem slice_inj {a a2 : Option Addr} {n n2 c c2 : Nat} (h : [Value.slice a n c] = [Value.slice a2 n2 c2]) : a = a2 ∧ n = n2 ∧ c = c2 := by cases h; exact ⟨rfl, rfl, rfl⟩
/-- The variables that the rows list. -/
def laidL : List (String × DataW Unit) := [("unicode/utf8.acceptRanges", Rows.laid_unicode_utf8_acceptRanges), ("unicode/utf8.first", Rows.laid_unicode_utf8_first)]

set_option maxHeartbeats 1000000 in
set_option maxRecDepth 100000 in
theorem lifted4 (os : Os) (started : os.Started) (H : Type) (enc : TypeId × Value → H) :
    ReturnsInHanded {} Tryz.checked os 4 .any (fun w args => (Rows.secureCopiesSpec.pre enc Tryz.prog Tryz.f4 [] false w args ∧ laidMetH Tryz.prog laidL w) ∧ sizedMet enc Tryz.prog Tryz.f4 (OpenSpec.ofChange Rows.secureCopiesSpec) false w args)
      (Rows.secureCopiesSpec.post enc Tryz.prog Tryz.f4 false true false false) := by
  refine returnsInHanded_of_change_and (C := Tryz.checked) (X := fun w _ => laidMetH Tryz.prog laidL w) (fun _ _ _ hh h => h.of_heap hh) own4 started (by kernel_rfl) Tryz.func4
    (ChangeSpec.witness_shaped (enc := enc) (C := Tryz.checked) (os := os) (X := fun w _ => laidMetH Tryz.prog laidL w) false (World.laidAll Tryz.prog os laidL) #[.agg #[.int .i64 0, .slice none 0 0], .bool false, .slice none 0 0] 8 (World.laidAll_os _ _ _) (World.shaped_of_ZipB (by kernel_rfl) (by kernel_rfl)) (by kernel_rfl) (by kernel_rfl) (by kernel_rfl) (by rw [MakeChecks.laidMetH_plain _ _ _ (by kernel_rfl)]; exact laidMet_laidAll _ (by kernel_rfl) (by kernel_rfl))) ?_
  intro W base args ds gs before hval0 hW _ _ hL _
  have hval : ∀ (j : Nat) t v, Tryz.f4.params[j]? = some t → args[j]? = some v → Value.okWide Tryz.prog W .any base t v := hval0
  have hW' := hW
  obtain ⟨p, q, hA0, hV, rfl, hfz, hnd⟩ := hW
  have hA : DataW.TrodAll enc Tryz.prog W 0 (fun _ => true) true Tryz.f4.params.toList args.toList ds p := hA0
  rw [Tryz.params4] at hA hval
  obtain ⟨v0, vs0, d0, ds0, p0, q0, hargs0, rfl, rfl, h0, r0⟩ := trodAll_cons hA
  obtain ⟨v1, vs1, d1, ds1, p1, q1, hargs1, rfl, rfl, h1, r1⟩ := trodAll_cons r0
  obtain ⟨v2, vs2, d2, ds2, p2, q2, hargs2, rfl, rfl, h2, r2⟩ := trodAll_cons r1
  obtain ⟨rfl, rfl, rfl⟩ := trodAll_nil r2
  obtain rfl : args = #[v0, v1, v2] := by cases args; simp_all
  obtain ⟨d2, o1⟩ := okT_trod h0
  obtain ⟨cs3, rfl, hc4⟩ := agg_of (hval 0 24 v0 rfl rfl) (by rw [Tryz.underlying24])
  rw [hc4] at o1
  obtain ⟨d6, len5, o7⟩ := okT_st o1 Tryz.underlying24
  rw [cells24] at len5
  obtain ⟨x8, x9, rfl⟩ := len2 len5
  simp only [List.mem_cons, List.mem_nil_iff, or_false, forall_eq_or_imp, forall_eq] at o7
  have h10 := o7.1
  rw [cells3] at h10
  change okT _ _ _ 3 [x8] at h10
  obtain ⟨n11, e12, g13⟩ := okT_int h10 Tryz.underlying3
  have wf14 := wf_i64 g13
  cases e12
  have h15 := o7.2
  rw [cells22] at h15
  change okT _ _ _ 22 [x9] at h15
  obtain ⟨d25, a16, n17, cap18, cell19, e20, hn21, hcap22, sl23, rows24⟩ := okT_sl h15 Tryz.underlying22 (by rw [cells50]; decide)
  rw [cells50] at sl23
  cases e20
  obtain ⟨d27, o26⟩ := okT_trod h1
  obtain ⟨x28, rfl⟩ := okWide_bool Tryz.underlying4 (hval 1 4 v1 rfl rfl)
  obtain ⟨b29, e30⟩ := okT_bool o26 Tryz.underlying4
  cases e30
  obtain ⟨d32, o31⟩ := okT_trod h2
  obtain ⟨x33, x34, x35, rfl⟩ := okWide_slice Tryz.underlying41 (hval 2 41 v2 rfl rfl)
  obtain ⟨d45, a36, n37, cap38, cell39, e40, hn41, hcap42, sl43, rows44⟩ := okT_sl o31 Tryz.underlying41 (by rw [cells46]; decide)
  rw [cells46] at sl43
  obtain ⟨q46, q47, q48⟩ := slice_inj e40
  subst x33 x34 x35
  obtain ⟨l, hn_l, hR_l, hB_l⟩ := items_of sl23 rows24
  subst hn_l
  obtain ⟨bl, hn_bl, hR_bl⟩ := byts_of sl43 rows44
  subst hn_bl
  have hcall := c4 W n11 a16 cap18 l x28 a36 cap38 bl hR_l (Nat.le_trans hn21 hcap22) hB_l hR_bl
  refine (hcall).mono fun e W' ⟨he, hb⟩ => ?_
  subst he
  exact ⟨_, rfl, post_true laid4 (by kernel_rfl) rfl Tryz.underlying4 rfl rfl hW' hb⟩
set_option maxRecDepth 100000 in
theorem secureCopies_holds : Rows.SecureCopiesSaid :=
  OpenClaim.holds_of_wide 4 Tryz.f4 rfl rfl rfl rfl rfl rfl rfl ⟨rfl, rfl, rfl, rfl, rfl⟩ rfl rfl rfl rfl rfl (by kernel_rfl) Tryz.func4 (by kernel_rfl)
    (of_decide_eq_true (by kernel_rfl)) (by unfold Func.isWrapper; first | (rw [if_pos (by decide +kernel)]; kernel_rfl) | (rw [if_neg (by decide +kernel)]; exact ⟨rfl, rfl⟩))
    (fun os started H enc _ => lifted4 os started H enc)
set_option maxRecDepth 100000 in
theorem secureCopies_card_holds : Rows.SecureCopiesCardSaid :=
  Claim7.holds_tied_plain_at .later [] [.data, .pinned] true (true, "aed8b8e7c00f1a6b365cfe69dd16a784a4513f77f9a8d88e660db90275df3448") false
    secureCopies_holds (fun _ h => by cases h) (by kernel_rfl) (fun _ h => by cases h) secureCopies_row_tie rfl ⟨rfl, rfl⟩ (by kernel_rfl) rfl
    (fun f fn hf hfn => by
      obtain rfl : f = 4 := Option.some.inj ((show Tryz.prog.funcNamed "depository/depositorylaw18.SecureCopies" = some 4 by kernel_rfl).symm.trans hf) |>.symm
      obtain rfl : fn = Tryz.f4 := (Option.some.inj (Tryz.func4.symm.trans hfn)).symm
      exact ⟨by kernel_rfl, fun j t ht => by
        rw [Tryz.params4] at ht
        have hm : t ∈ [24, 4, 41] := by simpa using Array.mem_of_getElem? ht
        have hall : ([24, 4, 41].all fun u => !Tryz.prog.wantsStandIn u) = true := by kernel_rfl
        exact (show Tryz.prog.wantsStandIn t = false by simpa using List.all_eq_true.1 hall t hm)⟩)
    (by kernel_rfl)
end Go.Proofs.YtbbbhjhafdnnaaaGreatDoor
