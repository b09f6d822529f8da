/- It is proved that SecureOnce answers true for every input and leaves its arguments as they read; there are no conditions. -/
import Derived.WalkKit
import Derived.Deep.Draws
import Derived.TacticsIn
import Derived.OrdersIn
import Derived.RangeFuncLeaves
import Derived.Lib.Strings
import Derived.Laws.BytesArg
import Derived.Laws.IdiomStrings
import Derived.Deep.Quiet
import Derived.Laws.StructEq
import Derived.ChangeKeysEq
import Derived.Laws.Externs
import Derived.Lib.Overlaps
import Derived.Carry
import Derived.Laws.Small
import Derived.Lib.Bytealg
import Derived.Lib.Builder
import Derived.Laws.Pointers
import Derived.RangeFuncRecord
import Derived.Test.YtldegbfcaelpdaaGreatDoorProg
import Derived.KernelRfl
import Derived.ProofKit
import Derived.OpenShut
import Derived.Lib.UnsafeStr
import Derived.LaidEqlPtr
import Derived.Shelf.Strings.Builder1
import Derived.Shelf.Strings.Builder2
import Derived.Shelf.Strings.Trim
import Derived.Shelf.Small.Utf8
import Derived.Shelf.Small.Strs
import Derived.Shelf.Strings.BuilderF
import Derived.Shelf.Strings.BuilderK
import Derived.Shelf.Strings.Builder2Cap
import Derived.Shelf.Strings.Search1
import Derived.Shelf.Strings.Prefix
import Derived.Shelf.Unicode.Decode
import Derived.Shelf.Strings.Runes
import Derived.Shelf.Strings.AsciiSet
import Derived.Shelf.Bits.Mul64
import Derived.Shelf.Strings.Repeat
import Derived.Shelf.Unicode.DecodeSlow
import Derived.Shelf.Unicode.DecodeAny
import Derived.Shelf.Unicode.DecodeLast
import Derived.Shelf.Slices.Turned
import Derived.Shelf.Slices.Reverse
import Derived.Ground.Names2Prog
import Derived.Shelf.Slices.Clone
import Derived.Shelf.Slices.Cells
import Derived.Ground.SlgnProg
import Derived.Shelf.SlicesE.Reverse
import Derived.Shelf.SlicesE.Clone
import Derived.Test.YtldegbfcaelpdaaGreatDoorRows
import Derived.Test.YtldegbfcaelpdaaGreatDoorTie
import Derived.Test.YtldegbfcaelpdaaGreatDoorCards
import Derived.SevenTiedAt
import Derived.LaidMore
import Derived.Lay
import Derived.Stop.Joined
import Derived.Test.YtldegbfcaelpdaaGreatDoorP4
namespace Go.Proofs.YtldegbfcaelpdaaGreatDoor
open Go Go.RowKit Go.ChangeShapes Go.WideShapes Go.ChangeAt Gx Go.Proofs
set_option linter.unusedVariables false

theorem cells4 : Tryz.prog.cellsOf 4 = 1:=by kernel_rfl
theorem cells28 : Tryz.prog.cellsOf 28 = 6:=by kernel_rfl
theorem own4 : ownKnob Tryz.prog.godebug = none:=by kernel_rfl
theorem laid4 : laidOutB Tryz.prog = true:=by kernel_rfl
theorem slice_inj {a a2 : Option Addr} {n n2 c c2 : Nat} (h : [Value.slice a n c] = [Value.slice a2 n2 c2]) : a = a2 ∧ n = n2 ∧ c = c2:=by cases h;exact ⟨rfl,rfl,rfl⟩
/-- The variables that the rows list. -/
def Qkd : List (String × DataW Unit) := [("unicode/utf8.acceptRanges", Rows.laid_unicode_utf8_acceptRanges), ("unicode/utf8.first", Rows.laid_unicode_utf8_first)]

set_option maxHeartbeats 1000000 in
set_option maxRecDepth 100000 in
theorem lifted4 (os : Os) (started : os.Started) (H : Type) (enc : TypeId × Value → H) :
    ReturnsInHanded {} Tryz.checked os 4 .any (fun w args=>(Rows.secureOnceSpec.pre enc Tryz.prog Tryz.f4 [] false w args ∧ laidMetH Tryz.prog Qkd w) ∧ sizedMet enc Tryz.prog Tryz.f4 (OpenSpec.ofChange Rows.secureOnceSpec) false w args)
      (Rows.secureOnceSpec.post enc Tryz.prog Tryz.f4 false true false false):=by
  refine returnsInHanded_of_change_and (C:=Tryz.checked) (X:=fun w _=>laidMetH Tryz.prog Qkd w) (fun _ _ _ hh h=>h.of_heap hh) own4 started (by kernel_rfl) Tryz.func4
    (ChangeSpec.witness_shaped (enc:=enc) (C:=Tryz.checked) (os:=os) (X:=fun w _=>laidMetH Tryz.prog Qkd w) false (World.laidAll Tryz.prog os Qkd) #[.slice none 0 0,.slice none 0 0] 8 (World.laidAll_os _ _ _) (World.shaped_of_ZipB (by kernel_rfl) (by kernel_rfl)) (by kernel_rfl) (by kernel_rfl) (by kernel_rfl) (by rw [MakeChecks.laidMetH_plain _ _ _ (by kernel_rfl)];exact laidMet_laidAll _ (by kernel_rfl) (by kernel_rfl))) ?_
  intro W base args ds gs before hval0 hW _ hsz hL _
  have hval : ∀ (j : Nat) t v,Tryz.f4.params[j]? = some t → args[j]? = some v → Value.okWide Tryz.prog W .any base t v:=hval0
  have hW':=hW
  obtain ⟨p,q,hA0,hV,rfl,hfz,hnd⟩:=hW
  have hA : DataW.TrodAll enc Tryz.prog W 0 (fun _=>true) true Tryz.f4.params.toList args.toList ds p:=hA0
  rw [Tryz.params4] at hA hval
  obtain ⟨v0,vs0,d0,ds0,p0,q0,hargs0,rfl,rfl,h0,r0⟩:=trodAll_cons hA
  obtain ⟨v1,vs1,d1,ds1,p1,q1,hargs1,rfl,rfl,h1,r1⟩:=trodAll_cons r0
  obtain ⟨rfl,rfl,rfl⟩:=trodAll_nil r1
  obtain rfl : args = #[v0,v1]:=by cases args;simp_all
  obtain ⟨d2,o1⟩:=Qh2 h0
  obtain ⟨x3,x4,x5,rfl⟩:=okWide_slice Tryz.underlying59 (hval 0 59 v0 rfl rfl)
  obtain ⟨d15,a6,n7,cap8,cell9,e10,hn11,hcap12,sl13,rows14⟩:=QiO o1 Tryz.underlying59 (by rw [cells28];decide)
  rw [cells28] at sl13
  obtain ⟨q16,q17,q18⟩:=slice_inj e10
  subst x3 x4 x5
  obtain ⟨d20,o19⟩:=Qh2 h1
  obtain ⟨x21,x22,x23,rfl⟩:=okWide_slice Tryz.underlying60 (hval 1 60 v1 rfl rfl)
  obtain ⟨d33,a24,n25,cap26,cell27,e28,hn29,hcap30,sl31,rows32⟩:=QiO o19 Tryz.underlying60 (by rw [cells4];decide)
  rw [cells4] at sl31
  obtain ⟨q34,q35,q36⟩:=slice_inj e28
  subst x21 x22 x23
  obtain ⟨D,hn_D,hR_D⟩:=QoN sl13 rows14
  subst hn_D
  obtain ⟨K,hn_K,hR_K⟩:=Qoh sl31 rows32
  subst hn_K
  have hcall:=c4 W a6 cap8 D a24 cap26 K hR_D hR_K
  refine (hcall).mono fun e W' ⟨he,hb⟩=>?_
  subst he
  exact ⟨_,rfl,Qlo laid4 (by kernel_rfl) rfl Tryz.underlying4 rfl rfl hW' hb⟩
set_option maxHeartbeats 4000000 in
set_option maxRecDepth 100000 in
theorem facts4 : joinedFacts Tryz.pinned.checked.prog 4 Tryz.f4 Rows.secureOnceSpec Rows.secureOnceRow = true:=by
  unfold joinedFacts
  simp only [Bool.and_eq_true]
  repeat' apply And.intro
  all_goals (as_aux_lemma=>kernel_rfl)
set_option maxRecDepth 100000 in
theorem secureOnce_holds : Rows.SecureOnceSaid:=
  OpenClaim.holds_of_wide 4 Tryz.f4 rfl rfl rfl rfl rfl rfl rfl ⟨rfl,rfl,rfl,rfl,rfl⟩ rfl rfl rfl rfl rfl (by kernel_rfl) Tryz.func4 facts4
    (of_decide_eq_true (by kernel_rfl)) (by unfold Func.isWrapper;first | (rw [if_pos (by decide +kernel)];kernel_rfl) | (rw [if_neg (by decide +kernel)];exact ⟨rfl,rfl⟩))
    (fun os started H enc _=>lifted4 os started H enc)
set_option maxRecDepth 100000 in
theorem secureOnce_card_holds : Rows.SecureOnceCardSaid:=
  Claim7.holds_tied_plain_at .later [] [.data, .pinned] true (true, "461a242228780dcce8fda16fe2e57637863c65a26d6c3082d14312150005a992") false
    secureOnce_holds (fun _ h=>by cases h) (by kernel_rfl) (fun _ h=>by cases h) secureOnce_row_tie rfl ⟨rfl,rfl⟩ (by kernel_rfl) rfl
    (fun f fn hf hfn=>by
      obtain rfl : f = 4 := Option.some.inj ((show Tryz.prog.funcNamed "depository/depositorylaw18.SecureOnce" = some 4 by kernel_rfl).symm.trans hf) |>.symm
      obtain rfl : fn = Tryz.f4:=(Option.some.inj (Tryz.func4.symm.trans hfn)).symm
      exact ⟨by kernel_rfl,fun j t ht=>by
        rw [Tryz.params4] at ht
        have hm : t ∈ [59,60]:=by simpa using Array.mem_of_getElem? ht
        have hall : ([59,60].all fun u=>!Tryz.prog.wantsStandIn u) = true:=by kernel_rfl
        exact (show Tryz.prog.wantsStandIn t = false by simpa using List.all_eq_true.1 hall t hm)⟩)
    (by kernel_rfl)
end Go.Proofs.YtldegbfcaelpdaaGreatDoor
