/- It is proved that SecureFinds answers true for every input and leaves its arguments as they read; there are no conditions. -/
import Derived.WalkKit
import Derived.Deep.Draws
import Derived.TacticsIn
import Derived.OrdersIn
import Derived.RangeFuncLeaves
import Derived.Lib.Strings
import Derived.Laws.BytesArg
import Derived.Laws.IdiomStrings
import Derived.Deep.Quiet
import Derived.Laws.StructEq
import Derived.ChangeKeysEq
import Derived.Laws.Externs
import Derived.Lib.Overlaps
import Derived.Carry
import Derived.Laws.Small
import Derived.Lib.Bytealg
import Derived.Lib.Builder
import Derived.Laws.Pointers
import Derived.RangeFuncRecord
import Derived.Test.YtldegbfcaelpdaaGreatDoorProg
import Derived.KernelRfl
import Derived.ProofKit
import Derived.OpenShut
import Derived.Lib.UnsafeStr
import Derived.LaidEqlPtr
import Derived.Shelf.Strings.Builder1
import Derived.Shelf.Strings.Builder2
import Derived.Shelf.Strings.Trim
import Derived.Shelf.Small.Utf8
import Derived.Shelf.Small.Strs
import Derived.Shelf.Strings.BuilderF
import Derived.Shelf.Strings.BuilderK
import Derived.Shelf.Strings.Builder2Cap
import Derived.Shelf.Strings.Search1
import Derived.Shelf.Strings.Prefix
import Derived.Shelf.Unicode.Decode
import Derived.Shelf.Strings.Runes
import Derived.Shelf.Strings.AsciiSet
import Derived.Shelf.Bits.Mul64
import Derived.Shelf.Strings.Repeat
import Derived.Shelf.Unicode.DecodeSlow
import Derived.Shelf.Unicode.DecodeAny
import Derived.Shelf.Unicode.DecodeLast
import Derived.Shelf.Slices.Turned
import Derived.Shelf.Slices.Reverse
import Derived.Ground.Names2Prog
import Derived.Shelf.Slices.Clone
import Derived.Shelf.Slices.Cells
import Derived.Ground.SlgnProg
import Derived.Shelf.SlicesE.Reverse
import Derived.Shelf.SlicesE.Clone
import Derived.Test.YtldegbfcaelpdaaGreatDoorRows
import Derived.Test.YtldegbfcaelpdaaGreatDoorTie
import Derived.Test.YtldegbfcaelpdaaGreatDoorCards
import Derived.SevenTiedAt
import Derived.LaidMore
import Derived.Lay
import Derived.Stop.Joined
import Derived.Test.YtldegbfcaelpdaaGreatDoorP4
namespace Go.Proofs.YtldegbfcaelpdaaGreatDoor
open Go Go.RowKit Go.ChangeShapes Go.WideShapes Go.ChangeAt Gx Go.Proofs
set_option linter.unusedVariables false

theorem len7 {cs : List Value} (h : cs.length = 7) : ∃ x0 x1 x2 x3 x4 x5 x6,cs = [x0,x1,x2,x3,x4,x5,x6]:=by
  match cs,h with
  | [x0,x1,x2,x3,x4,x5,x6],_=>exact ⟨x0,x1,x2,x3,x4,x5,x6,rfl⟩
theorem len8 {cs : List Value} (h : cs.length = 8) : ∃ x0 x1 x2 x3 x4 x5 x6 x7,cs = [x0,x1,x2,x3,x4,x5,x6,x7]:=by
  match cs,h with
  | [x0,x1,x2,x3,x4,x5,x6,x7],_=>exact ⟨x0,x1,x2,x3,x4,x5,x6,x7,rfl⟩
theorem cells3 : Tryz.prog.cellsOf 3 = 1:=by kernel_rfl
theorem cells4 : Tryz.prog.cellsOf 4 = 1:=by kernel_rfl
theorem cells22 : Tryz.prog.cellsOf 22 = 1:=by kernel_rfl
theorem cells24 : Tryz.prog.cellsOf 24 = 4:=by kernel_rfl
theorem cells25 : Tryz.prog.cellsOf 25 = 8:=by kernel_rfl
theorem cells26 : Tryz.prog.cellsOf 26 = 1:=by kernel_rfl
theorem cells28 : Tryz.prog.cellsOf 28 = 6:=by kernel_rfl
theorem cells30 : Tryz.prog.cellsOf 30 = 7:=by kernel_rfl
theorem cells87 : Tryz.prog.cellsOf 87 = 3:=by kernel_rfl
theorem cells119 : Tryz.prog.cellsOf 119 = 4:=by kernel_rfl
theorem own3 : ownKnob Tryz.prog.godebug = none:=by kernel_rfl
theorem laid3 : laidOutB Tryz.prog = true:=by kernel_rfl
theorem slice_inj {a a2 : Option Addr} {n n2 c c2 : Nat} (h : [Value.slice a n c] = [Value.slice a2 n2 c2]) : a = a2 ∧ n = n2 ∧ c = c2:=by cases h;exact ⟨rfl,rfl,rfl⟩
/-- The variables that the rows list. -/
def Qih : List (String × DataW Unit) := [("unicode/utf8.acceptRanges", Rows.laid_unicode_utf8_acceptRanges), ("unicode/utf8.first", Rows.laid_unicode_utf8_first)]

set_option maxHeartbeats 1000000 in
set_option maxRecDepth 100000 in
theorem lifted3 (os : Os) (started : os.Started) (H : Type) (enc : TypeId × Value → H) :
    ReturnsInHanded {} Tryz.checked os 3 .any (fun w args=>(Rows.secureFindsSpec.pre enc Tryz.prog Tryz.f3 [] false w args ∧ laidMetH Tryz.prog Qih w) ∧ sizedMet enc Tryz.prog Tryz.f3 (OpenSpec.ofChange Rows.secureFindsSpec) false w args)
      (Rows.secureFindsSpec.post enc Tryz.prog Tryz.f3 false true false false):=by
  refine returnsInHanded_of_change_and (C:=Tryz.checked) (X:=fun w _=>laidMetH Tryz.prog Qih w) (fun _ _ _ hh h=>h.of_heap hh) own3 started (by kernel_rfl) Tryz.func3
    (ChangeSpec.witness_shaped (enc:=enc) (C:=Tryz.checked) (os:=os) (X:=fun w _=>laidMetH Tryz.prog Qih w) false (World.laidAll Tryz.prog os Qih) #[.string (bs []),.agg #[.int .i64 0,.int .i64 0,.int .i64 0,.slice none 0 0,.int .i64 0,.int .i64 0,.int .i64 0,.slice none 0 0],.agg #[.int .i64 0,.int .i64 0,.bool false,.bool false,.slice none 0 0,.slice none 0 0,.int .i64 0]] 8 (World.laidAll_os _ _ _) (World.shaped_of_ZipB (by kernel_rfl) (by kernel_rfl)) (by kernel_rfl) (by kernel_rfl) (by kernel_rfl) (by rw [MakeChecks.laidMetH_plain _ _ _ (by kernel_rfl)];exact laidMet_laidAll _ (by kernel_rfl) (by kernel_rfl))) ?_
  intro W base args ds gs before hval0 hW _ hsz hL _
  have hval : ∀ (j : Nat) t v,Tryz.f3.params[j]? = some t → args[j]? = some v → Value.okWide Tryz.prog W .any base t v:=hval0
  have hW':=hW
  obtain ⟨p,q,hA0,hV,rfl,hfz,hnd⟩:=hW
  have hA : DataW.TrodAll enc Tryz.prog W 0 (fun _=>true) true Tryz.f3.params.toList args.toList ds p:=hA0
  rw [Tryz.params3] at hA hval
  obtain ⟨v0,vs0,d0,ds0,p0,q0,hargs0,rfl,rfl,h0,r0⟩:=trodAll_cons hA
  obtain ⟨v1,vs1,d1,ds1,p1,q1,hargs1,rfl,rfl,h1,r1⟩:=trodAll_cons r0
  obtain ⟨v2,vs2,d2,ds2,p2,q2,hargs2,rfl,rfl,h2,r2⟩:=trodAll_cons r1
  obtain ⟨rfl,rfl,rfl⟩:=trodAll_nil r2
  obtain rfl : args = #[v0,v1,v2]:=by cases args;simp_all
  obtain ⟨d2,o1⟩:=QdX h0
  obtain ⟨x3,rfl⟩:=okWide_string Tryz.underlying9 (hval 0 9 v0 rfl rfl)
  obtain ⟨l4,e5,g6⟩:=Qil o1 Tryz.underlying9
  cases e5
  obtain ⟨d8,o7⟩:=QdX h1
  obtain ⟨cs9,rfl,hc10⟩:=Qla (hval 1 25 v1 rfl rfl) (by rw [Tryz.underlying25])
  rw [hc10] at o7
  obtain ⟨d12,len11,o13⟩:=Qn0 o7 Tryz.underlying25
  rw [cells25] at len11
  obtain ⟨x14,x15,x16,x17,x18,x19,x20,x21,rfl⟩:=len8 len11
  have h22:=o13 0 (by decide)
  rw [cells24] at h22
  change okT _ _ _ 24 [x14,x15,x16,x17] at h22
  obtain ⟨d24,len23,o25⟩:=QbE h22 Tryz.underlying24
  simp only [List.mem_cons,List.mem_nil_iff,or_false,forall_eq_or_imp,forall_eq] at o25
  have h26:=o25.1
  rw [cells3] at h26
  change okT _ _ _ 3 [x14] at h26
  obtain ⟨n27,e28,g29⟩:=Yw h26 Tryz.underlying3
  have wf30:=Z3 g29
  cases e28
  have h31:=o25.2.1
  rw [cells3] at h31
  change okT _ _ _ 3 [x15] at h31
  obtain ⟨n32,e33,g34⟩:=Yw h31 Tryz.underlying3
  have wf35:=Z3 g34
  cases e33
  have h36:=o25.2.2.1
  rw [cells3] at h36
  change okT _ _ _ 3 [x16] at h36
  obtain ⟨n37,e38,g39⟩:=Yw h36 Tryz.underlying3
  have wf40:=Z3 g39
  cases e38
  have h41:=o25.2.2.2
  rw [cells22] at h41
  change okT _ _ _ 22 [x17] at h41
  obtain ⟨d51,a42,n43,cap44,cell45,e46,hn47,hcap48,sl49,rows50⟩:=QcT h41 Tryz.underlying22 (by rw [cells87];decide)
  rw [cells87] at sl49
  cases e46
  have h52:=o13 1 (by decide)
  rw [cells24] at h52
  change okT _ _ _ 24 [x18,x19,x20,x21] at h52
  obtain ⟨d54,len53,o55⟩:=QbE h52 Tryz.underlying24
  simp only [List.mem_cons,List.mem_nil_iff,or_false,forall_eq_or_imp,forall_eq] at o55
  have h56:=o55.1
  rw [cells3] at h56
  change okT _ _ _ 3 [x18] at h56
  obtain ⟨n57,e58,g59⟩:=Yw h56 Tryz.underlying3
  have wf60:=Z3 g59
  cases e58
  have h61:=o55.2.1
  rw [cells3] at h61
  change okT _ _ _ 3 [x19] at h61
  obtain ⟨n62,e63,g64⟩:=Yw h61 Tryz.underlying3
  have wf65:=Z3 g64
  cases e63
  have h66:=o55.2.2.1
  rw [cells3] at h66
  change okT _ _ _ 3 [x20] at h66
  obtain ⟨n67,e68,g69⟩:=Yw h66 Tryz.underlying3
  have wf70:=Z3 g69
  cases e68
  have h71:=o55.2.2.2
  rw [cells22] at h71
  change okT _ _ _ 22 [x21] at h71
  obtain ⟨d81,a72,n73,cap74,cell75,e76,hn77,hcap78,sl79,rows80⟩:=QcT h71 Tryz.underlying22 (by rw [cells87];decide)
  rw [cells87] at sl79
  cases e76
  obtain ⟨d83,o82⟩:=QdX h2
  obtain ⟨cs84,rfl,hc85⟩:=Qla (hval 2 30 v2 rfl rfl) (by rw [Tryz.underlying30])
  rw [hc85] at o82
  obtain ⟨d87,len86,o88⟩:=QbE o82 Tryz.underlying30
  rw [cells30] at len86
  obtain ⟨x89,x90,x91,x92,x93,x94,x95,rfl⟩:=len7 len86
  simp only [List.mem_cons,List.mem_nil_iff,or_false,forall_eq_or_imp,forall_eq] at o88
  have h96:=o88.1
  rw [cells28] at h96
  change okT _ _ _ 28 [x89,x90,x91,x92,x93,x94] at h96
  obtain ⟨d98,len97,o99⟩:=QbE h96 Tryz.underlying28
  simp only [List.mem_cons,List.mem_nil_iff,or_false,forall_eq_or_imp,forall_eq] at o99
  have h100:=o99.1
  rw [cells3] at h100
  change okT _ _ _ 3 [x89] at h100
  obtain ⟨n101,e102,g103⟩:=Yw h100 Tryz.underlying3
  have wf104:=Z3 g103
  cases e102
  have h105:=o99.2.1
  rw [cells3] at h105
  change okT _ _ _ 3 [x90] at h105
  obtain ⟨n106,e107,g108⟩:=Yw h105 Tryz.underlying3
  have wf109:=Z3 g108
  cases e107
  have h110:=o99.2.2.1
  rw [cells4] at h110
  change okT _ _ _ 4 [x91] at h110
  obtain ⟨b111,e112⟩:=QdK h110 Tryz.underlying4
  cases e112
  have h113:=o99.2.2.2.1
  rw [cells4] at h113
  change okT _ _ _ 4 [x92] at h113
  obtain ⟨b114,e115⟩:=QdK h113 Tryz.underlying4
  cases e115
  have h116:=o99.2.2.2.2.1
  rw [cells26] at h116
  change okT _ _ _ 26 [x93] at h116
  obtain ⟨d126,a117,n118,cap119,cell120,e121,hn122,hcap123,sl124,rows125⟩:=QcT h116 Tryz.underlying26 (by rw [cells119];decide)
  rw [cells119] at sl124
  cases e121
  have h127:=o99.2.2.2.2.2
  rw [cells26] at h127
  change okT _ _ _ 26 [x94] at h127
  obtain ⟨d137,a128,n129,cap130,cell131,e132,hn133,hcap134,sl135,rows136⟩:=QcT h127 Tryz.underlying26 (by rw [cells119];decide)
  rw [cells119] at sl135
  cases e132
  have h138:=o88.2
  rw [cells3] at h138
  change okT _ _ _ 3 [x95] at h138
  obtain ⟨n139,e140,g141⟩:=Yw h138 Tryz.underlying3
  have wf142:=Z3 g141
  cases e140
  obtain ⟨H,hn_H,hR_H⟩:=Qgp sl49 rows50
  subst hn_H
  obtain ⟨I,hn_I,hR_I⟩:=Qgp sl79 rows80
  subst hn_I
  obtain ⟨E,hn_E,hR_E⟩:=QhT sl124 rows125
  subst hn_E
  obtain ⟨A,hn_A,hR_A⟩:=QhT sl135 rows136
  subst hn_A
  have hcall:=c3 W l4 n27 n32 n37 a42 cap44 H n57 n62 n67 a72 cap74 I ⟨n101,n106,b111,b114,E,A⟩ a117 cap119 a128 cap130 n139 (Qg5 g6) hR_H hR_I hR_E hR_A
  refine (hcall).mono fun e W' ⟨he,hb⟩=>?_
  subst he
  exact ⟨_,rfl,QiJ laid3 (by kernel_rfl) rfl Tryz.underlying4 rfl rfl hW' hb⟩
set_option maxHeartbeats 4000000 in
set_option maxRecDepth 100000 in
theorem facts3 : joinedFacts Tryz.pinned.checked.prog 3 Tryz.f3 Rows.secureFindsSpec Rows.secureFindsRow = true:=by
  unfold joinedFacts
  simp only [Bool.and_eq_true]
  repeat' apply And.intro
  all_goals (as_aux_lemma=>kernel_rfl)
set_option maxRecDepth 100000 in
theorem secureFinds_holds : Rows.SecureFindsSaid:=
  OpenClaim.holds_of_wide 3 Tryz.f3 rfl rfl rfl rfl rfl rfl rfl ⟨rfl,rfl,rfl,rfl,rfl⟩ rfl rfl rfl rfl rfl (by kernel_rfl) Tryz.func3 facts3
    (of_decide_eq_true (by kernel_rfl)) (by unfold Func.isWrapper;first | (rw [if_pos (by decide +kernel)];kernel_rfl) | (rw [if_neg (by decide +kernel)];exact ⟨rfl,rfl⟩))
    (fun os started H enc _=>lifted3 os started H enc)
set_option maxRecDepth 100000 in
theorem secureFinds_card_holds : Rows.SecureFindsCardSaid:=
  Claim7.holds_tied_plain_at .later [] [.data, .pinned] true (true, "461a242228780dcce8fda16fe2e57637863c65a26d6c3082d14312150005a992") false
    secureFinds_holds (fun _ h=>by cases h) (by kernel_rfl) (fun _ h=>by cases h) secureFinds_row_tie rfl ⟨rfl,rfl⟩ (by kernel_rfl) rfl
    (fun f fn hf hfn=>by
      obtain rfl : f = 3 := Option.some.inj ((show Tryz.prog.funcNamed "depository/depositorylaw18.SecureFinds" = some 3 by kernel_rfl).symm.trans hf) |>.symm
      obtain rfl : fn = Tryz.f3:=(Option.some.inj (Tryz.func3.symm.trans hfn)).symm
      exact ⟨by kernel_rfl,fun j t ht=>by
        rw [Tryz.params3] at ht
        have hm : t ∈ [9,25,30]:=by simpa using Array.mem_of_getElem? ht
        have hall : ([9,25,30].all fun u=>!Tryz.prog.wantsStandIn u) = true:=by kernel_rfl
        exact (show Tryz.prog.wantsStandIn t = false by simpa using List.all_eq_true.1 hall t hm)⟩)
    (by kernel_rfl)
end Go.Proofs.YtldegbfcaelpdaaGreatDoor
