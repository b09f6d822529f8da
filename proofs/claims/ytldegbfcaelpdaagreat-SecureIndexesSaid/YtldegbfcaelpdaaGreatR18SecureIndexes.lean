/- It is proved that SecureIndexes answers true for every input and leaves its arguments as they read; there are no conditions. -/
import Derived.WalkKit
import Derived.Deep.Draws
import Derived.TacticsIn
import Derived.OrdersIn
import Derived.RangeFuncLeaves
import Derived.Lib.Strings
import Derived.Laws.BytesArg
import Derived.Laws.IdiomStrings
import Derived.Deep.Quiet
import Derived.Laws.StructEq
import Derived.ChangeKeysEq
import Derived.Laws.Externs
import Derived.Lib.Overlaps
import Derived.Carry
import Derived.Laws.Small
import Derived.Lib.Bytealg
import Derived.Lib.Builder
import Derived.Laws.Pointers
import Derived.RangeFuncRecord
import Derived.Test.YtldegbfcaelpdaaGreatProg
import Derived.KernelRfl
import Derived.ProofKit
import Derived.OpenShut
import Derived.Lib.UnsafeStr
import Derived.LaidEqlPtr
import Derived.Shelf.Strings.Builder1
import Derived.Shelf.Strings.Builder2
import Derived.Shelf.Small.Strs
import Derived.Shelf.Strings.BuilderF
import Derived.Shelf.Strings.Prefix
import Derived.Shelf.Bits.Mul64
import Derived.Shelf.Strings.Repeat
import Derived.Shelf.Slices.Reverse
import Derived.Ground.Names2Prog
import Derived.Shelf.Slices.Clone
import Derived.Shelf.Slices.Cells
import Derived.Ground.SlgnProg
import Derived.Shelf.SlicesE.Clone
import Derived.Test.YtldegbfcaelpdaaGreatRows
import Derived.Test.YtldegbfcaelpdaaGreatP5
namespace Go.Proofs.YtldegbfcaelpdaaGreat
open Go Go.RowKit Go.ChangeShapes Go.WideShapes Go.ChangeAt Gx Go.Proofs
set_option linter.unusedVariables false

theorem len2 {cs : List Value} (h : cs.length = 2) : ∃ x0 x1,cs = [x0,x1]:=by
  match cs,h with
  | [x0,x1],_=>exact ⟨x0,x1,rfl⟩
theorem len4 {cs : List Value} (h : cs.length = 4) : ∃ x0 x1 x2 x3,cs = [x0,x1,x2,x3]:=by
  match cs,h with
  | [x0,x1,x2,x3],_=>exact ⟨x0,x1,x2,x3,rfl⟩
theorem cells3 : Tryz.prog.cellsOf 3 = 1:=by kernel_rfl
theorem cells22 : Tryz.prog.cellsOf 22 = 1:=by kernel_rfl
theorem cells24 : Tryz.prog.cellsOf 24 = 2:=by kernel_rfl
theorem cells25 : Tryz.prog.cellsOf 25 = 1:=by kernel_rfl
theorem cells27 : Tryz.prog.cellsOf 27 = 4:=by kernel_rfl
theorem cells61 : Tryz.prog.cellsOf 61 = 2:=by kernel_rfl
theorem cells64 : Tryz.prog.cellsOf 64 = 3:=by kernel_rfl
theorem own3 : ownKnob Tryz.prog.godebug = none:=by kernel_rfl
theorem laid3 : laidOutB Tryz.prog = true:=by kernel_rfl
theorem slice_inj {a a2 : Option Addr} {n n2 c c2 : Nat} (h : [Value.slice a n c] = [Value.slice a2 n2 c2]) : a = a2 ∧ n = n2 ∧ c = c2:=by cases h;exact ⟨rfl,rfl,rfl⟩
set_option maxRecDepth 100000 in
theorem lifted3 (os : Os) (started : os.Started) (H : Type) (enc : TypeId × Value → H) :
    ReturnsInHanded {} Tryz.checked os 3 .any (Rows.secureIndexesSpec.pre6 enc Tryz.prog Tryz.f3 Rows.secureIndexesRow.domain false) (Rows.secureIndexesSpec.post enc Tryz.prog Tryz.f3 false true false false):=by
  refine returnsInHanded_of_change (C:=Tryz.checked) own3 started (by kernel_rfl) Tryz.func3
    (ChangeSpec.witness6 (enc:=enc) (C:=Tryz.checked) false ⟨#[],#[.agg #[.int .i64 0,.slice none 0 0],.agg #[.int .i64 0,.int .i64 0,.int .i64 0,.slice none 0 0],.agg #[.int .i64 0,.int .i64 0,.int .i64 0,.slice none 0 0]],[]⟩ 8 (by kernel_rfl) (by kernel_rfl) (by kernel_rfl) (by kernel_rfl)) ?_
  intro W base args ds gs before hval0 hW hcnd _
  have hval : ∀ (j : Nat) t v,Tryz.f3.params[j]? = some t → args[j]? = some v → Value.okWide Tryz.prog W .any base t v:=hval0
  have hW':=hW
  obtain ⟨p,q,hA0,hV,rfl,hfz,hnd⟩:=hW
  have hA : DataW.TrodAll enc Tryz.prog W 0 (fun _=>true) true Tryz.f3.params.toList args.toList ds p:=hA0
  rw [Tryz.params3] at hA hval
  obtain ⟨v0,vs0,d0,ds0,p0,q0,hargs0,rfl,rfl,h0,r0⟩:=trodAll_cons hA
  obtain ⟨v1,vs1,d1,ds1,p1,q1,hargs1,rfl,rfl,h1,r1⟩:=trodAll_cons r0
  obtain ⟨v2,vs2,d2,ds2,p2,q2,hargs2,rfl,rfl,h2,r2⟩:=trodAll_cons r1
  obtain ⟨rfl,rfl,rfl⟩:=trodAll_nil r2
  obtain rfl : args = #[v0,v1,v2]:=by cases args;simp_all
  obtain ⟨d2,o1⟩:=QfZ h0
  obtain ⟨cs3,rfl,hc4⟩:=Qi8 (hval 0 24 v0 rfl rfl) (by rw [Tryz.underlying24])
  rw [hc4] at o1
  obtain ⟨d6,len5,o7⟩:=Qd2 o1 Tryz.underlying24
  rw [cells24] at len5
  obtain ⟨x8,x9,rfl⟩:=len2 len5
  simp only [List.mem_cons,List.mem_nil_iff,or_false,forall_eq_or_imp,forall_eq] at o7
  have h10:=o7.1
  rw [cells3] at h10
  change okT _ _ _ 3 [x8] at h10
  obtain ⟨n11,e12,g13⟩:=ZC h10 Tryz.underlying3
  have wf14:=QcI g13
  cases e12
  have h15:=o7.2
  rw [cells22] at h15
  change okT _ _ _ 22 [x9] at h15
  obtain ⟨d25,a16,n17,cap18,cell19,e20,hn21,hcap22,sl23,rows24⟩:=QfW h15 Tryz.underlying22 (by rw [cells61];decide)
  rw [cells61] at sl23
  cases e20
  obtain ⟨d27,o26⟩:=QfZ h1
  obtain ⟨cs28,rfl,hc29⟩:=Qi8 (hval 1 27 v1 rfl rfl) (by rw [Tryz.underlying27])
  rw [hc29] at o26
  obtain ⟨d31,len30,o32⟩:=Qd2 o26 Tryz.underlying27
  rw [cells27] at len30
  obtain ⟨x33,x34,x35,x36,rfl⟩:=len4 len30
  simp only [List.mem_cons,List.mem_nil_iff,or_false,forall_eq_or_imp,forall_eq] at o32
  have h37:=o32.1
  rw [cells3] at h37
  change okT _ _ _ 3 [x33] at h37
  obtain ⟨n38,e39,g40⟩:=ZC h37 Tryz.underlying3
  have wf41:=QcI g40
  cases e39
  have h42:=o32.2.1
  rw [cells3] at h42
  change okT _ _ _ 3 [x34] at h42
  obtain ⟨n43,e44,g45⟩:=ZC h42 Tryz.underlying3
  have wf46:=QcI g45
  cases e44
  have h47:=o32.2.2.1
  rw [cells3] at h47
  change okT _ _ _ 3 [x35] at h47
  obtain ⟨n48,e49,g50⟩:=ZC h47 Tryz.underlying3
  have wf51:=QcI g50
  cases e49
  have h52:=o32.2.2.2
  rw [cells25] at h52
  change okT _ _ _ 25 [x36] at h52
  obtain ⟨d62,a53,n54,cap55,cell56,e57,hn58,hcap59,sl60,rows61⟩:=QfW h52 Tryz.underlying25 (by rw [cells64];decide)
  rw [cells64] at sl60
  cases e57
  obtain ⟨d64,o63⟩:=QfZ h2
  obtain ⟨cs65,rfl,hc66⟩:=Qi8 (hval 2 27 v2 rfl rfl) (by rw [Tryz.underlying27])
  rw [hc66] at o63
  obtain ⟨d68,len67,o69⟩:=Qd2 o63 Tryz.underlying27
  rw [cells27] at len67
  obtain ⟨x70,x71,x72,x73,rfl⟩:=len4 len67
  simp only [List.mem_cons,List.mem_nil_iff,or_false,forall_eq_or_imp,forall_eq] at o69
  have h74:=o69.1
  rw [cells3] at h74
  change okT _ _ _ 3 [x70] at h74
  obtain ⟨n75,e76,g77⟩:=ZC h74 Tryz.underlying3
  have wf78:=QcI g77
  cases e76
  have h79:=o69.2.1
  rw [cells3] at h79
  change okT _ _ _ 3 [x71] at h79
  obtain ⟨n80,e81,g82⟩:=ZC h79 Tryz.underlying3
  have wf83:=QcI g82
  cases e81
  have h84:=o69.2.2.1
  rw [cells3] at h84
  change okT _ _ _ 3 [x72] at h84
  obtain ⟨n85,e86,g87⟩:=ZC h84 Tryz.underlying3
  have wf88:=QcI g87
  cases e86
  have h89:=o69.2.2.2
  rw [cells25] at h89
  change okT _ _ _ 25 [x73] at h89
  obtain ⟨d99,a90,n91,cap92,cell93,e94,hn95,hcap96,sl97,rows98⟩:=QfW h89 Tryz.underlying25 (by rw [cells64];decide)
  rw [cells64] at sl97
  cases e94
  obtain ⟨l,hn_l,hR_l,hB_l⟩:=QmO sl23 rows24
  subst hn_l
  obtain ⟨H,hn_H,hR_H⟩:=QiG sl60 rows61
  subst hn_H
  obtain ⟨I,hn_I,hR_I⟩:=QiG sl97 rows98
  subst hn_I
  have hcall:=c3 W n11 a16 cap18 l n38 n43 n48 a53 cap55 H n75 n80 n85 a90 cap92 I hR_l (Nat.le_trans hn21 hcap22) hB_l hR_H hR_I
  refine (hcall).mono fun e W' ⟨he,hb⟩=>?_
  subst he
  exact ⟨_,rfl,Qlj laid3 (by kernel_rfl) rfl Tryz.underlying4 rfl rfl hW' hb⟩
set_option maxRecDepth 100000 in
theorem secureIndexes_holds : Rows.SecureIndexesSaid:=
  OpenClaim.holds_of_wide 3 Tryz.f3 rfl rfl rfl rfl rfl rfl rfl ⟨rfl,rfl,rfl,rfl,rfl⟩ rfl rfl rfl rfl rfl (by kernel_rfl) Tryz.func3 (by kernel_rfl)
    (of_decide_eq_true (by kernel_rfl)) (by unfold Func.isWrapper;first | (rw [if_pos (by decide +kernel)];kernel_rfl) | (rw [if_neg (by decide +kernel)];exact ⟨rfl,rfl⟩))
    (fun os started H enc _=>lifted3 os started H enc)
end Go.Proofs.YtldegbfcaelpdaaGreat
