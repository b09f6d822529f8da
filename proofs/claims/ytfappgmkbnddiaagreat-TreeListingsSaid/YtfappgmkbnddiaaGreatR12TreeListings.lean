/- It is proved that TreeListings answers true for every input and leaves its arguments as they read; there are no conditions. -/
import Derived.WalkKit
import Derived.Deep.Draws
import Derived.TacticsIn
import Derived.OrdersIn
import Derived.RangeFuncLeaves
import Derived.Lib.Strings
import Derived.Laws.BytesArg
import Derived.Laws.IdiomStrings
import Derived.Deep.Quiet
import Derived.ProofKit
import Derived.OpenShut
import Derived.Laws.StructEq
import Derived.ChangeKeysEq
import Derived.Laws.Externs
import Derived.Lib.Overlaps
import Derived.Carry
import Derived.Laws.Small
import Derived.Lib.Bytealg
import Derived.Test.YtfappgmkbnddiaaGreatProg
import Derived.KernelRfl
import Derived.Lib.Builder
import Derived.Laws.Pointers
import Derived.RangeFuncRecord
import Derived.Test.YtfappgmkbnddiaaGreatRows
import Derived.Test.YtfappgmkbnddiaaGreatP5
namespace Go.Proofs.YtfappgmkbnddiaaGreat
open Go Go.RowKit Go.ChangeShapes Go.WideShapes Go.ChangeAt Gx Go.Proofs
set_option linter.unusedVariables false

theorem len4 {cs : List Value} (h : cs.length = 4) : ∃ x0 x1 x2 x3,cs = [x0,x1,x2,x3]:=by
  match cs,h with
  | [x0,x1,x2,x3],_=>exact ⟨x0,x1,x2,x3,rfl⟩
theorem cells3 : Tryz.prog.cellsOf 3 = 1:=by kernel_rfl
theorem cells22 : Tryz.prog.cellsOf 22 = 1:=by kernel_rfl
theorem cells24 : Tryz.prog.cellsOf 24 = 4:=by kernel_rfl
theorem cells85 : Tryz.prog.cellsOf 85 = 3:=by kernel_rfl
theorem cells102 : Tryz.prog.cellsOf 102 = 3:=by kernel_rfl
theorem own10 : ownKnob Tryz.prog.godebug = none:=by kernel_rfl
theorem laid10 : laidOutB Tryz.prog = true:=by kernel_rfl
theorem slice_inj {a a2 : Option Addr} {n n2 c c2 : Nat} (h : [Value.slice a n c] = [Value.slice a2 n2 c2]) : a = a2 ∧ n = n2 ∧ c = c2:=by cases h;exact ⟨rfl,rfl,rfl⟩
set_option maxRecDepth 100000 in
theorem lifted10 (os : Os) (started : os.Started) (H : Type) (enc : TypeId × Value → H) :
    ReturnsInHanded {} Tryz.checked os 10 .any (Rows.treeListingsSpec.pre6 enc Tryz.prog Tryz.f10 Rows.treeListingsRow.domain false) (Rows.treeListingsSpec.post enc Tryz.prog Tryz.f10 false true false false):=by
  refine returnsInHanded_of_change (C:=Tryz.checked) own10 started (by kernel_rfl) Tryz.func10
    (ChangeSpec.witness6 (enc:=enc) (C:=Tryz.checked) false ⟨#[],#[.agg #[.int .i64 0,.int .i64 0,.int .i64 0,.slice none 0 0],.slice none 0 0,.int .i64 0],[]⟩ 8 (by kernel_rfl) (by kernel_rfl) (by kernel_rfl) (by kernel_rfl)) ?_
  intro W base args ds gs before hval0 hW hcnd _
  have hval : ∀ (j : Nat) t v,Tryz.f10.params[j]? = some t → args[j]? = some v → Value.okWide Tryz.prog W .any base t v:=hval0
  have hW':=hW
  obtain ⟨p,q,hA0,hV,rfl,hfz,hnd⟩:=hW
  have hA : DataW.TrodAll enc Tryz.prog W 0 (fun _=>true) true Tryz.f10.params.toList args.toList ds p:=hA0
  rw [Tryz.params10] at hA hval
  obtain ⟨v0,vs0,d0,ds0,p0,q0,hargs0,rfl,rfl,h0,r0⟩:=trodAll_cons hA
  obtain ⟨v1,vs1,d1,ds1,p1,q1,hargs1,rfl,rfl,h1,r1⟩:=trodAll_cons r0
  obtain ⟨v2,vs2,d2,ds2,p2,q2,hargs2,rfl,rfl,h2,r2⟩:=trodAll_cons r1
  obtain ⟨rfl,rfl,rfl⟩:=trodAll_nil r2
  obtain rfl : args = #[v0,v1,v2]:=by cases args;simp_all
  obtain ⟨d2,o1⟩:=QeP h0
  obtain ⟨cs3,rfl,hc4⟩:=Qqz (hval 0 24 v0 rfl rfl) (by rw [Tryz.underlying24])
  rw [hc4] at o1
  obtain ⟨d6,len5,o7⟩:=QfD o1 Tryz.underlying24
  rw [cells24] at len5
  obtain ⟨x8,x9,x10,x11,rfl⟩:=len4 len5
  simp only [List.mem_cons,List.mem_nil_iff,or_false,forall_eq_or_imp,forall_eq] at o7
  have h12:=o7.1
  rw [cells3] at h12
  change okT _ _ _ 3 [x8] at h12
  obtain ⟨n13,e14,g15⟩:=QbD h12 Tryz.underlying3
  have wf16:=Qf0 g15
  cases e14
  have h17:=o7.2.1
  rw [cells3] at h17
  change okT _ _ _ 3 [x9] at h17
  obtain ⟨n18,e19,g20⟩:=QbD h17 Tryz.underlying3
  have wf21:=Qf0 g20
  cases e19
  have h22:=o7.2.2.1
  rw [cells3] at h22
  change okT _ _ _ 3 [x10] at h22
  obtain ⟨n23,e24,g25⟩:=QbD h22 Tryz.underlying3
  have wf26:=Qf0 g25
  cases e24
  have h27:=o7.2.2.2
  rw [cells22] at h27
  change okT _ _ _ 22 [x11] at h27
  obtain ⟨d37,a28,n29,cap30,cell31,e32,hn33,hcap34,sl35,rows36⟩:=Qf8 h27 Tryz.underlying22 (by rw [cells102];decide)
  rw [cells102] at sl35
  cases e32
  obtain ⟨d39,o38⟩:=QeP h1
  obtain ⟨x40,x41,x42,rfl⟩:=okWide_slice Tryz.underlying82 (hval 1 82 v1 rfl rfl)
  obtain ⟨d52,a43,n44,cap45,cell46,e47,hn48,hcap49,sl50,rows51⟩:=Qf8 o38 Tryz.underlying82 (by rw [cells85];decide)
  rw [cells85] at sl50
  obtain ⟨q53,q54,q55⟩:=slice_inj e47
  subst x40 x41 x42
  obtain ⟨d57,o56⟩:=QeP h2
  obtain ⟨x58,rfl⟩:=okWide_int Tryz.underlying3 (hval 2 3 v2 rfl rfl)
  obtain ⟨n59,e60,g61⟩:=QbD o56 Tryz.underlying3
  have wf62:=Qf0 g61
  cases e60
  obtain ⟨L,hn_L,hR_L⟩:=Qmp sl35 rows36
  subst hn_L
  obtain ⟨l,hn_l,hR_l⟩:=QoI sl50 rows51
  subst hn_l
  have hcall:=c10 W n13 n18 n23 a28 cap30 L a43 cap45 l x58 hR_L hR_l
  refine (hcall).mono fun e W' ⟨he,hb⟩=>?_
  subst he
  exact ⟨_,rfl,Qkj laid10 (by kernel_rfl) rfl Tryz.underlying4 rfl rfl hW' hb⟩
set_option maxRecDepth 100000 in
theorem treeListings_holds : Rows.TreeListingsSaid:=
  OpenClaim.holds_of_wide 10 Tryz.f10 rfl rfl rfl rfl rfl rfl rfl ⟨rfl,rfl,rfl,rfl,rfl⟩ rfl rfl rfl rfl rfl (by kernel_rfl) Tryz.func10 (by kernel_rfl)
    (of_decide_eq_true (by kernel_rfl)) (by unfold Func.isWrapper;first | (rw [if_pos (by decide +kernel)];kernel_rfl) | (rw [if_neg (by decide +kernel)];exact ⟨rfl,rfl⟩))
    (fun os started H enc _=>lifted10 os started H enc)
end Go.Proofs.YtfappgmkbnddiaaGreat
