/- It is proved that IndexNodes answers true for every input and leaves its arguments as they read; there are no conditions. -/
import Derived.WalkKit
import Derived.Deep.Draws
import Derived.TacticsIn
import Derived.OrdersIn
import Derived.RangeFuncLeaves
import Derived.Lib.Strings
import Derived.Laws.BytesArg
import Derived.Laws.IdiomStrings
import Derived.Deep.Quiet
import Derived.ProofKit
import Derived.OpenShut
import Derived.Laws.StructEq
import Derived.ChangeKeysEq
import Derived.Laws.Externs
import Derived.Lib.Overlaps
import Derived.Carry
import Derived.Laws.Small
import Derived.Lib.Bytealg
import Derived.Lib.Builder
import Derived.Laws.Pointers
import Derived.RangeFuncRecord
import Derived.Test.YtpkhkcchibbhmaaGreatDoorProg
import Derived.KernelRfl
import Derived.SizedLaws
import Derived.ChangeSame
import Derived.Handed
import Derived.Test.YtpkhkcchibbhmaaGreatDoorRows
import Derived.Test.YtpkhkcchibbhmaaGreatDoorTie
import Derived.Test.YtpkhkcchibbhmaaGreatDoorCards
import Derived.SevenTiedAt
import Derived.LaidMore
import Derived.Lay
import Derived.Stop.Joined
import Derived.Test.YtpkhkcchibbhmaaGreatDoorP5
namespace Go.Proofs.YtpkhkcchibbhmaaGreatDoor
open Go Go.RowKit Go.ChangeShapes Go.WideShapes Go.ChangeAt Gx Go.Proofs
set_option linter.unusedVariables false

theorem len3 {cs : List Value} (h : cs.length = 3) : ∃ x0 x1 x2,cs = [x0,x1,x2]:=by
  match cs,h with
  | [x0,x1,x2],_=>exact ⟨x0,x1,x2,rfl⟩
theorem len4 {cs : List Value} (h : cs.length = 4) : ∃ x0 x1 x2 x3,cs = [x0,x1,x2,x3]:=by
  match cs,h with
  | [x0,x1,x2,x3],_=>exact ⟨x0,x1,x2,x3,rfl⟩
theorem cells3 : Tryz.prog.cellsOf 3 = 1:=by kernel_rfl
theorem cells35 : Tryz.prog.cellsOf 35 = 1:=by kernel_rfl
theorem cells37 : Tryz.prog.cellsOf 37 = 4:=by kernel_rfl
theorem cells69 : Tryz.prog.cellsOf 69 = 3:=by kernel_rfl
theorem cells78 : Tryz.prog.cellsOf 78 = 3:=by kernel_rfl
theorem own7 : ownKnob Tryz.prog.godebug = none:=by kernel_rfl
theorem laid7 : laidOutB Tryz.prog = true:=by kernel_rfl
theorem slice_inj {a a2 : Option Addr} {n n2 c c2 : Nat} (h : [Value.slice a n c] = [Value.slice a2 n2 c2]) : a = a2 ∧ n = n2 ∧ c = c2:=by cases h;exact ⟨rfl,rfl,rfl⟩
/-- The variables that the rows list. -/
def Qln : List (String × DataW Unit) := [("unicode/utf8.acceptRanges", Rows.laid_unicode_utf8_acceptRanges), ("unicode/utf8.first", Rows.laid_unicode_utf8_first)]

set_option maxHeartbeats 1000000 in
set_option maxRecDepth 100000 in
theorem lifted7 (os : Os) (started : os.Started) (H : Type) (enc : TypeId × Value → H) :
    ReturnsInHanded {} Tryz.checked os 7 .any (fun w args=>(Rows.indexNodesSpec.pre enc Tryz.prog Tryz.f7 [] false w args ∧ laidMetH Tryz.prog Qln w) ∧ sizedMet enc Tryz.prog Tryz.f7 (OpenSpec.ofChange Rows.indexNodesSpec) false w args)
      (Rows.indexNodesSpec.post enc Tryz.prog Tryz.f7 false true false false):=by
  refine returnsInHanded_of_change_and (C:=Tryz.checked) (X:=fun w _=>laidMetH Tryz.prog Qln w) (fun _ _ _ hh h=>h.of_heap hh) own7 started (by kernel_rfl) Tryz.func7
    (ChangeSpec.witness_shaped (enc:=enc) (C:=Tryz.checked) (os:=os) (X:=fun w _=>laidMetH Tryz.prog Qln w) false (World.laidAll Tryz.prog os Qln) #[.agg #[.int .i64 0,.int .i64 0,.int .i64 0,.slice none 0 0],.agg #[.int .i64 0,.int .i64 0,.int .i64 0],.string (bs [])] 8 (World.laidAll_os _ _ _) (World.shaped_of_ZipB (by kernel_rfl) (by kernel_rfl)) (by kernel_rfl) (by kernel_rfl) (by kernel_rfl) (by rw [MakeChecks.laidMetH_plain _ _ _ (by kernel_rfl)];exact laidMet_laidAll _ (by kernel_rfl) (by kernel_rfl))) ?_
  intro W base args ds gs before hval0 hW _ hsz hL _
  have hval : ∀ (j : Nat) t v,Tryz.f7.params[j]? = some t → args[j]? = some v → Value.okWide Tryz.prog W .any base t v:=hval0
  have hW':=hW
  obtain ⟨p,q,hA0,hV,rfl,hfz,hnd⟩:=hW
  have hA : DataW.TrodAll enc Tryz.prog W 0 (fun _=>true) true Tryz.f7.params.toList args.toList ds p:=hA0
  rw [Tryz.params7] at hA hval
  obtain ⟨v0,vs0,d0,ds0,p0,q0,hargs0,rfl,rfl,h0,r0⟩:=trodAll_cons hA
  obtain ⟨v1,vs1,d1,ds1,p1,q1,hargs1,rfl,rfl,h1,r1⟩:=trodAll_cons r0
  obtain ⟨v2,vs2,d2,ds2,p2,q2,hargs2,rfl,rfl,h2,r2⟩:=trodAll_cons r1
  obtain ⟨rfl,rfl,rfl⟩:=trodAll_nil r2
  obtain rfl : args = #[v0,v1,v2]:=by cases args;simp_all
  obtain ⟨d2,o1⟩:=QfS h0
  obtain ⟨cs3,rfl,hc4⟩:=Qq3 (hval 0 37 v0 rfl rfl) (by rw [Tryz.underlying37])
  rw [hc4] at o1
  obtain ⟨d6,len5,o7⟩:=QhP o1 Tryz.underlying37
  rw [cells37] at len5
  obtain ⟨x8,x9,x10,x11,rfl⟩:=len4 len5
  simp only [List.mem_cons,List.mem_nil_iff,or_false,forall_eq_or_imp,forall_eq] at o7
  have h12:=o7.1
  rw [cells3] at h12
  change okT _ _ _ 3 [x8] at h12
  obtain ⟨n13,e14,g15⟩:=Qa5 h12 Tryz.underlying3
  have wf16:=Qev g15
  cases e14
  have h17:=o7.2.1
  rw [cells3] at h17
  change okT _ _ _ 3 [x9] at h17
  obtain ⟨n18,e19,g20⟩:=Qa5 h17 Tryz.underlying3
  have wf21:=Qev g20
  cases e19
  have h22:=o7.2.2.1
  rw [cells3] at h22
  change okT _ _ _ 3 [x10] at h22
  obtain ⟨n23,e24,g25⟩:=Qa5 h22 Tryz.underlying3
  have wf26:=Qev g25
  cases e24
  have h27:=o7.2.2.2
  rw [cells35] at h27
  change okT _ _ _ 35 [x11] at h27
  obtain ⟨d37,a28,n29,cap30,cell31,e32,hn33,hcap34,sl35,rows36⟩:=QkT h27 Tryz.underlying35 (by rw [cells69];decide)
  rw [cells69] at sl35
  cases e32
  obtain ⟨d39,o38⟩:=QfS h1
  obtain ⟨cs40,rfl,hc41⟩:=Qq3 (hval 1 78 v1 rfl rfl) (by rw [Tryz.underlying78])
  rw [hc41] at o38
  obtain ⟨d43,len42,o44⟩:=QhP o38 Tryz.underlying78
  rw [cells78] at len42
  obtain ⟨x45,x46,x47,rfl⟩:=len3 len42
  simp only [List.mem_cons,List.mem_nil_iff,or_false,forall_eq_or_imp,forall_eq] at o44
  have h48:=o44.1
  rw [cells3] at h48
  change okT _ _ _ 3 [x45] at h48
  obtain ⟨n49,e50,g51⟩:=Qa5 h48 Tryz.underlying3
  have wf52:=Qev g51
  cases e50
  have h53:=o44.2.1
  rw [cells3] at h53
  change okT _ _ _ 3 [x46] at h53
  obtain ⟨n54,e55,g56⟩:=Qa5 h53 Tryz.underlying3
  have wf57:=Qev g56
  cases e55
  have h58:=o44.2.2
  rw [cells3] at h58
  change okT _ _ _ 3 [x47] at h58
  obtain ⟨n59,e60,g61⟩:=Qa5 h58 Tryz.underlying3
  have wf62:=Qev g61
  cases e60
  obtain ⟨d64,o63⟩:=QfS h2
  obtain ⟨x65,rfl⟩:=okWide_string Tryz.underlying9 (hval 2 9 v2 rfl rfl)
  obtain ⟨l66,e67,g68⟩:=Qlv o63 Tryz.underlying9
  cases e67
  obtain ⟨L,hn_L,hR_L⟩:=Qn9 sl35 rows36
  subst hn_L
  have hcall:=c7 W n13 n18 n23 a28 cap30 L n49 n54 n59 l66 hR_L
  refine (hcall).mono fun e W' ⟨he,hb⟩=>?_
  subst he
  exact ⟨_,rfl,QmI laid7 (by kernel_rfl) rfl Tryz.underlying4 rfl rfl hW' hb⟩
set_option maxHeartbeats 4000000 in
set_option maxRecDepth 100000 in
theorem facts7 : joinedFacts Tryz.pinned.checked.prog 7 Tryz.f7 Rows.indexNodesSpec Rows.indexNodesRow = true:=by
  unfold joinedFacts
  simp only [Bool.and_eq_true]
  repeat' apply And.intro
  all_goals (as_aux_lemma=>kernel_rfl)
set_option maxRecDepth 100000 in
theorem indexNodes_holds : Rows.IndexNodesSaid:=
  OpenClaim.holds_of_wide 7 Tryz.f7 rfl rfl rfl rfl rfl rfl rfl ⟨rfl,rfl,rfl,rfl,rfl⟩ rfl rfl rfl rfl rfl (by kernel_rfl) Tryz.func7 facts7
    (of_decide_eq_true (by kernel_rfl)) (by unfold Func.isWrapper;first | (rw [if_pos (by decide +kernel)];kernel_rfl) | (rw [if_neg (by decide +kernel)];exact ⟨rfl,rfl⟩))
    (fun os started H enc _=>lifted7 os started H enc)
set_option maxRecDepth 100000 in
theorem indexNodes_card_holds : Rows.IndexNodesCardSaid:=
  Claim7.holds_tied_plain_at .later [] [.data, .pinned] true (true, "c5ebd5e0d9bc2593234677e5ce9251e3e06fa811a55768f9113ba6f330c52f28") false
    indexNodes_holds (fun _ h=>by cases h) (by kernel_rfl) (fun _ h=>by cases h) indexNodes_row_tie rfl ⟨rfl,rfl⟩ (by kernel_rfl) rfl
    (fun f fn hf hfn=>by
      obtain rfl : f = 7 := Option.some.inj ((show Tryz.prog.funcNamed "depository/depositorylaw13.IndexNodes" = some 7 by kernel_rfl).symm.trans hf) |>.symm
      obtain rfl : fn = Tryz.f7:=(Option.some.inj (Tryz.func7.symm.trans hfn)).symm
      exact ⟨by kernel_rfl,fun j t ht=>by
        rw [Tryz.params7] at ht
        have hm : t ∈ [37,78,9]:=by simpa using Array.mem_of_getElem? ht
        have hall : ([37,78,9].all fun u=>!Tryz.prog.wantsStandIn u) = true:=by kernel_rfl
        exact (show Tryz.prog.wantsStandIn t = false by simpa using List.all_eq_true.1 hall t hm)⟩)
    (by kernel_rfl)
end Go.Proofs.YtpkhkcchibbhmaaGreatDoor
