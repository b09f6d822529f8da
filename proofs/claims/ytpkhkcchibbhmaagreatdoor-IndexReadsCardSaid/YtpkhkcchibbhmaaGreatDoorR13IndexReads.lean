/- It is proved that IndexReads answers true for every input and leaves its arguments as they read; there are no conditions. -/
import Derived.WalkKit
import Derived.Deep.Draws
import Derived.TacticsIn
import Derived.OrdersIn
import Derived.RangeFuncLeaves
import Derived.Lib.Strings
import Derived.Laws.BytesArg
import Derived.Laws.IdiomStrings
import Derived.Deep.Quiet
import Derived.ProofKit
import Derived.OpenShut
import Derived.Laws.StructEq
import Derived.ChangeKeysEq
import Derived.Laws.Externs
import Derived.Lib.Overlaps
import Derived.Carry
import Derived.Laws.Small
import Derived.Lib.Bytealg
import Derived.Lib.Builder
import Derived.Laws.Pointers
import Derived.RangeFuncRecord
import Derived.Test.YtpkhkcchibbhmaaGreatDoorProg
import Derived.KernelRfl
import Derived.SizedLaws
import Derived.ChangeSame
import Derived.Handed
import Derived.Test.YtpkhkcchibbhmaaGreatDoorRows
import Derived.Test.YtpkhkcchibbhmaaGreatDoorTie
import Derived.Test.YtpkhkcchibbhmaaGreatDoorCards
import Derived.SevenTiedAt
import Derived.LaidMore
import Derived.Lay
import Derived.Stop.Joined
import Derived.Test.YtpkhkcchibbhmaaGreatDoorP5
namespace Go.Proofs.YtpkhkcchibbhmaaGreatDoor
open Go Go.RowKit Go.ChangeShapes Go.WideShapes Go.ChangeAt Gx Go.Proofs
set_option linter.unusedVariables false

theorem len3 {cs : List Value} (h : cs.length = 3) : ∃ x0 x1 x2,cs = [x0,x1,x2]:=by
  match cs,h with
  | [x0,x1,x2],_=>exact ⟨x0,x1,x2,rfl⟩
theorem len4 {cs : List Value} (h : cs.length = 4) : ∃ x0 x1 x2 x3,cs = [x0,x1,x2,x3]:=by
  match cs,h with
  | [x0,x1,x2,x3],_=>exact ⟨x0,x1,x2,x3,rfl⟩
theorem cells3 : Tryz.prog.cellsOf 3 = 1:=by kernel_rfl
theorem cells9 : Tryz.prog.cellsOf 9 = 1:=by kernel_rfl
theorem cells23 : Tryz.prog.cellsOf 23 = 3:=by kernel_rfl
theorem cells35 : Tryz.prog.cellsOf 35 = 1:=by kernel_rfl
theorem cells37 : Tryz.prog.cellsOf 37 = 4:=by kernel_rfl
theorem cells69 : Tryz.prog.cellsOf 69 = 3:=by kernel_rfl
theorem own4 : ownKnob Tryz.prog.godebug = none:=by kernel_rfl
theorem laid4 : laidOutB Tryz.prog = true:=by kernel_rfl
theorem slice_inj {a a2 : Option Addr} {n n2 c c2 : Nat} (h : [Value.slice a n c] = [Value.slice a2 n2 c2]) : a = a2 ∧ n = n2 ∧ c = c2:=by cases h;exact ⟨rfl,rfl,rfl⟩
/-- The variables that the rows list. -/
def Qmy : List (String × DataW Unit) := [("unicode/utf8.acceptRanges", Rows.laid_unicode_utf8_acceptRanges), ("unicode/utf8.first", Rows.laid_unicode_utf8_first)]

set_option maxHeartbeats 1000000 in
set_option maxRecDepth 100000 in
theorem lifted4 (os : Os) (started : os.Started) (H : Type) (enc : TypeId × Value → H) :
    ReturnsInHanded {} Tryz.checked os 4 .any (fun w args=>(Rows.indexReadsSpec.pre enc Tryz.prog Tryz.f4 [] false w args ∧ laidMetH Tryz.prog Qmy w) ∧ sizedMet enc Tryz.prog Tryz.f4 (OpenSpec.ofChange Rows.indexReadsSpec) false w args)
      (Rows.indexReadsSpec.post enc Tryz.prog Tryz.f4 false true false false):=by
  refine returnsInHanded_of_change_and (C:=Tryz.checked) (X:=fun w _=>laidMetH Tryz.prog Qmy w) (fun _ _ _ hh h=>h.of_heap hh) own4 started (by kernel_rfl) Tryz.func4
    (ChangeSpec.witness_shaped (enc:=enc) (C:=Tryz.checked) (os:=os) (X:=fun w _=>laidMetH Tryz.prog Qmy w) false (World.laidAll Tryz.prog os Qmy) #[.agg #[.int .i64 0,.int .i64 0,.int .i64 0,.slice none 0 0],.agg #[.string (bs []),.string (bs []),.string (bs [])]] 8 (World.laidAll_os _ _ _) (World.shaped_of_ZipB (by kernel_rfl) (by kernel_rfl)) (by kernel_rfl) (by kernel_rfl) (by kernel_rfl) (by rw [MakeChecks.laidMetH_plain _ _ _ (by kernel_rfl)];exact laidMet_laidAll _ (by kernel_rfl) (by kernel_rfl))) ?_
  intro W base args ds gs before hval0 hW _ hsz hL _
  have hval : ∀ (j : Nat) t v,Tryz.f4.params[j]? = some t → args[j]? = some v → Value.okWide Tryz.prog W .any base t v:=hval0
  have hW':=hW
  obtain ⟨p,q,hA0,hV,rfl,hfz,hnd⟩:=hW
  have hA : DataW.TrodAll enc Tryz.prog W 0 (fun _=>true) true Tryz.f4.params.toList args.toList ds p:=hA0
  rw [Tryz.params4] at hA hval
  obtain ⟨v0,vs0,d0,ds0,p0,q0,hargs0,rfl,rfl,h0,r0⟩:=trodAll_cons hA
  obtain ⟨v1,vs1,d1,ds1,p1,q1,hargs1,rfl,rfl,h1,r1⟩:=trodAll_cons r0
  obtain ⟨rfl,rfl,rfl⟩:=trodAll_nil r1
  obtain rfl : args = #[v0,v1]:=by cases args;simp_all
  obtain ⟨d2,o1⟩:=QkD h0
  obtain ⟨cs3,rfl,hc4⟩:=QpO (hval 0 37 v0 rfl rfl) (by rw [Tryz.underlying37])
  rw [hc4] at o1
  obtain ⟨d6,len5,o7⟩:=QiF o1 Tryz.underlying37
  rw [cells37] at len5
  obtain ⟨x8,x9,x10,x11,rfl⟩:=len4 len5
  simp only [List.mem_cons,List.mem_nil_iff,or_false,forall_eq_or_imp,forall_eq] at o7
  have h12:=o7.1
  rw [cells3] at h12
  change okT _ _ _ 3 [x8] at h12
  obtain ⟨n13,e14,g15⟩:=QfK h12 Tryz.underlying3
  have wf16:=Qlj g15
  cases e14
  have h17:=o7.2.1
  rw [cells3] at h17
  change okT _ _ _ 3 [x9] at h17
  obtain ⟨n18,e19,g20⟩:=QfK h17 Tryz.underlying3
  have wf21:=Qlj g20
  cases e19
  have h22:=o7.2.2.1
  rw [cells3] at h22
  change okT _ _ _ 3 [x10] at h22
  obtain ⟨n23,e24,g25⟩:=QfK h22 Tryz.underlying3
  have wf26:=Qlj g25
  cases e24
  have h27:=o7.2.2.2
  rw [cells35] at h27
  change okT _ _ _ 35 [x11] at h27
  obtain ⟨d37,a28,n29,cap30,cell31,e32,hn33,hcap34,sl35,rows36⟩:=Qlv h27 Tryz.underlying35 (by rw [cells69];decide)
  rw [cells69] at sl35
  cases e32
  obtain ⟨d39,o38⟩:=QkD h1
  obtain ⟨cs40,rfl,hc41⟩:=QpO (hval 1 23 v1 rfl rfl) (by rw [Tryz.underlying23])
  rw [hc41] at o38
  obtain ⟨d43,len42,o44⟩:=QiF o38 Tryz.underlying23
  rw [cells23] at len42
  obtain ⟨x45,x46,x47,rfl⟩:=len3 len42
  simp only [List.mem_cons,List.mem_nil_iff,or_false,forall_eq_or_imp,forall_eq] at o44
  have h48:=o44.1
  rw [cells9] at h48
  change okT _ _ _ 9 [x45] at h48
  obtain ⟨l49,e50,g51⟩:=QfQ h48 Tryz.underlying9
  cases e50
  have h52:=o44.2.1
  rw [cells9] at h52
  change okT _ _ _ 9 [x46] at h52
  obtain ⟨l53,e54,g55⟩:=QfQ h52 Tryz.underlying9
  cases e54
  have h56:=o44.2.2
  rw [cells9] at h56
  change okT _ _ _ 9 [x47] at h56
  obtain ⟨l57,e58,g59⟩:=QfQ h56 Tryz.underlying9
  cases e58
  obtain ⟨L,hn_L,hR_L⟩:=QrH sl35 rows36
  subst hn_L
  have hcall:=c4 W n13 n18 n23 a28 cap30 L ⟨l49,l53,l57⟩ hR_L
  refine (hcall).mono fun e W' ⟨he,hb⟩=>?_
  subst he
  exact ⟨_,rfl,Qoi laid4 (by kernel_rfl) rfl Tryz.underlying4 rfl rfl hW' hb⟩
set_option maxHeartbeats 4000000 in
set_option maxRecDepth 100000 in
theorem facts4 : joinedFacts Tryz.pinned.checked.prog 4 Tryz.f4 Rows.indexReadsSpec Rows.indexReadsRow = true:=by
  unfold joinedFacts
  simp only [Bool.and_eq_true]
  repeat' apply And.intro
  all_goals (as_aux_lemma=>kernel_rfl)
set_option maxRecDepth 100000 in
theorem indexReads_holds : Rows.IndexReadsSaid:=
  OpenClaim.holds_of_wide 4 Tryz.f4 rfl rfl rfl rfl rfl rfl rfl ⟨rfl,rfl,rfl,rfl,rfl⟩ rfl rfl rfl rfl rfl (by kernel_rfl) Tryz.func4 facts4
    (of_decide_eq_true (by kernel_rfl)) (by unfold Func.isWrapper;first | (rw [if_pos (by decide +kernel)];kernel_rfl) | (rw [if_neg (by decide +kernel)];exact ⟨rfl,rfl⟩))
    (fun os started H enc _=>lifted4 os started H enc)
set_option maxRecDepth 100000 in
theorem indexReads_card_holds : Rows.IndexReadsCardSaid:=
  Claim7.holds_tied_plain_at .later [] [.data, .pinned] true (true, "c5ebd5e0d9bc2593234677e5ce9251e3e06fa811a55768f9113ba6f330c52f28") false
    indexReads_holds (fun _ h=>by cases h) (by kernel_rfl) (fun _ h=>by cases h) indexReads_row_tie rfl ⟨rfl,rfl⟩ (by kernel_rfl) rfl
    (fun f fn hf hfn=>by
      obtain rfl : f = 4 := Option.some.inj ((show Tryz.prog.funcNamed "depository/depositorylaw13.IndexReads" = some 4 by kernel_rfl).symm.trans hf) |>.symm
      obtain rfl : fn = Tryz.f4:=(Option.some.inj (Tryz.func4.symm.trans hfn)).symm
      exact ⟨by kernel_rfl,fun j t ht=>by
        rw [Tryz.params4] at ht
        have hm : t ∈ [37,23]:=by simpa using Array.mem_of_getElem? ht
        have hall : ([37,23].all fun u=>!Tryz.prog.wantsStandIn u) = true:=by kernel_rfl
        exact (show Tryz.prog.wantsStandIn t = false by simpa using List.all_eq_true.1 hall t hm)⟩)
    (by kernel_rfl)
end Go.Proofs.YtpkhkcchibbhmaaGreatDoor
