/- It is proved that IndexTears answers true for every input and leaves its arguments as they read; there are no conditions. -/
import Derived.WalkKit
import Derived.Deep.Draws
import Derived.TacticsIn
import Derived.OrdersIn
import Derived.RangeFuncLeaves
import Derived.Lib.Strings
import Derived.Laws.BytesArg
import Derived.Laws.IdiomStrings
import Derived.Deep.Quiet
import Derived.ProofKit
import Derived.OpenShut
import Derived.Laws.StructEq
import Derived.ChangeKeysEq
import Derived.Laws.Externs
import Derived.Lib.Overlaps
import Derived.Carry
import Derived.Laws.Small
import Derived.Lib.Bytealg
import Derived.Lib.Builder
import Derived.Laws.Pointers
import Derived.RangeFuncRecord
import Derived.Test.YtpkhkcchibbhmaaGreatDoorProg
import Derived.KernelRfl
import Derived.Test.YtpkhkcchibbhmaaGreatDoorRows
import Derived.Test.YtpkhkcchibbhmaaGreatDoorTie
import Derived.Test.YtpkhkcchibbhmaaGreatDoorCards
import Derived.SevenTiedAt
import Derived.LaidMore
import Derived.Lay
import Derived.Stop.Joined
import Derived.Test.YtpkhkcchibbhmaaGreatDoorP6
namespace Go.Proofs.YtpkhkcchibbhmaaGreatDoor
open Go Go.RowKit Go.ChangeShapes Go.WideShapes Go.ChangeAt Gx Go.Proofs
set_option linter.unusedVariables false

theorem len2 {cs : List Value} (h : cs.length = 2) : ∃ x0 x1,cs = [x0,x1]:=by
  match cs,h with
  | [x0,x1],_=>exact ⟨x0,x1,rfl⟩
theorem len3 {cs : List Value} (h : cs.length = 3) : ∃ x0 x1 x2,cs = [x0,x1,x2]:=by
  match cs,h with
  | [x0,x1,x2],_=>exact ⟨x0,x1,x2,rfl⟩
theorem cells4 : Tryz.prog.cellsOf 4 = 1:=by kernel_rfl
theorem cells9 : Tryz.prog.cellsOf 9 = 1:=by kernel_rfl
theorem cells23 : Tryz.prog.cellsOf 23 = 3:=by kernel_rfl
theorem cells27 : Tryz.prog.cellsOf 27 = 2:=by kernel_rfl
theorem own10 : ownKnob Tryz.prog.godebug = none:=by kernel_rfl
theorem laid10 : laidOutB Tryz.prog = true:=by kernel_rfl
theorem slice_inj {a a2 : Option Addr} {n n2 c c2 : Nat} (h : [Value.slice a n c] = [Value.slice a2 n2 c2]) : a = a2 ∧ n = n2 ∧ c = c2:=by cases h;exact ⟨rfl,rfl,rfl⟩
/-- The variables that the rows list. -/
def QmL : List (String × DataW Unit) := [("unicode/utf8.acceptRanges", Rows.laid_unicode_utf8_acceptRanges), ("unicode/utf8.first", Rows.laid_unicode_utf8_first)]

set_option maxHeartbeats 1000000 in
set_option maxRecDepth 100000 in
theorem lifted10 (os : Os) (started : os.Started) (H : Type) (enc : TypeId × Value → H) :
    ReturnsInHanded {} Tryz.checked os 10 .any (fun w args=>(Rows.indexTearsSpec.pre enc Tryz.prog Tryz.f10 [] false w args ∧ laidMetH Tryz.prog QmL w) ∧ sizedMet enc Tryz.prog Tryz.f10 (OpenSpec.ofChange Rows.indexTearsSpec) false w args)
      (Rows.indexTearsSpec.post enc Tryz.prog Tryz.f10 false true false false):=by
  refine returnsInHanded_of_change_and (C:=Tryz.checked) (X:=fun w _=>laidMetH Tryz.prog QmL w) (fun _ _ _ hh h=>h.of_heap hh) own10 started (by kernel_rfl) Tryz.func10
    (ChangeSpec.witness_shaped (enc:=enc) (C:=Tryz.checked) (os:=os) (X:=fun w _=>laidMetH Tryz.prog QmL w) false (World.laidAll Tryz.prog os QmL) #[.agg #[.string (bs []),.string (bs []),.string (bs [])],.agg #[.string (bs []),.string (bs [])],.slice none 0 0] 8 (World.laidAll_os _ _ _) (World.shaped_of_ZipB (by kernel_rfl) (by kernel_rfl)) (by kernel_rfl) (by kernel_rfl) (by kernel_rfl) (by rw [MakeChecks.laidMetH_plain _ _ _ (by kernel_rfl)];exact laidMet_laidAll _ (by kernel_rfl) (by kernel_rfl))) ?_
  intro W base args ds gs before hval0 hW _ hsz hL _
  have hval : ∀ (j : Nat) t v,Tryz.f10.params[j]? = some t → args[j]? = some v → Value.okWide Tryz.prog W .any base t v:=hval0
  have hW':=hW
  obtain ⟨p,q,hA0,hV,rfl,hfz,hnd⟩:=hW
  have hA : DataW.TrodAll enc Tryz.prog W 0 (fun _=>true) true Tryz.f10.params.toList args.toList ds p:=hA0
  rw [Tryz.params10] at hA hval
  obtain ⟨v0,vs0,d0,ds0,p0,q0,hargs0,rfl,rfl,h0,r0⟩:=trodAll_cons hA
  obtain ⟨v1,vs1,d1,ds1,p1,q1,hargs1,rfl,rfl,h1,r1⟩:=trodAll_cons r0
  obtain ⟨v2,vs2,d2,ds2,p2,q2,hargs2,rfl,rfl,h2,r2⟩:=trodAll_cons r1
  obtain ⟨rfl,rfl,rfl⟩:=trodAll_nil r2
  obtain rfl : args = #[v0,v1,v2]:=by cases args;simp_all
  obtain ⟨d2,o1⟩:=QgK h0
  obtain ⟨cs3,rfl,hc4⟩:=QoN (hval 0 23 v0 rfl rfl) (by rw [Tryz.underlying23])
  rw [hc4] at o1
  obtain ⟨d6,len5,o7⟩:=Qo9 o1 Tryz.underlying23
  rw [cells23] at len5
  obtain ⟨x8,x9,x10,rfl⟩:=len3 len5
  simp only [List.mem_cons,List.mem_nil_iff,or_false,forall_eq_or_imp,forall_eq] at o7
  have h11:=o7.1
  rw [cells9] at h11
  change okT _ _ _ 9 [x8] at h11
  obtain ⟨l12,e13,g14⟩:=QdQ h11 Tryz.underlying9
  cases e13
  have h15:=o7.2.1
  rw [cells9] at h15
  change okT _ _ _ 9 [x9] at h15
  obtain ⟨l16,e17,g18⟩:=QdQ h15 Tryz.underlying9
  cases e17
  have h19:=o7.2.2
  rw [cells9] at h19
  change okT _ _ _ 9 [x10] at h19
  obtain ⟨l20,e21,g22⟩:=QdQ h19 Tryz.underlying9
  cases e21
  obtain ⟨d24,o23⟩:=QgK h1
  obtain ⟨cs25,rfl,hc26⟩:=QoN (hval 1 27 v1 rfl rfl) (by rw [Tryz.underlying27])
  rw [hc26] at o23
  obtain ⟨d28,len27,o29⟩:=Qo9 o23 Tryz.underlying27
  rw [cells27] at len27
  obtain ⟨x30,x31,rfl⟩:=len2 len27
  simp only [List.mem_cons,List.mem_nil_iff,or_false,forall_eq_or_imp,forall_eq] at o29
  have h32:=o29.1
  rw [cells9] at h32
  change okT _ _ _ 9 [x30] at h32
  obtain ⟨l33,e34,g35⟩:=QdQ h32 Tryz.underlying9
  cases e34
  have h36:=o29.2
  rw [cells9] at h36
  change okT _ _ _ 9 [x31] at h36
  obtain ⟨l37,e38,g39⟩:=QdQ h36 Tryz.underlying9
  cases e38
  obtain ⟨d41,o40⟩:=QgK h2
  obtain ⟨x42,x43,x44,rfl⟩:=okWide_slice Tryz.underlying102 (hval 2 102 v2 rfl rfl)
  obtain ⟨d54,a45,n46,cap47,cell48,e49,hn50,hcap51,sl52,rows53⟩:=Qu1 o40 Tryz.underlying102 (by rw [cells4];decide)
  rw [cells4] at sl52
  obtain ⟨q55,q56,q57⟩:=slice_inj e49
  subst x42 x43 x44
  obtain ⟨SL,hn_S,hR_S⟩:=QqB sl52 rows53
  subst hn_S
  have hcall:=c10 W ⟨l12,l16,l20⟩ ⟨l33,l37⟩ a45 cap47 SL hR_S
  refine (hcall).mono fun e W' ⟨he,hb⟩=>?_
  subst he
  exact ⟨_,rfl,QnC laid10 (by kernel_rfl) rfl Tryz.underlying4 rfl rfl hW' hb⟩
set_option maxHeartbeats 4000000 in
set_option maxRecDepth 100000 in
theorem facts10 : joinedFacts Tryz.pinned.checked.prog 10 Tryz.f10 Rows.indexTearsSpec Rows.indexTearsRow = true:=by
  unfold joinedFacts
  simp only [Bool.and_eq_true]
  repeat' apply And.intro
  all_goals (as_aux_lemma=>kernel_rfl)
set_option maxRecDepth 100000 in
theorem indexTears_holds : Rows.IndexTearsSaid:=
  OpenClaim.holds_of_wide 10 Tryz.f10 rfl rfl rfl rfl rfl rfl rfl ⟨rfl,rfl,rfl,rfl,rfl⟩ rfl rfl rfl rfl rfl (by kernel_rfl) Tryz.func10 facts10
    (of_decide_eq_true (by kernel_rfl)) (by unfold Func.isWrapper;first | (rw [if_pos (by decide +kernel)];kernel_rfl) | (rw [if_neg (by decide +kernel)];exact ⟨rfl,rfl⟩))
    (fun os started H enc _=>lifted10 os started H enc)
set_option maxRecDepth 100000 in
theorem indexTears_card_holds : Rows.IndexTearsCardSaid:=
  Claim7.holds_tied_plain_at .later [] [.data, .pinned] true (true, "c5ebd5e0d9bc2593234677e5ce9251e3e06fa811a55768f9113ba6f330c52f28") false
    indexTears_holds (fun _ h=>by cases h) (by kernel_rfl) (fun _ h=>by cases h) indexTears_row_tie rfl ⟨rfl,rfl⟩ (by kernel_rfl) rfl
    (fun f fn hf hfn=>by
      obtain rfl : f = 10 := Option.some.inj ((show Tryz.prog.funcNamed "depository/depositorylaw13.IndexTears" = some 10 by kernel_rfl).symm.trans hf) |>.symm
      obtain rfl : fn = Tryz.f10:=(Option.some.inj (Tryz.func10.symm.trans hfn)).symm
      exact ⟨by kernel_rfl,fun j t ht=>by
        rw [Tryz.params10] at ht
        have hm : t ∈ [23,27,102]:=by simpa using Array.mem_of_getElem? ht
        have hall : ([23,27,102].all fun u=>!Tryz.prog.wantsStandIn u) = true:=by kernel_rfl
        exact (show Tryz.prog.wantsStandIn t = false by simpa using List.all_eq_true.1 hall t hm)⟩)
    (by kernel_rfl)
end Go.Proofs.YtpkhkcchibbhmaaGreatDoor
