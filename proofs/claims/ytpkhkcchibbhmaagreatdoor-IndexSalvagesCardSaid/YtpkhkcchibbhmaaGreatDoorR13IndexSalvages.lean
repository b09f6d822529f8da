/- It is proved that IndexSalvages answers true for every input and leaves its arguments as they read; there are no conditions. -/
import Derived.WalkKit
import Derived.Deep.Draws
import Derived.TacticsIn
import Derived.OrdersIn
import Derived.RangeFuncLeaves
import Derived.Lib.Strings
import Derived.Laws.BytesArg
import Derived.Laws.IdiomStrings
import Derived.Deep.Quiet
import Derived.ProofKit
import Derived.OpenShut
import Derived.Laws.StructEq
import Derived.ChangeKeysEq
import Derived.Laws.Externs
import Derived.Lib.Overlaps
import Derived.Carry
import Derived.Laws.Small
import Derived.Lib.Bytealg
import Derived.Lib.Builder
import Derived.Laws.Pointers
import Derived.RangeFuncRecord
import Derived.Test.YtpkhkcchibbhmaaGreatDoorProg
import Derived.KernelRfl
import Derived.SizedLaws
import Derived.ChangeSame
import Derived.Handed
import Derived.Test.YtpkhkcchibbhmaaGreatDoorRows
import Derived.Test.YtpkhkcchibbhmaaGreatDoorTie
import Derived.Test.YtpkhkcchibbhmaaGreatDoorCards
import Derived.SevenTiedAt
import Derived.LaidMore
import Derived.Lay
import Derived.Stop.Joined
import Derived.Test.YtpkhkcchibbhmaaGreatDoorP4
namespace Go.Proofs.YtpkhkcchibbhmaaGreatDoor
open Go Go.RowKit Go.ChangeShapes Go.WideShapes Go.ChangeAt Gx Go.Proofs
set_option linter.unusedVariables false

theorem len3 {cs : List Value} (h : cs.length = 3) : ∃ x0 x1 x2,cs = [x0,x1,x2]:=by
  match cs,h with
  | [x0,x1,x2],_=>exact ⟨x0,x1,x2,rfl⟩
theorem cells9 : Tryz.prog.cellsOf 9 = 1:=by kernel_rfl
theorem cells23 : Tryz.prog.cellsOf 23 = 3:=by kernel_rfl
theorem own9 : ownKnob Tryz.prog.godebug = none:=by kernel_rfl
theorem laid9 : laidOutB Tryz.prog = true:=by kernel_rfl
theorem slice_inj {a a2 : Option Addr} {n n2 c c2 : Nat} (h : [Value.slice a n c] = [Value.slice a2 n2 c2]) : a = a2 ∧ n = n2 ∧ c = c2:=by cases h;exact ⟨rfl,rfl,rfl⟩
/-- The variables that the rows list. -/
def Qli : List (String × DataW Unit) := [("unicode/utf8.acceptRanges", Rows.laid_unicode_utf8_acceptRanges), ("unicode/utf8.first", Rows.laid_unicode_utf8_first)]

set_option maxHeartbeats 1000000 in
set_option maxRecDepth 100000 in
theorem lifted9 (os : Os) (started : os.Started) (H : Type) (enc : TypeId × Value → H) :
    ReturnsInHanded {} Tryz.checked os 9 .any (fun w args=>(Rows.indexSalvagesSpec.pre enc Tryz.prog Tryz.f9 [] false w args ∧ laidMetH Tryz.prog Qli w) ∧ sizedMet enc Tryz.prog Tryz.f9 (OpenSpec.ofChange Rows.indexSalvagesSpec) false w args)
      (Rows.indexSalvagesSpec.post enc Tryz.prog Tryz.f9 false true false false):=by
  refine returnsInHanded_of_change_and (C:=Tryz.checked) (X:=fun w _=>laidMetH Tryz.prog Qli w) (fun _ _ _ hh h=>h.of_heap hh) own9 started (by kernel_rfl) Tryz.func9
    (ChangeSpec.witness_shaped (enc:=enc) (C:=Tryz.checked) (os:=os) (X:=fun w _=>laidMetH Tryz.prog Qli w) false (World.laidAll Tryz.prog os Qli) #[.agg #[.string (bs []),.string (bs []),.string (bs [])]] 8 (World.laidAll_os _ _ _) (World.shaped_of_ZipB (by kernel_rfl) (by kernel_rfl)) (by kernel_rfl) (by kernel_rfl) (by kernel_rfl) (by rw [MakeChecks.laidMetH_plain _ _ _ (by kernel_rfl)];exact laidMet_laidAll _ (by kernel_rfl) (by kernel_rfl))) ?_
  intro W base args ds gs before hval0 hW _ hsz hL _
  have hval : ∀ (j : Nat) t v,Tryz.f9.params[j]? = some t → args[j]? = some v → Value.okWide Tryz.prog W .any base t v:=hval0
  have hW':=hW
  obtain ⟨p,q,hA0,hV,rfl,hfz,hnd⟩:=hW
  have hA : DataW.TrodAll enc Tryz.prog W 0 (fun _=>true) true Tryz.f9.params.toList args.toList ds p:=hA0
  rw [Tryz.params9] at hA hval
  obtain ⟨v0,vs0,d0,ds0,p0,q0,hargs0,rfl,rfl,h0,r0⟩:=trodAll_cons hA
  obtain ⟨rfl,rfl,rfl⟩:=trodAll_nil r0
  obtain rfl : args = #[v0]:=by cases args;simp_all
  obtain ⟨d2,o1⟩:=Qoo h0
  obtain ⟨cs3,rfl,hc4⟩:=QtJ (hval 0 23 v0 rfl rfl) (by rw [Tryz.underlying23])
  rw [hc4] at o1
  obtain ⟨d6,len5,o7⟩:=QuL o1 Tryz.underlying23
  rw [cells23] at len5
  obtain ⟨x8,x9,x10,rfl⟩:=len3 len5
  simp only [List.mem_cons,List.mem_nil_iff,or_false,forall_eq_or_imp,forall_eq] at o7
  have h11:=o7.1
  rw [cells9] at h11
  change okT _ _ _ 9 [x8] at h11
  obtain ⟨l12,e13,g14⟩:=Qhe h11 Tryz.underlying9
  cases e13
  have h15:=o7.2.1
  rw [cells9] at h15
  change okT _ _ _ 9 [x9] at h15
  obtain ⟨l16,e17,g18⟩:=Qhe h15 Tryz.underlying9
  cases e17
  have h19:=o7.2.2
  rw [cells9] at h19
  change okT _ _ _ 9 [x10] at h19
  obtain ⟨l20,e21,g22⟩:=Qhe h19 Tryz.underlying9
  cases e21
  have hcall:=c9 W ⟨l12,l16,l20⟩
  refine (hcall).mono fun e W' ⟨he,hb⟩=>?_
  subst he
  exact ⟨_,rfl,Qmt laid9 (by kernel_rfl) rfl Tryz.underlying4 rfl rfl hW' hb⟩
set_option maxHeartbeats 4000000 in
set_option maxRecDepth 100000 in
theorem facts9 : joinedFacts Tryz.pinned.checked.prog 9 Tryz.f9 Rows.indexSalvagesSpec Rows.indexSalvagesRow = true:=by
  unfold joinedFacts
  simp only [Bool.and_eq_true]
  repeat' apply And.intro
  all_goals (as_aux_lemma=>kernel_rfl)
set_option maxRecDepth 100000 in
theorem indexSalvages_holds : Rows.IndexSalvagesSaid:=
  OpenClaim.holds_of_wide 9 Tryz.f9 rfl rfl rfl rfl rfl rfl rfl ⟨rfl,rfl,rfl,rfl,rfl⟩ rfl rfl rfl rfl rfl (by kernel_rfl) Tryz.func9 facts9
    (of_decide_eq_true (by kernel_rfl)) (by unfold Func.isWrapper;first | (rw [if_pos (by decide +kernel)];kernel_rfl) | (rw [if_neg (by decide +kernel)];exact ⟨rfl,rfl⟩))
    (fun os started H enc _=>lifted9 os started H enc)
set_option maxRecDepth 100000 in
theorem indexSalvages_card_holds : Rows.IndexSalvagesCardSaid:=
  Claim7.holds_tied_plain_at .later [] [.data, .pinned] true (true, "c5ebd5e0d9bc2593234677e5ce9251e3e06fa811a55768f9113ba6f330c52f28") false
    indexSalvages_holds (fun _ h=>by cases h) (by kernel_rfl) (fun _ h=>by cases h) indexSalvages_row_tie rfl ⟨rfl,rfl⟩ (by kernel_rfl) rfl
    (fun f fn hf hfn=>by
      obtain rfl : f = 9 := Option.some.inj ((show Tryz.prog.funcNamed "depository/depositorylaw13.IndexSalvages" = some 9 by kernel_rfl).symm.trans hf) |>.symm
      obtain rfl : fn = Tryz.f9:=(Option.some.inj (Tryz.func9.symm.trans hfn)).symm
      exact ⟨by kernel_rfl,fun j t ht=>by
        rw [Tryz.params9] at ht
        have hm : t ∈ [23]:=by simpa using Array.mem_of_getElem? ht
        have hall : ([23].all fun u=>!Tryz.prog.wantsStandIn u) = true:=by kernel_rfl
        exact (show Tryz.prog.wantsStandIn t = false by simpa using List.all_eq_true.1 hall t hm)⟩)
    (by kernel_rfl)
end Go.Proofs.YtpkhkcchibbhmaaGreatDoor
