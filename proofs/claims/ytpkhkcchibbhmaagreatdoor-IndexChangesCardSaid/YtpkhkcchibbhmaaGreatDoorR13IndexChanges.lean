/- It is proved that IndexChanges answers true for every input and leaves its arguments as they read; there are no conditions. -/
import Derived.WalkKit
import Derived.Deep.Draws
import Derived.TacticsIn
import Derived.OrdersIn
import Derived.RangeFuncLeaves
import Derived.Lib.Strings
import Derived.Laws.BytesArg
import Derived.Laws.IdiomStrings
import Derived.Deep.Quiet
import Derived.ProofKit
import Derived.OpenShut
import Derived.Laws.StructEq
import Derived.ChangeKeysEq
import Derived.Laws.Externs
import Derived.Lib.Overlaps
import Derived.Carry
import Derived.Laws.Small
import Derived.Lib.Bytealg
import Derived.Lib.Builder
import Derived.Laws.Pointers
import Derived.RangeFuncRecord
import Derived.Test.YtpkhkcchibbhmaaGreatDoorProg
import Derived.KernelRfl
import Derived.Test.YtpkhkcchibbhmaaGreatDoorRows
import Derived.Test.YtpkhkcchibbhmaaGreatDoorTie
import Derived.Test.YtpkhkcchibbhmaaGreatDoorCards
import Derived.SevenTiedAt
import Derived.LaidMore
import Derived.Lay
import Derived.Stop.Joined
import Derived.Test.YtpkhkcchibbhmaaGreatDoorP5
namespace Go.Proofs.YtpkhkcchibbhmaaGreatDoor
open Go Go.RowKit Go.ChangeShapes Go.WideShapes Go.ChangeAt Gx Go.Proofs
set_option linter.unusedVariables false

theorem len3 {cs : List Value} (h : cs.length = 3) : ∃ x0 x1 x2,cs = [x0,x1,x2]:=by
  match cs,h with
  | [x0,x1,x2],_=>exact ⟨x0,x1,x2,rfl⟩
theorem len4 {cs : List Value} (h : cs.length = 4) : ∃ x0 x1 x2 x3,cs = [x0,x1,x2,x3]:=by
  match cs,h with
  | [x0,x1,x2,x3],_=>exact ⟨x0,x1,x2,x3,rfl⟩
theorem cells3 : Tryz.prog.cellsOf 3 = 1:=by kernel_rfl
theorem cells9 : Tryz.prog.cellsOf 9 = 1:=by kernel_rfl
theorem cells23 : Tryz.prog.cellsOf 23 = 3:=by kernel_rfl
theorem cells35 : Tryz.prog.cellsOf 35 = 1:=by kernel_rfl
theorem cells37 : Tryz.prog.cellsOf 37 = 4:=by kernel_rfl
theorem cells69 : Tryz.prog.cellsOf 69 = 3:=by kernel_rfl
theorem own6 : ownKnob Tryz.prog.godebug = none:=by kernel_rfl
theorem laid6 : laidOutB Tryz.prog = true:=by kernel_rfl
theorem slice_inj {a a2 : Option Addr} {n n2 c c2 : Nat} (h : [Value.slice a n c] = [Value.slice a2 n2 c2]) : a = a2 ∧ n = n2 ∧ c = c2:=by cases h;exact ⟨rfl,rfl,rfl⟩
/-- The variables that the rows list. -/
def Qms : List (String × DataW Unit) := [("unicode/utf8.acceptRanges", Rows.laid_unicode_utf8_acceptRanges), ("unicode/utf8.first", Rows.laid_unicode_utf8_first)]

set_option maxHeartbeats 1000000 in
set_option maxRecDepth 100000 in
theorem lifted6 (os : Os) (started : os.Started) (H : Type) (enc : TypeId × Value → H) :
    ReturnsInHanded {} Tryz.checked os 6 .any (fun w args=>(Rows.indexChangesSpec.pre enc Tryz.prog Tryz.f6 [] false w args ∧ laidMetH Tryz.prog Qms w) ∧ sizedMet enc Tryz.prog Tryz.f6 (OpenSpec.ofChange Rows.indexChangesSpec) false w args)
      (Rows.indexChangesSpec.post enc Tryz.prog Tryz.f6 false true false false):=by
  refine returnsInHanded_of_change_and (C:=Tryz.checked) (X:=fun w _=>laidMetH Tryz.prog Qms w) (fun _ _ _ hh h=>h.of_heap hh) own6 started (by kernel_rfl) Tryz.func6
    (ChangeSpec.witness_shaped (enc:=enc) (C:=Tryz.checked) (os:=os) (X:=fun w _=>laidMetH Tryz.prog Qms w) false (World.laidAll Tryz.prog os Qms) #[.agg #[.string (bs []),.string (bs []),.string (bs [])],.agg #[.int .i64 0,.int .i64 0,.int .i64 0,.slice none 0 0],.int .i64 0] 8 (World.laidAll_os _ _ _) (World.shaped_of_ZipB (by kernel_rfl) (by kernel_rfl)) (by kernel_rfl) (by kernel_rfl) (by kernel_rfl) (by rw [MakeChecks.laidMetH_plain _ _ _ (by kernel_rfl)];exact laidMet_laidAll _ (by kernel_rfl) (by kernel_rfl))) ?_
  intro W base args ds gs before hval0 hW _ hsz hL _
  have hval : ∀ (j : Nat) t v,Tryz.f6.params[j]? = some t → args[j]? = some v → Value.okWide Tryz.prog W .any base t v:=hval0
  have hW':=hW
  obtain ⟨p,q,hA0,hV,rfl,hfz,hnd⟩:=hW
  have hA : DataW.TrodAll enc Tryz.prog W 0 (fun _=>true) true Tryz.f6.params.toList args.toList ds p:=hA0
  rw [Tryz.params6] at hA hval
  obtain ⟨v0,vs0,d0,ds0,p0,q0,hargs0,rfl,rfl,h0,r0⟩:=trodAll_cons hA
  obtain ⟨v1,vs1,d1,ds1,p1,q1,hargs1,rfl,rfl,h1,r1⟩:=trodAll_cons r0
  obtain ⟨v2,vs2,d2,ds2,p2,q2,hargs2,rfl,rfl,h2,r2⟩:=trodAll_cons r1
  obtain ⟨rfl,rfl,rfl⟩:=trodAll_nil r2
  obtain rfl : args = #[v0,v1,v2]:=by cases args;simp_all
  obtain ⟨d2,o1⟩:=Qgp h0
  obtain ⟨cs3,rfl,hc4⟩:=QrU (hval 0 23 v0 rfl rfl) (by rw [Tryz.underlying23])
  rw [hc4] at o1
  obtain ⟨d6,len5,o7⟩:=Qi2 o1 Tryz.underlying23
  rw [cells23] at len5
  obtain ⟨x8,x9,x10,rfl⟩:=len3 len5
  simp only [List.mem_cons,List.mem_nil_iff,or_false,forall_eq_or_imp,forall_eq] at o7
  have h11:=o7.1
  rw [cells9] at h11
  change okT _ _ _ 9 [x8] at h11
  obtain ⟨l12,e13,g14⟩:=QfK h11 Tryz.underlying9
  cases e13
  have h15:=o7.2.1
  rw [cells9] at h15
  change okT _ _ _ 9 [x9] at h15
  obtain ⟨l16,e17,g18⟩:=QfK h15 Tryz.underlying9
  cases e17
  have h19:=o7.2.2
  rw [cells9] at h19
  change okT _ _ _ 9 [x10] at h19
  obtain ⟨l20,e21,g22⟩:=QfK h19 Tryz.underlying9
  cases e21
  obtain ⟨d24,o23⟩:=Qgp h1
  obtain ⟨cs25,rfl,hc26⟩:=QrU (hval 1 37 v1 rfl rfl) (by rw [Tryz.underlying37])
  rw [hc26] at o23
  obtain ⟨d28,len27,o29⟩:=Qi2 o23 Tryz.underlying37
  rw [cells37] at len27
  obtain ⟨x30,x31,x32,x33,rfl⟩:=len4 len27
  simp only [List.mem_cons,List.mem_nil_iff,or_false,forall_eq_or_imp,forall_eq] at o29
  have h34:=o29.1
  rw [cells3] at h34
  change okT _ _ _ 3 [x30] at h34
  obtain ⟨n35,e36,g37⟩:=QeL h34 Tryz.underlying3
  have wf38:=QiJ g37
  cases e36
  have h39:=o29.2.1
  rw [cells3] at h39
  change okT _ _ _ 3 [x31] at h39
  obtain ⟨n40,e41,g42⟩:=QeL h39 Tryz.underlying3
  have wf43:=QiJ g42
  cases e41
  have h44:=o29.2.2.1
  rw [cells3] at h44
  change okT _ _ _ 3 [x32] at h44
  obtain ⟨n45,e46,g47⟩:=QeL h44 Tryz.underlying3
  have wf48:=QiJ g47
  cases e46
  have h49:=o29.2.2.2
  rw [cells35] at h49
  change okT _ _ _ 35 [x33] at h49
  obtain ⟨d59,a50,n51,cap52,cell53,e54,hn55,hcap56,sl57,rows58⟩:=Qlp h49 Tryz.underlying35 (by rw [cells69];decide)
  rw [cells69] at sl57
  cases e54
  obtain ⟨d61,o60⟩:=Qgp h2
  obtain ⟨x62,rfl⟩:=okWide_int Tryz.underlying3 (hval 2 3 v2 rfl rfl)
  obtain ⟨n63,e64,g65⟩:=QeL o60 Tryz.underlying3
  have wf66:=QiJ g65
  cases e64
  obtain ⟨L,hn_L,hR_L⟩:=QoX sl57 rows58
  subst hn_L
  have hcall:=c6 W ⟨l12,l16,l20⟩ n35 n40 n45 a50 cap52 L x62 hR_L
  refine (hcall).mono fun e W' ⟨he,hb⟩=>?_
  subst he
  exact ⟨_,rfl,QnW laid6 (by kernel_rfl) rfl Tryz.underlying4 rfl rfl hW' hb⟩
set_option maxHeartbeats 4000000 in
set_option maxRecDepth 100000 in
theorem facts6 : joinedFacts Tryz.pinned.checked.prog 6 Tryz.f6 Rows.indexChangesSpec Rows.indexChangesRow = true:=by
  unfold joinedFacts
  simp only [Bool.and_eq_true]
  repeat' apply And.intro
  all_goals (as_aux_lemma=>kernel_rfl)
set_option maxRecDepth 100000 in
theorem indexChanges_holds : Rows.IndexChangesSaid:=
  OpenClaim.holds_of_wide 6 Tryz.f6 rfl rfl rfl rfl rfl rfl rfl ⟨rfl,rfl,rfl,rfl,rfl⟩ rfl rfl rfl rfl rfl (by kernel_rfl) Tryz.func6 facts6
    (of_decide_eq_true (by kernel_rfl)) (by unfold Func.isWrapper;first | (rw [if_pos (by decide +kernel)];kernel_rfl) | (rw [if_neg (by decide +kernel)];exact ⟨rfl,rfl⟩))
    (fun os started H enc _=>lifted6 os started H enc)
set_option maxRecDepth 100000 in
theorem indexChanges_card_holds : Rows.IndexChangesCardSaid:=
  Claim7.holds_tied_plain_at .later [] [.data, .pinned] true (true, "c5ebd5e0d9bc2593234677e5ce9251e3e06fa811a55768f9113ba6f330c52f28") false
    indexChanges_holds (fun _ h=>by cases h) (by kernel_rfl) (fun _ h=>by cases h) indexChanges_row_tie rfl ⟨rfl,rfl⟩ (by kernel_rfl) rfl
    (fun f fn hf hfn=>by
      obtain rfl : f = 6 := Option.some.inj ((show Tryz.prog.funcNamed "depository/depositorylaw13.IndexChanges" = some 6 by kernel_rfl).symm.trans hf) |>.symm
      obtain rfl : fn = Tryz.f6:=(Option.some.inj (Tryz.func6.symm.trans hfn)).symm
      exact ⟨by kernel_rfl,fun j t ht=>by
        rw [Tryz.params6] at ht
        have hm : t ∈ [23,37,3]:=by simpa using Array.mem_of_getElem? ht
        have hall : ([23,37,3].all fun u=>!Tryz.prog.wantsStandIn u) = true:=by kernel_rfl
        exact (show Tryz.prog.wantsStandIn t = false by simpa using List.all_eq_true.1 hall t hm)⟩)
    (by kernel_rfl)
end Go.Proofs.YtpkhkcchibbhmaaGreatDoor
