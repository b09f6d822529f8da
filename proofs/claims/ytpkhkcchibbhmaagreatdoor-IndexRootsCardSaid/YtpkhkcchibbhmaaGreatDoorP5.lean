/- Contracts of the program's functions, proved by walking them with the rules of the Gx texts; without conditions beyond those that each contract names. -/
import Derived.WalkKit
import Derived.Deep.Draws
import Derived.TacticsIn
import Derived.OrdersIn
import Derived.RangeFuncLeaves
import Derived.Lib.Strings
import Derived.Laws.BytesArg
import Derived.Laws.IdiomStrings
import Derived.Deep.Quiet
import Derived.ProofKit
import Derived.OpenShut
import Derived.Laws.StructEq
import Derived.ChangeKeysEq
import Derived.Laws.Externs
import Derived.Lib.Overlaps
import Derived.Carry
import Derived.Laws.Small
import Derived.Lib.Bytealg
import Derived.Lib.Builder
import Derived.Laws.Pointers
import Derived.RangeFuncRecord
import Derived.Test.YtpkhkcchibbhmaaGreatDoorProg
import Derived.KernelRfl
import Derived.SizedLaws
import Derived.ChangeSame
import Derived.Handed
import Derived.Test.YtpkhkcchibbhmaaGreatDoorTie
import Derived.Test.YtpkhkcchibbhmaaGreatDoorCards
import Derived.SevenTiedAt
import Derived.LaidMore
import Derived.Lay
import Derived.Stop.Joined
import Derived.Test.YtpkhkcchibbhmaaGreatDoorP4
set_option linter.unusedSimpArgs false
set_option linter.unusedVariables false
set_option linter.unusedSectionVars false
set_option linter.unnecessarySimpa false
namespace Go.Proofs
open Go Go.RowKit Gx
attribute [local irreducible] Go.Calls Gx.S Gx.O Gx.D Gx.OpP Gx.OpQ Gx.OpH
set_option maxRecDepth 20000
theorem QuM : Qt Tryz.prog 74 = true:=by kernel_rfl
theorem QhL : Qt Tryz.prog 11 = true:=by kernel_rfl
theorem Qiz : Qt Tryz.prog 19 = true:=by kernel_rfl
instance : TFd Tryz.prog 55 0 0 27:=⟨by kernel_rfl⟩
instance : TFd Tryz.prog 55 1 2 3:=⟨by kernel_rfl⟩
theorem Qkx : Qt Tryz.prog 26 = true:=by kernel_rfl
theorem QkK : Qt Tryz.prog 21 = true:=by kernel_rfl
theorem QkP : Qt Tryz.prog 27 = true:=by kernel_rfl
theorem QgH : Qt Tryz.prog 28 = true:=by kernel_rfl
theorem QkR : Qt Tryz.prog 31 = true:=by kernel_rfl
theorem QkJ : Qt Tryz.prog 23 = true:=by kernel_rfl
theorem Qlg : Qt Tryz.prog 24 = true:=by kernel_rfl
theorem QrU : Qt Tryz.prog 32 = true:=by kernel_rfl
theorem ZZ {L : List LNd} (h : Yu (pln L) = true) : ∀ i,i < L.length → ∀ x ∈ (nth L i).es,x.key.length ≤ 1000000 ∧ x.val.length ≤ 1000000:=fun i hi x hx=>by
  have h1:=(Qck h (k:=i) (by rwa [Qh])).2.2 x (by rw [QZ hi];exact hx);omega
theorem c19 (w : World) (co mo rm : Int) (a : Option Addr) (cap : Nat) (L : List LNd) (hs : Nt w [] a L) : Calls Tryz.prog 19 #[.agg #[.int .i64 co,.int .i64 mo,.int .i64 rm,.slice a L.length cap]] w fun en w'=>en = .returned (.bool (Yu (pln L) && decide ((L.length : Int) ≤ 20))) ∧ Below w.heap.size w w':=by
 refine enter (args:=[_]) Tryz.func19 Tryz.ntmps19 rfl rfl (HS.refl w []) ?_
 refine aS2 ?_
 refine oBx fun b1 _=>?_
 refine aS5 ?_
 refine o_q (Qb rfl QuM rfl (fun w1 h1=>c74 w1 co mo rm a cap L (hs.later h1.nil))) rfl ?_
 refine aS ?_
 refine Xq 5 5 10 _ _ rfl
  (by
   intro hg2
   have hs3:=hg2;skip
   refine oOn 5 hg2 ?_
   refine aS ?_
   refine oOn 5 hg2 ?_
   refine aS ?_
   refine oOn 5 hg2 ?_
   refine aS ?_
   refine oOn 5 hg2 ?_
   refine aS ?_
   refine o_p (Qg rfl rfl hg2 rfl) rfl ?_
   refine aS ?_
   exact oJn 5 10)
  (by
   intro hg4
   have hs5:=hg4;skip
   refine oOf 5 hg4 ?_
   refine oOf 5 hg4 ?_
   refine oOf 5 hg4 ?_
   refine oOf 5 hg4 ?_
   refine o_p (Qf rfl rfl hg4 rfl) rfl ?_
   refine aS ?_
   exact oJn 5 10) ?_
 refine aS2 ?_
 exact rT rfl rfl (fun w' h'=>⟨by rfl,h'.below⟩)
set_option maxHeartbeats 1000000 in
theorem c5a (w : World) (co mo rm : Int) (a : Option Addr) (cap : Nat) (L : List LNd) (x : TEnt) (c : Int) (s : List UInt8) (hs : Nt w [] a L) (hfw : Yu (pln L) = true) (hl20 : L.length ≤ 20) (hxl : x.key.length + x.val.length ≤ 120) (h500 : s.length ≤ 500) (he : Xx x c = 0) (hi : Zu (⟨co,mo,rm,pln L⟩ : Tre) = 0) : Calls Tryz.prog 5 #[.agg #[.int .i64 co,.int .i64 mo,.int .i64 rm,.slice a L.length cap],.agg #[.string (bs x.key),.string (bs x.val),.int .i64 c],.string (bs s)] w fun en w'=>en = .returned (.bool true) ∧ Below w.heap.size w w':=by
 have hB:=QeN hfw
 have hkl:=Qcj hfw
 have hsm:=QeG hfw
 have hle:=hB.len
 rw [Qh] at hle
 have hkv:=ZZ hfw
 obtain ⟨hrs1,hrs2⟩:=QcX s
 have hc9 : x.key.length ≤ 300 ∧ x.val.length ≤ 300 ∧ 0 ≤ c ∧ c < 4294967296:=by have hq:=he;unfold Xx at hq;split at hq;(split at hq;(split at hq;omega;cases hq);cases hq);cases hq
 have hr9:=Qdg hi
 have h09 : 0 < L.length:=by have:=hr9.1;rwa [show (⟨co,mo,rm,pln L⟩ : Tre).ns = pln L from rfl,Qh] at this
 have hn9:=QgO hi hr9.1 hr9.2.1
 have hp9 : NdP (nth L 0).pl:=by have hq:=hn9.1.ndp (by have:=hn9.2.1;omega);rwa [show (⟨co,mo,rm,pln L⟩ : Tre).ns = pln L from rfl,Xg] at hq
 have hrt:=QeT hi
 have hrl : (ZQ (⟨co,mo,rm,pln L⟩ : Tre)).length ≤ 1000000:=by rw [Qe7];have:=hn9.2.2.1;have h8 : (X6 (nth (⟨co,mo,rm,pln L⟩ : Tre).ns 0)).length ≤ 392:=this;omega
 have hbb : (0 ≤ co ∧ co < 256) ∧ (0 ≤ mo ∧ mo < 256) ∧ 0 ≤ rm ∧ rm < 256:=by have h1:=hr9.2.2.1;have h2:=hr9.2.2.2.1;have h3 : Qr co = 0:=h1;have h4 : Xy mo rm = 0:=h2;unfold Qr at h3;unfold Xy at h4;split at h3;(split at h4;omega;cases h4);cases h3
 refine enter (args:=[_,_,_]) Tryz.func5 Tryz.ntmps5 rfl rfl (HS.refl w []) ?_
 refine aS2 ?_
 refine oBx fun b1 _=>?_
 refine oBx fun b2 _=>?_
 refine aS5 ?_
 refine o_q (Qb rfl QhL rfl (fun w1 h1=>c11 w1)) rfl ?_
 refine aS2 ?_
 refine Qc rfl (fun h3=>?_) fun h3=>?_
 ·try simp only [Bool.not_true] at h3
  exfalso;simp at h3
 try simp only [Bool.not_true] at h3
 refine aS5 ?_
 refine o_q (Qb rfl Qiz rfl (fun w1 h1=>c19 w1 co mo rm a cap L (hs.later h1.nil))) rfl ?_
 refine aS2 ?_
 refine Xn 11 23 34 _ _ rfl
  (by
   intro hg4
   have hs5:=hg4;try simp only [Bool.not_eq_false',Bool.and_eq_true,decide_eq_true_eq] at hs5
   refine oOn 23 hg4 ?_
   refine aS ?_
   refine oOn 23 hg4 ?_
   refine aS ?_
   refine oOn 23 hg4 ?_
   refine aS ?_
   refine oOn 23 hg4 ?_
   refine o_p (Qk rfl rfl Tryz.underlying9) rfl ?_
   refine oOn 23 hg4 ?_
   refine aS ?_
   refine oOn 23 hg4 ?_
   refine aS ?_
   refine oOn 23 hg4 ?_
   refine aS ?_
   refine oOn 23 hg4 ?_
   refine o_p (Qk rfl rfl Tryz.underlying9) rfl ?_
   refine oOn 23 hg4 ?_
   refine aS ?_
   try refine oWr ?_
   refine oOn 23 hg4 ?_
   refine aS ?_
   refine o_p (Qf rfl rfl hg4 rfl) rfl ?_
   refine aS ?_
   exact oJn 11 34)
  (by
   intro hg6
   have hs7:=hg6;try simp only [Bool.not_eq_true',Bool.and_eq_false_iff,decide_eq_false_iff_not] at hs7
   refine oOf 23 hg6 ?_
   refine oOf 23 hg6 ?_
   refine oOf 23 hg6 ?_
   refine oOf 23 hg6 ?_
   refine oOf 23 hg6 ?_
   refine oOf 23 hg6 ?_
   refine oOf 23 hg6 ?_
   refine oOf 23 hg6 ?_
   refine oOf 23 hg6 ?_
   refine oOf 23 hg6 ?_
   refine o_p (Qg rfl rfl hg6 rfl) rfl ?_
   refine aS ?_
   exact oJn 11 34) ?_
 refine aS ?_
 refine Xn 4 35 39 _ _ rfl
  (by
   intro hg8
   have hs9:=hg8;try simp only [Bool.or_eq_false_iff,Bool.not_eq_false',Bool.and_eq_true,decide_eq_true_eq,decide_eq_false_iff_not] at hs9
   refine oOn 35 hg8 ?_
   refine aS ?_
   refine oOn 35 hg8 ?_
   refine o_p (Qk rfl rfl Tryz.underlying9) rfl ?_
   refine oOn 35 hg8 ?_
   refine aS ?_
   refine o_p (Qf rfl rfl hg8 rfl) rfl ?_
   refine aS ?_
   exact oJn 4 39)
  (by
   intro hg10
   have hs11:=hg10;try simp only [Bool.or_eq_true,Bool.not_eq_true',Bool.and_eq_false_iff,decide_eq_false_iff_not,decide_eq_true_eq] at hs11
   refine oOf 35 hg10 ?_
   refine oOf 35 hg10 ?_
   refine oOf 35 hg10 ?_
   refine o_p (Qg rfl rfl hg10 rfl) rfl ?_
   refine aS ?_
   exact oJn 4 39) ?_
 refine aS ?_
 refine Qc rfl (fun h12=>?_) fun h12=>?_
 ·try simp only [Bool.or_eq_true,Bool.not_eq_true',Bool.and_eq_false_iff,decide_eq_false_iff_not,decide_eq_true_eq] at h12
  exfalso;have hq:=h12;simp [hfw] at hq;omega
 try simp only [Bool.or_eq_false_iff,Bool.not_eq_false',Bool.and_eq_true,decide_eq_true_eq,decide_eq_false_iff_not] at h12
 refine aS7 ?_
 refine o_q (Qb rfl Qkx rfl (fun w1 h1=>c26 w1 x c (by omega) (by omega))) rfl ?_
 refine aS9 ?_
 refine o_h (XX rfl QkK rfl (fun w1 h1=>c21 w1 co mo rm a cap L (hs.later h1.nil) hle hsm)) rfl (fun ⟨⟨ga,gc⟩,LC⟩ hLC=>?_)
 refine o_q (Qb rfl QkP rfl (fun w1 h1=>c27 w1 co mo rm ga gc LC (HS.nt h1 aPk) (by rw [hLC];exact hB) (ZZ (by rw [hLC];exact hfw)))) rfl ?_
 rw [hLC]
 refine aS7 ?_
 refine Qm (L':=[(2,_),(3,_),(4,_),(6,_),(7,_),(8,_),(9,_),(10,_)]) aSx (fun _ h=>h) ?_
 refine aS2 ?_
 refine o_h (XX rfl QgH rfl (fun w1 h1=>c28 w1 s (by omega))) rfl (fun ⟨⟨ua,uc⟩,UL⟩ hUL=>?_)
 refine aS3 ?_
 refine oAl (fun b13 _=>?_) X3
 refine oSt ?_
 refine aS9 ?_
 refine o_q (Qb rfl Qir rfl (fun w1 h1=>c29 w1 x c (by omega) (by omega))) rfl ?_
 refine aS ?_
 rw [if_pos he,he]
 refine aS6 ?_
 refine Xq 8 66 74 _ _ rfl
  (by
   intro hg14
   have hs15:=hg14;try simp only [Bool.not_eq_true',decide_eq_false_iff_not] at hs15
   refine oOn 66 hg14 ?_
   refine aS ?_
   refine oOn 66 hg14 ?_
   refine aS ?_
   refine oOn 66 hg14 ?_
   refine aS ?_
   refine oOn 66 hg14 ?_
   refine aS ?_
   refine Xn 3 70 73 _ _ rfl
    (by
     intro hg16
     have hs17:=hg16;try simp only [Bool.not_eq_false',decide_eq_true_eq] at hs17
     refine oOn 70 hg16 ?_
     refine aS ?_
     refine oOn 70 hg16 ?_
     refine aS ?_
     refine oOn 66 hg14 ?_
     refine o_p (Qf rfl rfl hg16 rfl) rfl ?_
     refine aS ?_
     exact oJn 3 73)
    (by
     intro hg18
     have hs19:=hg18;try simp only [Bool.not_eq_true',decide_eq_false_iff_not] at hs19
     refine oOf 70 hg18 ?_
     refine oOf 70 hg18 ?_
     refine oOn 66 hg14 ?_
     refine o_p (Qg rfl rfl hg18 rfl) rfl ?_
     refine aS ?_
     exact oJn 3 73) ?_
   refine o_p (Qg rfl rfl hg14 rfl) rfl ?_
   refine aS ?_
   exact oJn 6 74)
  (by
   intro hg20
   have hs21:=hg20;try simp only [Bool.not_eq_false',decide_eq_true_eq] at hs21
   refine oOf 66 hg20 ?_
   refine oOf 66 hg20 ?_
   refine oOf 66 hg20 ?_
   refine oOf 66 hg20 ?_
   refine Qn 70 rfl rfl rfl ?_
   refine Qn 70 rfl rfl rfl ?_
   refine oOf 66 hg20 ?_
   refine o_p (Qf rfl rfl hg20 rfl) rfl ?_
   refine aS ?_
   exact oJn 8 74) ?_
 refine aS ?_
 refine Xn 16 75 91 _ _ rfl
  (by
   intro hg22
   have hs23:=hg22;try simp only [Bool.and_eq_false_iff,Bool.not_eq_false',decide_eq_true_eq,Bool.or_eq_false_iff] at hs23
   refine oOn 75 hg22 ?_
   refine aS ?_
   refine oOn 75 hg22 ?_
   refine aS ?_
   refine oOn 75 hg22 ?_
   refine aS ?_
   refine Xq 12 78 90 _ _ rfl
    (by
     intro hg24
     have hs25:=hg24;try simp only [dT] at hs25
     refine oOn 78 hg24 ?_
     refine aS ?_
     refine oOn 78 hg24 ?_
     refine aS ?_
     refine oOn 78 hg24 ?_
     refine aS ?_
     refine Xn 8 81 89 _ _ rfl
      (by
       intro hg26
       have hs27:=hg26;try simp only [Bool.not_eq_false',decide_eq_true_eq] at hs27
       refine oOn 81 hg26 ?_
       refine aS ?_
       refine oOn 81 hg26 ?_
       refine aS ?_
       refine oOn 81 hg26 ?_
       refine aS ?_
       refine oOn 81 hg26 ?_
       refine aS ?_
       refine oOn 81 hg26 ?_
       refine aS ?_
       refine oOn 81 hg26 ?_
       refine o_q (Qb rfl Qjb rfl (fun w1 h1=>c30 w1 x c hc9.1 hc9.2.1 hc9.2.2)) rfl ?_
       refine oOn 81 hg26 ?_
       refine aS ?_
       refine oOn 78 hg24 ?_
       refine o_p (Qf rfl rfl hg26 rfl) rfl ?_
       refine aS ?_
       exact oJn 8 89)
      (by
       intro hg28
       have hs29:=hg28;try simp only [Bool.not_eq_true',decide_eq_false_iff_not] at hs29
       refine oOf 81 hg28 ?_
       refine oOf 81 hg28 ?_
       refine oOf 81 hg28 ?_
       refine oOf 81 hg28 ?_
       refine oOf 81 hg28 ?_
       refine oOf 81 hg28 ?_
       refine oOf 81 hg28 ?_
       refine oOn 78 hg24 ?_
       refine o_p (Qg rfl rfl hg28 rfl) rfl ?_
       refine aS ?_
       exact oJn 8 89) ?_
     refine oOn 75 hg22 ?_
     refine o_p (Qg rfl rfl hg24 rfl) rfl ?_
     refine aS ?_
     exact oJn 5 90)
    (by
     intro hg30
     have hs31:=hg30;try simp only [dN] at hs31
     refine oOf 78 hg30 ?_
     refine oOf 78 hg30 ?_
     refine oOf 78 hg30 ?_
     refine Qn 81 rfl rfl rfl ?_
     refine Qn 81 rfl rfl rfl ?_
     refine Qn 81 rfl rfl rfl ?_
     refine Qn 81 rfl rfl rfl ?_
     refine Qn 81 rfl rfl rfl ?_
     refine Qn 81 rfl rfl rfl ?_
     refine Qn 81 rfl rfl rfl ?_
     refine oOf 78 hg30 ?_
     refine oOn 75 hg22 ?_
     refine o_p (Qf rfl rfl hg30 rfl) rfl ?_
     refine aS ?_
     exact oJn 12 90) ?_
   refine o_p (Qf rfl rfl hg22 rfl) rfl ?_
   refine aS ?_
   exact oJn 5 91)
  (by
   intro hg32
   have hs33:=hg32;try simp only [Bool.and_eq_true,Bool.not_eq_true',decide_eq_false_iff_not,Bool.or_eq_true] at hs33
   refine oOf 75 hg32 ?_
   refine oOf 75 hg32 ?_
   refine oOf 75 hg32 ?_
   refine Qn 78 rfl rfl rfl ?_
   refine Qn 78 rfl rfl rfl ?_
   refine Qn 78 rfl rfl rfl ?_
   refine Qn 81 rfl rfl rfl ?_
   refine Qn 81 rfl rfl rfl ?_
   refine Qn 81 rfl rfl rfl ?_
   refine Qn 81 rfl rfl rfl ?_
   refine Qn 81 rfl rfl rfl ?_
   refine Qn 81 rfl rfl rfl ?_
   refine Qn 81 rfl rfl rfl ?_
   refine Qn 78 rfl rfl rfl ?_
   refine oOf 75 hg32 ?_
   refine o_p (Qg rfl rfl hg32 rfl) rfl ?_
   refine aS ?_
   exact oJn 16 91) ?_
 refine aS ?_
 refine Qc rfl (fun h34=>?_) fun h34=>?_
 ·try simp only [Bool.or_eq_true,Bool.and_eq_true,Bool.not_eq_true',decide_eq_false_iff_not,decide_eq_true_eq] at h34
  exfalso;have hq:=h34;simp [he] at hq
 try simp only [Bool.or_eq_false_iff,Bool.and_eq_false_iff,Bool.not_eq_false',decide_eq_true_eq,decide_eq_false_iff_not] at h34
 refine aS4 ?_
 refine o_h (XX rfl QkR rfl (fun w1 h1=>c31 w1 s (by omega))) rfl (fun ⟨⟨ra,rc⟩,RL⟩ hRL=>?_)
 refine aS3 ?_
 refine oAl (fun b35 _=>?_) X3
 refine oSt ?_
 refine aS4 ?_
 refine Qm (L':=[(3,_),(6,_),(9,_),(10,_),(11,_),(12,_),(14,_),(15,_)]) aSx (fun _ h=>h) ?_
 refine aS5 ?_
 refine Xn 5 100 105 _ _ rfl
  (by
   intro hg36
   have hs37:=hg36;try simp only [Bool.not_eq_false',decide_eq_true_eq] at hs37
   refine oOn 100 hg36 ?_
   refine aS ?_
   refine oOn 100 hg36 ?_
   refine aS ?_
   refine oOn 100 hg36 ?_
   refine o_q (Qb rfl QkJ rfl (fun w1 h1=>c23 w1 (Qv s).1.co (Qv s).1.mo (Qv s).1.rm ua ra uc rc UL RL (HS.nt h1 aPk) (HS.nt h1 aPk) (by have h9 : (pln UL).length = _:=congrArg List.length hUL;rw [Qh] at h9;omega) (by have h9 : (pln RL).length = _:=congrArg List.length hRL;rw [Qh] at h9;omega) (by rw [hUL];exact hrs2) (by rw [hRL];exact hrs2) (hUL.trans hRL.symm))) rfl ?_
   refine oOn 100 hg36 ?_
   refine aS ?_
   refine o_p (Qf rfl rfl hg36 rfl) rfl ?_
   refine aS ?_
   exact oJn 5 105)
  (by
   intro hg38
   have hs39:=hg38;try simp only [Bool.not_eq_true',decide_eq_false_iff_not] at hs39
   refine oOf 100 hg38 ?_
   refine oOf 100 hg38 ?_
   refine oOf 100 hg38 ?_
   refine oOf 100 hg38 ?_
   refine o_p (Qg rfl rfl hg38 rfl) rfl ?_
   refine aS ?_
   exact oJn 5 105) ?_
 refine aS ?_
 refine Qc rfl (fun h40=>?_) fun h40=>?_
 ·try simp only [Bool.not_true,Bool.or_eq_true,Bool.not_eq_true',decide_eq_false_iff_not] at h40
  exfalso;have hq:=h40;simp at hq
 try simp only [Bool.not_true,Bool.or_eq_false_iff,Bool.not_eq_false',decide_eq_true_eq] at h40
 refine aS5 ?_
 refine o_q (Qb rfl Qlg rfl (fun w1 h1=>c24 w1 co mo rm a cap L (hs.later h1.nil) hB hkv)) rfl ?_
 rw [if_pos hi,hi]
 refine aS7 ?_
 refine Qc rfl (fun h41=>?_) fun h41=>?_
 ·try simp only [Bool.not_eq_true',decide_eq_false_iff_not] at h41
  exfalso;have hq:=h41;first | exact hi hq | (simp at hq;done) | (simp at hq;exact hi hq)
 try simp only [Bool.not_eq_false',decide_eq_true_eq] at h41
 refine aS7 ?_
 refine Xn 5 119 124 _ _ rfl
  (by
   intro hg42
   have hs43:=hg42;try simp only [Bool.not_eq_false',decide_eq_true_eq] at hs43
   refine oOn 119 hg42 ?_
   refine aS ?_
   refine oOn 119 hg42 ?_
   refine aS ?_
   refine oOn 119 hg42 ?_
   refine o_q (Qb rfl QrU rfl (fun w1 h1=>c32 w1 co mo rm a cap L (hs.later h1.nil) h09 hp9 hbb)) rfl ?_
   refine oOn 119 hg42 ?_
   refine aS ?_
   refine o_p (Qf rfl rfl hg42 rfl) rfl ?_
   refine aS ?_
   exact oJn 5 124)
  (by
   intro hg44
   have hs45:=hg44;try simp only [Bool.not_eq_true',decide_eq_false_iff_not] at hs45
   refine oOf 119 hg44 ?_
   refine oOf 119 hg44 ?_
   refine oOf 119 hg44 ?_
   refine oOf 119 hg44 ?_
   refine o_p (Qg rfl rfl hg44 rfl) rfl ?_
   refine aS ?_
   exact oJn 5 124) ?_
 refine aS ?_
 refine Qc rfl (fun h46=>?_) fun h46=>?_
 ·try simp only [Bool.or_eq_true,Bool.not_eq_true',decide_eq_false_iff_not] at h46
  exfalso;have hq:=h46;simp at hq
 try simp only [Bool.or_eq_false_iff,Bool.not_eq_false',decide_eq_true_eq] at h46
 refine aS4 ?_
 refine o_h (XX rfl QgH rfl (fun w1 h1=>c28 w1 (ZQ (⟨co,mo,rm,pln L⟩ : Tre)) hrl)) rfl (fun ⟨⟨va,vc⟩,VL⟩ hVL=>?_)
 refine aS2 ?_
 rw [hrt]
 have hvl : pln VL = [nth (pln L) 0]:=by have h9 : pln VL = _:=hVL;rw [hrt] at h9;exact h9
 obtain ⟨v9,hv9,hvp⟩:=QjT hvl
 subst hv9
 rw [Xg] at hvp
 have hve : v9.es = (nth L 0).es:=congrArg Nd.es hvp
 have hvc : v9.cs = (nth L 0).cs:=congrArg Nd.cs hvp
 have hsm0 : (nth L 0).es.length ≤ 1000 ∧ (nth L 0).cs.length ≤ 1000:=by have h9:=hsm 0;rwa [Xg] at h9
 refine Qg1 (fun w9 h=>HS.nodes_some (L:=[v9]) (Nat.succ_pos _) h aPk) fun hva=>?_
 obtain ⟨gv,rfl,_,_⟩:=hva
 dsimp only
 refine aS ?_
 refine oAl (fun b47 _=>?_) X3
 refine oSt ?_
 refine aS3 ?_
 refine QL [] Q8 ?_
 refine dP 0 ?_
 refine dP 1 ?_
 refine dP 2 ?_
 apply XG 132
 ·exact rfl
 ·intro hg48
  have hs49:=hg48;try simp only [dT] at hs49
  refine dFo 3 132 hg48 ?_
  refine dQo 4 132 [] hg48 rfl rfl rfl (Yb rfl rfl Zx aPk rfl) ?_
  refine dVo 5 132 hg48 rfl rfl rfl (QM rfl rfl Tryz.underlying35) ?_
  refine dPo 6 132 hg48 ?_
  refine dV 7 rfl (Qg rfl rfl hg48 rfl) ?_
  refine dP 8 ?_
  apply XG 138
  ·exact rfl
  ·intro hg50
   have hs51:=hg50;try simp only [dT] at hs51
   refine dFo 9 138 hg50 ?_
   refine dQo 10 138 [] hg50 rfl rfl rfl (Yb rfl rfl Zx aPk rfl) ?_
   refine dVo 11 138 hg50 rfl rfl rfl (Qa rfl rfl rfl Xm 0 rfl (by omega) rfl) ?_
   refine dQo 12 138 [] hg50 rfl rfl rfl (Qfe _ rfl rfl Xz rfl (fun w9 h=>(show ∀ j v,(LNd.vals v9)[j]? = some v → Rd w9 [] gv (0 + 0 * 3 + j) v from Rw.rd (HS.nt (a:=some ⟨gv,0,none⟩) (L:=[v9]) h aPk).1 (i:=0) (Nat.succ_pos _)))) ?_
   refine dFo 13 138 hg50 ?_
   refine dQo 14 138 [] hg50 rfl rfl rfl (Yb rfl rfl Zx aPk rfl) ?_
   refine dVo 15 138 hg50 rfl rfl rfl (Qa rfl rfl rfl Xm 0 rfl (by omega) (Rw.some hs.1 (by omega))) ?_
   refine dQo 16 138 [] hg50 rfl rfl rfl (QA _ rfl rfl Xz rfl (Rw.rd hs.1 (by omega))) ?_
   refine dQo 17 138 [] hg50 rfl rfl rfl (Qb rfl Qoj rfl (fun w1 h1=>c33 w1 v9 (nth L 0) ((HS.nt (L:=[v9]) h1 aPk).2 v9 (List.mem_cons_self ..)).1 ((HS.nt (L:=[v9]) h1 aPk).2 v9 (List.mem_cons_self ..)).2 ((hs.es h09).later h1) ((hs.cs h09).later h1) (by rw [hve,hvc];omega) (by omega))) ?_
   refine dV 18 rfl (Qg rfl rfl hg50 rfl) ?_
   refine dP 19 ?_
   refine dNi ?_
   exact rT rfl rfl (fun w' h'=>⟨by first | (simp [QV,hvp];done) | (exfalso;simp at *;done),h'.below⟩)
  intro hg52
  have hs53:=hg52;try simp only [dN] at hs53
  exfalso;have hq:=hg52;simp at hq
 intro hg54
 have hs55:=hg54;try simp only [dN] at hs55
 exfalso;have hq:=hg54;simp at hq
set_option maxHeartbeats 1000000 in
theorem c5b (w : World) (co mo rm : Int) (a : Option Addr) (cap : Nat) (L : List LNd) (x : TEnt) (c : Int) (s : List UInt8) (hs : Nt w [] a L) (hfw : Yu (pln L) = true) (hl20 : L.length ≤ 20) (hxl : x.key.length + x.val.length ≤ 120) (h500 : s.length ≤ 500) (he : ¬ Xx x c = 0) (hi : Zu (⟨co,mo,rm,pln L⟩ : Tre) = 0) : Calls Tryz.prog 5 #[.agg #[.int .i64 co,.int .i64 mo,.int .i64 rm,.slice a L.length cap],.agg #[.string (bs x.key),.string (bs x.val),.int .i64 c],.string (bs s)] w fun en w'=>en = .returned (.bool true) ∧ Below w.heap.size w w':=by
 have hB:=QeN hfw
 have hkl:=Qcj hfw
 have hsm:=QeG hfw
 have hle:=hB.len
 rw [Qh] at hle
 have hkv:=ZZ hfw
 obtain ⟨hrs1,hrs2⟩:=QcX s
 have hr9:=Qdg hi
 have h09 : 0 < L.length:=by have:=hr9.1;rwa [show (⟨co,mo,rm,pln L⟩ : Tre).ns = pln L from rfl,Qh] at this
 have hn9:=QgO hi hr9.1 hr9.2.1
 have hp9 : NdP (nth L 0).pl:=by have hq:=hn9.1.ndp (by have:=hn9.2.1;omega);rwa [show (⟨co,mo,rm,pln L⟩ : Tre).ns = pln L from rfl,Xg] at hq
 have hrt:=QeT hi
 have hrl : (ZQ (⟨co,mo,rm,pln L⟩ : Tre)).length ≤ 1000000:=by rw [Qe7];have:=hn9.2.2.1;have h8 : (X6 (nth (⟨co,mo,rm,pln L⟩ : Tre).ns 0)).length ≤ 392:=this;omega
 have hbb : (0 ≤ co ∧ co < 256) ∧ (0 ≤ mo ∧ mo < 256) ∧ 0 ≤ rm ∧ rm < 256:=by have h1:=hr9.2.2.1;have h2:=hr9.2.2.2.1;have h3 : Qr co = 0:=h1;have h4 : Xy mo rm = 0:=h2;unfold Qr at h3;unfold Xy at h4;split at h3;(split at h4;omega;cases h4);cases h3
 refine enter (args:=[_,_,_]) Tryz.func5 Tryz.ntmps5 rfl rfl (HS.refl w []) ?_
 refine aS2 ?_
 refine oBx fun b1 _=>?_
 refine oBx fun b2 _=>?_
 refine aS5 ?_
 refine o_q (Qb rfl QhL rfl (fun w1 h1=>c11 w1)) rfl ?_
 refine aS2 ?_
 refine Qc rfl (fun h3=>?_) fun h3=>?_
 ·try simp only [Bool.not_true] at h3
  exfalso;simp at h3
 try simp only [Bool.not_true] at h3
 refine aS5 ?_
 refine o_q (Qb rfl Qiz rfl (fun w1 h1=>c19 w1 co mo rm a cap L (hs.later h1.nil))) rfl ?_
 refine aS2 ?_
 refine Xn 11 23 34 _ _ rfl
  (by
   intro hg4
   have hs5:=hg4;try simp only [Bool.not_eq_false',Bool.and_eq_true,decide_eq_true_eq] at hs5
   refine oOn 23 hg4 ?_
   refine aS ?_
   refine oOn 23 hg4 ?_
   refine aS ?_
   refine oOn 23 hg4 ?_
   refine aS ?_
   refine oOn 23 hg4 ?_
   refine o_p (Qk rfl rfl Tryz.underlying9) rfl ?_
   refine oOn 23 hg4 ?_
   refine aS ?_
   refine oOn 23 hg4 ?_
   refine aS ?_
   refine oOn 23 hg4 ?_
   refine aS ?_
   refine oOn 23 hg4 ?_
   refine o_p (Qk rfl rfl Tryz.underlying9) rfl ?_
   refine oOn 23 hg4 ?_
   refine aS ?_
   try refine oWr ?_
   refine oOn 23 hg4 ?_
   refine aS ?_
   refine o_p (Qf rfl rfl hg4 rfl) rfl ?_
   refine aS ?_
   exact oJn 11 34)
  (by
   intro hg6
   have hs7:=hg6;try simp only [Bool.not_eq_true',Bool.and_eq_false_iff,decide_eq_false_iff_not] at hs7
   refine oOf 23 hg6 ?_
   refine oOf 23 hg6 ?_
   refine oOf 23 hg6 ?_
   refine oOf 23 hg6 ?_
   refine oOf 23 hg6 ?_
   refine oOf 23 hg6 ?_
   refine oOf 23 hg6 ?_
   refine oOf 23 hg6 ?_
   refine oOf 23 hg6 ?_
   refine oOf 23 hg6 ?_
   refine o_p (Qg rfl rfl hg6 rfl) rfl ?_
   refine aS ?_
   exact oJn 11 34) ?_
 refine aS ?_
 refine Xn 4 35 39 _ _ rfl
  (by
   intro hg8
   have hs9:=hg8;try simp only [Bool.or_eq_false_iff,Bool.not_eq_false',Bool.and_eq_true,decide_eq_true_eq,decide_eq_false_iff_not] at hs9
   refine oOn 35 hg8 ?_
   refine aS ?_
   refine oOn 35 hg8 ?_
   refine o_p (Qk rfl rfl Tryz.underlying9) rfl ?_
   refine oOn 35 hg8 ?_
   refine aS ?_
   refine o_p (Qf rfl rfl hg8 rfl) rfl ?_
   refine aS ?_
   exact oJn 4 39)
  (by
   intro hg10
   have hs11:=hg10;try simp only [Bool.or_eq_true,Bool.not_eq_true',Bool.and_eq_false_iff,decide_eq_false_iff_not,decide_eq_true_eq] at hs11
   refine oOf 35 hg10 ?_
   refine oOf 35 hg10 ?_
   refine oOf 35 hg10 ?_
   refine o_p (Qg rfl rfl hg10 rfl) rfl ?_
   refine aS ?_
   exact oJn 4 39) ?_
 refine aS ?_
 refine Qc rfl (fun h12=>?_) fun h12=>?_
 ·try simp only [Bool.or_eq_true,Bool.not_eq_true',Bool.and_eq_false_iff,decide_eq_false_iff_not,decide_eq_true_eq] at h12
  exfalso;have hq:=h12;simp [hfw] at hq;omega
 try simp only [Bool.or_eq_false_iff,Bool.not_eq_false',Bool.and_eq_true,decide_eq_true_eq,decide_eq_false_iff_not] at h12
 refine aS7 ?_
 refine o_q (Qb rfl Qkx rfl (fun w1 h1=>c26 w1 x c (by omega) (by omega))) rfl ?_
 refine aS9 ?_
 refine o_h (XX rfl QkK rfl (fun w1 h1=>c21 w1 co mo rm a cap L (hs.later h1.nil) hle hsm)) rfl (fun ⟨⟨ga,gc⟩,LC⟩ hLC=>?_)
 refine o_q (Qb rfl QkP rfl (fun w1 h1=>c27 w1 co mo rm ga gc LC (HS.nt h1 aPk) (by rw [hLC];exact hB) (ZZ (by rw [hLC];exact hfw)))) rfl ?_
 rw [hLC]
 refine aS7 ?_
 refine Qm (L':=[(2,_),(3,_),(4,_),(6,_),(7,_),(8,_),(9,_),(10,_)]) aSx (fun _ h=>h) ?_
 refine aS2 ?_
 refine o_h (XX rfl QgH rfl (fun w1 h1=>c28 w1 s (by omega))) rfl (fun ⟨⟨ua,uc⟩,UL⟩ hUL=>?_)
 refine aS3 ?_
 refine oAl (fun b13 _=>?_) X3
 refine oSt ?_
 refine aS9 ?_
 refine o_q (Qb rfl Qir rfl (fun w1 h1=>c29 w1 x c (by omega) (by omega))) rfl ?_
 refine aS ?_
 rw [if_neg he]
 refine aS6 ?_
 refine Xq 8 66 74 _ _ rfl
  (by
   intro hg14
   have hs15:=hg14;try simp only [Bool.not_eq_true',decide_eq_false_iff_not] at hs15
   refine oOn 66 hg14 ?_
   refine aS ?_
   refine oOn 66 hg14 ?_
   refine aS ?_
   refine oOn 66 hg14 ?_
   refine aS ?_
   refine oOn 66 hg14 ?_
   refine aS ?_
   refine Xn 3 70 73 _ _ rfl
    (by
     intro hg16
     have hs17:=hg16;try simp only [Bool.not_eq_false',decide_eq_true_eq] at hs17
     refine oOn 70 hg16 ?_
     refine aS ?_
     refine oOn 70 hg16 ?_
     refine aS ?_
     refine oOn 66 hg14 ?_
     refine o_p (Qf rfl rfl hg16 rfl) rfl ?_
     refine aS ?_
     exact oJn 3 73)
    (by
     intro hg18
     have hs19:=hg18;try simp only [Bool.not_eq_true',decide_eq_false_iff_not] at hs19
     refine oOf 70 hg18 ?_
     refine oOf 70 hg18 ?_
     refine oOn 66 hg14 ?_
     refine o_p (Qg rfl rfl hg18 rfl) rfl ?_
     refine aS ?_
     exact oJn 3 73) ?_
   refine o_p (Qg rfl rfl hg14 rfl) rfl ?_
   refine aS ?_
   exact oJn 6 74)
  (by
   intro hg20
   have hs21:=hg20;try simp only [Bool.not_eq_false',decide_eq_true_eq] at hs21
   refine oOf 66 hg20 ?_
   refine oOf 66 hg20 ?_
   refine oOf 66 hg20 ?_
   refine oOf 66 hg20 ?_
   refine Qn 70 rfl rfl rfl ?_
   refine Qn 70 rfl rfl rfl ?_
   refine oOf 66 hg20 ?_
   refine o_p (Qf rfl rfl hg20 rfl) rfl ?_
   refine aS ?_
   exact oJn 8 74) ?_
 refine aS ?_
 refine Xn 16 75 91 _ _ rfl
  (by
   intro hg22
   have hs23:=hg22;try simp only [Bool.and_eq_false_iff,Bool.not_eq_false',decide_eq_true_eq,Bool.or_eq_false_iff] at hs23
   refine oOn 75 hg22 ?_
   refine aS ?_
   refine oOn 75 hg22 ?_
   refine aS ?_
   refine oOn 75 hg22 ?_
   refine aS ?_
   refine Xq 12 78 90 _ _ rfl
    (by
     intro hg24
     have hs25:=hg24;try simp only [dT] at hs25
     refine oOn 78 hg24 ?_
     refine aS ?_
     refine oOn 78 hg24 ?_
     refine aS ?_
     refine oOn 78 hg24 ?_
     refine aS ?_
     refine Xn 8 81 89 _ _ rfl
      (by
       intro hg26
       have hs27:=hg26;try simp only [Bool.not_eq_false',decide_eq_true_eq] at hs27
       refine oOn 81 hg26 ?_
       refine aS ?_
       refine oOn 81 hg26 ?_
       refine aS ?_
       refine oOn 81 hg26 ?_
       refine aS ?_
       refine oOn 81 hg26 ?_
       refine aS ?_
       refine oOn 81 hg26 ?_
       refine aS ?_
       refine oOn 81 hg26 ?_
       refine o_q (Qb rfl Qjb rfl (fun w1 h1=>c30 w1 x c (by omega) (by omega) (by exfalso;simp_all))) rfl ?_
       refine oOn 81 hg26 ?_
       refine aS ?_
       refine oOn 78 hg24 ?_
       refine o_p (Qf rfl rfl hg26 rfl) rfl ?_
       refine aS ?_
       exact oJn 8 89)
      (by
       intro hg28
       have hs29:=hg28;try simp only [Bool.not_eq_true',decide_eq_false_iff_not] at hs29
       refine oOf 81 hg28 ?_
       refine oOf 81 hg28 ?_
       refine oOf 81 hg28 ?_
       refine oOf 81 hg28 ?_
       refine oOf 81 hg28 ?_
       refine oOf 81 hg28 ?_
       refine oOf 81 hg28 ?_
       refine oOn 78 hg24 ?_
       refine o_p (Qg rfl rfl hg28 rfl) rfl ?_
       refine aS ?_
       exact oJn 8 89) ?_
     refine oOn 75 hg22 ?_
     refine o_p (Qg rfl rfl hg24 rfl) rfl ?_
     refine aS ?_
     exact oJn 5 90)
    (by
     intro hg30
     have hs31:=hg30;try simp only [dN] at hs31
     refine oOf 78 hg30 ?_
     refine oOf 78 hg30 ?_
     refine oOf 78 hg30 ?_
     refine Qn 81 rfl rfl rfl ?_
     refine Qn 81 rfl rfl rfl ?_
     refine Qn 81 rfl rfl rfl ?_
     refine Qn 81 rfl rfl rfl ?_
     refine Qn 81 rfl rfl rfl ?_
     refine Qn 81 rfl rfl rfl ?_
     refine Qn 81 rfl rfl rfl ?_
     refine oOf 78 hg30 ?_
     refine oOn 75 hg22 ?_
     refine o_p (Qf rfl rfl hg30 rfl) rfl ?_
     refine aS ?_
     exact oJn 12 90) ?_
   refine o_p (Qf rfl rfl hg22 rfl) rfl ?_
   refine aS ?_
   exact oJn 5 91)
  (by
   intro hg32
   have hs33:=hg32;try simp only [Bool.and_eq_true,Bool.not_eq_true',decide_eq_false_iff_not,Bool.or_eq_true] at hs33
   refine oOf 75 hg32 ?_
   refine oOf 75 hg32 ?_
   refine oOf 75 hg32 ?_
   refine Qn 78 rfl rfl rfl ?_
   refine Qn 78 rfl rfl rfl ?_
   refine Qn 78 rfl rfl rfl ?_
   refine Qn 81 rfl rfl rfl ?_
   refine Qn 81 rfl rfl rfl ?_
   refine Qn 81 rfl rfl rfl ?_
   refine Qn 81 rfl rfl rfl ?_
   refine Qn 81 rfl rfl rfl ?_
   refine Qn 81 rfl rfl rfl ?_
   refine Qn 81 rfl rfl rfl ?_
   refine Qn 78 rfl rfl rfl ?_
   refine oOf 75 hg32 ?_
   refine o_p (Qg rfl rfl hg32 rfl) rfl ?_
   refine aS ?_
   exact oJn 16 91) ?_
 refine aS ?_
 refine Qc rfl (fun h34=>?_) fun h34=>?_
 ·try simp only [Bool.or_eq_true,Bool.and_eq_true,Bool.not_eq_true',decide_eq_false_iff_not,decide_eq_true_eq] at h34
  exfalso;have hq:=h34;simp [he] at hq
 try simp only [Bool.or_eq_false_iff,Bool.and_eq_false_iff,Bool.not_eq_false',decide_eq_true_eq,decide_eq_false_iff_not] at h34
 refine aS4 ?_
 refine o_h (XX rfl QkR rfl (fun w1 h1=>c31 w1 s (by omega))) rfl (fun ⟨⟨ra,rc⟩,RL⟩ hRL=>?_)
 refine aS3 ?_
 refine oAl (fun b35 _=>?_) X3
 refine oSt ?_
 refine aS4 ?_
 refine Qm (L':=[(3,_),(6,_),(9,_),(10,_),(11,_),(12,_),(14,_),(15,_)]) aSx (fun _ h=>h) ?_
 refine aS5 ?_
 refine Xn 5 100 105 _ _ rfl
  (by
   intro hg36
   have hs37:=hg36;try simp only [Bool.not_eq_false',decide_eq_true_eq] at hs37
   refine oOn 100 hg36 ?_
   refine aS ?_
   refine oOn 100 hg36 ?_
   refine aS ?_
   refine oOn 100 hg36 ?_
   refine o_q (Qb rfl QkJ rfl (fun w1 h1=>c23 w1 (Qv s).1.co (Qv s).1.mo (Qv s).1.rm ua ra uc rc UL RL (HS.nt h1 aPk) (HS.nt h1 aPk) (by have h9 : (pln UL).length = _:=congrArg List.length hUL;rw [Qh] at h9;omega) (by have h9 : (pln RL).length = _:=congrArg List.length hRL;rw [Qh] at h9;omega) (by rw [hUL];exact hrs2) (by rw [hRL];exact hrs2) (hUL.trans hRL.symm))) rfl ?_
   refine oOn 100 hg36 ?_
   refine aS ?_
   refine o_p (Qf rfl rfl hg36 rfl) rfl ?_
   refine aS ?_
   exact oJn 5 105)
  (by
   intro hg38
   have hs39:=hg38;try simp only [Bool.not_eq_true',decide_eq_false_iff_not] at hs39
   refine oOf 100 hg38 ?_
   refine oOf 100 hg38 ?_
   refine oOf 100 hg38 ?_
   refine oOf 100 hg38 ?_
   refine o_p (Qg rfl rfl hg38 rfl) rfl ?_
   refine aS ?_
   exact oJn 5 105) ?_
 refine aS ?_
 refine Qc rfl (fun h40=>?_) fun h40=>?_
 ·try simp only [Bool.not_true,Bool.or_eq_true,Bool.not_eq_true',decide_eq_false_iff_not] at h40
  exfalso;have hq:=h40;simp at hq
 try simp only [Bool.not_true,Bool.or_eq_false_iff,Bool.not_eq_false',decide_eq_true_eq] at h40
 refine aS5 ?_
 refine o_q (Qb rfl Qlg rfl (fun w1 h1=>c24 w1 co mo rm a cap L (hs.later h1.nil) hB hkv)) rfl ?_
 rw [if_pos hi,hi]
 refine aS7 ?_
 refine Qc rfl (fun h41=>?_) fun h41=>?_
 ·try simp only [Bool.not_eq_true',decide_eq_false_iff_not] at h41
  exfalso;have hq:=h41;first | exact hi hq | (simp at hq;done) | (simp at hq;exact hi hq)
 try simp only [Bool.not_eq_false',decide_eq_true_eq] at h41
 refine aS7 ?_
 refine Xn 5 119 124 _ _ rfl
  (by
   intro hg42
   have hs43:=hg42;try simp only [Bool.not_eq_false',decide_eq_true_eq] at hs43
   refine oOn 119 hg42 ?_
   refine aS ?_
   refine oOn 119 hg42 ?_
   refine aS ?_
   refine oOn 119 hg42 ?_
   refine o_q (Qb rfl QrU rfl (fun w1 h1=>c32 w1 co mo rm a cap L (hs.later h1.nil) h09 hp9 hbb)) rfl ?_
   refine oOn 119 hg42 ?_
   refine aS ?_
   refine o_p (Qf rfl rfl hg42 rfl) rfl ?_
   refine aS ?_
   exact oJn 5 124)
  (by
   intro hg44
   have hs45:=hg44;try simp only [Bool.not_eq_true',decide_eq_false_iff_not] at hs45
   refine oOf 119 hg44 ?_
   refine oOf 119 hg44 ?_
   refine oOf 119 hg44 ?_
   refine oOf 119 hg44 ?_
   refine o_p (Qg rfl rfl hg44 rfl) rfl ?_
   refine aS ?_
   exact oJn 5 124) ?_
 refine aS ?_
 refine Qc rfl (fun h46=>?_) fun h46=>?_
 ·try simp only [Bool.or_eq_true,Bool.not_eq_true',decide_eq_false_iff_not] at h46
  exfalso;have hq:=h46;simp at hq
 try simp only [Bool.or_eq_false_iff,Bool.not_eq_false',decide_eq_true_eq] at h46
 refine aS4 ?_
 refine o_h (XX rfl QgH rfl (fun w1 h1=>c28 w1 (ZQ (⟨co,mo,rm,pln L⟩ : Tre)) hrl)) rfl (fun ⟨⟨va,vc⟩,VL⟩ hVL=>?_)
 refine aS2 ?_
 rw [hrt]
 have hvl : pln VL = [nth (pln L) 0]:=by have h9 : pln VL = _:=hVL;rw [hrt] at h9;exact h9
 obtain ⟨v9,hv9,hvp⟩:=QjT hvl
 subst hv9
 rw [Xg] at hvp
 have hve : v9.es = (nth L 0).es:=congrArg Nd.es hvp
 have hvc : v9.cs = (nth L 0).cs:=congrArg Nd.cs hvp
 have hsm0 : (nth L 0).es.length ≤ 1000 ∧ (nth L 0).cs.length ≤ 1000:=by have h9:=hsm 0;rwa [Xg] at h9
 refine Qg1 (fun w9 h=>HS.nodes_some (L:=[v9]) (Nat.succ_pos _) h aPk) fun hva=>?_
 obtain ⟨gv,rfl,_,_⟩:=hva
 dsimp only
 refine aS ?_
 refine oAl (fun b47 _=>?_) X3
 refine oSt ?_
 refine aS3 ?_
 refine QL [] Q8 ?_
 refine dP 0 ?_
 refine dP 1 ?_
 refine dP 2 ?_
 apply XG 132
 ·exact rfl
 ·intro hg48
  have hs49:=hg48;try simp only [dT] at hs49
  refine dFo 3 132 hg48 ?_
  refine dQo 4 132 [] hg48 rfl rfl rfl (Yb rfl rfl Zx aPk rfl) ?_
  refine dVo 5 132 hg48 rfl rfl rfl (QM rfl rfl Tryz.underlying35) ?_
  refine dPo 6 132 hg48 ?_
  refine dV 7 rfl (Qg rfl rfl hg48 rfl) ?_
  refine dP 8 ?_
  apply XG 138
  ·exact rfl
  ·intro hg50
   have hs51:=hg50;try simp only [dT] at hs51
   refine dFo 9 138 hg50 ?_
   refine dQo 10 138 [] hg50 rfl rfl rfl (Yb rfl rfl Zx aPk rfl) ?_
   refine dVo 11 138 hg50 rfl rfl rfl (Qa rfl rfl rfl Xm 0 rfl (by omega) rfl) ?_
   refine dQo 12 138 [] hg50 rfl rfl rfl (Qfe _ rfl rfl Xz rfl (fun w9 h=>(show ∀ j v,(LNd.vals v9)[j]? = some v → Rd w9 [] gv (0 + 0 * 3 + j) v from Rw.rd (HS.nt (a:=some ⟨gv,0,none⟩) (L:=[v9]) h aPk).1 (i:=0) (Nat.succ_pos _)))) ?_
   refine dFo 13 138 hg50 ?_
   refine dQo 14 138 [] hg50 rfl rfl rfl (Yb rfl rfl Zx aPk rfl) ?_
   refine dVo 15 138 hg50 rfl rfl rfl (Qa rfl rfl rfl Xm 0 rfl (by omega) (Rw.some hs.1 (by omega))) ?_
   refine dQo 16 138 [] hg50 rfl rfl rfl (QA _ rfl rfl Xz rfl (Rw.rd hs.1 (by omega))) ?_
   refine dQo 17 138 [] hg50 rfl rfl rfl (Qb rfl Qoj rfl (fun w1 h1=>c33 w1 v9 (nth L 0) ((HS.nt (L:=[v9]) h1 aPk).2 v9 (List.mem_cons_self ..)).1 ((HS.nt (L:=[v9]) h1 aPk).2 v9 (List.mem_cons_self ..)).2 ((hs.es h09).later h1) ((hs.cs h09).later h1) (by rw [hve,hvc];omega) (by omega))) ?_
   refine dV 18 rfl (Qg rfl rfl hg50 rfl) ?_
   refine dP 19 ?_
   refine dNi ?_
   exact rT rfl rfl (fun w' h'=>⟨by first | (simp [QV,hvp];done) | (exfalso;simp at *;done),h'.below⟩)
  intro hg52
  have hs53:=hg52;try simp only [dN] at hs53
  exfalso;have hq:=hg52;simp at hq
 intro hg54
 have hs55:=hg54;try simp only [dN] at hs55
 exfalso;have hq:=hg54;simp at hq
set_option maxHeartbeats 1000000 in
theorem c5c (w : World) (co mo rm : Int) (a : Option Addr) (cap : Nat) (L : List LNd) (x : TEnt) (c : Int) (s : List UInt8) (hs : Nt w [] a L) (hfw : Yu (pln L) = true) (hl20 : L.length ≤ 20) (hxl : x.key.length + x.val.length ≤ 120) (h500 : s.length ≤ 500) (he : Xx x c = 0) (hi : ¬ Zu (⟨co,mo,rm,pln L⟩ : Tre) = 0) : Calls Tryz.prog 5 #[.agg #[.int .i64 co,.int .i64 mo,.int .i64 rm,.slice a L.length cap],.agg #[.string (bs x.key),.string (bs x.val),.int .i64 c],.string (bs s)] w fun en w'=>en = .returned (.bool true) ∧ Below w.heap.size w w':=by
 have hB:=QeN hfw
 have hkl:=Qcj hfw
 have hsm:=QeG hfw
 have hle:=hB.len
 rw [Qh] at hle
 have hkv:=ZZ hfw
 obtain ⟨hrs1,hrs2⟩:=QcX s
 have hc9 : x.key.length ≤ 300 ∧ x.val.length ≤ 300 ∧ 0 ≤ c ∧ c < 4294967296:=by have hq:=he;unfold Xx at hq;split at hq;(split at hq;(split at hq;omega;cases hq);cases hq);cases hq
 refine enter (args:=[_,_,_]) Tryz.func5 Tryz.ntmps5 rfl rfl (HS.refl w []) ?_
 refine aS2 ?_
 refine oBx fun b1 _=>?_
 refine oBx fun b2 _=>?_
 refine aS5 ?_
 refine o_q (Qb rfl QhL rfl (fun w1 h1=>c11 w1)) rfl ?_
 refine aS2 ?_
 refine Qc rfl (fun h3=>?_) fun h3=>?_
 ·try simp only [Bool.not_true] at h3
  exfalso;simp at h3
 try simp only [Bool.not_true] at h3
 refine aS5 ?_
 refine o_q (Qb rfl Qiz rfl (fun w1 h1=>c19 w1 co mo rm a cap L (hs.later h1.nil))) rfl ?_
 refine aS2 ?_
 refine Xn 11 23 34 _ _ rfl
  (by
   intro hg4
   have hs5:=hg4;try simp only [Bool.not_eq_false',Bool.and_eq_true,decide_eq_true_eq] at hs5
   refine oOn 23 hg4 ?_
   refine aS ?_
   refine oOn 23 hg4 ?_
   refine aS ?_
   refine oOn 23 hg4 ?_
   refine aS ?_
   refine oOn 23 hg4 ?_
   refine o_p (Qk rfl rfl Tryz.underlying9) rfl ?_
   refine oOn 23 hg4 ?_
   refine aS ?_
   refine oOn 23 hg4 ?_
   refine aS ?_
   refine oOn 23 hg4 ?_
   refine aS ?_
   refine oOn 23 hg4 ?_
   refine o_p (Qk rfl rfl Tryz.underlying9) rfl ?_
   refine oOn 23 hg4 ?_
   refine aS ?_
   try refine oWr ?_
   refine oOn 23 hg4 ?_
   refine aS ?_
   refine o_p (Qf rfl rfl hg4 rfl) rfl ?_
   refine aS ?_
   exact oJn 11 34)
  (by
   intro hg6
   have hs7:=hg6;try simp only [Bool.not_eq_true',Bool.and_eq_false_iff,decide_eq_false_iff_not] at hs7
   refine oOf 23 hg6 ?_
   refine oOf 23 hg6 ?_
   refine oOf 23 hg6 ?_
   refine oOf 23 hg6 ?_
   refine oOf 23 hg6 ?_
   refine oOf 23 hg6 ?_
   refine oOf 23 hg6 ?_
   refine oOf 23 hg6 ?_
   refine oOf 23 hg6 ?_
   refine oOf 23 hg6 ?_
   refine o_p (Qg rfl rfl hg6 rfl) rfl ?_
   refine aS ?_
   exact oJn 11 34) ?_
 refine aS ?_
 refine Xn 4 35 39 _ _ rfl
  (by
   intro hg8
   have hs9:=hg8;try simp only [Bool.or_eq_false_iff,Bool.not_eq_false',Bool.and_eq_true,decide_eq_true_eq,decide_eq_false_iff_not] at hs9
   refine oOn 35 hg8 ?_
   refine aS ?_
   refine oOn 35 hg8 ?_
   refine o_p (Qk rfl rfl Tryz.underlying9) rfl ?_
   refine oOn 35 hg8 ?_
   refine aS ?_
   refine o_p (Qf rfl rfl hg8 rfl) rfl ?_
   refine aS ?_
   exact oJn 4 39)
  (by
   intro hg10
   have hs11:=hg10;try simp only [Bool.or_eq_true,Bool.not_eq_true',Bool.and_eq_false_iff,decide_eq_false_iff_not,decide_eq_true_eq] at hs11
   refine oOf 35 hg10 ?_
   refine oOf 35 hg10 ?_
   refine oOf 35 hg10 ?_
   refine o_p (Qg rfl rfl hg10 rfl) rfl ?_
   refine aS ?_
   exact oJn 4 39) ?_
 refine aS ?_
 refine Qc rfl (fun h12=>?_) fun h12=>?_
 ·try simp only [Bool.or_eq_true,Bool.not_eq_true',Bool.and_eq_false_iff,decide_eq_false_iff_not,decide_eq_true_eq] at h12
  exfalso;have hq:=h12;simp [hfw] at hq;omega
 try simp only [Bool.or_eq_false_iff,Bool.not_eq_false',Bool.and_eq_true,decide_eq_true_eq,decide_eq_false_iff_not] at h12
 refine aS7 ?_
 refine o_q (Qb rfl Qkx rfl (fun w1 h1=>c26 w1 x c (by omega) (by omega))) rfl ?_
 refine aS9 ?_
 refine o_h (XX rfl QkK rfl (fun w1 h1=>c21 w1 co mo rm a cap L (hs.later h1.nil) hle hsm)) rfl (fun ⟨⟨ga,gc⟩,LC⟩ hLC=>?_)
 refine o_q (Qb rfl QkP rfl (fun w1 h1=>c27 w1 co mo rm ga gc LC (HS.nt h1 aPk) (by rw [hLC];exact hB) (ZZ (by rw [hLC];exact hfw)))) rfl ?_
 rw [hLC]
 refine aS7 ?_
 refine Qm (L':=[(2,_),(3,_),(4,_),(6,_),(7,_),(8,_),(9,_),(10,_)]) aSx (fun _ h=>h) ?_
 refine aS2 ?_
 refine o_h (XX rfl QgH rfl (fun w1 h1=>c28 w1 s (by omega))) rfl (fun ⟨⟨ua,uc⟩,UL⟩ hUL=>?_)
 refine aS3 ?_
 refine oAl (fun b13 _=>?_) X3
 refine oSt ?_
 refine aS9 ?_
 refine o_q (Qb rfl Qir rfl (fun w1 h1=>c29 w1 x c (by omega) (by omega))) rfl ?_
 refine aS ?_
 rw [if_pos he,he]
 refine aS6 ?_
 refine Xq 8 66 74 _ _ rfl
  (by
   intro hg14
   have hs15:=hg14;try simp only [Bool.not_eq_true',decide_eq_false_iff_not] at hs15
   refine oOn 66 hg14 ?_
   refine aS ?_
   refine oOn 66 hg14 ?_
   refine aS ?_
   refine oOn 66 hg14 ?_
   refine aS ?_
   refine oOn 66 hg14 ?_
   refine aS ?_
   refine Xn 3 70 73 _ _ rfl
    (by
     intro hg16
     have hs17:=hg16;try simp only [Bool.not_eq_false',decide_eq_true_eq] at hs17
     refine oOn 70 hg16 ?_
     refine aS ?_
     refine oOn 70 hg16 ?_
     refine aS ?_
     refine oOn 66 hg14 ?_
     refine o_p (Qf rfl rfl hg16 rfl) rfl ?_
     refine aS ?_
     exact oJn 3 73)
    (by
     intro hg18
     have hs19:=hg18;try simp only [Bool.not_eq_true',decide_eq_false_iff_not] at hs19
     refine oOf 70 hg18 ?_
     refine oOf 70 hg18 ?_
     refine oOn 66 hg14 ?_
     refine o_p (Qg rfl rfl hg18 rfl) rfl ?_
     refine aS ?_
     exact oJn 3 73) ?_
   refine o_p (Qg rfl rfl hg14 rfl) rfl ?_
   refine aS ?_
   exact oJn 6 74)
  (by
   intro hg20
   have hs21:=hg20;try simp only [Bool.not_eq_false',decide_eq_true_eq] at hs21
   refine oOf 66 hg20 ?_
   refine oOf 66 hg20 ?_
   refine oOf 66 hg20 ?_
   refine oOf 66 hg20 ?_
   refine Qn 70 rfl rfl rfl ?_
   refine Qn 70 rfl rfl rfl ?_
   refine oOf 66 hg20 ?_
   refine o_p (Qf rfl rfl hg20 rfl) rfl ?_
   refine aS ?_
   exact oJn 8 74) ?_
 refine aS ?_
 refine Xn 16 75 91 _ _ rfl
  (by
   intro hg22
   have hs23:=hg22;try simp only [Bool.and_eq_false_iff,Bool.not_eq_false',decide_eq_true_eq,Bool.or_eq_false_iff] at hs23
   refine oOn 75 hg22 ?_
   refine aS ?_
   refine oOn 75 hg22 ?_
   refine aS ?_
   refine oOn 75 hg22 ?_
   refine aS ?_
   refine Xq 12 78 90 _ _ rfl
    (by
     intro hg24
     have hs25:=hg24;try simp only [dT] at hs25
     refine oOn 78 hg24 ?_
     refine aS ?_
     refine oOn 78 hg24 ?_
     refine aS ?_
     refine oOn 78 hg24 ?_
     refine aS ?_
     refine Xn 8 81 89 _ _ rfl
      (by
       intro hg26
       have hs27:=hg26;try simp only [Bool.not_eq_false',decide_eq_true_eq] at hs27
       refine oOn 81 hg26 ?_
       refine aS ?_
       refine oOn 81 hg26 ?_
       refine aS ?_
       refine oOn 81 hg26 ?_
       refine aS ?_
       refine oOn 81 hg26 ?_
       refine aS ?_
       refine oOn 81 hg26 ?_
       refine aS ?_
       refine oOn 81 hg26 ?_
       refine o_q (Qb rfl Qjb rfl (fun w1 h1=>c30 w1 x c hc9.1 hc9.2.1 hc9.2.2)) rfl ?_
       refine oOn 81 hg26 ?_
       refine aS ?_
       refine oOn 78 hg24 ?_
       refine o_p (Qf rfl rfl hg26 rfl) rfl ?_
       refine aS ?_
       exact oJn 8 89)
      (by
       intro hg28
       have hs29:=hg28;try simp only [Bool.not_eq_true',decide_eq_false_iff_not] at hs29
       refine oOf 81 hg28 ?_
       refine oOf 81 hg28 ?_
       refine oOf 81 hg28 ?_
       refine oOf 81 hg28 ?_
       refine oOf 81 hg28 ?_
       refine oOf 81 hg28 ?_
       refine oOf 81 hg28 ?_
       refine oOn 78 hg24 ?_
       refine o_p (Qg rfl rfl hg28 rfl) rfl ?_
       refine aS ?_
       exact oJn 8 89) ?_
     refine oOn 75 hg22 ?_
     refine o_p (Qg rfl rfl hg24 rfl) rfl ?_
     refine aS ?_
     exact oJn 5 90)
    (by
     intro hg30
     have hs31:=hg30;try simp only [dN] at hs31
     refine oOf 78 hg30 ?_
     refine oOf 78 hg30 ?_
     refine oOf 78 hg30 ?_
     refine Qn 81 rfl rfl rfl ?_
     refine Qn 81 rfl rfl rfl ?_
     refine Qn 81 rfl rfl rfl ?_
     refine Qn 81 rfl rfl rfl ?_
     refine Qn 81 rfl rfl rfl ?_
     refine Qn 81 rfl rfl rfl ?_
     refine Qn 81 rfl rfl rfl ?_
     refine oOf 78 hg30 ?_
     refine oOn 75 hg22 ?_
     refine o_p (Qf rfl rfl hg30 rfl) rfl ?_
     refine aS ?_
     exact oJn 12 90) ?_
   refine o_p (Qf rfl rfl hg22 rfl) rfl ?_
   refine aS ?_
   exact oJn 5 91)
  (by
   intro hg32
   have hs33:=hg32;try simp only [Bool.and_eq_true,Bool.not_eq_true',decide_eq_false_iff_not,Bool.or_eq_true] at hs33
   refine oOf 75 hg32 ?_
   refine oOf 75 hg32 ?_
   refine oOf 75 hg32 ?_
   refine Qn 78 rfl rfl rfl ?_
   refine Qn 78 rfl rfl rfl ?_
   refine Qn 78 rfl rfl rfl ?_
   refine Qn 81 rfl rfl rfl ?_
   refine Qn 81 rfl rfl rfl ?_
   refine Qn 81 rfl rfl rfl ?_
   refine Qn 81 rfl rfl rfl ?_
   refine Qn 81 rfl rfl rfl ?_
   refine Qn 81 rfl rfl rfl ?_
   refine Qn 81 rfl rfl rfl ?_
   refine Qn 78 rfl rfl rfl ?_
   refine oOf 75 hg32 ?_
   refine o_p (Qg rfl rfl hg32 rfl) rfl ?_
   refine aS ?_
   exact oJn 16 91) ?_
 refine aS ?_
 refine Qc rfl (fun h34=>?_) fun h34=>?_
 ·try simp only [Bool.or_eq_true,Bool.and_eq_true,Bool.not_eq_true',decide_eq_false_iff_not,decide_eq_true_eq] at h34
  exfalso;have hq:=h34;simp [he] at hq
 try simp only [Bool.or_eq_false_iff,Bool.and_eq_false_iff,Bool.not_eq_false',decide_eq_true_eq,decide_eq_false_iff_not] at h34
 refine aS4 ?_
 refine o_h (XX rfl QkR rfl (fun w1 h1=>c31 w1 s (by omega))) rfl (fun ⟨⟨ra,rc⟩,RL⟩ hRL=>?_)
 refine aS3 ?_
 refine oAl (fun b35 _=>?_) X3
 refine oSt ?_
 refine aS4 ?_
 refine Qm (L':=[(3,_),(6,_),(9,_),(10,_),(11,_),(12,_),(14,_),(15,_)]) aSx (fun _ h=>h) ?_
 refine aS5 ?_
 refine Xn 5 100 105 _ _ rfl
  (by
   intro hg36
   have hs37:=hg36;try simp only [Bool.not_eq_false',decide_eq_true_eq] at hs37
   refine oOn 100 hg36 ?_
   refine aS ?_
   refine oOn 100 hg36 ?_
   refine aS ?_
   refine oOn 100 hg36 ?_
   refine o_q (Qb rfl QkJ rfl (fun w1 h1=>c23 w1 (Qv s).1.co (Qv s).1.mo (Qv s).1.rm ua ra uc rc UL RL (HS.nt h1 aPk) (HS.nt h1 aPk) (by have h9 : (pln UL).length = _:=congrArg List.length hUL;rw [Qh] at h9;omega) (by have h9 : (pln RL).length = _:=congrArg List.length hRL;rw [Qh] at h9;omega) (by rw [hUL];exact hrs2) (by rw [hRL];exact hrs2) (hUL.trans hRL.symm))) rfl ?_
   refine oOn 100 hg36 ?_
   refine aS ?_
   refine o_p (Qf rfl rfl hg36 rfl) rfl ?_
   refine aS ?_
   exact oJn 5 105)
  (by
   intro hg38
   have hs39:=hg38;try simp only [Bool.not_eq_true',decide_eq_false_iff_not] at hs39
   refine oOf 100 hg38 ?_
   refine oOf 100 hg38 ?_
   refine oOf 100 hg38 ?_
   refine oOf 100 hg38 ?_
   refine o_p (Qg rfl rfl hg38 rfl) rfl ?_
   refine aS ?_
   exact oJn 5 105) ?_
 refine aS ?_
 refine Qc rfl (fun h40=>?_) fun h40=>?_
 ·try simp only [Bool.not_true,Bool.or_eq_true,Bool.not_eq_true',decide_eq_false_iff_not] at h40
  exfalso;have hq:=h40;simp at hq
 try simp only [Bool.not_true,Bool.or_eq_false_iff,Bool.not_eq_false',decide_eq_true_eq] at h40
 refine aS5 ?_
 refine o_q (Qb rfl Qlg rfl (fun w1 h1=>c24 w1 co mo rm a cap L (hs.later h1.nil) hB hkv)) rfl ?_
 rw [if_neg hi]
 refine aS7 ?_
 refine Qc rfl (fun h41=>?_) fun h41=>?_
 ·try simp only [Bool.not_eq_true',decide_eq_false_iff_not] at h41
  refine aS6 ?_
  refine Xq 3 113 116 _ _ rfl
   (by
    intro hg42
    have hs43:=hg42;try simp only [dT] at hs43
    refine oOn 113 hg42 ?_
    refine aS ?_
    refine oOn 113 hg42 ?_
    refine aS ?_
    refine o_p (Qg rfl rfl hg42 rfl) rfl ?_
    refine aS ?_
    exact oJn 3 116)
   (by
    intro hg44
    have hs45:=hg44;try simp only [dN] at hs45
    refine oOf 113 hg44 ?_
    refine oOf 113 hg44 ?_
    refine o_p (Qf rfl rfl hg44 rfl) rfl ?_
    refine aS ?_
    exact oJn 3 116) ?_
  refine aS2 ?_
  exact rT rfl rfl (fun w' h'=>⟨by simp [QV],h'.below⟩)
 try simp only [Bool.not_eq_false',decide_eq_true_eq] at h41
 exfalso;have hq:=h41;first | exact hi hq | (simp at hq;done) | (simp at hq;exact hi hq)
set_option maxHeartbeats 1000000 in
theorem c5d (w : World) (co mo rm : Int) (a : Option Addr) (cap : Nat) (L : List LNd) (x : TEnt) (c : Int) (s : List UInt8) (hs : Nt w [] a L) (hfw : Yu (pln L) = true) (hl20 : L.length ≤ 20) (hxl : x.key.length + x.val.length ≤ 120) (h500 : s.length ≤ 500) (he : ¬ Xx x c = 0) (hi : ¬ Zu (⟨co,mo,rm,pln L⟩ : Tre) = 0) : Calls Tryz.prog 5 #[.agg #[.int .i64 co,.int .i64 mo,.int .i64 rm,.slice a L.length cap],.agg #[.string (bs x.key),.string (bs x.val),.int .i64 c],.string (bs s)] w fun en w'=>en = .returned (.bool true) ∧ Below w.heap.size w w':=by
 have hB:=QeN hfw
 have hkl:=Qcj hfw
 have hsm:=QeG hfw
 have hle:=hB.len
 rw [Qh] at hle
 have hkv:=ZZ hfw
 obtain ⟨hrs1,hrs2⟩:=QcX s
 refine enter (args:=[_,_,_]) Tryz.func5 Tryz.ntmps5 rfl rfl (HS.refl w []) ?_
 refine aS2 ?_
 refine oBx fun b1 _=>?_
 refine oBx fun b2 _=>?_
 refine aS5 ?_
 refine o_q (Qb rfl QhL rfl (fun w1 h1=>c11 w1)) rfl ?_
 refine aS2 ?_
 refine Qc rfl (fun h3=>?_) fun h3=>?_
 ·try simp only [Bool.not_true] at h3
  exfalso;simp at h3
 try simp only [Bool.not_true] at h3
 refine aS5 ?_
 refine o_q (Qb rfl Qiz rfl (fun w1 h1=>c19 w1 co mo rm a cap L (hs.later h1.nil))) rfl ?_
 refine aS2 ?_
 refine Xn 11 23 34 _ _ rfl
  (by
   intro hg4
   have hs5:=hg4;try simp only [Bool.not_eq_false',Bool.and_eq_true,decide_eq_true_eq] at hs5
   refine oOn 23 hg4 ?_
   refine aS ?_
   refine oOn 23 hg4 ?_
   refine aS ?_
   refine oOn 23 hg4 ?_
   refine aS ?_
   refine oOn 23 hg4 ?_
   refine o_p (Qk rfl rfl Tryz.underlying9) rfl ?_
   refine oOn 23 hg4 ?_
   refine aS ?_
   refine oOn 23 hg4 ?_
   refine aS ?_
   refine oOn 23 hg4 ?_
   refine aS ?_
   refine oOn 23 hg4 ?_
   refine o_p (Qk rfl rfl Tryz.underlying9) rfl ?_
   refine oOn 23 hg4 ?_
   refine aS ?_
   try refine oWr ?_
   refine oOn 23 hg4 ?_
   refine aS ?_
   refine o_p (Qf rfl rfl hg4 rfl) rfl ?_
   refine aS ?_
   exact oJn 11 34)
  (by
   intro hg6
   have hs7:=hg6;try simp only [Bool.not_eq_true',Bool.and_eq_false_iff,decide_eq_false_iff_not] at hs7
   refine oOf 23 hg6 ?_
   refine oOf 23 hg6 ?_
   refine oOf 23 hg6 ?_
   refine oOf 23 hg6 ?_
   refine oOf 23 hg6 ?_
   refine oOf 23 hg6 ?_
   refine oOf 23 hg6 ?_
   refine oOf 23 hg6 ?_
   refine oOf 23 hg6 ?_
   refine oOf 23 hg6 ?_
   refine o_p (Qg rfl rfl hg6 rfl) rfl ?_
   refine aS ?_
   exact oJn 11 34) ?_
 refine aS ?_
 refine Xn 4 35 39 _ _ rfl
  (by
   intro hg8
   have hs9:=hg8;try simp only [Bool.or_eq_false_iff,Bool.not_eq_false',Bool.and_eq_true,decide_eq_true_eq,decide_eq_false_iff_not] at hs9
   refine oOn 35 hg8 ?_
   refine aS ?_
   refine oOn 35 hg8 ?_
   refine o_p (Qk rfl rfl Tryz.underlying9) rfl ?_
   refine oOn 35 hg8 ?_
   refine aS ?_
   refine o_p (Qf rfl rfl hg8 rfl) rfl ?_
   refine aS ?_
   exact oJn 4 39)
  (by
   intro hg10
   have hs11:=hg10;try simp only [Bool.or_eq_true,Bool.not_eq_true',Bool.and_eq_false_iff,decide_eq_false_iff_not,decide_eq_true_eq] at hs11
   refine oOf 35 hg10 ?_
   refine oOf 35 hg10 ?_
   refine oOf 35 hg10 ?_
   refine o_p (Qg rfl rfl hg10 rfl) rfl ?_
   refine aS ?_
   exact oJn 4 39) ?_
 refine aS ?_
 refine Qc rfl (fun h12=>?_) fun h12=>?_
 ·try simp only [Bool.or_eq_true,Bool.not_eq_true',Bool.and_eq_false_iff,decide_eq_false_iff_not,decide_eq_true_eq] at h12
  exfalso;have hq:=h12;simp [hfw] at hq;omega
 try simp only [Bool.or_eq_false_iff,Bool.not_eq_false',Bool.and_eq_true,decide_eq_true_eq,decide_eq_false_iff_not] at h12
 refine aS7 ?_
 refine o_q (Qb rfl Qkx rfl (fun w1 h1=>c26 w1 x c (by omega) (by omega))) rfl ?_
 refine aS9 ?_
 refine o_h (XX rfl QkK rfl (fun w1 h1=>c21 w1 co mo rm a cap L (hs.later h1.nil) hle hsm)) rfl (fun ⟨⟨ga,gc⟩,LC⟩ hLC=>?_)
 refine o_q (Qb rfl QkP rfl (fun w1 h1=>c27 w1 co mo rm ga gc LC (HS.nt h1 aPk) (by rw [hLC];exact hB) (ZZ (by rw [hLC];exact hfw)))) rfl ?_
 rw [hLC]
 refine aS7 ?_
 refine Qm (L':=[(2,_),(3,_),(4,_),(6,_),(7,_),(8,_),(9,_),(10,_)]) aSx (fun _ h=>h) ?_
 refine aS2 ?_
 refine o_h (XX rfl QgH rfl (fun w1 h1=>c28 w1 s (by omega))) rfl (fun ⟨⟨ua,uc⟩,UL⟩ hUL=>?_)
 refine aS3 ?_
 refine oAl (fun b13 _=>?_) X3
 refine oSt ?_
 refine aS9 ?_
 refine o_q (Qb rfl Qir rfl (fun w1 h1=>c29 w1 x c (by omega) (by omega))) rfl ?_
 refine aS ?_
 rw [if_neg he]
 refine aS6 ?_
 refine Xq 8 66 74 _ _ rfl
  (by
   intro hg14
   have hs15:=hg14;try simp only [Bool.not_eq_true',decide_eq_false_iff_not] at hs15
   refine oOn 66 hg14 ?_
   refine aS ?_
   refine oOn 66 hg14 ?_
   refine aS ?_
   refine oOn 66 hg14 ?_
   refine aS ?_
   refine oOn 66 hg14 ?_
   refine aS ?_
   refine Xn 3 70 73 _ _ rfl
    (by
     intro hg16
     have hs17:=hg16;try simp only [Bool.not_eq_false',decide_eq_true_eq] at hs17
     refine oOn 70 hg16 ?_
     refine aS ?_
     refine oOn 70 hg16 ?_
     refine aS ?_
     refine oOn 66 hg14 ?_
     refine o_p (Qf rfl rfl hg16 rfl) rfl ?_
     refine aS ?_
     exact oJn 3 73)
    (by
     intro hg18
     have hs19:=hg18;try simp only [Bool.not_eq_true',decide_eq_false_iff_not] at hs19
     refine oOf 70 hg18 ?_
     refine oOf 70 hg18 ?_
     refine oOn 66 hg14 ?_
     refine o_p (Qg rfl rfl hg18 rfl) rfl ?_
     refine aS ?_
     exact oJn 3 73) ?_
   refine o_p (Qg rfl rfl hg14 rfl) rfl ?_
   refine aS ?_
   exact oJn 6 74)
  (by
   intro hg20
   have hs21:=hg20;try simp only [Bool.not_eq_false',decide_eq_true_eq] at hs21
   refine oOf 66 hg20 ?_
   refine oOf 66 hg20 ?_
   refine oOf 66 hg20 ?_
   refine oOf 66 hg20 ?_
   refine Qn 70 rfl rfl rfl ?_
   refine Qn 70 rfl rfl rfl ?_
   refine oOf 66 hg20 ?_
   refine o_p (Qf rfl rfl hg20 rfl) rfl ?_
   refine aS ?_
   exact oJn 8 74) ?_
 refine aS ?_
 refine Xn 16 75 91 _ _ rfl
  (by
   intro hg22
   have hs23:=hg22;try simp only [Bool.and_eq_false_iff,Bool.not_eq_false',decide_eq_true_eq,Bool.or_eq_false_iff] at hs23
   refine oOn 75 hg22 ?_
   refine aS ?_
   refine oOn 75 hg22 ?_
   refine aS ?_
   refine oOn 75 hg22 ?_
   refine aS ?_
   refine Xq 12 78 90 _ _ rfl
    (by
     intro hg24
     have hs25:=hg24;try simp only [dT] at hs25
     refine oOn 78 hg24 ?_
     refine aS ?_
     refine oOn 78 hg24 ?_
     refine aS ?_
     refine oOn 78 hg24 ?_
     refine aS ?_
     refine Xn 8 81 89 _ _ rfl
      (by
       intro hg26
       have hs27:=hg26;try simp only [Bool.not_eq_false',decide_eq_true_eq] at hs27
       refine oOn 81 hg26 ?_
       refine aS ?_
       refine oOn 81 hg26 ?_
       refine aS ?_
       refine oOn 81 hg26 ?_
       refine aS ?_
       refine oOn 81 hg26 ?_
       refine aS ?_
       refine oOn 81 hg26 ?_
       refine aS ?_
       refine oOn 81 hg26 ?_
       refine o_q (Qb rfl Qjb rfl (fun w1 h1=>c30 w1 x c (by omega) (by omega) (by exfalso;simp_all))) rfl ?_
       refine oOn 81 hg26 ?_
       refine aS ?_
       refine oOn 78 hg24 ?_
       refine o_p (Qf rfl rfl hg26 rfl) rfl ?_
       refine aS ?_
       exact oJn 8 89)
      (by
       intro hg28
       have hs29:=hg28;try simp only [Bool.not_eq_true',decide_eq_false_iff_not] at hs29
       refine oOf 81 hg28 ?_
       refine oOf 81 hg28 ?_
       refine oOf 81 hg28 ?_
       refine oOf 81 hg28 ?_
       refine oOf 81 hg28 ?_
       refine oOf 81 hg28 ?_
       refine oOf 81 hg28 ?_
       refine oOn 78 hg24 ?_
       refine o_p (Qg rfl rfl hg28 rfl) rfl ?_
       refine aS ?_
       exact oJn 8 89) ?_
     refine oOn 75 hg22 ?_
     refine o_p (Qg rfl rfl hg24 rfl) rfl ?_
     refine aS ?_
     exact oJn 5 90)
    (by
     intro hg30
     have hs31:=hg30;try simp only [dN] at hs31
     refine oOf 78 hg30 ?_
     refine oOf 78 hg30 ?_
     refine oOf 78 hg30 ?_
     refine Qn 81 rfl rfl rfl ?_
     refine Qn 81 rfl rfl rfl ?_
     refine Qn 81 rfl rfl rfl ?_
     refine Qn 81 rfl rfl rfl ?_
     refine Qn 81 rfl rfl rfl ?_
     refine Qn 81 rfl rfl rfl ?_
     refine Qn 81 rfl rfl rfl ?_
     refine oOf 78 hg30 ?_
     refine oOn 75 hg22 ?_
     refine o_p (Qf rfl rfl hg30 rfl) rfl ?_
     refine aS ?_
     exact oJn 12 90) ?_
   refine o_p (Qf rfl rfl hg22 rfl) rfl ?_
   refine aS ?_
   exact oJn 5 91)
  (by
   intro hg32
   have hs33:=hg32;try simp only [Bool.and_eq_true,Bool.not_eq_true',decide_eq_false_iff_not,Bool.or_eq_true] at hs33
   refine oOf 75 hg32 ?_
   refine oOf 75 hg32 ?_
   refine oOf 75 hg32 ?_
   refine Qn 78 rfl rfl rfl ?_
   refine Qn 78 rfl rfl rfl ?_
   refine Qn 78 rfl rfl rfl ?_
   refine Qn 81 rfl rfl rfl ?_
   refine Qn 81 rfl rfl rfl ?_
   refine Qn 81 rfl rfl rfl ?_
   refine Qn 81 rfl rfl rfl ?_
   refine Qn 81 rfl rfl rfl ?_
   refine Qn 81 rfl rfl rfl ?_
   refine Qn 81 rfl rfl rfl ?_
   refine Qn 78 rfl rfl rfl ?_
   refine oOf 75 hg32 ?_
   refine o_p (Qg rfl rfl hg32 rfl) rfl ?_
   refine aS ?_
   exact oJn 16 91) ?_
 refine aS ?_
 refine Qc rfl (fun h34=>?_) fun h34=>?_
 ·try simp only [Bool.or_eq_true,Bool.and_eq_true,Bool.not_eq_true',decide_eq_false_iff_not,decide_eq_true_eq] at h34
  exfalso;have hq:=h34;simp [he] at hq
 try simp only [Bool.or_eq_false_iff,Bool.and_eq_false_iff,Bool.not_eq_false',decide_eq_true_eq,decide_eq_false_iff_not] at h34
 refine aS4 ?_
 refine o_h (XX rfl QkR rfl (fun w1 h1=>c31 w1 s (by omega))) rfl (fun ⟨⟨ra,rc⟩,RL⟩ hRL=>?_)
 refine aS3 ?_
 refine oAl (fun b35 _=>?_) X3
 refine oSt ?_
 refine aS4 ?_
 refine Qm (L':=[(3,_),(6,_),(9,_),(10,_),(11,_),(12,_),(14,_),(15,_)]) aSx (fun _ h=>h) ?_
 refine aS5 ?_
 refine Xn 5 100 105 _ _ rfl
  (by
   intro hg36
   have hs37:=hg36;try simp only [Bool.not_eq_false',decide_eq_true_eq] at hs37
   refine oOn 100 hg36 ?_
   refine aS ?_
   refine oOn 100 hg36 ?_
   refine aS ?_
   refine oOn 100 hg36 ?_
   refine o_q (Qb rfl QkJ rfl (fun w1 h1=>c23 w1 (Qv s).1.co (Qv s).1.mo (Qv s).1.rm ua ra uc rc UL RL (HS.nt h1 aPk) (HS.nt h1 aPk) (by have h9 : (pln UL).length = _:=congrArg List.length hUL;rw [Qh] at h9;omega) (by have h9 : (pln RL).length = _:=congrArg List.length hRL;rw [Qh] at h9;omega) (by rw [hUL];exact hrs2) (by rw [hRL];exact hrs2) (hUL.trans hRL.symm))) rfl ?_
   refine oOn 100 hg36 ?_
   refine aS ?_
   refine o_p (Qf rfl rfl hg36 rfl) rfl ?_
   refine aS ?_
   exact oJn 5 105)
  (by
   intro hg38
   have hs39:=hg38;try simp only [Bool.not_eq_true',decide_eq_false_iff_not] at hs39
   refine oOf 100 hg38 ?_
   refine oOf 100 hg38 ?_
   refine oOf 100 hg38 ?_
   refine oOf 100 hg38 ?_
   refine o_p (Qg rfl rfl hg38 rfl) rfl ?_
   refine aS ?_
   exact oJn 5 105) ?_
 refine aS ?_
 refine Qc rfl (fun h40=>?_) fun h40=>?_
 ·try simp only [Bool.not_true,Bool.or_eq_true,Bool.not_eq_true',decide_eq_false_iff_not] at h40
  exfalso;have hq:=h40;simp at hq
 try simp only [Bool.not_true,Bool.or_eq_false_iff,Bool.not_eq_false',decide_eq_true_eq] at h40
 refine aS5 ?_
 refine o_q (Qb rfl Qlg rfl (fun w1 h1=>c24 w1 co mo rm a cap L (hs.later h1.nil) hB hkv)) rfl ?_
 rw [if_neg hi]
 refine aS7 ?_
 refine Qc rfl (fun h41=>?_) fun h41=>?_
 ·try simp only [Bool.not_eq_true',decide_eq_false_iff_not] at h41
  refine aS6 ?_
  refine Xq 3 113 116 _ _ rfl
   (by
    intro hg42
    have hs43:=hg42;try simp only [dT] at hs43
    refine oOn 113 hg42 ?_
    refine aS ?_
    refine oOn 113 hg42 ?_
    refine aS ?_
    refine o_p (Qg rfl rfl hg42 rfl) rfl ?_
    refine aS ?_
    exact oJn 3 116)
   (by
    intro hg44
    have hs45:=hg44;try simp only [dN] at hs45
    refine oOf 113 hg44 ?_
    refine oOf 113 hg44 ?_
    refine o_p (Qf rfl rfl hg44 rfl) rfl ?_
    refine aS ?_
    exact oJn 3 116) ?_
  refine aS2 ?_
  exact rT rfl rfl (fun w' h'=>⟨by simp [QV],h'.below⟩)
 try simp only [Bool.not_eq_false',decide_eq_true_eq] at h41
 exfalso;have hq:=h41;first | exact hi hq | (simp at hq;done) | (simp at hq;exact hi hq)
theorem c5z (w : World) (co mo rm : Int) (a : Option Addr) (cap : Nat) (L : List LNd) (x : TEnt) (c : Int) (s : List UInt8) (hs : Nt w [] a L) (hkw : x.key.length + x.val.length ≤ 1000000000000000) (hz : ¬ ((Yu (pln L) = true ∧ L.length ≤ 20) ∧ (x.key.length + x.val.length ≤ 120 ∧ s.length ≤ 500))) : Calls Tryz.prog 5 #[.agg #[.int .i64 co,.int .i64 mo,.int .i64 rm,.slice a L.length cap],.agg #[.string (bs x.key),.string (bs x.val),.int .i64 c],.string (bs s)] w fun en w'=>en = .returned (.bool true) ∧ Below w.heap.size w w':=by
 refine enter (args:=[_,_,_]) Tryz.func5 Tryz.ntmps5 rfl rfl (HS.refl w []) ?_
 refine aS2 ?_
 refine oBx fun b1 _=>?_
 refine oBx fun b2 _=>?_
 refine aS5 ?_
 refine o_q (Qb rfl QhL rfl (fun w1 h1=>c11 w1)) rfl ?_
 refine aS2 ?_
 refine Qc rfl (fun h3=>?_) fun h3=>?_
 ·try simp only [Bool.not_true] at h3
  exfalso;simp at h3
 try simp only [Bool.not_true] at h3
 refine aS5 ?_
 refine o_q (Qb rfl Qiz rfl (fun w1 h1=>c19 w1 co mo rm a cap L (hs.later h1.nil))) rfl ?_
 refine aS2 ?_
 refine Xn 11 23 34 _ _ rfl
  (by
   intro hg4
   have hs5:=hg4;try simp only [Bool.not_eq_false',Bool.and_eq_true,decide_eq_true_eq] at hs5
   refine oOn 23 hg4 ?_
   refine aS ?_
   refine oOn 23 hg4 ?_
   refine aS ?_
   refine oOn 23 hg4 ?_
   refine aS ?_
   refine oOn 23 hg4 ?_
   refine o_p (Qk rfl rfl Tryz.underlying9) rfl ?_
   refine oOn 23 hg4 ?_
   refine aS ?_
   refine oOn 23 hg4 ?_
   refine aS ?_
   refine oOn 23 hg4 ?_
   refine aS ?_
   refine oOn 23 hg4 ?_
   refine o_p (Qk rfl rfl Tryz.underlying9) rfl ?_
   refine oOn 23 hg4 ?_
   refine aS ?_
   try refine oWr ?_
   refine oOn 23 hg4 ?_
   refine aS ?_
   refine o_p (Qf rfl rfl hg4 rfl) rfl ?_
   refine aS ?_
   exact oJn 11 34)
  (by
   intro hg6
   have hs7:=hg6;try simp only [Bool.not_eq_true',Bool.and_eq_false_iff,decide_eq_false_iff_not] at hs7
   refine oOf 23 hg6 ?_
   refine oOf 23 hg6 ?_
   refine oOf 23 hg6 ?_
   refine oOf 23 hg6 ?_
   refine oOf 23 hg6 ?_
   refine oOf 23 hg6 ?_
   refine oOf 23 hg6 ?_
   refine oOf 23 hg6 ?_
   refine oOf 23 hg6 ?_
   refine oOf 23 hg6 ?_
   refine o_p (Qg rfl rfl hg6 rfl) rfl ?_
   refine aS ?_
   exact oJn 11 34) ?_
 refine aS ?_
 refine Xn 4 35 39 _ _ rfl
  (by
   intro hg8
   have hs9:=hg8;try simp only [Bool.or_eq_false_iff,Bool.not_eq_false',Bool.and_eq_true,decide_eq_true_eq,decide_eq_false_iff_not] at hs9
   refine oOn 35 hg8 ?_
   refine aS ?_
   refine oOn 35 hg8 ?_
   refine o_p (Qk rfl rfl Tryz.underlying9) rfl ?_
   refine oOn 35 hg8 ?_
   refine aS ?_
   refine o_p (Qf rfl rfl hg8 rfl) rfl ?_
   refine aS ?_
   exact oJn 4 39)
  (by
   intro hg10
   have hs11:=hg10;try simp only [Bool.or_eq_true,Bool.not_eq_true',Bool.and_eq_false_iff,decide_eq_false_iff_not,decide_eq_true_eq] at hs11
   refine oOf 35 hg10 ?_
   refine oOf 35 hg10 ?_
   refine oOf 35 hg10 ?_
   refine o_p (Qg rfl rfl hg10 rfl) rfl ?_
   refine aS ?_
   exact oJn 4 39) ?_
 refine aS ?_
 refine Qc rfl (fun h12=>?_) fun h12=>?_
 ·try simp only [Bool.or_eq_true,Bool.not_eq_true',Bool.and_eq_false_iff,decide_eq_false_iff_not,decide_eq_true_eq] at h12
  refine aS4 ?_
  exact rT rfl rfl (fun w' h'=>⟨by rfl,h'.below⟩)
 try simp only [Bool.or_eq_false_iff,Bool.not_eq_false',Bool.and_eq_true,decide_eq_true_eq,decide_eq_false_iff_not] at h12
 exfalso;have hq:=h12;exact hz ⟨⟨hq.1.1.1,by have:=hq.1.1.2;omega⟩,by have:=hq.1.2;omega,by have:=hq.2;omega⟩
theorem c5 (w : World) (co mo rm : Int) (a : Option Addr) (cap : Nat) (L : List LNd) (x : TEnt) (c : Int) (s : List UInt8) (hs : Nt w [] a L) (hkw : x.key.length + x.val.length ≤ 1000000000000000) : Calls Tryz.prog 5 #[.agg #[.int .i64 co,.int .i64 mo,.int .i64 rm,.slice a L.length cap],.agg #[.string (bs x.key),.string (bs x.val),.int .i64 c],.string (bs s)] w fun en w'=>en = .returned (.bool true) ∧ Below w.heap.size w w':=by
  by_cases hz : ((Yu (pln L) = true ∧ L.length ≤ 20) ∧ (x.key.length + x.val.length ≤ 120 ∧ s.length ≤ 500))
  · obtain ⟨⟨h1,h2⟩,h3,h4⟩:=hz
    by_cases he : Xx x c = 0
    · by_cases hi : Zu (⟨co,mo,rm,pln L⟩ : Tre) = 0
      · exact c5a w co mo rm a cap L x c s hs h1 h2 h3 h4 he hi
      · exact c5c w co mo rm a cap L x c s hs h1 h2 h3 h4 he hi
    · by_cases hi : Zu (⟨co,mo,rm,pln L⟩ : Tre) = 0
      · exact c5b w co mo rm a cap L x c s hs h1 h2 h3 h4 he hi
      · exact c5d w co mo rm a cap L x c s hs h1 h2 h3 h4 he hi
  · exact c5z w co mo rm a cap L x c s hs hkw hz
end Go.Proofs
